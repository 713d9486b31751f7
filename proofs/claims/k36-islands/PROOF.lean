import PyProof.Rows.All
import Wide.All
import OpenK.AllK
import Wide.FinOn
import HandS.ForMost
import HandS.GenOver
import HandS.AnyAll
import HandS.GenList
import HandS.Flow
import HandS.TupAny
import HandS.Style
import HandS.IsInst
import HandS.TupMul
import KE.DataIsa
import KE.DataFind
import KE.DataMinMax
import HandS.NoneIn
import HandS.Zip
import HandS.Rev
import HandS.RevTup
import HandS.Conv
import HandS.SetFor
import HandS.WordsDict
import KE.GoesMore
import HandS.EndOwn
import KE.SortData
import PySem.Challenge.RW_coastlit_k36_whole_islands
set_option Elab.async false
set_option linter.all false
set_option maxRecDepth 100000
set_option maxHeartbeats 2000000
namespace Gx
open PySem PySem.Spec PyProof.Rows L2

abbrev frameObj : Obj := { cls := .type "frame", data := .dict #[] }

/-- a generator's frame: its cells, and the walked thing at .0 -/
theorem newEnv_gen {M : Model} {A : Around} {E : Value → Shared → Prop} {s : Shared} {scope : Scope} {globals : Addr} {closure : List (Str × Addr)} {it : Value} {qual : Str} {code : Value} {bi : Addr} {Q : Env → Shared → Prop}
    (hk : scope.kind = .function) (h0 : scope.names.lookup (".0" : Str) = some NameKind.local)
    (h : ∀ h' tk, h'.Ns s.heap.objs.size (fun y => if y = ".0" then some it else none) →
      Heap.SameBut s.heap.objs.size (pushCells (s.heap.push frameObj) scope.names) h' →
      Q (newEnv scope s.heap.objs.size globals (cellsFrom (s.heap.objs.size + 1) scope.names closure) qual none code none bi) { s with heap := h', toks := tk }) :
    wpAny M A (newFunctionEnv scope globals closure [(".0", it)] qual none code none bi) Q E s := by
  simp only [newFunctionEnv, Option.isSome_none, Bool.false_eq_true, if_false]
  refine wpAny_bind (wpAny_alloc ?_)
  refine wpAny_bind (wpAny_layCells _ (fun n k c => rfl) scope.names closure _ _ ?_)
  rw [show ({ s with heap := s.heap.push frameObj } : Shared).heap.objs.size = s.heap.objs.size + 1 from Heap.size_push ..]
  rw [List.forIn_cons]
  have hn : (pushCells (s.heap.push frameObj) scope.names).Ns s.heap.objs.size (fun _ => none) :=
    (Heap.Ns.new s.heap (.type "frame")).keeps (pushCells_keeps _ _)
  refine wpAny_bind (wpAny_bind (wpAny_bind (wpAny_storeName_local (m := fun _ => none) (by exact h0) (by exact hn) (fun h' hn' hs => ?_) (by simp [hk]))))
  refine wpAny_pure ?_
  simp only [List.forIn_nil]
  exact wpAny_pure (wpAny_pure (h _ _ hn' hs))

/-- making the generator -/
theorem genexp_make {M : Model} {A : Around} {E : Value → Shared → Prop} {s : Shared} {env : Env} {elt target iter : Expr} {ifs : List Expr} {scope : Scope} {cl : List (Str × Addr)} {pos : Pos} {Q : Value → Shared → Prop}
    (hco : scope.isCoroutine = false) (hclos : closureFor scope env = pure cl) (h0 : scope.names.lookup (".0" : Str) = some NameKind.local) (hk : scope.kind = .function) (hroom : A.depth < recursionLimit)
    (h : wpAny M A (eval iter env) (fun xv s₁ => wpAny M A (pyIter xv) (fun it s₂ => s₂.heap.NoLimit ∧
      wpAny M A (genexprCode env pos (env.qual ++ "<genexpr>") scope) (fun code s₃ => wpAny M A (builtinsFor env.globals env.builtins) (fun bi s₄ =>
        ∀ h' tk go, h'.Ns s₄.heap.objs.size (fun y => if y = ".0" then some it else none) →
          Heap.SameBut s₄.heap.objs.size (pushCells (s₄.heap.push frameObj) scope.names) h' →
          go.cls = .type "generator" → (∃ nm qn, go.data = .fields #[.int s₄.gens.size 0, nm, qn]) → go.slots = #[] →
          (∀ hh : Heap, (hh.push go).get? hh.objs.size = some go) →
          Q (.ref h'.objs.size) { s₄ with
            gens := s₄.gens.push (.fresh (.compStart (.GeneratorExp elt [⟨target, iter, ifs, 0⟩] scope pos) 0 it .none
              (newEnv scope s₄.heap.objs.size env.globals (cellsFrom (s₄.heap.objs.size + 1) scope.names cl) (env.qual ++ "<genexpr>.") none code none bi))),
            toks := tk, heap := h'.push go }) E s₃) E s₂) E s₁) E s)
    (hs : ∀ x, genFold iter env x = pure x) :
    wpAny M A (eval (.GeneratorExp elt [⟨target, iter, ifs, 0⟩] scope pos) env) Q E s := by
  rw [eval_GeneratorExp1 _ _ _ _ _ _ _ hco, hclos]
  refine wpAny_bind (wpAny_mono h (fun xv s₁ h₁ => ?_) fun _ _ e => e)
  refine wpAny_bind (wpAny_standAt (wpAny_bind (wpAny_of_eq (hs xv) ?_)))
  refine wpAny_bind (wpAny_holding (wpAny_mono h₁ (fun it s₂ h₂ => ?_) fun _ _ e => e))
  refine wpAny_bind (wpAny_enterFrame h₂.1 hroom (wpAny_bind (wpAny_pure ?_)))
  refine wpAny_bind (wpAny_mono h₂.2 (fun code s₃ h₃ => ?_) fun _ _ e => e)
  refine wpAny_bind (wpAny_mono h₃ (fun bi s₄ h₄ => ?_) fun _ _ e => e)
  refine wpAny_bind (newEnv_gen hk h0 fun h' tk hn' hs' => ?_)
  simp only [newGenerator, newFields]
  refine wpAny_bind (wpAny_newGen (wpAny_bind (wpAny_mkText (wpAny_bind (wpAny_mkText (wpAny_newObj_type ?_ (by size_fits)))))))
  exact h₄ h' _ _ hn' hs' rfl ⟨_, _, rfl⟩ rfl fun hh => Heap.get?_push_size _ rfl
end Gx

set_option maxRecDepth 100000
set_option maxHeartbeats 2000000
namespace Gx
open PySem PySem.Spec PyProof.Rows L2

/-- the context of a generator's body -/
abbrev gX (X : Cx) (s : Shared) (H : Hp) (scope : Scope) (ce : Env) (fp : List Addr) (A' : Around) (pn : List (Addr × Obj)) : Cx :=
  { X with
    s_0 := s
    H_0 := H
    env := ce
    outer := X.stack
    stack := ce :: X.stack
    A := A'
    ex := fp
    fn := fun x => scope.names.lookup x == some .cell
    pn := pn
    xe := fun _ _ => False }

/-- what is known of a generator's environment -/
structure GEnvOk (X : Cx) (s : Shared) (scope : Scope) (ce : Env) : Prop where
  loc : ce.locals = s.heap.objs.size
  scp : ce.scope = scope
  glb : ce.globals = X.env.globals
  bi : ce.builtins = builtinsNs
  frm : ce.frame = some s.heap.objs.size
  cel : ce.cells = cellsFrom (s.heap.objs.size + 1) scope.names (cloFrom X.env.cells scope.names [])

section
variable {X : Cx} {pins : List (Addr × Obj)} {σ : L2.St} {H : Hp} {s : Shared}

theorem gen_start {scope : Scope} {own : List (Str × Nat)} {fp : List Addr} {ce : Env} {A' : Around} {pn : List (Addr × Obj)} {s5 : Shared} {m0 : Str → Option Value}
    (I : Inv X pins σ H s) (ok : BlkOk X.N X.env.scope scope own) (hN : X.N.Nodup)
    (hfp : ∀ b ∈ fp, FpOk X pins H b ∧ b < s.heap.objs.size)
    (G : GEnvOk X s scope ce) (hA : A'.frames = some (ce :: X.stack)) (hh : X.calm = true → A'.handled = none)
    (os5 : s5.os = s.os) (ba5 : AllBare s5.gens)
    (k5 : ∀ b o, b ≠ s.heap.objs.size → (pushCells (s.heap.push frameObj) scope.names).get? b = some o → s5.heap.get? b = some o)
    (n5 : s5.heap.Ns s.heap.objs.size m0)
    (hpn : ∀ p ∈ pn, s5.heap.get? p.1 = some p.2 ∧ H p.1 = none ∧ p.1 ≠ s.heap.objs.size ∧ p.1 ∉ frs X.stack ∧ ∀ v, p.2.data ≠ .cell v) :
    Inv (gX X s H scope ce fp A' pn) [] (wipe σ (own.map (·.2))) H s5 := by
  obtain ⟨gl, gs, gg, gb, gf, gc⟩ := G
  have hfree : ∀ y ∈ scope.names, y.2 = .free → ∃ c, X.env.cells.lookup y.1 = some c := by
    intro y hy e
    rcases ok.free y hy e with k | k
    · exact I.ok.has _ (.inl k)
    · exact I.ok.has _ (.inr k)
  have kp : ∀ b o, s.heap.get? b = some o → s5.heap.get? b = some o := by
    intro b o e
    exact k5 b o (Nat.ne_of_lt (Heap.lt_size e)) (pushCells_keeps _ _ _ _ (Heap.get?_push_of_some _ e))
  have gc2 : ce.cells = cellsFrom (s.heap.push frameObj).objs.size scope.names (cloFrom X.env.cells scope.names []) := by
    rw [gc, Heap.size_push]
  have cm : ∀ {y c}, (y, c) ∈ cloFrom X.env.cells scope.names [] → X.env.cells.lookup y = some c ∧ c < s.heap.objs.size := by
    intro y c hm
    rcases cloFrom_mem hm with hm | ⟨h1, rfl⟩
    · cases hm
    · obtain ⟨c, hc⟩ := hfree _ h1 rfl
      rw [hc]
      obtain ⟨w, z⟩ := I.cell _ _ hc
      exact ⟨rfl, z.lt⟩
  have cellUp : ∀ {c v}, c ≠ s.heap.objs.size → CellAt (pushCells (s.heap.push frameObj) scope.names) c v → CellAt s5.heap c v := by
    intro c v hne h
    obtain ⟨o, e, r⟩ := h
    exact ⟨o, k5 _ _ hne e, r⟩
  have mem : ∀ {y c}, ce.cells.lookup y = some c → (X.env.cells.lookup y = some c ∧ c < s.heap.objs.size) ∨ (s.heap.objs.size + 1 ≤ c ∧ CellAt s5.heap c none) := by
    intro y c e
    rw [gc2] at e
    rcases cells_mem (PySem.mem_of_lookup e) with hm | ⟨_, h2, h3⟩
    · exact .inl (cm hm)
    · rw [Heap.size_push] at h2
      exact .inr ⟨h2, cellUp (Nat.ne_of_gt h2) h3⟩
  have look : ∀ {y}, scope.names.lookup y = some .free → ∃ c, ce.cells.lookup y = some c ∧ X.env.cells.lookup y = some c := by
    intro y hl
    have hy : (y, NameKind.free) ∈ scope.names := PySem.mem_of_lookup hl
    obtain ⟨c', e'⟩ := mem_lookup (cells_acc (names := scope.names) (n := (s.heap.push frameObj).objs.size) (cloFrom_has (cells := X.env.cells) (acc := []) hy))
    rw [← gc2] at e'
    refine ⟨c', e', ?_⟩
    rw [gc2] at e'
    rcases cells_mem (PySem.mem_of_lookup e') with hm | ⟨h1, _, _⟩
    · exact (cm hm).1
    · have q := ok.uniq _ h1
      rw [hl] at q
      cases q
  have okG : (gX X s H scope ce fp A' pn).Ok := by
    constructor
    · exact I.ok.mod
    · show ce.scope.kind = _
      rw [gs]; exact ok.kind
    · show ce.globals = _
      rw [gg]; exact I.ok.glob
    · exact gb
    · show s.heap.objs.size ≤ ce.locals
      rw [gl]; exact Nat.le_refl _
    · intro y z c e1 e2
      have e1 : ce.cells.lookup y = some c := e1
      have e2 : ce.cells.lookup z = some c := e2
      rw [gc2] at e1 e2
      refine cells_inj (fun p hp => ?_) (fun y z c a b => I.ok.inj y z c (cm a).1 (cm b).1) (PySem.mem_of_lookup e1) (PySem.mem_of_lookup e2)
      rw [Heap.size_push]
      exact Nat.lt_succ_of_lt (cm (y := p.1) (c := p.2) hp).2
    · intro y hy
      show ∃ c, ce.cells.lookup y = some c
      have key : ∀ k, ce.scope.names.lookup y = some k → (k = .cell ∨ k = .free) → ∃ c, ce.cells.lookup y = some c := by
        intro k hk hk'
        rw [gs] at hk
        rcases hk' with rfl | rfl
        · obtain ⟨c, hm⟩ := cells_has (n := (s.heap.push frameObj).objs.size) (acc := cloFrom X.env.cells scope.names []) (PySem.mem_of_lookup hk)
          obtain ⟨c', e'⟩ := mem_lookup hm
          exact ⟨c', by rw [gc2]; exact e'⟩
        · obtain ⟨c, h1, _⟩ := look hk
          exact ⟨c, h1⟩
      rcases hy with hy | hy
      · exact key _ hy (.inl rfl)
      · exact key _ hy (.inr rfl)
    · intro y c z e
      have z : (scope.names.lookup y == some NameKind.cell) = true := z
      have z : scope.names.lookup y = some .cell := by simpa using z
      have e : ce.cells.lookup y = some c := e
      show s.heap.objs.size ≤ c
      rcases mem e with ⟨h1, _⟩ | ⟨h1, _⟩
      · rw [gc2] at e
        rcases cells_mem (PySem.mem_of_lookup e) with hm | ⟨_, h2, _⟩
        · rcases cloFrom_mem hm with hm | ⟨h1, _⟩
          · cases hm
          · have q := ok.uniq _ h1
            rw [z] at q
            cases q
        · rw [Heap.size_push] at h2
          exact Nat.le_of_succ_le h2
      · exact Nat.le_of_succ_le h1
    · exact hh
    · exact hA
    · exact .inr ⟨rfl, by show ce.frame = some ce.locals; rw [gf, gl]⟩
    · intro b hb
      refine ⟨?_, fun y c e z => ?_⟩
      · show b ≠ ce.locals
        rw [gl]; exact Nat.ne_of_lt (hfp b hb).2
      · have e : ce.cells.lookup y = some c := e
        rcases mem e with ⟨h1, _⟩ | ⟨h1, _⟩
        · exact (hfp b hb).1.2.2.2.2.1 y c h1 z
        · have h2 : s.heap.objs.size + 1 ≤ b := by rw [← z]; exact h1
          exact absurd (Nat.lt_of_lt_of_le (hfp b hb).2 (Nat.le_of_succ_le h2)) (Nat.lt_irrefl _)
    · exact I.bs
    · exact Nat.le_trans I.ok.bsz I.sz
    · intro b o e hb
      rcases (hfp b hb).1.2.2.2.1 with z | z
      · exact I.ok.noex b o e z
      · exact absurd (Nat.lt_of_lt_of_le (Heap.lt_size e) (Nat.le_trans I.ok.bsz z)) (Nat.lt_irrefl _)
    · intro b hb z
      rcases List.mem_cons.mp (I.stkSub b z) with z | z
      · exact (hfp b hb).1.2.1 z
      · exact (hfp b hb).1.2.2.1 z
    · exact I.stack
    · exact I.stkFree
  refine ⟨okG, os5, ba5, Un.kept kp, ⟨m0, ?_, fun i y av e1 e2 e3 => ?_⟩, fun y c e => ?_, ?_, fun y c e => ?_, fun p hp => ?_, I.hok.kept kp, by rw [wipe_length]; exact I.len⟩
  · show Heap.Ns _ ce.locals _
    rw [gl]; exact n5
  · obtain ⟨e2, hne⟩ := wipe_some e2
    have hfr : scope.names.lookup y = some .free := by
      have key : ∀ k, ce.scope.names.lookup y = some k → (k = .local ∨ k = .cell ∨ k = .free) → scope.names.lookup y = some .free := by
        intro k hk hk'
        rw [gs] at hk
        have no : ¬ (k = .local ∨ k = .cell) := by
          intro hc
          rcases ok.own _ (PySem.mem_of_lookup hk) hc with e' | e'
          · obtain ⟨p, hp, hpy⟩ := List.mem_map.mp e'
            have e3 := ok.ix p hp
            have hpy' : p.1 = y := hpy
            rw [hpy'] at e3
            exact hne (List.mem_map.mpr ⟨p, hp, nodup_ix hN e3 e1⟩)
          · exact e' (List.mem_of_getElem? e1)
        rcases hk' with rfl | rfl | rfl
        · exact absurd (.inl rfl) no
        · exact absurd (.inr rfl) no
        · exact hk
      have e3 : Vis ce.scope y := e3
      rcases e3 with e3 | e3 | e3
      · exact key _ e3 (.inl rfl)
      · exact key _ e3 (.inr (.inl rfl))
      · exact key _ e3 (.inr (.inr rfl))
    obtain ⟨m, hn, hl⟩ := I.loc
    have hfk := ok.free _ (PySem.mem_of_lookup hfr) rfl
    have hvis : Vis X.env.scope y := hfk.elim (fun k => .inr (.inl k)) (fun k => .inr (.inr k))
    obtain ⟨w, r, q⟩ := hl i y av e1 e2 hvis
    refine ⟨w, r, .inr ⟨.inr (by show ce.scope.names.lookup y = _; rw [gs]; exact hfr), ?_⟩⟩
    obtain ⟨c, h1, h2⟩ := look hfr
    rcases q with ⟨k, _⟩ | ⟨_, c', e', z⟩
    · have k : X.env.scope.names.lookup y = some .local := k
      rcases hfk with k' | k' <;> (rw [show X.env.scope.names.lookup y = _ from k'] at k; cases k)
    · rw [h2] at e'
      cases e'
      exact ⟨c, h1, z.keeps kp⟩
  · have e : ce.cells.lookup y = some c := e
    rcases mem e with ⟨h1, _⟩ | ⟨_, z⟩
    · obtain ⟨w, z⟩ := I.cell y c h1
      exact ⟨w, z.keeps kp⟩
    · exact ⟨_, z⟩
  · show H ce.locals = none
    rw [gl]; exact I.hok.fresh (Nat.le_refl _)
  · have e : ce.cells.lookup y = some c := e
    rcases mem e with ⟨h1, _⟩ | ⟨h1, _⟩
    · exact I.freeC y c h1
    · exact I.hok.fresh (Nat.le_of_succ_le h1)
  · have hp : p ∈ pn ++ [] := hp
    rw [List.append_nil] at hp
    obtain ⟨h1, h2, h3, h4, h5⟩ := hpn p hp
    exact ⟨h1, h2, by show p.1 ≠ ce.locals; rw [gl]; exact h3, h4, h5⟩
end
end Gx

set_option maxRecDepth 100000
set_option maxHeartbeats 2000000
namespace Gx
open PySem PySem.Spec PyProof.Rows L2

/-- the same heap, other generators -/
theorem inv_reheap {X : Cx} {pins : List (Addr × Obj)} {σ : L2.St} {H : Hp} {s s' : Shared} (I : Inv X pins σ H s) (hh : s'.heap = s.heap) (ho : s'.os = s.os) (hb : AllBare s'.gens) : Inv X pins σ H s' := by
  obtain ⟨h', g', d', t', o'⟩ := s'
  have hh : h' = s.heap := hh
  have ho : o' = s.os := ho
  subst hh ho
  exact ⟨I.ok, I.os, hb, I.base, I.loc, I.cell, I.free, I.freeC, I.pin, I.hok, I.len⟩

/-- what a turn of the generator brings; kb: the truth at which the consumer stops -/
def Turns (K : PySem.W.Frag) (kb : Bool) (g : TG) (tt : TT) (te : TE) (vs : List Nat) (σ : L2.St) (J : It) (Q : VK) (W : Nat → Nat → Hp → Prop) : Prop :=
  ∀ i m H, W i m H → (J.stop i H ∧ Q (.bl (!kb)) H) ∨ (J.go i H ∧ ∃ Nx : Hp → Prop, (∀ H', Nx H' → ∃ m', m' < m ∧ W (i + 1) m' H') ∧
    ∀ x H', J.yld i H x H' → g x (wipe σ vs) H' fun σ2 H2 => wipe σ2 vs = wipe σ vs ∧ tt σ2 H2 fun b H3 =>
      if b = true then te σ2 H3 fun y H4 => ∃ k, y = .bl k ∧ (if k = kb then Q (.bl kb) H4 else Nx H4) else Nx H3)

section
variable {X : Cx} {σ : L2.St} {H : Hp} {s : Shared}

def GEnd (Y : Cx) (kb : Bool) (Q : VK) : GenEnd := fun _ _ r s1 => r = .ok .next ∧ ∃ σ' H', Inv Y [] σ' H' s1 ∧ Q (.bl (!kb)) H'
def GYie (Y : Cx) (kb : Bool) (Q : VK) : Protocol := fun _ _ v s1 kap =>
  ∃ k, v = .bool k ∧ (∃ pins σ' H', Inv Y pins σ' H' s1 ∧ (k = kb → Q (.bl kb) H')) ∧
    (k ≠ kb → ∀ s2 : Shared, s2.heap = s1.heap → s2.os = s1.os → AllBare s2.gens → kap (.send .none) s2)

theorem gen_loop {Y : Cx} {elt tg iter : Expr} {ifs : List Expr} {scope : Scope} {pos : Pos} {vs : List Nat} {g : TG} {tt : TT} {te : TE} {it : Addr} {fp : List Addr} {tn : Nat → Heap → Prop} {J : It} {kb : Bool} {Q : VK} {W : Nat → Nat → Hp → Prop} {A : Around}
    (hc : Y.calm = true) (hco : Y.env.scope.isCoroutine = false)
    (hA : A.over (.compLoop (.GeneratorExp elt [⟨tg, iter, ifs, 0⟩] scope pos) 0 (.ref it) .none Y.env) [] = Y.A)
    (hex : ∀ b ∈ fp, b ∈ Y.ex) (hpe : ∀ p ∈ Y.pn, p.1 ∉ fp) (hxe : Y.xe = fun _ _ => False)
    (T : Turn Y.prog Y.w Y.K tg J fp it tn) (hg : PG Y tg g) (ht : PTs Y ifs tt) (he : PE Y elt te)
    (turn : Turns Y.K kb g tt te vs σ J Q W) :
    ∀ (m n i : Nat) (s₀ s5 : Shared) (H5 : Hp), m < n → Inv Y [] (wipe σ vs) H5 s5 → tn i s5.heap → (∀ b ∈ fp, H5 b = none) → W i m H5 →
      Seg (model Y.prog Y.w) A (GEnd Y kb Q) (GYie Y kb Q) n s₀ (.compLoop (.GeneratorExp elt [⟨tg, iter, ifs, 0⟩] scope pos) 0 (.ref it) .none Y.env)
        ((model Y.prog Y.w).den (.compLoop (.GeneratorExp elt [⟨tg, iter, ifs, 0⟩] scope pos) 0 (.ref it) .none Y.env)) [] s5 := by
  intro m
  induction m using Nat.strongRecOn with
  | ind m ih =>
    intro n i s₀ s5 H5 hmn I5 st5 n5 w5
    have stat : ∀ {σ' : L2.St} {H' : Hp} {s' : Shared}, Inv Y [] σ' H' s' → (∀ b ∈ fp, H' b = none) → ∀ b ∈ fp, FpOk Y [] H' b := by
      intro σ' H' s' I' hn b hb
      have hbe := hex b hb
      refine ⟨hn b hb, (I'.ok.exf b hbe).1, I'.ok.exfs b hbe, .inl hbe, fun x c e => (I'.ok.exf b hbe).2 x c e, fun p hp z => ?_⟩
      rw [List.append_nil] at hp
      exact hpe p hp (by rw [z]; exact hb)
    have noE : ∀ {α : Type} {t : Sem α} {Q' : α → Shared → Prop} {E' : Value → Shared → Prop} {s' : Shared}, wpAny (model Y.prog Y.w) Y.A t Q' Y.xe s' → wpAny (model Y.prog Y.w) Y.A t Q' E' s' := by
      intro α t Q' E' s' h
      refine wpAny_mono h (fun _ _ x => x) fun _ _ x => ?_
      rw [hxe] at x
      exact x.elim
    show Seg _ A _ _ _ s₀ _ ((compTurn (.GeneratorExp elt [⟨tg, iter, ifs, 0⟩] scope pos) 0 (.ref it) .none Y.env).onRaise (leaving Y.env)) [] s5
    rw [compTurn_gen, Sem.onRaise_eq_wrap]
    refine seg_bind_wrap (wpAny_standAt ?_)
    rcases turn i m H5 w5 with ⟨stop, qq⟩ | ⟨go, Nx, hNx, step⟩
    · refine seg_bind_wrap ?_
      rw [hA]
      refine wpAny_mono (T.done Y rfl rfl rfl hc i [] s5 _ H5 _ I5 (stat I5 n5) st5 stop) (fun r s6 h6 => ?_) (fun _ _ x => x)
      obtain ⟨hr, I6⟩ := h6
      subst hr
      exact seg_end (.ok .next) ⟨rfl, _, H5, I6, qq⟩
    · refine seg_bind_wrap ?_
      rw [hA]
      refine wpAny_mono (T.item Y rfl rfl rfl hc i [] s5 _ H5 (fun _ _ => False) I5 (stat I5 n5) st5 go) (fun r s6 h6 => ?_) (fun _ _ x => x.elim)
      obtain ⟨u, hr, h6⟩ := h6
      subst hr
      refine seg_bind_wrap ?_
      rw [hA]
      refine wpAny_mono h6 (fun _ s7 h7 => ?_) (fun _ _ x => x.elim)
      obtain ⟨x, H7, I7, r7, y7, st7, n7⟩ := h7
      have I7' := I7.pinned (stat I7 n7) (T.obj _ _ st7)
      refine seg_bind_wrap ?_
      rw [hA]
      refine noE (wpAny_mono (hg.run _ s7 _ H7 x u _ I7' r7 (step x H7 y7)) (fun _ s8 h8 => ?_) (fun _ _ x => x))
      obtain ⟨σ8, H8, I8, hw8, q8⟩ := h8
      refine seg_bind_wrap ?_
      rw [hA]
      refine noE (wpAny_mono (ht.run _ s8 σ8 H8 _ I8 q8) (fun b s9 h9 => ?_) (fun _ _ x => x))
      obtain ⟨H9, I9, q9⟩ := h9
      -- the next turn
      have fin : ∀ {n' : Nat} {s0' s' : Shared} {H' : Hp}, m ≤ n' → Inv Y ([] ++ pinsAt fp s7.heap) σ8 H' s' → Nx H' →
          Seg (model Y.prog Y.w) A (GEnd Y kb Q) (GYie Y kb Q) n' s0' (.compLoop (.GeneratorExp elt [⟨tg, iter, ifs, 0⟩] scope pos) 0 (.ref it) .none Y.env)
            ((model Y.prog Y.w).den (.compLoop (.GeneratorExp elt [⟨tg, iter, ifs, 0⟩] scope pos) 0 (.ref it) .none Y.env)) [] s' := by
        intro n' s0' s' H' hmn' I' nx
        obtain ⟨m', hm, w'⟩ := hNx H' nx
        have pin' : ∀ b ∈ fp, ∀ o, s7.heap.get? b = some o → s'.heap.get? b = some o ∧ H' b = none := by
          intro b hb o e
          have z := I'.pin (b, o) (List.mem_append_right _ (List.mem_append_right _ (mem_pinsAt hb e)))
          exact ⟨z.1, z.2.1⟩
        have hl : (wipe σ vs).length = σ8.length := by rw [← hw8, wipe_length]
        refine ih m' hm n' (i + 1) s0' s' H' (by omega) ((I'.unpinned (pins := [])).weak hl (fun j v e => ?_)) (T.keep _ _ _ st7 fun b hb o e => (pin' b hb o e).1) (fun b hb => ?_) w'
        · rw [← hw8] at e
          exact (wipe_some e).1
        · obtain ⟨o, e, _⟩ := T.obj _ _ st7 b hb
          exact (pin' b hb o e).2
      cases b with
      | false =>
        simp only [Bool.false_eq_true, if_false] at q9 ⊢
        exact seg_again rfl (fin (by omega) I9 q9)
      | true =>
        simp only [if_true] at q9 ⊢
        have hy : ∀ v, yieldOut Y.env v = yieldValue v := fun v => by simp only [yieldOut, hco, Bool.false_eq_true, if_false]
        simp only [hy]
        rw [Sem.bind_eq_wrap', Sem.bind_eq_wrap', Sem.wrap_wrap, Sem.wrap_wrap]
        refine seg_wrap ?_
        rw [hA]
        refine noE (wpAny_mono (he.run _ s9 σ8 H9 _ I9 q9) (fun z s10 h10 => ?_) (fun _ _ x => x))
        obtain ⟨yv, H10, I10, r10, k, hk, q10⟩ := h10
        subst hk
        have ez : z = Value.bool k := r10
        subst ez
        obtain ⟨n', rfl⟩ : ∃ n', n = n' + 1 := ⟨n - 1, by omega⟩
        refine seg_at (seg_yield rfl rfl rfl ⟨k, rfl, ⟨_, _, _, I10, fun hkb => ?_⟩, fun hkb s2 hh ho hb => ?_⟩)
        · rw [if_pos hkb] at q10
          exact q10
        · rw [if_neg hkb] at q10
          exact seg_again rfl (fin (by omega) (inv_reheap I10 hh ho hb) q10)
end
end Gx

set_option maxRecDepth 100000
set_option maxHeartbeats 2000000
namespace Gx
open PySem PySem.Spec PyProof.Rows L2 GenW

section
variable {Y : Cx} {Q : VK} {A : Around} {R : Result → Shared → Prop} {a : Addr} {g : Nat}

/-- the generator sleeps, and what it brings when it is woken -/
def Asleep (Y : Cx) (kb : Bool) (Q : VK) (A : Around) (g : Nat) (m : Nat) (s : Shared) : Prop :=
  ∃ gs, s.gens[g]? = some gs ∧ gs.Goes (model Y.prog Y.w) A (GEnd Y kb Q) (GYie Y kb Q) m (.send .none) (s.setGen g .running)

theorem inv_done {σ' : L2.St} {H' : Hp} {s1 : Shared} {h' : Heap} (I : Inv Y [] σ' H' s1) (hk : ∀ b o, s1.heap.get? b = some o → h'.get? b = some o) :
    Inv Y [] σ' H' { s1.setGen g .finished with heap := h' } :=
  inv_reheap (I.kept (t' := s1.toks) hk) rfl rfl (allBare_setGen I.bare rfl)
theorem inv_gen {pins : List (Addr × Obj)} {σ' : L2.St} {H' : Hp} {s1 : Shared} {x : GenState} (I : Inv Y pins σ' H' s1) (hx : x.bare = true) : Inv Y pins σ' H' (s1.setGen g x) :=
  inv_reheap I rfl rfl (allBare_setGen I.bare hx)

theorem pull {kb : Bool} {K : Option Value → Shared → Prop} {E : Value → Shared → Prop} {m : Nat} {s : Shared}
    (hh : A.handled = none) (hd : A.depth < recursionLimit)
    (hgen : ∀ {pins : List (Addr × Obj)} {σ' : L2.St} {H' : Hp} {s1 : Shared}, Inv Y pins σ' H' s1 → s1.heap.IsGen a g)
    (h1 : s.heap.IsGen a g) (h2 : s.heap.NoLimit) (h3 : Asleep Y kb Q A.in1 g m s)
    (kEnd : ∀ s' σ' H', Inv Y [] σ' H' s' → Q (.bl (!kb)) H' → K none s')
    (kHit : ∀ s' pins σ' H', Inv Y pins σ' H' s' → Q (.bl kb) H' → K (some (.bool kb)) s')
    (kGo : ∀ s' m', m = m' + 1 → s'.heap.IsGen a g → s'.heap.NoLimit → Asleep Y kb Q A.in1 g m' s' → K (some (.bool (!kb))) s') :
    wpAny (model Y.prog Y.w) A (pyNext (.ref a)) K E s := by
  obtain ⟨gs, hgs, hgo⟩ := h3
  have hgl : g < s.gens.size := (Array.getElem?_eq_some_iff.mp hgs).1
  refine wpAny_gsz (n := g + 1) hgl ?_
  refine wpAny_pyNext_genexpQ (P := fun _ _ s1 => ∃ σ' H', Inv Y [] σ' H' s1 ∧ Q (.bl (!kb)) H') hh h2 hd h1 hgs hgo (fun v s₁ gs' hbare hv => ?_) (fun s₁ hp h' hk => ?_)
  · intro hsz
    obtain ⟨k, rfl, ⟨pins, σ', H', I, hq⟩, hkap⟩ := hv
    by_cases hk : k = kb
    · subst hk
      exact kHit _ pins σ' H' (inv_gen I hbare) (hq rfl)
    · have hkb : k = !kb := by cases k <;> cases kb <;> simp_all
      have hsz1 : g < s₁.gens.size := by
        have q : (s₁.setGen g gs').gens.size = s₁.gens.size := setGen_size _ _ _
        have hsz' : g + 1 ≤ (s₁.setGen g gs').gens.size := hsz
        omega
      have hkap' := hkap hk ((s₁.setGen g gs').setGen g .running) rfl rfl (allBare_setGen (s := s₁.setGen g gs') (allBare_setGen I.bare hbare) rfl)
      cases m with
      | zero => exact hkap'.elim
      | succ m' =>
        rw [hkb]
        exact kGo _ m' rfl (hgen (inv_gen I hbare)) (inv_gen (g := g) I hbare).nolimit ⟨gs', setGen_at hsz1, hkap'⟩
  · intro hsz
    obtain ⟨σ', H', I, hq⟩ := hp
    exact kEnd _ σ' H' (inv_done I hk) hq

theorem drain_any (hh : A.handled = none) (hd : A.depth < recursionLimit)
    (hgen : ∀ {pins : List (Addr × Obj)} {σ' : L2.St} {H' : Hp} {s1 : Shared}, Inv Y pins σ' H' s1 → s1.heap.IsGen a g)
    (hR : ∀ k s' pins σ' H', Inv Y pins σ' H' s' → Q (.bl k) H' → R (.ok (.ret (.bool k))) s') :
    ∀ (m : Nat) (s : Shared), s.heap.IsGen a g → s.heap.NoLimit → Asleep Y true Q A.in1.in1 g m s →
      codeAny (model Y.prog Y.w) A (.builtin "any.loop" ⟨[.ref a], []⟩) R s := by
  intro m
  induction m with
  | zero =>
    intro s h1 h2 h3
    refine codeAny_builtin F.entry_any_loop ?_
    rw [Around.under_plainId F.plain_any_loop _]
    show wpAny _ A.in1 (pyNext (.ref a) >>= _) _ _ s
    refine wpAny_bind (pull (A := A.in1) hh hd hgen h1 h2 h3 (fun s' σ' H' I q => ?_) (fun s' pins σ' H' I q => ?_) fun s' m' e _ _ _ => nomatch e)
    · exact wpAny_bind (wpAny_rule (wpAny_pure (hR false _ _ _ _ I q)))
    · refine wpAny_bind (wpAny_holding (wpAny_truthy_bool (wpAny_bind (wpAny_letGo ?_))))
      simp only [if_true]
      exact wpAny_bind (wpAny_rule (wpAny_pure (hR true _ _ _ _ I q)))
  | succ m ih =>
    intro s h1 h2 h3
    refine codeAny_builtin F.entry_any_loop ?_
    rw [Around.under_plainId F.plain_any_loop _]
    show wpAny _ A.in1 (pyNext (.ref a) >>= _) _ _ s
    refine wpAny_bind (pull (A := A.in1) hh hd hgen h1 h2 h3 (fun s' σ' H' I q => ?_) (fun s' pins σ' H' I q => ?_) fun s' m' e g1 g2 g3 => ?_)
    · exact wpAny_bind (wpAny_rule (wpAny_pure (hR false _ _ _ _ I q)))
    · refine wpAny_bind (wpAny_holding (wpAny_truthy_bool (wpAny_bind (wpAny_letGo ?_))))
      simp only [if_true]
      exact wpAny_bind (wpAny_rule (wpAny_pure (hR true _ _ _ _ I q)))
    · cases e
      refine wpAny_bind (wpAny_holding (wpAny_truthy_bool (wpAny_bind (wpAny_letGo ?_))))
      simp only [Bool.not_true, Bool.false_eq_true, if_false]
      exact wpAny_pure ⟨plainId_quiet F.plain_any_loop _, ih s' g1 g2 g3⟩

theorem drain_all (hh : A.handled = none) (hd : A.depth < recursionLimit)
    (hgen : ∀ {pins : List (Addr × Obj)} {σ' : L2.St} {H' : Hp} {s1 : Shared}, Inv Y pins σ' H' s1 → s1.heap.IsGen a g)
    (hR : ∀ k s' pins σ' H', Inv Y pins σ' H' s' → Q (.bl k) H' → R (.ok (.ret (.bool k))) s') :
    ∀ (m : Nat) (s : Shared), s.heap.IsGen a g → s.heap.NoLimit → Asleep Y false Q A.in1.in1 g m s →
      codeAny (model Y.prog Y.w) A (.builtin "all.loop" ⟨[.ref a], []⟩) R s := by
  intro m
  induction m with
  | zero =>
    intro s h1 h2 h3
    refine codeAny_builtin F.entry_all_loop ?_
    rw [Around.under_plainId F.plain_all_loop _]
    show wpAny _ A.in1 (pyNext (.ref a) >>= _) _ _ s
    refine wpAny_bind (pull (A := A.in1) hh hd hgen h1 h2 h3 (fun s' σ' H' I q => ?_) (fun s' pins σ' H' I q => ?_) fun s' m' e _ _ _ => nomatch e)
    · exact wpAny_bind (wpAny_rule (wpAny_pure (hR true _ _ _ _ I q)))
    · refine wpAny_bind (wpAny_holding (wpAny_truthy_bool (wpAny_bind (wpAny_letGo ?_))))
      simp only [Bool.false_eq_true, if_false]
      exact wpAny_bind (wpAny_rule (wpAny_pure (hR false _ _ _ _ I q)))
  | succ m ih =>
    intro s h1 h2 h3
    refine codeAny_builtin F.entry_all_loop ?_
    rw [Around.under_plainId F.plain_all_loop _]
    show wpAny _ A.in1 (pyNext (.ref a) >>= _) _ _ s
    refine wpAny_bind (pull (A := A.in1) hh hd hgen h1 h2 h3 (fun s' σ' H' I q => ?_) (fun s' pins σ' H' I q => ?_) fun s' m' e g1 g2 g3 => ?_)
    · exact wpAny_bind (wpAny_rule (wpAny_pure (hR true _ _ _ _ I q)))
    · refine wpAny_bind (wpAny_holding (wpAny_truthy_bool (wpAny_bind (wpAny_letGo ?_))))
      simp only [Bool.false_eq_true, if_false]
      exact wpAny_bind (wpAny_rule (wpAny_pure (hR false _ _ _ _ I q)))
    · cases e
      refine wpAny_bind (wpAny_holding (wpAny_truthy_bool (wpAny_bind (wpAny_letGo ?_))))
      simp only [Bool.not_false, if_true]
      exact wpAny_pure ⟨plainId_quiet F.plain_all_loop _, ih s' g1 g2 g3⟩
end
end Gx

set_option maxRecDepth 100000
set_option maxHeartbeats 2000000
namespace Gx
open PySem PySem.Spec PyProof.Rows L2 GenW

/-! ### code objects and their tables -/
/-- c is a code object with its table at P: one of the base, or one that is tracked -/
def CodeK (base : Heap) (H : Hp) (c P : Addr) : Prop :=
  PySem.W.CodeHd base c P ∨ ∃ φ, H c = some (.ext φ) ∧ ∀ h, φ h → PySem.W.CodeHd h c P
def codesIn : List Value → List Value
  | _ :: _ :: c :: r => c :: codesIn r
  | _ => []
/-- the table at P: all its code objects are tracked, theirs too, to the depth n -/
def TabN (H : Hp) : Nat → Addr → Prop
  | 0, P => ∃ ps, H P = some (.tbl ps) ∧ TriplesOk ps.toList
  | n + 1, P => ∃ ps, H P = some (.tbl ps) ∧ TriplesOk ps.toList ∧ ∀ v ∈ codesIn ps.toList, ∃ c' P' φ, v = .ref c' ∧ H c' = some (.ext φ) ∧ (∀ h, φ h → PySem.W.CodeHd h c' P') ∧ TabN H n P'
/-- all that is tracked stays, tables may grow -/
structure Grow (H H' : Hp) : Prop where
  keep : ∀ b o, H b = some o → (∀ ps, o ≠ .tbl ps) → H' b = some o
  tab : ∀ n P, TabN H n P → TabN H' n P
  there : ∀ b, H b ≠ none → H' b ≠ none
theorem Grow.refl (H : Hp) : Grow H H := ⟨fun _ _ e _ => e, fun _ _ h => h, fun _ h => h⟩
theorem Grow.trans {H H1 H2 : Hp} (a : Grow H H1) (b : Grow H1 H2) : Grow H H2 :=
  ⟨fun c o e n => b.keep c o (a.keep c o e n) n, fun n P h => b.tab n P (a.tab n P h), fun c h => b.there c (a.there c h)⟩
theorem TabN.ex {H H' : Hp} (h : ∀ b o, H b = some o → H' b = some o) : ∀ n P, TabN H n P → TabN H' n P
  | 0, P, ⟨ps, e, t⟩ => ⟨ps, h _ _ e, t⟩
  | n + 1, P, ⟨ps, e, t, all⟩ => ⟨ps, h _ _ e, t, fun v hv =>
      let ⟨c', P', φ, e1, e2, e3, e4⟩ := all v hv
      ⟨c', P', φ, e1, h _ _ e2, e3, TabN.ex h n P' e4⟩⟩
theorem Grow.ex {H H' : Hp} (h : ∀ b o, H b = some o → H' b = some o) : Grow H H' :=
  ⟨fun b o e _ => h b o e, TabN.ex h, fun b hb z => by
    cases q : H b with
    | none => exact hb q
    | some o => rw [h b o q] at z; cases z⟩
theorem Grow.new {H : Hp} {p : Addr} {o : HO} (h : H p = none) : Grow H (upd H p o) := Grow.ex fun b u e => by
  rw [upd_ne (ne_of_none e h)]
  exact e
theorem TabN.isT {H : Hp} : ∀ {n P}, TabN H n P → ∃ ps, H P = some (.tbl ps) ∧ TriplesOk ps.toList
  | 0, _, h => h
  | _ + 1, _, ⟨ps, e, t, _⟩ => ⟨ps, e, t⟩
theorem CodeK.grow {base : Heap} {H H' : Hp} {c P : Addr} (g : Grow H H') (h : CodeK base H c P) : CodeK base H' c P := by
  rcases h with h | ⟨φ, e, h⟩
  · exact .inl h
  · exact .inr ⟨φ, g.keep _ _ e (fun _ z => nomatch z), h⟩
/-- an owned list may change -/
theorem Grow.lst {H : Hp} {a : Addr} {xs ys : List V} (h : H a = some (.lst xs)) : ∀ n P, TabN H n P → TabN (upd H a (.lst ys)) n P
  | 0, P, ⟨ps, e, t⟩ => ⟨ps, by rw [upd_ne (ne_of e h (fun z => nomatch z))]; exact e, t⟩
  | n + 1, P, ⟨ps, e, t, all⟩ => ⟨ps, by rw [upd_ne (ne_of e h (fun z => nomatch z))]; exact e, t, fun v hv =>
      let ⟨c', P', φ, e1, e2, e3, e4⟩ := all v hv
      ⟨c', P', φ, e1, by rw [upd_ne (ne_of e2 h (fun z => nomatch z))]; exact e2, e3, Grow.lst h n P' e4⟩⟩
theorem codesIn_snoc {a b c : Value} : ∀ {l : List Value}, TriplesOk l → codesIn (l ++ [a, b, c]) = codesIn l ++ [c]
  | [], _ => rfl
  | [_], h => by simp [TriplesOk] at h
  | [_, _], h => by simp [TriplesOk] at h
  | x :: y :: z :: r, h => by
    have h' : TriplesOk r := by
      cases x <;> cases y <;> simp [TriplesOk] at h <;> exact h
    show z :: codesIn (r ++ [a, b, c]) = z :: codesIn r ++ [c]
    rw [codesIn_snoc h']; rfl
theorem codeAmong_mem {pos : Pos} {c : Value} : ∀ {l : List Value}, TriplesOk l → codeAmong pos l = some c → c ∈ codesIn l
  | [], _, e => by simp [codeAmong] at e
  | [_], h, _ => by simp [TriplesOk] at h
  | [_, _], h, _ => by simp [TriplesOk] at h
  | x :: y :: z :: r, h, e => by
    cases x <;> cases y <;> simp [TriplesOk] at h
    rename_i l1 t1 l2 t2
    show c ∈ z :: codesIn r
    simp only [codeAmong] at e
    split at e
    · cases e; exact List.mem_cons_self
    · exact List.mem_cons_of_mem _ (codeAmong_mem h e)

section
variable {X : Cx} {pins : List (Addr × Obj)} {σ : L2.St} {H : Hp} {s : Shared}

/-- an untracked object of ours is tracked from now on -/
theorem inv_track {c : Addr} {o : HO} (I : Inv X pins σ H s) (hf : FpOk X pins H c) (h0 : X.s_0.heap.objs.size ≤ c)
    (new : ObjOk X.prog X.w (upd H c o) s.heap c o) : Inv X pins σ (upd H c o) s := by
  obtain ⟨hn, hL, hfs, _, hcl, hp⟩ := hf
  have nt : ∀ b u, H b = some u → b ≠ c := fun b u e z => by rw [z, hn] at e; cases e
  have up : ∀ b u, H b = some u → upd H c o b = some u := fun b u e => by rw [upd_ne (nt b u e)]; exact e
  have fr : ∀ b, b ≠ c → H b = none → upd H c o b = none := fun b hb e => by rw [upd_ne hb]; exact e
  refine ⟨I.ok, I.os, I.bare, ⟨I.base.keep, I.base.slot, fun b u e n hx => ?_, I.base.there, fun b xs e => up _ _ (I.base.tups b xs e), fun b ob u e => up _ _ (I.base.frzs b ob u e), fun b ps e => ?_⟩,
    I.loc, I.cell, fr _ (Ne.symm hL) I.free, fun x a e => fr _ (hcl x a e) (I.freeC x a e), fun p hpp => ?_, fun b u e => ?_, I.len⟩
  · exact fr _ (Nat.ne_of_lt (Nat.lt_of_lt_of_le (Heap.lt_size e) h0)) (I.base.free b u e n hx)
  · obtain ⟨more, z⟩ := I.base.tbls b ps e
    exact ⟨more, up _ _ z⟩
  · obtain ⟨e, n, r⟩ := I.pin p hpp
    exact ⟨e, fr _ (hp p hpp) n, r⟩
  · by_cases hb : b = c
    · subst hb
      rw [upd_same] at e
      cases e
      exact new
    · rw [upd_ne hb] at e
      exact (I.hok b u e).stay (fun _ _ _ q => q) (fun d q => up _ _ q) fun d xs q => up _ _ q

/-- the code object of a generator expression -/
theorem gen_code {c P : Addr} {n : Nat} {pos : Pos} {qual : Str} {scope : Scope} {A : Around} {E : Value → Shared → Prop} (I : Inv X pins σ H s) (hcode : X.env.code = .ref c)
    (hck : CodeK X.base H c P) (htab : TabN H (n + 1) P) :
    wpAny (model X.prog X.w) A (genexprCode X.env pos qual scope) (fun code s' => ∃ c' P' H2, code = .ref c' ∧ Grow H H2 ∧ CodeK X.base H2 c' P' ∧ TabN H2 n P' ∧ Inv X pins σ H2 s' ∧ s'.gens = s.gens ∧
      (∀ b o, s.heap.get? b = some o → H b = none → s'.heap.get? b = some o ∧ H2 b = none) ∧ s.heap.objs.size ≤ s'.heap.objs.size) E s := by
  obtain ⟨ps, hP, ht, hall⟩ := htab
  have hPs : s.heap.get? P = some { cls := .none, data := .fields ps } := I.hok P _ hP
  have hPl := Heap.lt_size hPs
  have cd : PySem.W.CodeHd s.heap c P := by
    rcases hck with h | ⟨φ, e, h⟩
    · exact h.keeps I.bk
    · obtain ⟨q, _, _⟩ := I.hok c _ e
      exact h _ q
  cases hf : codeAmong pos ps.toList with
  | some cv =>
    refine wpAny_genexprCode_hit hcode (cd.code hPs ht) hf ?_
    obtain ⟨c', P', φ, e1, e2, e3, e4⟩ := hall cv (codeAmong_mem ht hf)
    exact ⟨c', P', H, e1, Grow.refl H, .inr ⟨φ, e2, e3⟩, e4, I, rfl, fun b o e n => ⟨e, n⟩, Nat.le_refl _⟩
  | none =>
    refine wpAny_genexprCodeX hcode (cd.code hPs ht) (cd.tab hPs) hf fun c' h' tk hx hge hlt hco' _ htab' hnew => ?_
    obtain ⟨P', hP'ge, hcode', htab2⟩ := hnew
    have cd' : PySem.W.CodeHd h' c' P' := PySem.W.CodeHd.of hcode' htab2
    obtain ⟨o1, vs, f1, tf, fl, tg, inF, tx, tt, op, _, _, _, _, _, _, _, _, _, htr, _⟩ := hco'
    have hcP' : c' ≠ P' := by
      obtain ⟨_, _, _, _, _, _, _, _, _, _, _, _, _, _, _, _, _, _, q⟩ := cd'
      exact q
    have sz : s.heap.objs.size ≤ h'.objs.size := Nat.le_trans hge (Nat.le_of_lt hlt)
    -- the table has grown
    have I1 := GxR.inv_tab (more := #[rawInt pos.line, rawInt pos.col, .ref c']) (h' := h') (g' := s.gens) (d' := s.drawn) (t' := tk) I hP (fun b o hb e => hx b o hb e) htab'.2 I.bare
    generalize hH1 : upd H P (.tbl (ps ++ #[rawInt pos.line, rawInt pos.col, .ref c'])) = H1 at I1
    have n1 : ∀ b, b ≠ P → H1 b = H b := fun b hb => by rw [← hH1]; exact upd_ne hb
    have nP : ∀ b, s.heap.objs.size ≤ b → b ≠ P := fun b hb z => by rw [z] at hb; exact absurd hPl (Nat.not_lt_of_le hb)
    have fresh1 : ∀ b, s.heap.objs.size ≤ b → H1 b = none := fun b hb => by rw [n1 b (nP b hb)]; exact I.hok.fresh hb
    have fp1 : ∀ b, s.heap.objs.size ≤ b → FpOk X pins H1 b := fun b hb => I.fpOk hb (fresh1 b hb)
    -- the new table is tracked
    obtain ⟨_, hPt⟩ := htab2
    have I2 := inv_track (o := .tbl #[]) I1 (fp1 P' hP'ge) (Nat.le_trans I.sz hP'ge) (show h'.get? P' = some { cls := .none, data := .fields #[] } from hPt)
    generalize hH2 : upd H1 P' (.tbl #[]) = H2 at I2
    have n2 : ∀ b, b ≠ P' → H2 b = H1 b := fun b hb => by rw [← hH2]; exact upd_ne hb
    have fp2 : FpOk X pins H2 c' := by
      obtain ⟨_, r⟩ := fp1 c' hge
      exact ⟨by rw [n2 c' hcP']; exact fresh1 c' hge, r⟩
    -- the new code object too
    have stable : ∀ h1 h2 : Heap, PySem.W.CodeHd h1 c' P' → (∀ o, h1.get? c' = some o → h2.get? c' = some o) → PySem.W.CodeHd h2 c' P' := fun h1 h2 q k => by
      obtain ⟨o, vs, file, tf, flags, tg, inF, text, tt, e, r⟩ := q
      exact ⟨o, vs, file, tf, flags, tg, inF, text, tt, k o e, r⟩
    have hobj : ∃ o, h'.get? c' = some o := by
      obtain ⟨o, _, _, _, _, _, _, _, _, e, _⟩ := cd'
      exact ⟨o, e⟩
    have I3 := inv_track (o := .ext fun h => PySem.W.CodeHd h c' P') I2 fp2 (Nat.le_trans I.sz hge) ⟨cd', hobj, stable⟩
    generalize hH3 : upd H2 c' (.ext fun h => PySem.W.CodeHd h c' P') = H3 at I3
    have n3 : ∀ b, b ≠ c' → H3 b = H2 b := fun b hb => by rw [← hH3]; exact upd_ne hb
    have at3 : H3 c' = some (.ext fun h => PySem.W.CodeHd h c' P') := by rw [← hH3]; exact upd_same
    have old3 : ∀ b, b < s.heap.objs.size → b ≠ P → H3 b = H b := fun b hb hbP => by
      have q1 : b ≠ c' := Nat.ne_of_lt (Nat.lt_of_lt_of_le hb hge)
      have q2 : b ≠ P' := Nat.ne_of_lt (Nat.lt_of_lt_of_le hb hP'ge)
      rw [n3 b q1, n2 b q2, n1 b hbP]
    have tr3 : ∀ b u, H b = some u → b ≠ P → H3 b = some u := fun b u e hbP => by rw [old3 b (I.hok.lt e) hbP]; exact e
    have P3 : H3 P = some (.tbl (ps ++ #[rawInt pos.line, rawInt pos.col, .ref c'])) := by
      have q1 : P ≠ c' := Nat.ne_of_lt (Nat.lt_of_lt_of_le hPl hge)
      have q2 : P ≠ P' := Nat.ne_of_lt (Nat.lt_of_lt_of_le hPl hP'ge)
      rw [n3 P q1, n2 P q2, ← hH1]
      exact upd_same
    have P'3 : H3 P' = some (.tbl #[]) := by
      rw [n3 P' (Ne.symm hcP'), ← hH2]
      exact upd_same
    have tabNew : ∀ k, TabN H3 k P' := fun k => by
      cases k with
      | zero => exact ⟨#[], P'3, trivial⟩
      | succ k => exact ⟨#[], P'3, trivial, fun v hv => absurd hv (by simp [codesIn])⟩
    have grow : ∀ k P0, TabN H k P0 → TabN H3 k P0 := by
      intro k
      induction k with
      | zero =>
        intro P0 h
        obtain ⟨ps0, e0, t0⟩ := h
        by_cases hz : P0 = P
        · subst hz
          exact ⟨_, P3, htr⟩
        · exact ⟨ps0, tr3 _ _ e0 hz, t0⟩
      | succ k ih =>
        intro P0 h
        obtain ⟨ps0, e0, t0, all0⟩ := h
        have lift : ∀ v ∈ codesIn ps0.toList, ∃ c2 P2 φ, v = Value.ref c2 ∧ H3 c2 = some (.ext φ) ∧ (∀ h, φ h → PySem.W.CodeHd h c2 P2) ∧ TabN H3 k P2 := fun v hv => by
          obtain ⟨c2, P2, φ, e1, e2, e3, e4⟩ := all0 v hv
          exact ⟨c2, P2, φ, e1, tr3 _ _ e2 (fun z => by rw [z, hP] at e2; cases e2), e3, ih P2 e4⟩
        by_cases hz : P0 = P
        · subst hz
          rw [hP] at e0
          cases e0
          refine ⟨_, P3, htr, fun v hv => ?_⟩
          have hl : (ps ++ #[rawInt pos.line, rawInt pos.col, Value.ref c']).toList = ps.toList ++ [rawInt pos.line, rawInt pos.col, Value.ref c'] := by simp
          rw [hl, codesIn_snoc ht] at hv
          rcases List.mem_append.mp hv with hv | hv
          · exact lift v hv
          · rw [List.mem_singleton.mp hv]
            exact ⟨c', P', _, rfl, at3, fun h q => q, tabNew k⟩
        · exact ⟨ps0, tr3 _ _ e0 hz, t0, lift⟩
    refine ⟨c', P', H3, rfl, ⟨fun b o e hn => tr3 b o e (fun z => ?_), grow, fun b hb z => ?_⟩, .inr ⟨_, at3, fun h q => q⟩, tabNew n, I3, rfl, fun b o e hn => ?_, sz⟩
    · rw [z, hP] at e
      cases e
      exact hn _ rfl
    · by_cases hz : b = P
      · rw [hz, P3] at z
        cases z
      · cases q : H b with
        | none => exact hb q
        | some u => rw [tr3 b u q hz] at z; cases z
    · have hbP : b ≠ P := fun z => by rw [z, hP] at hn; cases hn
      exact ⟨hx b o hbP e, by rw [old3 b (Heap.lt_size e) hbP]; exact hn⟩
end
end Gx

set_option maxRecDepth 100000
set_option maxHeartbeats 2000000
namespace Gx
open PySem PySem.Spec PyProof.Rows L2 GenW

/-- the module that the built-ins stand in -/
def BMain (X : Cx) : Prop := ∃ bm ob, X.mg "__builtins__" = some (.ref bm) ∧ bm ≠ builtinsNs ∧ X.base.get? bm = some ob ∧ ob.cls = .type "module" ∧ ob.dict = some builtinsNs ∧ ob.data = .plain

/-- a generator's context, by what the body of it may lean on -/
structure GenCtx (X : Cx) (k : Nat) (scope : Scope) (c : Addr) (Y : Cx) : Prop where
  prog : Y.prog = X.prog
  w : Y.w = X.w
  K : Y.K = X.K
  mg : Y.mg = X.mg
  base : Y.base = X.base
  N : Y.N = X.N
  calm : Y.calm = X.calm
  scp : Y.env.scope = scope
  fn : Y.fn = fun x => scope.names.lookup x == some .cell
  code : Y.env.code = .ref c
  room : Room k Y.A
  xe : Y.xe = fun _ _ => False

/-- the generator's own scope -/
structure GScp (scope : Scope) : Prop where
  co : scope.isCoroutine = false
  dot : scope.names.lookup (".0" : Str) = some NameKind.local

/-- kb: the truth at which the walk ends early -/
def tGen (K : PySem.W.Frag) (base : Heap) (kb : Bool) (c : Addr) (n : Nat) (wi : TI) (g : TG) (tt : Addr → TT) (te : Addr → TE) (vs : List Nat) : TE := fun σ H Q =>
  wi σ H fun J H1 => ∃ P, CodeK base H1 c P ∧ TabN H1 (n + 1) P ∧ ∀ c' P' H2, Grow H1 H2 → CodeK base H2 c' P' → TabN H2 n P' →
    ∃ W : Nat → Nat → Hp → Prop, (∃ m, W 0 m H2) ∧ Turns K kb g (tt c') (te c') vs σ J Q W

theorem seg_begin {P : Program} {w : World} {A : Around} {R : GenEnd} {Y : Protocol} {n : Nat} {s₀ s : Shared} {elt tg iter : Expr} {ifs : List Expr} {scope : Scope} {pos : Pos} {it : Addr} {ce : Env}
    (self : ∀ (A : Around) (Q : Value → Shared → Prop) (E : Value → Shared → Prop), Q (.ref it) s → wpAny (model P w) A (pyIter (.ref it)) Q E s)
    (loop : Seg (model P w) A R Y n s₀ (.compLoop (.GeneratorExp elt [⟨tg, iter, ifs, 0⟩] scope pos) 0 (.ref it) .none ce)
      ((model P w).den (.compLoop (.GeneratorExp elt [⟨tg, iter, ifs, 0⟩] scope pos) 0 (.ref it) .none ce)) [] s) :
    Seg (model P w) A R Y n s₀ (.compStart (.GeneratorExp elt [⟨tg, iter, ifs, 0⟩] scope pos) 0 (.ref it) .none ce)
      ((model P w).den (.compStart (.GeneratorExp elt [⟨tg, iter, ifs, 0⟩] scope pos) 0 (.ref it) .none ce)) [] s := by
  show Seg _ A _ _ _ s₀ _ ((compStart (.GeneratorExp elt [⟨tg, iter, ifs, 0⟩] scope pos) 0 (.ref it) .none ce).onRaise (leaving ce)) [] s
  unfold compStart
  rw [Sem.onRaise_eq_wrap]
  show Seg _ A _ _ _ s₀ _ ((ask >>= _).wrap _ _ _ _) [] s
  refine seg_bind_wrap (wpAny_askSetting ?_)
  split
  · exact seg_again rfl loop
  · refine seg_bind_wrap (wpAny_rule ?_)
    show Seg _ A _ _ _ s₀ _ ((standAt iter.pos >>= _).wrap _ _ _ _) [] s
    exact seg_bind_wrap (wpAny_standAt (seg_bind_wrap (self _ _ _ (seg_again rfl loop))))

section
variable {X : Cx} {x : Str} {p pos gpos : Pos} {elt tg iter : Expr} {ifs : List Expr} {scope : Scope} {own : List (Str × Nat)} {wi : TI} {g : TG} {tt : Addr → TT} {te : Addr → TE} {kb : Bool} {c : Addr} {n k : Nat}

/-- the generator is made; it sleeps ahead of its first turn -/
theorem gen_ready {pins : List (Addr × Obj)} {σ : L2.St} {H : Hp} {s : Shared} {Q : VK} {Z : Value → Shared → Prop}
    (hr : Room (k + 1) X.A) (hcl : X.calm = true) (hN : X.N.Nodup) (hbm : BMain X) (hcode : X.env.code = .ref c) (S : GScp scope) (ok : BlkOk X.N X.env.scope scope own)
    (hi : PI X tg iter wi) (hg : ∀ Y c', GenCtx X k scope c' Y → PG Y tg g) (ht : ∀ Y c', GenCtx X k scope c' Y → PTs Y ifs (tt c')) (he : ∀ Y c', GenCtx X k scope c' Y → PE Y elt (te c'))
    (hs : ∀ v, genFold iter X.env v = pure v) (I : Inv X pins σ H s) (h : tGen X.K X.base kb c n wi g tt te (own.map (·.2)) σ H Q)
    (hZ : ∀ (Y : Cx) (a : Addr) (gn m : Nat) (s5 : Shared), s5.heap.IsGen a gn → s5.heap.NoLimit → Y.prog = X.prog → Y.w = X.w → Asleep Y kb Q X.A.in1.in1 gn m s5 →
      (∀ {pins' : List (Addr × Obj)} {σ' : L2.St} {H' : Hp} {s1 : Shared}, Inv Y pins' σ' H' s1 → s1.heap.IsGen a gn) →
      (∀ {pins' : List (Addr × Obj)} {σ' : L2.St} {H' : Hp} {s1 : Shared}, Inv Y pins' σ' H' s1 → Inv X pins σ H' s1) → Z (.ref a) s5) :
    wpAny (model X.prog X.w) X.A (eval (.GeneratorExp elt [⟨tg, iter, ifs, 0⟩] scope gpos) X.env) Z X.xe s := by
  have hfree : ∀ y ∈ scope.names, y.2 = .free → ∃ c, X.env.cells.lookup y.1 = some c := by
    intro y hy e
    rcases ok.free y hy e with z | z
    · exact I.ok.has _ (.inl z)
    · exact I.ok.has _ (.inr z)
  refine genexp_make S.co (closure_ok hfree) S.dot ok.kind hr.depth ?_ hs
  refine thn (hi.run pins s σ H _ I h) fun xv s1 hx => thn hx fun itv s2 h2 => ?_
  obtain ⟨it, fp, tn, J, H1, e, I2, T, st2, f2, P, hck, htab, q⟩ := h2
  subst e
  refine ⟨I2.nolimit, thn (gen_code I2 hcode hck htab) fun code s3 h3 => ?_⟩
  obtain ⟨c', P', H2, rfl, gr, hck', htab', I3, g3, old3, sz3⟩ := h3
  obtain ⟨bm, ob, e1, e2, e3, e4, e5, e6⟩ := hbm
  refine wpAny_builtinsFor (m := X.mg) (by rw [I3.ok.glob]; exact I3.mod.glob.keeps I3.bk) e1 e2 (I3.bk _ _ e3) e4 e5 e6 ?_
  obtain ⟨W, ⟨m0, w0⟩, turn⟩ := q c' P' H2 gr hck' htab'
  intro h' tk go hn' hs' hgc hgd hgs hgp
  generalize hce : newEnv scope s3.heap.objs.size X.env.globals (cellsFrom (s3.heap.objs.size + 1) scope.names (cloFrom X.env.cells scope.names [])) (X.env.qual ++ "<genexpr>.") none (Value.ref c') none builtinsNs = ce
  have G : GEnvOk X s3 scope ce := by subst hce; exact ⟨rfl, rfl, rfl, rfl, rfl, rfl⟩
  have hcc : ce.code = .ref c' := by subst hce; rfl
  -- the iterator's objects
  have f3 : ∀ b ∈ fp, FpOk X pins H2 b ∧ b < s3.heap.objs.size := by
    intro b hb
    obtain ⟨o, eo, _⟩ := T.obj _ _ st2 b hb
    obtain ⟨z1, z2⟩ := f2 b hb
    obtain ⟨y1, y2⟩ := old3 b o eo z1
    exact ⟨⟨y2, z2⟩, Heap.lt_size y1⟩
  have st3 : tn 0 s3.heap := T.keep _ _ _ st2 fun b hb o eo => (old3 b o eo (f2 b hb).1).1
  have n3 : ∀ b ∈ fp, H2 b = none := fun b hb => (f3 b hb).1.1
  generalize hs5 : ({ s3 with gens := s3.gens.push (.fresh (.compStart (.GeneratorExp elt [⟨tg, iter, ifs, 0⟩] scope gpos) 0 (.ref it) .none ce)), toks := tk, heap := h'.push go } : Shared) = s5
  have hh5 : s5.heap = h'.push go := by rw [← hs5]
  have hg5 : s5.gens = s3.gens.push (.fresh (.compStart (.GeneratorExp elt [⟨tg, iter, ifs, 0⟩] scope gpos) 0 (.ref it) .none ce)) := by rw [← hs5]
  have ho5 : s5.os = s3.os := by rw [← hs5]
  have k5 : ∀ b o, b ≠ s3.heap.objs.size → (pushCells (s3.heap.push frameObj) scope.names).get? b = some o → s5.heap.get? b = some o := by
    intro b o hb eo
    rw [hh5]
    exact Heap.get?_push_of_some _ ((hs'.2 b hb).trans eo)
  have kp : ∀ b o, s3.heap.get? b = some o → s5.heap.get? b = some o := fun b o eo =>
    k5 b o (Nat.ne_of_lt (Heap.lt_size eo)) (pushCells_keeps _ _ _ _ (Heap.get?_push_of_some _ eo))
  have n5 : s5.heap.Ns s3.heap.objs.size (fun y => if y = ".0" then some (.ref it) else none) := by
    rw [hh5]
    exact hn'.push _
  have szC : s3.heap.objs.size < h'.objs.size := by
    have z := hs'.1
    rw [z]
    have z2 := pushCells_size scope.names (s3.heap.push frameObj)
    rw [Heap.size_push] at z2
    exact z2
  have ea : s5.heap.get? h'.objs.size = some go := by rw [hh5]; exact hgp h'
  have hgd' : ∀ v, go.data ≠ .cell v := fun v z => by
    obtain ⟨nm, qn, z2⟩ := hgd
    rw [z2] at z
    cases z
  have isg : ∀ hh : Heap, hh.get? h'.objs.size = some go → hh.IsGen h'.objs.size s3.gens.size := fun hh eo => by
    obtain ⟨nm, qn, z2⟩ := hgd
    exact ⟨go, nm, qn, eo, hgc, z2, hgs⟩
  have bare5 : AllBare s5.gens := by rw [hg5]; exact AllBare.push I3.bare rfl
  -- the generator's context
  have hA : (X.A.in1.in1.over (.compLoop (.GeneratorExp elt [⟨tg, iter, ifs, 0⟩] scope gpos) 0 (.ref it) .none ce) []).frames = some (ce :: X.stack) := by
    show pushEnvs [ce] (pushEnvs [] X.A.frames) = _
    rw [I3.ok.frames]
    rfl
  generalize hA' : X.A.in1.in1.over (.compLoop (.GeneratorExp elt [⟨tg, iter, ifs, 0⟩] scope gpos) 0 (.ref it) .none ce) [] = A' at hA
  have hhd : A'.handled = none := by rw [← hA']; exact hr.hd
  have room : Room k A' := by
    refine ⟨hhd, ?_, ?_⟩
    · have z := hr.dp
      have z2 : A'.depth = X.A.depth + 1 := by rw [← hA']; rfl
      rw [z2]; omega
    · have z := hr.un
      have z2 : A'.units = X.A.units + 1 + 1 + 3 := by rw [← hA']; rfl
      rw [z2]; omega
  have hpn : ∀ p ∈ [(h'.objs.size, go)], s5.heap.get? p.1 = some p.2 ∧ H2 p.1 = none ∧ p.1 ≠ s3.heap.objs.size ∧ p.1 ∉ frs X.stack ∧ ∀ v, p.2.data ≠ .cell v := by
    intro p hp
    rw [List.mem_singleton.mp hp]
    refine ⟨ea, I3.hok.fresh (Nat.le_of_lt szC), Nat.ne_of_gt szC, fun z => ?_, hgd'⟩
    rcases List.mem_cons.mp (I3.stkSub _ z) with z | z
    · exact absurd z (Nat.ne_of_gt (Nat.lt_trans I3.lt szC))
    · exact I3.nofs (Nat.le_of_lt szC) z
  have I5 : Inv (gX X s3 H2 scope ce fp A' [(h'.objs.size, go)]) [] (wipe σ (own.map (·.2))) H2 s5 :=
    gen_start I3 ok hN f3 G hA (fun _ => hhd) ho5 bare5 k5 n5 hpn
  have st5 : tn 0 s5.heap := T.keep _ _ _ st3 fun b hb o eo => kp b o eo
  have C : GenCtx X k scope c' (gX X s3 H2 scope ce fp A' [(h'.objs.size, go)]) := ⟨rfl, rfl, rfl, rfl, rfl, rfl, rfl, G.scp, rfl, hcc, room, rfl⟩
  have back : ∀ {pins' : List (Addr × Obj)} {σ' : L2.St} {H' : Hp} {s1 : Shared}, Inv (gX X s3 H2 scope ce fp A' [(h'.objs.size, go)]) pins' σ' H' s1 → Inv X pins σ H' s1 := by
    intro pins' σ' H' s1 I6
    exact I3.call' (ch := fp) I6.os I6.base I6.hok I6.bare fun b hb => ⟨(f3 b hb).1.2.2.2.1, (f3 b hb).1.2.1, (f3 b hb).1.2.2.2.2.1, (f3 b hb).1.2.2.2.2.2⟩
  refine hZ (gX X s3 H2 scope ce fp A' [(h'.objs.size, go)]) h'.objs.size s3.gens.size (m0 + 1) s5 (isg _ ea) I5.nolimit rfl rfl ?_ (fun {pins'} {σ'} {H'} {s1} I6 => ?_) back
  · refine ⟨.fresh (.compStart (.GeneratorExp elt [⟨tg, iter, ifs, 0⟩] scope gpos) 0 (.ref it) .none ce), by rw [hg5]; exact Array.getElem?_push_size .., ?_⟩
    refine ⟨rfl, ?_⟩
    have I5r : Inv (gX X s3 H2 scope ce fp A' [(h'.objs.size, go)]) [] (wipe σ (own.map (·.2))) H2 (s5.setGen s3.gens.size .running) := inv_gen I5 rfl
    refine seg_begin (fun A Q' E' hq => T.self A 0 _ Q' E' st5 hq) ?_
    exact gen_loop (Y := gX X s3 H2 scope ce fp A' [(h'.objs.size, go)]) hcl (by show ce.scope.isCoroutine = false; rw [G.scp]; exact S.co) hA' (fun b hb => hb)
      (fun p hp hb => by
        rw [List.mem_singleton.mp hp] at hb
        exact absurd (Nat.lt_trans (f3 _ hb).2 szC) (Nat.lt_irrefl _))
      rfl T (hg _ _ C) (ht _ _ C) (he _ _ C) turn m0 (m0 + 1) 0 _ _ H2 (Nat.lt_succ_self _) I5r st5 n3 w0
  · exact isg _ (I6.pin (h'.objs.size, go) (List.mem_append_left _ (List.mem_singleton.mpr rfl))).1

theorem pe_anyG (hr : Room (k + 1) X.A) (hcl : X.calm = true) (hN : X.N.Nodup) (hbm : BMain X) (hcode : X.env.code = .ref c) (S : GScp scope) (ok : BlkOk X.N X.env.scope scope own)
    (hgl : Gl X "any") (hm : X.mg "any" = none)
    (hi : PI X tg iter wi) (hg : ∀ Y c', GenCtx X k scope c' Y → PG Y tg g) (ht : ∀ Y c', GenCtx X k scope c' Y → PTs Y ifs (tt c')) (he : ∀ Y c', GenCtx X k scope c' Y → PE Y elt (te c'))
    (hs : ∀ v, genFold iter X.env v = pure v)
    (hst : starEach [.GeneratorExp elt [⟨tg, iter, ifs, 0⟩] scope gpos] X.env = (false, eval (.GeneratorExp elt [⟨tg, iter, ifs, 0⟩] scope gpos) X.env) :: starEach [] X.env := by rfl) :
    PE X (.Call (.Name "any" p) [.GeneratorExp elt [⟨tg, iter, ifs, 0⟩] scope gpos] [] pos) (tGen X.K X.base true c n wi g tt te (own.map (·.2))) := by
  refine ⟨fun pins s σ H Q I h => ?_⟩
  refine wpAny_Call_Name_kw (ld_blt I hgl hm boot_any ?_)
  refine PyProof.Rows.callWith_builtin1 ?_ hst (by rfl)
  rw [hst]
  show wpAny _ _ (spliced ((false, eval (.GeneratorExp elt [⟨tg, iter, ifs, 0⟩] scope gpos) X.env) :: backTo pos (starEach [] X.env))) _ _ s
  refine Calls.spliced_cons (gen_ready hr hcl hN hbm hcode S ok hi hg ht he hs I h fun Y a gn m s5 h1 h2 hp hw h3 h4 h5 => ?_)
  refine Calls.spliced_nil ?_
  refine call_function_tree F.kind_any F.plain_any F.entry_any (F.args_any1 _) ?_
  unfold Builtin.«any»
  refine wpAny_bind (m := oneArg "any" _) (wpAny_pure ?_)
  refine wpAny_bind (wpAny_pyIter_gen h1 ?_)
  refine wpAny_pure ⟨plainId_quiet F.plain_any_loop _, ?_⟩
  rw [← hp, ← hw]
  exact drain_any hr.hd hr.depth h4 (fun z s' pins' σ' H' I6 q => ⟨.bl z, H', h5 I6, rfl, q⟩) m s5 h1 h2 h3
theorem pe_allG (hr : Room (k + 1) X.A) (hcl : X.calm = true) (hN : X.N.Nodup) (hbm : BMain X) (hcode : X.env.code = .ref c) (S : GScp scope) (ok : BlkOk X.N X.env.scope scope own)
    (hgl : Gl X "all") (hm : X.mg "all" = none) (hb : bootBuiltins "all" = some (.builtin "all"))
    (hi : PI X tg iter wi) (hg : ∀ Y c', GenCtx X k scope c' Y → PG Y tg g) (ht : ∀ Y c', GenCtx X k scope c' Y → PTs Y ifs (tt c')) (he : ∀ Y c', GenCtx X k scope c' Y → PE Y elt (te c'))
    (hs : ∀ v, genFold iter X.env v = pure v)
    (hst : starEach [.GeneratorExp elt [⟨tg, iter, ifs, 0⟩] scope gpos] X.env = (false, eval (.GeneratorExp elt [⟨tg, iter, ifs, 0⟩] scope gpos) X.env) :: starEach [] X.env := by rfl) :
    PE X (.Call (.Name "all" p) [.GeneratorExp elt [⟨tg, iter, ifs, 0⟩] scope gpos] [] pos) (tGen X.K X.base false c n wi g tt te (own.map (·.2))) := by
  refine ⟨fun pins s σ H Q I h => ?_⟩
  refine wpAny_Call_Name_kw (ld_blt I hgl hm hb ?_)
  refine PyProof.Rows.callWith_builtin1 ?_ hst (by rfl)
  rw [hst]
  show wpAny _ _ (spliced ((false, eval (.GeneratorExp elt [⟨tg, iter, ifs, 0⟩] scope gpos) X.env) :: backTo pos (starEach [] X.env))) _ _ s
  refine Calls.spliced_cons (gen_ready hr hcl hN hbm hcode S ok hi hg ht he hs I h fun Y a gn m s5 h1 h2 hp hw h3 h4 h5 => ?_)
  refine Calls.spliced_nil ?_
  refine call_function_tree F.kind_all F.plain_all F.entry_all (F.args_all1 _) ?_
  unfold Builtin.«all»
  refine wpAny_bind (m := oneArg "all" _) (wpAny_pure ?_)
  refine wpAny_bind (wpAny_pyIter_gen h1 ?_)
  refine wpAny_pure ⟨plainId_quiet F.plain_all_loop _, ?_⟩
  rw [← hp, ← hw]
  exact drain_all hr.hd hr.depth h4 (fun z s' pins' σ' H' I6 q => ⟨.bl z, H', h5 I6, rfl, q⟩) m s5 h1 h2 h3
end
end Gx

set_option maxRecDepth 100000
set_option maxHeartbeats 2000000
namespace Mi
open PySem PySem.Spec PyProof.Rows L2 Gx

abbrev D := PyData
/-- a list that is read: one of the heap, or one that stands since before -/
def RdL (K : PySem.W.Frag) (H : Hp) (a : Addr) (xs : List V) : Prop :=
  Rd H a (.lst xs) ∨ ∃ (its : List Value) (n : Nat), K.lookup a = some { cls := .type "list", data := .seq its.toArray n } ∧ its.length ≤ sizeLine ∧ Vals xs its
theorem RdL.sq {K : PySem.W.Frag} {H : Hp} {a : Addr} {xs : List V} (h : RdL K H a xs) : SqL K H a xs := by
  rcases h with h | ⟨its, n, h1, h2, h3⟩
  · exact .inl h
  · exact .inr ⟨_, its.toArray, n, h1, rfl, rfl, rfl, by simpa using h2, by simpa using h3⟩
mutual
/-- data as it stands in an abstract heap: lists tracked (or the script), tuples tracked or of the module -/
inductive Dq (K : PySem.W.Frag) (H : Hp) : V → PyData → Prop
  | non : Dq K H .non .none
  | bl (b : Bool) : Dq K H (.bl b) (.bool b)
  | int (i : Int) : Dq K H (.int i) (.int i)
  | str (x : Str) : Dq K H (.str x) (.str x)
  | lst {a : Addr} {xs : List V} {ds : List PyData} : RdL K H a xs → DqAll K H xs ds → Dq K H (.ref a) (.list ds)
  | tup {a : Addr} {xs : List V} {ds : List PyData} : SqT K H a xs → DqAll K H xs ds → Dq K H (.ref a) (.tuple ds)
inductive DqAll (K : PySem.W.Frag) (H : Hp) : List V → List PyData → Prop
  | nil : DqAll K H [] []
  | cons {v : V} {vs : List V} {d : PyData} {ds : List PyData} : Dq K H v d → DqAll K H vs ds → DqAll K H (v :: vs) (d :: ds)
end
mutual
theorem Dq.dp {K : PySem.W.Frag} {H : Hp} : ∀ {d : D} {v : V}, Dq K H v d → Dp K H v d
  | _, _, .non => .non
  | _, _, .bl b => .bl b
  | _, _, .int i => .int i
  | _, _, .str x => .str x
  | _, _, .lst s a => .lst s.sq (DqAll.dp a)
  | _, _, .tup s a => .tup s (DqAll.dp a)
theorem DqAll.dp {K : PySem.W.Frag} {H : Hp} : ∀ {ds : List D} {vs : List V}, DqAll K H vs ds → DpAll K H vs ds
  | _, _, .nil => .nil
  | _, _, .cons a r => .cons (Dq.dp a) (DqAll.dp r)
end
/-- what a slot holds: nothing, data that never changes, a list that nothing else refers to -/
inductive Slot where
  | no | val (d : D) | own (xs : List D)
abbrev DEnv := List Slot
/-- a value: data, or a new list -/
inductive RV where
  | d (x : D) | fl (xs : List D)
@[reducible] def RV.frz : RV → D
  | .d x => x
  | .fl xs => .list xs
/-- an operand: data, or the list that a slot owns -/
inductive Loc where
  | d (x : D) | at (i : Nat)
abbrev Sm := DEnv → Option (RV × DEnv)
abbrev Lm := DEnv → Option (Loc × DEnv)
abbrev Am := DEnv → Option (List Loc × DEnv)
def lRes (ρ : DEnv) : Loc → Option D
  | .d x => some x
  | .at i => match ρ[i]? with
    | some (Slot.own xs) => some (.list xs)
    | some (Slot.val d) => some d
    | _ => none
def lRess (ρ : DEnv) : List Loc → Option (List D)
  | [] => some []
  | l :: ls => match lRes ρ l, lRess ρ ls with
    | some d, some ds => some (d :: ds)
    | _, _ => none

/-- what stays through a def's run -/
structure Cs where
  K : PySem.W.Frag
  base : Heap
  H0 : Hp
  io : List Addr
  tabs : List (Addr × Nat)
  c : Addr
  n : Nat

def owned (ρ : DEnv) (σ : L2.St) (a : Addr) : Prop := ∃ (i : Nat) (xs : List D), ρ[i]? = some (Slot.own xs) ∧ σ[i]? = some (some (V.ref a))

structure Rep (C : Cs) (ρ : DEnv) (σ : L2.St) (F H : Hp) : Prop where
  sub : ∀ b o, F b = some o → H b = some o
  nt : ∀ b ps, F b ≠ some (HO.tbl ps)
  len : ρ.length = σ.length
  val : ∀ (i : Nat) (d : D), ρ[i]? = some (Slot.val d) → ∃ v, σ[i]? = some (some v) ∧ Dq C.K F v d
  own : ∀ (i : Nat) (xs : List D), ρ[i]? = some (Slot.own xs) → ∃ a vs, σ[i]? = some (some (V.ref a)) ∧ F a = none ∧ H a = some (HO.lst vs) ∧ DqAll C.K F vs xs ∧ (C.H0 a = none ∨ a ∈ C.io)
  inj : ∀ (i j : Nat) (xs ys : List D) (a : Addr), ρ[i]? = some (Slot.own xs) → ρ[j]? = some (Slot.own ys) → σ[i]? = some (some (V.ref a)) → σ[j]? = some (some (V.ref a)) → i = j
  stay : ∀ b o, C.H0 b = some o → b ∉ C.io → (∀ ps, o ≠ HO.tbl ps) → H b = some o
  tab0 : ∀ n P, TabN C.H0 n P → TabN H n P
  there0 : ∀ b, C.H0 b ≠ none → H b ≠ none
  tabs : ∀ t ∈ C.tabs, TabN H t.2 t.1
  code : C.n = 0 ∨ ∃ P, CodeK C.base H C.c P ∧ TabN H C.n P

/-- from one state to a later one -/
structure Post (ρ : DEnv) (σ : L2.St) (F H : Hp) (ρ' : DEnv) (F' H' : Hp) : Prop where
  f : ∀ b o, F b = some o → F' b = some o
  keep : ∀ b o, H b = some o → ¬ owned ρ σ b → (∀ ps, o ≠ HO.tbl ps) → H' b = some o
  tab : ∀ n P, TabN H n P → TabN H' n P
  there : ∀ b, H b ≠ none → H' b ≠ none
  new : ∀ b, F' b = F b ∨ H b = none ∨ owned ρ σ b
  own : ∀ (i : Nat) (xs : List D), ρ'[i]? = some (Slot.own xs) → ∃ ys : List D, ρ[i]? = some (Slot.own ys)

section
variable {C : Cs} {ρ ρ1 ρ2 : DEnv} {σ : L2.St} {F H F1 H1 F2 H2 : Hp}

theorem Post.refl (ρ : DEnv) (σ : L2.St) (F H : Hp) : Post ρ σ F H ρ F H :=
  ⟨fun _ _ e => e, fun _ _ e _ _ => e, fun _ _ h => h, fun _ h => h, fun _ => .inl rfl, fun _ xs h => ⟨xs, h⟩⟩
theorem Post.owned_back (p : Post ρ σ F H ρ1 F1 H1) {b : Addr} (h : owned ρ1 σ b) : owned ρ σ b := by
  obtain ⟨i, xs, h1, h2⟩ := h
  obtain ⟨ys, h3⟩ := p.own i xs h1
  exact ⟨i, ys, h3, h2⟩
theorem Post.trans (p : Post ρ σ F H ρ1 F1 H1) (q : Post ρ1 σ F1 H1 ρ2 F2 H2) : Post ρ σ F H ρ2 F2 H2 where
  f := fun b o e => q.f b o (p.f b o e)
  keep := fun b o e n t => q.keep b o (p.keep b o e n t) (fun z => n (p.owned_back z)) t
  tab := fun n P h => q.tab n P (p.tab n P h)
  there := fun b h => q.there b (p.there b h)
  new := fun b => by
    rcases q.new b with h | h | h
    · rcases p.new b with h' | h'
      · exact .inl (h.trans h')
      · exact .inr h'
    · refine .inr (.inl ?_)
      cases z : H b with
      | none => rfl
      | some o => exact absurd h (p.there b (by rw [z]; exact fun z => nomatch z))
    · exact .inr (.inr (p.owned_back h))
  own := fun i xs h => by
    obtain ⟨ys, h1⟩ := q.own i xs h
    exact p.own i ys h1

theorem rd_mono {a : Addr} {u : HO} (h : ∀ b o, F b = some o → F1 b = some o) (q : Rd F a u) : Rd F1 a u := by
  rcases q with q | ⟨o, q⟩
  · exact .inl (h _ _ q)
  · exact .inr ⟨o, h _ _ q⟩
theorem rdl_mono {K : PySem.W.Frag} {a : Addr} {xs : List V} (h : ∀ b o, F b = some o → F1 b = some o) (q : RdL K F a xs) : RdL K F1 a xs := by
  rcases q with q | q
  · exact .inl (rd_mono h q)
  · exact .inr q
theorem sqt_mono {K : PySem.W.Frag} {a : Addr} {xs : List V} (h : ∀ b o, F b = some o → F1 b = some o) (q : SqT K F a xs) : SqT K F1 a xs := by
  rcases q with (q | ⟨o, q⟩) | q
  · exact .inl (.inl (h _ _ q))
  · exact .inl (.inr ⟨o, h _ _ q⟩)
  · exact .inr q
mutual
theorem dp_mono {K : PySem.W.Frag} (h : ∀ b o, F b = some o → F1 b = some o) : ∀ {d : D} {v : V}, Dq K F v d → Dq K F1 v d
  | _, _, .non => .non
  | _, _, .bl b => .bl b
  | _, _, .int i => .int i
  | _, _, .str x => .str x
  | _, _, .lst s a => .lst (rdl_mono h s) (dps_mono h a)
  | _, _, .tup s a => .tup (sqt_mono h s) (dps_mono h a)
theorem dps_mono {K : PySem.W.Frag} (h : ∀ b o, F b = some o → F1 b = some o) : ∀ {ds : List D} {vs : List V}, DqAll K F vs ds → DqAll K F1 vs ds
  | _, _, .nil => .nil
  | _, _, .cons a r => .cons (dp_mono h a) (dps_mono h r)
end
theorem dps_len {K : PySem.W.Frag} : ∀ {ds : List D} {vs : List V}, DqAll K F vs ds → vs.length = ds.length
  | _, _, .nil => rfl
  | _, _, .cons _ r => by rw [List.length_cons, List.length_cons, dps_len r]
theorem dps_get {K : PySem.W.Frag} : ∀ {ds : List D} {vs : List V} {i : Nat} {d : D}, DqAll K F vs ds → ds[i]? = some d → ∃ v, vs[i]? = some v ∧ Dq K F v d
  | _, _, _, _, .nil, h => by simp at h
  | _, _, 0, _, .cons a _, h => by simp at h; subst h; exact ⟨_, rfl, a⟩
  | _, _, i + 1, d, .cons _ r, h => by
    obtain ⟨v, h1, h2⟩ := dps_get (i := i) r (by simpa using h)
    exact ⟨v, by simpa using h1, h2⟩
theorem dps_app {K : PySem.W.Frag} : ∀ {ds es : List D} {vs ws : List V}, DqAll K F vs ds → DqAll K F ws es → DqAll K F (vs ++ ws) (ds ++ es)
  | _, _, _, _, .nil, h => h
  | _, _, _, _, .cons a r, h => .cons a (dps_app r h)
theorem dps_take {K : PySem.W.Frag} : ∀ {ds : List D} {vs : List V} (n : Nat), DqAll K F vs ds → DqAll K F (vs.take n) (ds.take n)
  | _, _, 0, _ => .nil
  | _, _, _ + 1, .nil => .nil
  | _, _, n + 1, .cons a r => .cons a (dps_take n r)
theorem dps_drop {K : PySem.W.Frag} : ∀ {ds : List D} {vs : List V} (n : Nat), DqAll K F vs ds → DqAll K F (vs.drop n) (ds.drop n)
  | _, _, 0, h => h
  | _, _, _ + 1, .nil => .nil
  | _, _, n + 1, .cons _ r => dps_drop n r
theorem dps_rev {K : PySem.W.Frag} : ∀ {ds : List D} {vs : List V}, DqAll K F vs ds → DqAll K F vs.reverse ds.reverse
  | _, _, .nil => .nil
  | _, _, .cons a r => by rw [List.reverse_cons, List.reverse_cons]; exact dps_app (dps_rev r) (.cons a .nil)
theorem dps_set {K : PySem.W.Frag} : ∀ {ds : List D} {vs : List V} (i : Nat) {v : V} {d : D}, DqAll K F vs ds → Dq K F v d → DqAll K F (vs.set i v) (ds.set i d)
  | _, _, _, _, _, .nil, _ => .nil
  | _, _, 0, _, _, .cons _ r, h => .cons h r
  | _, _, i + 1, _, _, .cons a r, h => .cons a (dps_set i r h)

/-- a new list is frozen -/
theorem Rep.freeze {p : Addr} {vs : List V} {xs : List D} (R : Rep C ρ σ F H) (hF : F p = none) (hH : H p = some (HO.lst vs)) (ha : DqAll C.K F vs xs) (ho : ¬ owned ρ σ p) :
    Rep C ρ σ (upd F p (HO.lst vs)) H ∧ (∀ b o, F b = some o → upd F p (HO.lst vs) b = some o) ∧ Dq C.K (upd F p (HO.lst vs)) (.ref p) (.list xs) := by
  have up : ∀ b o, F b = some o → upd F p (HO.lst vs) b = some o := fun b o e => by
    rw [upd_ne (ne_of_none e hF)]; exact e
  refine ⟨⟨fun b o e => ?_, fun b ps e => ?_, R.len, fun i d h => ?_, fun i ys h => ?_, R.inj, R.stay, R.tab0, R.there0, R.tabs, R.code⟩, up, .lst (.inl (.inl upd_same)) (dps_mono up ha)⟩
  · by_cases hb : b = p
    · subst hb; rw [upd_same] at e; cases e; exact hH
    · rw [upd_ne hb] at e; exact R.sub b o e
  · by_cases hb : b = p
    · subst hb; rw [upd_same] at e; cases e
    · rw [upd_ne hb] at e; exact R.nt b ps e
  · obtain ⟨v, h1, h2⟩ := R.val i d h
    exact ⟨v, h1, dp_mono up h2⟩
  · obtain ⟨a, ws, h1, h2, h3, h4, h5⟩ := R.own i ys h
    have hap : a ≠ p := fun z => ho (by rw [← z]; exact ⟨i, ys, h, h1⟩)
    exact ⟨a, ws, h1, by rw [upd_ne hap]; exact h2, h3, dps_mono up h4, h5⟩
end

/-- how a value stands behind an evaluation; H: the heap ahead of it -/
def RVok (C : Cs) (ρ' : DEnv) (σ : L2.St) (H F' H' : Hp) (rv : RV) (v : V) : Prop :=
  match rv with
  | .d x => Dq C.K F' v x
  | .fl xs => ∃ p vs, v = .ref p ∧ H p = none ∧ F' p = none ∧ H' p = some (HO.lst vs) ∧ DqAll C.K F' vs xs ∧ ¬ owned ρ' σ p
def LocV (C : Cs) (σ : L2.St) (F : Hp) (v : V) : Loc → Prop
  | .d x => Dq C.K F v x
  | .at i => σ[i]? = some (some v)
inductive LocVs (C : Cs) (σ : L2.St) (F : Hp) : List V → List Loc → Prop where
  | nil : LocVs C σ F [] []
  | cons {v : V} {vs : List V} {l : Loc} {ls : List Loc} : LocV C σ F v l → LocVs C σ F vs ls → LocVs C σ F (v :: vs) (l :: ls)

/-! ### readings -/
def tM (C : Cs) (f : Sm) : TE := fun σ H Q => ∃ ρ F rv ρ', Rep C ρ σ F H ∧ f ρ = some (rv, ρ') ∧
  ∀ v F' H', Rep C ρ' σ F' H' → Post ρ σ F H ρ' F' H' → RVok C ρ' σ H F' H' rv v → Q v H'
def tF (C : Cs) (f : Sm) : TE := fun σ H Q => ∃ ρ F rv ρ', Rep C ρ σ F H ∧ f ρ = some (rv, ρ') ∧
  ∀ v F' H', Rep C ρ' σ F' H' → Post ρ σ F H ρ' F' H' → Dq C.K F' v rv.frz → Q v H'
def tL (C : Cs) (l : Lm) : TE := fun σ H Q => ∃ ρ F lo ρ', Rep C ρ σ F H ∧ l ρ = some (lo, ρ') ∧
  ∀ v F' H', Rep C ρ' σ F' H' → Post ρ σ F H ρ' F' H' → LocV C σ F' v lo → Q v H'
def tA (C : Cs) (l : Am) : TA := fun σ H Q => ∃ ρ F lo ρ', Rep C ρ σ F H ∧ l ρ = some (lo, ρ') ∧
  ∀ vs F' H', Rep C ρ' σ F' H' → Post ρ σ F H ρ' F' H' → LocVs C σ F' vs lo → Q vs H'
def tT (C : Cs) (f : DEnv → Option (Bool × DEnv)) : TT := fun σ H Q => ∃ ρ F b ρ', Rep C ρ σ F H ∧ f ρ = some (b, ρ') ∧
  ∀ F' H', Rep C ρ' σ F' H' → Post ρ σ F H ρ' F' H' → Q b H'

theorem PE.imp {X : Cx} {e : Expr} {t t' : TE} (h : PE X e t) (i : ∀ σ H Q, t' σ H Q → t σ H Q) : PE X e t' := ⟨fun pins s σ H Q I q => h.run pins s σ H Q I (i σ H Q q)⟩
theorem PT.imp {X : Cx} {e : Expr} {t t' : TT} (h : PT X e t) (i : ∀ σ H Q, t' σ H Q → t σ H Q) : PT X e t' := ⟨fun pins s σ H Q I q => h.run pins s σ H Q I (i σ H Q q)⟩
theorem PW.imp {X : Cx} {e : Expr} {t t' : TT} (h : PW X e t) (i : ∀ σ H Q, t' σ H Q → t σ H Q) : PW X e t' := ⟨fun wh pins s σ H Q I q => h.run wh pins s σ H Q I (i σ H Q q)⟩
theorem PA.imp {X : Cx} {e : List Expr} {t t' : TA} (h : PA X e t) (i : ∀ σ H Q, t' σ H Q → t σ H Q) : PA X e t' := ⟨fun p pins s σ H Q I q => h.run p pins s σ H Q I (i σ H Q q)⟩
theorem PS.imp {X : Cx} {e : Stmt} {t t' : TS} (h : PS X e t) (i : ∀ D σ H, t' D σ H → t D σ H) : PS X e t' := ⟨fun pins s σ H D I q => h.run pins s σ H D I (i D σ H q)⟩
theorem PSs.imp {X : Cx} {e : List Stmt} {t t' : TS} (h : PSs X e t) (i : ∀ D σ H, t' D σ H → t D σ H) : PSs X e t' := ⟨fun pins s σ H D I q => h.run pins s σ H D I (i D σ H q)⟩

section
variable {X : Cx} {C : Cs}

theorem RVok.frozen {ρ ρ' : DEnv} {σ : L2.St} {F H F' H' : Hp} {rv : RV} {v : V} (R : Rep C ρ' σ F' H') (p : Post ρ σ F H ρ' F' H') (h : RVok C ρ' σ H F' H' rv v) :
    ∃ F2, Rep C ρ' σ F2 H' ∧ Post ρ σ F H ρ' F2 H' ∧ Dq C.K F2 v rv.frz := by
  cases rv with
  | d x => exact ⟨F', R, p, h⟩
  | fl xs =>
    obtain ⟨q, vs, rfl, hn, hF, hH, ha, ho⟩ := h
    obtain ⟨R2, up, dp⟩ := R.freeze hF hH ha ho
    refine ⟨_, R2, ⟨fun b o e => up b o (p.f b o e), p.keep, p.tab, p.there, fun b => ?_, p.own⟩, dp⟩
    by_cases hb : b = q
    · subst hb; exact .inr (.inl hn)
    · rw [upd_ne hb]; exact p.new b
/-- a value that is kept as data -/
theorem pe_frz {e : Expr} {f : Sm} (h : PE X e (tM C f)) : PE X e (tF C f) := PE.imp h fun σ H Q q => by
  obtain ⟨ρ, F, rv, ρ', R, e, k⟩ := q
  refine ⟨ρ, F, rv, ρ', R, e, fun v F' H' R' p r => ?_⟩
  obtain ⟨F2, R2, p2, d⟩ := r.frozen R' p
  exact k v F2 H' R2 p2 d
def sFrz (f : Sm) : Sm := fun ρ => match f ρ with
  | some (rv, ρ') => some (.d rv.frz, ρ')
  | none => none
def lOf (f : Sm) : Lm := fun ρ => match f ρ with
  | some (rv, ρ') => some (.d rv.frz, ρ')
  | none => none
theorem pe_lOf {e : Expr} {f : Sm} (h : PE X e (tM C f)) : PE X e (tL C (lOf f)) := PE.imp (pe_frz h) fun σ H Q q => by
  obtain ⟨ρ, F, lo, ρ', R, e, k⟩ := q
  unfold lOf at e
  split at e
  · rename_i rv ρ2 e2
    cases e
    exact ⟨ρ, F, rv, ρ', R, e2, fun v F' H' R' p d => k v F' H' R' p d⟩
  · cases e

/-! ### names and constants -/
def sVar (i : Nat) : Sm := fun ρ => match ρ[i]? with
  | some (Slot.val d) => some (.d d, ρ)
  | some (Slot.own xs) => some (.d (.list xs), ρ.set i (Slot.val (.list xs)))
  | _ => none
def lVar (i : Nat) : Lm := fun ρ => match ρ[i]? with
  | some (Slot.val d) => some (.d d, ρ)
  | some (Slot.own _) => some (.at i, ρ)
  | _ => none
def sC (d : D) : Sm := fun ρ => some (.d d, ρ)

/-- an owned list is frozen where it stands -/
theorem Rep.freezeAt {ρ : DEnv} {σ : L2.St} {F H : Hp} {i : Nat} {xs : List D} (R : Rep C ρ σ F H) (h : ρ[i]? = some (Slot.own xs)) :
    ∃ a F', σ[i]? = some (some (V.ref a)) ∧ Rep C (ρ.set i (Slot.val (.list xs))) σ F' H ∧ Post ρ σ F H (ρ.set i (Slot.val (.list xs))) F' H ∧ Dq C.K F' (.ref a) (.list xs) := by
  obtain ⟨a, vs, h1, h2, h3, h4, h5⟩ := R.own i xs h
  have hi : i < ρ.length := (List.getElem?_eq_some_iff.mp h).1
  have up : ∀ b o, F b = some o → upd F a (HO.lst vs) b = some o := fun b o e => by
    rw [upd_ne (ne_of_none e h2)]; exact e
  have dp : Dq C.K (upd F a (HO.lst vs)) (.ref a) (.list xs) := .lst (.inl (.inl upd_same)) (dps_mono up h4)
  have back : ∀ (j : Nat) (ys : List D), (ρ.set i (Slot.val (.list xs)))[j]? = some (Slot.own ys) → j ≠ i ∧ ρ[j]? = some (Slot.own ys) := fun j ys hj => by
    by_cases e : i = j
    · subst e
      rw [List.getElem?_set_self hi] at hj
      cases hj
    · rw [List.getElem?_set_ne e] at hj
      exact ⟨Ne.symm e, hj⟩
  refine ⟨a, upd F a (HO.lst vs), h1, ⟨fun b o e => ?_, fun b ps e => ?_, by rw [List.length_set]; exact R.len, fun j d hj => ?_, fun j ys hj => ?_, fun j k ys zs b hj hk e1 e2 => ?_, R.stay, R.tab0, R.there0, R.tabs, R.code⟩,
    ⟨up, fun _ _ e _ _ => e, fun _ _ z => z, fun _ z => z, fun b => ?_, fun j ys hj => ⟨ys, (back j ys hj).2⟩⟩, dp⟩
  · by_cases hb : b = a
    · subst hb; rw [upd_same] at e; cases e; exact h3
    · rw [upd_ne hb] at e; exact R.sub b o e
  · by_cases hb : b = a
    · subst hb; rw [upd_same] at e; cases e
    · rw [upd_ne hb] at e; exact R.nt b ps e
  · by_cases e : i = j
    · subst e
      rw [List.getElem?_set_self hi] at hj
      cases hj
      exact ⟨_, h1, dp⟩
    · rw [List.getElem?_set_ne e] at hj
      obtain ⟨v, z1, z2⟩ := R.val j d hj
      exact ⟨v, z1, dp_mono up z2⟩
  · obtain ⟨hne, hj⟩ := back j ys hj
    obtain ⟨b, ws, z1, z2, z3, z4, z5⟩ := R.own j ys hj
    have hba : b ≠ a := fun z => hne (R.inj j i ys xs a hj h (by rw [z1, z]) h1)
    exact ⟨b, ws, z1, by rw [upd_ne hba]; exact z2, z3, dps_mono up z4, z5⟩
  · exact R.inj j k ys zs b (back j ys hj).2 (back k zs hk).2 e1 e2
  · by_cases hb : b = a
    · subst hb; exact .inr (.inr ⟨i, xs, h, h1⟩)
    · exact .inl (upd_ne hb)

theorem m_var {i : Nat} {x : Str} {pos : Pos} (hN : X.N[i]? = some x) (hv : Vis X.env.scope x) (hd : (x == ("__debug__" : Str)) = false) (hcd : (x == ("__classdict__" : Str)) = false) : PE X (.Name x pos) (tM C (sVar i)) :=
  PE.imp (pe_var hN hv hd hcd) fun σ H Q q => by
    obtain ⟨ρ, F, rv, ρ', R, e, k⟩ := q
    unfold sVar at e
    split at e
    · rename_i d h
      cases e
      obtain ⟨v, h1, h2⟩ := R.val i d h
      exact ⟨v, h1, k v F H R (Post.refl ..) h2⟩
    · rename_i xs h
      cases e
      obtain ⟨a, F', h1, R', p, dp⟩ := R.freezeAt h
      exact ⟨.ref a, h1, k _ F' H R' p dp⟩
    · cases e
theorem m_lvar {i : Nat} {x : Str} {pos : Pos} (hN : X.N[i]? = some x) (hv : Vis X.env.scope x) (hd : (x == ("__debug__" : Str)) = false) (hcd : (x == ("__classdict__" : Str)) = false) : PE X (.Name x pos) (tL C (lVar i)) :=
  PE.imp (pe_var hN hv hd hcd) fun σ H Q q => by
    obtain ⟨ρ, F, lo, ρ', R, e, k⟩ := q
    unfold lVar at e
    split at e
    · rename_i d h
      cases e
      obtain ⟨v, h1, h2⟩ := R.val i d h
      exact ⟨v, h1, k v F H R (Post.refl ..) h2⟩
    · rename_i xs h
      cases e
      obtain ⟨a, vs, h1, _⟩ := R.own i xs h
      exact ⟨.ref a, h1, k _ F H R (Post.refl ..) h1⟩
    · cases e
theorem tM_c {v : V} {d : D} {σ : L2.St} {H : Hp} {Q : VK} (hd : ∀ F : Hp, Dq C.K F v d) (q : tM C (sC d) σ H Q) : tC v σ H Q := by
  obtain ⟨ρ, F, rv, ρ', R, e, k⟩ := q
  cases e
  exact k v F H R (Post.refl ..) (hd F)
theorem m_int {i : Int} {j pos} : PE X (.Constant (.int i) j pos) (tM C (sC (.int i))) := PE.imp pe_int fun _ _ _ q => tM_c (fun _ => .int i) q
theorem m_bl {b : Bool} {j pos} : PE X (.Constant (.bool b) j pos) (tM C (sC (.bool b))) := PE.imp pe_bl fun _ _ _ q => tM_c (fun _ => .bl b) q
theorem m_non {j pos} : PE X (.Constant .none j pos) (tM C (sC .none)) := PE.imp pe_non fun _ _ _ q => tM_c (fun _ => .non) q
theorem m_str {x : Str} {j pos} : PE X (.Constant (.str x) j pos) (tM C (sC (.str x))) := PE.imp pe_str fun _ _ _ q => tM_c (fun _ => .str x) q
/-- a constant of the module -/
theorem m_glob {x : Str} {v : V} {u : Value} {d : D} {pos : Pos} (hg : Gl X x) (hm : X.mg x = some u) (r : RelV v u) (hd : (x == ("__debug__" : Str)) = false) (hv : ∀ F : Hp, Dq C.K F v d) : PE X (.Name x pos) (tM C (sC d)) :=
  PE.imp (pe_glob hg hm r hd) fun _ _ _ q => tM_c hv q
end
end Mi

set_option maxRecDepth 100000
set_option maxHeartbeats 2000000
namespace Mi
open PySem PySem.Spec PyProof.Rows L2 Gx

/-! ### operations on values -/
inductive DpT (K : PySem.W.Frag) (F H : Hp) : V → D → Prop where
  | frz {v : V} {d : D} : Dq K F v d → DpT K F H v d
  | own {a : Addr} {vs : List V} {xs : List D} : H a = some (.lst vs) → DqAll K F vs xs → DpT K F H (.ref a) (.list xs)
inductive DpTs (K : PySem.W.Frag) (F H : Hp) : List V → List D → Prop where
  | nil : DpTs K F H [] []
  | cons {v : V} {vs : List V} {d : D} {ds : List D} : DpT K F H v d → DpTs K F H vs ds → DpTs K F H (v :: vs) (d :: ds)
/-- the data stands in H -/
theorem DpT.dp {K : PySem.W.Frag} {F H : Hp} {v : V} {d : D} (hs : ∀ b o, F b = some o → H b = some o) (h : DpT K F H v d) : Dq K H v d := by
  cases h with
  | frz h => exact dp_mono hs h
  | own h a => exact .lst (.inl (.inl h)) (dps_mono hs a)
structure OpPost (F H F' H' : Hp) : Prop where
  f : ∀ b o, F b = some o → F' b = some o
  h : ∀ b o, H b = some o → H' b = some o
  sub : ∀ b o, F' b = some o → H' b = some o
  new : ∀ b, F' b = F b ∨ H b = none
  nt : ∀ b ps, F' b ≠ some (.tbl ps)
def OpRes (K : PySem.W.Frag) (H F' H' : Hp) (rv : RV) (v : V) : Prop :=
  match rv with
  | .d x => Dq K F' v x
  | .fl xs => ∃ p vs, v = .ref p ∧ H p = none ∧ F' p = none ∧ H' p = some (.lst vs) ∧ DqAll K F' vs xs
/-- a pure operation on data -/
def rOp (K : PySem.W.Frag) (g : D → D → Option RV) : R2 := fun x y H Q => ∃ F d e rv, (∀ b o, F b = some o → H b = some o) ∧ (∀ b ps, F b ≠ some (.tbl ps)) ∧
  DpT K F H x d ∧ DpT K F H y e ∧ g d e = some rv ∧ ∀ v F' H', OpPost F H F' H' → OpRes K H F' H' rv v → Q v H'
def rUn (K : PySem.W.Frag) (g : D → Option RV) : V → Hp → VK → Prop := fun x H Q => ∃ F d rv, (∀ b o, F b = some o → H b = some o) ∧ (∀ b ps, F b ≠ some (.tbl ps)) ∧
  DpT K F H x d ∧ g d = some rv ∧ ∀ v F' H', OpPost F H F' H' → OpRes K H F' H' rv v → Q v H'
def rCall (K : PySem.W.Frag) (g : List D → Option RV) : List V → Hp → VK → Prop := fun xs H Q => ∃ F ds rv, (∀ b o, F b = some o → H b = some o) ∧ (∀ b ps, F b ≠ some (.tbl ps)) ∧
  DpTs K F H xs ds ∧ g ds = some rv ∧ ∀ v F' H', OpPost F H F' H' → OpRes K H F' H' rv v → Q v H'

theorem OpPost.refl {F H : Hp} (hs : ∀ b o, F b = some o → H b = some o) (nt : ∀ b ps, F b ≠ some (.tbl ps)) : OpPost F H F H :=
  ⟨fun _ _ e => e, fun _ _ e => e, hs, fun _ => .inl rfl, nt⟩
/-- a new object that nothing is to change -/
theorem OpPost.frz {F H : Hp} {p : Addr} {o : HO} (hs : ∀ b o, F b = some o → H b = some o) (nt : ∀ b ps, F b ≠ some (.tbl ps)) (hp : H p = none) (ho : ∀ ps, o ≠ .tbl ps) : OpPost F H (upd F p o) (upd H p o) := by
  have fp : F p = none := by
    cases z : F p with
    | none => rfl
    | some u => rw [hs p u z] at hp; cases hp
  refine ⟨fun b u e => ?_, fun b u e => ?_, fun b u e => ?_, fun b => ?_, fun b ps e => ?_⟩
  · rw [upd_ne (ne_of_none e fp)]; exact e
  · rw [upd_ne (ne_of_none e hp)]; exact e
  · by_cases hb : b = p
    · subst hb; rw [upd_same] at e ⊢; exact e
    · rw [upd_ne hb] at e ⊢; exact hs b u e
  · by_cases hb : b = p
    · subst hb; exact .inr hp
    · exact .inl (upd_ne hb)
  · by_cases hb : b = p
    · subst hb; rw [upd_same] at e; cases e; exact ho ps rfl
    · rw [upd_ne hb] at e; exact nt b ps e
/-- a new object beside what is frozen -/
theorem OpPost.add {F H : Hp} {p : Addr} {o : HO} (hs : ∀ b o, F b = some o → H b = some o) (nt : ∀ b ps, F b ≠ some (.tbl ps)) (hp : H p = none) : OpPost F H F (upd H p o) := by
  have up : ∀ b u, H b = some u → upd H p o b = some u := fun b u e => by rw [upd_ne (ne_of_none e hp)]; exact e
  exact ⟨fun _ _ e => e, up, fun b u e => up b u (hs b u e), fun _ => .inl rfl, nt⟩
theorem free_sub {F H : Hp} {p : Addr} (hs : ∀ b o, F b = some o → H b = some o) (hp : H p = none) : F p = none := by
  cases z : F p with
  | none => rfl
  | some u => rw [hs p u z] at hp; cases hp

section
variable {X : Cx} {C : Cs}

theorem LocV.t {ρ' : DEnv} {σ : L2.St} {F F' H' : Hp} {v : V} {l : Loc} {d : D} (R : Rep C ρ' σ F' H') (hf : ∀ b o, F b = some o → F' b = some o) (h : LocV C σ F v l) (e : lRes ρ' l = some d) : DpT C.K F' H' v d := by
  cases l with
  | d x => cases e; exact .frz (dp_mono hf h)
  | «at» i =>
    simp only [lRes] at e
    split at e
    · rename_i xs h1
      cases e
      obtain ⟨a, vs, z1, z2, z3, z4, _⟩ := R.own i xs h1
      have hv : v = .ref a := Option.some.inj (Option.some.inj ((show σ[i]? = some (some v) from h).symm.trans z1))
      rw [hv]
      exact .own z3 z4
    · rename_i d' h1
      cases e
      obtain ⟨w, z1, z2⟩ := R.val i d h1
      have hv : v = w := Option.some.inj (Option.some.inj ((show σ[i]? = some (some v) from h).symm.trans z1))
      rw [hv]
      exact .frz z2
    · cases e
theorem LocV.mono {σ : L2.St} {F F' : Hp} {v : V} {l : Loc} (hf : ∀ b o, F b = some o → F' b = some o) (h : LocV C σ F v l) : LocV C σ F' v l := by
  cases l with
  | d x => exact dp_mono hf h
  | «at» i => exact h
theorem LocVs.mono {σ : L2.St} {F F' : Hp} {vs : List V} {ls : List Loc} (hf : ∀ b o, F b = some o → F' b = some o) (h : LocVs C σ F vs ls) : LocVs C σ F' vs ls := by
  induction h with
  | nil => exact .nil
  | cons a _ ih => exact .cons (a.mono hf) ih
theorem LocVs.ts {ρ' : DEnv} {σ : L2.St} {F' H' : Hp} {vs : List V} {ls : List Loc} (R : Rep C ρ' σ F' H') (h : LocVs C σ F' vs ls) : ∀ {ds : List D}, lRess ρ' ls = some ds → DpTs C.K F' H' vs ds := by
  induction h with
  | nil => intro ds e; cases e; exact .nil
  | cons a _ ih =>
    intro ds e
    unfold lRess at e
    split at e
    · rename_i d ds' h1 h2
      cases e
      exact .cons (a.t R (fun _ _ e => e) h1) (ih h2)
    · cases e

/-- a pure operation keeps all -/
theorem Rep.op {ρ : DEnv} {σ : L2.St} {F H F' H' : Hp} (R : Rep C ρ σ F H) (p : OpPost F H F' H') : Rep C ρ σ F' H' ∧ Post ρ σ F H ρ F' H' := by
  have th : ∀ b, H b ≠ none → H' b ≠ none := fun b hb z => by
    cases q : H b with
    | none => exact hb q
    | some o => rw [p.h b o q] at z; cases z
  have tab : ∀ n P, TabN H n P → TabN H' n P := TabN.ex p.h
  refine ⟨⟨p.sub, p.nt, R.len, fun i d h => ?_, fun i xs h => ?_, R.inj, fun b o e n t => p.h b o (R.stay b o e n t), fun n P h => tab n P (R.tab0 n P h), fun b h => th b (R.there0 b h), fun t h => tab _ _ (R.tabs t h), ?_⟩,
    p.f, fun b o e _ _ => p.h b o e, tab, th, fun b => (p.new b).elim .inl (fun z => .inr (.inl z)), fun i xs h => ⟨xs, h⟩⟩
  · obtain ⟨v, h1, h2⟩ := R.val i d h
    exact ⟨v, h1, dp_mono p.f h2⟩
  · obtain ⟨a, vs, h1, h2, h3, h4, h5⟩ := R.own i xs h
    refine ⟨a, vs, h1, ?_, p.h _ _ h3, dps_mono p.f h4, h5⟩
    rcases p.new a with z | z
    · rw [z]; exact h2
    · rw [h3] at z; cases z
  · rcases R.code with h | ⟨P, h1, h2⟩
    · exact .inl h
    · exact .inr ⟨P, h1.grow (Grow.ex p.h), tab _ _ h2⟩
theorem OpRes.ok {ρ : DEnv} {σ : L2.St} {F H F' H' : Hp} {H0 : Hp} {rv : RV} {v : V} (R : Rep C ρ σ F H) (h0 : ∀ b, H0 b ≠ none → H b ≠ none) (h : OpRes C.K H F' H' rv v) : RVok C ρ σ H0 F' H' rv v := by
  cases rv with
  | d x => exact h
  | fl xs =>
    obtain ⟨p, vs, rfl, h1, h2, h3, h4⟩ := h
    refine ⟨p, vs, rfl, ?_, h2, h3, h4, fun z => ?_⟩
    · cases q : H0 p with
      | none => rfl
      | some o => exact absurd h1 (h0 p (by rw [q]; exact fun z => nomatch z))
    · obtain ⟨i, ys, e1, e2⟩ := z
      obtain ⟨a, ws, z1, z2, z3, _⟩ := R.own i ys e1
      have : p = a := V.ref.inj (Option.some.inj (Option.some.inj (e2.symm.trans z1)))
      subst this
      rw [h1] at z3
      cases z3

/-! ### binary operations -/
def sBin (g : D → D → Option RV) (la lb : Lm) : Sm := fun ρ => match la ρ with
  | none => none
  | some (l1, ρ1) => match lb ρ1 with
    | none => none
    | some (l2, ρ2) => match lRes ρ2 l1, lRes ρ2 l2 with
      | some x, some y => match g x y with
        | some rv => some (rv, ρ2)
        | none => none
      | _, _ => none
theorem sBin_some {g : D → D → Option RV} {la lb : Lm} {ρ : DEnv} {r : RV × DEnv} (h : sBin g la lb ρ = some r) :
    ∃ l1 ρ1 l2 x y, la ρ = some (l1, ρ1) ∧ lb ρ1 = some (l2, r.2) ∧ lRes r.2 l1 = some x ∧ lRes r.2 l2 = some y ∧ g x y = some r.1 := by
  unfold sBin at h
  split at h
  · cases h
  · rename_i l1 ρ1 e1
    split at h
    · cases h
    · rename_i l2 ρ2 e2
      split at h
      · rename_i x y e3 e4
        split at h
        · rename_i rv e5
          cases h
          exact ⟨l1, ρ1, l2, x, y, e1, e2, e3, e4, e5⟩
        · cases h
      · cases h
theorem tOp_of {r : R2} {g : D → D → Option RV} {la lb : Lm} {σ : L2.St} {H : Hp} {Q : VK}
    (hr : ∀ x y H' Q', rOp C.K g x y H' Q' → r x y H' Q') (q : tM C (sBin g la lb) σ H Q) : tOp r (tL C la) (tL C lb) σ H Q := by
  obtain ⟨ρ, F, rv, ρ', R, e, k⟩ := q
  obtain ⟨l1, ρ1, l2, x, y, e1, e2, e3, e4, e5⟩ := sBin_some e
  refine ⟨ρ, F, l1, ρ1, R, e1, fun v1 F1 H1 R1 p1 d1 => ?_⟩
  refine ⟨ρ1, F1, l2, ρ', R1, e2, fun v2 F2 H2 R2 p2 d2 => ?_⟩
  refine hr _ _ _ _ ⟨F2, x, y, rv, R2.sub, R2.nt, d1.t R2 p2.f e3, d2.t R2 (fun _ _ e => e) e4, e5, fun v F' H' po res => ?_⟩
  obtain ⟨R3, p3⟩ := R2.op po
  exact k v F' H' R3 ((p1.trans p2).trans p3) (res.ok R2 (p1.trans p2).there)
theorem m_bin {op : Operator} {g : D → D → Option RV} {a b : Expr} {la lb : Lm} {pos : Pos} (ho : OpR X (binaryOp op) (rOp C.K g)) (ha : PE X a (tL C la)) (hb : PE X b (tL C lb)) : PE X (.BinOp a op b pos) (tM C (sBin g la lb)) :=
  PE.imp (pe_op ho ha hb) fun _ _ _ q => tOp_of (fun _ _ _ _ z => z) q
theorem m_cmp {op : CmpOp} {g : D → D → Option RV} {a b : Expr} {la lb : Lm} {pos : Pos} (ho : OpR X (compareOp op) (rOp C.K g)) (hm : behindInMarks op b = false) (ha : PE X a (tL C la)) (hb : PE X b (tL C lb)) : PE X (.Compare a [op] [b] pos) (tM C (sBin g la lb)) :=
  PE.imp (pe_cmpR ho ha hb hm) fun _ _ _ q => tOp_of (fun _ _ _ _ z => z) q

/-- a truth value that is asked for -/
def truth : D → Option Bool
  | .none => some false
  | .bool b => some b
  | .int i => some (i != 0)
  | .list xs => some (!xs.isEmpty)
  | .tuple xs => some (!xs.isEmpty)
  | _ => none
def isB : RV → Option Bool
  | .d (.bool b) => some b
  | _ => none
/-- the test of a value that is True or False -/
def tOfB (f : Sm) : DEnv → Option (Bool × DEnv) := fun ρ => match f ρ with
  | some (.d (.bool b), ρ') => some (b, ρ')
  | _ => none
theorem tOfB_some {f : Sm} {ρ : DEnv} {b : Bool} {ρ' : DEnv} (h : tOfB f ρ = some (b, ρ')) : f ρ = some (.d (.bool b), ρ') := by
  unfold tOfB at h
  split at h
  · rename_i e; cases h; exact e
  · cases h
theorem dp_bool {K : PySem.W.Frag} {F : Hp} {v : V} {b : Bool} (h : Dq K F v (.bool b)) : v = .bl b := by cases h; rfl
theorem dp_int {K : PySem.W.Frag} {F : Hp} {v : V} {i : Int} (h : Dq K F v (.int i)) : v = .int i := by cases h; rfl
theorem tT_of {f : Sm} {t : TE} {σ : L2.St} {H : Hp} {Q : Bool → Hp → Prop} (h : ∀ Q', tM C f σ H Q' → t σ H Q') (q : tT C (tOfB f) σ H Q) : t σ H (fun x H' => ∃ k, x = .bl k ∧ Q k H') := by
  obtain ⟨ρ, F, b, ρ', R, e, k⟩ := q
  exact h _ ⟨ρ, F, _, ρ', R, tOfB_some e, fun v F' H' R' p r => ⟨b, dp_bool r, k F' H' R' p⟩⟩
theorem mt_cmp {op : CmpOp} {g : D → D → Option RV} {a b : Expr} {la lb : Lm} {pos : Pos} (ho : OpR X (compareOp op) (rOp C.K g)) (hm : behindInMarks op b = false) (ha : PE X a (tL C la)) (hb : PE X b (tL C lb)) : PT X (.Compare a [op] [b] pos) (tT C (tOfB (sBin g la lb))) :=
  PT.imp (pt_cmpR ho ha hb hm) fun _ _ _ q => tT_of (fun _ z => tOp_of (fun _ _ _ _ z => z) z) q

/-! ### truth -/
def tTru (f : Lm) : DEnv → Option (Bool × DEnv) := fun ρ => match f ρ with
  | some (l, ρ') => match lRes ρ' l with
    | some d => match truth d with
      | some b => some (b, ρ')
      | none => none
    | none => none
  | none => none
theorem truV_of {K : PySem.W.Frag} {F H : Hp} {v : V} {d : D} {b : Bool} (hs : ∀ b o, F b = some o → H b = some o) (h : DpT K F H v d) (e : truth d = some b) : TruV K v H b := by
  have h' := h.dp hs
  cases h' with
  | non => cases e; rfl
  | bl c => cases e; rfl
  | int i => cases e; rfl
  | str x => cases e
  | lst s a =>
    cases e
    refine .inl ⟨_, s.sq, ?_⟩
    cases a <;> rfl
  | tup s a =>
    cases e
    refine .inr (.inl ⟨_, s, ?_⟩)
    cases a <;> rfl
theorem tTru_some {f : Lm} {ρ : DEnv} {b : Bool} {ρ' : DEnv} (h : tTru f ρ = some (b, ρ')) : ∃ l d, f ρ = some (l, ρ') ∧ lRes ρ' l = some d ∧ truth d = some b := by
  unfold tTru at h
  split at h
  · rename_i l ρ2 e1
    split at h
    · rename_i d e2
      split at h
      · rename_i c e3
        cases h
        exact ⟨l, d, e1, e2, e3⟩
      · cases h
    · cases h
  · cases h
theorem mt_tru {e : Expr} {f : Lm} (he : ∀ whole, isTrue e X.env whole = (do let v ← whole; standAt e.pos; holding [v] (truthy v))) (h : PE X e (tL C f)) (hK : C.K = X.K) : PT X e (tT C (tTru f)) :=
  PT.imp (pt_truth h he) fun σ H Q q => by
    obtain ⟨ρ, F, b, ρ', R, e, k⟩ := q
    obtain ⟨l, d, e1, e2, e3⟩ := tTru_some e
    refine ⟨ρ, F, l, ρ', R, e1, fun v F' H' R' p r => ⟨b, ?_, k F' H' R' p⟩⟩
    rw [← hK]
    exact truV_of R'.sub (r.t R' (fun _ _ e => e) e2) e3

/-! ### and, or, not -/
def tAnd2 (t u : DEnv → Option (Bool × DEnv)) : DEnv → Option (Bool × DEnv) := fun ρ => match t ρ with
  | some (true, ρ1) => u ρ1
  | some (false, ρ1) => some (false, ρ1)
  | none => none
def tOr2 (t u : DEnv → Option (Bool × DEnv)) : DEnv → Option (Bool × DEnv) := fun ρ => match t ρ with
  | some (true, ρ1) => some (true, ρ1)
  | some (false, ρ1) => u ρ1
  | none => none
def tNot2 (t : DEnv → Option (Bool × DEnv)) : DEnv → Option (Bool × DEnv) := fun ρ => match t ρ with
  | some (b, ρ1) => some (!b, ρ1)
  | none => none
theorem tand_of {t u : DEnv → Option (Bool × DEnv)} {σ : L2.St} {H : Hp} {Q : Bool → Hp → Prop} (q : tT C (tAnd2 t u) σ H Q) : tAnd (tT C t) (tT C u) σ H Q := by
  obtain ⟨ρ, F, b, ρ', R, e, k⟩ := q
  unfold tAnd2 at e
  split at e
  · rename_i ρ1 e1
    refine ⟨ρ, F, true, ρ1, R, e1, fun F1 H1 R1 p1 => ?_⟩
    show tT C u σ H1 Q
    exact ⟨ρ1, F1, b, ρ', R1, e, fun F2 H2 R2 p2 => k F2 H2 R2 (p1.trans p2)⟩
  · rename_i ρ1 e1
    cases e
    exact ⟨ρ, F, false, ρ', R, e1, fun F1 H1 R1 p1 => k F1 H1 R1 p1⟩
  · cases e
theorem tor_of {t u : DEnv → Option (Bool × DEnv)} {σ : L2.St} {H : Hp} {Q : Bool → Hp → Prop} (q : tT C (tOr2 t u) σ H Q) : tOr (tT C t) (tT C u) σ H Q := by
  obtain ⟨ρ, F, b, ρ', R, e, k⟩ := q
  unfold tOr2 at e
  split at e
  · rename_i ρ1 e1
    cases e
    exact ⟨ρ, F, true, ρ', R, e1, fun F1 H1 R1 p1 => k F1 H1 R1 p1⟩
  · rename_i ρ1 e1
    refine ⟨ρ, F, false, ρ1, R, e1, fun F1 H1 R1 p1 => ?_⟩
    show tT C u σ H1 Q
    exact ⟨ρ1, F1, b, ρ', R1, e, fun F2 H2 R2 p2 => k F2 H2 R2 (p1.trans p2)⟩
  · cases e
theorem mt_not {a : Expr} {pos : Pos} {t : DEnv → Option (Bool × DEnv)} (h : PT X a (tT C t)) : PT X (.UnaryOp .Not a pos) (tT C (tNot2 t)) :=
  PT.imp (pt_not h) fun σ H Q q => by
    obtain ⟨ρ, F, b, ρ', R, e, k⟩ := q
    unfold tNot2 at e
    split at e
    · rename_i c ρ1 e1
      cases e
      exact ⟨ρ, F, c, ρ', R, e1, fun F1 H1 R1 p1 => k F1 H1 R1 p1⟩
    · cases e
/-- a test as a value -/
def sOfT (t : DEnv → Option (Bool × DEnv)) : Sm := fun ρ => match t ρ with
  | some (b, ρ') => some (.d (.bool b), ρ')
  | none => none
/-- x and y, x or y as values: by the first one's truth -/
def sAnd (l : Sm) (u : Sm) : Sm := fun ρ => match l ρ with
  | some (rv, ρ1) => match truth rv.frz with
    | some true => u ρ1
    | some false => some (.d rv.frz, ρ1)
    | none => none
  | none => none
def sOr (l : Sm) (u : Sm) : Sm := fun ρ => match l ρ with
  | some (rv, ρ1) => match truth rv.frz with
    | some false => u ρ1
    | some true => some (.d rv.frz, ρ1)
    | none => none
  | none => none
theorem RVok.pre {ρ : DEnv} {σ : L2.St} {H H1 F' H' : Hp} {rv : RV} {v : V} (h0 : ∀ b, H b ≠ none → H1 b ≠ none) (h : RVok C ρ σ H1 F' H' rv v) : RVok C ρ σ H F' H' rv v := by
  cases rv with
  | d x => exact h
  | fl xs =>
    obtain ⟨p, vs, h1, h2, r⟩ := h
    refine ⟨p, vs, h1, ?_, r⟩
    cases q : H p with
    | none => rfl
    | some o => exact absurd h2 (h0 p (by rw [q]; exact fun z => nomatch z))
theorem m_and {a b : Expr} {rest : List Expr} {pos : Pos} {fa fb : Sm} (hK : C.K = X.K) (ha : PE X a (tM C fa)) (hb : PE X (.BoolOp .And (b :: rest) pos) (tM C fb)) : PE X (.BoolOp .And (a :: b :: rest) pos) (tM C (sAnd fa fb)) :=
  PE.imp (pe_andT (pe_frz ha) hb) fun σ H Q q => by
    obtain ⟨ρ, F, rv, ρ', R, e, k⟩ := q
    unfold sAnd at e
    split at e
    · rename_i rv1 ρ1 e1
      split at e
      · rename_i e2
        refine ⟨ρ, F, rv1, ρ1, R, e1, fun v1 F1 H1 R1 p1 d1 => ⟨true, hK ▸ truV_of R1.sub (.frz d1) e2, ?_⟩⟩
        show tM C fb σ H1 Q
        exact ⟨ρ1, F1, rv, ρ', R1, e, fun v F2 H2 R2 p2 d2 => k v F2 H2 R2 (p1.trans p2) (d2.pre p1.there)⟩
      · rename_i e2
        cases e
        exact ⟨ρ, F, rv1, ρ', R, e1, fun v1 F1 H1 R1 p1 d1 => ⟨false, hK ▸ truV_of R1.sub (.frz d1) e2, k v1 F1 H1 R1 p1 d1⟩⟩
      · cases e
    · cases e
theorem m_or {a b : Expr} {rest : List Expr} {pos : Pos} {fa fb : Sm} (hK : C.K = X.K) (ha : PE X a (tM C fa)) (hb : PE X (.BoolOp .Or (b :: rest) pos) (tM C fb)) : PE X (.BoolOp .Or (a :: b :: rest) pos) (tM C (sOr fa fb)) :=
  PE.imp (pe_orT (pe_frz ha) hb) fun σ H Q q => by
    obtain ⟨ρ, F, rv, ρ', R, e, k⟩ := q
    unfold sOr at e
    split at e
    · rename_i rv1 ρ1 e1
      split at e
      · rename_i e2
        refine ⟨ρ, F, rv1, ρ1, R, e1, fun v1 F1 H1 R1 p1 d1 => ⟨false, hK ▸ truV_of R1.sub (.frz d1) e2, ?_⟩⟩
        show tM C fb σ H1 Q
        exact ⟨ρ1, F1, rv, ρ', R1, e, fun v F2 H2 R2 p2 d2 => k v F2 H2 R2 (p1.trans p2) (d2.pre p1.there)⟩
      · rename_i e2
        cases e
        exact ⟨ρ, F, rv1, ρ', R, e1, fun v1 F1 H1 R1 p1 d1 => ⟨true, hK ▸ truV_of R1.sub (.frz d1) e2, k v1 F1 H1 R1 p1 d1⟩⟩
      · cases e
    · cases e
/-- not x as a value -/
def sNot (l : Sm) : Sm := fun ρ => match l ρ with
  | some (rv, ρ1) => match truth rv.frz with
    | some b => some (.d (.bool (!b)), ρ1)
    | none => none
  | none => none
theorem m_not {a : Expr} {pos : Pos} {fa : Sm} (hK : C.K = X.K) (ha : PE X a (tM C fa)) : PE X (.UnaryOp .Not a pos) (tM C (sNot fa)) :=
  PE.imp (pe_notT (pe_frz ha)) fun σ H Q q => by
    obtain ⟨ρ, F, rv, ρ', R, e, k⟩ := q
    unfold sNot at e
    split at e
    · rename_i rv1 ρ1 e1
      split at e
      · rename_i b e2
        cases e
        exact ⟨ρ, F, rv1, ρ', R, e1, fun v1 F1 H1 R1 p1 d1 => ⟨b, hK ▸ truV_of R1.sub (.frz d1) e2, k _ F1 H1 R1 p1 (.bl _)⟩⟩
      · cases e
    · cases e
/-- a if t else b -/
def sIf (t : DEnv → Option (Bool × DEnv)) (a b : Sm) : Sm := fun ρ => match t ρ with
  | some (true, ρ1) => a ρ1
  | some (false, ρ1) => b ρ1
  | none => none
theorem m_if {c a b : Expr} {pos : Pos} {t : DEnv → Option (Bool × DEnv)} {fa fb : Sm} (hc : PT X c (tT C t)) (ha : PE X a (tM C fa)) (hb : PE X b (tM C fb)) : PE X (.IfExp c a b pos) (tM C (sIf t fa fb)) :=
  PE.imp (pe_ifExp hc ha hb) fun σ H Q q => by
    obtain ⟨ρ, F, rv, ρ', R, e, k⟩ := q
    unfold sIf at e
    split at e
    · rename_i ρ1 e1
      refine ⟨ρ, F, true, ρ1, R, e1, fun F1 H1 R1 p1 => ?_⟩
      show tM C fa σ H1 Q
      exact ⟨ρ1, F1, rv, ρ', R1, e, fun v F2 H2 R2 p2 d2 => k v F2 H2 R2 (p1.trans p2) (d2.pre p1.there)⟩
    · rename_i ρ1 e1
      refine ⟨ρ, F, false, ρ1, R, e1, fun F1 H1 R1 p1 => ?_⟩
      show tM C fb σ H1 Q
      exact ⟨ρ1, F1, rv, ρ', R1, e, fun v F2 H2 R2 p2 d2 => k v F2 H2 R2 (p1.trans p2) (d2.pre p1.there)⟩
    · cases e

/-! ### arguments, displays -/
def aNil : Am := fun ρ => some ([], ρ)
def aCons (l : Lm) (r : Am) : Am := fun ρ => match l ρ with
  | some (x, ρ1) => match r ρ1 with
    | some (xs, ρ2) => some (x :: xs, ρ2)
    | none => none
  | none => none
theorem ma_nil : PA X [] (tA C aNil) := PA.imp pa_nil fun σ H Q q => by
  obtain ⟨ρ, F, ls, ρ', R, e, k⟩ := q
  cases e
  exact k [] F H R (Post.refl ..) .nil
theorem ma_cons {e : Expr} {es : List Expr} {l : Lm} {r : Am} (he : PE X e (tL C l)) (hr : PA X es (tA C r)) (hs : starEach (e :: es) X.env = (false, eval e X.env) :: starEach es X.env) : PA X (e :: es) (tA C (aCons l r)) :=
  PA.imp (pa_cons he hr hs) fun σ H Q q => by
    obtain ⟨ρ, F, ls, ρ', R, e, k⟩ := q
    unfold aCons at e
    split at e
    · rename_i x ρ1 e1
      split at e
      · rename_i xs ρ2 e2
        cases e
        refine ⟨ρ, F, x, ρ1, R, e1, fun v1 F1 H1 R1 p1 d1 => ?_⟩
        exact ⟨ρ1, F1, xs, ρ', R1, e2, fun vs F2 H2 R2 p2 d2 => k (v1 :: vs) F2 H2 R2 (p1.trans p2) (.cons (d1.mono p2.f) d2)⟩
      · cases e
    · cases e
/-- all arguments are kept as data -/
def sArgs (r : Am) : DEnv → Option (List D × DEnv) := fun ρ => match r ρ with
  | some (ls, ρ') => match ls.mapM (fun l => match l with | .d x => some x | .at _ => none) with
    | some ds => some (ds, ρ')
    | none => none
  | none => none
def locDs : List Loc → Option (List D)
  | [] => some []
  | .d x :: r => (locDs r).map (x :: ·)
  | .at _ :: _ => none
theorem locDs_dp {σ : L2.St} {F : Hp} {vs : List V} {ls : List Loc} (h : LocVs C σ F vs ls) : ∀ {ds : List D}, locDs ls = some ds → DqAll C.K F vs ds := by
  induction h with
  | nil => intro ds e; cases e; exact .nil
  | @cons v vs l ls a _ ih =>
    intro ds e
    cases l with
    | d x =>
      simp only [locDs, Option.map_eq_some_iff] at e
      obtain ⟨r, e1, e2⟩ := e
      subst e2
      exact .cons a (ih e1)
    | «at» i => cases e
def sTup (r : Am) : Sm := fun ρ => match r ρ with
  | some (ls, ρ') => match locDs ls with
    | some ds => if ds.length ≤ sizeLine then some (.d (.tuple ds), ρ') else none
    | none => none
  | none => none
def sLst (r : Am) : Sm := fun ρ => match r ρ with
  | some (ls, ρ') => match locDs ls with
    | some ds => if ds.length ≤ sizeLine then some (.fl ds, ρ') else none
    | none => none
  | none => none
theorem m_tup {es : List Expr} {k : Nat} {pos : Pos} {r : Am} (h : PA X es (tA C r)) : PE X (.Tuple es k pos) (tM C (sTup r)) :=
  PE.imp (pe_tup h) fun σ H Q q => by
    obtain ⟨ρ, F, rv, ρ', R, e, k⟩ := q
    unfold sTup at e
    split at e
    · rename_i ls ρ1 e1
      split at e
      · rename_i ds e2
        split at e
        · rename_i hl
          cases e
          refine ⟨ρ, F, ls, ρ', R, e1, fun vs F1 H1 R1 p1 d1 => ?_⟩
          have da := locDs_dp d1 e2
          refine ⟨by rw [dps_len da]; exact hl, fun p hp => ?_⟩
          have po : OpPost F1 H1 (upd F1 p (.tup vs)) (upd H1 p (.tup vs)) := OpPost.frz R1.sub R1.nt hp (fun _ z => nomatch z)
          obtain ⟨R2, p2⟩ := R1.op po
          exact k (.ref p) _ _ R2 (p1.trans p2) (.tup (.inl (.inl upd_same)) (dps_mono po.f da))
        · cases e
      · cases e
    · cases e
theorem m_lst {es : List Expr} {pos : Pos} {r : Am} (h : PA X es (tA C r)) : PE X (.List es pos) (tM C (sLst r)) :=
  PE.imp (pe_lst h) fun σ H Q q => by
    obtain ⟨ρ, F, rv, ρ', R, e, k⟩ := q
    unfold sLst at e
    split at e
    · rename_i ls ρ1 e1
      split at e
      · rename_i ds e2
        split at e
        · rename_i hl
          cases e
          refine ⟨ρ, F, ls, ρ', R, e1, fun vs F1 H1 R1 p1 d1 => ?_⟩
          have da := locDs_dp d1 e2
          refine ⟨by rw [dps_len da]; exact hl, fun p hp => ?_⟩
          have po : OpPost F1 H1 F1 (upd H1 p (.lst vs)) := OpPost.add R1.sub R1.nt hp
          obtain ⟨R2, p2⟩ := R1.op po
          have res : OpRes C.K H1 F1 (upd H1 p (.lst vs)) (.fl ds) (.ref p) := ⟨p, vs, rfl, hp, free_sub R1.sub hp, upd_same, da⟩
          exact k (.ref p) _ _ R2 (p1.trans p2) (res.ok R1 p1.there)
        · cases e
      · cases e
    · cases e
/-- the elements of a display are frozen -/
theorem pe_lD {e : Expr} {f : Sm} (h : PE X e (tM C f)) : PE X e (tL C (lOf f)) := pe_lOf h

/-! ### built-ins -/
def sBlt (g : List D → Option RV) (r : Am) : Sm := fun ρ => match r ρ with
  | some (ls, ρ') => match lRess ρ' ls with
    | some ds => match g ds with
      | some rv => some (rv, ρ')
      | none => none
    | none => none
  | none => none
theorem sBlt_some {g : List D → Option RV} {r : Am} {ρ : DEnv} {z : RV × DEnv} (h : sBlt g r ρ = some z) : ∃ ls ds, r ρ = some (ls, z.2) ∧ lRess z.2 ls = some ds ∧ g ds = some z.1 := by
  unfold sBlt at h
  split at h
  · rename_i ls ρ1 e1
    split at h
    · rename_i ds e2
      split at h
      · rename_i rv e3
        cases h
        exact ⟨ls, ds, e1, e2, e3⟩
      · cases h
    · cases h
  · cases h
theorem tCB_of {g : List D → Option RV} {r : Am} {σ : L2.St} {H : Hp} {Q : VK} (q : tM C (sBlt g r) σ H Q) : tCB (rCall C.K g) (tA C r) σ H Q := by
  obtain ⟨ρ, F, rv, ρ', R, e, k⟩ := q
  obtain ⟨ls, ds, e1, e2, e3⟩ := sBlt_some e
  refine ⟨ρ, F, ls, ρ', R, e1, fun vs F1 H1 R1 p1 d1 => ⟨F1, ds, rv, R1.sub, R1.nt, d1.ts R1 e2, e3, fun v F' H' po res => ?_⟩⟩
  obtain ⟨R2, p2⟩ := R1.op po
  exact k v F' H' R2 (p1.trans p2) (res.ok R1 p1.there)
end
end Mi

set_option maxRecDepth 100000
set_option maxHeartbeats 2000000
namespace Mi
open PySem PySem.Spec PyProof.Rows L2 Gx

section
variable {K : PySem.W.Frag} {F H : Hp} {v : V}
theorem dpt_int {i : Int} (h : DpT K F H v (.int i)) : v = .int i := by cases h with | frz h => cases h; rfl
theorem dpt_bool {b : Bool} (h : DpT K F H v (.bool b)) : v = .bl b := by cases h with | frz h => cases h; rfl
theorem dpt_none (h : DpT K F H v .none) : v = .non := by cases h with | frz h => cases h; rfl
theorem dpt_str {x : Str} (h : DpT K F H v (.str x)) : v = .str x := by cases h with | frz h => cases h; rfl
theorem dpt_list {xs : List D} (hs : ∀ b o, F b = some o → H b = some o) (h : DpT K F H v (.list xs)) : ∃ a vs, v = .ref a ∧ RdL K H a vs ∧ DqAll K F vs xs := by
  cases h with
  | frz h => cases h with | lst s a => exact ⟨_, _, rfl, rdl_mono hs s, a⟩
  | own h a => exact ⟨_, _, rfl, .inl (.inl h), a⟩
theorem dpt_tup {xs : List D} (h : DpT K F H v (.tuple xs)) : ∃ a vs, v = .ref a ∧ SqT K F a vs ∧ DqAll K F vs xs := by
  cases h with
  | frz h => cases h with | tup s a => exact ⟨_, _, rfl, s, a⟩
end
mutual
theorem dq_plain {K : PySem.W.Frag} {H : Hp} : ∀ {d : D} {v : V}, Dq K H v d → d.plain = true
  | _, _, .non => rfl
  | _, _, .bl b => rfl
  | _, _, .int i => rfl
  | _, _, .str x => rfl
  | _, _, .lst s a => by simp only [PyData.plain]; exact dqs_plain a
  | _, _, .tup s a => by simp only [PyData.plain]; exact dqs_plain a
theorem dqs_plain {K : PySem.W.Frag} {H : Hp} : ∀ {ds : List D} {vs : List V}, DqAll K H vs ds → PyData.plainAll ds = true
  | _, _, .nil => by simp only [PyData.plainAll]
  | _, _, .cons a r => by simp only [PyData.plainAll, dq_plain a, dqs_plain r, Bool.and_self]
end
theorem dpt_plain {K : PySem.W.Frag} {F H : Hp} {v : V} {d : D} (hs : ∀ b o, F b = some o → H b = some o) (h : DpT K F H v d) : d.plain = true := dq_plain (h.dp hs)

def bI (b : Bool) : Int := if b then 1 else 0
def gAdd : D → D → Option RV
  | .int i, .int j => some (.d (.int (i + j)))
  | .list a, .list b => if a.length + b.length ≤ sizeLine then some (.fl (a ++ b)) else none
  | .tuple a, .tuple b => if a.length + b.length ≤ sizeLine then some (.d (.tuple (a ++ b))) else none
  | .str a, .str b => if a.length + b.length ≤ sizeLine then some (.d (.str (a ++ b))) else none
  | _, _ => none
def gSub : D → D → Option RV
  | .int i, .int j => some (.d (.int (i - j)))
  | _, _ => none
def mulOk (i j : Int) : Bool := (decide (-(2 ^ 64) < i) && decide (i < 2 ^ 64)) || (decide (-(2 ^ 64) < j) && decide (j < 2 ^ 64))
def gMul : D → D → Option RV
  | .int i, .int j => if mulOk i j then some (.d (.int (i * j))) else none
  | .list a, .int k => if 0 ≤ k ∧ k ≤ 100000 ∧ a.length * k.toNat ≤ sizeLine then some (.fl (List.replicate k.toNat a).flatten) else none
  | .tuple a, .int k => if a.length ≠ 0 ∧ 2 ≤ k ∧ k ≤ 1000 ∧ a.length ≤ 1000 then some (.d (.tuple (List.replicate k.toNat a).flatten)) else none
  | _, _ => none
def gDiv : D → D → Option RV
  | .int i, .int j => if 0 < j ∧ j < 1073741824 then some (.d (.int (i / j))) else none
  | _, _ => none
def gMod : D → D → Option RV
  | .int i, .int j => if 0 < j then some (.d (.int (i % j))) else none
  | _, _ => none
def gPow : D → D → Option RV
  | .int i, .int j => if 0 ≤ j ∧ j ≤ 1000000 ∧ i.natAbs < 2 ^ 64 then some (.d (.int (i ^ j.toNat))) else none
  | _, _ => none
def gShl : D → D → Option RV
  | .int i, .int j => if 0 ≤ j ∧ j ≤ 1000000 ∧ i.natAbs < 2 ^ 64 then some (.d (.int (i * 2 ^ j.toNat))) else none
  | _, _ => none
def gShr : D → D → Option RV
  | .int i, .int j => if 0 ≤ j then some (.d (.int (i / 2 ^ j.toNat))) else none
  | _, _ => none
def gAnd : D → D → Option RV
  | .int i, .int j => some (.d (.int (Builtin.bitAnd i j)))
  | _, _ => none
def gXor : D → D → Option RV
  | .int i, .int j => some (.d (.int (Builtin.bitXor i j)))
  | _, _ => none
def shallow (d e : D) : Bool := decide (min d.depth e.depth ≤ 60)
def gEq (d e : D) : Option RV := if shallow d e then some (.d (.bool (PyData.eqv d e))) else none
def gNe (d e : D) : Option RV := if shallow d e then some (.d (.bool (!PyData.eqv d e))) else none
def okLt (d e : D) : Bool := PySem.W.alike d e && shallow d e && (match d with | .none => false | _ => true)
def gLt (d e : D) : Option RV := match d, e with
  | .int i, .int j => some (.d (.bool (decide (i < j))))
  | _, _ => if okLt d e then some (.d (.bool (PySem.W.dataLt d e))) else none
def gGt (d e : D) : Option RV := match d, e with
  | .int i, .int j => some (.d (.bool (decide (j < i))))
  | _, _ => if okLt d e then some (.d (.bool (PySem.W.dataLt e d))) else none
def gLe (d e : D) : Option RV := match d, e with
  | .int i, .int j => some (.d (.bool (decide (i ≤ j))))
  | _, _ => if okLt d e then some (.d (.bool (!PySem.W.dataLt e d))) else none
def gGe (d e : D) : Option RV := match d, e with
  | .int i, .int j => some (.d (.bool (decide (j ≤ i))))
  | _, _ => if okLt d e then some (.d (.bool (!PySem.W.dataLt d e))) else none
def gIn (d e : D) : Option RV := match e with
  | .list xs => if min (PyData.depthAll xs) d.depth ≤ 60 then some (.d (.bool (xs.any fun y => PyData.eqv y d))) else none
  | .tuple xs => if min (PyData.depthAll xs) d.depth ≤ 60 then some (.d (.bool (xs.any fun y => PyData.eqv y d))) else none
  | _ => none
def gNi (d e : D) : Option RV := match e with
  | .list xs => if min (PyData.depthAll xs) d.depth ≤ 60 then some (.d (.bool (!xs.any fun y => PyData.eqv y d))) else none
  | .tuple xs => if min (PyData.depthAll xs) d.depth ≤ 60 then some (.d (.bool (!xs.any fun y => PyData.eqv y d))) else none
  | _ => none

section
variable {X : Cx}
theorem opi {f : Value → Value → Sem Value} {Cc : Int → Int → Prop} {g2 : Int → Int → Int} (ho : OpR X f (rI Cc fun i j => .int (g2 i j)))
    {pins : List (Addr × Obj)} {s : Shared} {σ : L2.St} {H F : Hp} {x y : V} {v u : Value} {Q : VK} (I : Inv X pins σ H s) (rx : RelV x v) (ry : RelV y u)
    (sub : ∀ b o, F b = some o → H b = some o) (nt : ∀ b ps, F b ≠ some (.tbl ps)) {i j : Int} (hx : x = .int i) (hy : y = .int j) (hc : Cc i j)
    (k : ∀ v F' H', OpPost F H F' H' → OpRes X.K H F' H' (.d (.int (g2 i j))) v → Q v H') : wpAny (model X.prog X.w) X.A (f v u) (EP X pins σ Q) X.xe s :=
  ho pins s σ H x y v u Q I rx ry ⟨i, j, hx, hy, hc, k _ F H (OpPost.refl sub nt) (.int _)⟩
theorem opi0 {f : Value → Value → Sem Value} {g2 : Int → Int → Int} (ho : OpR X f (rI0 fun i j => .int (g2 i j)))
    {pins : List (Addr × Obj)} {s : Shared} {σ : L2.St} {H F : Hp} {x y : V} {v u : Value} {Q : VK} (I : Inv X pins σ H s) (rx : RelV x v) (ry : RelV y u)
    (sub : ∀ b o, F b = some o → H b = some o) (nt : ∀ b ps, F b ≠ some (.tbl ps)) {i j : Int} (hx : x = .int i) (hy : y = .int j)
    (k : ∀ v F' H', OpPost F H F' H' → OpRes X.K H F' H' (.d (.int (g2 i j))) v → Q v H') : wpAny (model X.prog X.w) X.A (f v u) (EP X pins σ Q) X.xe s :=
  ho pins s σ H x y v u Q I rx ry ⟨i, j, hx, hy, k _ F H (OpPost.refl sub nt) (.int _)⟩
theorem opb0 {f : Value → Value → Sem Value} {g2 : Int → Int → Bool} (ho : OpR X f (rI0 fun i j => .bl (g2 i j)))
    {pins : List (Addr × Obj)} {s : Shared} {σ : L2.St} {H F : Hp} {x y : V} {v u : Value} {Q : VK} (I : Inv X pins σ H s) (rx : RelV x v) (ry : RelV y u)
    (sub : ∀ b o, F b = some o → H b = some o) (nt : ∀ b ps, F b ≠ some (.tbl ps)) {i j : Int} (hx : x = .int i) (hy : y = .int j)
    (k : ∀ v F' H', OpPost F H F' H' → OpRes X.K H F' H' (.d (.bool (g2 i j))) v → Q v H') : wpAny (model X.prog X.w) X.A (f v u) (EP X pins σ Q) X.xe s :=
  ho pins s σ H x y v u Q I rx ry ⟨i, j, hx, hy, k _ F H (OpPost.refl sub nt) (.bl _)⟩

/-- a list that is read: its object -/
theorem inv_rd {pins : List (Addr × Obj)} {σ : L2.St} {H : Hp} {s : Shared} {l : Addr} {xs : List V} (I : Inv X pins σ H s) (h : RdL X.K H l xs) :
    xs.length ≤ sizeLine ∧ ∃ (its : List Value) (n : Nat), Vals xs its ∧ xs.length = its.length ∧ s.heap.get? l = some { cls := .type "list", data := .seq its.toArray n } := by
  rcases h with h | ⟨its, n, h1, h2, h3⟩
  · obtain ⟨z, its, n, r, e⟩ := h.ok I.hok
    exact ⟨z, its, n, r, r.length, e⟩
  · exact ⟨by rw [h3.length]; exact h2, its, n, h3, h3.length, I.kIn l _ h1⟩
/-- a new list behind an operation -/
theorem new_list {pins : List (Addr × Obj)} {σ : L2.St} {H F : Hp} {s : Shared} {its : List Value} {ys : List V} {ds : List D} {t' : Nat} {Q : VK} (I : Inv X pins σ H s) (hv : Vals ys its) (hz : ys.length ≤ sizeLine)
    (sub : ∀ b o, F b = some o → H b = some o) (nt : ∀ b ps, F b ≠ some (.tbl ps)) (hd : DqAll X.K F ys ds)
    (k : ∀ v F' H', OpPost F H F' H' → OpRes X.K H F' H' (.fl ds) v → Q v H') :
    EP X pins σ Q (.ref s.heap.objs.size) { s with heap := s.heap.push { cls := .type "list", data := .seq its.toArray }, toks := t' } :=
  ⟨.ref _, _, I.lnew (t' := t') hv hz, rfl, k _ F _ (OpPost.add sub nt I.fresh) ⟨_, ys, rfl, I.fresh, free_sub sub I.fresh, upd_same, hd⟩⟩

theorem o_add : OpR X (binaryOp .Add) (rOp X.K gAdd) := by
  intro pins s σ H x y v u Q I rx ry h
  obtain ⟨F, d, e, rv, sub, nt, hd, he, hg, k⟩ := h
  unfold gAdd at hg
  split at hg
  · cases hg
    exact opi0 op_add I rx ry sub nt (dpt_int hd) (dpt_int he) k
  · rename_i a b
    split at hg
    · rename_i hl
      cases hg
      obtain ⟨p, xs, rfl, hp, ha⟩ := dpt_list sub hd
      obtain ⟨q, ys, rfl, hq, hb⟩ := dpt_list sub he
      cases rx
      cases ry
      obtain ⟨z, its, n, r, hl1, e1⟩ := inv_rd I hp
      obtain ⟨z2, its2, n2, r2, hl2, e2⟩ := inv_rd I hq
      have l1 := dps_len ha
      have l2 := dps_len hb
      refine PySem.P.add_list e1 e2 ?_ (by rw [List.size_toArray, List.size_toArray]; omega)
      have ea : its.toArray ++ its2.toArray = (its ++ its2).toArray := by simp
      rw [ea]
      exact new_list I (r.append r2) (by rw [List.length_append]; omega) sub nt (dps_app ha hb) k
    · cases hg
  · rename_i a b
    split at hg
    · rename_i hl
      cases hg
      obtain ⟨p, xs, rfl, hp, ha⟩ := dpt_tup hd
      obtain ⟨q, ys, rfl, hq, hb⟩ := dpt_tup he
      have l1 := dps_len ha
      have l2 := dps_len hb
      have hab := dps_app ha hb
      refine op_catA pins s σ H _ _ v u Q I rx ry ⟨p, q, xs, ys, rfl, rfl, sqt_mono sub hp, sqt_mono sub hq, by omega, fun z => ?_, fun _ z => ?_, fun _ _ w hw => ?_⟩
      · subst z
        exact k _ F H (OpPost.refl sub nt) (.tup (by rw [List.nil_append]; exact hq) hab)
      · subst z
        exact k _ F H (OpPost.refl sub nt) (.tup (by rw [List.append_nil]; exact hp) hab)
      · have po : OpPost F H (upd F w (.tup (xs ++ ys))) (upd H w (.tup (xs ++ ys))) := OpPost.frz sub nt hw (fun _ z => nomatch z)
        exact k _ _ _ po (.tup (.inl (.inl upd_same)) (dps_mono po.f hab))
    · cases hg
  · split at hg
    · rename_i hl
      cases hg
      exact op_add_str pins s σ H x y v u Q I rx ry ⟨_, _, dpt_str hd, dpt_str he, hl, k _ F H (OpPost.refl sub nt) (.str _)⟩
    · cases hg
  · cases hg
theorem o_sub : OpR X (binaryOp .Sub) (rOp X.K gSub) := by
  intro pins s σ H x y v u Q I rx ry h
  obtain ⟨F, d, e, rv, sub, nt, hd, he, hg, k⟩ := h
  unfold gSub at hg
  split at hg
  · cases hg
    exact opi0 op_sub I rx ry sub nt (dpt_int hd) (dpt_int he) k
  · cases hg
theorem dps_rep {K : PySem.W.Frag} {F : Hp} {vs : List V} {ds : List D} (h : DqAll K F vs ds) : ∀ n : Nat, DqAll K F (List.replicate n vs).flatten (List.replicate n ds).flatten
  | 0 => .nil
  | n + 1 => by
    rw [List.replicate_succ, List.replicate_succ, List.flatten_cons, List.flatten_cons]
    exact dps_app h (dps_rep h n)
theorem rep_len {α : Type} (xs : List α) (n : Nat) : (List.replicate n xs).flatten.length = xs.length * n := by
  rw [PyProof.Rows.lm_len_rep_flat, Nat.mul_comm]
theorem o_mul : OpR X (binaryOp .Mult) (rOp X.K gMul) := by
  intro pins s σ H x y v u Q I rx ry h
  obtain ⟨F, d, e, rv, sub, nt, hd, he, hg, k⟩ := h
  unfold gMul at hg
  split at hg
  · split at hg
    · rename_i i j hm
      cases hg
      refine opi op_mul I rx ry sub nt (dpt_int hd) (dpt_int he) ?_ k
      simp only [mulOk, Bool.or_eq_true, Bool.and_eq_true, decide_eq_true_eq] at hm
      exact hm
    · cases hg
  · rename_i a kk
    split at hg
    · rename_i hl
      obtain ⟨h0, h1, hz⟩ := hl
      cases hg
      obtain ⟨p, xs, rfl, hp, ha⟩ := dpt_list sub hd
      have hy := dpt_int he
      subst hy
      have la := dps_len ha
      cases rx
      obtain ⟨t, rfl⟩ := ry
      obtain ⟨z, its, n, r, hl1, e1⟩ := inv_rd I hp
      have hlen : its.toArray.size * kk.toNat ≤ sizeLine := by rw [List.size_toArray, ← hl1, la]; exact hz
      have hcap : ¬ its.toArray.size * kk.toNat > (2 ^ 63 - 1) / 8 := by
        have : (sizeLine : Nat) ≤ (2 ^ 63 - 1) / 8 := by decide
        omega
      have hfit : ¬ (!Builtin.List.listFitsIndex kk) = true := by
        rw [fitsIndex_both (by omega) (by omega)]
        exact Bool.false_ne_true
      have hlong : ¬ Builtin.List.listTooLong (its.toArray.size * kk.toNat) = true := by
        rw [notLongL hlen]
        exact Bool.false_ne_true
      have f0 : ∀ m : Nat, List.foldl (fun x1 x2 => x1 ++ x2) #[] (List.replicate m its.toArray) = (List.replicate m its).flatten.toArray := fun m => by
        have z := foldl_rep its m []
        rw [List.nil_append] at z
        exact z
      have hnew : List.foldl (fun x1 x2 => x1 ++ x2) #[] (List.replicate (if its.toArray.isEmpty = true then 0 else kk.toNat) its.toArray) = (List.replicate kk.toNat its).flatten.toArray := by
        rw [f0]
        cases its with
        | nil => simp
        | cons a r' => rw [if_neg (by simp)]
      refine wpAny_binaryOp_repeat_ref (T := "list") (U := "int") (by decide) ⟨_, e1, rfl⟩ (fun s' => typeIs_int s' kk t) noFill_list_mul PySem.F.fills_int_mul PySem.F.slot_int_rmul repeat_list PySem.F.slot_int_index.lookup
        (call_meets PySem.F.slot_int_rmul (typeIs_int s kk t) PySem.F.entry_int_rmul (PySem.F.args_int_rmul_2 _ _) (int___rmul___int_list kk t p its.toArray n)
          ⟨e1, rfl, ⟨_, e1, rfl⟩, call_meets PySem.F.slot_list_mul ⟨_, e1, rfl⟩ PySem.F.entry_list_mul (PySem.F.args_list_mul_2 _ _) (AutoListH.list___mul___list_int_3 p its.toArray n kk t hfit hcap hlong) ⟨e1, ?_⟩⟩)
      rw [hnew]
      exact new_list I (r.rep kk.toNat) (by rw [rep_len, la]; exact hz) sub nt (dps_rep ha kk.toNat) k
    · cases hg
  · rename_i a kk
    split at hg
    · rename_i hl
      obtain ⟨h0, h1, h2, hz⟩ := hl
      cases hg
      obtain ⟨p, xs, rfl, hp, ha⟩ := dpt_tup hd
      have la := dps_len ha
      refine op_repT pins s σ H _ _ v u Q I rx ry ⟨p, kk, xs, rfl, dpt_int he, sqt_mono sub hp, fun z => ?_, h1, h2, by omega, fun w hw => ?_⟩
      · subst z
        exact h0 (by rw [← la]; rfl)
      · have po : OpPost F H (upd F w (.tup (List.replicate kk.toNat xs).flatten)) (upd H w (.tup (List.replicate kk.toNat xs).flatten)) := OpPost.frz sub nt hw (fun _ z => nomatch z)
        exact k _ _ _ po (.tup (.inl (.inl upd_same)) (dps_mono po.f (dps_rep ha kk.toNat)))
    · cases hg
  · cases hg
theorem o_div : OpR X (binaryOp .FloorDiv) (rOp X.K gDiv) := by
  intro pins s σ H x y v u Q I rx ry h
  obtain ⟨F, d, e, rv, sub, nt, hd, he, hg, k⟩ := h
  unfold gDiv at hg
  split at hg
  · split at hg
    · rename_i hc
      cases hg
      exact opi op_fdiv I rx ry sub nt (dpt_int hd) (dpt_int he) hc k
    · cases hg
  · cases hg
theorem o_mod : OpR X (binaryOp .Mod) (rOp X.K gMod) := by
  intro pins s σ H x y v u Q I rx ry h
  obtain ⟨F, d, e, rv, sub, nt, hd, he, hg, k⟩ := h
  unfold gMod at hg
  split at hg
  · split at hg
    · rename_i hc
      cases hg
      exact opi op_mod I rx ry sub nt (dpt_int hd) (dpt_int he) hc k
    · cases hg
  · cases hg
theorem o_pow : OpR X (binaryOp .Pow) (rOp X.K gPow) := by
  intro pins s σ H x y v u Q I rx ry h
  obtain ⟨F, d, e, rv, sub, nt, hd, he, hg, k⟩ := h
  unfold gPow at hg
  split at hg
  · split at hg
    · rename_i hc
      cases hg
      exact opi op_pow I rx ry sub nt (dpt_int hd) (dpt_int he) hc k
    · cases hg
  · cases hg
theorem o_shl : OpR X (binaryOp .LShift) (rOp X.K gShl) := by
  intro pins s σ H x y v u Q I rx ry h
  obtain ⟨F, d, e, rv, sub, nt, hd, he, hg, k⟩ := h
  unfold gShl at hg
  split at hg
  · split at hg
    · rename_i hc
      cases hg
      exact opi op_shl I rx ry sub nt (dpt_int hd) (dpt_int he) hc k
    · cases hg
  · cases hg
theorem o_shr : OpR X (binaryOp .RShift) (rOp X.K gShr) := by
  intro pins s σ H x y v u Q I rx ry h
  obtain ⟨F, d, e, rv, sub, nt, hd, he, hg, k⟩ := h
  unfold gShr at hg
  split at hg
  · split at hg
    · rename_i hc
      cases hg
      exact opi op_shr I rx ry sub nt (dpt_int hd) (dpt_int he) hc k
    · cases hg
  · cases hg
theorem o_and : OpR X (binaryOp .BitAnd) (rOp X.K gAnd) := by
  intro pins s σ H x y v u Q I rx ry h
  obtain ⟨F, d, e, rv, sub, nt, hd, he, hg, k⟩ := h
  unfold gAnd at hg
  split at hg
  · cases hg
    exact opi0 op_and I rx ry sub nt (dpt_int hd) (dpt_int he) k
  · cases hg
theorem o_xor : OpR X (binaryOp .BitXor) (rOp X.K gXor) := by
  intro pins s σ H x y v u Q I rx ry h
  obtain ⟨F, d, e, rv, sub, nt, hd, he, hg, k⟩ := h
  unfold gXor at hg
  split at hg
  · cases hg
    exact opi0 op_xor I rx ry sub nt (dpt_int hd) (dpt_int he) k
  · cases hg

/-! ### comparisons -/
theorem reads_of {pins : List (Addr × Obj)} {σ : L2.St} {H F : Hp} {s : Shared} {x : V} {v : Value} {d : D} (I : Inv X pins σ H s) (sub : ∀ b o, F b = some o → H b = some o) (rx : RelV x v) (h : DpT X.K F H x d) : ∃ as, Reads s.heap v d as :=
  Dp.reads I d x v (h.dp sub).dp rx
theorem o_eq (hu : X.A.units + 64 < cLine) : OpR X (compareOp .Eq) (rOp X.K gEq) := by
  intro pins s σ H x y v u Q I rx ry h
  obtain ⟨F, d, e, rv, sub, nt, hd, he, hg, k⟩ := h
  unfold gEq at hg
  split at hg
  · rename_i hs
    cases hg
    obtain ⟨as, r1⟩ := reads_of I sub rx hd
    obtain ⟨bs, r2⟩ := reads_of I sub ry he
    have hs := of_decide_eq_true hs
    exact SeqAt.eq_plain r1 r2 (dpt_plain sub hd) (dpt_plain sub he) (by omega) ⟨.bl _, H, I, rfl, k _ F H (OpPost.refl sub nt) (.bl _)⟩
  · cases hg
theorem o_ne (hu : X.A.units + 64 < cLine) : OpR X (compareOp .NotEq) (rOp X.K gNe) := by
  intro pins s σ H x y v u Q I rx ry h
  obtain ⟨F, d, e, rv, sub, nt, hd, he, hg, k⟩ := h
  unfold gNe at hg
  split at hg
  · rename_i hs
    cases hg
    obtain ⟨as, r1⟩ := reads_of I sub rx hd
    obtain ⟨bs, r2⟩ := reads_of I sub ry he
    have hs := of_decide_eq_true hs
    exact SeqAt.ne_plain r1 r2 (dpt_plain sub hd) (dpt_plain sub he) (by omega) ⟨.bl _, H, I, rfl, k _ F H (OpPost.refl sub nt) (.bl _)⟩
  · cases hg
theorem okLt_of {d e : D} (h : okLt d e = true) : PySem.W.alike d e = true ∧ min d.depth e.depth ≤ 60 ∧ d ≠ .none := by
  unfold okLt shallow at h
  simp only [Bool.and_eq_true, decide_eq_true_eq] at h
  obtain ⟨⟨h1, h2⟩, h3⟩ := h
  refine ⟨h1, h2, fun z => ?_⟩
  subst z
  cases h3
theorem o_lt (hu : X.A.units + 64 < cLine) : OpR X (compareOp .Lt) (rOp X.K gLt) := by
  intro pins s σ H x y v u Q I rx ry h
  obtain ⟨F, d, e, rv, sub, nt, hd, he, hg, k⟩ := h
  unfold gLt at hg
  split at hg
  · cases hg
    exact opb0 op_lt I rx ry sub nt (dpt_int hd) (dpt_int he) k
  · split at hg
    · rename_i hs
      cases hg
      obtain ⟨as, r1⟩ := reads_of I sub rx hd
      obtain ⟨bs, r2⟩ := reads_of I sub ry he
      obtain ⟨a1, a2, a3⟩ := okLt_of hs
      exact PySem.W.lt_data r1 r2 a1 a3 (by omega) ⟨.bl _, H, I, rfl, k _ F H (OpPost.refl sub nt) (.bl _)⟩
    · cases hg
theorem o_gt (hu : X.A.units + 64 < cLine) : OpR X (compareOp .Gt) (rOp X.K gGt) := by
  intro pins s σ H x y v u Q I rx ry h
  obtain ⟨F, d, e, rv, sub, nt, hd, he, hg, k⟩ := h
  unfold gGt at hg
  split at hg
  · cases hg
    exact opb0 op_gt I rx ry sub nt (dpt_int hd) (dpt_int he) k
  · split at hg
    · rename_i hs
      cases hg
      obtain ⟨as, r1⟩ := reads_of I sub rx hd
      obtain ⟨bs, r2⟩ := reads_of I sub ry he
      obtain ⟨a1, a2, a3⟩ := okLt_of hs
      exact PySem.W.gt_data r1 r2 a1 a3 (by omega) ⟨.bl _, H, I, rfl, k _ F H (OpPost.refl sub nt) (.bl _)⟩
    · cases hg
theorem o_le (hu : X.A.units + 64 < cLine) : OpR X (compareOp .LtE) (rOp X.K gLe) := by
  intro pins s σ H x y v u Q I rx ry h
  obtain ⟨F, d, e, rv, sub, nt, hd, he, hg, k⟩ := h
  unfold gLe at hg
  split at hg
  · cases hg
    exact opb0 op_le I rx ry sub nt (dpt_int hd) (dpt_int he) k
  · split at hg
    · rename_i hs
      cases hg
      obtain ⟨as, r1⟩ := reads_of I sub rx hd
      obtain ⟨bs, r2⟩ := reads_of I sub ry he
      obtain ⟨a1, a2, a3⟩ := okLt_of hs
      exact PySem.W.le_data r1 r2 a1 a3 (by omega) ⟨.bl _, H, I, rfl, k _ F H (OpPost.refl sub nt) (.bl _)⟩
    · cases hg
theorem o_ge (hu : X.A.units + 64 < cLine) : OpR X (compareOp .GtE) (rOp X.K gGe) := by
  intro pins s σ H x y v u Q I rx ry h
  obtain ⟨F, d, e, rv, sub, nt, hd, he, hg, k⟩ := h
  unfold gGe at hg
  split at hg
  · cases hg
    exact opb0 op_ge I rx ry sub nt (dpt_int hd) (dpt_int he) k
  · split at hg
    · rename_i hs
      cases hg
      obtain ⟨as, r1⟩ := reads_of I sub rx hd
      obtain ⟨bs, r2⟩ := reads_of I sub ry he
      obtain ⟨a1, a2, a3⟩ := okLt_of hs
      exact PySem.W.ge_data r1 r2 a1 a3 (by omega) ⟨.bl _, H, I, rfl, k _ F H (OpPost.refl sub nt) (.bl _)⟩
    · cases hg
theorem plain_list {d : D} {xs : List D} (h : PyData.plain (.list xs) = true) : PyData.plainAll xs = true := by simpa only [PyData.plain] using h
theorem plain_tup {d : D} {xs : List D} (h : PyData.plain (.tuple xs) = true) : PyData.plainAll xs = true := by simpa only [PyData.plain] using h
theorem o_in (hu : X.A.units + 64 < cLine) : OpR X (compareOp .In) (rOp X.K gIn) := by
  intro pins s σ H x y v u Q I rx ry h
  obtain ⟨F, d, e, rv, sub, nt, hd, he, hg, k⟩ := h
  unfold gIn at hg
  split at hg
  · split at hg
    · rename_i hs
      cases hg
      obtain ⟨as, r1⟩ := reads_of I sub rx hd
      obtain ⟨bs, r2⟩ := reads_of I sub ry he
      exact SeqAt.in_list_data r2 r1 (plain_list (d := d) (dpt_plain sub he)) (dpt_plain sub hd) (by omega) ⟨.bl _, H, I, rfl, k _ F H (OpPost.refl sub nt) (.bl _)⟩
    · cases hg
  · split at hg
    · rename_i hs
      cases hg
      obtain ⟨as, r1⟩ := reads_of I sub rx hd
      obtain ⟨bs, r2⟩ := reads_of I sub ry he
      exact SeqAt.in_tuple_data r2 r1 (plain_tup (d := d) (dpt_plain sub he)) (dpt_plain sub hd) (by omega) ⟨.bl _, H, I, rfl, k _ F H (OpPost.refl sub nt) (.bl _)⟩
    · cases hg
  · cases hg
theorem o_ni (hu : X.A.units + 64 < cLine) : OpR X (compareOp .NotIn) (rOp X.K gNi) := by
  intro pins s σ H x y v u Q I rx ry h
  obtain ⟨F, d, e, rv, sub, nt, hd, he, hg, k⟩ := h
  unfold gNi at hg
  split at hg
  · split at hg
    · rename_i hs
      cases hg
      obtain ⟨as, r1⟩ := reads_of I sub rx hd
      obtain ⟨bs, r2⟩ := reads_of I sub ry he
      exact SeqAt.notIn_list_data r2 r1 (plain_list (d := d) (dpt_plain sub he)) (dpt_plain sub hd) (by omega) ⟨.bl _, H, I, rfl, k _ F H (OpPost.refl sub nt) (.bl _)⟩
    · cases hg
  · split at hg
    · rename_i hs
      cases hg
      obtain ⟨as, r1⟩ := reads_of I sub rx hd
      obtain ⟨bs, r2⟩ := reads_of I sub ry he
      exact SeqAt.notIn_tuple_data r2 r1 (plain_tup (d := d) (dpt_plain sub he)) (dpt_plain sub hd) (by omega) ⟨.bl _, H, I, rfl, k _ F H (OpPost.refl sub nt) (.bl _)⟩
    · cases hg
  · cases hg
end
end Mi

set_option maxRecDepth 100000
set_option maxHeartbeats 2000000
namespace Mi
open PySem PySem.Spec PyProof.Rows L2 Gx

/-! ### built-ins -/
def gLen : List D → Option RV
  | [.list xs] => some (.d (.int xs.length))
  | [.tuple xs] => some (.d (.int xs.length))
  | _ => none
def gAbs : List D → Option RV
  | [.int i] => some (.d (.int (if i < 0 then -i else i)))
  | _ => none
def gInt : List D → Option RV
  | [.int i] => some (.d (.int i))
  | [.bool b] => some (.d (.int (if b then 1 else 0)))
  | _ => none
def gTuple : List D → Option RV
  | [.list xs] => some (.d (.tuple xs))
  | [.tuple xs] => some (.d (.tuple xs))
  | _ => none
def gList : List D → Option RV
  | [.list xs] => some (.fl xs)
  | [.tuple xs] => some (.fl xs)
  | _ => none
def intsOf : List D → Option (List Int)
  | [] => some []
  | .int i :: r => match intsOf r with
    | some ns => some (i :: ns)
    | none => none
  | _ => none
def gSum : List D → Option RV
  | [.list xs] => match intsOf xs with
    | some ns => some (.d (.int ns.sum))
    | none => none
  | _ => none
/-- items that compare -/
def likeAll (xs : List D) : Bool := (xs.all fun x => xs.all fun y => PySem.W.alike x y) && xs.all (fun x => match x with | .none => false | _ => true) && decide (PyData.depthAll xs ≤ 60)
def gMin : List D → Option RV
  | [.list (x :: xs)] => if likeAll (x :: xs) then some (.d (PySem.W.minD x xs)) else none
  | [.int i, .int j] => some (.d (.int (if j < i then j else i)))
  | _ => none
def gMax : List D → Option RV
  | [.list (x :: xs)] => if likeAll (x :: xs) then some (.d (PySem.W.maxD x xs)) else none
  | [.int i, .int j] => some (.d (.int (if j > i then j else i)))
  | _ => none

section
variable {X : Cx}
theorem ts1 {K : PySem.W.Frag} {F H : Hp} {vs : List V} {d : D} (h : DpTs K F H vs [d]) : ∃ v, vs = [v] ∧ DpT K F H v d := by
  cases h with | cons a r => cases r; exact ⟨_, rfl, a⟩
theorem ts2 {K : PySem.W.Frag} {F H : Hp} {vs : List V} {d e : D} (h : DpTs K F H vs [d, e]) : ∃ v w, vs = [v, w] ∧ DpT K F H v d ∧ DpT K F H w e := by
  cases h with | cons a r => cases r with | cons b r => cases r; exact ⟨_, _, rfl, a, b⟩
theorem c_len : CallR X (.builtin "len") (rCall X.K gLen) := by
  intro pins s σ H xs us Q I r h
  obtain ⟨F, ds, rv, sub, nt, hd, hg, k⟩ := h
  unfold gLen at hg
  split at hg
  · cases hg
    obtain ⟨v, rfl, hv⟩ := ts1 hd
    obtain ⟨a, ws, rfl, hr, ha⟩ := dpt_list sub hv
    refine call_len_seq pins s σ H _ us Q I r ⟨a, ws, rfl, .inl (hr.sq), ?_⟩
    rw [dps_len ha]
    exact k _ F H (OpPost.refl sub nt) (.int _)
  · cases hg
    obtain ⟨v, rfl, hv⟩ := ts1 hd
    obtain ⟨a, ws, rfl, hr, ha⟩ := dpt_tup hv
    refine call_len_seq pins s σ H _ us Q I r ⟨a, ws, rfl, .inr (sqt_mono sub hr), ?_⟩
    rw [dps_len ha]
    exact k _ F H (OpPost.refl sub nt) (.int _)
  · cases hg
theorem c_abs : CallR X (.builtin "abs") (rCall X.K gAbs) := by
  intro pins s σ H xs us Q I r h
  obtain ⟨F, ds, rv, sub, nt, hd, hg, k⟩ := h
  unfold gAbs at hg
  split at hg
  · cases hg
    obtain ⟨v, rfl, hv⟩ := ts1 hd
    have e := dpt_int hv
    subst e
    exact call_abs pins s σ H _ us Q I r ⟨_, rfl, k _ F H (OpPost.refl sub nt) (.int _)⟩
  · cases hg
theorem c_int : CallR X (.type "int") (rCall X.K gInt) := by
  intro pins s σ H xs us Q I r h
  obtain ⟨F, ds, rv, sub, nt, hd, hg, k⟩ := h
  unfold gInt at hg
  split at hg
  · cases hg
    obtain ⟨v, rfl, hv⟩ := ts1 hd
    have e := dpt_int hv
    subst e
    exact call_int1 pins s σ H _ us Q I r (.inl ⟨_, rfl, k _ F H (OpPost.refl sub nt) (.int _)⟩)
  · cases hg
    obtain ⟨v, rfl, hv⟩ := ts1 hd
    have e := dpt_bool hv
    subst e
    exact call_int1 pins s σ H _ us Q I r (.inr ⟨_, rfl, k _ F H (OpPost.refl sub nt) (.int _)⟩)
  · cases hg
theorem c_tuple : CallR X (.type "tuple") (rCall X.K gTuple) := by
  intro pins s σ H xs us Q I r h
  obtain ⟨F, ds, rv, sub, nt, hd, hg, k⟩ := h
  unfold gTuple at hg
  split at hg
  · cases hg
    obtain ⟨v, rfl, hv⟩ := ts1 hd
    obtain ⟨a, ws, rfl, hr, ha⟩ := dpt_list sub hv
    refine call_tuple_of pins s σ H _ us Q I r ⟨a, ws, rfl, .inl ⟨hr.sq, fun p hp => ?_⟩⟩
    have po : OpPost F H (upd F p (.tup ws)) (upd H p (.tup ws)) := OpPost.frz sub nt hp (fun _ z => nomatch z)
    exact k _ _ _ po (.tup (.inl (.inl upd_same)) (dps_mono po.f ha))
  · cases hg
    obtain ⟨v, rfl, hv⟩ := ts1 hd
    obtain ⟨a, ws, rfl, hr, ha⟩ := dpt_tup hv
    exact call_tuple_of pins s σ H _ us Q I r ⟨a, ws, rfl, .inr ⟨sqt_mono sub hr, k _ F H (OpPost.refl sub nt) (.tup hr ha)⟩⟩
  · cases hg
theorem c_list : CallR X (.type "list") (rCall X.K gList) := by
  intro pins s σ H xs us Q I r h
  obtain ⟨F, ds, rv, sub, nt, hd, hg, k⟩ := h
  unfold gList at hg
  split at hg
  · cases hg
    obtain ⟨v, rfl, hv⟩ := ts1 hd
    obtain ⟨a, ws, rfl, hr, ha⟩ := dpt_list sub hv
    exact call_list_of pins s σ H _ us Q I r ⟨a, ws, rfl, .inl (hr.sq), fun p hp => k _ F _ (OpPost.add sub nt hp) ⟨p, ws, rfl, hp, free_sub sub hp, upd_same, ha⟩⟩
  · cases hg
    obtain ⟨v, rfl, hv⟩ := ts1 hd
    obtain ⟨a, ws, rfl, hr, ha⟩ := dpt_tup hv
    exact call_list_of pins s σ H _ us Q I r ⟨a, ws, rfl, .inr (sqt_mono sub hr), fun p hp => k _ F _ (OpPost.add sub nt hp) ⟨p, ws, rfl, hp, free_sub sub hp, upd_same, ha⟩⟩
  · cases hg
theorem ints_vs {K : PySem.W.Frag} {F : Hp} : ∀ {ds : List D} {vs : List V} {ns : List Int}, DqAll K F vs ds → intsOf ds = some ns → vs = ns.map V.int
  | [], _, _, .nil, e => by cases e; rfl
  | .int i :: r, _, ns, .cons a b, e => by
    simp only [intsOf] at e
    split at e
    · rename_i ms e2
      cases e
      cases a
      rw [ints_vs b e2]
      rfl
    · cases e
  | .none :: _, _, _, _, e => by simp [intsOf] at e
  | .bool _ :: _, _, _, _, e => by simp [intsOf] at e
  | .str _ :: _, _, _, _, e => by simp [intsOf] at e
  | .list _ :: _, _, _, _, e => by simp [intsOf] at e
  | .tuple _ :: _, _, _, _, e => by simp [intsOf] at e
  | .dict _ :: _, _, _, _, e => by simp [intsOf] at e
theorem c_sum (hc : X.calm = true) : CallR X (.builtin "sum") (rCall X.K gSum) := by
  intro pins s σ H xs us Q I r h
  obtain ⟨F, ds, rv, sub, nt, hd, hg, k⟩ := h
  unfold gSum at hg
  split at hg
  · split at hg
    · rename_i ns e
      cases hg
      obtain ⟨v, rfl, hv⟩ := ts1 hd
      obtain ⟨a, ws, rfl, hr, ha⟩ := dpt_list sub hv
      have hw := ints_vs ha e
      subst hw
      exact cr_sum hc pins s σ H _ us Q I r ⟨a, ns, rfl, hr.sq, k _ F H (OpPost.refl sub nt) (.int _)⟩
    · cases hg
  · cases hg
theorem likeAll_of {xs : List D} (h : likeAll xs = true) : PySem.W.AlikeAll xs ∧ PyData.depthAll xs ≤ 60 := by
  unfold likeAll at h
  simp only [Bool.and_eq_true, List.all_eq_true, decide_eq_true_eq] at h
  obtain ⟨⟨h1, h2⟩, h3⟩ := h
  refine ⟨⟨h1, fun x hx z => ?_⟩, h3⟩
  subst z
  have := h2 _ hx
  cases this
theorem minD_mem : ∀ (xs : List D) (x : D), PySem.W.minD x xs ∈ x :: xs
  | [], x => List.mem_cons_self
  | y :: r, x => by
    show PySem.W.minD (if PySem.W.dataLt y x then y else x) r ∈ _
    have h := minD_mem r (if PySem.W.dataLt y x then y else x)
    rcases List.mem_cons.mp h with h | h
    · rw [h]
      split
      · exact List.mem_cons_of_mem _ List.mem_cons_self
      · exact List.mem_cons_self
    · exact List.mem_cons_of_mem _ (List.mem_cons_of_mem _ h)
theorem maxD_mem : ∀ (xs : List D) (x : D), PySem.W.maxD x xs ∈ x :: xs
  | [], x => List.mem_cons_self
  | y :: r, x => by
    show PySem.W.maxD (if PySem.W.dataLt x y then y else x) r ∈ _
    have h := maxD_mem r (if PySem.W.dataLt x y then y else x)
    rcases List.mem_cons.mp h with h | h
    · rw [h]
      split
      · exact List.mem_cons_of_mem _ List.mem_cons_self
      · exact List.mem_cons_self
    · exact List.mem_cons_of_mem _ (List.mem_cons_of_mem _ h)
theorem plain_mem : ∀ {xs : List D} {x : D}, PyData.plainAll xs = true → x ∈ xs → x.plain = true
  | [], _, _, h => by cases h
  | y :: r, x, hp, h => by
    simp only [PyData.plainAll, Bool.and_eq_true] at hp
    rcases List.mem_cons.mp h with h | h
    · rw [h]; exact hp.1
    · exact plain_mem hp.2 h
/-- the item that a walk over a list has picked -/
theorem picked {pins : List (Addr × Obj)} {σ : L2.St} {H F : Hp} {s : Shared} {ws : List V} {xs : List D} {its : List Value} {v : Value} {i : Nat} {h' : Heap} {tk : Nat} {d : D} {bs : List Addr} {Q : VK}
    (I : Inv X pins σ H s) (sub : ∀ b o, F b = some o → H b = some o) (nt : ∀ b ps, F b ≠ some (.tbl ps)) (ha : DqAll X.K F ws xs) (r : Vals ws its) (hv : its[i]? = some v) (hr : Reads h' v d bs) (hk : ∀ b o, s.heap.get? b = some o → h'.get? b = some o)
    (hd : d ∈ xs) (k : ∀ v F' H', OpPost F H F' H' → OpRes X.K H F' H' (.d d) v → Q v H') : EP X pins σ Q v { s with heap := h', toks := tk } := by
  have hpl := dqs_plain ha
  obtain ⟨hi, _⟩ := List.getElem?_eq_some_iff.mp hv
  have hi2 : i < xs.length := by rw [← dps_len ha, r.length]; exact hi
  obtain ⟨w, hw, dw⟩ := dps_get ha (List.getElem?_eq_getElem hi2)
  obtain ⟨u, hu, rw'⟩ := r.get hw
  rw [hv] at hu
  cases hu
  obtain ⟨as, r2⟩ := Dp.reads I _ _ _ (dq_mono sub dw).dp rw'
  have e1 := SeqAt.readOf_plain (plain_mem hpl (List.getElem_mem hi2)) (Reads.keeps hk r2)
  have e2 := SeqAt.readOf_plain (plain_mem hpl hd) hr
  have e : xs[i] = d := e1.symm.trans e2
  rw [e] at dw
  exact ⟨w, H, I.kept (t' := tk) hk, rw', k w F H (OpPost.refl sub nt) dw⟩
where dq_mono {K : PySem.W.Frag} {F H : Hp} {v : V} {d : D} (h : ∀ b o, F b = some o → H b = some o) (q : Dq K F v d) : Dq K H v d := dp_mono h q
theorem c_min (hc : X.calm = true) (hu : X.A.units + 65 < cLine) : CallR X (.builtin "min") (rCall X.K gMin) := by
  intro pins s σ H xs us Q I r h
  obtain ⟨F, ds, rv, sub, nt, hd, hg, k⟩ := h
  unfold gMin at hg
  split at hg
  · split at hg
    · rename_i x xs hl
      cases hg
      obtain ⟨v, rfl, hv⟩ := ts1 hd
      obtain ⟨a, ws, rfl, hr, ha⟩ := dpt_list sub hv
      obtain ⟨u, rfl, ru⟩ := r.one
      cases ru
      obtain ⟨z, its, n, r1, hl1, e1⟩ := inv_rd I hr
      obtain ⟨l1, l2⟩ := likeAll_of hl
      obtain ⟨as, ra⟩ := Dp.readsAll I _ _ _ (dps_mono sub ha).dp r1
      refine PySem.W.min_list_data (I.ok.hd hc) ⟨_, e1, rfl, n, rfl⟩ (by rw [List.toList_toArray]; exact ra) l1 (by omega) (fun i v h' tk bs hv hrd hk => ?_)
      exact picked I sub nt ha r1 (by simpa using hv) hrd hk (minD_mem xs x) k
    · cases hg
  · cases hg
    obtain ⟨v, w, rfl, hv, hw⟩ := ts2 hd
    have e1 := dpt_int hv
    have e2 := dpt_int hw
    subst e1 e2
    exact call_min2 hc pins s σ H _ us Q I r ⟨_, _, rfl, k _ F H (OpPost.refl sub nt) (.int _)⟩
  · cases hg
theorem c_max (hc : X.calm = true) (hu : X.A.units + 65 < cLine) : CallR X (.builtin "max") (rCall X.K gMax) := by
  intro pins s σ H xs us Q I r h
  obtain ⟨F, ds, rv, sub, nt, hd, hg, k⟩ := h
  unfold gMax at hg
  split at hg
  · split at hg
    · rename_i x xs hl
      cases hg
      obtain ⟨v, rfl, hv⟩ := ts1 hd
      obtain ⟨a, ws, rfl, hr, ha⟩ := dpt_list sub hv
      obtain ⟨u, rfl, ru⟩ := r.one
      cases ru
      obtain ⟨z, its, n, r1, hl1, e1⟩ := inv_rd I hr
      obtain ⟨l1, l2⟩ := likeAll_of hl
      obtain ⟨as, ra⟩ := Dp.readsAll I _ _ _ (dps_mono sub ha).dp r1
      refine PySem.W.max_list_data (I.ok.hd hc) ⟨_, e1, rfl, n, rfl⟩ (by rw [List.toList_toArray]; exact ra) l1 (by omega) (fun i v h' tk bs hv hrd hk => ?_)
      exact picked I sub nt ha r1 (by simpa using hv) hrd hk (maxD_mem xs x) k
    · cases hg
  · cases hg
    obtain ⟨v, w, rfl, hv, hw⟩ := ts2 hd
    have e1 := dpt_int hv
    have e2 := dpt_int hw
    subst e1 e2
    exact call_max2 hc pins s σ H _ us Q I r ⟨_, _, rfl, k _ F H (OpPost.refl sub nt) (.int _)⟩
  · cases hg

variable {C : Cs}
theorem m_blt {id : String} {g : List D → Option RV} {x : Str} {p pos : Pos} {e : Expr} {es : List Expr} {r : Am} (hK : C.K = X.K) (hc : CallR X (.builtin id) (rCall X.K g)) (hg : Gl X x) (hm : X.mg x = none) (hv : bootBuiltins x = some (.builtin id))
    (ha : PA X (e :: es) (tA C r)) (hn : x ≠ "__name__") (hdb : (x == ("__debug__" : Str)) = false)
    (he : starEach (e :: es) X.env = (false, eval e X.env) :: starEach es X.env) (hpl : (backTo pos (starEach es X.env)).any (·.1) = false) : PE X (.Call (.Name x p) (e :: es) [] pos) (tM C (sBlt g r)) :=
  PE.imp (pe_callB hc hg hm hv ha hn hdb he hpl) fun _ _ _ q => by rw [← hK]; exact tCB_of q
theorem m_bltT {T : String} {g : List D → Option RV} {x : Str} {p pos : Pos} {e : Expr} {es : List Expr} {r : Am} (hK : C.K = X.K) (hc : CallR X (.type T) (rCall X.K g)) (hg : Gl X x) (hm : X.mg x = none) (hv : bootBuiltins x = some (.type T))
    (ha : PA X (e :: es) (tA C r)) (hn : x ≠ "__name__") (hdb : (x == ("__debug__" : Str)) = false)
    (he : starEach (e :: es) X.env = (false, eval e X.env) :: starEach es X.env) (hpl : (backTo pos (starEach es X.env)).any (·.1) = false) : PE X (.Call (.Name x p) (e :: es) [] pos) (tM C (sBlt g r)) :=
  PE.imp (pe_callTy hc hg hm hv ha hn hdb he hpl) fun _ _ _ q => by rw [← hK]; exact tCB_of q

/-! ### isinstance -/
inductive Ty where
  | int | bool | str | list | tuple
  deriving DecidableEq
@[reducible] def Ty.name : Ty → String
  | .int => "int" | .bool => "bool" | .str => "str" | .list => "list" | .tuple => "tuple"
def isTy : Ty → D → Bool
  | .int, .int _ => true
  | .int, .bool _ => true
  | .bool, .bool _ => true
  | .str, .str _ => true
  | .list, .list _ => true
  | .tuple, .tuple _ => true
  | _, _ => false
def rIsi (K : PySem.W.Frag) (T : Ty) : List V → Hp → VK → Prop := fun xs H Q => ∃ F d v, (∀ b o, F b = some o → H b = some o) ∧ DpT K F H v d ∧ xs = [v, .ty T.name] ∧ Q (.bl (isTy T d)) H
theorem c_isi (T : Ty) : CallR X (.builtin "isinstance") (rIsi X.K T) := by
  intro pins s σ H xs us Q I r h
  obtain ⟨F, d, v, sub, hd, rfl, q⟩ := h
  obtain ⟨u1, u2, rfl, r1, r2⟩ := vals2 r
  have e2 : u2 = Value.type T.name := r2
  subst e2
  obtain ⟨as, rd⟩ := reads_of I sub r1 hd
  have hpl := dpt_plain sub hd
  cases T
  · refine PySem.W.isinstance_int_data rd fun tk _ => ⟨.bl (isTy .int d), H, I.tok tk, ?_, q⟩
    cases d <;> first | rfl | (simp [PyData.plain] at hpl)
  · refine PySem.W.isinstance_bool_data rd fun tk _ => ⟨.bl (isTy .bool d), H, I.tok tk, ?_, q⟩
    cases d <;> first | rfl | (simp [PyData.plain] at hpl)
  · refine PySem.W.isinstance_str_data rd fun tk _ => ⟨.bl (isTy .str d), H, I.tok tk, ?_, q⟩
    cases d <;> first | rfl | (simp [PyData.plain] at hpl)
  · refine PySem.W.isinstance_list_data rd fun tk _ => ⟨.bl (isTy .list d), H, I.tok tk, ?_, q⟩
    cases d <;> first | rfl | (simp [PyData.plain] at hpl)
  · refine PySem.W.isinstance_tuple_data rd fun tk _ => ⟨.bl (isTy .tuple d), H, I.tok tk, ?_, q⟩
    cases d <;> first | rfl | (simp [PyData.plain] at hpl)
def sUn (g : D → Option RV) (la : Lm) : Sm := fun ρ => match la ρ with
  | none => none
  | some (l1, ρ1) => match lRes ρ1 l1 with
    | some x => match g x with
      | some rv => some (rv, ρ1)
      | none => none
    | none => none
theorem sUn_some {g : D → Option RV} {la : Lm} {ρ : DEnv} {r : RV × DEnv} (h : sUn g la ρ = some r) : ∃ l1 x, la ρ = some (l1, r.2) ∧ lRes r.2 l1 = some x ∧ g x = some r.1 := by
  unfold sUn at h
  split at h
  · cases h
  · rename_i l1 ρ1 e1
    split at h
    · rename_i x e2
      split at h
      · rename_i rv e3
        cases h
        exact ⟨l1, x, e1, e2, e3⟩
      · cases h
    · cases h
def gIsi (T : Ty) (d : D) : Option RV := some (.d (.bool (isTy T d)))
theorem m_isi {T : Ty} {x : Str} {p p2 pos : Pos} {e : Expr} {la : Lm} {u : Value} (hK : C.K = X.K) (ha : PE X e (tL C la)) (hg : Gl X "isinstance") (hm : X.mg "isinstance" = none) (hb : bootBuiltins "isinstance" = some (.builtin "isinstance"))
    (hg2 : Gl X x) (hm2 : X.mg x = none) (hv2 : bootBuiltins x = some (.type T.name)) (hn : x ≠ "__name__") (hdb : (x == ("__debug__" : Str)) = false)
    (he : starEach (e :: [.Name x p2]) X.env = (false, eval e X.env) :: starEach [.Name x p2] X.env) :
    PE X (.Call (.Name "isinstance" p) [e, .Name x p2] [] pos) (tM C (sUn (gIsi T) la)) := by
  have pt : PE X (.Name x p2) (tC (.ty T.name)) := pe_bltn hg2 hm2 hv2 rfl hn hdb
  refine PE.imp (pe_callB (c_isi T) hg hm hb (pa_cons ha (pa_cons pt pa_nil) he) (by decide) (by decide) he (by rfl)) fun σ H Q q => ?_
  obtain ⟨ρ, F, rv, ρ', R, e, k⟩ := q
  obtain ⟨l1, d, e1, e2, e3⟩ := sUn_some e
  cases e3
  refine ⟨ρ, F, l1, ρ', R, e1, fun v F1 H1 R1 p1 d1 => ?_⟩
  exact ⟨F1, d, v, R1.sub, hK ▸ d1.t R1 (fun _ _ e => e) e2, rfl, k _ F1 H1 R1 p1 (.bl _)⟩

/-! ### one operand -/
def gNeg : D → Option RV
  | .int i => some (.d (.int (-i)))
  | _ => none
theorem m_neg {a : Expr} {pos : Pos} {la : Lm} (ha : PE X a (tL C la)) : PE X (.UnaryOp .USub a pos) (tM C (sUn gNeg la)) :=
  PE.imp (pe_un un_neg ha) fun σ H Q q => by
    obtain ⟨ρ, F, rv, ρ', R, e, k⟩ := q
    obtain ⟨l1, d, e1, e2, e3⟩ := sUn_some e
    unfold gNeg at e3
    split at e3
    · rename_i i
      cases e3
      refine ⟨ρ, F, l1, ρ', R, e1, fun v F1 H1 R1 p1 d1 => ?_⟩
      exact ⟨i, dpt_int (d1.t R1 (fun _ _ e => e) e2), k _ F1 H1 R1 p1 (.int _)⟩
    · cases e3
/-- is None, is True, is False and their contraries -/
def gIsC (c : D) (neg : Bool) : D → Option RV := fun d => match c, d with
  | .none, .none => some (.d (.bool (!neg)))
  | .bool b, .bool b' => some (.d (.bool (if neg then !(decide (b' = b)) else decide (b' = b))))
  | _, _ => some (.d (.bool neg))

/-! ### items -/
def gIdx : D → D → Option RV
  | .list xs, .int i => match atI xs i with
    | some d => some (.d d)
    | none => none
  | .tuple xs, .int i => match atI xs i with
    | some d => some (.d d)
    | none => none
  | _, _ => none
theorem atI_dq {K : PySem.W.Frag} {F : Hp} {vs : List V} {ds : List D} {i : Int} {d : D} (h : DqAll K F vs ds) (e : atI ds i = some d) : ∃ v, atI vs i = some v ∧ Dq K F v d := by
  unfold atI at e ⊢
  rw [dps_len h]
  cases q : ixN ds.length i with
  | none => rw [q] at e; cases e
  | some j =>
    rw [q] at e
    exact dps_get h e
theorem x_idx : IxR X (rOp X.K gIdx) := by
  intro value slice pins s σ H x y v u Q I rx ry h hs
  obtain ⟨F, d, e, rv, sub, nt, hd, he, hg, k⟩ := h
  unfold gIdx at hg
  split at hg
  · split at hg
    · rename_i d' e'
      cases hg
      obtain ⟨a, ws, rfl, hr, ha⟩ := dpt_list sub hd
      obtain ⟨w, hw, dw⟩ := atI_dq ha e'
      exact ix_list value slice pins s σ H _ _ v u Q I rx ry ⟨a, ws, _, w, rfl, dpt_int he, hr.sq, hw, k _ F H (OpPost.refl sub nt) dw⟩ hs
    · cases hg
  · split at hg
    · rename_i d' e'
      cases hg
      obtain ⟨a, ws, rfl, hr, ha⟩ := dpt_tup hd
      obtain ⟨w, hw, dw⟩ := atI_dq ha e'
      exact ix_tup value slice pins s σ H _ _ v u Q I rx ry ⟨a, ws, _, w, rfl, dpt_int he, sqt_mono sub hr, hw, k _ F H (OpPost.refl sub nt) dw⟩ hs
    · cases hg
  · cases hg
theorem m_idx {a b : Expr} {pos : Pos} {la lb : Lm} (hK : C.K = X.K) (ha : PE X a (tL C la)) (hb : PE X b (tL C lb)) (hs : PlainIx b) : PE X (.Subscript a b pos) (tM C (sBin gIdx la lb)) :=
  PE.imp (pe_ix x_idx ha hb hs) fun _ _ _ q => tOp_of (fun _ _ _ _ z => by rw [← hK]; exact z) q

/-! ### slices -/
def cutD (xs : List D) (lo hi : Option Int) : List D := (xs.drop (HT.sIx xs.length 0 lo)).take (HT.sIx xs.length xs.length hi - HT.sIx xs.length 0 lo)
theorem cut_dq {K : PySem.W.Frag} {F : Hp} {vs : List V} {ds : List D} {lo hi : Option Int} (h : DqAll K F vs ds) : DqAll K F (cutV vs lo hi) (cutD ds lo hi) := by
  unfold cutV cutD
  rw [dps_len h]
  exact dps_take _ (dps_drop _ h)
def gSlc (lo hi : Option Int) : D → Option RV
  | .list xs => some (.fl (cutD xs lo hi))
  | .tuple xs => some (.d (.tuple (cutD xs lo hi)))
  | _ => none
def rSlD (K : PySem.W.Frag) : V → Option Int → Option Int → Hp → VK → Prop := fun x lo hi H Q => ∃ F d rv, (∀ b o, F b = some o → H b = some o) ∧ (∀ b ps, F b ≠ some (.tbl ps)) ∧
  DpT K F H x d ∧ gSlc lo hi d = some rv ∧ ∀ v F' H', OpPost F H F' H' → OpRes K H F' H' rv v → Q v H'
theorem sl_data : SlR X (rSlD X.K) := by
  intro pins s σ H x v vl vu lo hi sl Q I rx hs pl pu h
  obtain ⟨F, d, rv, sub, nt, hd, hg, k⟩ := h
  unfold gSlc at hg
  split at hg
  · cases hg
    obtain ⟨a, ws, rfl, hr, ha⟩ := dpt_list sub hd
    exact sl_list pins s σ H _ v vl vu lo hi sl Q I rx hs pl pu ⟨a, ws, rfl, hr.sq, fun p hp => k _ F _ (OpPost.add sub nt hp) ⟨p, _, rfl, hp, free_sub sub hp, upd_same, cut_dq ha⟩⟩
  · cases hg
    obtain ⟨a, ws, rfl, hr, ha⟩ := dpt_tup hd
    refine sl_tupA pins s σ H _ v vl vu lo hi sl Q I rx hs pl pu ⟨a, ws, rfl, sqt_mono sub hr, fun z => ?_, fun z p hp => ?_⟩
    · refine k _ F H (OpPost.refl sub nt) (.tup hr ?_)
      have e := cut_dq (lo := lo) (hi := hi) ha
      have e2 : cutV ws lo hi = ws := by
        unfold cutV
        rw [z.1, z.2, List.drop_zero, Nat.sub_zero, List.take_length]
      rw [e2] at e
      exact e
    · have po : OpPost F H (upd F p (.tup (cutV ws lo hi))) (upd H p (.tup (cutV ws lo hi))) := OpPost.frz sub nt hp (fun _ z => nomatch z)
      exact k _ _ _ po (.tup (.inl (.inl upd_same)) (dps_mono po.f (cut_dq ha)))
  · cases hg
/-- a slice's bound -/
abbrev Om := DEnv → Option (Option Int × DEnv)
def tOm (C : Cs) (f : Om) : TO := fun σ H Q => ∃ ρ F i ρ', Rep C ρ σ F H ∧ f ρ = some (i, ρ') ∧ ∀ F' H', Rep C ρ' σ F' H' → Post ρ σ F H ρ' F' H' → Q i H'
def oNone : Om := fun ρ => some (none, ρ)
def oSome (l : Lm) : Om := fun ρ => match l ρ with
  | some (x, ρ') => match lRes ρ' x with
    | some (.int i) => some (some i, ρ')
    | _ => none
  | none => none
theorem PO.imp {e : Option Expr} {t t' : TO} (h : PO X e t) (i : ∀ σ H Q, t' σ H Q → t σ H Q) : PO X e t' := ⟨fun pins s σ H Q I q => h.run pins s σ H Q I (i σ H Q q)⟩
theorem mo_none : PO X none (tOm C oNone) := PO.imp po_none fun σ H Q q => by
  obtain ⟨ρ, F, i, ρ', R, e, k⟩ := q
  cases e
  exact k F H R (Post.refl ..)
theorem mo_some {e : Expr} {l : Lm} (h : PE X e (tL C l)) : PO X (some e) (tOm C (oSome l)) := PO.imp (po_some h) fun σ H Q q => by
  obtain ⟨ρ, F, i, ρ', R, e, k⟩ := q
  unfold oSome at e
  split at e
  · rename_i x ρ1 e1
    split at e
    · rename_i j e2
      cases e
      exact ⟨ρ, F, x, ρ', R, e1, fun v F' H' R' p d => ⟨j, dpt_int (d.t R' (fun _ _ e => e) e2), k F' H' R' p⟩⟩
    · cases e
  · cases e
def sSlc (la : Lm) (lo hi : Om) : Sm := fun ρ => match la ρ with
  | none => none
  | some (l, ρ1) => match lo ρ1 with
    | none => none
    | some (i, ρ2) => match hi ρ2 with
      | none => none
      | some (j, ρ3) => match lRes ρ3 l with
        | none => none
        | some d => match gSlc i j d with
          | some rv => some (rv, ρ3)
          | none => none
theorem m_slc {a : Expr} {lo hi : Option Expr} {p2 pos : Pos} {la : Lm} {fl fh : Om} (hK : C.K = X.K) (ha : PE X a (tL C la)) (hl : PO X lo (tOm C fl)) (hh : PO X hi (tOm C fh)) : PE X (.Subscript a (.Slice lo hi none p2) pos) (tM C (sSlc la fl fh)) :=
  PE.imp (pe_slice sl_data ha hl hh) fun σ H Q q => by
    obtain ⟨ρ, F, rv, ρ', R, e, k⟩ := q
    unfold sSlc at e
    split at e
    · cases e
    · rename_i l ρ1 e1
      split at e
      · cases e
      · rename_i i ρ2 e2
        split at e
        · cases e
        · rename_i j ρ3 e3
          split at e
          · cases e
          · rename_i d e4
            split at e
            · rename_i rv' e5
              cases e
              refine ⟨ρ, F, l, ρ1, R, e1, fun v1 F1 H1 R1 p1 d1 => ⟨ρ1, F1, i, ρ2, R1, e2, fun F2 H2 R2 p2 => ⟨ρ2, F2, j, ρ', R2, e3, fun F3 H3 R3 p3 => ?_⟩⟩⟩
              have hd := d1.t R3 (fun b o e => p3.f b o (p2.f b o e)) e4
              refine ⟨F3, d, rv, R3.sub, R3.nt, hK ▸ hd, e5, fun v F' H' po res => ?_⟩
              obtain ⟨R4, p4⟩ := R3.op po
              exact k v F' H' R4 (((p1.trans p2).trans p3).trans p4) ((hK.symm ▸ res : OpRes C.K H3 F' H' rv v).ok R3 ((p1.trans p2).trans p3).there)
            · cases e

/-! ### a < b < c -/
def sChn (g g2 : D → D → Option RV) (la lb lc : Lm) : Sm := fun ρ => match la ρ with
  | none => none
  | some (l1, ρ1) => match lb ρ1 with
    | none => none
    | some (l2, ρ2) => match lRes ρ2 l1, lRes ρ2 l2 with
      | some x, some y => match g x y with
        | some (.d (.bool true)) => match lc ρ2 with
          | none => none
          | some (l3, ρ3) => match lRes ρ3 l2, lRes ρ3 l3 with
            | some y', some z => match g2 y' z with
              | some (.d (.bool b)) => some (.d (.bool b), ρ3)
              | _ => none
            | _, _ => none
        | some (.d (.bool false)) => some (.d (.bool false), ρ2)
        | _ => none
      | _, _ => none
end
end Mi

set_option maxRecDepth 100000
set_option maxHeartbeats 2000000
namespace Mi
open PySem PySem.Spec PyProof.Rows L2 Gx

section
variable {X : Cx} {C : Cs}

/-! ### a < b < c -/
theorem tChain_of {r r2 : R2} {g g2 : D → D → Option RV} {la lb lc : Lm} {σ : L2.St} {H : Hp} {Q : VK}
    (hr : ∀ x y H' Q', rOp C.K g x y H' Q' → r x y H' Q') (hr2 : ∀ x y H' Q', rOp C.K g2 x y H' Q' → r2 x y H' Q') (q : tM C (sChn g g2 la lb lc) σ H Q) : tChain r r2 (tL C la) (tL C lb) (tL C lc) σ H Q := by
  obtain ⟨ρ, F, rv, ρ', R, e, k⟩ := q
  unfold sChn at e
  split at e
  · cases e
  · rename_i l1 ρ1 e1
    split at e
    · cases e
    · rename_i l2 ρ2 e2
      split at e
      · rename_i x y e3 e4
        refine ⟨ρ, F, l1, ρ1, R, e1, fun v1 F1 H1 R1 p1 d1 => ⟨ρ1, F1, l2, ρ2, R1, e2, fun v2 F2 H2 R2 p2 d2 => hr _ _ _ _ ?_⟩⟩
        have hx := d1.t R2 p2.f e3
        have hy := d2.t R2 (fun _ _ e => e) e4
        split at e
        · rename_i e5
          refine ⟨F2, x, y, _, R2.sub, R2.nt, hx, hy, e5, fun v F' H' po res => ⟨true, dp_bool res, ?_⟩⟩
          obtain ⟨R3, p3⟩ := R2.op po
          split at e
          · cases e
          · rename_i l3 ρ3 e6
            split at e
            · rename_i y' z e7 e8
              split at e
              · rename_i b e9
                cases e
                show tL C lc σ H' _
                refine ⟨ρ2, F', l3, ρ', R3, e6, fun v4 F4 H4 R4 p4 d4 => hr2 _ _ _ _ ?_⟩
                refine ⟨F4, y', z, _, R4.sub, R4.nt, d2.t R4 (fun b o e => p4.f b o (p3.f b o e)) e7, d4.t R4 (fun _ _ e => e) e8, e9, fun w F5 H5 po5 res5 => ?_⟩
                obtain ⟨R5, p5⟩ := R4.op po5
                exact k w F5 H5 R5 ((((p1.trans p2).trans p3).trans p4).trans p5) res5
              · cases e
            · cases e
        · rename_i e5
          cases e
          refine ⟨F2, x, y, _, R2.sub, R2.nt, hx, hy, e5, fun v F' H' po res => ⟨false, dp_bool res, ?_⟩⟩
          obtain ⟨R3, p3⟩ := R2.op po
          exact k _ F' H' R3 ((p1.trans p2).trans p3) (.bl _)
        · cases e
      · cases e
theorem m_chn {op op2 : CmpOp} {g g2 : D → D → Option RV} {a b c : Expr} {la lb lc : Lm} {pos : Pos} (ho : OpR X (compareOp op) (rOp C.K g)) (ho2 : OpR X (compareOp op2) (rOp C.K g2)) (ha : PE X a (tL C la)) (hb : PE X b (tL C lb)) (hc : PE X c (tL C lc))
    (hm : lastMarks [op, op2] [b, c] = false) : PE X (.Compare a [op, op2] [b, c] pos) (tM C (sChn g g2 la lb lc)) :=
  PE.imp (pe_chain ho ho2 ha hb hc hm) fun _ _ _ q => tChain_of (fun _ _ _ _ z => z) (fun _ _ _ _ z => z) q
theorem mt_chn {op op2 : CmpOp} {g g2 : D → D → Option RV} {a b c : Expr} {la lb lc : Lm} {pos : Pos} (ho : OpR X (compareOp op) (rOp C.K g)) (ho2 : OpR X (compareOp op2) (rOp C.K g2)) (ha : PE X a (tL C la)) (hb : PE X b (tL C lb)) (hc : PE X c (tL C lc))
    (hm : lastMarks [op, op2] [b, c] = false) : PT X (.Compare a [op, op2] [b, c] pos) (tT C (tOfB (sChn g g2 la lb lc))) :=
  PT.imp (pt_chain ho ho2 ha hb hc hm) fun _ _ _ q => tT_of (fun _ z => tChain_of (fun _ _ _ _ z => z) (fun _ _ _ _ z => z) z) q

/-! ### is -/
def gIs (d e : D) : Option RV := match e, d with
  | .none, .none => some (.d (.bool true))
  | .none, _ => some (.d (.bool false))
  | .bool b, .bool a => some (.d (.bool (decide (a = b))))
  | _, _ => none
def gIsN (d e : D) : Option RV := match e, d with
  | .none, .none => some (.d (.bool false))
  | .none, _ => some (.d (.bool true))
  | .bool b, .bool a => some (.d (.bool (!decide (a = b))))
  | _, _ => none
theorem dpt_notnone {K : PySem.W.Frag} {F H : Hp} {v : V} {d : D} (h : DpT K F H v d) (hd : d ≠ .none) : v ≠ .non := by
  intro z
  subst z
  cases h with
  | frz h => cases h; exact hd rfl
theorem o_is : OpR X (compareOp .Is) (rOp X.K gIs) := by
  intro pins s σ H x y v u Q I rx ry h
  obtain ⟨F, d, e, rv, sub, nt, hd, he, hg, k⟩ := h
  unfold gIs at hg
  split at hg
  · cases hg
    refine op_isN pins s σ H x y v u Q I rx ry ⟨dpt_none he, ?_⟩
    rw [dpt_none hd]
    exact k _ F H (OpPost.refl sub nt) (.bl _)
  · rename_i hn
    cases hg
    refine op_isN pins s σ H x y v u Q I rx ry ⟨dpt_none he, ?_⟩
    rw [decide_eq_false (dpt_notnone hd hn)]
    exact k _ F H (OpPost.refl sub nt) (.bl _)
  · cases hg
    exact op_isBl pins s σ H x y v u Q I rx ry ⟨_, _, dpt_bool hd, dpt_bool he, k _ F H (OpPost.refl sub nt) (.bl _)⟩
  · cases hg
theorem o_isn : OpR X (compareOp .IsNot) (rOp X.K gIsN) := by
  intro pins s σ H x y v u Q I rx ry h
  obtain ⟨F, d, e, rv, sub, nt, hd, he, hg, k⟩ := h
  unfold gIsN at hg
  split at hg
  · cases hg
    refine op_notN pins s σ H x y v u Q I rx ry ⟨dpt_none he, ?_⟩
    rw [dpt_none hd]
    exact k _ F H (OpPost.refl sub nt) (.bl _)
  · rename_i hn
    cases hg
    refine op_notN pins s σ H x y v u Q I rx ry ⟨dpt_none he, ?_⟩
    rw [decide_eq_false (dpt_notnone hd hn)]
    exact k _ F H (OpPost.refl sub nt) (.bl _)
  · cases hg
    exact op_notBl pins s σ H x y v u Q I rx ry ⟨_, _, dpt_bool hd, dpt_bool he, k _ F H (OpPost.refl sub nt) (.bl _)⟩
  · cases hg

/-! ### a def of the text -/
/-- what a def does: the first parameter may be a list that it changes -/
abbrev FS := List Slot → Option (RV × Option (List D))
inductive ArgSt (K : PySem.W.Frag) (F H : Hp) : List V → List Slot → List Addr → Prop where
  | plain {vs : List V} {ds : List D} : DqAll K F vs ds → ArgSt K F H vs (ds.map Slot.val) []
  | io {a : Addr} {ws : List V} {xs : List D} {vs : List V} {ds : List D} : F a = none → H a = some (.lst ws) → DqAll K F ws xs → DqAll K F vs ds → ArgSt K F H (.ref a :: vs) (Slot.own xs :: ds.map Slot.val) [a]
structure FPost (F H F' H' : Hp) (io : List Addr) : Prop where
  f : ∀ b o, F b = some o → F' b = some o
  sub : ∀ b o, F' b = some o → H' b = some o
  nt : ∀ b ps, F' b ≠ some (.tbl ps)
  keep : ∀ b o, H b = some o → b ∉ io → (∀ ps, o ≠ .tbl ps) → H' b = some o
  tab : ∀ n P, TabN H n P → TabN H' n P
  there : ∀ b, H b ≠ none → H' b ≠ none
  new : ∀ b, F' b = F b ∨ H b = none
/-- what is handed back -/
def IoOk (K : PySem.W.Frag) (F' H' : Hp) : List Addr → Option (List D) → Prop
  | [], none => True
  | [a], some xs => ∃ ws, H' a = some (.lst ws) ∧ DqAll K F' ws xs
  | _, _ => False
/-- the promise of a def; np: how many parameters -/
def spFn (K : PySem.W.Frag) (tabs : List (Addr × Nat)) (np : Nat) (f : FS) : Sp := fun vs H Q _ => ∃ F sl io rv out, vs.length = np ∧ (∀ b o, F b = some o → H b = some o) ∧ (∀ b ps, F b ≠ some (.tbl ps)) ∧ (∀ t ∈ tabs, TabN H t.2 t.1) ∧
  ArgSt K F H vs sl io ∧ f sl = some (rv, out) ∧ ∀ v F' H', FPost F H F' H' io → IoOk K F' H' io out → OpRes K H F' H' rv v → Q v H'

/-- operands become data: what a slot owns is frozen -/
def frzLocs : List Loc → DEnv → Option (List D × DEnv)
  | [], ρ => some ([], ρ)
  | .d x :: r, ρ => match frzLocs r ρ with
    | some (ds, ρ') => some (x :: ds, ρ')
    | none => none
  | .at i :: r, ρ => match ρ[i]? with
    | some (.own xs) => match frzLocs r (ρ.set i (.val (.list xs))) with
      | some (ds, ρ') => some (.list xs :: ds, ρ')
      | none => none
    | some (.val d) => match frzLocs r ρ with
      | some (ds, ρ') => some (d :: ds, ρ')
      | none => none
    | _ => none
theorem LocVs.len {σ : L2.St} {F : Hp} {vs : List V} {ls : List Loc} (h : LocVs C σ F vs ls) : vs.length = ls.length := by
  induction h with
  | nil => rfl
  | cons _ _ ih => rw [List.length_cons, List.length_cons, ih]
theorem frz_locs {σ : L2.St} {vs : List V} {ls : List Loc} {F0 : Hp} (h : LocVs C σ F0 vs ls) : ∀ {ρ ρ' : DEnv} {F H : Hp} {ds : List D}, Rep C ρ σ F H → (∀ b o, F0 b = some o → F b = some o) → frzLocs ls ρ = some (ds, ρ') →
    ∃ F', Rep C ρ' σ F' H ∧ Post ρ σ F H ρ' F' H ∧ DqAll C.K F' vs ds := by
  induction h with
  | nil =>
    intro ρ ρ' F H ds R hf e
    cases e
    exact ⟨F, R, Post.refl .., .nil⟩
  | @cons v vs l ls a _ ih =>
    intro ρ ρ' F H ds R hf e
    cases l with
    | d x =>
      simp only [frzLocs] at e
      split at e
      · rename_i ds' ρ2 e2
        cases e
        obtain ⟨F', R', p, dd⟩ := ih R hf e2
        exact ⟨F', R', p, .cons (dp_mono (fun b o e => p.f b o (hf b o e)) a) dd⟩
      · cases e
    | «at» i =>
      have hv : σ[i]? = some (some v) := a
      simp only [frzLocs] at e
      split at e
      · rename_i xs h1
        split at e
        · rename_i ds' ρ2 e2
          cases e
          obtain ⟨b, F1, z1, R1, p1, dp⟩ := R.freezeAt h1
          have hb : v = .ref b := Option.some.inj (Option.some.inj (hv.symm.trans z1))
          subst hb
          obtain ⟨F', R', p, dd⟩ := ih R1 (fun b o e => p1.f b o (hf b o e)) e2
          exact ⟨F', R', p1.trans p, .cons (dp_mono p.f dp) dd⟩
        · cases e
      · rename_i d h1
        split at e
        · rename_i ds' ρ2 e2
          cases e
          obtain ⟨w, z1, z2⟩ := R.val i d h1
          have hb : v = w := Option.some.inj (Option.some.inj (hv.symm.trans z1))
          subst hb
          obtain ⟨F', R', p, dd⟩ := ih R hf e2
          exact ⟨F', R', p, .cons (dp_mono p.f z2) dd⟩
        · cases e
      · cases e
/-- a call of a def without a list to be changed -/
def sCall (f : FS) (r : Am) : Sm := fun ρ => match r ρ with
  | some (ls, ρ1) => match frzLocs ls ρ1 with
    | some (ds, ρ2) => match f (ds.map Slot.val) with
      | some (rv, none) => some (rv, ρ2)
      | _ => none
    | none => none
  | none => none
/-- .. with one: the list that the slot i owns -/
def sCallIo (f : FS) (r : Am) : Sm := fun ρ => match r ρ with
  | some (.at i :: ls, ρ1) => match frzLocs ls ρ1 with
    | some (ds, ρ2) => match ρ2[i]? with
      | some (.own xs) => match f (Slot.own xs :: ds.map Slot.val) with
        | some (rv, some ys) => some (rv, ρ2.set i (.own ys))
        | _ => none
      | _ => none
    | none => none
  | _ => none
theorem Rep.fcall {ρ : DEnv} {σ : L2.St} {F H F' H' : Hp} (R : Rep C ρ σ F H) (p : FPost F H F' H' []) : Rep C ρ σ F' H' ∧ Post ρ σ F H ρ F' H' := by
  have no : ∀ b : Addr, b ∉ ([] : List Addr) := fun b z => by cases z
  refine ⟨⟨p.sub, p.nt, R.len, fun i d h => ?_, fun i xs h => ?_, R.inj, fun b o e n t => p.keep b o (R.stay b o e n t) (no b) t, fun n P h => p.tab n P (R.tab0 n P h), fun b h => p.there b (R.there0 b h), fun t h => p.tab _ _ (R.tabs t h), ?_⟩,
    p.f, fun b o e _ t => p.keep b o e (no b) t, p.tab, p.there, fun b => (p.new b).elim .inl (fun z => .inr (.inl z)), fun i xs h => ⟨xs, h⟩⟩
  · obtain ⟨v, h1, h2⟩ := R.val i d h
    exact ⟨v, h1, dp_mono p.f h2⟩
  · obtain ⟨a, vs, h1, h2, h3, h4, h5⟩ := R.own i xs h
    refine ⟨a, vs, h1, ?_, p.keep _ _ h3 (no a) (fun _ z => nomatch z), dps_mono p.f h4, h5⟩
    rcases p.new a with z | z
    · rw [z]; exact h2
    · rw [h3] at z; cases z
  · rcases R.code with h | ⟨P, h1, h2⟩
    · exact .inl h
    · exact .inr ⟨P, h1.grow ⟨fun b o e t => p.keep b o e (no b) t, p.tab, p.there⟩, p.tab _ _ h2⟩
theorem Rep.fcallIo {ρ : DEnv} {σ : L2.St} {F H F' H' : Hp} {i : Nat} {a : Addr} {xs ys : List D} {ws : List V} (R : Rep C ρ σ F H) (hi : ρ[i]? = some (Slot.own xs)) (hs : σ[i]? = some (some (V.ref a))) (p : FPost F H F' H' [a]) (hw : H' a = some (.lst ws)) (ha : DqAll C.K F' ws ys) :
    Rep C (ρ.set i (.own ys)) σ F' H' ∧ Post ρ σ F H (ρ.set i (.own ys)) F' H' := by
  have hil : i < ρ.length := (List.getElem?_eq_some_iff.mp hi).1
  obtain ⟨a', vs', z1, z2, z3, z4, z5⟩ := R.own i xs hi
  have ea : a' = a := V.ref.inj (Option.some.inj (Option.some.inj (z1.symm.trans hs)))
  subst ea
  have oth : ∀ (j : Nat) (zs : List D), (ρ.set i (Slot.own ys))[j]? = some (Slot.own zs) → ∃ zs', ρ[j]? = some (Slot.own zs') ∧ (j ≠ i → zs' = zs) ∧ (j = i → zs = ys) := by
    intro j zs h
    by_cases e : i = j
    · subst e
      rw [List.getElem?_set_self hil] at h
      cases h
      exact ⟨xs, hi, fun z => absurd rfl z, fun _ => rfl⟩
    · rw [List.getElem?_set_ne e] at h
      exact ⟨zs, h, fun _ => rfl, fun z => absurd z.symm e⟩
  have notIo : ∀ b o, C.H0 b = some o → b ∉ C.io → b ∉ [a'] := by
    intro b o e n z
    have z := List.mem_singleton.mp z
    subst z
    rcases z5 with z5 | z5
    · rw [e] at z5; cases z5
    · exact n z5
  refine ⟨⟨p.sub, p.nt, by rw [List.length_set]; exact R.len, fun j d h => ?_, fun j zs h => ?_, fun j k us ts b hj hk e1 e2 => ?_, fun b o e n t => p.keep b o (R.stay b o e n t) (notIo b o e n) t, fun n P h => p.tab n P (R.tab0 n P h), fun b h => p.there b (R.there0 b h), fun t h => p.tab _ _ (R.tabs t h), ?_⟩,
    p.f, fun b o e n t => p.keep b o e (fun z => n ?_) t, p.tab, p.there, fun b => (p.new b).elim .inl (fun z => .inr (.inl z)), fun j zs h => ?_⟩
  · by_cases e : i = j
    · subst e
      rw [List.getElem?_set_self hil] at h
      cases h
    · rw [List.getElem?_set_ne e] at h
      obtain ⟨v, h1, h2⟩ := R.val j d h
      exact ⟨v, h1, dp_mono p.f h2⟩
  · obtain ⟨zs', h', hne, heq⟩ := oth j zs h
    by_cases e : j = i
    · have hz := heq e
      subst e hz
      refine ⟨a', ws, hs, ?_, hw, ha, z5⟩
      rcases p.new a' with z | z
      · rw [z]; exact z2
      · rw [z3] at z; cases z
    · have hz := hne e
      subst hz
      obtain ⟨b, us, y1, y2, y3, y4, y5⟩ := R.own j zs' h'
      have hb : b ∉ [a'] := fun z => by
        have z := List.mem_singleton.mp z
        subst z
        exact e (R.inj j i zs' xs b h' hi y1 hs)
      refine ⟨b, us, y1, ?_, p.keep _ _ y3 hb (fun _ z => nomatch z), dps_mono p.f y4, y5⟩
      rcases p.new b with z | z
      · rw [z]; exact y2
      · rw [y3] at z; cases z
  · obtain ⟨us', h1, _⟩ := oth j us hj
    obtain ⟨ts', h2, _⟩ := oth k ts hk
    exact R.inj j k us' ts' b h1 h2 e1 e2
  · rcases R.code with h | ⟨P, h1, h2⟩
    · exact .inl h
    · refine .inr ⟨P, ?_, p.tab _ _ h2⟩
      rcases h1 with h1 | ⟨φ, e1, e2⟩
      · exact .inl h1
      · refine .inr ⟨φ, p.keep _ _ e1 (fun z => ?_) (fun _ z => nomatch z), e2⟩
        have z := List.mem_singleton.mp z
        rw [z, z3] at e1
        cases e1
  · have z := List.mem_singleton.mp z
    subst z
    exact ⟨i, xs, hi, hs⟩
  · obtain ⟨zs', h', _⟩ := oth j zs h
    exact ⟨zs', h'⟩

variable {CXx : CXT} {kk : Nat} {fa : Addr} {fd : FuncData} {ps : List Str} {np : Nat} {f : FS}
theorem m_call {x : Str} {p pos : Pos} {e : Expr} {es : List Expr} {r : Am} (hK : C.K = X.K) (Fo : FnOk X.prog X.w X.K X.mg X.base CX0 kk fa fd ps (spFn X.K C.tabs np f)) (hr : Room kk X.A) (hg : Gl X x) (hm : X.mg x = some (.ref fa)) (hk : PySem.W.keepIn X.K (.ref fa) = true)
    (hb : Binds X.K fd ps []) (ha : PA X (e :: es) (tA C r)) (hl : (e :: es).length = np) (hdb : (x == ("__debug__" : Str)) = false)
    (he : starEach (e :: es) X.env = (false, eval e X.env) :: starEach es X.env) (hpl : (backTo pos (starEach es X.env)).any (·.1) = false)
    (hlen : ∀ ρ ls ρ', r ρ = some (ls, ρ') → ls.length = np) : PE X (.Call (.Name x p) (e :: es) [] pos) (tM C (sCall f r)) :=
  PE.imp (pe_call Fo hr hg hm hk hb .nil pass0 ha hdb he hpl) fun σ H Q q => by
    obtain ⟨ρ, F, rv, ρ', R, e, k⟩ := q
    unfold sCall at e
    split at e
    · rename_i ls ρ1 e1
      split at e
      · rename_i ds ρ2 e2
        split at e
        · rename_i rv' e3
          cases e
          refine ⟨ρ, F, ls, ρ1, R, e1, fun vs F1 H1 R1 p1 d1 => ?_⟩
          obtain ⟨F2, R2, p2, dd⟩ := frz_locs d1 R1 (fun _ _ e => e) e2
          have hvl : vs.length = np := d1.len.trans (hlen _ _ _ e1)
          show spFn X.K C.tabs np f (vs ++ []) H1 Q E0
          rw [List.append_nil]
          refine ⟨F2, ds.map Slot.val, [], rv, none, hvl, R2.sub, R2.nt, R2.tabs, .plain (hK ▸ dd), e3, fun v F' H' fp _ res => ?_⟩
          obtain ⟨R3, p3⟩ := R2.fcall fp
          exact k v F' H' R3 ((p1.trans p2).trans p3) ((hK.symm ▸ res : OpRes C.K H1 F' H' rv v).ok R2 (p1.trans p2).there)
        · cases e
      · cases e
    · cases e
theorem m_callIo {x : Str} {p pos : Pos} {e : Expr} {es : List Expr} {r : Am} (hK : C.K = X.K) (Fo : FnOk X.prog X.w X.K X.mg X.base CX0 kk fa fd ps (spFn X.K C.tabs np f)) (hr : Room kk X.A) (hg : Gl X x) (hm : X.mg x = some (.ref fa)) (hk : PySem.W.keepIn X.K (.ref fa) = true)
    (hb : Binds X.K fd ps []) (ha : PA X (e :: es) (tA C r)) (hdb : (x == ("__debug__" : Str)) = false)
    (he : starEach (e :: es) X.env = (false, eval e X.env) :: starEach es X.env) (hpl : (backTo pos (starEach es X.env)).any (·.1) = false)
    (hlen : ∀ ρ ls ρ', r ρ = some (ls, ρ') → ls.length = np) : PE X (.Call (.Name x p) (e :: es) [] pos) (tM C (sCallIo f r)) :=
  PE.imp (pe_call Fo hr hg hm hk hb .nil pass0 ha hdb he hpl) fun σ H Q q => by
    obtain ⟨ρ, F, rv, ρ', R, e, k⟩ := q
    unfold sCallIo at e
    split at e
    · rename_i i ls ρ1 e1
      split at e
      · rename_i ds ρ2 e2
        split at e
        · rename_i xs e4
          split at e
          · rename_i rv' ys e3
            cases e
            refine ⟨ρ, F, .at i :: ls, ρ1, R, e1, fun vs F1 H1 R1 p1 d1 => ?_⟩
            have hvl : vs.length = np := d1.len.trans (hlen _ _ _ e1)
            cases d1 with
            | @cons v0 vs0 _ _ a0 d0 =>
              obtain ⟨F2, R2, p2, dd⟩ := frz_locs d0 R1 (fun _ _ e => e) e2
              obtain ⟨a, ws, z1, z2, z3, z4, _⟩ := R2.own i xs e4
              have hv0 : v0 = .ref a := Option.some.inj (Option.some.inj ((show σ[i]? = some (some v0) from a0).symm.trans z1))
              subst hv0
              show spFn X.K C.tabs np f (V.ref a :: vs0 ++ []) H1 Q E0
              rw [List.append_nil]
              refine ⟨F2, Slot.own xs :: ds.map Slot.val, [a], rv, some ys, hvl, R2.sub, R2.nt, R2.tabs, .io z2 z3 (hK ▸ z4) (hK ▸ dd), e3, fun v F' H' fp io res => ?_⟩
              obtain ⟨ws', y1, y2⟩ := io
              obtain ⟨R3, p3⟩ := R2.fcallIo e4 z1 fp y1 (hK.symm ▸ y2)
              have hres : OpRes C.K H1 F' H' rv v := hK.symm ▸ res
              refine k v F' H' R3 ((p1.trans p2).trans p3) ?_
              cases rv with
              | d x => exact hres
              | fl zs =>
                obtain ⟨q, us, rfl, h1, h2, h3, h4⟩ := hres
                refine ⟨q, us, rfl, ?_, h2, h3, h4, fun z => ?_⟩
                · cases qq : H q with
                  | none => rfl
                  | some o => exact absurd h1 ((p1.trans p2).there q (by rw [qq]; exact fun z => nomatch z))
                · obtain ⟨j, us', w1, w2⟩ := p3.owned_back z
                  obtain ⟨b, _, v1, _, v3, _⟩ := R2.own j us' w1
                  have : q = b := V.ref.inj (Option.some.inj (Option.some.inj (w2.symm.trans v1)))
                  subst this
                  rw [h1] at v3
                  cases v3
          · cases e
        · cases e
      · cases e
    · cases e
end
end Mi

set_option maxRecDepth 100000
set_option maxHeartbeats 2000000
namespace Mi
open PySem PySem.Spec PyProof.Rows L2 Gx

/-! ### slots of a block -/
def wipeD (ρ : DEnv) : List Nat → DEnv
  | [] => ρ
  | v :: vs => (wipeD ρ vs).set v .no
def restD (ρ1 ρc : DEnv) : List Nat → DEnv
  | [] => ρc
  | v :: vs => (restD ρ1 ρc vs).set v (ρ1.getD v .no)
def isOwn : Option Slot → Bool
  | some (.own _) => true
  | _ => false
theorem wipeD_len (ρ : DEnv) : ∀ vs, (wipeD ρ vs).length = ρ.length
  | [] => rfl
  | v :: vs => by unfold wipeD; rw [List.length_set, wipeD_len ρ vs]
theorem restD_len (ρ1 ρc : DEnv) : ∀ vs, (restD ρ1 ρc vs).length = ρc.length
  | [] => rfl
  | v :: vs => by unfold restD; rw [List.length_set, restD_len ρ1 ρc vs]
theorem wipeD_out {ρ : DEnv} {i : Nat} : ∀ {vs : List Nat}, i ∉ vs → (wipeD ρ vs)[i]? = ρ[i]?
  | [], _ => rfl
  | v :: vs, h => by
    unfold wipeD
    rw [List.getElem?_set_ne (fun e => h (by rw [e]; exact List.mem_cons_self))]
    exact wipeD_out fun z => h (List.mem_cons_of_mem _ z)
theorem wipeD_in {ρ : DEnv} {i : Nat} {s : Slot} : ∀ {vs : List Nat}, i ∈ vs → (wipeD ρ vs)[i]? = some s → s = .no
  | v :: vs, h, e => by
    unfold wipeD at e
    by_cases hv : v = i
    · subst hv
      by_cases hl : v < (wipeD ρ vs).length
      · rw [List.getElem?_set_self hl] at e; cases e; rfl
      · rw [List.getElem?_eq_none (by rw [List.length_set]; omega)] at e; cases e
    · rw [List.getElem?_set_ne hv] at e
      rcases List.mem_cons.mp h with h | h
      · exact absurd h.symm hv
      · exact wipeD_in h e
theorem restD_out {ρ1 ρc : DEnv} {i : Nat} : ∀ {vs : List Nat}, i ∉ vs → (restD ρ1 ρc vs)[i]? = ρc[i]?
  | [], _ => rfl
  | v :: vs, h => by
    unfold restD
    rw [List.getElem?_set_ne (fun e => h (by rw [e]; exact List.mem_cons_self))]
    exact restD_out fun z => h (List.mem_cons_of_mem _ z)
theorem restD_in {ρ1 ρc : DEnv} {i : Nat} {s : Slot} : ∀ {vs : List Nat}, i ∈ vs → (restD ρ1 ρc vs)[i]? = some s → s = ρ1.getD i .no
  | v :: vs, h, e => by
    unfold restD at e
    by_cases hv : v = i
    · subst hv
      by_cases hl : v < (restD ρ1 ρc vs).length
      · rw [List.getElem?_set_self hl] at e; cases e; rfl
      · rw [List.getElem?_eq_none (by rw [List.length_set]; omega)] at e; cases e
    · rw [List.getElem?_set_ne hv] at e
      rcases List.mem_cons.mp h with h | h
      · exact absurd h.symm hv
      · exact restD_in h e
theorem wipe_in {σ : L2.St} {i : Nat} {s : Option V} : ∀ {vs : List Nat}, i ∈ vs → (wipe σ vs)[i]? = some s → s = none
  | v :: vs, h, e => by
    unfold wipe at e
    by_cases hv : v = i
    · subst hv
      by_cases hl : v < (wipe σ vs).length
      · rw [List.getElem?_set_self hl] at e; cases e; rfl
      · rw [List.getElem?_eq_none (by rw [List.length_set]; omega)] at e; cases e
    · rw [List.getElem?_set_ne hv] at e
      rcases List.mem_cons.mp h with h | h
      · exact absurd h.symm hv
      · exact wipe_in h e
theorem wipe_same {σ σ2 : L2.St} {vs : List Nat} (hl : σ2.length = σ.length) (h : ∀ i, i ∉ vs → σ2[i]? = σ[i]?) : wipe σ2 vs = wipe σ vs := by
  refine List.ext_getElem? fun i => ?_
  by_cases hi : i ∈ vs
  · have a : ∀ τ : L2.St, τ.length = σ.length → (wipe τ vs)[i]? = if i < σ.length then some none else none := by
      intro τ ht
      by_cases hlt : i < σ.length
      · have hb : i < (wipe τ vs).length := by rw [wipe_length, ht]; exact hlt
        have q : (wipe τ vs)[i]? = some ((wipe τ vs)[i]'hb) := List.getElem?_eq_getElem hb
        rw [if_pos hlt, q, wipe_in hi q]
      · rw [if_neg hlt]
        exact List.getElem?_eq_none (by rw [wipe_length]; omega)
    rw [a σ2 hl, a σ rfl]
  · rw [wipe_out hi, wipe_out hi, h i hi]

section
variable {C : Cs}
/-- the slots of a block are forgotten -/
theorem Rep.wiped {ρ : DEnv} {σ : L2.St} {F H : Hp} {vs : List Nat} (R : Rep C ρ σ F H) : Rep C (wipeD ρ vs) (wipe σ vs) F H := by
  have val : ∀ (i : Nat) (s : Slot), (wipeD ρ vs)[i]? = some s → s ≠ .no → i ∉ vs ∧ ρ[i]? = some s ∧ (wipe σ vs)[i]? = σ[i]? := fun i s h hn => by
    have hi : i ∉ vs := fun z => hn (wipeD_in z h)
    rw [wipeD_out hi] at h
    exact ⟨hi, h, wipe_out hi⟩
  refine ⟨R.sub, R.nt, by rw [wipeD_len, wipe_length]; exact R.len, fun i d h => ?_, fun i xs h => ?_, fun i j xs ys a h1 h2 e1 e2 => ?_, R.stay, R.tab0, R.there0, R.tabs, R.code⟩
  · obtain ⟨_, h1, h2⟩ := val i _ h (fun z => nomatch z)
    rw [h2]
    exact R.val i d h1
  · obtain ⟨_, h1, h2⟩ := val i _ h (fun z => nomatch z)
    rw [h2]
    exact R.own i xs h1
  · obtain ⟨_, y1, z1⟩ := val i _ h1 (fun z => nomatch z)
    obtain ⟨_, y2, z2⟩ := val j _ h2 (fun z => nomatch z)
    rw [z1] at e1
    rw [z2] at e2
    exact R.inj i j xs ys a y1 y2 e1 e2
theorem owned_wiped {ρ : DEnv} {σ : L2.St} {vs : List Nat} {a : Addr} (h : owned (wipeD ρ vs) (wipe σ vs) a) : owned ρ σ a := by
  obtain ⟨i, xs, h1, h2⟩ := h
  have hi : i ∉ vs := fun z => by have := wipeD_in z h1; cases this
  rw [wipeD_out hi] at h1
  rw [wipe_out hi] at h2
  exact ⟨i, xs, h1, h2⟩
/-- back from a block -/
theorem Rep.back {ρ1 ρc : DEnv} {σ : L2.St} {F1 H1 F H : Hp} {vs : List Nat} (R1 : Rep C ρ1 σ F1 H1) (hn : ∀ i ∈ vs, isOwn ρ1[i]? = false) (R : Rep C ρc (wipe σ vs) F H) (hf : ∀ b o, F1 b = some o → F b = some o) :
    Rep C (restD ρ1 ρc vs) σ F H := by
  have own : ∀ (i : Nat) (xs : List D), (restD ρ1 ρc vs)[i]? = some (Slot.own xs) → i ∉ vs ∧ ρc[i]? = some (Slot.own xs) := fun i xs h => by
    have hi : i ∉ vs := fun z => by
      have e := restD_in z h
      have q := hn i z
      rw [List.getD_eq_getElem?_getD] at e
      cases w : ρ1[i]? with
      | none => rw [w] at e; cases e
      | some s =>
        rw [w] at e q
        have e : Slot.own xs = s := e
        subst e
        cases q
    rw [restD_out hi] at h
    exact ⟨hi, h⟩
  refine ⟨R.sub, R.nt, by rw [restD_len, R.len, wipe_length], fun i d h => ?_, fun i xs h => ?_, fun i j xs ys a h1 h2 e1 e2 => ?_, R.stay, R.tab0, R.there0, R.tabs, R.code⟩
  · by_cases hi : i ∈ vs
    · have e := restD_in hi h
      rw [List.getD_eq_getElem?_getD] at e
      cases w : ρ1[i]? with
      | none => rw [w] at e; cases e
      | some s =>
        rw [w] at e
        have e : Slot.val d = s := e
        subst e
        obtain ⟨v, y1, y2⟩ := R1.val i d w
        exact ⟨v, y1, dp_mono hf y2⟩
    · rw [restD_out hi] at h
      obtain ⟨v, y1, y2⟩ := R.val i d h
      rw [wipe_out hi] at y1
      exact ⟨v, y1, y2⟩
  · obtain ⟨hi, h⟩ := own i xs h
    have z := R.own i xs h
    rw [wipe_out hi] at z
    exact z
  · obtain ⟨hi, h1⟩ := own i xs h1
    obtain ⟨hj, h2⟩ := own j ys h2
    rw [← wipe_out hi] at e1
    rw [← wipe_out hj] at e2
    exact R.inj i j xs ys a h1 h2 e1 e2
theorem owned_back {ρ1 ρc : DEnv} {σ : L2.St} {vs : List Nat} {a : Addr} (hn : ∀ i ∈ vs, isOwn ρ1[i]? = false) (h : owned (restD ρ1 ρc vs) σ a) : owned ρc (wipe σ vs) a := by
  obtain ⟨i, xs, h1, h2⟩ := h
  have hi : i ∉ vs := fun z => by
    have e := restD_in z h1
    have q := hn i z
    rw [List.getD_eq_getElem?_getD] at e
    cases w : ρ1[i]? with
    | none => rw [w] at e; cases e
    | some s =>
      rw [w] at e q
      have e : Slot.own xs = s := e
      subst e
      cases q
  rw [restD_out hi] at h1
  exact ⟨i, xs, h1, by rw [wipe_out hi]; exact h2⟩
/-- a post of the block, as one of the def -/
theorem Post.back {ρ1 ρc : DEnv} {σ : L2.St} {F1 H1 F H : Hp} {vs : List Nat} (hn : ∀ i ∈ vs, isOwn ρ1[i]? = false) (p : Post (wipeD ρ1 vs) (wipe σ vs) F1 H1 ρc F H) : Post ρ1 σ F1 H1 (restD ρ1 ρc vs) F H where
  f := p.f
  keep := fun b o e n t => p.keep b o e (fun z => n (owned_wiped z)) t
  tab := p.tab
  there := p.there
  new := fun b => by
    rcases p.new b with h | h | h
    · exact .inl h
    · exact .inr (.inl h)
    · exact .inr (.inr (owned_wiped h))
  own := fun i xs h => by
    have hi : i ∉ vs := fun z => by
      have e := restD_in z h
      have q := hn i z
      rw [List.getD_eq_getElem?_getD] at e
      cases w : ρ1[i]? with
      | none => rw [w] at e; cases e
      | some s =>
        rw [w] at e q
        have e : Slot.own xs = s := e
        subst e
        cases q
    rw [restD_out hi] at h
    obtain ⟨ys, z⟩ := p.own i xs h
    rw [wipeD_out hi] at z
    exact ⟨ys, z⟩
/-- a slot is stored -/
theorem Rep.put {ρ : DEnv} {σ : L2.St} {F H : Hp} {i : Nat} {v : V} {d : D} (R : Rep C ρ σ F H) (hi : i < ρ.length) (h : Dq C.K F v d) : Rep C (ρ.set i (.val d)) (σ.set i (some v)) F H := by
  have hi2 : i < σ.length := by rw [← R.len]; exact hi
  have own : ∀ (j : Nat) (xs : List D), (ρ.set i (Slot.val d))[j]? = some (Slot.own xs) → i ≠ j ∧ ρ[j]? = some (Slot.own xs) := fun j xs hj => by
    by_cases e : i = j
    · subst e
      rw [List.getElem?_set_self hi] at hj
      cases hj
    · rw [List.getElem?_set_ne e] at hj
      exact ⟨e, hj⟩
  refine ⟨R.sub, R.nt, by rw [List.length_set, List.length_set]; exact R.len, fun j e hj => ?_, fun j xs hj => ?_, fun j k xs ys a h1 h2 e1 e2 => ?_, R.stay, R.tab0, R.there0, R.tabs, R.code⟩
  · by_cases q : i = j
    · subst q
      rw [List.getElem?_set_self hi] at hj
      cases hj
      exact ⟨v, List.getElem?_set_self hi2, h⟩
    · rw [List.getElem?_set_ne q] at hj ⊢
      exact R.val j e hj
  · obtain ⟨q, hj⟩ := own j xs hj
    rw [List.getElem?_set_ne q]
    exact R.own j xs hj
  · obtain ⟨q1, h1⟩ := own j xs h1
    obtain ⟨q2, h2⟩ := own k ys h2
    rw [List.getElem?_set_ne q1] at e1
    rw [List.getElem?_set_ne q2] at e2
    exact R.inj j k xs ys a h1 h2 e1 e2
end

/-! ### targets -/
inductive Tg where
  | nm (i : Nat) | tp (ts : Tg) | nil | cons (t ts : Tg)
def Tg.slots : Tg → List Nat
  | .nm i => [i]
  | .tp ts => ts.slots
  | .nil => []
  | .cons t ts => t.slots ++ ts.slots
mutual
def asgT : Tg → D → DEnv → Option DEnv
  | .nm i, d, ρ => if i < ρ.length then some (ρ.set i (.val d)) else none
  | .tp ts, .tuple xs, ρ => asgTs ts xs ρ
  | .tp ts, .list xs, ρ => asgTs ts xs ρ
  | _, _, _ => none
def asgTs : Tg → List D → DEnv → Option DEnv
  | .nil, [], ρ => some ρ
  | .cons t ts, x :: xs, ρ => match asgT t x ρ with
    | some ρ1 => asgTs ts xs ρ1
    | none => none
  | _, _, _ => none
end
/-- the data v is stored; σ' is σ but for the target's slots -/
def gD (C : Cs) (t : Tg) : TG := fun v σ H Q => ∃ ρ F d ρ', Rep C ρ σ F H ∧ DpT C.K F H v d ∧ (∀ i, t = .nm i → Dq C.K F v d) ∧ asgT t d ρ = some ρ' ∧
  ∀ σ', Rep C ρ' σ' F H → σ'.length = σ.length → (∀ i, i ∉ t.slots → σ'[i]? = σ[i]?) → Q σ' H
def gDs (C : Cs) (t : Tg) : TGs := fun vs σ H Q => ∃ ρ F ds ρ', Rep C ρ σ F H ∧ DqAll C.K F vs ds ∧ asgTs t ds ρ = some ρ' ∧
  ∀ σ', Rep C ρ' σ' F H → σ'.length = σ.length → (∀ i, i ∉ t.slots → σ'[i]? = σ[i]?) → Q σ' H
def tgLen : Tg → Nat
  | .cons _ ts => tgLen ts + 1
  | _ => 0
section
variable {X : Cx} {C : Cs}
theorem PG.imp {e : Expr} {t t' : TG} (h : PG X e t) (i : ∀ v σ H Q, t' v σ H Q → t v σ H Q) : PG X e t' := ⟨fun pins s σ H v u Q I r q => h.run pins s σ H v u Q I r (i v σ H Q q)⟩
theorem PGs.imp {e : List Expr} {t t' : TGs} (h : PGs X e t) (i : ∀ v σ H Q, t' v σ H Q → t v σ H Q) : PGs X e t' := ⟨fun pins s σ H v u Q I r q => h.run pins s σ H v u Q I r (i v σ H Q q)⟩
theorem mg_name {i : Nat} {x : Str} {pos : Pos} (hN : X.N.Nodup) (hi : X.N[i]? = some x) (hx : L2.Loc X.env.scope x) (hf : X.fn x = true ∨ X.env.scope.names.lookup x = some .local) : PG X (.Name x pos) (gD C (.nm i)) :=
  PG.imp (pg_name hN hi hx hf) fun v σ H Q q => by
    obtain ⟨ρ, F, d, ρ', R, hd, hnm, e, k⟩ := q
    simp only [asgT] at e
    split at e
    · rename_i hl
      cases e
      refine k _ (R.put hl (hnm i rfl)) (List.length_set ..) fun j hj => List.getElem?_set_ne (fun z => hj ?_)
      rw [← z]
      exact List.mem_singleton.mpr rfl
    · cases e
theorem mgs_nil : PGs X [] (gDs C .nil) := PGs.imp pgs_nil fun vs σ H Q q => by
  obtain ⟨ρ, F, ds, ρ', R, hd, e, k⟩ := q
  cases hd with
  | nil =>
    simp only [asgTs] at e
    cases e
    exact ⟨rfl, k σ R rfl fun _ _ => rfl⟩
  | cons _ _ => simp [asgTs] at e
theorem mgs_cons {e : Expr} {es : List Expr} {t ts : Tg} (h1 : PG X e (gD C t)) (h2 : PGs X es (gDs C ts)) (hs : (assignEach (e :: es) X.env).map (·.2) = assign e X.env :: (assignEach es X.env).map (·.2)) : PGs X (e :: es) (gDs C (.cons t ts)) :=
  PGs.imp (pgs_cons h1 h2 hs) fun vs σ H Q q => by
    obtain ⟨ρ, F, ds, ρ', R, hd, e, k⟩ := q
    cases hd with
    | nil => simp [asgTs] at e
    | @cons v vs d ds a r =>
      simp only [asgTs] at e
      split at e
      · rename_i ρ1 e1
        refine ⟨v, vs, rfl, ρ, F, d, ρ1, R, .frz a, fun _ _ => a, e1, fun σ1 R1 hl1 ho1 => ?_⟩
        refine ⟨ρ1, F, ds, ρ', R1, r, e, fun σ2 R2 hl2 ho2 => k σ2 R2 (hl2.trans hl1) fun i hi => ?_⟩
        simp only [Tg.slots, List.mem_append, not_or] at hi
        exact (ho2 i hi.2).trans (ho1 i hi.1)
      · cases e
theorem asgTs_len : ∀ (ts : Tg) (ds : List D) (ρ ρ' : DEnv), asgTs ts ds ρ = some ρ' → ds.length = tgLen ts
  | .nil, [], _, _, _ => rfl
  | .cons t ts, x :: xs, ρ, ρ', e => by
    simp only [asgTs] at e
    split at e
    · rename_i ρ1 e1
      show xs.length + 1 = tgLen ts + 1
      rw [asgTs_len ts xs _ _ e]
    · cases e
  | .nil, _ :: _, _, _, e => by simp [asgTs] at e
  | .cons _ _, [], _, _, e => by simp [asgTs] at e
  | .nm _, _, _, _, e => by simp [asgTs] at e
  | .tp _, _, _, _, e => by simp [asgTs] at e
theorem mg_tup {es : List Expr} {k : Nat} {pos : Pos} {ts : Tg} (hK : C.K = X.K) (hc : X.calm = true) (h : PGs X es (gDs C ts)) (hn : (assignEach es X.env).length = tgLen ts) (hst : (assignEach es X.env).findIdx? (·.1) = none) :
    PG X (.Tuple es k pos) (gD C (.tp ts)) := by
  refine ⟨fun pins s σ H v u Q I r q => ?_⟩
  obtain ⟨ρ, F, d, ρ', R, hd, hnm, e, kk⟩ := q
  cases d with
  | tuple xs =>
    simp only [asgT] at e
    obtain ⟨a, ws, rfl, hr, ha⟩ := dpt_tup hd
    exact (pg_tup hc h hn hst).run pins s σ H _ u Q I r ⟨a, ws, rfl, hK ▸ sqt_mono R.sub hr, by rw [dps_len ha, asgTs_len _ _ _ _ e], ρ, F, xs, ρ', R, ha, e, kk⟩
  | list xs =>
    simp only [asgT] at e
    obtain ⟨a, ws, rfl, hr, ha⟩ := dpt_list R.sub hd
    exact (pg_unl hc h hn hst).run pins s σ H _ u Q I r ⟨a, ws, rfl, (hK ▸ hr).sq, by rw [dps_len ha, asgTs_len _ _ _ _ e], ρ, F, xs, ρ', R, ha, e, kk⟩
  | _ => simp [asgT] at e
end
end Mi

set_option maxRecDepth 100000
set_option maxHeartbeats 2000000
namespace Mi
open PySem PySem.Spec PyProof.Rows L2 Gx RZ

/-! ### what is walked -/
structure ItOk (K : PySem.W.Frag) (J : It) (F : Hp) (ds : List D) : Prop where
  go : ∀ (i : Nat) (H' : Hp), (∀ b o, F b = some o → H' b = some o) → i < ds.length → J.go i H'
  stop : ∀ (H' : Hp), (∀ b o, F b = some o → H' b = some o) → J.stop ds.length H'
  yld : ∀ (i : Nat) (H' : Hp) (x : V) (H'' : Hp) (d : D), (∀ b o, F b = some o → H' b = some o) → J.yld i H' x H'' → ds[i]? = some d →
    (H'' = H' ∧ Dq K F x d) ∨ (∃ (T : Addr) (ws : List V) (es : List D), x = .ref T ∧ H' T = none ∧ H'' = upd H' T (.tup ws) ∧ DqAll K F ws es ∧ d = .tuple es)
abbrev Im := DEnv → Option (List D × DEnv)
def tI (C : Cs) (f : Im) : TI := fun σ H R => ∃ ρ F ds ρ', Rep C ρ σ F H ∧ f ρ = some (ds, ρ') ∧
  ∀ J F' H', Rep C ρ' σ F' H' → Post ρ σ F H ρ' F' H' → ItOk C.K J F' ds → R J H'
theorem PI.imp {X : Cx} {tg e : Expr} {t t' : TI} (h : PI X tg e t) (i : ∀ σ H Q, t' σ H Q → t σ H Q) : PI X tg e t' := ⟨fun pins s σ H Q I q => h.run pins s σ H Q I (i σ H Q q)⟩
theorem PI.or {X : Cx} {tg e : Expr} {t t' : TI} (h : PI X tg e t) (h' : PI X tg e t') : PI X tg e (fun σ H R => t σ H R ∨ t' σ H R) := ⟨fun pins s σ H Q I q => q.elim (h.run pins s σ H Q I) (h'.run pins s σ H Q I)⟩
theorem itok_list {K : PySem.W.Frag} {F : Hp} {a : Addr} {vs : List V} {ds : List D} (h : RdL K F a vs) (hd : DqAll K F vs ds) : ItOk K (Itl K a) F ds := by
  have hl := dps_len hd
  refine ⟨fun i H' s hi => ?_, fun H' s => ⟨vs, (rdl_mono s h).sq, by rw [hl]; exact Nat.le_refl _⟩, fun i H' x H'' d s y e => ?_⟩
  · have hi2 : i < vs.length := by rw [hl]; exact hi
    exact ⟨vs, vs[i], (rdl_mono s h).sq, List.getElem?_eq_getElem hi2⟩
  · obtain ⟨rfl, q⟩ := y
    obtain ⟨v, e1, e2⟩ := dps_get hd e
    have := q vs ((rdl_mono s h).sq)
    rw [e1] at this
    cases this
    exact .inl ⟨rfl, e2⟩
theorem itok_tup {K : PySem.W.Frag} {F : Hp} {a : Addr} {vs : List V} {ds : List D} (h : SqT K F a vs) (hd : DqAll K F vs ds) : ItOk K (Itt K a) F ds := by
  have hl := dps_len hd
  refine ⟨fun i H' s hi => ?_, fun H' s => ⟨vs, sqt_mono s h, by rw [hl]; exact Nat.le_refl _⟩, fun i H' x H'' d s y e => ?_⟩
  · have hi2 : i < vs.length := by rw [hl]; exact hi
    exact ⟨vs, vs[i], sqt_mono s h, List.getElem?_eq_getElem hi2⟩
  · obtain ⟨rfl, q⟩ := y
    obtain ⟨v, e1, e2⟩ := dps_get hd e
    have := q vs (sqt_mono s h)
    rw [e1] at this
    cases this
    exact .inl ⟨rfl, e2⟩
/-- lo, lo + 1, .. -/
def rangeD (lo : Int) (n : Nat) : List D := (List.range n).map fun k => .int (lo + (k : Nat))
theorem rangeD_len (lo : Int) (n : Nat) : (rangeD lo n).length = n := by unfold rangeD; rw [List.length_map, List.length_range]
theorem itok_rng {K : PySem.W.Frag} {F : Hp} (lo : Int) (n : Nat) : ItOk K (Itr lo n) F (rangeD lo n) := by
  refine ⟨fun i H' s hi => by rw [rangeD_len] at hi; exact hi, fun H' s => by rw [rangeD_len]; exact Nat.le_refl n, fun i H' x H'' d s y e => ?_⟩
  obtain ⟨rfl, rfl⟩ := y
  unfold rangeD at e
  rw [List.getElem?_map] at e
  have hi : i < n := by
    rcases Nat.lt_or_ge i n with h | h
    · exact h
    · rw [List.getElem?_eq_none (by rw [List.length_range]; exact h)] at e; cases e
  rw [List.getElem?_range hi] at e
  cases e
  exact .inl ⟨rfl, .int _⟩
/-- enumerate: pairs of a number and an item -/
def enumD (i : Nat) : List D → List D
  | [] => []
  | x :: xs => .tuple [.int (i : Nat), x] :: enumD (i + 1) xs
theorem enumD_len : ∀ (xs : List D) (i : Nat), (enumD i xs).length = xs.length
  | [], _ => rfl
  | x :: xs, i => congrArg (· + 1) (enumD_len xs (i + 1))
theorem enumD_get : ∀ (xs : List D) (i k : Nat) (d : D), (enumD i xs)[k]? = some d → ∃ x, xs[k]? = some x ∧ d = .tuple [.int ((i + k : Nat) : Nat), x]
  | [], _, k, d, e => by simp [enumD] at e
  | x :: xs, i, 0, d, e => by
    have e : some (PyData.tuple [.int (i : Nat), x]) = some d := e
    cases e
    exact ⟨x, rfl, rfl⟩
  | x :: xs, i, k + 1, d, e => by
    obtain ⟨y, h1, h2⟩ := enumD_get xs (i + 1) k d e
    exact ⟨y, h1, by rw [h2, show i + 1 + k = i + (k + 1) from by omega]⟩
theorem itok_enum {K : PySem.W.Frag} {F : Hp} {a : Addr} {vs : List V} {ds : List D} (h : RdL K F a vs) (hd : DqAll K F vs ds) : ItOk K (Ite K a) F (enumD 0 ds) := by
  have hl := dps_len hd
  refine ⟨fun i H' s hi => ?_, fun H' s => ⟨vs, (rdl_mono s h).sq, by rw [hl, enumD_len]; exact Nat.le_refl _⟩, fun i H' x H'' d s y e => ?_⟩
  · have hi2 : i < vs.length := by rw [hl, ← enumD_len ds 0]; exact hi
    exact ⟨vs, vs[i], (rdl_mono s h).sq, List.getElem?_eq_getElem hi2⟩
  · obtain ⟨T, w, rfl, h1, h2, q⟩ := y
    obtain ⟨y, e1, rfl⟩ := enumD_get _ _ _ _ e
    obtain ⟨v, e2, e3⟩ := dps_get hd e1
    have := q vs ((rdl_mono s h).sq)
    rw [e2] at this
    cases this
    rw [Nat.zero_add]
    exact .inr ⟨T, _, _, rfl, h1, h2, .cons (.int _) (.cons e3 .nil), rfl⟩
/-- zip of two -/
def zipD : List D → List D → List D
  | x :: xs, y :: ys => .tuple [x, y] :: zipD xs ys
  | _, _ => []
theorem zipD_len : ∀ xs ys : List D, (zipD xs ys).length = min xs.length ys.length
  | [], ys => by simp [zipD]
  | x :: xs, [] => by simp [zipD]
  | x :: xs, y :: ys => by
    show (zipD xs ys).length + 1 = min (xs.length + 1) (ys.length + 1)
    rw [zipD_len xs ys]; omega
theorem zipD_get : ∀ (xs ys : List D) (k : Nat) (d : D), (zipD xs ys)[k]? = some d → ∃ x y, xs[k]? = some x ∧ ys[k]? = some y ∧ d = .tuple [x, y]
  | [], ys, k, d, e => by simp [zipD] at e
  | x :: xs, [], k, d, e => by simp [zipD] at e
  | x :: xs, y :: ys, 0, d, e => by
    have e : some (PyData.tuple [x, y]) = some d := e
    cases e
    exact ⟨x, y, rfl, rfl, rfl⟩
  | x :: xs, y :: ys, k + 1, d, e => zipD_get xs ys k d e
theorem itok_zipL {K : PySem.W.Frag} {F : Hp} {a b : Addr} {vs ws : List V} {ds es : List D} (h : RdL K F a vs) (hd : DqAll K F vs ds) (h2 : RdL K F b ws) (hd2 : DqAll K F ws es) : ItOk K (Itz K a b) F (zipD ds es) := by
  have hl := dps_len hd
  have hl2 := dps_len hd2
  refine ⟨fun i H' s hi => ?_, fun H' s => ⟨vs, ws, (rdl_mono s h).sq, (rdl_mono s h2).sq, ?_⟩, fun i H' x H'' d s y e => ?_⟩
  · rw [zipD_len] at hi
    have hi2 : i < vs.length := by omega
    have hi3 : i < ws.length := by omega
    exact ⟨vs, ws, vs[i], ws[i], (rdl_mono s h).sq, (rdl_mono s h2).sq, List.getElem?_eq_getElem hi2, List.getElem?_eq_getElem hi3⟩
  · rw [zipD_len]; omega
  · obtain ⟨T, w, w2, rfl, h3, h4, q, q2⟩ := y
    obtain ⟨y, z, e1, e2, rfl⟩ := zipD_get _ _ _ _ e
    obtain ⟨v, e3, e4⟩ := dps_get hd e1
    obtain ⟨v2, e5, e6⟩ := dps_get hd2 e2
    have a1 := q vs ((rdl_mono s h).sq)
    rw [e3] at a1
    cases a1
    have a2 := q2 ws ((rdl_mono s h2).sq)
    rw [e5] at a2
    cases a2
    exact .inr ⟨T, _, _, rfl, h3, h4, .cons e4 (.cons e6 .nil), rfl⟩
theorem itok_zipT {K : PySem.W.Frag} {F : Hp} {a b : Addr} {vs ws : List V} {ds es : List D} (h : SqT K F a vs) (hd : DqAll K F vs ds) (h2 : SqT K F b ws) (hd2 : DqAll K F ws es) : ItOk K (ItzT K a b) F (zipD ds es) := by
  have hl := dps_len hd
  have hl2 := dps_len hd2
  refine ⟨fun i H' s hi => ?_, fun H' s => ⟨vs, ws, sqt_mono s h, sqt_mono s h2, ?_⟩, fun i H' x H'' d s y e => ?_⟩
  · rw [zipD_len] at hi
    have hi2 : i < vs.length := by omega
    have hi3 : i < ws.length := by omega
    exact ⟨vs, ws, vs[i], ws[i], sqt_mono s h, sqt_mono s h2, List.getElem?_eq_getElem hi2, List.getElem?_eq_getElem hi3⟩
  · rw [zipD_len]; omega
  · obtain ⟨T, w, w2, rfl, h3, h4, q, q2⟩ := y
    obtain ⟨y, z, e1, e2, rfl⟩ := zipD_get _ _ _ _ e
    obtain ⟨v, e3, e4⟩ := dps_get hd e1
    obtain ⟨v2, e5, e6⟩ := dps_get hd2 e2
    have a1 := q vs (sqt_mono s h)
    rw [e3] at a1
    cases a1
    have a2 := q2 ws (sqt_mono s h2)
    rw [e5] at a2
    cases a2
    exact .inr ⟨T, _, _, rfl, h3, h4, .cons e4 (.cons e6 .nil), rfl⟩

section
variable {X : Cx} {C : Cs} {tg : Expr}
/-- the items of a list or a tuple -/
def itemsD : D → Option (List D)
  | .list xs => some xs
  | .tuple xs => some xs
  | _ => none
def iM (f : Sm) : Im := fun ρ => match f ρ with
  | some (rv, ρ') => match itemsD rv.frz with
    | some ds => some (ds, ρ')
    | none => none
  | none => none
theorem mi_m {e : Expr} {f : Sm} (hK : C.K = X.K) (h : PE X e (tM C f)) : PI X tg e (tI C (iM f)) :=
  PI.imp (PI.or (pi_list (pe_frz h)) (pi_tup (pe_frz h))) fun σ H Q q => by
    obtain ⟨ρ, F, ds, ρ', R, e, k⟩ := q
    unfold iM at e
    split at e
    · rename_i rv ρ1 e1
      split at e
      · rename_i ds' e2
        cases e
        cases hd : rv.frz with
        | list xs =>
          rw [hd] at e2
          cases e2
          refine .inl ⟨ρ, F, rv, _, R, e1, fun v F' H' R' p dq => ?_⟩
          rw [hd] at dq
          cases dq with
          | lst hr ha => exact ⟨_, rfl, ⟨_, (hK ▸ rdl_mono R'.sub hr).sq⟩, k _ F' H' R' p (hK ▸ itok_list hr ha)⟩
        | tuple xs =>
          rw [hd] at e2
          cases e2
          refine .inr ⟨ρ, F, rv, _, R, e1, fun v F' H' R' p dq => ?_⟩
          rw [hd] at dq
          cases dq with
          | tup hr ha => exact ⟨_, rfl, ⟨_, hK ▸ sqt_mono R'.sub hr⟩, k _ F' H' R' p (hK ▸ itok_tup hr ha)⟩
        | _ => rw [hd] at e2; cases e2
      · cases e
    · cases e
def iR1 (r : Am) : Im := fun ρ => match r ρ with
  | some (ls, ρ') => match locDs ls with
    | some [.int j] => if -(2 ^ 62) ≤ j ∧ j < 2 ^ 62 then some (rangeD 0 j.toNat, ρ') else none
    | _ => none
  | none => none
def iR2 (r : Am) : Im := fun ρ => match r ρ with
  | some (ls, ρ') => match locDs ls with
    | some [.int i, .int j] => if -(2 ^ 62) ≤ i ∧ i < 2 ^ 62 ∧ -(2 ^ 62) ≤ j ∧ j < 2 ^ 62 then some (rangeD i (j - i).toNat, ρ') else none
    | _ => none
  | none => none
theorem mi_rng1 {a : Expr} {r : Am} {p pos : Pos} (hg : Gl X "range") (hm : X.mg "range" = none) (ha : PA X [a] (tA C r)) (hs : starEach [a] X.env = [(false, eval a X.env)] := by rfl) : PI X tg (.Call (.Name "range" p) [a] [] pos) (tI C (iR1 r)) :=
  PI.imp (pi_range1 hg hm ha hs) fun σ H Q q => by
    obtain ⟨ρ, F, ds, ρ', R, e, k⟩ := q
    unfold iR1 at e
    split at e
    · rename_i ls ρ1 e1
      split at e
      · rename_i j e2
        split at e
        · rename_i hj
          cases e
          refine ⟨ρ, F, ls, _, R, e1, fun vs F' H' R' p' lv => ?_⟩
          have := locDs_dp lv e2
          cases this with
          | cons a r =>
            cases r
            cases a
            exact ⟨j, rfl, hj.1, hj.2, k _ F' H' R' p' (itok_rng 0 _)⟩
        · cases e
      · cases e
    · cases e
theorem mi_rng2 {a b : Expr} {r : Am} {p pos : Pos} (hg : Gl X "range") (hm : X.mg "range" = none) (ha : PA X [a, b] (tA C r)) (hs : starEach [a, b] X.env = [(false, eval a X.env), (false, eval b X.env)] := by rfl) (hs2 : starEach [b] X.env = [(false, eval b X.env)] := by rfl) : PI X tg (.Call (.Name "range" p) [a, b] [] pos) (tI C (iR2 r)) :=
  PI.imp (pi_range2 hg hm ha hs hs2) fun σ H Q q => by
    obtain ⟨ρ, F, ds, ρ', R, e, k⟩ := q
    unfold iR2 at e
    split at e
    · rename_i ls ρ1 e1
      split at e
      · rename_i i j e2
        split at e
        · rename_i hj
          cases e
          refine ⟨ρ, F, ls, _, R, e1, fun vs F' H' R' p' lv => ?_⟩
          have := locDs_dp lv e2
          cases this with
          | cons a r =>
            cases a
            cases r with
            | cons a r =>
              cases a
              cases r
              exact ⟨i, j, rfl, hj, k _ F' H' R' p' (itok_rng i _)⟩
        · cases e
      · cases e
    · cases e
/-- operands, frozen -/
def frzA (r : Am) : DEnv → Option (List D × DEnv) := fun ρ => match r ρ with
  | some (ls, ρ1) => frzLocs ls ρ1
  | none => none
def tAf (C : Cs) (f : DEnv → Option (List D × DEnv)) : TA := fun σ H Q => ∃ ρ F ds ρ', Rep C ρ σ F H ∧ f ρ = some (ds, ρ') ∧
  ∀ vs F' H', Rep C ρ' σ F' H' → Post ρ σ F H ρ' F' H' → DqAll C.K F' vs ds → Q vs H'
theorem pa_frz {es : List Expr} {r : Am} (h : PA X es (tA C r)) : PA X es (tAf C (frzA r)) := PA.imp h fun σ H Q q => by
  obtain ⟨ρ, F, ds, ρ', R, e, k⟩ := q
  unfold frzA at e
  split at e
  · rename_i ls ρ1 e1
    refine ⟨ρ, F, ls, ρ1, R, e1, fun vs F' H' R' p lv => ?_⟩
    obtain ⟨F2, R2, p2, dd⟩ := frz_locs lv R' (fun _ _ e => e) e
    exact k vs F2 H' R2 (p.trans p2) dd
  · cases e
def iEn (r : Am) : Im := fun ρ => match frzA r ρ with
  | some ([.list xs], ρ') => some (enumD 0 xs, ρ')
  | _ => none
theorem mi_enum {e : Expr} {r : Am} {p pos tpos : Pos} {elts : List Expr} {kk : Nat} (hK : C.K = X.K) (hg : Gl X "enumerate") (hm : X.mg "enumerate" = none) (ha : PA X [e] (tA C r)) (hs : starEach [e] X.env = [(false, eval e X.env)] := by rfl) :
    PI X (.Tuple elts kk tpos) (.Call (.Name "enumerate" p) [e] [] pos) (tI C (iEn r)) :=
  PI.imp (pi_enum hg hm (pa_frz ha) hs) fun σ H Q q => by
    obtain ⟨ρ, F, ds, ρ', R, e, k⟩ := q
    unfold iEn at e
    split at e
    · rename_i xs ρ1 e1
      cases e
      refine ⟨ρ, F, _, _, R, e1, fun vs F' H' R' p' dd => ?_⟩
      cases dd with
      | cons a r =>
        cases r
        cases a with
        | lst hr ha => exact ⟨_, _, rfl, (hK ▸ rdl_mono R'.sub hr).sq, k _ F' H' R' p' (hK ▸ itok_enum hr ha)⟩
    · cases e
def iZp (r : Am) : Im := fun ρ => match frzA r ρ with
  | some ([.list xs, .list ys], ρ') => some (zipD xs ys, ρ')
  | some ([.tuple xs, .tuple ys], ρ') => some (zipD xs ys, ρ')
  | _ => none
theorem mi_zip {e e2 : Expr} {r : Am} {p pos tpos : Pos} {elts : List Expr} {kk : Nat} (hK : C.K = X.K) (hg : Gl X "zip") (hm : X.mg "zip" = none) (ha : PA X [e, e2] (tA C r))
    (hs : starEach [e, e2] X.env = (false, eval e X.env) :: starEach [e2] X.env := by rfl) (hpl : (backTo pos (starEach [e2] X.env)).any (·.1) = false := by rfl) :
    PI X (.Tuple elts kk tpos) (.Call (.Name "zip" p) [e, e2] [] pos) (tI C (iZp r)) :=
  PI.imp (pi_zipA hg hm (pa_frz ha) hs hpl) fun σ H Q q => by
    obtain ⟨ρ, F, ds, ρ', R, e, k⟩ := q
    unfold iZp at e
    split at e
    · rename_i xs ys ρ1 e1
      cases e
      refine ⟨ρ, F, _, _, R, e1, fun vs F' H' R' p' dd => ?_⟩
      cases dd with
      | cons a r =>
        cases r with
        | cons b r =>
          cases r
          cases a with
          | lst hr ha =>
            cases b with
            | lst hr2 ha2 => exact ⟨_, _, _, _, rfl, .inl ⟨(hK ▸ rdl_mono R'.sub hr).sq, (hK ▸ rdl_mono R'.sub hr2).sq, k _ F' H' R' p' (hK ▸ itok_zipL hr ha hr2 ha2)⟩⟩
    · rename_i xs ys ρ1 e1
      cases e
      refine ⟨ρ, F, _, _, R, e1, fun vs F' H' R' p' dd => ?_⟩
      cases dd with
      | cons a r =>
        cases r with
        | cons b r =>
          cases r
          cases a with
          | tup hr ha =>
            cases b with
            | tup hr2 ha2 => exact ⟨_, _, _, _, rfl, .inr ⟨hK ▸ sqt_mono R'.sub hr, hK ▸ sqt_mono R'.sub hr2, k _ F' H' R' p' (hK ▸ itok_zipT hr ha hr2 ha2)⟩⟩
    · cases e
end
end Mi

set_option maxRecDepth 100000
set_option maxHeartbeats 2000000
namespace Mi
open PySem PySem.Spec PyProof.Rows L2 Gx RZ

/-! ### a list that is being built at B -/
/-- from one state to a later one, but for the list at B -/
structure PostX (B : Addr) (ρ : DEnv) (σ : L2.St) (F H : Hp) (ρ' : DEnv) (F' H' : Hp) : Prop where
  f : ∀ b o, F b = some o → F' b = some o
  keep : ∀ b o, H b = some o → b ≠ B → ¬ owned ρ σ b → (∀ ps, o ≠ HO.tbl ps) → H' b = some o
  tab : ∀ n P, TabN H n P → TabN H' n P
  there : ∀ b, H b ≠ none → H' b ≠ none
  new : ∀ b, F' b = F b ∨ H b = none ∨ owned ρ σ b
  own : ∀ (i : Nat) (xs : List D), ρ'[i]? = some (Slot.own xs) → ∃ ys : List D, ρ[i]? = some (Slot.own ys)
section
variable {C : Cs} {B : Addr} {ρ ρ1 ρ2 : DEnv} {σ : L2.St} {F H F1 H1 F2 H2 : Hp}
theorem PostX.of (p : Post ρ σ F H ρ1 F1 H1) : PostX B ρ σ F H ρ1 F1 H1 := ⟨p.f, fun b o e _ n t => p.keep b o e n t, p.tab, p.there, p.new, p.own⟩
theorem PostX.owned_back (p : PostX B ρ σ F H ρ1 F1 H1) {b : Addr} (h : owned ρ1 σ b) : owned ρ σ b := by
  obtain ⟨i, xs, h1, h2⟩ := h
  obtain ⟨ys, h3⟩ := p.own i xs h1
  exact ⟨i, ys, h3, h2⟩
theorem PostX.trans (p : PostX B ρ σ F H ρ1 F1 H1) (q : PostX B ρ1 σ F1 H1 ρ2 F2 H2) : PostX B ρ σ F H ρ2 F2 H2 where
  f := fun b o e => q.f b o (p.f b o e)
  keep := fun b o e d n t => q.keep b o (p.keep b o e d n t) d (fun z => n (p.owned_back z)) t
  tab := fun n P h => q.tab n P (p.tab n P h)
  there := fun b h => q.there b (p.there b h)
  new := fun b => by
    rcases q.new b with z | z | z
    · rw [z]; exact p.new b
    · by_cases hb : H b = none
      · exact .inr (.inl hb)
      · exact absurd z (p.there b hb)
    · exact .inr (.inr (p.owned_back z))
  own := fun i xs h => by
    obtain ⟨ys, h⟩ := q.own i xs h
    exact p.own i ys h
/-- when B was new -/
theorem PostX.post (p : PostX B ρ σ F H ρ1 F1 H1) (hB : H B = none) : Post ρ σ F H ρ1 F1 H1 := ⟨p.f, fun b o e n t => p.keep b o e (fun z => by rw [z, hB] at e; cases e) n t, p.tab, p.there, p.new, p.own⟩
theorem PostX.set {vs ws : List V} (p : PostX B ρ σ F H ρ1 F1 H1) (hB : H1 B = some (.lst vs)) : PostX B ρ σ F H ρ1 F1 (upd H1 B (.lst ws)) where
  f := p.f
  keep := fun b o e d n t => by rw [upd_ne d]; exact p.keep b o e d n t
  tab := fun n P h => Grow.lst hB n P (p.tab n P h)
  there := fun b h => by
    by_cases e : b = B
    · subst e; rw [upd_same]; exact fun z => nomatch z
    · rw [upd_ne e]; exact p.there b h
  new := p.new
  own := p.own
theorem Rep.newObj (R : Rep C ρ σ F H) (hB : H B = none) {o : HO} (ho : ∀ ps, o ≠ .tbl ps) : Rep C ρ σ F (upd H B o) ∧ Post ρ σ F H ρ F (upd H B o) :=
  R.op ⟨fun _ _ e => e, fun b u e => by rw [upd_ne (ne_of_none e hB)]; exact e, fun b u e => by rw [upd_ne (ne_of_none (R.sub b u e) hB)]; exact R.sub b u e, fun b => .inl rfl, R.nt⟩
theorem Rep.newFrz (R : Rep C ρ σ F H) (hB : H B = none) {o : HO} (ho : ∀ ps, o ≠ .tbl ps) : Rep C ρ σ (upd F B o) (upd H B o) ∧ Post ρ σ F H ρ (upd F B o) (upd H B o) := by
  have hF : F B = none := by
    cases q : F B with
    | none => rfl
    | some u => rw [R.sub B u q] at hB; cases hB
  refine R.op ⟨fun b u e => by rw [upd_ne (ne_of_none e hF)]; exact e, fun b u e => by rw [upd_ne (ne_of_none e hB)]; exact e, fun b u e => ?_, fun b => ?_, fun b ps z => ?_⟩
  · by_cases q : b = B
    · subst q; rw [upd_same] at e ⊢; exact e
    · rw [upd_ne q] at e ⊢; exact R.sub b u e
  · by_cases q : b = B
    · subst q; exact .inr hB
    · rw [upd_ne q]; exact .inl rfl
  · by_cases q : b = B
    · subst q; rw [upd_same] at z; exact ho ps (Option.some.inj z)
    · rw [upd_ne q] at z; exact R.nt b ps z
/-- the list at B is none of the frozen ones, none of a slot's, and younger than the entry -/
theorem Rep.setLst {vs ws : List V} (R : Rep C ρ σ F H) (hB : H B = some (.lst vs)) (hF : F B = none) (ho : ¬ owned ρ σ B) (h0 : C.H0 B = none) : Rep C ρ σ F (upd H B (.lst ws)) where
  sub := fun b o e => by rw [upd_ne (ne_of_none e hF)]; exact R.sub b o e
  nt := R.nt
  len := R.len
  val := R.val
  own := fun i xs h => by
    obtain ⟨a, us, h1, h2, h3, h4, h5⟩ := R.own i xs h
    refine ⟨a, us, h1, h2, ?_, h4, h5⟩
    have : a ≠ B := fun z => ho ⟨i, xs, h, by rw [h1, z]⟩
    rw [upd_ne this]; exact h3
  inj := R.inj
  stay := fun b o e n t => by rw [upd_ne (ne_of_none e h0)]; exact R.stay b o e n t
  tab0 := fun n P h => Grow.lst hB n P (R.tab0 n P h)
  there0 := fun b h => by
    by_cases e : b = B
    · subst e; exact absurd h0 h
    · rw [upd_ne e]; exact R.there0 b h
  tabs := fun t h => Grow.lst hB _ _ (R.tabs t h)
  code := by
    rcases R.code with h | ⟨P, h1, h2⟩
    · exact .inl h
    · refine .inr ⟨P, ?_, Grow.lst hB _ _ h2⟩
      rcases h1 with h1 | ⟨φ, e1, e2⟩
      · exact .inl h1
      · refine .inr ⟨φ, ?_, e2⟩
        rw [upd_ne (fun z => by rw [z, hB] at e1; cases e1)]
        exact e1

/- slots of a target hold no owned list -/
mutual
theorem asgT_own : ∀ (t : Tg) (d : D) (ρ ρ' : DEnv), asgT t d ρ = some ρ' → ∀ (i : Nat) (xs : List D), ρ'[i]? = some (Slot.own xs) → ρ[i]? = some (Slot.own xs) ∧ i ∉ t.slots
  | .nm j, d, ρ, ρ', e, i, xs, h => by
    simp only [asgT] at e
    split at e
    · rename_i hl
      cases e
      by_cases q : j = i
      · subst q
        rw [List.getElem?_set_self hl] at h
        cases h
      · rw [List.getElem?_set_ne q] at h
        exact ⟨h, fun z => q (List.mem_singleton.mp z).symm⟩
    · cases e
  | .tp ts, .tuple ds, ρ, ρ', e, i, xs, h => by
    simp only [asgT] at e
    exact asgTs_own ts ds ρ ρ' e i xs h
  | .tp ts, .list ds, ρ, ρ', e, i, xs, h => by
    simp only [asgT] at e
    exact asgTs_own ts ds ρ ρ' e i xs h
  | .nil, _, _, _, e, _, _, _ => by simp [asgT] at e
  | .cons _ _, _, _, _, e, _, _, _ => by simp [asgT] at e
  | .tp ts, .none, ρ, ρ', e, i, xs, h => by simp [asgT] at e
  | .tp ts, .bool _, ρ, ρ', e, i, xs, h => by simp [asgT] at e
  | .tp ts, .int _, ρ, ρ', e, i, xs, h => by simp [asgT] at e
  | .tp ts, .str _, ρ, ρ', e, i, xs, h => by simp [asgT] at e
theorem asgTs_own : ∀ (t : Tg) (ds : List D) (ρ ρ' : DEnv), asgTs t ds ρ = some ρ' → ∀ (i : Nat) (xs : List D), ρ'[i]? = some (Slot.own xs) → ρ[i]? = some (Slot.own xs) ∧ i ∉ t.slots
  | .nil, [], ρ, ρ', e, i, xs, h => by
    simp only [asgTs] at e
    cases e
    exact ⟨h, fun z => by cases z⟩
  | .cons t ts, x :: ds, ρ, ρ', e, i, xs, h => by
    simp only [asgTs] at e
    split at e
    · rename_i ρ1 e1
      obtain ⟨h1, n1⟩ := asgTs_own ts ds ρ1 ρ' e i xs h
      obtain ⟨h2, n2⟩ := asgT_own t x ρ ρ1 e1 i xs h1
      exact ⟨h2, fun z => (List.mem_append.mp z).elim n2 n1⟩
    · cases e
  | .nil, _ :: _, _, _, e, _, _, _ => by simp [asgTs] at e
  | .cons _ _, [], _, _, e, _, _, _ => by simp [asgTs] at e
  | .nm _, _, _, _, e, _, _, _ => by simp [asgTs] at e
  | .tp _, _, _, _, e, _, _, _ => by simp [asgTs] at e
end
theorem owned_asg {t : Tg} {d : D} {τ σ2 : L2.St} (e : asgT t d ρ = some ρ2) (hσ : ∀ i, i ∉ t.slots → σ2[i]? = τ[i]?) {b : Addr} (h : owned ρ2 σ2 b) : owned ρ τ b := by
  obtain ⟨i, xs, h1, h2⟩ := h
  obtain ⟨h3, h4⟩ := asgT_own t d ρ ρ2 e i xs h1
  rw [hσ i h4] at h2
  exact ⟨i, xs, h3, h2⟩
/-- a turn of a block -/
theorem Post.turn {ρ3 : DEnv} {t : Tg} {d : D} {τ σ2 : L2.St} {vs : List Nat} {F' H' : Hp} (e : asgT t d ρ = some ρ2) (hσ : ∀ i, i ∉ t.slots → σ2[i]? = τ[i]?) (p : Post ρ2 σ2 F H ρ3 F' H') : Post ρ τ F H (wipeD ρ3 vs) F' H' where
  f := p.f
  keep := fun b o h n k => p.keep b o h (fun z => n (owned_asg e hσ z)) k
  tab := p.tab
  there := p.there
  new := fun b => (p.new b).elim .inl fun z => z.elim (fun z => .inr (.inl z)) fun z => .inr (.inr (owned_asg e hσ z))
  own := fun i xs h => by
    have hi : i ∉ vs := fun z => by have := wipeD_in z h; cases this
    rw [wipeD_out hi] at h
    obtain ⟨ys, h⟩ := p.own i xs h
    exact ⟨ys, (asgT_own t d ρ ρ2 e i ys h).1⟩
/-- an item comes -/
theorem ItOk.item {J : It} {ds : List D} {τ : L2.St} {F0 : Hp} (ok : ItOk C.K J F0 ds) (R : Rep C ρ τ F H) (h0 : ∀ b o, F0 b = some o → F b = some o) {i : Nat} {x : V} {H' : Hp} {d : D} (y : J.yld i H x H') (e : ds[i]? = some d) :
    ∃ F', Rep C ρ τ F' H' ∧ Post ρ τ F H ρ F' H' ∧ Dq C.K F' x d := by
  rcases ok.yld i H x H' d (fun b o e => R.sub b o (h0 b o e)) y e with ⟨rfl, q⟩ | ⟨T, ws, es, rfl, hT, rfl, ha, rfl⟩
  · exact ⟨F, R, Post.refl .., dp_mono h0 q⟩
  · obtain ⟨R', p⟩ := R.newFrz hT (o := .tup ws) (fun ps z => nomatch z)
    exact ⟨_, R', p, .tup (.inl (.inl (upd_same))) (dps_mono (fun b o e => p.f b o (h0 b o e)) ha)⟩
end

/-! ### comprehensions -/
abbrev Tm := DEnv → Option (Bool × DEnv)
def lcGo (t : Tg) (ft : Tm) (fe : Sm) (vs : List Nat) : List D → DEnv → Option (List D × DEnv)
  | [], ρ => some ([], ρ)
  | d :: ds, ρ => match asgT t d ρ with
    | some ρ1 => match ft ρ1 with
      | some (true, ρ2) => match fe ρ2 with
        | some (rv, ρ3) => match lcGo t ft fe vs ds (wipeD ρ3 vs) with
          | some (ys, ρ4) => some (rv.frz :: ys, ρ4)
          | none => none
        | none => none
      | some (false, ρ2) => lcGo t ft fe vs ds (wipeD ρ2 vs)
      | none => none
    | none => none
/-- what a loop over J with the list at B is to show -/
def LcTurn (J : It) (g : TG) (tt : TT) (te : TE) (vs : List Nat) (τ : L2.St) (B : Addr) (H1 : Hp) (Q : Hp → Prop) : Prop := ∃ W : Nat → Nat → Hp → Prop, (∃ m, W 0 m H1) ∧ ∀ i m H, W i m H →
  (J.stop i H ∧ Q H) ∨ (J.go i H ∧ ∃ Nx : Hp → Prop, (∀ H', Nx H' → ∃ m', m' < m ∧ W (i + 1) m' H') ∧ ∀ x H', J.yld i H x H' → g x τ H' fun σ2 H2 => wipe σ2 vs = τ ∧ tt σ2 H2 fun b H3 =>
    if b = true then te σ2 H3 fun y H4 => ∃ acc, H4 B = some (.lst acc) ∧ acc.length < sizeLine ∧ Nx (upd H4 B (.lst (acc ++ [y]))) else Nx H3)
theorem lc_loop {C : Cs} {t : Tg} {ft : Tm} {fe : Sm} {vs : List Nat} {τ : L2.St} {B : Addr} {J : It} {ds acc0 ys : List D} {ρs ρe : DEnv} {F1 H1 : Hp} {av : List V} {Q : Hp → Prop} (ht : ∀ i ∈ t.slots, i ∈ vs) (hτ : wipe τ vs = τ) (R1 : Rep C ρs τ F1 H1) (ok : ItOk C.K J F1 ds)
    (hB : H1 B = some (.lst av)) (hF : F1 B = none) (ho : ¬ owned ρs τ B) (h0 : C.H0 B = none) (ha : DqAll C.K F1 av acc0) (hg : lcGo t ft fe vs ds ρs = some (ys, ρe)) (hsz : acc0.length + ys.length ≤ sizeLine)
    (k : ∀ Fe He aw, Rep C ρe τ Fe He → PostX B ρs τ F1 H1 ρe Fe He → He B = some (.lst aw) → Fe B = none → DqAll C.K Fe aw (acc0 ++ ys) → Q He) :
    LcTurn J (gD C t) (tT C ft) (tF C fe) vs τ B H1 Q := by
  refine ⟨fun i m H => m = ds.length - i ∧ i ≤ ds.length ∧ ∃ ρ F aw acc rest, Rep C ρ τ F H ∧ PostX B ρs τ F1 H1 ρ F H ∧ H B = some (.lst aw) ∧ F B = none ∧ DqAll C.K F aw acc ∧ lcGo t ft fe vs (ds.drop i) ρ = some (rest, ρe) ∧ acc ++ rest = acc0 ++ ys,
    ⟨ds.length, by simp, Nat.zero_le _, ρs, F1, av, acc0, ys, R1, PostX.of (Post.refl ..), hB, hF, ha, by simpa using hg, rfl⟩, ?_⟩
  rintro i m H ⟨rfl, hi, ρ, F, aw, acc, rest, R, p, hB', hF', ha', hg', he⟩
  have hs : ∀ b o, F1 b = some o → H b = some o := fun b o e => R.sub b o (p.f b o e)
  by_cases hlt : i < ds.length
  · refine .inr ⟨ok.go i H hs hlt, fun H' => ∃ m', m' = ds.length - (i + 1) ∧ i + 1 ≤ ds.length ∧ ∃ ρ F aw acc rest, Rep C ρ τ F H' ∧ PostX B ρs τ F1 H1 ρ F H' ∧ H' B = some (.lst aw) ∧ F B = none ∧ DqAll C.K F aw acc ∧ lcGo t ft fe vs (ds.drop (i + 1)) ρ = some (rest, ρe) ∧ acc ++ rest = acc0 ++ ys,
      fun H' ⟨m', e, w⟩ => ⟨m', by omega, e, w⟩, fun x H2 hy => ?_⟩
    have hd : ds[i]? = some ds[i] := List.getElem?_eq_getElem hlt
    obtain ⟨F2, R2, p2, dq⟩ := ok.item R p.f hy hd
    rw [List.drop_eq_getElem_cons hlt] at hg'
    simp only [lcGo] at hg'
    split at hg'
    · rename_i ρa ea
      have nB : ¬ owned ρ τ B := fun z => ho (p.owned_back z)
      have b2 : H2 B = some (.lst aw) := p2.keep B _ hB' nB fun ps z => nomatch z
      have f2 : F2 B = none := by
        rcases p2.new B with z | z | z
        · rw [z]; exact hF'
        · rw [hB'] at z; cases z
        · exact absurd z nB
      refine ⟨ρ, F2, ds[i], ρa, R2, .frz dq, fun _ _ => dq, ea, fun σ2 Ra hl hσ => ?_⟩
      have hw : wipe σ2 vs = τ := by
        rw [wipe_same hl (fun j hj => hσ j fun z => hj (ht j z)), hτ]
      refine ⟨hw, ?_⟩
      split at hg'
      · rename_i ρt et
        split at hg'
        · rename_i rv ρv ev
          split at hg'
          · rename_i ys' ρz ez
            cases hg'
            refine ⟨ρa, F2, true, ρt, Ra, et, fun Ft Ht Rt pt => ?_⟩
            show (if true = true then _ else _)
            rw [if_pos rfl]
            refine ⟨ρt, Ft, rv, ρv, Rt, ev, fun y F4 H4 R4 p4 dy => ?_⟩
            have q := Post.turn (vs := vs) ea hσ (pt.trans p4)
            have b4 : H4 B = some (.lst aw) := q.keep B _ b2 nB fun ps z => nomatch z
            have f4 : F4 B = none := by
              rcases q.new B with z | z | z
              · rw [z]; exact f2
              · rw [b2] at z; cases z
              · exact absurd z nB
            have Rw : Rep C (wipeD ρv vs) τ F4 H4 := hw ▸ R4.wiped
            have pp : PostX B ρs τ F1 H1 (wipeD ρv vs) F4 H4 := p.trans (PostX.of (p2.trans q))
            have la : aw.length = acc.length := dps_len ha'
            refine ⟨aw, b4, ?_, _, rfl, hlt, wipeD ρv vs, F4, aw ++ [y], acc ++ [rv.frz], ys', Rw.setLst b4 f4 (fun z => ho (pp.owned_back z)) h0, pp.set b4, upd_same, f4, dps_app (dps_mono (fun b o e => q.f b o (p2.f b o e)) ha') (.cons dy .nil), ez, by rw [← he]; simp⟩
            have := congrArg List.length he
            simp only [List.length_append, List.length_cons] at this
            omega
          · cases hg'
        · cases hg'
      · rename_i ρt et
        refine ⟨ρa, F2, false, ρt, Ra, et, fun Ft Ht Rt pt => ?_⟩
        show (if false = true then _ else _)
        rw [if_neg Bool.false_ne_true]
        have q := Post.turn (vs := vs) ea hσ pt
        have b4 : Ht B = some (.lst aw) := q.keep B _ b2 nB fun ps z => nomatch z
        have f4 : Ft B = none := by
          rcases q.new B with z | z | z
          · rw [z]; exact f2
          · rw [b2] at z; cases z
          · exact absurd z nB
        exact ⟨_, rfl, hlt, wipeD ρt vs, Ft, aw, acc, rest, hw ▸ Rt.wiped, p.trans (PostX.of (p2.trans q)), b4, f4, dps_mono (fun b o e => q.f b o (p2.f b o e)) ha', hg', he⟩
      · cases hg'
    · cases hg'
  · have e : i = ds.length := by omega
    subst e
    rw [List.drop_length] at hg'
    simp only [lcGo] at hg'
    cases hg'
    rw [List.append_nil] at he
    exact .inl ⟨ok.stop H hs, k F H aw R p hB' hF' (he ▸ ha')⟩
end Mi

set_option maxRecDepth 100000
set_option maxHeartbeats 2000000
namespace Mi
open PySem PySem.Spec PyProof.Rows L2 Gx RZ

def noOwn (vs : List Nat) (ρ : DEnv) : Bool := vs.all fun i => !isOwn ρ[i]?
theorem noOwn_of {vs : List Nat} {ρ : DEnv} (h : noOwn vs ρ = true) : ∀ i ∈ vs, isOwn ρ[i]? = false := fun i hi => by
  have := List.all_eq_true.mp h i hi
  simpa using this
theorem wipe_idem (σ : L2.St) (vs : List Nat) : wipe (wipe σ vs) vs = wipe σ vs := wipe_same (wipe_length ..) fun i hi => wipe_out hi
/-- [e for t in it if c] -/
def sLc (fi : Im) (t : Tg) (ft : Tm) (fe : Sm) (vs : List Nat) : Sm := fun ρ => match fi ρ with
  | some (ds, ρ1) => if noOwn vs ρ1 = true then match lcGo t ft fe vs ds (wipeD ρ1 vs) with
      | some (ys, ρ2) => if ys.length ≤ sizeLine then some (.fl ys, restD ρ1 ρ2 vs) else none
      | none => none
    else none
  | none => none
/-- [e for t in it if c for t1 in it1 if c1] -/
def lc2Go (t : Tg) (ft : Tm) (fi1 : Im) (t1 : Tg) (ft1 : Tm) (fe : Sm) (vs vs1 : List Nat) : List D → DEnv → Option (List D × DEnv)
  | [], ρ => some ([], ρ)
  | d :: ds, ρ => match asgT t d ρ with
    | some ρ1 => match ft ρ1 with
      | some (true, ρ2) => match fi1 ρ2 with
        | some (ds1, ρ3) => match lcGo t1 ft1 fe vs1 ds1 (wipeD ρ3 vs1) with
          | some (ys1, ρ4) => match lc2Go t ft fi1 t1 ft1 fe vs vs1 ds (wipeD ρ4 vs) with
            | some (ys, ρ5) => some (ys1 ++ ys, ρ5)
            | none => none
          | none => none
        | none => none
      | some (false, ρ2) => lc2Go t ft fi1 t1 ft1 fe vs vs1 ds (wipeD ρ2 vs)
      | none => none
    | none => none
def sLc2 (fi : Im) (t : Tg) (ft : Tm) (fi1 : Im) (t1 : Tg) (ft1 : Tm) (fe : Sm) (vs vs1 : List Nat) : Sm := fun ρ => match fi ρ with
  | some (ds, ρ1) => if noOwn vs ρ1 = true then match lc2Go t ft fi1 t1 ft1 fe vs vs1 ds (wipeD ρ1 vs) with
      | some (ys, ρ2) => if ys.length ≤ sizeLine then some (.fl ys, restD ρ1 ρ2 vs) else none
      | none => none
    else none
  | none => none
section
variable {C : Cs}
theorem Rep.h0none {ρ : DEnv} {σ : L2.St} {F H : Hp} (R : Rep C ρ σ F H) {B : Addr} (h : H B = none) : C.H0 B = none := by
  cases q : C.H0 B with
  | none => rfl
  | some o => exact absurd h (R.there0 B (by rw [q]; exact fun z => nomatch z))
theorem Rep.fnone {ρ : DEnv} {σ : L2.St} {F H : Hp} (R : Rep C ρ σ F H) {B : Addr} (h : H B = none) : F B = none := by
  cases q : F B with
  | none => rfl
  | some o => rw [R.sub B o q] at h; cases h
theorem Rep.notOwn {ρ : DEnv} {σ : L2.St} {F H : Hp} (R : Rep C ρ σ F H) {B : Addr} (h : H B = none) : ¬ owned ρ σ B := fun ⟨i, xs, h1, h2⟩ => by
  obtain ⟨a, vs, e1, e2, e3, _⟩ := R.own i xs h1
  rw [h2] at e1
  cases e1
  rw [h] at e3; cases e3
theorem Post.none_back {ρ ρ1 : DEnv} {σ : L2.St} {F H F1 H1 : Hp} (p : Post ρ σ F H ρ1 F1 H1) {B : Addr} (h : H1 B = none) : H B = none := by
  cases q : H B with
  | none => rfl
  | some o => exact absurd h (p.there B (by rw [q]; exact fun z => nomatch z))
/-- a new list, built by a block, comes back to the def -/
theorem lc_back {ρ ρ1 ρ2 : DEnv} {σ : L2.St} {F H F1 H1 Fe He : Hp} {vs : List Nat} {B : Addr} {aw : List V} {ys : List D} {Q : VK} (R1 : Rep C ρ1 σ F1 H1) (p1 : Post ρ σ F H ρ1 F1 H1) (hn : ∀ i ∈ vs, isOwn ρ1[i]? = false) (hB : H1 B = none)
    (Re : Rep C ρ2 (wipe σ vs) Fe He) (pe : PostX B (wipeD ρ1 vs) (wipe σ vs) F1 (upd H1 B (.lst [])) ρ2 Fe He) (hl : He B = some (.lst aw)) (hf : Fe B = none) (ha : DqAll C.K Fe aw ys)
    (k : ∀ v F' H', Rep C (restD ρ1 ρ2 vs) σ F' H' → Post ρ σ F H (restD ρ1 ρ2 vs) F' H' → RVok C (restD ρ1 ρ2 vs) σ H F' H' (.fl ys) v → Q v H') : Q (.ref B) He := by
  have Rw := R1.wiped (vs := vs)
  obtain ⟨_, pn⟩ := Rw.newObj hB (o := .lst []) (fun ps z => nomatch z)
  have pw : Post (wipeD ρ1 vs) (wipe σ vs) F1 H1 ρ2 Fe He := ((PostX.of pn).trans pe).post hB
  have pb := p1.trans (Post.back hn pw)
  refine k (.ref B) Fe He (R1.back hn Re pe.f) pb ⟨B, aw, rfl, p1.none_back hB, hf, hl, ha, fun z => ?_⟩
  exact Rw.notOwn hB (pw.owned_back (owned_back hn z))
theorem lc_of {fi : Im} {t : Tg} {ft : Tm} {fe : Sm} {vs : List Nat} (ht : ∀ i ∈ t.slots, i ∈ vs) {σ : L2.St} {H : Hp} {Q : VK} (q : tM C (sLc fi t ft fe vs) σ H Q) : tLc (tI C fi) (gD C t) (tT C ft) (tF C fe) vs σ H Q := by
  obtain ⟨ρ, F, rv, ρ', R, e, k⟩ := q
  unfold sLc at e
  split at e
  · rename_i ds ρ1 e1
    split at e
    · rename_i hn
      split at e
      · rename_i ys ρ2 e2
        split at e
        · rename_i hsz
          cases e
          have hn := noOwn_of hn
          refine ⟨ρ, F, ds, ρ1, R, e1, fun J F1 H1 R1 p1 ok B hB => ?_⟩
          have Rw := R1.wiped (vs := vs)
          obtain ⟨Rn, pn⟩ := Rw.newObj hB (o := .lst []) (fun ps z => nomatch z)
          exact lc_loop ht (wipe_idem σ vs) Rn ok upd_same (R1.fnone hB) (Rw.notOwn hB) (R1.h0none hB) .nil e2 (by simpa using hsz)
            fun Fe He aw Re pe hl hf ha => lc_back R1 p1 hn hB Re pe hl hf ha k
        · cases e
      · cases e
    · cases e
  · cases e
theorem wipe_sub {σ2 τ : L2.St} {vs vs1 : List Nat} (h : wipe σ2 vs = τ) (hv : ∀ i ∈ vs1, i ∈ vs) : wipe (wipe σ2 vs1) vs = τ := by
  rw [← h]
  exact wipe_same (wipe_length ..) fun i hi => wipe_out fun z => hi (hv i z)
theorem wipeD_same {ρ ρ' : DEnv} {vs : List Nat} (hl : ρ'.length = ρ.length) (h : ∀ i, i ∉ vs → ρ'[i]? = ρ[i]?) : wipeD ρ' vs = wipeD ρ vs := by
  refine List.ext_getElem? fun i => ?_
  by_cases hi : i ∈ vs
  · have a : ∀ τ : DEnv, τ.length = ρ.length → (wipeD τ vs)[i]? = if i < ρ.length then some .no else none := by
      intro τ ht
      by_cases hlt : i < ρ.length
      · have hb : i < (wipeD τ vs).length := by rw [wipeD_len, ht]; exact hlt
        have q : (wipeD τ vs)[i]? = some ((wipeD τ vs)[i]'hb) := List.getElem?_eq_getElem hb
        rw [if_pos hlt, q, wipeD_in hi q]
      · rw [if_neg hlt]
        exact List.getElem?_eq_none (by rw [wipeD_len]; omega)
    rw [a ρ' hl, a ρ rfl]
  · rw [wipeD_out hi, wipeD_out hi, h i hi]
theorem owned_wipedTo {ρ : DEnv} {σ : L2.St} {vs : List Nat} {a : Addr} (h : owned (wipeD ρ vs) (wipe σ vs) a) : owned ρ σ a := owned_wiped h
/-- the inner loop's post as one of the turn's -/
theorem PostX.wiped {B : Addr} {ρ ρ' : DEnv} {σ : L2.St} {F H F' H' : Hp} {vs : List Nat} (p : PostX B (wipeD ρ vs) (wipe σ vs) F H ρ' F' H') (ho : ∀ (i : Nat) (xs : List D), ρ'[i]? = some (Slot.own xs) → i ∉ vs) : PostX B ρ σ F H ρ' F' H' where
  f := p.f
  keep := fun b o h d n t => p.keep b o h d (fun z => n (owned_wiped z)) t
  tab := p.tab
  there := p.there
  new := fun b => (p.new b).elim .inl fun z => z.elim (fun z => .inr (.inl z)) fun z => .inr (.inr (owned_wiped z))
  own := fun i xs h => by
    obtain ⟨ys, h1⟩ := p.own i xs h
    have hi := ho i xs h
    rw [wipeD_out hi] at h1
    exact ⟨ys, h1⟩
theorem PostX.turn {B : Addr} {ρ ρ2 ρ3 : DEnv} {t : Tg} {d : D} {τ σ2 : L2.St} {vs : List Nat} {F H F' H' : Hp} (e : asgT t d ρ = some ρ2) (hσ : ∀ i, i ∉ t.slots → σ2[i]? = τ[i]?) (p : PostX B ρ2 σ2 F H ρ3 F' H') : PostX B ρ τ F H (wipeD ρ3 vs) F' H' where
  f := p.f
  keep := fun b o h d n k => p.keep b o h d (fun z => n (owned_asg e hσ z)) k
  tab := p.tab
  there := p.there
  new := fun b => (p.new b).elim .inl fun z => z.elim (fun z => .inr (.inl z)) fun z => .inr (.inr (owned_asg e hσ z))
  own := fun i xs h => by
    have hi : i ∉ vs := fun z => by have := wipeD_in z h; cases this
    rw [wipeD_out hi] at h
    obtain ⟨ys, h⟩ := p.own i xs h
    exact ⟨ys, (asgT_own t d ρ ρ2 e i ys h).1⟩
/-- what the inner loop leaves: its own slots hold nothing -/
theorem lcGo_no {t : Tg} {ft : Tm} {fe : Sm} {vs : List Nat} : ∀ {ds : List D} {ρ ρe : DEnv} {ys : List D}, lcGo t ft fe vs ds ρ = some (ys, ρe) → (∀ i ∈ vs, ∀ s, ρ[i]? = some s → s = .no) → ∀ i ∈ vs, ∀ s, ρe[i]? = some s → s = .no
  | [], ρ, ρe, ys, e, h => by cases e; exact h
  | d :: ds, ρ, ρe, ys, e, h => by
    simp only [lcGo] at e
    split at e
    · split at e
      · split at e
        · split at e
          · rename_i e2
            cases e
            exact lcGo_no e2 fun i hi s hs => wipeD_in hi hs
          · cases e
        · cases e
      · exact lcGo_no e fun i hi s hs => wipeD_in hi hs
      · cases e
    · cases e
theorem lc2_of {fi fi1 : Im} {t t1 : Tg} {ft ft1 : Tm} {fe : Sm} {vs vs1 : List Nat} (ht : ∀ i ∈ t.slots, i ∈ vs) (ht1 : ∀ i ∈ t1.slots, i ∈ vs1) (hv : ∀ i ∈ vs1, i ∈ vs) {σ : L2.St} {H : Hp} {Q : VK} (q : tM C (sLc2 fi t ft fi1 t1 ft1 fe vs vs1) σ H Q) :
    tLc2 (tI C fi) (gD C t) (tT C ft) (tI C fi1) (gD C t1) (tT C ft1) (tF C fe) vs vs1 σ H Q := by
  obtain ⟨ρ, F, rv, ρ', R, e, k⟩ := q
  unfold sLc2 at e
  split at e
  · rename_i ds ρ1 e1
    split at e
    · rename_i hn
      split at e
      · rename_i ys ρ2 e2
        split at e
        · rename_i hsz
          cases e
          have hn := noOwn_of hn
          refine ⟨ρ, F, ds, ρ1, R, e1, fun J F1 H1 R1 p1 ok B hB => ?_⟩
          have Rw := R1.wiped (vs := vs)
          obtain ⟨Rn, pn⟩ := Rw.newObj hB (o := .lst []) (fun ps z => nomatch z)
          have oB : ¬ owned (wipeD ρ1 vs) (wipe σ vs) B := Rw.notOwn hB
          have h0B := R1.h0none hB
          generalize hτ : wipe σ vs = τ at *
          have hττ : wipe τ vs = τ := by rw [← hτ]; exact wipe_idem σ vs
          generalize hρs : wipeD ρ1 vs = ρs at *
          generalize hHs : upd H1 B (.lst []) = Hs at *
          refine ⟨fun i m H => m = ds.length - i ∧ i ≤ ds.length ∧ ∃ ρ F aw acc rest, Rep C ρ τ F H ∧ PostX B ρs τ F1 Hs ρ F H ∧ H B = some (.lst aw) ∧ F B = none ∧ DqAll C.K F aw acc ∧ lc2Go t ft fi1 t1 ft1 fe vs vs1 (ds.drop i) ρ = some (rest, ρ2) ∧ acc ++ rest = ys,
            ⟨ds.length, by simp, Nat.zero_le _, ρs, F1, [], [], ys, Rn, PostX.of (Post.refl ..), by rw [← hHs]; exact upd_same, R1.fnone hB, .nil, by simpa using e2, rfl⟩, ?_⟩
          rintro i m H ⟨rfl, hi, ρ, F, aw, acc, rest, R, p, hB', hF', ha', hg', he⟩
          have hs : ∀ b o, F1 b = some o → H b = some o := fun b o e => R.sub b o (p.f b o e)
          by_cases hlt : i < ds.length
          · refine .inr ⟨ok.go i H hs hlt, fun H' => ∃ m', m' = ds.length - (i + 1) ∧ i + 1 ≤ ds.length ∧ ∃ ρ F aw acc rest, Rep C ρ τ F H' ∧ PostX B ρs τ F1 Hs ρ F H' ∧ H' B = some (.lst aw) ∧ F B = none ∧ DqAll C.K F aw acc ∧ lc2Go t ft fi1 t1 ft1 fe vs vs1 (ds.drop (i + 1)) ρ = some (rest, ρ2) ∧ acc ++ rest = ys,
              fun H' ⟨m', e, w⟩ => ⟨m', by omega, e, w⟩, fun x H2 hy => ?_⟩
            have hd : ds[i]? = some ds[i] := List.getElem?_eq_getElem hlt
            obtain ⟨F2, R2, p2, dq⟩ := ok.item R p.f hy hd
            rw [List.drop_eq_getElem_cons hlt] at hg'
            simp only [lc2Go] at hg'
            split at hg'
            · rename_i ρa ea
              have nB : ¬ owned ρ τ B := fun z => oB (p.owned_back z)
              have b2 : H2 B = some (.lst aw) := p2.keep B _ hB' nB fun ps z => nomatch z
              have f2 : F2 B = none := by
                rcases p2.new B with z | z | z
                · rw [z]; exact hF'
                · rw [hB'] at z; cases z
                · exact absurd z nB
              refine ⟨ρ, F2, ds[i], ρa, R2, .frz dq, fun _ _ => dq, ea, fun σ2 Ra hl hσ => ?_⟩
              have hw : wipe σ2 vs = τ := by
                rw [wipe_same hl (fun j hj => hσ j fun z => hj (ht j z)), hττ]
              refine ⟨hw, ?_⟩
              split at hg'
              · rename_i ρt et
                split at hg'
                · rename_i ds1 ρ3 e3
                  split at hg'
                  · rename_i ys1 ρ4 e4
                    split at hg'
                    · rename_i ys' ρz ez
                      cases hg'
                      refine ⟨ρa, F2, true, ρt, Ra, et, fun Ft Ht Rt pt => ?_⟩
                      show (if true = true then _ else _)
                      rw [if_pos rfl]
                      refine ⟨ρt, Ft, ds1, ρ3, Rt, e3, fun J1 F3 H3 R3 p3 ok1 => ?_⟩
                      have q := Post.turn (vs := vs) ea hσ (pt.trans p3)
                      have nBa : ¬ owned ρa σ2 B := fun z => nB (owned_asg ea hσ z)
                      have b3 : H3 B = some (.lst aw) := q.keep B _ b2 nB fun ps z => nomatch z
                      have f3 : F3 B = none := by
                        rcases q.new B with z | z | z
                        · rw [z]; exact f2
                        · rw [b2] at z; cases z
                        · exact absurd z nB
                      have nB3 : ¬ owned ρ3 σ2 B := fun z => nBa ((pt.trans p3).owned_back z)
                      have hlen := congrArg List.length he
                      simp only [List.length_append] at hlen
                      refine lc_loop ht1 (wipe_idem σ2 vs1) (R3.wiped (vs := vs1)) ok1 b3 f3 (fun z => nB3 (owned_wiped z)) h0B (dps_mono (fun b o e => q.f b o (p2.f b o e)) ha') e4 (by omega) fun Fe He aw' Re pe hl' hf' ha4 => ?_
                      have own4 : ∀ (i : Nat) (xs : List D), ρ4[i]? = some (Slot.own xs) → i ∉ vs1 := fun j xs h hj => by
                        have := lcGo_no e4 (fun i hi s hs => wipeD_in hi hs) j hj _ h
                        cases this
                      have p4 : PostX B ρ3 σ2 F3 H3 ρ4 Fe He := pe.wiped own4
                      have pall : PostX B ρ τ F2 H2 (wipeD ρ4 vs) Fe He := PostX.turn ea hσ ((PostX.of (pt.trans p3)).trans p4)
                      have hww : wipe (wipe σ2 vs1) vs = τ := wipe_sub hw hv
                      exact ⟨_, rfl, hlt, wipeD ρ4 vs, Fe, aw', acc ++ ys1, ys', hww ▸ Re.wiped, (p.trans (PostX.of p2)).trans pall, hl', hf', ha4, ez, by rw [List.append_assoc]; exact he⟩
                    · cases hg'
                  · cases hg'
                · cases hg'
              · rename_i ρt et
                refine ⟨ρa, F2, false, ρt, Ra, et, fun Ft Ht Rt pt => ?_⟩
                show (if false = true then _ else _)
                rw [if_neg Bool.false_ne_true]
                have q := Post.turn (vs := vs) ea hσ pt
                have b4 : Ht B = some (.lst aw) := q.keep B _ b2 nB fun ps z => nomatch z
                have f4 : Ft B = none := by
                  rcases q.new B with z | z | z
                  · rw [z]; exact f2
                  · rw [b2] at z; cases z
                  · exact absurd z nB
                exact ⟨_, rfl, hlt, wipeD ρt vs, Ft, aw, acc, rest, hw ▸ Rt.wiped, p.trans (PostX.of (p2.trans q)), b4, f4, dps_mono (fun b o e => q.f b o (p2.f b o e)) ha', hg', he⟩
              · cases hg'
            · cases hg'
          · have e : i = ds.length := by omega
            subst e
            rw [List.drop_length] at hg'
            simp only [lc2Go] at hg'
            cases hg'
            rw [List.append_nil] at he
            refine .inl ⟨ok.stop H hs, ?_⟩
            subst hτ hρs hHs he
            exact lc_back R1 p1 hn hB R p hB' hF' ha' k
        · cases e
      · cases e
    · cases e
  · cases e
end

section
variable {X : Cx} {C : Cs} {elt tg iter tg1 iter1 : Expr} {ifs ifs1 : List Expr} {scope : Scope} {own : List (Str × Nat)} {pos : Pos} {fi fi1 : Im} {t t1 : Tg} {ft ft1 : Tm} {fe : Sm} {vs1 : List Nat}
theorem m_lc (ht : (t.slots.all fun i => (own.map (·.2)).contains i) = true) (hc : X.calm = true) (hN : X.N.Nodup) (hi : PI X tg iter (tI C fi)) (ok : BlkOk X.N X.env.scope scope own)
    (hg : ∀ (s : Shared) (H : Hp) (L : Addr) (cl : List (Str × Addr)) (fp : List Addr), PG (X.blk s H scope (compEnvC scope cl L X.env) fp) tg (gD C t)) (htt : ∀ (s : Shared) (H : Hp) (L : Addr) (cl : List (Str × Addr)) (fp : List Addr), PTs (X.blk s H scope (compEnvC scope cl L X.env) fp) ifs (tT C ft))
    (he : ∀ (s : Shared) (H : Hp) (L : Addr) (cl : List (Str × Addr)) (fp : List Addr), PE (X.blk s H scope (compEnvC scope cl L X.env) fp) elt (tM C fe)) (hs : ∀ x, foldedSetIterable iter X.env x = pure x) :
    PE X (.ListComp elt [⟨tg, iter, ifs, 0⟩] scope pos) (tM C (sLc fi t ft fe (own.map (·.2)))) :=
  PE.imp (pe_lc hc hN hi ok hg htt (fun s H L cl fp => pe_frz (he s H L cl fp)) hs) fun σ H Q q => lc_of (fun i hi => by have := List.all_eq_true.mp ht i hi; simpa using this) q
theorem m_lc2 (ht : (t.slots.all fun i => (own.map (·.2)).contains i) = true) (ht1 : (t1.slots.all fun i => vs1.contains i) = true) (hv : (vs1.all fun i => (own.map (·.2)).contains i) = true) (hc : X.calm = true) (hN : X.N.Nodup) (hi : PI X tg iter (tI C fi)) (ok : BlkOk X.N X.env.scope scope own)
    (hg : ∀ (s : Shared) (H : Hp) (L : Addr) (cl : List (Str × Addr)) (fp : List Addr), PG (X.blk s H scope (compEnvC scope cl L X.env) fp) tg (gD C t)) (htt : ∀ (s : Shared) (H : Hp) (L : Addr) (cl : List (Str × Addr)) (fp : List Addr), PTs (X.blk s H scope (compEnvC scope cl L X.env) fp) ifs (tT C ft))
    (he : ∀ (s : Shared) (H : Hp) (L : Addr) (cl : List (Str × Addr)) (fp : List Addr), PE (X.blk s H scope (compEnvC scope cl L X.env) fp) elt (tM C fe)) (hs : ∀ x, foldedSetIterable iter X.env x = pure x)
    (hi1 : ∀ (s : Shared) (H : Hp) (L : Addr) (cl : List (Str × Addr)) (fp : List Addr), PI (X.blk s H scope (compEnvC scope cl L X.env) fp) tg1 iter1 (tI C fi1))
    (hg1 : ∀ (s : Shared) (H : Hp) (L : Addr) (cl : List (Str × Addr)) (fp : List Addr), PG (X.blk s H scope (compEnvC scope cl L X.env) fp) tg1 (gD C t1))
    (htt1 : ∀ (s : Shared) (H : Hp) (L : Addr) (cl : List (Str × Addr)) (fp : List Addr), PTs (X.blk s H scope (compEnvC scope cl L X.env) fp) ifs1 (tT C ft1))
    (hs1 : ∀ env x, foldedSetIterable iter1 env x = pure x) :
    PE X (.ListComp elt [⟨tg, iter, ifs, 0⟩, ⟨tg1, iter1, ifs1, 0⟩] scope pos) (tM C (sLc2 fi t ft fi1 t1 ft1 fe (own.map (·.2)) vs1)) := by
  have cv : ∀ {l l1 : List Nat}, (l.all fun i => l1.contains i) = true → ∀ i ∈ l, i ∈ l1 := fun h i hi => by have := List.all_eq_true.mp h i hi; simpa using this
  refine PE.imp (pe_lc2 hc hN hi ok (cv hv) hg htt hi1 hg1 htt1 (fun s H L cl fp => pe_frz (he s H L cl fp)) hs hs1) fun σ H Q q => lc2_of (cv ht) (cv ht1) (cv hv) q
end
end Mi

set_option maxRecDepth 100000
set_option maxHeartbeats 2000000
namespace Mi
open PySem PySem.Spec PyProof.Rows L2 Gx RZ

/-! ### any, all of a generator expression -/
structure GP where
  A : Around
  s_0 : Shared
  H_0 : Hp
  env : Env
  outer : List Env
  stack : List Env
  ex : List Addr
  pn : List (Addr × Obj)
abbrev genX (X : Cx) (scope : Scope) (c : Addr) (p : GP) : Cx :=
  { X with A := p.A, s_0 := p.s_0, H_0 := p.H_0, env := { p.env with scope := scope, code := .ref c }, outer := p.outer, stack := p.stack, ex := p.ex, fn := fun x => scope.names.lookup x == some .cell, pn := p.pn, xe := fun _ _ => False }
theorem gen_eq {X Y : Cx} {k : Nat} {scope : Scope} {c : Addr} (h : GenCtx X k scope c Y) : ∃ p : GP, Y = genX X scope c p ∧ Room k p.A := by
  obtain ⟨h1, h2, h3, h4, h5, h6, h7, h8, h9, h10, h11, h12⟩ := h
  refine ⟨⟨Y.A, Y.s_0, Y.H_0, Y.env, Y.outer, Y.stack, Y.ex, Y.pn⟩, ?_, h11⟩
  cases Y
  rename_i prog w K mg base A N s_0 H_0 env outer stack ex fn calm pn xe
  cases env
  simp only at *
  subst h1 h2 h3 h4 h5 h6 h7 h8 h9 h10 h12
  rfl
def genGo (kb : Bool) (t : Tg) (ft : Tm) (fe : Sm) (vs : List Nat) : List D → DEnv → Option (Bool × DEnv)
  | [], ρ => some (!kb, ρ)
  | d :: ds, ρ => match asgT t d ρ with
    | some ρ1 => match ft ρ1 with
      | some (true, ρ2) => match fe ρ2 with
        | some (.d (.bool z), ρ3) => if z = kb then some (kb, wipeD ρ3 vs) else genGo kb t ft fe vs ds (wipeD ρ3 vs)
        | _ => none
      | some (false, ρ2) => genGo kb t ft fe vs ds (wipeD ρ2 vs)
      | none => none
    | none => none
def sGen (kb : Bool) (fi : Im) (t : Tg) (ft : Tm) (fe : Sm) (vs : List Nat) : Sm := fun ρ => match fi ρ with
  | some (ds, ρ1) => if noOwn vs ρ1 = true then match genGo kb t ft fe vs ds (wipeD ρ1 vs) with
      | some (z, ρ2) => some (.d (.bool z), restD ρ1 ρ2 vs)
      | none => none
    else none
  | none => none
section
variable {C : Cs} {ρ ρ1 : DEnv} {σ : L2.St} {F H F1 H1 : Hp}
theorem Rep.codePost (R : Rep C ρ σ F H) (p : Post ρ σ F H ρ1 F1 H1) {base : Heap} {c P : Addr} (h : CodeK base H c P) : CodeK base H1 c P := by
  rcases h with h | ⟨φ, e, h⟩
  · exact .inl h
  · refine .inr ⟨φ, p.keep _ _ e (fun z => ?_) (fun _ z => nomatch z), h⟩
    obtain ⟨i, xs, h1, h2⟩ := z
    obtain ⟨a, vs, e1, _, e3, _⟩ := R.own i xs h1
    rw [h2] at e1
    cases e1
    rw [e] at e3; cases e3
theorem Rep.grow {c' P' : Addr} {n : Nat} (R : Rep C ρ σ F H) (g : Grow H H1) (hc : CodeK C.base H1 c' P') (hp : TabN H1 n P') : Rep { C with c := c', n := n } ρ σ F H1 where
  sub := fun b o e => g.keep b o (R.sub b o e) fun ps z => R.nt b ps (by rw [e, z])
  nt := R.nt
  len := R.len
  val := R.val
  own := fun i xs h => by
    obtain ⟨a, us, h1, h2, h3, h4, h5⟩ := R.own i xs h
    exact ⟨a, us, h1, h2, g.keep _ _ h3 (fun _ z => nomatch z), h4, h5⟩
  inj := R.inj
  stay := fun b o e n t => g.keep b o (R.stay b o e n t) t
  tab0 := fun n P h => g.tab n P (R.tab0 n P h)
  there0 := fun b h => g.there b (R.there0 b h)
  tabs := fun t h => g.tab _ _ (R.tabs t h)
  code := .inr ⟨P', hc, hp⟩
theorem Rep.recode {c' : Addr} {n : Nat} (R : Rep { C with c := c', n := n } ρ σ F H) (hc : ∃ P, CodeK C.base H C.c P ∧ TabN H C.n P) : Rep C ρ σ F H :=
  ⟨R.sub, R.nt, R.len, R.val, R.own, R.inj, R.stay, R.tab0, R.there0, R.tabs, .inr hc⟩
theorem Grow.post (R : Rep C ρ σ F H) (g : Grow H H1) : Post ρ σ F H ρ F H1 := ⟨fun _ _ e => e, fun b o e _ t => g.keep b o e t, g.tab, g.there, fun _ => .inl rfl, fun i xs h => ⟨xs, h⟩⟩
theorem Rep.swap {c' : Addr} {n : Nat} (R : Rep C ρ σ F H) (hc : n = 0 ∨ ∃ P, CodeK C.base H c' P ∧ TabN H n P) : Rep { C with c := c', n := n } ρ σ F H :=
  ⟨R.sub, R.nt, R.len, R.val, R.own, R.inj, R.stay, R.tab0, R.there0, R.tabs, hc⟩
theorem gen_of {kb : Bool} {fi : Im} {t : Tg} {ft : Tm} {fe : Sm} {vs : List Nat} {n : Nat} (hn1 : C.n = n + 1) (ht : ∀ i ∈ t.slots, i ∈ vs) {σ : L2.St} {H : Hp} {Q : VK} (q : tM C (sGen kb fi t ft fe vs) σ H Q) :
    tGen C.K C.base kb C.c n (tI C fi) (gD C t) (fun c' => tT { C with c := c', n := n } ft) (fun c' => tM { C with c := c', n := n } fe) vs σ H Q := by
  obtain ⟨ρ, F, rv, ρ', R, e, k⟩ := q
  unfold sGen at e
  split at e
  · rename_i ds ρ1 e1
    split at e
    · rename_i hn
      split at e
      · rename_i z ρ2 e2
        cases e
        have hn := noOwn_of hn
        refine ⟨ρ, F, ds, ρ1, R, e1, fun J F1 H1 R1 p1 ok => ?_⟩
        obtain ⟨P, hP1, hP2⟩ : ∃ P, CodeK C.base H1 C.c P ∧ TabN H1 C.n P := by
          rcases R1.code with h | h
          · omega
          · exact h
        rw [hn1] at hP2
        refine ⟨P, hP1, hP2, fun c' P' H2 g hc' hp' => ?_⟩
        have Rw := R1.wiped (vs := vs)
        have R0 := Rw.grow (n := n) g hc' hp'
        have p0 : Post (wipeD ρ1 vs) (wipe σ vs) F1 H1 (wipeD ρ1 vs) F1 H2 := Grow.post Rw g
        have fin : ∀ (ρi : DEnv) (Fi Hi : Hp) (b : Bool), Rep { C with c := c', n := n } ρi (wipe σ vs) Fi Hi → Post (wipeD ρ1 vs) (wipe σ vs) F1 H1 ρi Fi Hi → ρi = ρ2 → b = z → Q (.bl b) Hi := by
          intro ρi Fi Hi b Ri pi q1 q2
          subst q1 q2
          have hcd : ∃ P, CodeK C.base Hi C.c P ∧ TabN Hi C.n P := ⟨P, Rw.codePost pi hP1, by rw [hn1]; exact pi.tab _ _ hP2⟩
          have Ri := Ri.recode hcd
          exact k (.bl b) Fi Hi (R1.back hn Ri pi.f) (p1.trans (Post.back hn pi)) (.bl b)
        generalize hτ : wipe σ vs = τ at *
        have hττ : wipe τ vs = τ := by rw [← hτ]; exact wipe_idem σ vs
        generalize hρs : wipeD ρ1 vs = ρs at *
        refine ⟨fun i m H => m = ds.length - i ∧ i ≤ ds.length ∧ ∃ ρ F, Rep { C with c := c', n := n } ρ τ F H ∧ Post ρs τ F1 H1 ρ F H ∧ genGo kb t ft fe vs (ds.drop i) ρ = some (z, ρ2),
          ⟨ds.length, by simp, Nat.zero_le _, ρs, F1, R0, p0, by simpa using e2⟩, ?_⟩
        rintro i m H ⟨rfl, hi, ρ, F, R, p, hg'⟩
        have hs : ∀ b o, F1 b = some o → H b = some o := fun b o e => R.sub b o (p.f b o e)
        by_cases hlt : i < ds.length
        · refine .inr ⟨ok.go i H hs hlt, fun H' => ∃ m', m' = ds.length - (i + 1) ∧ i + 1 ≤ ds.length ∧ ∃ ρ F, Rep { C with c := c', n := n } ρ τ F H' ∧ Post ρs τ F1 H1 ρ F H' ∧ genGo kb t ft fe vs (ds.drop (i + 1)) ρ = some (z, ρ2),
            fun H' ⟨m', e, w⟩ => ⟨m', by omega, e, w⟩, fun x H2 hy => ?_⟩
          have hd : ds[i]? = some ds[i] := List.getElem?_eq_getElem hlt
          obtain ⟨F2, R2, p2, dq⟩ := ItOk.item (C := { C with c := c', n := n }) ok R p.f hy hd
          rw [List.drop_eq_getElem_cons hlt] at hg'
          simp only [genGo] at hg'
          split at hg'
          · rename_i ρa ea
            have hcd : ∃ P, CodeK C.base H2 C.c P ∧ TabN H2 C.n P := ⟨P, Rw.codePost (p.trans p2) hP1, by rw [hn1]; exact (p.trans p2).tab _ _ hP2⟩
            have hcd' := R2.code
            rw [hτ]
            refine ⟨ρ, F2, ds[i], ρa, R2.recode hcd, .frz dq, fun _ _ => dq, ea, fun σ2 Ra hl hσ => ?_⟩
            have hw : wipe σ2 vs = τ := by
              rw [wipe_same hl (fun j hj => hσ j fun z => hj (ht j z)), hττ]
            refine ⟨hw, ?_⟩
            have Ra' : Rep { C with c := c', n := n } ρa σ2 F2 H2 := Ra.swap hcd'
            split at hg'
            · rename_i ρt et
              split at hg'
              · rename_i zz ρv ev
                refine ⟨ρa, F2, true, ρt, Ra', et, fun Ft Ht Rt pt => ?_⟩
                show (if true = true then _ else _)
                rw [if_pos rfl]
                refine ⟨ρt, Ft, .d (.bool zz), ρv, Rt, ev, fun y F4 H4 R4 p4 dy => ?_⟩
                have q := Post.turn (vs := vs) ea hσ (pt.trans p4)
                have Rv : Rep { C with c := c', n := n } (wipeD ρv vs) τ F4 H4 := hw ▸ R4.wiped
                have pp := p.trans (p2.trans q)
                have dy : Dq C.K F4 y (.bool zz) := dy
                cases dy
                refine ⟨zz, rfl, ?_⟩
                split at hg'
                · rename_i hz
                  rw [if_pos hz]
                  cases hg'
                  exact fin _ _ _ _ Rv pp rfl rfl
                · rename_i hz
                  rw [if_neg hz]
                  exact ⟨_, rfl, hlt, _, _, Rv, pp, hg'⟩
              · cases hg'
            · rename_i ρt et
              refine ⟨ρa, F2, false, ρt, Ra', et, fun Ft Ht Rt pt => ?_⟩
              show (if false = true then _ else _)
              rw [if_neg Bool.false_ne_true]
              have q := Post.turn (vs := vs) ea hσ pt
              exact ⟨_, rfl, hlt, _, _, (hw ▸ Rt.wiped : Rep { C with c := c', n := n } (wipeD ρt vs) τ Ft Ht), p.trans (p2.trans q), hg'⟩
            · cases hg'
          · cases hg'
        · have e : i = ds.length := by omega
          subst e
          rw [List.drop_length] at hg'
          simp only [genGo] at hg'
          cases hg'
          exact .inl ⟨ok.stop H hs, fin _ _ _ _ R p rfl rfl⟩
      · cases e
    · cases e
  · cases e
end
section
variable {X : Cx} {C : Cs} {elt tg iter : Expr} {ifs : List Expr} {scope : Scope} {own : List (Str × Nat)} {p pos gpos : Pos} {fi : Im} {t : Tg} {ft : Tm} {fe : Sm} {k n : Nat}
theorem m_any (hK : C.K = X.K) (hb : C.base = X.base) (hn1 : C.n = n + 1) (ht : (t.slots.all fun i => (own.map (·.2)).contains i) = true) (hr : Room (k + 1) X.A) (hc : X.calm = true) (hN : X.N.Nodup) (hbm : BMain X) (hcode : X.env.code = .ref C.c) (S : GScp scope) (ok : BlkOk X.N X.env.scope scope own)
    (hgl : Gl X "any") (hm : X.mg "any" = none) (hi : PI X tg iter (tI C fi))
    (hg : ∀ (c' : Addr) (p : GP), PG (genX X scope c' p) tg (gD C t)) (htt : ∀ (c' : Addr) (p : GP), Room k p.A → PTs (genX X scope c' p) ifs (tT { C with c := c', n := n } ft))
    (he : ∀ (c' : Addr) (p : GP), Room k p.A → PE (genX X scope c' p) elt (tM { C with c := c', n := n } fe)) (hs : ∀ v, genFold iter X.env v = pure v)
    (hst : starEach [.GeneratorExp elt [⟨tg, iter, ifs, 0⟩] scope gpos] X.env = (false, eval (.GeneratorExp elt [⟨tg, iter, ifs, 0⟩] scope gpos) X.env) :: starEach [] X.env := by rfl) :
    PE X (.Call (.Name "any" p) [.GeneratorExp elt [⟨tg, iter, ifs, 0⟩] scope gpos] [] pos) (tM C (sGen true fi t ft fe (own.map (·.2)))) :=
  PE.imp (pe_anyG (n := n) hr hc hN hbm hcode S ok hgl hm hi (fun Y c' g => by obtain ⟨p, rfl, hr⟩ := gen_eq g; exact hg c' p) (fun Y c' g => by obtain ⟨p, rfl, hr⟩ := gen_eq g; exact htt c' p hr) (fun Y c' g => by obtain ⟨p, rfl, hr⟩ := gen_eq g; exact he c' p hr) hs hst)
    fun σ H Q q => by
      have := gen_of hn1 (fun i hi => by have := List.all_eq_true.mp ht i hi; simpa using this) q
      exact hK ▸ hb ▸ this
theorem m_all (hK : C.K = X.K) (hb : C.base = X.base) (hn1 : C.n = n + 1) (ht : (t.slots.all fun i => (own.map (·.2)).contains i) = true) (hr : Room (k + 1) X.A) (hc : X.calm = true) (hN : X.N.Nodup) (hbm : BMain X) (hcode : X.env.code = .ref C.c) (S : GScp scope) (ok : BlkOk X.N X.env.scope scope own)
    (hgl : Gl X "all") (hm : X.mg "all" = none) (hbt : bootBuiltins "all" = some (.builtin "all")) (hi : PI X tg iter (tI C fi))
    (hg : ∀ (c' : Addr) (p : GP), PG (genX X scope c' p) tg (gD C t)) (htt : ∀ (c' : Addr) (p : GP), Room k p.A → PTs (genX X scope c' p) ifs (tT { C with c := c', n := n } ft))
    (he : ∀ (c' : Addr) (p : GP), Room k p.A → PE (genX X scope c' p) elt (tM { C with c := c', n := n } fe)) (hs : ∀ v, genFold iter X.env v = pure v)
    (hst : starEach [.GeneratorExp elt [⟨tg, iter, ifs, 0⟩] scope gpos] X.env = (false, eval (.GeneratorExp elt [⟨tg, iter, ifs, 0⟩] scope gpos) X.env) :: starEach [] X.env := by rfl) :
    PE X (.Call (.Name "all" p) [.GeneratorExp elt [⟨tg, iter, ifs, 0⟩] scope gpos] [] pos) (tM C (sGen false fi t ft fe (own.map (·.2)))) :=
  PE.imp (pe_allG (n := n) hr hc hN hbm hcode S ok hgl hm hbt hi (fun Y c' g => by obtain ⟨p, rfl, hr⟩ := gen_eq g; exact hg c' p) (fun Y c' g => by obtain ⟨p, rfl, hr⟩ := gen_eq g; exact htt c' p hr) (fun Y c' g => by obtain ⟨p, rfl, hr⟩ := gen_eq g; exact he c' p hr) hs hst)
    fun σ H Q q => by
      have := gen_of hn1 (fun i hi => by have := List.all_eq_true.mp ht i hi; simpa using this) q
      exact hK ▸ hb ▸ this
end
end Mi

set_option maxRecDepth 100000
set_option maxHeartbeats 2000000
namespace Mi
open PySem PySem.Spec PyProof.Rows L2 Gx RZ

/-! ### statements -/
inductive Fl where
  | nx | bk | ct
  | ret (rv : RV)
abbrev Bm := DEnv → Option (Fl × DEnv)
def RetOk (C : Cs) (F' H' : Hp) (rv : RV) (v : V) : Prop :=
  match rv with
  | .d x => Dq C.K F' v x
  | .fl xs => ∃ p vs, v = .ref p ∧ C.H0 p = none ∧ F' p = none ∧ H' p = some (HO.lst vs) ∧ DqAll C.K F' vs xs
def EndOk (C : Cs) (D : Ends) (σ' : L2.St) (F' H' : Hp) : Fl → Prop
  | .nx => D.nx σ' H'
  | .bk => D.bk σ' H'
  | .ct => D.ct σ' H'
  | .ret rv => ∀ v, RetOk C F' H' rv v → D.rt v H'
structure SPo (C : Cs) (ks : List Nat) (σ : L2.St) (F : Hp) (σ' : L2.St) (F' : Hp) : Prop where
  f : ∀ b o, F b = some o → F' b = some o
  new : ∀ b, F' b = F b ∨ C.H0 b = none ∨ b ∈ C.io
  kp : ∀ i ∈ ks, σ'[i]? = σ[i]?
theorem SPo.refl {C : Cs} {ks : List Nat} {σ : L2.St} {F : Hp} : SPo C ks σ F σ F := ⟨fun _ _ e => e, fun _ => .inl rfl, fun _ _ => rfl⟩
theorem SPo.trans {C : Cs} {ks : List Nat} {σ σ1 σ2 : L2.St} {F F1 F2 : Hp} (p : SPo C ks σ F σ1 F1) (q : SPo C ks σ1 F1 σ2 F2) : SPo C ks σ F σ2 F2 :=
  ⟨fun b o e => q.f b o (p.f b o e), fun b => by
    rcases q.new b with z | z
    · rw [z]; exact p.new b
    · exact .inr z, fun i hi => (q.kp i hi).trans (p.kp i hi)⟩
def tS (C : Cs) (ks : List Nat) (f : Bm) : TS := fun D σ H => ∃ ρ F fl ρ', Rep C ρ σ F H ∧ f ρ = some (fl, ρ') ∧
  ∀ σ' F' H', Rep C ρ' σ' F' H' → SPo C ks σ F σ' F' → EndOk C D σ' F' H' fl
section
variable {C : Cs} {ks : List Nat} {ρ ρ1 : DEnv} {σ : L2.St} {F H F1 H1 : Hp}
theorem Rep.owned_io (R : Rep C ρ σ F H) {b : Addr} (h : owned ρ σ b) : C.H0 b = none ∨ b ∈ C.io := by
  obtain ⟨i, xs, h1, h2⟩ := h
  obtain ⟨a, vs, e1, _, _, _, e5⟩ := R.own i xs h1
  rw [h2] at e1
  cases e1
  exact e5
theorem Post.spo (p : Post ρ σ F H ρ1 F1 H1) (R : Rep C ρ σ F H) : SPo C ks σ F σ F1 := ⟨p.f, fun b => by
  rcases p.new b with z | z | z
  · exact .inl z
  · exact .inr (.inl (R.h0none z))
  · exact .inr (R.owned_io z), fun _ _ => rfl⟩
theorem RVok.ret {H0 : Hp} {rv : RV} {v : V} (R : Rep C ρ σ F H) (h : RVok C ρ1 σ H F1 H1 rv v) : RetOk C F1 H1 rv v := by
  cases rv with
  | d x => exact h
  | fl xs =>
    obtain ⟨p, vs, e, h1, h2, h3, h4, h5⟩ := h
    exact ⟨p, vs, e, R.h0none h1, h2, h3, h4⟩
/-- an own list is written -/
theorem Rep.setOwn {i : Nat} {a : Addr} {xs ys : List D} {vs ws : List V} (R : Rep C ρ σ F H) (hi : ρ[i]? = some (Slot.own xs)) (hs : σ[i]? = some (some (V.ref a))) (hH : H a = some (.lst vs)) (ha : DqAll C.K F ws ys) :
    Rep C (ρ.set i (.own ys)) σ F (upd H a (.lst ws)) ∧ Post ρ σ F H (ρ.set i (.own ys)) F (upd H a (.lst ws)) := by
  obtain ⟨a', _, e1, e2, _⟩ := R.own i xs hi
  rw [hs] at e1
  cases e1
  refine R.fcallIo hi hs ⟨fun _ _ e => e, fun b o e => ?_, R.nt, fun b o e n t => ?_, Grow.lst hH, fun b h => ?_, fun b => .inl rfl⟩ upd_same ha
  · rw [upd_ne (ne_of_none e e2)]; exact R.sub b o e
  · rw [upd_ne (fun z => n (List.mem_singleton.mpr z))]; exact e
  · by_cases e : b = a
    · subst e; rw [upd_same]; exact fun z => nomatch z
    · rw [upd_ne e]; exact h
/-- a fresh list gets a slot -/
theorem Rep.putOwn {i : Nat} {p : Addr} {xs : List D} {vs : List V} (R : Rep C ρ σ F H) (hi : i < ρ.length) (h0 : C.H0 p = none) (hF : F p = none) (hH : H p = some (.lst vs)) (ha : DqAll C.K F vs xs) (ho : ¬ owned ρ σ p) :
    Rep C (ρ.set i (.own xs)) (σ.set i (some (.ref p))) F H := by
  have hi2 : i < σ.length := by rw [← R.len]; exact hi
  have own : ∀ (j : Nat) (ys : List D), (ρ.set i (Slot.own xs))[j]? = some (Slot.own ys) → (i = j ∧ ys = xs) ∨ (i ≠ j ∧ ρ[j]? = some (Slot.own ys)) := fun j ys hj => by
    by_cases e : i = j
    · subst e
      rw [List.getElem?_set_self hi] at hj
      cases hj
      exact .inl ⟨rfl, rfl⟩
    · rw [List.getElem?_set_ne e] at hj
      exact .inr ⟨e, hj⟩
  refine ⟨R.sub, R.nt, by rw [List.length_set, List.length_set]; exact R.len, fun j e hj => ?_, fun j ys hj => ?_, fun j k ys zs a h1 h2 e1 e2 => ?_, R.stay, R.tab0, R.there0, R.tabs, R.code⟩
  · by_cases q : i = j
    · subst q
      rw [List.getElem?_set_self hi] at hj
      cases hj
    · rw [List.getElem?_set_ne q] at hj ⊢
      exact R.val j e hj
  · rcases own j ys hj with ⟨q, rfl⟩ | ⟨q, hj⟩
    · subst q
      exact ⟨p, vs, List.getElem?_set_self hi2, hF, hH, ha, .inl h0⟩
    · rw [List.getElem?_set_ne q]
      exact R.own j ys hj
  · rcases own j ys h1 with ⟨q1, rfl⟩ | ⟨q1, g1⟩ <;> rcases own k zs h2 with ⟨q2, rfl⟩ | ⟨q2, g2⟩
    · rw [← q1, ← q2]
    · subst q1
      rw [List.getElem?_set_self hi2] at e1
      cases e1
      rw [List.getElem?_set_ne q2] at e2
      exact absurd ⟨k, zs, g2, e2⟩ ho
    · subst q2
      rw [List.getElem?_set_self hi2] at e2
      cases e2
      rw [List.getElem?_set_ne q1] at e1
      exact absurd ⟨j, ys, g1, e1⟩ ho
    · rw [List.getElem?_set_ne q1] at e1
      rw [List.getElem?_set_ne q2] at e2
      exact R.inj j k ys zs a g1 g2 e1 e2
end

/-! ### small statements -/
def xPass : Bm := fun ρ => some (.nx, ρ)
def xBrk : Bm := fun ρ => some (.bk, ρ)
def xCnt : Bm := fun ρ => some (.ct, ρ)
def xNever : Bm := fun _ => none
def xRet (f : Sm) : Bm := fun ρ => match f ρ with
  | some (rv, ρ1) => some (.ret rv, ρ1)
  | none => none
def xRetN : Bm := fun ρ => some (.ret (.d .none), ρ)
def xExpr (f : Sm) : Bm := fun ρ => match f ρ with
  | some (_, ρ1) => some (.nx, ρ1)
  | none => none
def putRV (i : Nat) (rv : RV) (ρ : DEnv) : Option DEnv := if i < ρ.length then some (ρ.set i (match rv with | .d x => .val x | .fl xs => .own xs)) else none
def xSet (i : Nat) (f : Sm) : Bm := fun ρ => match f ρ with
  | some (rv, ρ1) => match putRV i rv ρ1 with
    | some ρ2 => some (.nx, ρ2)
    | none => none
  | none => none
def xAsg (t : Tg) (f : Sm) : Bm := fun ρ => match f ρ with
  | some (rv, ρ1) => match asgT t rv.frz ρ1 with
    | some ρ2 => some (.nx, ρ2)
    | none => none
  | none => none
def xSeq (f g : Bm) : Bm := fun ρ => match f ρ with
  | some (.nx, ρ1) => g ρ1
  | r => r
def xIf (c : Tm) (a b : Bm) : Bm := fun ρ => match c ρ with
  | some (true, ρ1) => a ρ1
  | some (false, ρ1) => b ρ1
  | none => none
/-- i's own list gets one more -/
def xApp (i : Nat) (r : Am) : Bm := fun ρ => match ρ[i]? with
  | some (.own _) => match frzA r ρ with
    | some ([x], ρ1) => match ρ1[i]? with
      | some (.own xs) => if xs.length < sizeLine then some (.nx, ρ1.set i (.own (xs ++ [x]))) else none
      | _ => none
    | _ => none
  | _ => none
def sPop (i : Nat) : Sm := fun ρ => match ρ[i]? with
  | some (.own xs) => match xs.getLast? with
    | some x => some (.d x, ρ.set i (.own xs.dropLast))
    | none => none
  | _ => none
section
variable {X : Cx} {C : Cs} {ks : List Nat} {pos : Pos}
theorem ms_pass : PS X (.Pass pos) (tS C ks xPass) := PS.imp ps_pass fun D σ H q => by
  obtain ⟨ρ, F, fl, ρ', R, e, k⟩ := q
  cases e
  exact k σ F H R SPo.refl
theorem ms_brk : PS X (.Break pos) (tS C ks xBrk) := PS.imp ps_break fun D σ H q => by
  obtain ⟨ρ, F, fl, ρ', R, e, k⟩ := q
  cases e
  exact k σ F H R SPo.refl
theorem ms_cnt : PS X (.Continue pos) (tS C ks xCnt) := PS.imp ps_continue fun D σ H q => by
  obtain ⟨ρ, F, fl, ρ', R, e, k⟩ := q
  cases e
  exact k σ F H R SPo.refl
theorem ms_never {st : Stmt} : PS X st (tS C ks xNever) := PS.imp ps_never fun D σ H q => by
  obtain ⟨ρ, F, fl, ρ', R, e, k⟩ := q
  cases e
theorem ms_ret {e : Expr} {f : Sm} (he : PE X e (tM C f)) : PS X (.Return (some e) pos) (tS C ks (xRet f)) := PS.imp (ps_ret he) fun D σ H q => by
  obtain ⟨ρ, F, fl, ρ', R, e, k⟩ := q
  unfold xRet at e
  split at e
  · rename_i rv ρ1 e1
    cases e
    exact ⟨ρ, F, rv, _, R, e1, fun v F' H' R' p ok => k σ F' H' R' (p.spo R) v (RVok.ret (H0 := H) R ok)⟩
  · cases e
theorem ms_retN : PS X (.Return none pos) (tS C ks xRetN) := PS.imp ps_retN fun D σ H q => by
  obtain ⟨ρ, F, fl, ρ', R, e, k⟩ := q
  cases e
  exact k σ F H R SPo.refl _ .non
theorem ms_expr {e : Expr} {f : Sm} (he : PE X e (tM C f)) (hs : swapsWith e none pos.line X.env = pure false) : PS X (.Expr e pos) (tS C ks (xExpr f)) := PS.imp (ps_expr he hs) fun D σ H q => by
  obtain ⟨ρ, F, fl, ρ', R, e, k⟩ := q
  unfold xExpr at e
  split at e
  · rename_i rv ρ1 e1
    cases e
    exact ⟨ρ, F, rv, _, R, e1, fun v F' H' R' p ok => k σ F' H' R' (p.spo R)⟩
  · cases e
theorem putRV_of {i : Nat} {rv : RV} {ρ ρ1 ρ2 : DEnv} {σ : L2.St} {F H F' H' : Hp} {v : V} (e : putRV i rv ρ1 = some ρ2) (R0 : Rep C ρ σ F H) (R : Rep C ρ1 σ F' H') (ok : RVok C ρ1 σ H F' H' rv v) : Rep C ρ2 (σ.set i (some v)) F' H' := by
  unfold putRV at e
  split at e
  · rename_i hi
    cases e
    cases rv with
    | d x => exact R.put hi ok
    | fl xs =>
      obtain ⟨p, vs, rfl, h1, h2, h3, h4, h5⟩ := ok
      exact R.putOwn hi (R0.h0none h1) h2 h3 h4 h5
  · cases e
theorem tset_of {i : Nat} {f : Sm} (hi : ks.contains i = false) {D : Ends} {σ : L2.St} {H : Hp} (q : tS C ks (xSet i f) D σ H) : tM C f σ H (fun x H1 => gName i x σ H1 D.nx) := by
  obtain ⟨ρ, F, fl, ρ', R, e, k⟩ := q
  unfold xSet at e
  split at e
  · rename_i rv ρ1 e1
    split at e
    · rename_i ρ2 e2
      cases e
      refine ⟨ρ, F, rv, ρ1, R, e1, fun v F' H' R' p ok => ?_⟩
      refine k _ F' H' (putRV_of e2 R R' ok) ⟨(p.spo (ks := ks) R).f, (p.spo (ks := ks) R).new, fun j hj => List.getElem?_set_ne fun z => ?_⟩
      subst z
      have : ks.contains i = true := by simpa using hj
      rw [hi] at this; cases this
    · cases e
  · cases e
theorem ms_set {i : Nat} {x : Str} {e : Expr} {f : Sm} {pos' : Pos} (hN : X.N.Nodup) (hi : X.N[i]? = some x) (hx : L2.Loc X.env.scope x) (he : PE X e (tM C f)) (hk : ks.contains i = false) (hs : swapsWith e (some (.Name x pos')) pos.line X.env = pure false)
    (hf : X.fn x = true ∨ X.env.scope.names.lookup x = some .local) : PS X (.Assign [.Name x pos'] e pos) (tS C ks (xSet i f)) :=
  PS.imp (ps_set hN hi hx he hs hf) fun D σ H q => tset_of hk q
theorem ms_asg {tg e : Expr} {t : Tg} {f : Sm} (he : PE X e (tM C f)) (hg : PG X tg (gD C t)) (ht : (t.slots.all fun i => !ks.contains i) = true) (hnm : ∀ i, t ≠ .nm i) (hs : swapsWithSole [tg] e pos.line X.env = pure false) (hw : swappedStores [tg] e X.env = pure none)
    (h1 : (assignEach [tg] X.env).map (·.2) = [assign tg X.env]) : PS X (.Assign [tg] e pos) (tS C ks (xAsg t f)) :=
  PS.imp (ps_asg (pe_frz he) hg hs hw h1) fun D σ H q => by
    obtain ⟨ρ, F, fl, ρ', R, e, k⟩ := q
    unfold xAsg at e
    split at e
    · rename_i rv ρ1 e1
      split at e
      · rename_i ρ2 e2
        cases e
        refine ⟨ρ, F, rv, ρ1, R, e1, fun v F' H' R' p ok => ⟨ρ1, F', rv.frz, _, R', .frz ok, fun i z => absurd z (hnm i), e2, fun σ' R2 hl ho => ?_⟩⟩
        refine k σ' F' H' R2 ⟨(p.spo (ks := ks) R).f, (p.spo (ks := ks) R).new, fun j hj => ho j fun z => ?_⟩
        have := List.all_eq_true.mp ht j z
        have h2 : ks.contains j = true := by simpa using hj
        rw [h2] at this; cases this
      · cases e
    · cases e
theorem ms_if {c : Expr} {a b : List Stmt} {tc : Tm} {f g : Bm} (hc : PT X c (tT C tc)) (ha : PSs X a (tS C ks f)) (hb : PSs X b (tS C ks g)) : PS X (.If c a b pos) (tS C ks (xIf tc f g)) := PS.imp (ps_if hc ha hb) fun D σ H q => by
  obtain ⟨ρ, F, fl, ρ', R, e, k⟩ := q
  unfold xIf at e
  split at e
  · rename_i ρ1 e1
    exact ⟨ρ, F, true, ρ1, R, e1, fun F' H' R' p => ⟨ρ1, F', fl, ρ', R', e, fun σ2 F2 H2 R2 p2 => k σ2 F2 H2 R2 ((p.spo R).trans p2)⟩⟩
  · rename_i ρ1 e1
    exact ⟨ρ, F, false, ρ1, R, e1, fun F' H' R' p => ⟨ρ1, F', fl, ρ', R', e, fun σ2 F2 H2 R2 p2 => k σ2 F2 H2 R2 ((p.spo R).trans p2)⟩⟩
  · cases e
theorem EndOk.of {D D' : Ends} {σ' : L2.St} {F' H' : Hp} {fl : Fl} (h : EndOk C D σ' F' H' fl) (h1 : fl ≠ .nx) (h2 : D'.rt = D.rt) (h3 : D'.bk = D.bk) (h4 : D'.ct = D.ct) : EndOk C D' σ' F' H' fl := by
  cases fl with
  | nx => exact absurd rfl h1
  | bk => show D'.bk σ' H'; rw [h3]; exact h
  | ct => show D'.ct σ' H'; rw [h4]; exact h
  | ret rv => intro v hv; rw [h2]; exact h v hv
theorem mss_nil : PSs X [] (tS C ks xPass) := PSs.imp pss_nil fun D σ H q => by
  obtain ⟨ρ, F, fl, ρ', R, e, k⟩ := q
  cases e
  exact k σ F H R SPo.refl
theorem mss_cons {st : Stmt} {r : List Stmt} {f g : Bm} (h1 : PS X st (tS C ks f)) (h2 : PSs X r (tS C ks g)) : PSs X (st :: r) (tS C ks (xSeq f g)) := PSs.imp (pss_cons h1 h2) fun D σ H q => by
  obtain ⟨ρ, F, fl, ρ', R, e, k⟩ := q
  unfold xSeq at e
  split at e
  · rename_i ρ1 e1
    exact ⟨ρ, F, .nx, ρ1, R, e1, fun σ2 F2 H2 R2 p2 => ⟨ρ1, F2, fl, ρ', R2, e, fun σ3 F3 H3 R3 p3 => k σ3 F3 H3 R3 (p2.trans p3)⟩⟩
  · rename_i hne
    have hfl : fl ≠ .nx := fun z => hne ρ' (by rw [e, z])
    exact ⟨ρ, F, fl, ρ', R, e, fun σ2 F2 H2 R2 p2 => (k σ2 F2 H2 R2 p2).of hfl rfl rfl rfl⟩
theorem mss_one {st : Stmt} {f : Bm} (h1 : PS X st (tS C ks f)) : PSs X [st] (tS C ks f) := pss_one h1
theorem m_pop {i : Nat} {x : Str} {p apos cpos : Pos} (hK : C.K = X.K) (hN : X.N[i]? = some x) (hv : Vis X.env.scope x) (hd : (x == ("__debug__" : Str)) = false) (hcd : (x == ("__classdict__" : Str)) = false)
    (hbase : attributeBase (.Name x p) "pop" X.env (eval (.Name x p) X.env) = eval (.Name x p) X.env) (hline : (apos.endLine == cpos.line) = true) : PE X (.Call (.Attribute (.Name x p) "pop" apos) [] [] cpos) (tM C (sPop i)) :=
  PE.imp (pe_bm0 PySem.F.plainAttrs_list PySem.F.slot_list_pop PySem.F.type_list_pop mt_pop (m_lvar (C := C) hN hv hd hcd) hbase hline) fun σ H Q q => by
    obtain ⟨ρ, F, rv, ρ', R, e, k⟩ := q
    unfold sPop at e
    split at e
    · rename_i xs h1
      split at e
      · rename_i y h2
        cases e
        refine ⟨ρ, F, .at i, ρ, R, by unfold lVar; rw [h1], fun v F' H' R' p' lv => ?_⟩
        obtain ⟨a, vs, z1, z2, z3, z4, z5⟩ := R'.own i xs h1
        have hv : v = .ref a := Option.some.inj (Option.some.inj ((show σ[i]? = some (some v) from lv).symm.trans z1))
        subst hv
        refine ⟨.inl ⟨rfl, vs, .inl (.inl z3)⟩, a, vs, ?_⟩
        have hl := dps_len z4
        rw [List.getLast?_eq_getElem?] at h2
        obtain ⟨w, w1, w2⟩ := dps_get z4 h2
        refine ⟨w, rfl, rfl, z3, by rw [hl]; exact w1, ?_⟩
        have hd : DqAll C.K F' vs.dropLast xs.dropLast := by
          rw [List.dropLast_eq_take, List.dropLast_eq_take, hl]
          exact dps_take _ z4
        obtain ⟨R3, p3⟩ := R'.setOwn h1 z1 z3 hd
        exact k w F' _ R3 (p'.trans p3) w2
      · cases e
    · cases e
theorem ms_app {i : Nat} {x : Str} {e : Expr} {r : Am} {p apos cpos : Pos} (hK : C.K = X.K) (hN : X.N[i]? = some x) (hv : Vis X.env.scope x) (hd : (x == ("__debug__" : Str)) = false) (hcd : (x == ("__classdict__" : Str)) = false)
    (ha : PA X [e] (tA C r)) (hsw : swapsWith (.Call (.Attribute (.Name x p) "append" apos) [e] [] cpos) none pos.line X.env = pure false)
    (hbase : attributeBase (.Name x p) "append" X.env (eval (.Name x p) X.env) = eval (.Name x p) X.env)
    (hfew : ((backTo cpos (starEach [e] X.env)).all (fun x => !x.1) && (backToKw cpos (keywordEach [] X.env)).all (fun x => x.1.isSome)
      && decide ([e].length + ([] : List Keyword).length + (if ([] : List Keyword).isEmpty then 0 else 1) < 30)) = true)
    (hline : (apos.endLine == cpos.line) = true) (hs : starEach [e] X.env = (false, eval e X.env) :: starEach [] X.env) (hplain : (backTo cpos (starEach [] X.env)).any (·.1) = false) :
    PS X (.Expr (.Call (.Attribute (.Name x p) "append" apos) [e] [] cpos) pos) (tS C ks (xApp i r)) :=
  PS.imp (ps_expr (pe_bm PySem.F.plainAttrs_list PySem.F.slot_list_append PySem.F.type_list_append mt_append (m_lvar (C := C) hN hv hd hcd) (pa_frz ha) hbase hfew hline hs hplain) hsw) fun D σ H q => by
    obtain ⟨ρ, F, fl, ρ', R, e, k⟩ := q
    unfold xApp at e
    split at e
    · rename_i xs0 h1
      split at e
      · rename_i y ρ1 e1
        split at e
        · rename_i xs h2
          split at e
          · rename_i hz
            cases e
            refine ⟨ρ, F, .at i, ρ, R, by unfold lVar; rw [h1], fun v F' H' R' p' lv => ?_⟩
            obtain ⟨a0, vs0, y1, y2, y3, _⟩ := R'.own i xs0 h1
            have hv : v = .ref a0 := Option.some.inj (Option.some.inj ((show σ[i]? = some (some v) from lv).symm.trans y1))
            subst hv
            refine ⟨.inl ⟨rfl, vs0, .inl (.inl y3)⟩, ρ, F', [y], ρ1, R', e1, fun us F2 H2 R2 p2 dd => ?_⟩
            obtain ⟨a, vs, z1, z2, z3, z4, z5⟩ := R2.own i xs h2
            have ha : a0 = a := V.ref.inj (Option.some.inj (Option.some.inj (y1.symm.trans z1)))
            subst ha
            cases dd with
            | @cons u us _ _ du r =>
              cases r
              have hl := dps_len z4
              obtain ⟨R3, p3⟩ := R2.setOwn h2 z1 z3 (dps_app z4 (.cons du .nil))
              refine ⟨a0, vs, u, rfl, rfl, z3, by rw [hl]; exact hz, ?_⟩
              exact k σ F2 _ R3 (((p'.trans p2).trans p3).spo R)
          · cases e
        · cases e
      · cases e
    · cases e
end
end Mi

set_option maxRecDepth 100000
set_option maxHeartbeats 2000000
namespace Mi
open PySem PySem.Spec PyProof.Rows L2 Gx RZ

/-! ### loops -/
def forGo (t : Tg) (body : Bm) : List D → DEnv → Option (Fl × DEnv)
  | [], ρ => some (.nx, ρ)
  | d :: ds, ρ => match asgT t d ρ with
    | some ρ1 => match body ρ1 with
      | some (.nx, ρ2) => forGo t body ds ρ2
      | some (.ct, ρ2) => forGo t body ds ρ2
      | some (.bk, ρ2) => some (.nx, ρ2)
      | some (.ret rv, ρ2) => some (.ret rv, ρ2)
      | none => none
    | none => none
def xFor (fi : Im) (t : Tg) (body : Bm) : Bm := fun ρ => match fi ρ with
  | some (ds, ρ1) => forGo t body ds ρ1
  | none => none
def whGo (c : Tm) (body : Bm) : Nat → DEnv → Option (Fl × DEnv)
  | 0, _ => none
  | n + 1, ρ => match c ρ with
    | some (true, ρ1) => match body ρ1 with
      | some (.nx, ρ2) => whGo c body n ρ2
      | some (.ct, ρ2) => whGo c body n ρ2
      | some (.bk, ρ2) => some (.nx, ρ2)
      | some (.ret rv, ρ2) => some (.ret rv, ρ2)
      | none => none
    | some (false, ρ1) => some (.nx, ρ1)
    | none => none
section
variable {X : Cx} {C : Cs} {ks : List Nat} {pos : Pos}
theorem not_ks {t : Tg} (ht : (t.slots.all fun i => !ks.contains i) = true) : ∀ i ∈ ks, i ∉ t.slots := fun j hj z => by
  have := List.all_eq_true.mp ht j z
  have h2 : ks.contains j = true := by simpa using hj
  rw [h2] at this; cases this
theorem ms_for {tg iter : Expr} {fi : Im} {t : Tg} {body : List Stmt} {fb : Bm} (hp : PassesOwn (model X.prog X.w) X.A X.env X.xe) (hc : X.calm = true) (hi : PI X tg iter (tI C fi)) (hg : PG X tg (gD C t)) (hb : PSs X body (tS C ks fb)) (ht : (t.slots.all fun i => !ks.contains i) = true)
    (hs : ∀ x, foldedSetIterable iter X.env x = pure x) : PS X (.For tg iter body [] pos) (tS C ks (xFor fi t fb)) := PS.imp (ps_for hp hc hi hg hb hs) fun D σ H q => by
  obtain ⟨ρ, F, fl, ρ', R, e, k⟩ := q
  unfold xFor at e
  split at e
  · rename_i ds ρ1 e1
    refine ⟨ρ, F, ds, ρ1, R, e1, fun J F1 H1 R1 p1 ok => ?_⟩
    have s1 : SPo C ks σ F σ F1 := p1.spo R
    refine ⟨fun i m σ' H' => m = ds.length - i ∧ i ≤ ds.length ∧ ∃ ρi Fi, Rep C ρi σ' Fi H' ∧ SPo C ks σ F1 σ' Fi ∧ forGo t fb (ds.drop i) ρi = some (fl, ρ'),
      ⟨ds.length, by simp, Nat.zero_le _, ρ1, F1, R1, SPo.refl, by simpa using e⟩, ?_⟩
    rintro i m σi Hi ⟨rfl, hi, ρi, Fi, Ri, si, hg'⟩
    have hsub : ∀ b o, F1 b = some o → Hi b = some o := fun b o e => Ri.sub b o (si.f b o e)
    by_cases hlt : i < ds.length
    · refine .inr ⟨ok.go i Hi hsub hlt, fun σ' H' => ∃ m', m' = ds.length - (i + 1) ∧ i + 1 ≤ ds.length ∧ ∃ ρi Fi, Rep C ρi σ' Fi H' ∧ SPo C ks σ F1 σ' Fi ∧ forGo t fb (ds.drop (i + 1)) ρi = some (fl, ρ'),
        fun σ' H' ⟨m', e, w⟩ => ⟨m', by omega, e, w⟩, fun x H2 hy => ?_⟩
      have hd : ds[i]? = some ds[i] := List.getElem?_eq_getElem hlt
      obtain ⟨F2, R2, p2, dq⟩ := ok.item Ri si.f hy hd
      rw [List.drop_eq_getElem_cons hlt] at hg'
      simp only [forGo] at hg'
      split at hg'
      · rename_i ρa ea
        refine ⟨ρi, F2, ds[i], ρa, R2, .frz dq, fun _ _ => dq, ea, fun σ2 Ra hl hσ => ?_⟩
        have s2 : SPo C ks σi Fi σ2 F2 := ⟨(p2.spo (ks := ks) Ri).f, (p2.spo (ks := ks) Ri).new, fun j hj => hσ j (not_ks ht j hj)⟩
        split at hg'
        · rename_i ρb eb
          exact ⟨ρa, F2, .nx, ρb, Ra, eb, fun σ3 F3 H3 R3 s3 => ⟨_, rfl, hlt, ρb, F3, R3, (si.trans s2).trans s3, hg'⟩⟩
        · rename_i ρb eb
          exact ⟨ρa, F2, .ct, ρb, Ra, eb, fun σ3 F3 H3 R3 s3 => ⟨_, rfl, hlt, ρb, F3, R3, (si.trans s2).trans s3, hg'⟩⟩
        · rename_i ρb eb
          cases hg'
          exact ⟨ρa, F2, .bk, _, Ra, eb, fun σ3 F3 H3 R3 s3 => k σ3 F3 H3 R3 (s1.trans ((si.trans s2).trans s3))⟩
        · rename_i rv ρb eb
          cases hg'
          exact ⟨ρa, F2, .ret rv, _, Ra, eb, fun σ3 F3 H3 R3 s3 => k σ3 F3 H3 R3 (s1.trans ((si.trans s2).trans s3))⟩
        · cases hg'
      · cases hg'
    · have e : i = ds.length := by omega
      subst e
      rw [List.drop_length] at hg'
      simp only [forGo] at hg'
      cases hg'
      exact .inl ⟨ok.stop Hi hsub, k σi Fi Hi Ri (s1.trans si)⟩
  · cases e
theorem ms_while {c : Expr} {tc : Tm} {body : List Stmt} {fb : Bm} (n : Nat) (hp : PassesOwn (model X.prog X.w) X.A X.env X.xe) (hc : PT X c (tT C tc)) (hb : PSs X body (tS C ks fb)) : PS X (.While c body [] pos) (tS C ks (whGo tc fb n)) := PS.imp (ps_while hp hc hb) fun D σ H q => by
  obtain ⟨ρ, F, fl, ρ', R, e, k⟩ := q
  refine ⟨fun m σ' H' => ∃ ρi Fi, Rep C ρi σ' Fi H' ∧ SPo C ks σ F σ' Fi ∧ whGo tc fb m ρi = some (fl, ρ'), ⟨n, ρ, F, R, SPo.refl, e⟩, ?_⟩
  rintro m σi Hi ⟨ρi, Fi, Ri, si, hg'⟩
  cases m with
  | zero => cases hg'
  | succ m =>
    simp only [whGo] at hg'
    split at hg'
    · rename_i ρa ea
      refine ⟨ρi, Fi, true, ρa, Ri, ea, fun F2 H2 R2 p2 => ?_⟩
      show (if true = true then _ else _)
      rw [if_pos rfl]
      have s2 : SPo C ks σi Fi σi F2 := p2.spo Ri
      refine ⟨fun σ' H' => ∃ ρi Fi, Rep C ρi σ' Fi H' ∧ SPo C ks σ F σ' Fi ∧ whGo tc fb m ρi = some (fl, ρ'), fun σ' H' w => ⟨m, Nat.lt_succ_self m, w⟩, ?_⟩
      split at hg'
      · rename_i ρb eb
        exact ⟨ρa, F2, .nx, ρb, R2, eb, fun σ3 F3 H3 R3 s3 => ⟨ρb, F3, R3, (si.trans s2).trans s3, hg'⟩⟩
      · rename_i ρb eb
        exact ⟨ρa, F2, .ct, ρb, R2, eb, fun σ3 F3 H3 R3 s3 => ⟨ρb, F3, R3, (si.trans s2).trans s3, hg'⟩⟩
      · rename_i ρb eb
        cases hg'
        exact ⟨ρa, F2, .bk, _, R2, eb, fun σ3 F3 H3 R3 s3 => k σ3 F3 H3 R3 ((si.trans s2).trans s3)⟩
      · rename_i rv ρb eb
        cases hg'
        exact ⟨ρa, F2, .ret rv, _, R2, eb, fun σ3 F3 H3 R3 s3 => k σ3 F3 H3 R3 ((si.trans s2).trans s3)⟩
      · cases hg'
    · rename_i ρa ea
      cases hg'
      refine ⟨ρi, Fi, false, ρ', Ri, ea, fun F2 H2 R2 p2 => ?_⟩
      show (if false = true then _ else _)
      rw [if_neg Bool.false_ne_true]
      exact k σi F2 H2 R2 (si.trans (p2.spo Ri))
    · cases hg'
end

/-! ### stores -/
/-- x[i] = e -/
def xSub (i : Nat) (fe fx : Sm) : Bm := fun ρ => match fe ρ with
  | some (rv, ρ1) => match ρ1[i]? with
    | some (.own _) => match fx ρ1 with
      | some (.d (.int k), ρ2) => match ρ2[i]? with
        | some (.own xs) => match ixN xs.length k with
          | some j => some (.nx, ρ2.set i (.own (xs.set j rv.frz)))
          | none => none
        | _ => none
      | _ => none
    | _ => none
  | none => none
/-- x op= e, of numbers -/
def xAug (g : Int → Int → Int) (i : Nat) (fe : Sm) : Bm := fun ρ => match ρ[i]? with
  | some (.val (.int a)) => match fe ρ with
    | some (.d (.int b), ρ1) => if i < ρ1.length then some (.nx, ρ1.set i (.val (.int (g a b)))) else none
    | _ => none
  | _ => none
/-- x[i] op= e, of numbers -/
def xAugS (g : Int → Int → Int) (i : Nat) (fx fe : Sm) : Bm := fun ρ => match ρ[i]? with
  | some (.own _) => match fx ρ with
    | some (.d (.int k), ρ1) => if 0 ≤ k then match ρ1[i]? with
      | some (.own xs0) => match xs0[k.toNat]? with
        | some (.int a) => match fe ρ1 with
          | some (.d (.int b), ρ2) => match ρ2[i]? with
            | some (.own xs) => if k.toNat < xs.length then some (.nx, ρ2.set i (.own (xs.set k.toNat (.int (g a b))))) else none
            | _ => none
          | _ => none
        | _ => none
      | _ => none
      else none
    | _ => none
  | _ => none
/-- a, b = e, f into plain names -/
def xPar (i j : Nat) (f g : Sm) : Bm := fun ρ => match f ρ with
  | some (rv, ρ1) => match g ρ1 with
    | some (rw, ρ2) => match putRV i rv ρ2 with
      | some ρ3 => match putRV j rw ρ3 with
        | some ρ4 => some (.nx, ρ4)
        | none => none
      | none => none
    | none => none
  | none => none
def xPar3 (i j l : Nat) (f g h : Sm) : Bm := fun ρ => match f ρ with
  | some (rv, ρ1) => match g ρ1 with
    | some (rw, ρ2) => match h ρ2 with
      | some (rx, ρ3) => match putRV i rv ρ3 with
        | some ρ4 => match putRV j rw ρ4 with
          | some ρ5 => match putRV l rx ρ5 with
            | some ρ6 => some (.nx, ρ6)
            | none => none
          | none => none
        | none => none
      | none => none
    | none => none
  | none => none
def rGetL (K : PySem.W.Frag) : V → V → Hp → VK → Prop := fun o i H Q => ∃ p xs k z, o = .ref p ∧ i = .int k ∧ 0 ≤ k ∧ SqL K H p xs ∧ xs[k.toNat]? = some z ∧ Q z H
section
variable {X : Cx} {C : Cs} {ks : List Nat} {pos : Pos}
theorem get_list : PGet X (rGetL X.K) := by
  intro pins s σ H o i ov iv Q I ro ri h
  obtain ⟨p, xs, k, z, rfl, rfl, h0, hq, he, q⟩ := h
  cases ro
  obtain ⟨t, rfl⟩ := ri
  obtain ⟨its, r, pl, hz⟩ := I.list hq
  obtain ⟨w, ew, rw'⟩ := r.get he
  have hl := r.length
  have hn := line63
  have hlt : k.toNat < xs.length := (List.getElem?_eq_some_iff.mp he).1
  exact wpAny_getItem_list (s := s) pl.isList h0 (by omega) (by simpa using ew) ⟨z, H, I, rw', q⟩
theorem ms_sub {i : Nat} {x : Str} {ie e : Expr} {fe fx : Sm} {p spos : Pos} (hK : C.K = X.K) (hN : X.N[i]? = some x) (hv : Vis X.env.scope x) (hd : (x == ("__debug__" : Str)) = false) (hcd : (x == ("__classdict__" : Str)) = false) (he : PE X e (tM C fe)) (hx : PE X ie (tM C fx))
    (hs : swapsWithSole [.Subscript (.Name x p) ie spos] e pos.line X.env = pure false) (hw : swappedStores [.Subscript (.Name x p) ie spos] e X.env = pure none)
    (h1 : (assignEach [.Subscript (.Name x p) ie spos] X.env).map (·.2) = [assign (.Subscript (.Name x p) ie spos) X.env])
    (ha : ∀ v, assign (.Subscript (.Name x p) ie spos) X.env v = (do
      let ov ← holding [v] (eval (.Name x p) X.env)
      let iv ← holding [v, ov] (eval ie X.env)
      standAt spos
      holding [v, ov, iv] (setItem ov iv v)
      release [v, ov, iv] [])) : PS X (.Assign [.Subscript (.Name x p) ie spos] e pos) (tS C ks (xSub i fe fx)) :=
  PS.imp (ps_asg (pe_frz he) (pg_sub (m_lvar (C := C) hN hv hd hcd) (pe_frz hx) set_list ha) hs hw h1) fun D σ H q => by
    obtain ⟨ρ, F, fl, ρ', R, e, k⟩ := q
    unfold xSub at e
    split at e
    · rename_i rv ρ1 e1
      split at e
      · rename_i xs0 h1
        split at e
        · rename_i kk ρ2 e2
          split at e
          · rename_i xs h2
            split at e
            · rename_i j hj
              cases e
              refine ⟨ρ, F, rv, ρ1, R, e1, fun v F1 H1 R1 p1 dv => ?_⟩
              refine ⟨ρ1, F1, .at i, ρ1, R1, by unfold lVar; rw [h1], fun o F2 H2 R2 p2 lv => ?_⟩
              obtain ⟨a0, vs0, y1, y2, y3, _⟩ := R2.own i xs0 h1
              have hv : o = .ref a0 := Option.some.inj (Option.some.inj ((show σ[i]? = some (some o) from lv).symm.trans y1))
              subst hv
              refine ⟨ρ1, F2, .d (.int kk), ρ2, R2, e2, fun iv F3 H3 R3 p3 di => ?_⟩
              have di : Dq C.K F3 iv (.int kk) := di
              cases di
              obtain ⟨a, vs, z1, z2, z3, z4, z5⟩ := R3.own i xs h2
              have hae : a0 = a := V.ref.inj (Option.some.inj (Option.some.inj (y1.symm.trans z1)))
              subst hae
              have hl := dps_len z4
              obtain ⟨R4, p4⟩ := R3.setOwn h2 z1 z3 (dps_set j z4 (dp_mono (fun b o e => p3.f b o (p2.f b o e)) dv))
              exact ⟨a0, vs, kk, j, rfl, rfl, z3, by rw [hl]; exact hj, k σ F3 _ R4 ((((p1.trans p2).trans p3).trans p4).spo R)⟩
            · cases e
          · cases e
        · cases e
      · cases e
    · cases e
theorem aug_of {i : Nat} {fe : Sm} {g : Int → Int → Int} (hk : ks.contains i = false) {D : Ends} {σ : L2.St} {H : Hp} (q : tS C ks (xAug g i fe) D σ H) : tAug i (tF C fe) (ipI g) D σ H := by
  obtain ⟨ρ, F, fl, ρ', R, e, k⟩ := q
  unfold xAug at e
  split at e
  · rename_i a h1
    split at e
    · rename_i b ρ1 e1
      split at e
      · rename_i hi
        cases e
        obtain ⟨v, z1, z2⟩ := R.val i _ h1
        cases z2
        refine ⟨_, z1, ρ, F, _, ρ1, R, e1, fun y F1 H1 R1 p1 dy => ?_⟩
        have dy : Dq C.K F1 y (.int b) := dy
        cases dy
        refine ⟨a, b, rfl, rfl, k _ F1 H1 (R1.put hi (.int _)) ⟨(p1.spo (ks := ks) R).f, (p1.spo (ks := ks) R).new, fun j hj => List.getElem?_set_ne fun z => ?_⟩⟩
        subst z
        have : ks.contains i = true := by simpa using hj
        rw [hk] at this; cases this
      · cases e
    · cases e
  · cases e
theorem ms_aug {i : Nat} {x : Str} {e : Expr} {fe : Sm} {op : Operator} {g : Int → Int → Int} {pos' : Pos} (hN : X.N.Nodup) (hi : X.N[i]? = some x) (hx : L2.Loc X.env.scope x) (he : PE X e (tM C fe)) (ho : PIp X op (ipI g)) (hk : ks.contains i = false)
    (hf : X.fn x = true ∨ X.env.scope.names.lookup x = some .local) : PS X (.AugAssign (.Name x pos') op e pos) (tS C ks (xAug g i fe)) :=
  PS.imp (ps_aug hN hi hx (pe_frz he) ho hf) fun D σ H q => aug_of hk q
theorem ms_augS {i : Nat} {x : Str} {ie e : Expr} {fe fx : Sm} {op : Operator} {g : Int → Int → Int} {p spos : Pos} (hK : C.K = X.K) (hN : X.N[i]? = some x) (hv : Vis X.env.scope x) (hd : (x == ("__debug__" : Str)) = false) (hcd : (x == ("__classdict__" : Str)) = false) (hx : PE X ie (tM C fx)) (he : PE X e (tM C fe)) (ho : PIp X op (ipI g))
    (ha : ∀ ov iv new, augStore ie ov iv new = (do holding [new, ov, iv] (setItem ov iv new); release [new, ov, iv] []; pure .next)) : PS X (.AugAssign (.Subscript (.Name x p) ie spos) op e pos) (tS C ks (xAugS g i fx fe)) :=
  PS.imp (ps_augS (m_lvar (C := C) hN hv hd hcd) (pe_frz hx) get_list (pe_frz he) ho set_list ha) fun D σ H q => by
    obtain ⟨ρ, F, fl, ρ', R, e, k⟩ := q
    unfold xAugS at e
    split at e
    · rename_i xsx h0
      split at e
      · rename_i kk ρ1 e1
        split at e
        · rename_i hk0
          split at e
          · rename_i xs0 h1
            split at e
            · rename_i a h2
              split at e
              · rename_i b ρ2 e2
                split at e
                · rename_i xs h3
                  split at e
                  · rename_i hlt
                    cases e
                    refine ⟨ρ, F, .at i, ρ, R, by unfold lVar; rw [h0], fun o F1 H1 R1 p1 lv => ?_⟩
                    obtain ⟨a0, vs0, y1, y2, y3, _⟩ := R1.own i xsx h0
                    have hv : o = .ref a0 := Option.some.inj (Option.some.inj ((show σ[i]? = some (some o) from lv).symm.trans y1))
                    subst hv
                    refine ⟨ρ, F1, .d (.int kk), ρ1, R1, e1, fun iv F2 H2 R2 p2 di => ?_⟩
                    have di : Dq C.K F2 iv (.int kk) := di
                    cases di
                    obtain ⟨a1, vs1, w1, w2, w3, w4, w5⟩ := R2.own i xs0 h1
                    have hae : a0 = a1 := V.ref.inj (Option.some.inj (Option.some.inj (y1.symm.trans w1)))
                    subst hae
                    obtain ⟨av, g1, g2⟩ := dps_get w4 h2
                    cases g2
                    refine ⟨a0, vs1, kk, .int a, rfl, rfl, hk0, .inl (.inl w3), g1, ρ1, F2, .d (.int b), ρ2, R2, e2, fun y F3 H3 R3 p3 dy => ?_⟩
                    have dy : Dq C.K F3 y (.int b) := dy
                    cases dy
                    refine ⟨a, b, rfl, rfl, ?_⟩
                    obtain ⟨a2, vs, z1, z2, z3, z4, z5⟩ := R3.own i xs h3
                    have hae : a0 = a2 := V.ref.inj (Option.some.inj (Option.some.inj (y1.symm.trans z1)))
                    subst hae
                    have hl := dps_len z4
                    obtain ⟨R4, p4⟩ := R3.setOwn h3 z1 z3 (dps_set kk.toNat z4 (.int (g a b)))
                    refine ⟨a0, vs, kk, kk.toNat, rfl, rfl, z3, ?_, k σ F3 _ R4 ((((p1.trans p2).trans p3).trans p4).spo R)⟩
                    unfold ixN
                    rw [if_pos hk0, if_pos (by omega)]
                  · cases e
                · cases e
              · cases e
            · cases e
          · cases e
        · cases e
      · cases e
    · cases e
theorem RVok.later {ρ ρ1 : DEnv} {σ : L2.St} {H F H' F1 H1 : Hp} {rv : RV} {v : V} (ok : RVok C ρ σ H F H' rv v) (p : Post ρ σ F H' ρ1 F1 H1) : RVok C ρ1 σ H F1 H1 rv v := by
  cases rv with
  | d x => exact dp_mono p.f ok
  | fl xs =>
    obtain ⟨a, vs, e, h1, h2, h3, h4, h5⟩ := ok
    refine ⟨a, vs, e, h1, ?_, p.keep _ _ h3 h5 (fun _ z => nomatch z), dps_mono p.f h4, fun z => h5 (p.owned_back z)⟩
    rcases p.new a with z | z | z
    · rw [z]; exact h2
    · rw [h3] at z; cases z
    · exact absurd z h5
/-- putting one fresh list does not make another's owner -/
theorem putRV_ok {i : Nat} {rv rw : RV} {ρ ρ1 : DEnv} {σ : L2.St} {H F H' H0' : Hp} {v w : V} (e : putRV i rv ρ = some ρ1) (ok : RVok C ρ σ H F H' rv v) (okw : RVok C ρ σ H0' F H' rw w) (hne : ∀ p, v = .ref p → w = .ref p → (∃ x, rv = .d x) ∨ ∃ x, rw = .d x) : RVok C ρ1 (σ.set i (some v)) H0' F H' rw w := by
  unfold putRV at e
  split at e
  · rename_i hi
    cases e
    cases rw with
    | d x => exact okw
    | fl ys =>
      obtain ⟨b, ws, rfl, g1, g2, g3, g4, g5⟩ := okw
      refine ⟨b, ws, rfl, g1, g2, g3, g4, fun z => ?_⟩
      obtain ⟨j, zs, z1, z2⟩ := z
      by_cases q : i = j
      · subst q
        rw [List.getElem?_set_self hi] at z1
        cases rv with
        | d x => cases z1
        | fl xs =>
          by_cases hl : i < σ.length
          · rw [List.getElem?_set_self hl] at z2
            cases z2
            rcases hne b rfl rfl with ⟨x, z⟩ | ⟨x, z⟩ <;> cases z
          · rw [List.getElem?_eq_none (by rw [List.length_set]; omega)] at z2
            cases z2
      · rw [List.getElem?_set_ne q] at z1 z2
        exact g5 ⟨j, zs, z1, z2⟩
  · cases e
theorem apart_of {ρ ρ1 : DEnv} {σ : L2.St} {H0 F H F1 H1 : Hp} {rv rw : RV} {v w : V} (ok : RVok C ρ σ H0 F H rv v) (okw : RVok C ρ1 σ H F1 H1 rw w) : ∀ p, v = .ref p → w = .ref p → (∃ x, rv = .d x) ∨ ∃ x, rw = .d x := fun p e1 e2 => by
  cases rv with
  | d x => exact .inl ⟨x, rfl⟩
  | fl xs =>
    cases rw with
    | d x => exact .inr ⟨x, rfl⟩
    | fl ys =>
      obtain ⟨a, vs, rfl, _, _, h3, _⟩ := ok
      obtain ⟨b, ws, rfl, g1, _⟩ := okw
      cases e1
      cases e2
      rw [h3] at g1; cases g1
theorem putRV_sp {i : Nat} {σ : L2.St} {v : V} (hk : ks.contains i = false) : ∀ j ∈ ks, (σ.set i (some v))[j]? = σ[j]? := fun j hj => List.getElem?_set_ne fun z => by
  subst z
  have : ks.contains i = true := by simpa using hj
  rw [hk] at this; cases this
theorem putRV_rep {i : Nat} {rv : RV} {ρ ρ1 : DEnv} {σ : L2.St} {F H F' H' Hx Fx : Hp} {ρx : DEnv} {v : V} (e : putRV i rv ρ = some ρ1) (R0 : Rep C ρx σ Fx Hx) (R : Rep C ρ σ F' H') (ok : RVok C ρ σ Hx F' H' rv v) : Rep C ρ1 (σ.set i (some v)) F' H' := putRV_of e R0 R ok
theorem ms_par {i j : Nat} {x y : Str} {a b : Expr} {f g : Sm} {px py pt : Pos} {kt k2 pt2} (hc : X.calm = true) (hN : X.N.Nodup) (hi : X.N[i]? = some x) (hj : X.N[j]? = some y) (hij : i ≠ j)
    (hx : X.env.scope.names.lookup x = some .local) (hy : X.env.scope.names.lookup y = some .local) (ha : PE X a (tM C f)) (hb : PE X b (tM C g)) (hki : ks.contains i = false) (hkj : ks.contains j = false)
    (hs1 : starEach (a :: [b]) X.env = (false, eval a X.env) :: starEach [b] X.env) (hs2 : starEach (b :: []) X.env = (false, eval b X.env) :: starEach [] X.env)
    (hw : swappedStores [.Tuple [.Name x px, .Name y py] kt pt] (.Tuple [a, b] k2 pt2) X.env = pure (some [x, y]))
    (hs : swapsWithSole [.Tuple [.Name x px, .Name y py] kt pt] (.Tuple [a, b] k2 pt2) pos.line X.env = pure false) : PS X (.Assign [.Tuple [.Name x px, .Name y py] kt pt] (.Tuple [a, b] k2 pt2) pos) (tS C ks (xPar i j f g)) :=
  PS.imp (ps_par hc hN hi hj hij hx hy (pa_cons ha (pa_cons hb pa_nil hs2) hs1) hw hs) fun D σ H q => by
    obtain ⟨ρ, F, fl, ρ', R, e, k⟩ := q
    unfold xPar at e
    split at e
    · rename_i rv ρ1 e1
      split at e
      · rename_i rw' ρ2 e2
        split at e
        · rename_i ρ3 e3
          split at e
          · rename_i ρ4 e4
            cases e
            refine ⟨ρ, F, rv, ρ1, R, e1, fun v F1 H1 R1 p1 ok1 => ⟨ρ1, F1, rw', ρ2, R1, e2, fun w F2 H2 R2 p2 ok2 => ⟨v, w, rfl, ?_⟩⟩⟩
            have ok1' := ok1.later p2
            have R3 := putRV_rep (F := F1) (H := H1) e3 R R2 ok1'
            have ok2' := putRV_ok e3 ok1' ok2 (apart_of ok1 ok2)
            have hx0 : ∀ b : Addr, H1 b = none → C.H0 b = none := fun b hb => R1.h0none hb
            have R4 : Rep C ρ' ((σ.set i (some v)).set j (some w)) F2 H2 := by
              unfold putRV at e4
              split at e4
              · rename_i hj'
                cases e4
                cases rw' with
                | d x => exact R3.put hj' ok2'
                | fl xs =>
                  obtain ⟨p, vs, rfl, h1, h2, h3, h4, h5⟩ := ok2'
                  exact R3.putOwn hj' (hx0 _ h1) h2 h3 h4 h5
              · cases e4
            exact k _ F2 H2 R4 ⟨((p1.trans p2).spo (ks := ks) R).f, ((p1.trans p2).spo (ks := ks) R).new, fun l hl => (putRV_sp hkj l hl).trans (putRV_sp hki l hl)⟩
          · cases e
        · cases e
      · cases e
    · cases e
theorem ms_par3 {i j l : Nat} {x y z : Str} {a b c : Expr} {f g h : Sm} {px py pz pt pos : Pos} {kt k2 pt2} (hc : X.calm = true) (hN : X.N.Nodup) (hi : X.N[i]? = some x) (hj : X.N[j]? = some y) (hl : X.N[l]? = some z) (hij : i ≠ j) (hil : i ≠ l) (hjl : j ≠ l)
    (hx : X.env.scope.names.lookup x = some .local) (hy : X.env.scope.names.lookup y = some .local) (hz : X.env.scope.names.lookup z = some .local) (ha : PE X a (tM C f)) (hb : PE X b (tM C g)) (hcc : PE X c (tM C h)) (hki : ks.contains i = false) (hkj : ks.contains j = false) (hkl : ks.contains l = false)
    (hs1 : starEach (a :: [b, c]) X.env = (false, eval a X.env) :: starEach [b, c] X.env) (hs2 : starEach (b :: [c]) X.env = (false, eval b X.env) :: starEach [c] X.env) (hs3 : starEach (c :: []) X.env = (false, eval c X.env) :: starEach [] X.env)
    (hw : swappedStores [.Tuple [.Name x px, .Name y py, .Name z pz] kt pt] (.Tuple [a, b, c] k2 pt2) X.env = pure (some [x, y, z]))
    (hs : swapsWithSole [.Tuple [.Name x px, .Name y py, .Name z pz] kt pt] (.Tuple [a, b, c] k2 pt2) pos.line X.env = pure false) : PS X (.Assign [.Tuple [.Name x px, .Name y py, .Name z pz] kt pt] (.Tuple [a, b, c] k2 pt2) pos) (tS C ks (xPar3 i j l f g h)) :=
  PS.imp (ps_par3 hc hN hi hj hl hij hil hjl hx hy hz (pa_cons ha (pa_cons hb (pa_cons hcc pa_nil hs3) hs2) hs1) hw hs) fun D σ H q => by
    obtain ⟨ρ, F, fl, ρ', R, e, k⟩ := q
    unfold xPar3 at e
    split at e
    · rename_i rv ρ1 e1
      split at e
      · rename_i rw' ρ2 e2
        split at e
        · rename_i rx ρ3 e3
          split at e
          · rename_i ρ4 e4
            split at e
            · rename_i ρ5 e5
              split at e
              · rename_i ρ6 e6
                cases e
                refine ⟨ρ, F, rv, ρ1, R, e1, fun v F1 H1 R1 p1 ok1 => ⟨ρ1, F1, rw', ρ2, R1, e2, fun w F2 H2 R2 p2 ok2 => ⟨ρ2, F2, rx, ρ3, R2, e3, fun u F3 H3 R3 p3 ok3 => ⟨v, w, u, rfl, ?_⟩⟩⟩⟩
                have ok1' := (ok1.later p2).later p3
                have ok2' := ok2.later p3
                have gen : ∀ {i : Nat} {rv : RV} {v : V} {Hx : Hp} {ρa ρb : DEnv} {σa : L2.St}, putRV i rv ρa = some ρb → Rep C ρa σa F3 H3 → RVok C ρa σa Hx F3 H3 rv v → (∀ b, Hx b = none → C.H0 b = none) → Rep C ρb (σa.set i (some v)) F3 H3 := by
                  intro i rv v Hx ρa ρb σa e Ra ok hx0
                  unfold putRV at e
                  split at e
                  · rename_i hi
                    cases e
                    cases rv with
                    | d x => exact Ra.put hi ok
                    | fl xs =>
                      obtain ⟨p, vs, rfl, h1, h2, h3, h4, h5⟩ := ok
                      exact Ra.putOwn hi (hx0 _ h1) h2 h3 h4 h5
                  · cases e
                have R4 := gen e4 R3 ok1' fun b hb => R.h0none hb
                have ok2a := putRV_ok e4 ok1' ok2' (apart_of ok1 ok2)
                have ok3a := putRV_ok e4 ok1' ok3 (apart_of (ok1.later p2) ok3)
                have R5 := gen e5 R4 ok2a fun b hb => R1.h0none hb
                have ok3b := putRV_ok e5 ok2a ok3a (apart_of ok2 ok3)
                have R6 := gen e6 R5 ok3b fun b hb => R2.h0none hb
                have pp := (p1.trans p2).trans p3
                exact k _ F3 H3 R6 ⟨(pp.spo (ks := ks) R).f, (pp.spo (ks := ks) R).new, fun l hl => ((putRV_sp hkl l hl).trans (putRV_sp hkj l hl)).trans (putRV_sp hki l hl)⟩
              · cases e
            · cases e
          · cases e
        · cases e
      · cases e
    · cases e
/-- name = [..] on one line -/
theorem ms_setLc {i : Nat} {y : Str} {py : Pos} {elt tg iter : Expr} {ifs : List Expr} {scope : Scope} {own : List (Str × Nat)} {spos : Pos} {fi : Im} {t : Tg} {ft : Tm} {fe : Sm} (hk : ks.contains i = false) (ht : (t.slots.all fun i => (own.map (·.2)).contains i) = true) (hc : X.calm = true) (hN : X.N.Nodup) (hy : X.N[i]? = some y) (hyl : X.env.scope.names.lookup y = some .local)
    (hsw : swapsWith (.ListComp elt [⟨tg, iter, ifs, 0⟩] scope pos) (some (.Name y py)) spos.line X.env = pure true) (hi : PI X tg iter (tI C fi)) (ok : BlkOk X.N X.env.scope scope own)
    (hg : ∀ (s : Shared) (H : Hp) (L : Addr) (cl : List (Str × Addr)) (fp : List Addr), PG (X.blk s H scope (compEnvC scope cl L X.env) fp) tg (gD C t)) (htt : ∀ (s : Shared) (H : Hp) (L : Addr) (cl : List (Str × Addr)) (fp : List Addr), PTs (X.blk s H scope (compEnvC scope cl L X.env) fp) ifs (tT C ft))
    (he : ∀ (s : Shared) (H : Hp) (L : Addr) (cl : List (Str × Addr)) (fp : List Addr), PE (X.blk s H scope (compEnvC scope cl L X.env) fp) elt (tM C fe)) (hs : ∀ x, foldedSetIterable iter X.env x = pure x) :
    PS X (.Assign [.Name y py] (.ListComp elt [⟨tg, iter, ifs, 0⟩] scope pos) spos) (tS C ks (xSet i (sLc fi t ft fe (own.map (·.2))))) :=
  PS.imp (ps_setLc hc hN hy hyl hsw hi ok hg htt (fun s H L cl fp => pe_frz (he s H L cl fp)) hs) fun D σ H q => lc_of (fun i hi => by have := List.all_eq_true.mp ht i hi; simpa using this) (tset_of hk q)
theorem ms_setLc2 {i : Nat} {y : Str} {py : Pos} {elt tg iter tg1 iter1 : Expr} {ifs ifs1 : List Expr} {scope : Scope} {own : List (Str × Nat)} {spos : Pos} {fi fi1 : Im} {t t1 : Tg} {ft ft1 : Tm} {fe : Sm} {vs1 : List Nat} (hk : ks.contains i = false) (ht : (t.slots.all fun i => (own.map (·.2)).contains i) = true) (ht1 : (t1.slots.all fun i => vs1.contains i) = true) (hv : (vs1.all fun i => (own.map (·.2)).contains i) = true) (hc : X.calm = true) (hN : X.N.Nodup) (hy : X.N[i]? = some y) (hyl : X.env.scope.names.lookup y = some .local)
    (hsw : swapsWith (.ListComp elt [⟨tg, iter, ifs, 0⟩, ⟨tg1, iter1, ifs1, 0⟩] scope pos) (some (.Name y py)) spos.line X.env = pure true) (hi : PI X tg iter (tI C fi)) (ok : BlkOk X.N X.env.scope scope own)
    (hg : ∀ (s : Shared) (H : Hp) (L : Addr) (cl : List (Str × Addr)) (fp : List Addr), PG (X.blk s H scope (compEnvC scope cl L X.env) fp) tg (gD C t)) (htt : ∀ (s : Shared) (H : Hp) (L : Addr) (cl : List (Str × Addr)) (fp : List Addr), PTs (X.blk s H scope (compEnvC scope cl L X.env) fp) ifs (tT C ft))
    (he : ∀ (s : Shared) (H : Hp) (L : Addr) (cl : List (Str × Addr)) (fp : List Addr), PE (X.blk s H scope (compEnvC scope cl L X.env) fp) elt (tM C fe)) (hs : ∀ x, foldedSetIterable iter X.env x = pure x)
    (hi1 : ∀ (s : Shared) (H : Hp) (L : Addr) (cl : List (Str × Addr)) (fp : List Addr), PI (X.blk s H scope (compEnvC scope cl L X.env) fp) tg1 iter1 (tI C fi1))
    (hg1 : ∀ (s : Shared) (H : Hp) (L : Addr) (cl : List (Str × Addr)) (fp : List Addr), PG (X.blk s H scope (compEnvC scope cl L X.env) fp) tg1 (gD C t1))
    (htt1 : ∀ (s : Shared) (H : Hp) (L : Addr) (cl : List (Str × Addr)) (fp : List Addr), PTs (X.blk s H scope (compEnvC scope cl L X.env) fp) ifs1 (tT C ft1))
    (hs1 : ∀ env x, foldedSetIterable iter1 env x = pure x) :
    PS X (.Assign [.Name y py] (.ListComp elt [⟨tg, iter, ifs, 0⟩, ⟨tg1, iter1, ifs1, 0⟩] scope pos) spos) (tS C ks (xSet i (sLc2 fi t ft fi1 t1 ft1 fe (own.map (·.2)) vs1))) := by
  have cv : ∀ {l l1 : List Nat}, (l.all fun i => l1.contains i) = true → ∀ i ∈ l, i ∈ l1 := fun h i hi => by have := List.all_eq_true.mp h i hi; simpa using this
  exact PS.imp (ps_setLc2 hc hN hy hyl hsw hi ok (cv hv) hg htt hi1 hg1 htt1 (fun s H L cl fp => pe_frz (he s H L cl fp)) hs hs1) fun D σ H q => lc2_of (cv ht) (cv ht1) (cv hv) (tset_of hk q)
end
end Mi

set_option maxRecDepth 100000
set_option maxHeartbeats 2000000
namespace Mi
open PySem PySem.Spec PyProof.Rows L2 Gx RZ

/-! ### defs -/
def outOf (io : Bool) (sl : List Slot) (ρ : DEnv) : Option (Option (List D)) := match sl with
  | Slot.own _ :: _ => if io = true then match ρ[0]? with
      | some (Slot.own ys) => some (some ys)
      | _ => none
    else none
  | _ => some none
def defF (io : Bool) (n : Nat) (body : Bm) : FS := fun sl => match body (sl ++ List.replicate (n - sl.length) .no) with
  | some (.ret rv, ρ) => match outOf io sl ρ with
    | some o => some (rv, o)
    | none => none
  | some (.nx, ρ) => match outOf io sl ρ with
    | some o => some (.d .none, o)
    | none => none
  | _ => none
def ksOf : Bool → List Nat
  | true => [0]
  | false => []
section
variable {P : Program} {w : World} {K : PySem.W.Frag} {mg : Str → Option Value} {base : Heap}
theorem dps_ix {F : Hp} : ∀ {vs : List V} {ds : List D} {i : Nat} {d : D}, DqAll K F vs ds → (ds.map Slot.val)[i]? = some (Slot.val d) → ∃ v, vs[i]? = some v ∧ Dq K F v d := fun {vs ds i d} h e => by
  rw [List.getElem?_map] at e
  cases q : ds[i]? with
  | none => rw [q] at e; cases e
  | some x =>
    rw [q] at e
    have e : some (Slot.val x) = some (Slot.val d) := e
    cases e
    exact dps_get h q
/-- the state at a def's entry -/
theorem rep_start {N : List Str} {C : Cs} {F : Hp} {vs : List V} {sl : List Slot} {io : List Addr} (hC : C.K = K) (hl : vs.length ≤ N.length) (hF : ∀ b o, F b = some o → C.H0 b = some o) (hnt : ∀ b ps, F b ≠ some (.tbl ps)) (ht : ∀ t ∈ C.tabs, TabN C.H0 t.2 t.1)
    (hio : C.io = io) (a : ArgSt K F C.H0 vs sl io) (hcode : C.n = 0 ∨ ∃ Pt, CodeK C.base C.H0 C.c Pt ∧ TabN C.H0 C.n Pt) : Rep C (sl ++ List.replicate (N.length - sl.length) .no) (L2.start N vs) F C.H0 := by
  have hsl : sl.length = vs.length := by
    cases a with
    | plain d => rw [List.length_map]; exact (dps_len d).symm
    | io _ _ _ d => rw [List.length_cons, List.length_cons, List.length_map, dps_len d]
  have lenS : (L2.start N vs).length = vs.length + (N.length - vs.length) := by
    unfold L2.start
    rw [List.length_append, List.length_map, List.length_replicate]
  have at1 : ∀ (i : Nat) (s : Slot), (sl ++ List.replicate (N.length - sl.length) Slot.no)[i]? = some s → s ≠ .no → i < sl.length ∧ sl[i]? = some s ∧ (L2.start N vs)[i]? = (vs.map some)[i]? := fun i s h hn => by
    by_cases hi : i < sl.length
    · rw [List.getElem?_append_left hi] at h
      refine ⟨hi, h, ?_⟩
      unfold L2.start
      rw [List.getElem?_append_left (by rw [List.length_map]; omega)]
    · rw [List.getElem?_append_right (by omega)] at h
      have := List.mem_of_getElem? h
      exact absurd (List.eq_of_mem_replicate this) hn
  refine ⟨hF, hnt, by rw [lenS, List.length_append, List.length_replicate, hsl], fun i d h => ?_, fun i xs h => ?_, fun i j xs ys b h1 h2 e1 e2 => ?_, fun b o e _ _ => e, fun n Q h => h, fun b h => h, ht, hcode⟩
  · obtain ⟨hi, h, e⟩ := at1 i _ h (fun z => nomatch z)
    cases a with
    | plain dd =>
      obtain ⟨v, h1, h2⟩ := dps_ix dd h
      refine ⟨v, by rw [e, List.getElem?_map, h1]; rfl, hC ▸ h2⟩
    | @io a0 ws xs vs' ds z1 z2 z3 dd =>
      cases i with
      | zero => cases h
      | succ i =>
        obtain ⟨v, h1, h2⟩ := dps_ix dd (show (ds.map Slot.val)[i]? = some (Slot.val d) from h)
        refine ⟨v, by rw [e, List.map_cons, List.getElem?_cons_succ, List.getElem?_map, h1]; rfl, hC ▸ h2⟩
  · obtain ⟨hi, h, e⟩ := at1 i _ h (fun z => nomatch z)
    cases a with
    | @plain _ ds dd =>
      rw [List.getElem?_map] at h
      cases q : ds[i]? with
      | none => rw [q] at h; cases h
      | some x => rw [q] at h; cases h
    | @io a0 ws xs0 vs' ds z1 z2 z3 dd =>
      cases i with
      | zero =>
        cases h
        exact ⟨a0, ws, by rw [e]; rfl, z1, z2, hC ▸ z3, .inr (by rw [hio]; exact List.mem_singleton.mpr rfl)⟩
      | succ i =>
        have h : (ds.map Slot.val)[i]? = some (Slot.own xs) := h
        rw [List.getElem?_map] at h
        cases q : ds[i]? with
        | none => rw [q] at h; cases h
        | some x => rw [q] at h; cases h
  · obtain ⟨hi, h1, e⟩ := at1 i _ h1 (fun z => nomatch z)
    obtain ⟨hj, h2, e'⟩ := at1 j _ h2 (fun z => nomatch z)
    have own0 : ∀ (i : Nat) (xs : List D), sl[i]? = some (Slot.own xs) → i = 0 := fun i xs h => by
      cases a with
      | @plain _ ds dd =>
        rw [List.getElem?_map] at h
        cases q : ds[i]? with
        | none => rw [q] at h; cases h
        | some x => rw [q] at h; cases h
      | @io a0 ws xs0 vs' ds z1 z2 z3 dd =>
        cases i with
        | zero => rfl
        | succ i =>
          have h : (ds.map Slot.val)[i]? = some (Slot.own xs) := h
          rw [List.getElem?_map] at h
          cases q : ds[i]? with
          | none => rw [q] at h; cases h
          | some x => rw [q] at h; cases h
    rw [own0 i xs h1, own0 j ys h2]
/-- what a def's end shows -/
theorem end_post {C : Cs} {N : List Str} {io : Bool} {F : Hp} {vs : List V} {sl : List Slot} {ioa : List Addr} {ρ' : DEnv} {σ' : L2.St} {F' H' : Hp} {out : Option (List D)} (hC : C.K = K) (hio : C.io = ioa) (a : ArgSt K F C.H0 vs sl ioa) (R : Rep C ρ' σ' F' H') (s : SPo C (ksOf io) (L2.start N vs) F σ' F')
    (ho : outOf io sl ρ' = some out) : FPost F C.H0 F' H' ioa ∧ IoOk K F' H' ioa out := by
  cases a with
  | @plain _ ds dd =>
    have ho : out = none := by
      cases ds with
      | nil => cases ho; rfl
      | cons x r => cases ho; rfl
    subst ho
    refine ⟨⟨s.f, R.sub, R.nt, fun b o e n t => R.stay b o e (by rw [hio]; exact n) t, R.tab0, R.there0, fun b => ?_⟩, trivial⟩
    rcases s.new b with z | z | z
    · exact .inl z
    · exact .inr z
    · rw [hio] at z; cases z
  | @io a0 ws xs vs' ds z1 z2 z3 dd =>
    unfold outOf at ho
    simp only at ho
    split at ho
    · rename_i hi
      subst hi
      split at ho
      · rename_i ys h0
        cases ho
        obtain ⟨b, us, e1, e2, e3, e4, e5⟩ := R.own 0 ys h0
        have k0 := s.kp 0 (List.mem_singleton.mpr rfl)
        have k1 : (L2.start N (V.ref a0 :: vs'))[0]? = some (some (.ref a0)) := rfl
        rw [k1, e1] at k0
        cases k0
        refine ⟨⟨s.f, R.sub, R.nt, fun b o e n t => R.stay b o e (by rw [hio]; exact n) t, R.tab0, R.there0, fun b => ?_⟩, us, e3, hC ▸ e4⟩
        rcases s.new b with z | z | z
        · exact .inl z
        · exact .inr z
        · rw [hio] at z
          have z := List.mem_singleton.mp z
          rw [z]
          exact .inl (e2.trans z1.symm)
      · cases ho
    · cases ho
/-- THE RULE for a def -/
theorem fn_ok {x qual : Str} {st : Stmt} {f : Addr} {N ps : List Str} {k : Nat} {oc kV doc pm cdv ct : Value} {od an : Option Addr} {osl : Array (Option Value)} (io : Bool) {fb : Bm} {tabs : List (Addr × Nat)} {c : Addr} {n : Nat}
    (lk : K.lookup f = some ⟨oc, od, .func (PySem.W.fnOf x qual (defArgs st) (defBody st) (defScope st) .none kV doc pm an cdv ct), osl⟩) (hcd : PySem.W.codeIn K cdv qual = true) (S : FnScope N ps (defScope st))
    (hn : n = 0 ∨ ∃ Pt, (Pt, n) ∈ tabs ∧ PySem.W.CodeHd base c Pt)
    (hbody : ∀ (A : Around) (outer : List Env) (s : Shared) (H : Hp) (E : XK) (ioa : List Addr), Room k (A.deeper (envOfC qual (defScope st) s.heap.objs.size f cdv)) →
      PSs (cxOf CX0 P w K mg base N qual (defScope st) f cdv A outer s H E).nox (defBody st) (tS ⟨K, base, H, ioa, tabs, c, n⟩ (ksOf io) fb)) :
    FnOk P w K mg base CX0 (k + 1) f (PySem.W.fnOf x qual (defArgs st) (defBody st) (defScope st) .none kV doc pm an cdv ct) ps (spFn K tabs ps.length (defF io N.length fb)) := by
  have hpl : ps.length ≤ N.length := by have := congrArg List.length S.pre; rw [List.length_take] at this; omega
  refine fn_of lk hcd S (fun vs H Q E h => ?_) fun A outer s H vs Q E hr h => ?_
  · obtain ⟨F, sl, io, rv, out, hl, _⟩ := h
    exact hl
  · obtain ⟨F, sl, ioa, rv, out, hl, hsub, hnt, htab, ha, hf, q⟩ := h
    refine ⟨_, (hbody A outer s H E ioa hr).nox, ?_⟩
    have R0 : Rep (⟨K, base, H, ioa, tabs, c, n⟩ : Cs) (sl ++ List.replicate (N.length - sl.length) .no) (L2.start N vs) F H := by
      refine rep_start (C := ⟨K, base, H, ioa, tabs, c, n⟩) rfl (by omega) hsub hnt htab rfl ha ?_
      rcases hn with hn | ⟨Pt, h1, h2⟩
      · exact .inl hn
      · exact .inr ⟨Pt, .inl h2, htab _ h1⟩
    unfold defF at hf
    split at hf
    · rename_i rv' ρ' e
      split at hf
      · rename_i o ho
        cases hf
        refine ⟨_, F, .ret rv, ρ', R0, e, fun σ' F' H' R' s' v ok => ?_⟩
        obtain ⟨p1, p2⟩ := end_post (K := K) rfl rfl ha R' s' ho
        exact q v F' H' p1 p2 ok
      · cases hf
    · rename_i ρ' e
      split at hf
      · rename_i o ho
        cases hf
        refine ⟨_, F, .nx, ρ', R0, e, fun σ' F' H' R' s' => ?_⟩
        obtain ⟨p1, p2⟩ := end_post (K := K) rfl rfl ha R' s' ho
        exact q .non F' H' p1 p2 .non
      · cases hf
    · cases hf
end
end Mi

set_option maxRecDepth 100000
set_option maxHeartbeats 2000000
namespace Mi
open PySem PySem.Spec PyProof.Rows L2 Gx RZ

/-! ### small things that the printed terms use -/
theorem aLen_nil : ∀ ρ ls ρ', aNil ρ = some (ls, ρ') → ls.length = 0 := fun ρ ls ρ' h => by cases h; rfl
theorem aLen_cons {l : Lm} {r : Am} {n : Nat} (h : ∀ ρ ls ρ', r ρ = some (ls, ρ') → ls.length = n) : ∀ ρ ls ρ', aCons l r ρ = some (ls, ρ') → ls.length = n + 1 := fun ρ ls ρ' e => by
  unfold aCons at e
  split at e
  · rename_i x ρ1 e1
    split at e
    · rename_i xs ρ2 e2
      cases e
      rw [List.length_cons, h _ _ _ e2]
    · cases e
  · cases e
def tYes2 : Tm := fun ρ => some (true, ρ)
theorem _root_.L2.Room.units65 {k : Nat} {A : Around} (r : Room k A) : A.units + 65 < cLine := by have := r.un; omega
section
variable {X : Cx} {C : Cs} {pos : Pos}
theorem mts_nil : PTs X [] (tT C tYes2) := ⟨fun pins s σ H Q I h => pts_nil.run pins s σ H Q I (by
  obtain ⟨ρ, F, b, ρ', R, e, k⟩ := h
  cases e
  exact k F H R (Post.refl ..))⟩
theorem mts_one {c : Expr} {t : Tm} (h : PT X c (tT C t)) : PTs X [c] (tT C t) := pts_one h
theorem mw_and1 {a : Expr} {t : Tm} (h : PT X a (tT C t)) : PW X (.BoolOp .And [a] pos) (tT C t) := pw_and1 h
theorem mw_or1 {a : Expr} {t : Tm} (h : PT X a (tT C t)) : PW X (.BoolOp .Or [a] pos) (tT C t) := pw_or1 h
theorem mw_and {a b : Expr} {rest : List Expr} {t u : Tm} (ha : PT X a (tT C t)) (hb : PW X (.BoolOp .And (b :: rest) pos) (tT C u)) : PW X (.BoolOp .And (a :: b :: rest) pos) (tT C (tAnd2 t u)) := PW.imp (pw_and ha hb) fun _ _ _ q => tand_of q
theorem mw_or {a b : Expr} {rest : List Expr} {t u : Tm} (ha : PT X a (tT C t)) (hb : PW X (.BoolOp .Or (b :: rest) pos) (tT C u)) : PW X (.BoolOp .Or (a :: b :: rest) pos) (tT C (tOr2 t u)) := PW.imp (pw_or ha hb) fun _ _ _ q => tor_of q
theorem m_globI {x : Str} {i : Int} (hg : Gl X x) (hm : ∃ t, X.mg x = some (.int i t)) (hd : (x == ("__debug__" : Str)) = false) : PE X (.Name x pos) (tM C (sC (.int i))) := by
  obtain ⟨t, hm⟩ := hm
  exact m_glob (v := .int i) hg hm ⟨t, rfl⟩ hd fun _ => .int i
end
/-- the module that the built-ins stand in -/
def BMb (mg : Str → Option Value) (base : Heap) : Prop := ∃ bm ob, mg "__builtins__" = some (.ref bm) ∧ bm ≠ builtinsNs ∧ base.get? bm = some ob ∧ ob.cls = .type "module" ∧ ob.dict = some builtinsNs ∧ ob.data = .plain
/-- a promise that asks for what cannot be -/
theorem fn_none {P : Program} {w : World} {K : PySem.W.Frag} {mg : Str → Option Value} {base : Heap} {k : Nat} {f : Addr} {fd : FuncData} {ps : List Str} {tabs : List (Addr × Nat)} : FnOk P w K mg base CX0 k f fd ps (spFn K tabs ps.length fun _ => none) :=
  ⟨fun vs H Q E h => by obtain ⟨F, sl, io, rv, out, hl, _⟩ := h; exact hl, fun A outer s H args us vs Q E _ _ _ _ h => by
    obtain ⟨F, sl, io, rv, out, _, _, _, _, _, e, _⟩ := h
    cases e⟩

/-! ### one operand, any reading -/
theorem tun_of {K : PySem.W.Frag} {C : Cs} {g : D → Option RV} {la : Lm} {σ : L2.St} {H : Hp} {Q : VK} (hK : C.K = K) (q : tM C (sUn g la) σ H Q) : tL C la σ H (fun v H1 => rUn K g v H1 Q) := by
  obtain ⟨ρ, F, rv, ρ', R, e, k⟩ := q
  obtain ⟨l1, d, e1, e2, e3⟩ := sUn_some e
  refine ⟨ρ, F, l1, ρ', R, e1, fun v F1 H1 R1 p1 d1 => ?_⟩
  have e2' : lRes ρ' l1 = some d := e2
  refine ⟨F1, d, rv, R1.sub, R1.nt, hK ▸ d1.t R1 (fun _ _ e => e) e2', e3, fun v' F' H' po ok => ?_⟩
  obtain ⟨R2, p2⟩ := R1.op po
  exact k v' F' H' R2 (p1.trans p2) (OpRes.ok R1 (fun b hb => p1.there b hb) (hK.symm ▸ ok))
end Mi

set_option maxRecDepth 100000
set_option maxHeartbeats 2000000
namespace Mi
open PySem PySem.Spec PyProof.Rows L2 Gx RZ RT

section
variable {prog : Program} {w : World} {A : Around} {E : Value → Shared → Prop} {s : Shared}
/-- a new list drinks a reversed iterator -/
theorem ext_rev {R : Result → Shared → Prop} {it l S : Addr} {items : Array Value} {c0 : Nat} (hh : A.handled = none) (hit : s.heap.IsRevIter it l ((items.size : Int) - 1)) (hl : s.heap.IsList l items) (hne : l ≠ it) (hSi : S ≠ it) (hSl : S ≠ l) (hn : items.size ≤ sizeLine)
    (hS : s.heap.get? S = some { cls := .type "list", data := .seq #[] c0 })
    (hR : ∀ (h' : Heap) (tk : Nat) (acc : Array Value) (c' : Nat), (∀ b o, b ≠ S → b ≠ it → s.heap.get? b = some o → h'.get? b = some o) → h'.get? S = some { cls := .type "list", dict := none, data := .seq acc c', slots := #[] } → ItemsOf (fun i v => items[items.size - 1 - i]? = some v) acc items.size →
      R (.ok (.ret .none)) { s with heap := h', toks := tk }) :
    wpAny (model prog w) A.in1 (Builtin.List.listExtendWith (.ref S) (.ref it) .none)
      (fun fin s' => match fin with | .done f => R (.ok f) s' | .again c' => c'.quiet = true ∧ codeAny (model prog w) A c' R s') (fun e s' => R (.error e) s') s := by
  have W := (Walks.listRev (prog := prog) (w := w) (A := A.in1) hh it l hne items).toS
  have hSf : S ∉ [it, l] := by simp only [List.mem_cons, List.not_mem_nil, or_false, not_or]; exact ⟨hSi, hSl⟩
  have hT : s.TypeIs (.ref it) "list_reverseiterator" := hit.typeIs
  have h1 : Builtin.List.listSameRef (.ref S) (.ref it) = false := by simp [Builtin.List.listSameRef, hSi]
  unfold Builtin.List.listExtendWith
  refine wpAny_bind (wpAny_typeOf hT ?_)
  rw [if_neg (by rw [h1]; decide)]
  refine wpAny_bind (wpAny_pyIter_revIter hit ?_)
  refine wpAny_bind (wpAny_holding ?_)
  unfold Builtin.List.listLengthHint
  refine wpAny_bind (wpAny_specialOf hT nolen_lri ?_)
  show wpAny _ A.in1 (specialOf (Value.ref it) (Str.ofString "__length_hint__") >>= _) _ _ _
  refine wpAny_bind (wpAny_specialOf hT hint_lri ?_)
  generalize hid : ("list_reverseiterator.__length_hint__" : String) = id0
  wp_delta
  rw [show splitId id0 = some ("list_reverseiterator", "__length_hint__") from by subst hid; decide +kernel]
  subst hid
  refine wpAny_bind (wpAny_isInstance (b := true) hT (by rw [isSubtype_type]; kernel_rfl) ?_)
  refine wpAny_pure ?_
  rw [if_neg (by decide)]
  have e0 : ((items.size : Nat) : Int) - 1 - ((0 : Nat) : Int) = (items.size : Int) - 1 := by omega
  refine wpAny_pure ⟨plainId_quiet F.plain_extend_loop _, codeAny_extend_loopS W hn S hSf _ items.size 0 _ _ _ rfl (Nat.zero_le _) ⟨Nat.zero_le _, by rw [e0]; exact hit, hl⟩ hS (ItemsOf.nil _) fun s' acc' c' hm hS' hacc => ?_⟩
  rw [Moved.eq_with hm]
  refine hR s'.heap s'.toks acc' c' (fun b o hb hb2 e => hm.heap b o (fun hmem => ?_) e) hS' hacc
  rcases List.mem_cons.mp hmem with e' | hmem
  · exact hb e'
  · exact hb2 (List.mem_singleton.mp hmem)
theorem call_list_rev {Q : Value → Shared → Prop} {it l : Addr} {items : Array Value} (hh : A.handled = none) (hit : s.heap.IsRevIter it l ((items.size : Int) - 1)) (hl : s.heap.IsList l items) (hne : l ≠ it) (hn : items.size ≤ sizeLine)
    (hQ : ∀ (h' : Heap) (tk : Nat) (acc : Array Value) (c' : Nat), (∀ b o, b ≠ it → s.heap.get? b = some o → h'.get? b = some o) → h'.get? s.heap.objs.size = some { cls := .type "list", dict := none, data := .seq acc c', slots := #[] } → ItemsOf (fun i v => items[items.size - 1 - i]? = some v) acc items.size →
      Q (.ref s.heap.objs.size) { s with heap := h', toks := tk }) :
    wpAny (model prog w) A (call (.type "list") [.ref it]) Q E s := by
  obtain ⟨oi, hoi, _⟩ := id hit
  obtain ⟨ol, hol, _⟩ := id hl
  refine callType_codes (Q₁ := fun obj s₁ => obj = .ref s.heap.objs.size ∧ s₁ = { s with heap := s.heap.push { cls := .type "list", data := .seq #[] } }) F.called_list (F.typeCall_list_1 _) F.entry_list_init
    (code_list_new _ ⟨rfl, rfl⟩) fun obj s₁ h₁ => ?_
  obtain ⟨rfl, rfl⟩ := h₁
  have hS : (s.heap.push { cls := .type "list", data := .seq #[] }).get? s.heap.objs.size = some { cls := .type "list", data := .seq #[] } := Heap.get?_push_size _ rfl
  have hSi : s.heap.objs.size ≠ it := Nat.ne_of_gt (Heap.lt_size hoi)
  have hSl : s.heap.objs.size ≠ l := Nat.ne_of_gt (Heap.lt_size hol)
  refine ⟨⟨_, hS, rfl⟩, F.args_list_init_2 _ _, ?_⟩
  show wpAny _ _ (do let old ← Builtin.List.listItems (.ref s.heap.objs.size); Builtin.List.listUpdate (.ref s.heap.objs.size) (fun _ => #[]); letGo old.toList.reverse; Builtin.List.listExtendWith (.ref s.heap.objs.size) (.ref it) .none) _ _ _
  refine wpAny_bind ?_
  unfold Builtin.List.listItems
  refine wpAny_bind (wpAny_seqItems hS rfl (wpAny_pure ?_))
  show wpAny _ _ (updateSeq s.heap.objs.size (fun _ => #[]) >>= fun _ => letGo (#[] : Array Value).toList.reverse >>= fun _ => Builtin.List.listExtendWith (.ref s.heap.objs.size) (.ref it) .none) _ _ _
  refine wpAny_bind (wpAny_updateSeq hS rfl ?_)
  have hS₂ := Heap.get?_update_self (Obj.mapSeq (fun _ => (#[] : Array Value))) hS rfl
  have oth : ∀ b o, b ≠ s.heap.objs.size → s.heap.get? b = some o → ((s.heap.push { cls := .type "list", data := .seq #[] }).update s.heap.objs.size (Obj.mapSeq (fun _ => (#[] : Array Value)))).get? b = some o :=
    fun b o hb e => (Heap.get?_update_other _ _ (Ne.symm hb)).trans (Heap.get?_push_of_some _ e)
  refine wpAny_bind (wpAny_letGo ?_)
  refine ext_rev (A := A.in1) hh (hit.at fun o e => oth it o (Ne.symm hSi) e) ?_ hne hSi hSl hn hS₂ fun h' tk acc c' hk hS' hacc => ?_
  · obtain ⟨o, ho, r⟩ := hl
    exact ⟨o, oth l o (Ne.symm hSl) ho, r⟩
  · exact ⟨rfl, hQ h' tk acc c' (fun b o hb e => hk b o (Nat.ne_of_lt (Heap.lt_size e)) hb (oth b o (Nat.ne_of_lt (Heap.lt_size e)) e)) hS' hacc⟩
end
def tLRev (K : PySem.W.Frag) (te : TE) : TE := fun σ H Q => te σ H fun v H1 => ∃ (a : Addr) (xs : List V), v = .ref a ∧ SqL K H1 a xs ∧ ∀ q, H1 q = none → Q (.ref q) (upd H1 q (.lst xs.reverse))
section
variable {X : Cx}
theorem pe_listRev {e : Expr} {te : TE} {p p2 pos pos2 : Pos} (hc : X.calm = true) (hg : Gl X "list") (hm : X.mg "list" = none) (hg2 : Gl X "reversed") (hm2 : X.mg "reversed" = none) (he : PE X e te)
    (hs : starEach [e] X.env = (false, eval e X.env) :: starEach [] X.env)
    (hs2 : starEach [.Call (.Name "reversed" p2) [e] [] pos2] X.env = (false, eval (.Call (.Name "reversed" p2) [e] [] pos2) X.env) :: starEach [] X.env) :
    PE X (.Call (.Name "list" p) [.Call (.Name "reversed" p2) [e] [] pos2] [] pos) (tLRev X.K te) := by
  refine ⟨fun pins s σ H Q I h => ?_⟩
  refine Call_ (ld_blt I hg hm boot_list (PyProof.Rows.callWith_type1 (args_cons (Call_ (ld_blt I hg2 hm2 PyProof.Rows.boot_reversed (PyProof.Rows.callWith_type1 (args_cons (thn (he.run pins s σ H _ I h) fun u s1 ⟨v, H1, I1, r1, q1⟩ => args_nil ?_) hs) hs rfl))) hs2) hs2 rfl))
  obtain ⟨a, xs, ev, hq, q⟩ := q1
  subst ev
  obtain rfl : u = Value.ref a := r1
  obtain ⟨its, rv, p', hz⟩ := I1.list hq
  refine call_reversed_list p'.isList (args_nil ?_)
  have k0 : ∀ b o, s1.heap.get? b = some o → (s1.heap.push (revObj a ((its.toArray.size : Int) - 1))).get? b = some o := fun b o e => Heap.get?_push_of_some _ e
  have I2 : Inv X pins σ H1 { s1 with heap := s1.heap.push (revObj a ((its.toArray.size : Int) - 1)) } := I1.kept (t' := s1.toks) k0
  obtain ⟨f0, f1, f2, f3, f4, f5⟩ := I1.fpOk (H' := H1) (b := s1.heap.objs.size) (Nat.le_refl _) (I1.hok.fresh (Nat.le_refl _))
  have hl := p'.isList
  obtain ⟨ol, hol, _⟩ := id hl
  have hne : a ≠ s1.heap.objs.size := Nat.ne_of_lt (Heap.lt_size hol)
  have hn : its.toArray.size ≤ sizeLine := by rw [List.size_toArray, ← rv.length]; exact hz
  refine call_list_rev (I1.ok.hd hc) (it := s1.heap.objs.size) (l := a) (items := its.toArray) ?_ ?_ hne hn fun h' tk acc c' hk hS' hacc => ?_
  · exact ⟨_, Heap.get?_push_size _ rfl, rfl, rfl⟩
  · obtain ⟨o, ho, r⟩ := hl
    exact ⟨o, k0 a o ho, r⟩
  · have new : ObjOk X.prog X.w (upd H1 (s1.heap.push (revObj a ((its.toArray.size : Int) - 1))).objs.size (.lst xs.reverse)) h' (s1.heap.push (revObj a ((its.toArray.size : Int) - 1))).objs.size (.lst xs.reverse) :=
      ⟨by rw [List.length_reverse]; exact hz, acc.toList, c', vals_rev rv hacc, by rw [Array.toArray_toList]; exact hS'⟩
    have I3 : Inv X pins σ (upd H1 (s1.heap.push (revObj a ((its.toArray.size : Int) - 1))).objs.size (.lst xs.reverse)) { s1 with heap := h', toks := tk } :=
      I2.turnedNew (t' := tk) (ch := [s1.heap.objs.size]) (fun b ob hb e => hk b ob (fun z => hb (by rw [z]; exact List.mem_singleton.mpr rfl)) e)
        (fun b hb => by rw [List.mem_singleton.mp hb]; exact ⟨f0, f1, f2, f3, f4, f5⟩) (Nat.le_refl _) new
    exact ⟨.ref _, _, I3, rfl, q _ (I2.hok.fresh (Nat.le_refl _))⟩
end

/-! ### the readings -/
theorem tL_mono {C : Cs} {la : Lm} {σ : L2.St} {H : Hp} {Q Q' : VK} (h : ∀ v H', Q v H' → Q' v H') (q : tL C la σ H Q) : tL C la σ H Q' := by
  obtain ⟨ρ, F, lo, ρ', R, e, k⟩ := q
  exact ⟨ρ, F, lo, ρ', R, e, fun v F' H' R' p l => h v H' (k v F' H' R' p l)⟩
def gLRev : D → Option RV
  | .list xs => some (.fl xs.reverse)
  | _ => none
def gLRng : D → Option RV
  | .int n => if 0 ≤ n ∧ n ≤ 16777216 then some (.fl (rangeD 0 n.toNat)) else none
  | _ => none
section
variable {X : Cx} {C : Cs}
theorem m_lrev {e : Expr} {la : Lm} {p p2 pos pos2 : Pos} (hK : C.K = X.K) (hc : X.calm = true) (hg : Gl X "list") (hm : X.mg "list" = none) (hg2 : Gl X "reversed") (hm2 : X.mg "reversed" = none) (he : PE X e (tL C la))
    (hs : starEach [e] X.env = (false, eval e X.env) :: starEach [] X.env)
    (hs2 : starEach [.Call (.Name "reversed" p2) [e] [] pos2] X.env = (false, eval (.Call (.Name "reversed" p2) [e] [] pos2) X.env) :: starEach [] X.env) :
    PE X (.Call (.Name "list" p) [.Call (.Name "reversed" p2) [e] [] pos2] [] pos) (tM C (sUn gLRev la)) :=
  PE.imp (pe_listRev hc hg hm hg2 hm2 he hs hs2) fun σ H Q q => tL_mono (fun v H1 h => by
    obtain ⟨F, d, rv, sub, nt, hd, e3, k⟩ := h
    unfold gLRev at e3
    split at e3
    · rename_i xs
      cases e3
      obtain ⟨a, vs, rfl, hr, ha⟩ := dpt_list sub hd
      exact ⟨a, vs, rfl, hr.sq, fun p hp => k _ F _ (OpPost.add sub nt hp) ⟨p, _, rfl, hp, free_sub sub hp, upd_same, dps_rev ha⟩⟩
    · cases e3) (tun_of hK q)
theorem rgV_dq {K : PySem.W.Frag} {F : Hp} (n : Int) : DqAll K F (rgV 0 n) (rangeD 0 n.toNat) := by
  unfold rgV rangeD
  rw [Int.sub_zero]
  generalize List.range n.toNat = l
  induction l with
  | nil => exact .nil
  | cons x r ih => exact .cons (.int _) ih
theorem m_lrng {e : Expr} {la : Lm} {p p2 pos pos2 : Pos} (hK : C.K = X.K) (hc : X.calm = true) (hg : Gl X "list") (hm : X.mg "list" = none) (hg2 : Gl X "range") (hm2 : X.mg "range" = none) (he : PE X e (tL C la))
    (hs : starEach [e] X.env = (false, eval e X.env) :: starEach [] X.env)
    (hs2 : starEach [.Call (.Name "range" p2) [e] [] pos2] X.env = (false, eval (.Call (.Name "range" p2) [e] [] pos2) X.env) :: starEach [] X.env) :
    PE X (.Call (.Name "list" p) [.Call (.Name "range" p2) [e] [] pos2] [] pos) (tM C (sUn gLRng la)) :=
  PE.imp (pe_listRg hc hg hm (prg_1 hg2 hm2 he hs) hs2) fun σ H Q q => tL_mono (fun v H1 h => by
    obtain ⟨F, d, rv, sub, nt, hd, e3, k⟩ := h
    unfold gLRng at e3
    split at e3
    · rename_i n
      split at e3
      · rename_i hn
        cases e3
        have := dpt_int hd
        subst this
        exact ⟨n, rfl, RgOk.of_le (by omega) hn.2 (by omega) hn.1, fun p hp => k _ F _ (OpPost.add sub nt hp) ⟨p, _, rfl, hp, free_sub sub hp, upd_same, rgV_dq n⟩⟩
      · cases e3
    · cases e3) (tun_of hK q)

/-! ### len(dict(pairs)) -/
def keysD : List D → Option (List (Int × D))
  | [] => some []
  | .tuple [.int k, v] :: r => (keysD r).map ((k, v) :: ·)
  | _ :: _ => none
/-- the different ones, in order of their first places -/
def dedupI (acc : List Int) : List Int → List Int
  | [] => acc
  | k :: r => dedupI (if k ∈ acc then acc else acc ++ [k]) r
def gDcl : D → Option RV
  | .list xs => match keysD xs with
    | some ks => some (.d (.int ((dedupI [] (ks.map (·.1))).length : Nat)))
    | none => none
  | _ => none
theorem keysD_dq {K : PySem.W.Frag} {F H : Hp} (hs : ∀ b o, F b = some o → H b = some o) : ∀ {xs : List D} {vs : List V} {ks : List (Int × D)}, DqAll K F vs xs → keysD xs = some ks → ∃ (ps : List Addr) (kvs : List (Key × V)), vs = ps.map V.ref ∧ Paired (fun p kv => SqT K H p [kV kv.1, kv.2]) ps kvs ∧ kvs.map (·.1) = ks.map fun k => (Sum.inl k.1 : Key)
  | [], vs, ks, h, e => by
    cases h
    cases e
    exact ⟨[], [], rfl, .nil, rfl⟩
  | x :: xs, vs, ks, h, e => by
    cases h with
    | @cons v vs _ _ a r =>
      unfold keysD at e
      split at e
      · rename_i h0; cases h0
      · rename_i k d r' h0
        cases h0
        cases q : keysD xs with
        | none => rw [q] at e; cases e
        | some ks' =>
          rw [q] at e
          cases e
          obtain ⟨ps, kvs, rfl, hp, hk⟩ := keysD_dq hs r q
          cases a with
          | tup hr ha =>
            cases ha with
            | cons a1 r1 =>
              cases a1
              cases r1 with
              | cons a2 r2 =>
                cases r2
                rename_i w
                exact ⟨_ :: ps, (Sum.inl k, w) :: kvs, rfl, .cons (sqt_mono hs hr) hp, by rw [List.map_cons, hk]; rfl⟩
      · cases e
theorem putK_in {kvs : List (Key × V)} {k : Key} {v : V} (hm : k ∈ kvs.map (·.1)) : (putK kvs k v).map (·.1) = kvs.map (·.1) := by
  unfold putK
  have h : (kvs.any fun kv => decide (kv.1 = k)) = true := by
    obtain ⟨p, h1, h2⟩ := List.mem_map.mp hm
    exact List.any_eq_true.mpr ⟨p, h1, decide_eq_true h2⟩
  rw [if_pos h, List.map_map]
  refine List.map_congr_left fun p _ => ?_
  show (if p.1 = k then (p.1, v) else p).1 = p.1
  split <;> rfl
theorem putK_out {kvs : List (Key × V)} {k : Key} {v : V} (hm : ¬ k ∈ kvs.map (·.1)) : (putK kvs k v).map (·.1) = kvs.map (·.1) ++ [k] := by
  unfold putK
  have h : ¬ (kvs.any fun kv => decide (kv.1 = k)) = true := fun z => by
    obtain ⟨p, h1, h2⟩ := List.any_eq_true.mp z
    exact hm (List.mem_map.mpr ⟨p, h1, of_decide_eq_true h2⟩)
  rw [if_neg h, List.map_append]
  rfl
theorem mergeK_keys : ∀ (more kvs : List (Key × V)) (ks : List (Int × D)) (acc : List Int), more.map (·.1) = ks.map (fun k => (Sum.inl k.1 : Key)) → kvs.map (·.1) = acc.map (fun k => (Sum.inl k : Key)) → (mergeK kvs more).map (·.1) = (dedupI acc (ks.map (·.1))).map fun k => (Sum.inl k : Key)
  | [], kvs, ks, acc, h1, h2 => by
    cases ks with
    | nil => exact h2
    | cons => cases h1
  | (k, v) :: more, kvs, ks, acc, h1, h2 => by
    cases ks with
    | nil => cases h1
    | cons k1 ks =>
      rw [List.map_cons, List.map_cons] at h1
      injection h1 with e1 e2
      have e1 : k = Sum.inl k1.1 := e1
      subst e1
      show (mergeK (putK kvs _ v) more).map (·.1) = (dedupI (if k1.1 ∈ acc then acc else acc ++ [k1.1]) (ks.map (·.1))).map _
      refine mergeK_keys more _ ks _ e2 ?_
      have hmem : (Sum.inl k1.1 : Key) ∈ kvs.map (·.1) ↔ k1.1 ∈ acc := by
        rw [h2]
        constructor
        · intro z
          obtain ⟨x, h1, h2⟩ := List.mem_map.mp z
          cases h2
          exact h1
        · intro z
          exact List.mem_map.mpr ⟨_, z, rfl⟩
      by_cases h : k1.1 ∈ acc
      · rw [putK_in (hmem.mpr h), if_pos h, h2]
      · rw [putK_out (fun z => h (hmem.mp z)), if_neg h, List.map_append, h2]
        rfl
theorem m_dcl {e : Expr} {la : Lm} {p p2 pos pos2 : Pos} (hK : C.K = X.K) (hc : X.calm = true) (hg : Gl X "len") (hm : X.mg "len" = none) (hg2 : Gl X "dict") (hm2 : X.mg "dict" = none) (he : PE X e (tL C la))
    (hs : starEach [e] X.env = (false, eval e X.env) :: starEach [] X.env)
    (hs2 : starEach [.Call (.Name "dict" p2) [e] [] pos2] X.env = (false, eval (.Call (.Name "dict" p2) [e] [] pos2) X.env) :: starEach [] X.env) :
    PE X (.Call (.Name "len" p) [.Call (.Name "dict" p2) [e] [] pos2] [] pos) (tM C (sUn gDcl la)) :=
  PE.imp (pe_callB call_lenD hg hm PySem.boot_len (pa_cons (pe_callTy (call_dictP hc) hg2 hm2 boot_dict (pa_cons he pa_nil hs) (by decide) (by rfl) hs (by rfl)) pa_nil hs2) (by decide) (by rfl) hs2 (by rfl)) fun σ H Q q => tL_mono (fun v H1 h => by
    obtain ⟨F, d, rv, sub, nt, hd, e3, k⟩ := h
    unfold gDcl at e3
    split at e3
    · rename_i xs
      split at e3
      · rename_i ks hk
        cases e3
        obtain ⟨a, vs, rfl, hr, ha⟩ := dpt_list sub hd
        obtain ⟨ps, kvs, rfl, hp, hkk⟩ := keysD_dq sub ha hk
        refine ⟨a, ps, kvs, rfl, hr.sq, hp, fun q hq => ⟨q, _, rfl, upd_same, ?_⟩⟩
        have e := congrArg List.length (mergeK_keys kvs [] ks [] hkk rfl)
        rw [List.length_map, List.length_map] at e
        rw [e]
        exact k _ F _ (OpPost.add sub nt hq) (.int _)
      · cases e3
    · cases e3) (tun_of hK q)

/-! ### xs.count(k) of whole numbers -/
def intsD : List D → Option (List Int)
  | [] => some []
  | .int k :: r => (intsD r).map (k :: ·)
  | _ :: _ => none
theorem intsD_dq {K : PySem.W.Frag} {F : Hp} : ∀ {xs : List D} {vs : List V} {ns : List Int}, DqAll K F vs xs → intsD xs = some ns → vs = ns.map V.int
  | [], vs, ns, h, e => by
    cases h
    cases e
    rfl
  | x :: xs, vs, ns, h, e => by
    cases h with
    | cons a r =>
      cases x <;> simp only [intsD] at e <;> try (cases e; done)
      cases q : intsD xs with
      | none => rw [q] at e; cases e
      | some ks =>
        rw [q] at e
        cases e
        cases a
        rw [intsD_dq r q]
        rfl
def gCnt : D → D → Option RV
  | .list xs, .int k => match intsD xs with
    | some ns => some (.d (.int (ns.count k : Nat)))
    | none => none
  | _, _ => none
def sCnt (fa : Sm) (lb : Lm) : Sm := fun ρ => match fa ρ with
  | some (rv, ρ1) => match lb ρ1 with
    | some (l2, ρ2) => match lRes ρ2 l2 with
      | some y => match gCnt rv.frz y with
        | some rw => some (rw, ρ2)
        | none => none
      | none => none
    | none => none
  | none => none
theorem m_cnt {o e : Expr} {fa : Sm} {lb : Lm} {apos cpos : Pos} (hK : C.K = X.K) (ho : PE X o (tM C fa)) (he : PE X e (tL C lb))
    (hbase : attributeBase o "count" X.env (eval o X.env) = eval o X.env)
    (hfew : ((backTo cpos (starEach [e] X.env)).all (fun x => !x.1) && (backToKw cpos (keywordEach [] X.env)).all (fun x => x.1.isSome)
      && decide ([e].length + ([] : List Keyword).length + (if ([] : List Keyword).isEmpty then 0 else 1) < 30)) = true)
    (hline : (apos.endLine == cpos.line) = true) (hs : starEach [e] X.env = (false, eval e X.env) :: starEach [] X.env) (hplain : (backTo cpos (starEach [] X.env)).any (·.1) = false) :
    PE X (.Call (.Attribute o "count" apos) [e] [] cpos) (tM C (sCnt fa lb)) :=
  PE.imp (pe_bm PySem.F.plainAttrs_list PySem.F.slot_list_count PySem.F.type_list_count mt_lcount (pe_frz ho) (pa_cons he pa_nil hs) hbase hfew hline hs hplain) fun σ H Q q => by
    obtain ⟨ρ, F, rv, ρ', R, e, k⟩ := q
    unfold sCnt at e
    split at e
    · rename_i rv1 ρ1 e1
      split at e
      · rename_i l2 ρ2 e2
        split at e
        · rename_i y e3
          split at e
          · rename_i rw' e4
            cases e
            refine ⟨ρ, F, rv1, ρ1, R, e1, fun v F1 H1 R1 p1 d1 => ?_⟩
            unfold gCnt at e4
            split at e4
            · rename_i d y xs kk hx
              split at e4
              · rename_i ns hns
                cases e4
                rw [hx] at d1
                cases d1 with
                | lst hr ha =>
                  have hv := intsD_dq ha hns
                  subst hv
                  refine ⟨.inl ⟨rfl, _, (hK ▸ rdl_mono R1.sub hr).sq⟩, ρ1, F1, l2, _, R1, e2, fun u F2 H2 R2 p2 d2 => ?_⟩
                  have hu := dpt_int (d2.t R2 (fun _ _ e => e) e3)
                  subst hu
                  exact ⟨_, ns, kk, rfl, rfl, (hK ▸ rdl_mono (fun b o e => R2.sub b o (p2.f b o e)) hr).sq, k _ F2 H2 R2 (p1.trans p2) (.int _)⟩
              · cases e4
            · cases e4
          · cases e
        · cases e
      · cases e
    · cases e
end
end Mi

set_option maxRecDepth 100000
set_option maxHeartbeats 2000000
namespace Mi
open PySem PySem.Spec PyProof.Rows L2 Gx RZ RT
open AutoSeq1 (wpAny_loadPart')

/-! ### enumerate(a tuple) -/
def tupIt (t : Addr) : Obj := { cls := .type "tuple_iterator", data := .fields #[.ref t, .int 0 0] }
def enumOf (it : Addr) : Obj := { cls := .type "enumerate", data := .fields #[.none, .bool false, .ref it, rawInt 0, .none, .none] }
theorem enumT_new (t : Addr) (items : Array Value) :
    Meets (Builtin.«enumerate.__new__» ⟨[.type "enumerate", .ref t], []⟩) (fun _ R s => IsTup s.heap t items ∧
      R (.ok (.ret (.ref (s.heap.push (tupIt t)).objs.size))) { s with heap := (s.heap.push (tupIt t)).push (enumOf s.heap.objs.size) }) :=
  .of_wp fun prog w A R s h => by
    obtain ⟨hp, g, d, tk, os⟩ := s
    obtain ⟨hl, h⟩ := h
    have hsub := sub_enumerate
    obtain ⟨o, ho, hc, hd⟩ := id hl
    have hT : Heap.IsTuple (Shared.heap ⟨hp, g, d, tk, os⟩) t items := hl
    wp_walk using wpAny_loadPart' ho
    refine wpAny_stack_any fun st => wpAny_pure ?_
    split
    · rename_i c _ _ _ _ _
      cases (c == Value.type "enumerate")
      · wp_walk using wpAny_loadPart' ho, wpAny_pyIter_tuple hT
        exact ⟨_, rfl, h⟩
      · wp_walk using wpAny_loadPart' ho, wpAny_pyIter_tuple hT
        exact ⟨_, rfl, h⟩
    · wp_walk using wpAny_loadPart' ho, wpAny_pyIter_tuple hT
      exact ⟨_, rfl, h⟩
section
variable {prog : Program} {w : World} {A : Around} {E : Value → Shared → Prop} {s : Shared}
theorem call_enumT {t : Addr} {items : Array Value} {Q : Value → Shared → Prop} (ht : IsTup s.heap t items)
    (h : ∀ h', IsEnum h' (s.heap.objs.size + 1) s.heap.objs.size 0 .none → h'.IsTupleIter s.heap.objs.size t 0 → h'.objs.size = s.heap.objs.size + 2 →
      (∀ b o, s.heap.get? b = some o → h'.get? b = some o) → Q (.ref (s.heap.objs.size + 1)) { s with heap := h' }) :
    wpAny (model prog w) A (call (.type "enumerate") [.ref t]) Q E s := by
  refine callType_new F.called_enumerate (by decide) (F.typeCall_enumerate_1 _) (F.newCall_enumerate_1 _) (fun obj => F.args_object_init_2 obj _) F.entry_enumerate_new
    (enumT_new t items) ⟨ht, ?_⟩
  have hz : (s.heap.push (tupIt t)).objs.size = s.heap.objs.size + 1 := Heap.size_push ..
  show _ ∧ _
  rw [hz]
  have he : IsEnum ((s.heap.push (tupIt t)).push (enumOf s.heap.objs.size)) (s.heap.objs.size + 1) s.heap.objs.size 0 .none := by
    have := Heap.get?_push_size (s.heap.push (tupIt t)) (o := enumOf s.heap.objs.size) rfl
    rw [hz] at this; exact this
  exact ⟨⟨_, he, rfl⟩, h _ he ⟨_, Heap.get?_push_of_some _ (Heap.get?_push_size _ rfl), rfl, rfl⟩ (by rw [Heap.size_push, hz]) fun b o x => Heap.get?_push_of_some _ (Heap.get?_push_of_some _ x)⟩
end
def IteT (K : PySem.W.Frag) (a : Addr) : It :=
  ⟨fun i H => ∃ (xs : List V) (x : V), SqT K H a xs ∧ xs[i]? = some x, fun i H v H' => ∃ T x, v = .ref T ∧ H T = none ∧ H' = upd H T (.tup [.int (i : Nat), x]) ∧ ∀ xs, SqT K H a xs → xs[i]? = some x, fun i H => ∃ xs : List V, SqT K H a xs ∧ xs.length = i⟩
theorem turn_enumT {P : Program} {w : World} {K : PySem.W.Frag} {elts : List Expr} {kk : Nat} {tpos : Pos} (a e it : Addr) :
    Turn P w K (.Tuple elts kk tpos) (IteT K a) [e, it] e (fun i h => (∃ old, IsEnum h e it ((i : Nat) : Int) old) ∧ h.IsTupleIter it a i ∧ e ≠ it ∧ a ≠ e ∧ a ≠ it) where
  mem := by simp
  obj := fun i h st b hb => by
    obtain ⟨⟨old, he⟩, ⟨o, ho, hc, hd⟩, _⟩ := st
    have e' : b = e ∨ b = it := by simpa using hb
    rcases e' with z | z
    · rw [z]; exact ⟨_, he, fun v q => nomatch q⟩
    · rw [z]; exact ⟨o, ho, fun v q => by rw [hd] at q; cases q⟩
  keep := fun i h h' st k => let ⟨⟨old, he⟩, hi, hne⟩ := st; ⟨⟨old, k e (by simp) _ he⟩, hi.at fun o q => k it (by simp) o q, hne⟩
  item := by
    intro X hP hw hK hc i pins s σ H E I hf st hg
    subst hP hw hK
    obtain ⟨⟨old, he⟩, hit, hne, hae, hai⟩ := st
    obtain ⟨xs, x, hq, hx⟩ := hg
    obtain ⟨its, rv, p, hz⟩ := I.tuple hq
    obtain ⟨u, hu, ru⟩ := rv.get hx
    have hel : e < s.heap.objs.size := Heap.lt_size he
    have hil : it < s.heap.objs.size := by obtain ⟨_, q, _⟩ := hit; exact Heap.lt_size q
    have hlt : i < its.toArray.size := by
      have := (List.getElem?_eq_some_iff.mp hx).1
      rw [List.size_toArray, ← rv.length]; exact this
    refine wpAny_pyNext_enum_itemD (Draws.tuple (A := X.A.in1) (I.ok.hd hc) it a hai its.toArray) he ⟨hit, p⟩ hlt hne (by simp [hne, Ne.symm hae]) fun y h' tk hy ho hst hT hsz hk => ?_
    have ey : y = u := by
      have : its.toArray[i]? = some u := by simpa using hu
      rw [this] at hy
      exact (Option.some.inj hy).symm
    subst ey
    refine ⟨_, rfl, wpAny_letOwnedTupleGo_enum (s := { s with heap := h', toks := tk + 1 }) ho fun h'' he' sb => ?_⟩
    have hT2 : h''.get? s.heap.objs.size = some { cls := .type "tuple", data := .seq #[.int i tk, y] } := (sb.2 _ (Nat.ne_of_gt hel)).trans hT
    have new : ObjOk X.prog X.w (upd H s.heap.objs.size (.tup [.int (i : Nat), x])) h'' s.heap.objs.size (.tup [.int (i : Nat), x]) :=
      ⟨by show 2 ≤ sizeLine; decide, [.int i tk, y], .cons ⟨_, rfl⟩ (.cons ru .nil), ⟨_, hT2, rfl, _, rfl⟩⟩
    have I1 : Inv X pins σ (upd H s.heap.objs.size (.tup [.int (i : Nat), x])) { s with heap := h'', toks := tk + 1 } :=
      I.turnedNew (ch := [e, it]) (fun b ob hb q => (sb.2 b (fun z => hb (by simp [z]))).trans (hk b ob (fun z => hb (by simp [z])) (fun z => hb (by simp [z])) q)) hf (Nat.le_refl _) new
    refine ⟨.ref s.heap.objs.size, _, I1, rfl, ⟨_, x, rfl, I.hok.fresh (Nat.le_refl _), rfl, fun ys hy => by rw [I.tuple_inj hy hq]; exact hx⟩, ⟨⟨y, ?_⟩, hst.1.at fun o q => (sb.2 it (Ne.symm hne)).trans q, hne, hae, hai⟩, fun b hb => ?_⟩
    · have e1 : ((i + 1 : Nat) : Int) = (i : Int) + 1 := by omega
      rw [e1]; exact he'
    · have hb' : b < s.heap.objs.size := by
        have e' : b = e ∨ b = it := by simpa using hb
        rcases e' with z | z
        · rw [z]; exact hel
        · rw [z]; exact hil
      rw [upd_ne (Nat.ne_of_lt hb')]
      exact (hf b hb).1
  done := by
    intro X hP hw hK hc i pins s σ H E I hf st hg
    subst hP hw hK
    obtain ⟨⟨old, he⟩, hit, hne, hae, hai⟩ := st
    obtain ⟨xs, hq, hx⟩ := hg
    obtain ⟨its, rv, p, hz⟩ := I.tuple hq
    obtain ⟨f0, f1, f2, f3, f4, f5⟩ := hf it (by simp)
    have hl : its.toArray.size = i := by rw [List.size_toArray, ← rv.length]; exact hx
    subst hl
    exact wpAny_pyNext_enum_endD (Draws.tuple (A := X.A.in1) (I.ok.hd hc) it a hai its.toArray) he ⟨hit, p⟩ fun h' eb => ⟨rfl, I.turned (t' := s.toks) (fun b o hb q => eb b o hb q) f0 f1 f3 f4 f5⟩
  self := fun A i s Q E st h => let ⟨⟨_, he⟩, _⟩ := st; wpAny_pyIter_enum he h
def iEnumT (K : PySem.W.Frag) (ta : TA) : TI := fun σ H R => ta σ H fun vs H1 => ∃ a xs, vs = [.ref a] ∧ SqT K H1 a xs ∧ R (IteT K a) H1
theorem pi_enumT {X : Cx} {e : Expr} {ta : TA} {p pos tpos : Pos} {elts : List Expr} {kk : Nat} (hg : Gl X "enumerate") (hm : X.mg "enumerate" = none) (ha : PA X [e] ta) (hs : starEach [e] X.env = [(false, eval e X.env)]) :
    PI X (.Tuple elts kk tpos) (.Call (.Name "enumerate" p) [e] [] pos) (iEnumT X.K ta) := by
  refine ⟨fun pins s σ H R I h => ?_⟩
  refine Call_ (ld_blt I hg hm boot_enumerate (PyProof.Rows.callWith_type1 (thn (ha.run pos pins s σ H _ I h) fun us s1 ⟨vs, H1, I1, r1, q1⟩ => ?_) hs rfl))
  obtain ⟨a, xs, ex, hq, q⟩ := q1
  subst ex
  cases r1 with
  | cons r rr =>
    cases rr
    cases r
    obtain ⟨its, rv, p', hz⟩ := I1.tuple hq
    have hal : a < s1.heap.objs.size := by obtain ⟨_, q, _⟩ := id p'; exact Heap.lt_size q
    refine call_enumT p' fun h' he hit hsz hk => wpAny_pyIter_enum he ?_
    have I2 : Inv X pins σ H1 { s1 with heap := h' } := I1.kept (t' := s1.toks) hk
    refine ⟨s1.heap.objs.size + 1, [s1.heap.objs.size + 1, s1.heap.objs.size], _, _, H1, rfl, I2, turn_enumT a (s1.heap.objs.size + 1) s1.heap.objs.size, ⟨⟨.none, he⟩, hit, Nat.succ_ne_self _, Nat.ne_of_lt (Nat.lt_succ_of_lt hal), Nat.ne_of_lt hal⟩, fun b hb => ?_, q⟩
    have e' : b = s1.heap.objs.size + 1 ∨ b = s1.heap.objs.size := by simpa using hb
    have hle : s1.heap.objs.size ≤ b := by
      rcases e' with z | z
      · rw [z]; exact Nat.le_succ _
      · rw [z]; exact Nat.le_refl _
    exact I1.fpOk hle (I1.hok.fresh hle)
theorem itok_enumT {K : PySem.W.Frag} {F : Hp} {a : Addr} {vs : List V} {ds : List D} (h : SqT K F a vs) (hd : DqAll K F vs ds) : ItOk K (IteT K a) F (enumD 0 ds) := by
  have hl := dps_len hd
  refine ⟨fun i H' s hi => ?_, fun H' s => ⟨vs, sqt_mono s h, by rw [hl, enumD_len]⟩, fun i H' x H'' d s y e => ?_⟩
  · have hi2 : i < vs.length := by rw [hl, ← enumD_len ds 0]; exact hi
    exact ⟨vs, vs[i], sqt_mono s h, List.getElem?_eq_getElem hi2⟩
  · obtain ⟨T, w, rfl, h1, h2, q⟩ := y
    obtain ⟨y, e1, rfl⟩ := enumD_get _ _ _ _ e
    obtain ⟨v, e2, e3⟩ := dps_get hd e1
    have := q vs (sqt_mono s h)
    rw [e2] at this
    cases this
    rw [Nat.zero_add]
    exact .inr ⟨T, _, _, rfl, h1, h2, .cons (.int _) (.cons e3 .nil), rfl⟩
def iEnA (r : Am) : Im := fun ρ => match frzA r ρ with
  | some ([.list xs], ρ') => some (enumD 0 xs, ρ')
  | some ([.tuple xs], ρ') => some (enumD 0 xs, ρ')
  | _ => none
theorem mi_enumA {X : Cx} {C : Cs} {e : Expr} {r : Am} {p pos tpos : Pos} {elts : List Expr} {kk : Nat} (hK : C.K = X.K) (hg : Gl X "enumerate") (hm : X.mg "enumerate" = none) (ha : PA X [e] (tA C r)) (hs : starEach [e] X.env = [(false, eval e X.env)]) :
    PI X (.Tuple elts kk tpos) (.Call (.Name "enumerate" p) [e] [] pos) (tI C (iEnA r)) :=
  PI.imp (PI.or (pi_enum hg hm (pa_frz ha) hs) (pi_enumT hg hm (pa_frz ha) hs)) fun σ H Q q => by
    obtain ⟨ρ, F, ds, ρ', R, e, k⟩ := q
    unfold iEnA at e
    split at e
    · rename_i xs ρ1 e1
      cases e
      refine .inl ⟨ρ, F, _, _, R, e1, fun vs F' H' R' p' dd => ?_⟩
      cases dd with
      | cons a r =>
        cases r
        cases a with
        | lst hr ha => exact ⟨_, _, rfl, (hK ▸ rdl_mono R'.sub hr).sq, k _ F' H' R' p' (hK ▸ itok_enum hr ha)⟩
    · rename_i xs ρ1 e1
      cases e
      refine .inr ⟨ρ, F, _, _, R, e1, fun vs F' H' R' p' dd => ?_⟩
      cases dd with
      | cons a r =>
        cases r
        cases a with
        | tup hr ha => exact ⟨_, _, rfl, hK ▸ sqt_mono R'.sub hr, k _ F' H' R' p' (hK ▸ itok_enumT hr ha)⟩
    · cases e
end Mi

set_option maxRecDepth 100000
set_option maxHeartbeats 2000000
namespace Mi
open PySem PySem.Spec PyProof.Rows L2 Gx LamX

/-! ### the law's end -/
/-- a table of code objects that is empty at the end of the top, by the def's name -/
def TabsAt (names : List Str) (K : PySem.W.Frag) (mg : Str → Option Value) (h : Heap) : Prop :=
  ∀ x ∈ names, ∀ (fa c P : Addr) (o : Obj) (fd : FuncData) (e : Value) (dd : Option Addr) (vs : Array Value) (sl : Array (Option Value)), mg x = some (.ref fa) → K.lookup fa = some o → o.data = .func fd → fd.code = .ref c →
    K.lookup c = some ⟨e, dd, .fields vs, sl⟩ → vs[11]? = some (.ref P) → h.get? P = some { cls := .none, data := .fields #[] } ∧ PySem.W.CodeHd h c P
def LawM (l : PySem.W.OpenLaw) (w : World) (K : PySem.W.Frag) (k n : Nat) (x : Str) (mg : Str → Option Value) (h : Heap) : Prop :=
  ∃ (fd : FuncData) (fa : Addr) (tabs : List (Addr × Nat)) (cs : List (Addr × Addr)) (f : FS), (∀ t ∈ tabs, t.1 ∈ cs.map (·.2)) ∧ mg "law" = some (.ref fa) ∧
    (∀ p ∈ cs, h.get? p.2 = some { cls := .none, data := .fields #[] }) ∧ (∀ p ∈ cs, K.lookup p.2 = none) ∧ (∀ p ∈ cs, PySem.W.CodeHd h p.1 p.2) ∧ (∀ (s : Shared) (u : Value), BindsTo s fd ⟨[u], []⟩ [(x, u)]) ∧
    (∀ ns : List Int, ns.length ≤ n → (∀ z ∈ ns, Builtin.Int.intBits z ≤ 1048576) → f [Slot.val (.list (ns.map .int))] = some (.d (.bool true), none)) ∧
    ∀ base : Heap, K.In base → base.Ns mainGlobals mg → (∀ p ∈ cs, LamX.TabB base mg p.1 p.2) → FnOk l.prog w K mg base CX0 k fa fd [x] (spFn K tabs 1 f)
theorem tab_empty {H : Hp} {P : Addr} (h : H P = some (.tbl #[])) : ∀ n, TabN H n P
  | 0 => ⟨#[], h, trivial⟩
  | n + 1 => ⟨#[], h, trivial, fun v hv => by cases hv⟩
theorem ints_dq {K : PySem.W.Frag} {F : Hp} : ∀ ns : List Int, DqAll K F (ns.map V.int) (ns.map PyData.int)
  | [] => .nil
  | _ :: r => .cons (.int _) (ints_dq r)
theorem walk_mi {l : PySem.W.OpenLaw} {n k : Nat} {q : Program} {loose : List Str} {XP : (Str → Option Value) → Heap → Prop} {YP : World → Heap → Prop} {d : DefRec} {K : Params → PySem.W.Frag} {x : Str}
    (hn : l.most = some n) (hn2 : n ≤ sizeLine) (hdf : d.params.defaults = []) (hdn : d.name = "law") (hr : Room k callerA) (hY : ∀ (w : World) (h : Heap), YP w h → (K w.params).In h)
    (F : ∀ (w : World) (mg : Str → Option Value) (fa : Addr) (h : Heap), YP w h → (K w.params).In h → h.Ns mainGlobals mg → mg d.name = some (.ref fa) → TabsAt ((recsOf q).map (·.name)) (K w.params) mg h → LawM l w (K w.params) k n x mg h) :
    PySem.W.WalkO q loose XP YP l.row.toRowW d [] (fun f vs => PySem.call f vs) := by
  refine Att.attach_callB hn hdf fun w s₀ s₁ mg mb fa o pm cd doc a vs ns G Y ho hd hcd hmg hobj hints hlen hbits hg => ?_
  have KX := hY w _ Y
  have tabs : TabsAt ((recsOf q).map (·.name)) (K w.params) mg s₁.heap := fun x hx fa c P o1 fd1 e dd vs1 sl k0 k1 k2 k3 k4 k5 => by
    obtain ⟨dL, hm, hn2⟩ := List.mem_map.mp hx
    obtain ⟨a', o', fd', c', P', h1, h2, h3, h4, h5, h6⟩ := G.T.tab dL hm
    rw [hn2, k0] at h1
    cases h1
    have g1 := KX _ _ k1
    rw [g1] at h2
    cases h2
    rw [k2] at h3
    cases h3
    rw [k3] at h4
    cases h4
    have hC : PySem.W.CodeHd s₁.heap c P' := PySem.W.CodeHd.of h5 h6
    obtain ⟨⟨oc, vc, e1, _, e3, e4⟩, hP⟩ := h6
    have g2 := KX _ _ k4
    rw [g2] at e1
    cases e1
    cases e3
    rw [k5] at e4
    cases e4
    exact ⟨hP, hC⟩
  obtain ⟨fd, fa', tb, cs, f, htb, hfa, hT, nT, hC, hb, hlaw, hF⟩ := F w mg fa _ Y KX G.T.g hmg tabs
  rw [hdn, hfa] at hmg
  cases hmg
  obtain ⟨bm, ob, b1, b2, b3, b4, b5, b6⟩ := G.T.bmain
  refine law_callTs KX G.T.g G.T.b G.T.builtins G.T.nolimit hg hT nT hC G.T.bmain hobj hints (Nat.le_trans hlen hn2) hr hF hb (fun H hH hS => ?_) fun H e s' h => h
  have fin : ∀ (Fz : Hp), (∀ b o, Fz b = some o → H b = some o) → (∀ b ps, Fz b ≠ some (.tbl ps)) → RdL (K w.params) Fz a (ns.map V.int) → spFn (K w.params) tb 1 f [.ref a] H (fun v _ => v = .bl true) fun _ _ _ => False := fun Fz h1 h2 h3 => by
    refine ⟨Fz, [Slot.val (.list (ns.map .int))], [], .d (.bool true), none, rfl, h1, h2, fun t ht => ?_, .plain (ds := [.list (ns.map .int)]) (.cons (.lst h3 (ints_dq ns)) .nil), hlaw ns hlen hbits, fun v F' H' _ _ ok => ?_⟩
    · obtain ⟨p, hp, ep⟩ := List.mem_map.mp (htb t ht)
      rw [← ep]
      exact tab_empty (hH p hp) _
    · have ok : Dq _ F' v (.bool true) := ok
      cases ok
      rfl
  rcases hS with h | ⟨o, its, m, hk, h1, h2, h3, h4, h5⟩
  · refine fin (fun b => if b = a then H a else none) (fun b o e => ?_) (fun b ps e => ?_) (.inl ?_)
    · by_cases hb : b = a
      · rw [hb]
        have e : (if b = a then H a else none) = some o := e
        rw [if_pos hb] at e
        exact e
      · have e : (if b = a then H a else none) = some o := e
        rw [if_neg hb] at e
        cases e
    · have e : (if b = a then H a else none) = some (.tbl ps) := e
      by_cases hb : b = a
      · rw [if_pos hb] at e
        rcases h with h | ⟨o, h⟩ <;> rw [e] at h <;> cases h
      · rw [if_neg hb] at e
        cases e
    · rcases h with h | ⟨o, h⟩
      · exact .inl (by show (if a = a then H a else none) = _; rw [if_pos rfl]; exact h)
      · exact .inr ⟨o, by show (if a = a then H a else none) = _; rw [if_pos rfl]; exact h⟩
  · refine fin (fun _ => none) (fun b o e => nomatch e) (fun b ps e => nomatch e) (.inr ?_)
    have e := KX a o hk
    rw [hobj] at e
    cases e
    have h3 : Data.seq vs.toArray 0 = Data.seq its m := h3
    cases h3
    exact ⟨vs, 0, hk, by simpa using h4, by simpa using h5⟩
end Mi

set_option maxRecDepth 100000
set_option maxHeartbeats 2000000
namespace Mi
open PySem PySem.Spec

/-! ### reading the meaning: plain laws of blocks and loops -/
theorem restD_wipeD (ρ : DEnv) (vs : List Nat) : restD ρ (wipeD ρ vs) vs = ρ := by
  refine List.ext_getElem? fun i => ?_
  by_cases hi : i ∈ vs
  · by_cases hl : i < ρ.length
    · have hb : i < (restD ρ (wipeD ρ vs) vs).length := by rw [restD_len, wipeD_len]; exact hl
      have q : (restD ρ (wipeD ρ vs) vs)[i]? = some ((restD ρ (wipeD ρ vs) vs)[i]'hb) := List.getElem?_eq_getElem hb
      have z := restD_in hi q
      rw [q, z, List.getD_eq_getElem?_getD, List.getElem?_eq_getElem hl]
      rfl
    · rw [List.getElem?_eq_none (by rw [restD_len, wipeD_len]; omega), List.getElem?_eq_none (by omega)]
  · rw [restD_out hi, wipeD_out hi]
theorem wipeD_wipeD (ρ : DEnv) (vs : List Nat) : wipeD (wipeD ρ vs) vs = wipeD ρ vs := wipeD_same (wipeD_len ..) fun i hi => wipeD_out hi
/-- what a turn of a pure block shows -/
def PureTurn (t : Tg) (ft : Tm) (fe : Sm) (vs : List Nat) (ρ : DEnv) (p : D → Bool) (g : D → D) (d : D) : Prop :=
  ∃ ρ1 ρ2, asgT t d ρ = some ρ1 ∧ ft ρ1 = some (p d, ρ2) ∧ (p d = false → wipeD ρ2 vs = ρ) ∧ (p d = true → ∃ rv ρ3, fe ρ2 = some (rv, ρ3) ∧ rv.frz = g d ∧ wipeD ρ3 vs = ρ)
theorem lc_pure {t : Tg} {ft : Tm} {fe : Sm} {vs : List Nat} {ρ : DEnv} (p : D → Bool) (g : D → D) : ∀ {ds : List D}, (∀ d ∈ ds, PureTurn t ft fe vs ρ p g d) → lcGo t ft fe vs ds ρ = some ((ds.filter p).map g, ρ)
  | [], _ => rfl
  | d :: ds, h => by
    obtain ⟨ρ1, ρ2, h1, h2, h3, h4⟩ := h d List.mem_cons_self
    have ih := lc_pure p g (ds := ds) fun x hx => h x (List.mem_cons_of_mem _ hx)
    simp only [lcGo, h1, h2]
    cases hp : p d with
    | false =>
      simp only [h3 hp, ih, List.filter_cons, hp, Bool.false_eq_true, if_false]
    | true =>
      obtain ⟨rv, ρ3, h5, h6, h7⟩ := h4 hp
      simp only [h5, h7, ih, h6, List.filter_cons, hp, if_true, List.map_cons]
theorem sLc_pure {fi : Im} {t : Tg} {ft : Tm} {fe : Sm} {vs : List Nat} {ρ ρ1 : DEnv} {ds : List D} (p : D → Bool) (g : D → D) (hi : fi ρ = some (ds, ρ1)) (hn : noOwn vs ρ1 = true) (h : ∀ d ∈ ds, PureTurn t ft fe vs (wipeD ρ1 vs) p g d) (hl : ((ds.filter p).map g).length ≤ sizeLine) :
    sLc fi t ft fe vs ρ = some (.fl ((ds.filter p).map g), ρ1) := by
  unfold sLc
  simp only [hi, hn, if_true, lc_pure p g h, hl, restD_wipeD]
theorem gen_pure {kb : Bool} {t : Tg} {ft : Tm} {fe : Sm} {vs : List Nat} {ρ : DEnv} (p : D → Bool) (q : D → Bool) : ∀ {ds : List D}, (∀ d ∈ ds, ∃ ρ1 ρ2, asgT t d ρ = some ρ1 ∧ ft ρ1 = some (p d, ρ2) ∧ (p d = false → wipeD ρ2 vs = ρ) ∧ (p d = true → ∃ ρ3, fe ρ2 = some (.d (.bool (q d)), ρ3) ∧ wipeD ρ3 vs = ρ)) →
    genGo kb t ft fe vs ds ρ = some (if (ds.any fun d => p d && (q d == kb)) = true then kb else !kb, ρ)
  | [], _ => by simp [genGo]
  | d :: ds, h => by
    obtain ⟨ρ1, ρ2, h1, h2, h3, h4⟩ := h d List.mem_cons_self
    have ih := gen_pure (kb := kb) p q (ds := ds) fun x hx => h x (List.mem_cons_of_mem _ hx)
    simp only [genGo, h1, h2]
    cases hp : p d with
    | false =>
      simp only [h3 hp, ih, List.any_cons, hp, Bool.false_and, Bool.false_or]
    | true =>
      obtain ⟨ρ3, h5, h7⟩ := h4 hp
      simp only [h5, h7, ih, List.any_cons, hp, Bool.true_and]
      by_cases e : q d = kb
      · simp [e]
      · have e2 : (q d == kb) = false := by simpa using e
        rw [if_neg e, e2, Bool.false_or]
theorem sGen_pure {kb : Bool} {fi : Im} {t : Tg} {ft : Tm} {fe : Sm} {vs : List Nat} {ρ ρ1 : DEnv} {ds : List D} (p : D → Bool) (q : D → Bool) (hi : fi ρ = some (ds, ρ1)) (hn : noOwn vs ρ1 = true)
    (h : ∀ d ∈ ds, ∃ ρa ρ2, asgT t d (wipeD ρ1 vs) = some ρa ∧ ft ρa = some (p d, ρ2) ∧ (p d = false → wipeD ρ2 vs = wipeD ρ1 vs) ∧ (p d = true → ∃ ρ3, fe ρ2 = some (.d (.bool (q d)), ρ3) ∧ wipeD ρ3 vs = wipeD ρ1 vs)) :
    sGen kb fi t ft fe vs ρ = some (.d (.bool (if (ds.any fun d => p d && (q d == kb)) = true then kb else !kb)), ρ1) := by
  unfold sGen
  simp only [hi, hn, if_true, gen_pure p q h, restD_wipeD]
theorem anyT (ds : List D) (q : D → Bool) : (if (ds.any fun d => true && (q d == true)) = true then true else !true) = ds.any q := by
  have e : (ds.any fun d => true && (q d == true)) = ds.any q := by
    congr 1
    funext d
    cases q d <;> rfl
  rw [e]
  cases ds.any q <;> rfl
theorem allT (ds : List D) (q : D → Bool) : (if (ds.any fun d => true && (q d == false)) = true then false else !false) = ds.all q := by
  have e : (ds.any fun d => true && (q d == false)) = !ds.all q := by
    rw [List.not_all_eq_any_not]
    congr 1
    funext d
    cases q d <;> rfl
  rw [e]
  cases ds.all q <;> rfl
theorem any_pure {fi : Im} {t : Tg} {fe : Sm} {vs : List Nat} {ρ ρ1 : DEnv} {ds : List D} (q : D → Bool) (hi : fi ρ = some (ds, ρ1)) (hn : noOwn vs ρ1 = true)
    (h : ∀ d ∈ ds, ∃ ρa ρ3, asgT t d (wipeD ρ1 vs) = some ρa ∧ fe ρa = some (.d (.bool (q d)), ρ3) ∧ wipeD ρ3 vs = wipeD ρ1 vs) :
    sGen true fi t tYes2 fe vs ρ = some (.d (.bool (ds.any q)), ρ1) := by
  rw [sGen_pure (fun _ => true) q hi hn fun d hd => by
    obtain ⟨ρa, ρ3, h1, h2, h3⟩ := h d hd
    exact ⟨ρa, ρa, h1, rfl, (fun z => by cases z), fun _ => ⟨ρ3, h2, h3⟩⟩]
  rw [anyT ds q]
theorem all_pure {fi : Im} {t : Tg} {fe : Sm} {vs : List Nat} {ρ ρ1 : DEnv} {ds : List D} (q : D → Bool) (hi : fi ρ = some (ds, ρ1)) (hn : noOwn vs ρ1 = true)
    (h : ∀ d ∈ ds, ∃ ρa ρ3, asgT t d (wipeD ρ1 vs) = some ρa ∧ fe ρa = some (.d (.bool (q d)), ρ3) ∧ wipeD ρ3 vs = wipeD ρ1 vs) :
    sGen false fi t tYes2 fe vs ρ = some (.d (.bool (ds.all q)), ρ1) := by
  rw [sGen_pure (fun _ => true) q hi hn fun d hd => by
    obtain ⟨ρa, ρ3, h1, h2, h3⟩ := h d hd
    exact ⟨ρa, ρa, h1, rfl, (fun z => by cases z), fun _ => ⟨ρ3, h2, h3⟩⟩]
  rw [allT ds q]
/-! over a list of which each item stands for something -/
section
variable {α : Type} (enc : α → D)
theorem lc_enc {t : Tg} {ft : Tm} {fe : Sm} {vs : List Nat} {ρ : DEnv} (P : α → Bool) (G : α → D) : ∀ {l : List α},
    (∀ a ∈ l, ∃ ρ1 ρ2, asgT t (enc a) ρ = some ρ1 ∧ ft ρ1 = some (P a, ρ2) ∧ (P a = false → wipeD ρ2 vs = ρ) ∧ (P a = true → ∃ rv ρ3, fe ρ2 = some (rv, ρ3) ∧ rv.frz = G a ∧ wipeD ρ3 vs = ρ)) → lcGo t ft fe vs (l.map enc) ρ = some ((l.filter P).map G, ρ)
  | [], _ => rfl
  | d :: ds, h => by
    obtain ⟨ρ1, ρ2, h1, h2, h3, h4⟩ := h d List.mem_cons_self
    have ih := lc_enc P G (l := ds) fun x hx => h x (List.mem_cons_of_mem _ hx)
    simp only [List.map_cons, lcGo, h1, h2]
    cases hp : P d with
    | false =>
      simp only [h3 hp, ih, List.filter_cons, hp, Bool.false_eq_true, if_false]
    | true =>
      obtain ⟨rv, ρ3, h5, h6, h7⟩ := h4 hp
      simp only [h5, h7, ih, h6, List.filter_cons, hp, if_true, List.map_cons]
theorem sLc_enc {fi : Im} {t : Tg} {ft : Tm} {fe : Sm} {vs : List Nat} {ρ ρ1 : DEnv} {l : List α} (P : α → Bool) (G : α → D) (hi : fi ρ = some (l.map enc, ρ1)) (hn : noOwn vs ρ1 = true)
    (h : ∀ a ∈ l, ∃ ρa ρ2, asgT t (enc a) (wipeD ρ1 vs) = some ρa ∧ ft ρa = some (P a, ρ2) ∧ (P a = false → wipeD ρ2 vs = wipeD ρ1 vs) ∧ (P a = true → ∃ rv ρ3, fe ρ2 = some (rv, ρ3) ∧ rv.frz = G a ∧ wipeD ρ3 vs = wipeD ρ1 vs))
    (hl : l.length ≤ 1000000) : sLc fi t ft fe vs ρ = some (.fl ((l.filter P).map G), ρ1) := by
  have hz : ((l.filter P).map G).length ≤ sizeLine := by
    rw [List.length_map, sizeLine_eq]
    have := List.length_filter_le P l
    omega
  unfold sLc
  simp only [hi, hn, if_true, lc_enc enc P G h, hz, restD_wipeD]
/-- .. without a test -/
theorem sLc_map {fi : Im} {t : Tg} {fe : Sm} {vs : List Nat} {ρ ρ1 : DEnv} {l : List α} (G : α → D) (hi : fi ρ = some (l.map enc, ρ1)) (hn : noOwn vs ρ1 = true)
    (h : ∀ a ∈ l, ∃ ρa rv ρ3, asgT t (enc a) (wipeD ρ1 vs) = some ρa ∧ fe ρa = some (rv, ρ3) ∧ rv.frz = G a ∧ wipeD ρ3 vs = wipeD ρ1 vs)
    (hl : l.length ≤ 1000000) : sLc fi t tYes2 fe vs ρ = some (.fl (l.map G), ρ1) := by
  have e := sLc_enc enc (ft := tYes2) (fun _ => true) G hi hn (fun a ha => by
    obtain ⟨ρa, rv, ρ3, h1, h2, h3, h4⟩ := h a ha
    exact ⟨ρa, ρa, h1, rfl, (fun z => by cases z), fun _ => ⟨rv, ρ3, h2, h3, h4⟩⟩) hl
  rw [List.filter_eq_self.mpr fun _ _ => rfl] at e
  exact e
theorem any_enc {fi : Im} {t : Tg} {fe : Sm} {vs : List Nat} {ρ ρ1 : DEnv} {l : List α} (q : α → Bool) (hi : fi ρ = some (l.map enc, ρ1)) (hn : noOwn vs ρ1 = true)
    (h : ∀ a ∈ l, ∃ ρa ρ3, asgT t (enc a) (wipeD ρ1 vs) = some ρa ∧ fe ρa = some (.d (.bool (q a)), ρ3) ∧ wipeD ρ3 vs = wipeD ρ1 vs) :
    sGen true fi t tYes2 fe vs ρ = some (.d (.bool (l.any q)), ρ1) := by
  have go : ∀ (kb : Bool) (l : List α), (∀ a ∈ l, ∃ ρa ρ3, asgT t (enc a) (wipeD ρ1 vs) = some ρa ∧ fe ρa = some (.d (.bool (q a)), ρ3) ∧ wipeD ρ3 vs = wipeD ρ1 vs) → genGo true t tYes2 fe vs (l.map enc) (wipeD ρ1 vs) = some (l.any q, wipeD ρ1 vs) := by
    intro kb l
    induction l with
    | nil => intro _; rfl
    | cons a r ih =>
      intro h
      obtain ⟨ρa, ρ3, h1, h2, h3⟩ := h a List.mem_cons_self
      have ih := ih fun x hx => h x (List.mem_cons_of_mem _ hx)
      simp only [List.map_cons, genGo, h1, tYes2, h2, h3, ih, List.any_cons]
      cases q a <;> simp
  unfold sGen
  simp only [hi, hn, if_true, go true l h, restD_wipeD]
theorem all_enc {fi : Im} {t : Tg} {fe : Sm} {vs : List Nat} {ρ ρ1 : DEnv} {l : List α} (q : α → Bool) (hi : fi ρ = some (l.map enc, ρ1)) (hn : noOwn vs ρ1 = true)
    (h : ∀ a ∈ l, ∃ ρa ρ3, asgT t (enc a) (wipeD ρ1 vs) = some ρa ∧ fe ρa = some (.d (.bool (q a)), ρ3) ∧ wipeD ρ3 vs = wipeD ρ1 vs) :
    sGen false fi t tYes2 fe vs ρ = some (.d (.bool (l.all q)), ρ1) := by
  have go : ∀ (l : List α), (∀ a ∈ l, ∃ ρa ρ3, asgT t (enc a) (wipeD ρ1 vs) = some ρa ∧ fe ρa = some (.d (.bool (q a)), ρ3) ∧ wipeD ρ3 vs = wipeD ρ1 vs) → genGo false t tYes2 fe vs (l.map enc) (wipeD ρ1 vs) = some (l.all q, wipeD ρ1 vs) := by
    intro l
    induction l with
    | nil => intro _; rfl
    | cons a r ih =>
      intro h
      obtain ⟨ρa, ρ3, h1, h2, h3⟩ := h a List.mem_cons_self
      have ih := ih fun x hx => h x (List.mem_cons_of_mem _ hx)
      simp only [List.map_cons, genGo, h1, tYes2, h2, h3, ih, List.all_cons]
      cases q a <;> simp
  unfold sGen
  simp only [hi, hn, if_true, go l h, restD_wipeD]
end
/-- a loop whose turns are steps of a state s; x: the slots that hold no more than the last turn's -/
theorem for_fold {t : Tg} {body : Bm} {S J : Type} (enc : S → J → DEnv) (step : S → D → S) : ∀ {ds : List D} {s : S} {x : J}, (∀ d ∈ ds, ∀ s x, ∃ ρ1 fl x', asgT t d (enc s x) = some ρ1 ∧ body ρ1 = some (fl, enc (step s d) x') ∧ (fl = .nx ∨ fl = .ct)) →
    ∃ x', forGo t body ds (enc s x) = some (.nx, enc (ds.foldl step s) x')
  | [], s, x, _ => ⟨x, rfl⟩
  | d :: ds, s, x, h => by
    obtain ⟨ρ1, fl, x1, h1, h2, h3⟩ := h d List.mem_cons_self s x
    obtain ⟨x2, h4⟩ := for_fold enc step (ds := ds) (s := step s d) (x := x1) fun d hd => h d (List.mem_cons_of_mem _ hd)
    refine ⟨x2, ?_⟩
    rcases h3 with rfl | rfl <;> simp only [forGo, h1, h2, h4, List.foldl_cons]
/-- .. with an invariant -/
theorem for_inv {t : Tg} {body : Bm} (I : DEnv → Prop) : ∀ {ds : List D} {ρ : DEnv}, I ρ → (∀ d ∈ ds, ∀ ρ, I ρ → ∃ ρ1 fl ρ2, asgT t d ρ = some ρ1 ∧ body ρ1 = some (fl, ρ2) ∧ (fl = .nx ∨ fl = .ct) ∧ I ρ2) →
    ∃ ρ', forGo t body ds ρ = some (.nx, ρ') ∧ I ρ'
  | [], ρ, h0, _ => ⟨ρ, rfl, h0⟩
  | d :: ds, ρ, h0, h => by
    obtain ⟨ρ1, fl, ρ2, h1, h2, h3, h4⟩ := h d List.mem_cons_self ρ h0
    obtain ⟨ρ', h5, h6⟩ := for_inv I (ds := ds) h4 fun d hd => h d (List.mem_cons_of_mem _ hd)
    refine ⟨ρ', ?_, h6⟩
    rcases h3 with rfl | rfl <;> simp only [forGo, h1, h2, h5]
/-- a block that draws: an invariant, and what each item is -/
theorem lc_inv {t : Tg} {fe : Sm} {vs : List Nat} (I : DEnv → Prop) (G : D → Prop) : ∀ {ds : List D} {ρ : DEnv}, I ρ → (∀ d ∈ ds, ∀ ρ, I ρ → ∃ ρ1 rv ρ3, asgT t d ρ = some ρ1 ∧ fe ρ1 = some (rv, ρ3) ∧ G rv.frz ∧ I (wipeD ρ3 vs)) →
    ∃ (ys : List D) (ρ' : DEnv), lcGo t tYes2 fe vs ds ρ = some (ys, ρ') ∧ ys.length = ds.length ∧ (∀ y ∈ ys, G y) ∧ I ρ'
  | [], ρ, h0, _ => ⟨[], ρ, rfl, rfl, (fun y hy => by cases hy), h0⟩
  | d :: ds, ρ, h0, h => by
    obtain ⟨ρ1, rv, ρ3, h1, h2, h3, h4⟩ := h d List.mem_cons_self ρ h0
    obtain ⟨ys, ρ', h5, h6, h7, h8⟩ := lc_inv I G (ds := ds) h4 fun d hd => h d (List.mem_cons_of_mem _ hd)
    refine ⟨rv.frz :: ys, ρ', ?_, by rw [List.length_cons, List.length_cons, h6], fun y hy => ?_, h8⟩
    · simp only [lcGo, h1, tYes2, h2, h5]
    · rcases List.mem_cons.mp hy with rfl | hy
      · exact h3
      · exact h7 y hy
/-- .. of which some are left out -/
theorem lc_invF {t : Tg} {ft : Tm} {fe : Sm} {vs : List Nat} (I : DEnv → Prop) (g : D → D) : ∀ {ds : List D} {ρ : DEnv}, I ρ → (∀ d ∈ ds, ∀ ρ, I ρ → ∃ ρ1 b ρ2, asgT t d ρ = some ρ1 ∧ ft ρ1 = some (b, ρ2) ∧ (b = false → I (wipeD ρ2 vs)) ∧ (b = true → ∃ rv ρ3, fe ρ2 = some (rv, ρ3) ∧ rv.frz = g d ∧ I (wipeD ρ3 vs))) →
    ∃ (zs : List D) (ρ' : DEnv), lcGo t ft fe vs ds ρ = some (zs.map g, ρ') ∧ zs.Sublist ds ∧ I ρ'
  | [], ρ, h0, _ => ⟨[], ρ, rfl, List.Sublist.slnil, h0⟩
  | d :: ds, ρ, h0, h => by
    obtain ⟨ρ1, b, ρ2, h1, h2, h3, h4⟩ := h d List.mem_cons_self ρ h0
    cases b with
    | false =>
      obtain ⟨ys, ρ', h5, h6, h7⟩ := lc_invF I g (ds := ds) (h3 rfl) fun d hd => h d (List.mem_cons_of_mem _ hd)
      exact ⟨ys, ρ', by simp only [lcGo, h1, h2, h5], h6.cons _, h7⟩
    | true =>
      obtain ⟨rv, ρ3, e1, e2, e3⟩ := h4 rfl
      obtain ⟨ys, ρ', h5, h6, h7⟩ := lc_invF I g (ds := ds) e3 fun d hd => h d (List.mem_cons_of_mem _ hd)
      exact ⟨d :: ys, ρ', by simp only [lcGo, h1, h2, e1, e2, h5, List.map_cons], h6.cons₂ _, h7⟩

/-! ### the law's own run -/
/-- the block returns True -/
def Tru (f : Bm) (ρ : DEnv) : Prop := ∃ ρ', f ρ = some (.ret (.d (.bool true)), ρ')
theorem Tru.seq {f g : Bm} {ρ ρ1 : DEnv} (h1 : f ρ = some (.nx, ρ1)) (h2 : Tru g ρ1) : Tru (xSeq f g) ρ := by
  obtain ⟨ρ', h⟩ := h2
  exact ⟨ρ', by unfold xSeq; simp only [h1]; exact h⟩
theorem Tru.skip {c : Tm} {a : Bm} {g : Bm} {ρ ρ1 : DEnv} (h1 : c ρ = some (false, ρ1)) (h2 : Tru g ρ1) : Tru (xSeq (xIf c a xPass) g) ρ :=
  Tru.seq (by unfold xIf; simp only [h1]; rfl) h2
theorem law_of {body : Bm} {io : Bool} {n : Nat} {d : D} (h : Tru body ([.val d] ++ List.replicate (n - 1) .no)) : defF io n body [.val d] = some (.d (.bool true), none) := by
  obtain ⟨ρ', h⟩ := h
  unfold defF
  have e : ([Slot.val d].length) = 1 := rfl
  rw [e]
  simp only [h]
  rfl
/-! ### operations -/
theorem gLe_ii (i j : Int) : gLe (.int i) (.int j) = some (.d (.bool (decide (i ≤ j)))) := rfl
theorem gGe_ii (i j : Int) : gGe (.int i) (.int j) = some (.d (.bool (decide (j ≤ i)))) := rfl
theorem gLt_ii (i j : Int) : gLt (.int i) (.int j) = some (.d (.bool (decide (i < j)))) := rfl
theorem gGt_ii (i j : Int) : gGt (.int i) (.int j) = some (.d (.bool (decide (j < i)))) := rfl
theorem gAdd_ii (i j : Int) : gAdd (.int i) (.int j) = some (.d (.int (i + j))) := rfl
theorem gSub_ii (i j : Int) : Mi.gSub (.int i) (.int j) = some (.d (.int (i - j))) := rfl
theorem gMod_ii {i j : Int} (h : 0 < j) : gMod (.int i) (.int j) = some (.d (.int (i % j))) := if_pos h
theorem atI_nat {xs : List D} {i : Nat} {d : D} (h : xs[i]? = some d) : L2.atI xs (i : Int) = some d := by
  have hi : i < xs.length := (List.getElem?_eq_some_iff.mp h).1
  unfold L2.atI L2.ixN
  rw [if_pos (by omega), if_pos (by omega)]
  simpa using h
theorem gIdx_l {xs : List D} {i : Nat} {d : D} (h : xs[i]? = some d) : gIdx (.list xs) (.int i) = some (.d d) := by
  unfold gIdx; simp only [atI_nat h]
theorem gIdx_t {xs : List D} {i : Nat} {d : D} (h : xs[i]? = some d) : gIdx (.tuple xs) (.int i) = some (.d d) := by
  unfold gIdx; simp only [atI_nat h]
/-! ### one step of the reading -/
theorem xRet_eq {f : Sm} {ρ ρ1 : DEnv} {rv : RV} (h : f ρ = some (rv, ρ1)) : xRet f ρ = some (.ret rv, ρ1) := by unfold xRet; simp only [h]
@[reducible] def _root_.Mi.RV.slot : RV → Slot
  | .d x => .val x
  | .fl xs => .own xs
theorem xSet_eq {i : Nat} {f : Sm} {ρ ρ1 : DEnv} {rv : RV} (h : f ρ = some (rv, ρ1)) (hi : i < ρ1.length) : xSet i f ρ = some (.nx, ρ1.set i (RV.slot rv)) := by
  unfold xSet; simp only [h, putRV, hi, if_true]
  all_goals (cases rv <;> rfl)
theorem lOf_eq {f : Sm} {ρ ρ1 : DEnv} {rv : RV} (h : f ρ = some (rv, ρ1)) : lOf f ρ = some (.d rv.frz, ρ1) := by unfold lOf; simp only [h]
theorem blt1 {g : List D → Option RV} {la : Lm} {ρ ρ1 : DEnv} {l : Mi.Loc} {d : D} {rv : RV} (h : la ρ = some (l, ρ1)) (hd : lRes ρ1 l = some d) (hg : g [d] = some rv) : sBlt g (aCons la aNil) ρ = some (rv, ρ1) := by
  unfold sBlt aCons aNil; simp only [h, lRess, hd, hg]
/-- of a block's value -/
theorem blt1f {g : List D → Option RV} {f : Sm} {ρ ρ1 : DEnv} {rw rv : RV} (h : f ρ = some (rw, ρ1)) (hg : g [rw.frz] = some rv) : sBlt g (aCons (lOf f) aNil) ρ = some (rv, ρ1) := blt1 (lOf_eq h) rfl hg
theorem bin_eq {g : D → D → Option RV} {la lb : Lm} {ρ ρ1 ρ2 : DEnv} {l m : Mi.Loc} {x y : D} {rv : RV} (h : la ρ = some (l, ρ1)) (h2 : lb ρ1 = some (m, ρ2)) (hx : lRes ρ2 l = some x) (hy : lRes ρ2 m = some y) (hg : g x y = some rv) : sBin g la lb ρ = some (rv, ρ2) := by
  unfold sBin; simp only [h, h2, hx, hy, hg]
theorem ofB_eq {f : Sm} {ρ ρ1 : DEnv} {b : Bool} (h : f ρ = some (.d (.bool b), ρ1)) : tOfB f ρ = some (b, ρ1) := by unfold tOfB; simp only [h]
theorem tru_eq {f : Sm} {ρ ρ1 : DEnv} {rv : RV} {b : Bool} (h : f ρ = some (rv, ρ1)) (ht : truth rv.frz = some b) : tTru (lOf f) ρ = some (b, ρ1) := by
  unfold tTru; simp only [lOf_eq h, lRes, ht]
theorem not_eq {t : Tm} {ρ ρ1 : DEnv} {b : Bool} (h : t ρ = some (b, ρ1)) : tNot2 t ρ = some (!b, ρ1) := by unfold tNot2; simp only [h]
theorem or_f {t u : Tm} {ρ ρ1 : DEnv} (h : t ρ = some (false, ρ1)) : tOr2 t u ρ = u ρ1 := by unfold tOr2; simp only [h]
theorem or_t {t u : Tm} {ρ ρ1 : DEnv} (h : t ρ = some (true, ρ1)) : tOr2 t u ρ = some (true, ρ1) := by unfold tOr2; simp only [h]
theorem and_f {t u : Tm} {ρ ρ1 : DEnv} (h : t ρ = some (false, ρ1)) : tAnd2 t u ρ = some (false, ρ1) := by unfold tAnd2; simp only [h]
theorem and_t {t u : Tm} {ρ ρ1 : DEnv} (h : t ρ = some (true, ρ1)) : tAnd2 t u ρ = u ρ1 := by unfold tAnd2; simp only [h]
theorem call_eq {f : FS} {r : Am} {ρ ρ1 ρ2 : DEnv} {ls : List Mi.Loc} {ds : List D} {rv : RV} (h : r ρ = some (ls, ρ1)) (h2 : frzLocs ls ρ1 = some (ds, ρ2)) (h3 : f (ds.map Slot.val) = some (rv, none)) : sCall f r ρ = some (rv, ρ2) := by
  unfold sCall; simp only [h, h2, h3]
/-! ### numbers -/
def iD (k : Nat) : D := .int (k : Int)
theorem rangeD_nat (n : Nat) : rangeD 0 n = (List.range n).map iD := by
  unfold rangeD
  refine List.map_congr_left fun k _ => ?_
  rw [Int.zero_add]; rfl
theorem enumD_range : ∀ (ds : List D) (i : Nat), enumD i ds = (List.range ds.length).map fun k => .tuple [iD (i + k), ds.getD k .none]
  | [], i => rfl
  | d :: ds, i => by
    rw [enumD, enumD_range ds (i + 1), List.length_cons, List.range_succ_eq_map, List.map_cons, List.map_map]
    refine congrArg (_ :: ·) (List.map_congr_left fun k _ => ?_)
    show _ = PyData.tuple [iD (i + (k + 1)), (d :: ds).getD (k + 1) .none]
    rw [List.getD_cons_succ, show i + 1 + k = i + (k + 1) from by omega]
theorem fits {n : Nat} (h : n ≤ 1000000) : n ≤ sizeLine := by rw [sizeLine_eq]; omega
/-- range of a number that stands in the block -/
theorem iR1_nat {r : Am} {ρ ρ1 : DEnv} {l : Mi.Loc} {n : Nat} (h : r ρ = some ([l], ρ1)) (hl : l = .d (iD n)) (hn : n ≤ 1000000) : iR1 r ρ = some ((List.range n).map iD, ρ1) := by
  subst hl
  have hb : -(2 ^ 62 : Int) ≤ (n : Int) ∧ (n : Int) < 2 ^ 62 := by omega
  unfold iR1
  simp only [h, locDs, Option.map, iD, hb, and_self, if_true, Int.toNat_natCast, rangeD_nat]
theorem gEq_ii (i j : Int) : gEq (.int i) (.int j) = some (.d (.bool (decide (i = j)))) := by
  have e : PyData.eqv (.int i) (.int j) = decide (i = j) := by
    show (i == j) = decide (i = j)
    rfl
  unfold gEq
  rw [e]
  rfl
theorem gNe_ii (i j : Int) : gNe (.int i) (.int j) = some (.d (.bool (!decide (i = j)))) := by
  have e : PyData.eqv (.int i) (.int j) = decide (i = j) := by
    show (i == j) = decide (i = j)
    rfl
  unfold gNe
  rw [e]
  rfl
theorem shal_l (d e : D) (h : d.depth ≤ 60) : shallow d e = true := by unfold shallow; exact decide_eq_true (by omega)
theorem shal_r (d e : D) (h : e.depth ≤ 60) : shallow d e = true := by unfold shallow; exact decide_eq_true (by omega)
theorem eqv_nil (xs : List D) : PyData.eqv (.list xs) (.list []) = xs.isEmpty := by cases xs <;> rfl
theorem eqv_nilT (xs : List D) : PyData.eqv (.tuple xs) (.tuple []) = xs.isEmpty := by cases xs <;> rfl
theorem gEq_nil (xs : List D) : gEq (.list xs) (.list []) = some (.d (.bool xs.isEmpty)) := by
  unfold gEq
  rw [shal_r _ _ (by decide), eqv_nil]; rfl
theorem gNe_nil (xs : List D) : gNe (.list xs) (.list []) = some (.d (.bool (!xs.isEmpty))) := by
  unfold gNe
  rw [shal_r _ _ (by decide), eqv_nil]; rfl
theorem seq_nx {f g : Bm} {ρ ρ1 : DEnv} (h : f ρ = some (.nx, ρ1)) : xSeq f g ρ = g ρ1 := by unfold xSeq; simp only [h]
theorem seq_ret {f g : Bm} {ρ ρ1 : DEnv} {rv : RV} (h : f ρ = some (.ret rv, ρ1)) : xSeq f g ρ = some (.ret rv, ρ1) := by unfold xSeq; simp only [h]
theorem if_t {c : Tm} {a b : Bm} {ρ ρ1 : DEnv} (h : c ρ = some (true, ρ1)) : xIf c a b ρ = a ρ1 := by unfold xIf; simp only [h]
theorem if_f {c : Tm} {a b : Bm} {ρ ρ1 : DEnv} (h : c ρ = some (false, ρ1)) : xIf c a b ρ = b ρ1 := by unfold xIf; simp only [h]
/-- a call of a def that changes no list: its value -/
theorem fn_of {n : Nat} {io : Bool} {body : Bm} {ds : List D} {rv : RV} {ρ' : DEnv} (h : body (ds.map Slot.val ++ List.replicate (n - ds.length) .no) = some (.ret rv, ρ')) : defF io n body (ds.map Slot.val) = some (rv, none) := by
  unfold defF
  rw [List.length_map, h]
  cases ds <;> rfl
end Mi

set_option maxRecDepth 100000
set_option maxHeartbeats 2000000
namespace Mi
open PySem PySem.Spec

/-! ### lists of numbers -/
def nL (l : List Nat) : List D := l.map iD
theorem depth_nat (l : List Nat) : PyData.depthAll (l.map iD) ≤ 1 := by
  induction l with
  | nil => decide
  | cons x r ih =>
    show max (PyData.depth (iD x)) (PyData.depthAll (r.map iD)) ≤ 1
    have : PyData.depth (iD x) ≤ 1 := by show (PyData.depth (.int _)) ≤ 1; simp [PyData.depth]
    omega
theorem alike_nat : ∀ l m : List Nat, PySem.W.alikeAll (l.map iD) (m.map iD) = true
  | [], _ => by simp [PySem.W.alikeAll]
  | _ :: _, [] => by simp [PySem.W.alikeAll]
  | _ :: l, _ :: m => by
    rw [List.map_cons, List.map_cons]
    simp only [PySem.W.alikeAll, alike_nat l m, Bool.and_true]
    rfl
theorem like_nat (l : List Nat) : likeAll (l.map iD) = true := by
  unfold likeAll
  have h := depth_nat l
  simp only [Bool.and_eq_true, List.all_eq_true, decide_eq_true_eq]
  refine ⟨⟨fun x hx y hy => ?_, fun x hx => ?_⟩, by omega⟩
  · obtain ⟨a, _, rfl⟩ := List.mem_map.mp hx
    obtain ⟨b, _, rfl⟩ := List.mem_map.mp hy
    rfl
  · obtain ⟨a, _, rfl⟩ := List.mem_map.mp hx
    rfl
def maxN : List Nat → Nat
  | [] => 0
  | a :: r => r.foldl max a
theorem foldl_max_le (l : List Nat) (a : Nat) : a ≤ l.foldl max a ∧ (∀ x ∈ l, x ≤ l.foldl max a) ∧ (l.foldl max a = a ∨ l.foldl max a ∈ l) := by
  induction l generalizing a with
  | nil => exact ⟨Nat.le_refl _, fun x hx => (by cases hx), .inl rfl⟩
  | cons b r ih =>
    obtain ⟨h1, h2, h3⟩ := ih (max a b)
    refine ⟨by show a ≤ r.foldl max (max a b); omega, fun x hx => ?_, ?_⟩
    · rcases List.mem_cons.mp hx with rfl | hx
      · show x ≤ r.foldl max (max a x); omega
      · exact h2 x hx
    · show r.foldl max (max a b) = a ∨ r.foldl max (max a b) ∈ b :: r
      rcases h3 with h3 | h3
      · rw [h3]
        by_cases h : a ≤ b
        · right; rw [Nat.max_eq_right h]; exact List.mem_cons_self
        · left; omega
      · exact .inr (List.mem_cons_of_mem _ h3)
theorem le_maxN {l : List Nat} {x : Nat} (h : x ∈ l) : x ≤ maxN l := by
  cases l with
  | nil => cases h
  | cons a r =>
    obtain ⟨h1, h2, _⟩ := foldl_max_le r a
    rcases List.mem_cons.mp h with rfl | h
    · exact h1
    · exact h2 x h
theorem maxN_mem {l : List Nat} (h : l ≠ []) : maxN l ∈ l := by
  cases l with
  | nil => exact absurd rfl h
  | cons a r =>
    obtain ⟨_, _, h3⟩ := foldl_max_le r a
    rcases h3 with h3 | h3
    · show r.foldl max a ∈ a :: r
      rw [h3]; exact List.mem_cons_self
    · exact List.mem_cons_of_mem _ h3
theorem cast_foldl_max (l : List Nat) (a : Nat) : (l.map fun k : Nat => (k : Int)).foldl max (a : Int) = ((l.foldl max a : Nat) : Int) := by
  induction l generalizing a with
  | nil => rfl
  | cons b r ih =>
    rw [List.map_cons, List.foldl_cons, List.foldl_cons, ← ih]
    congr 1
    omega
theorem gMax_nat {l : List Nat} (h : l ≠ []) : gMax [.list (l.map iD)] = some (.d (iD (maxN l))) := by
  cases l with
  | nil => exact absurd rfl h
  | cons a r =>
    have hl := like_nat (a :: r)
    rw [List.map_cons] at hl ⊢
    unfold gMax
    simp only [hl, if_true]
    have e : PySem.W.maxD (iD a) (r.map iD) = iD (r.foldl max a) := by
      have := PySem.W.maxD_ints (a : Int) (r.map fun k : Nat => (k : Int))
      rw [List.map_map, cast_foldl_max] at this
      exact this
    rw [e]
    rfl
theorem gMax_two (a b : Nat) : gMax [iD a, iD b] = some (.d (iD (max a b))) := by
  unfold gMax iD
  simp only
  congr 3
  by_cases h : (b : Int) > (a : Int)
  · rw [if_pos h]; omega
  · rw [if_neg h]; omega
/-- a number among numbers -/
theorem eqv_nat (a b : Nat) : PyData.eqv (iD a) (iD b) = decide (a = b) := by
  show ((a : Int) == (b : Int)) = decide (a = b)
  by_cases h : a = b
  · subst h; simp
  · rw [decide_eq_false h]
    have : ((a : Int) == (b : Int)) = false := by
      rw [beq_eq_false_iff_ne]
      omega
    exact this
theorem any_nat (l : List Nat) (k : Nat) : ((l.map iD).any fun y => PyData.eqv y (iD k)) = l.contains k := by
  induction l with
  | nil => rfl
  | cons a r ih =>
    rw [List.map_cons, List.any_cons, ih, eqv_nat, List.contains_cons]
    congr 1
    by_cases h : a = k
    · subst h; simp
    · rw [decide_eq_false h]
      exact (beq_eq_false_iff_ne.mpr fun z => h z.symm).symm
theorem gIn_nat (l : List Nat) (k : Nat) : gIn (iD k) (.list (l.map iD)) = some (.d (.bool (l.contains k))) := by
  unfold gIn
  have h : PyData.depth (iD k) ≤ 1 := by show (PyData.depth (.int _)) ≤ 1; simp [PyData.depth]
  simp only [any_nat]
  rw [if_pos (by omega)]
theorem gIn_natT (l : List Nat) (k : Nat) : gIn (iD k) (.tuple (l.map iD)) = some (.d (.bool (l.contains k))) := by
  unfold gIn
  have h : PyData.depth (iD k) ≤ 1 := by show (PyData.depth (.int _)) ≤ 1; simp [PyData.depth]
  simp only [any_nat]
  rw [if_pos (by omega)]
theorem eqvAll_nat : ∀ l m : List Nat, PyData.eqvAll (l.map iD) (m.map iD) = decide (l = m)
  | [], [] => rfl
  | [], _ :: _ => rfl
  | _ :: _, [] => rfl
  | a :: l, b :: m => by
    show (PyData.eqv (iD a) (iD b) && PyData.eqvAll (l.map iD) (m.map iD)) = decide (a :: l = b :: m)
    rw [eqv_nat, eqvAll_nat l m]
    by_cases h : a = b <;> by_cases h2 : l = m <;> simp [h, h2]
/-- a list of numbers among such lists -/
theorem gIn_rows (R : List (List Nat)) (l : List Nat) : gIn (.list (l.map iD)) (.list (R.map fun r => .list (r.map iD))) = some (.d (.bool (R.contains l))) := by
  unfold gIn
  have h : PyData.depth (.list (l.map iD)) ≤ 2 := by
    have := depth_nat l
    show PyData.depthAll (l.map iD) + 1 ≤ 2
    omega
  have e : ((R.map fun r => PyData.list (r.map iD)).any fun y => PyData.eqv y (.list (l.map iD))) = R.contains l := by
    induction R with
    | nil => rfl
    | cons a r ih =>
      rw [List.map_cons, List.any_cons, ih, List.contains_cons]
      congr 1
      show PyData.eqvAll (a.map iD) (l.map iD) = (l == a)
      rw [eqvAll_nat]
      by_cases h : a = l
      · subst h; simp
      · rw [decide_eq_false h]
        exact (beq_eq_false_iff_ne.mpr fun z => h z.symm).symm
  simp only [e]
  rw [if_pos (by omega)]
/-! ### the least of pairs (a number, a tuple of numbers) -/
abbrev NP := Nat × List Nat
def npD (p : NP) : D := .tuple [iD p.1, .tuple (p.2.map iD)]
theorem alike_np (p q : NP) : PySem.W.alike (npD p) (npD q) = true := by
  show PySem.W.alikeAll [iD p.1, .tuple (p.2.map iD)] [iD q.1, .tuple (q.2.map iD)] = true
  simp only [PySem.W.alikeAll, Bool.and_true]
  show (true && PySem.W.alikeAll (p.2.map iD) (q.2.map iD)) = true
  rw [alike_nat]
  rfl
theorem depth_np (l : List NP) : PyData.depthAll (l.map npD) ≤ 3 := by
  induction l with
  | nil => decide
  | cons x r ih =>
    show max (PyData.depth (npD x)) (PyData.depthAll (r.map npD)) ≤ 3
    have h1 := depth_nat x.2
    have : PyData.depth (npD x) ≤ 3 := by
      show max (PyData.depth (iD x.1)) (max (PyData.depthAll (x.2.map iD) + 1) 0) + 1 ≤ 3
      have : PyData.depth (iD x.1) ≤ 1 := by show (PyData.depth (.int _)) ≤ 1; simp [PyData.depth]
      omega
    omega
theorem like_np (l : List NP) : likeAll (l.map npD) = true := by
  unfold likeAll
  have h := depth_np l
  simp only [Bool.and_eq_true, List.all_eq_true, decide_eq_true_eq]
  refine ⟨⟨fun x hx y hy => ?_, fun x hx => ?_⟩, by omega⟩
  · obtain ⟨a, _, rfl⟩ := List.mem_map.mp hx
    obtain ⟨b, _, rfl⟩ := List.mem_map.mp hy
    exact alike_np a b
  · obtain ⟨a, _, rfl⟩ := List.mem_map.mp hx
    rfl
theorem minD_np (p : NP) : ∀ l : List NP, ∃ m, PySem.W.minD (npD p) (l.map npD) = npD m ∧ m ∈ p :: l ∧ ∀ x ∈ p :: l, m.1 ≤ x.1 := by
  intro l
  unfold PySem.W.minD
  induction l generalizing p with
  | nil => exact ⟨p, rfl, List.mem_cons_self, fun x hx => by rw [List.mem_singleton.mp hx]; exact Nat.le_refl _⟩
  | cons q r ih =>
    rw [List.map_cons, List.foldl_cons]
    have hlt : PySem.W.dataLt (npD q) (npD p) = true → q.1 ≤ p.1 := fun h => by
      have e := PySem.W.dataLt_pair (x := iD q.1) (x' := iD p.1) (y := .tuple (q.2.map iD)) (y' := .tuple (p.2.map iD)) rfl (alike_nat q.2 p.2)
      rw [show PySem.W.dataLt (npD q) (npD p) = _ from e, eqv_nat] at h
      by_cases hq : q.1 = p.1
      · omega
      · rw [decide_eq_false hq, if_neg Bool.false_ne_true] at h
        have h : decide ((q.1 : Int) < (p.1 : Int)) = true := by rw [← PySem.W.dataLt_int]; exact h
        have := of_decide_eq_true h
        omega
    have hge : PySem.W.dataLt (npD q) (npD p) = false → p.1 ≤ q.1 := fun h => by
      have e := PySem.W.dataLt_pair (x := iD q.1) (x' := iD p.1) (y := .tuple (q.2.map iD)) (y' := .tuple (p.2.map iD)) rfl (alike_nat q.2 p.2)
      rw [show PySem.W.dataLt (npD q) (npD p) = _ from e, eqv_nat] at h
      by_cases hq : q.1 = p.1
      · omega
      · rw [decide_eq_false hq, if_neg Bool.false_ne_true] at h
        have h : decide ((q.1 : Int) < (p.1 : Int)) = false := by rw [← PySem.W.dataLt_int]; exact h
        have := of_decide_eq_false h
        omega
    cases hd : PySem.W.dataLt (npD q) (npD p) with
    | true =>
      rw [if_pos rfl]
      obtain ⟨m, h1, h2, h3⟩ := ih q
      refine ⟨m, h1, List.mem_cons_of_mem _ h2, fun x hx => ?_⟩
      rcases List.mem_cons.mp hx with rfl | hx
      · have := h3 q List.mem_cons_self
        have := hlt hd
        omega
      · exact h3 x hx
    | false =>
      rw [if_neg Bool.false_ne_true]
      obtain ⟨m, h1, h2, h3⟩ := ih p
      refine ⟨m, h1, ?_, fun x hx => ?_⟩
      · rcases List.mem_cons.mp h2 with rfl | h2
        · exact List.mem_cons_self
        · exact List.mem_cons_of_mem _ (List.mem_cons_of_mem _ h2)
      · rcases List.mem_cons.mp hx with rfl | hx
        · exact h3 _ List.mem_cons_self
        · rcases List.mem_cons.mp hx with rfl | hx
          · have := h3 p List.mem_cons_self
            have := hge hd
            omega
          · exact h3 x (List.mem_cons_of_mem _ hx)
/-- the least pair -/
theorem gMin_np {l : List NP} (h : l ≠ []) : ∃ m, gMin [.list (l.map npD)] = some (.d (npD m)) ∧ m ∈ l ∧ ∀ x ∈ l, m.1 ≤ x.1 := by
  cases l with
  | nil => exact absurd rfl h
  | cons a r =>
    obtain ⟨m, h1, h2, h3⟩ := minD_np a r
    refine ⟨m, ?_, h2, h3⟩
    have hl := like_np (a :: r)
    rw [List.map_cons] at hl ⊢
    unfold gMin
    simp only [hl, if_true, h1]
end Mi

set_option maxRecDepth 100000
set_option maxHeartbeats 2000000
namespace Mi
open PySem PySem.Spec
/-- a loop whose turns are steps of a state, with what holds of it turn by turn -/
theorem for_foldN {t : Tg} {body : Bm} {α S J : Type} (enc : S → J → DEnv) (itm : α → D) (step : S → α → S) (Q : Nat → S → Prop) : ∀ {l : List α} {j : Nat} {s : S} {x : J}, Q j s →
    (∀ a ∈ l, ∀ i s x, Q i s → i < j + l.length → Q (i + 1) (step s a) ∧ ∃ ρ1 fl x', asgT t (itm a) (enc s x) = some ρ1 ∧ body ρ1 = some (fl, enc (step s a) x') ∧ (fl = .nx ∨ fl = .ct)) →
    Q (j + l.length) (l.foldl step s) ∧ ∃ x', forGo t body (l.map itm) (enc s x) = some (.nx, enc (l.foldl step s) x')
  | [], j, s, x, h0, _ => ⟨h0, x, rfl⟩
  | a :: l, j, s, x, h0, h => by
    obtain ⟨q1, ρ1, fl, x1, h1, h2, h3⟩ := h a List.mem_cons_self j s x h0 (by rw [List.length_cons]; omega)
    obtain ⟨q2, x2, h4⟩ := for_foldN enc itm step Q (l := l) (j := j + 1) (s := step s a) (x := x1) q1 fun b hb i s x hi hlt => h b (List.mem_cons_of_mem _ hb) i s x hi (by rw [List.length_cons]; omega)
    refine ⟨by rw [List.length_cons, List.foldl_cons, show j + (l.length + 1) = j + 1 + l.length from by omega]; exact q2, x2, ?_⟩
    rcases h3 with rfl | rfl <;> simp only [List.map_cons, forGo, h1, h2, h4, List.foldl_cons]
theorem foldl_app {α β : Type} (c : α → Bool) (g : α → β) : ∀ (l : List α) (s : List β), l.foldl (fun s a => if c a = true then s ++ [g a] else s) s = s ++ (l.filter c).map g
  | [], s => by simp
  | a :: l, s => by
    rw [List.foldl_cons, foldl_app c g l]
    by_cases h : c a = true
    · rw [if_pos h, List.filter_cons, if_pos h, List.map_cons, List.append_assoc]
      rfl
    · rw [if_neg h, List.filter_cons, if_neg h]
/-- a slot that holds a list, its own or not -/
def Holds (xs : List D) (s : Slot) : Prop := s = .own xs ∨ s = .val (.list xs)
theorem xFor_eq {fi : Im} {t : Tg} {body : Bm} {ρ ρ1 : DEnv} {ds : List D} {r : Fl × DEnv} (h : fi ρ = some (ds, ρ1)) (h2 : forGo t body ds ρ1 = some r) : xFor fi t body ρ = some r := by unfold xFor; simp only [h, h2]
theorem gShr_nat (k i : Nat) : gShr (iD k) (iD i) = some (.d (.int ((k : Int) / 2 ^ i))) := by
  unfold gShr iD
  simp only [Int.natCast_nonneg, if_true, Int.toNat_natCast]
theorem gAnd_ii (i j : Int) : gAnd (.int i) (.int j) = some (.d (.int (Builtin.bitAnd i j))) := rfl
theorem gShl_1 (m : Nat) (h : m ≤ 1000000) : gShl (.int 1) (iD m) = some (.d (iD (2 ^ m))) := by
  unfold gShl iD
  have h1 : (0 : Int) ≤ m ∧ (m : Int) ≤ 1000000 ∧ (1 : Int).natAbs < 2 ^ 64 := by refine ⟨by omega, by omega, by decide⟩
  simp only [h1, and_self, if_true, Int.toNat_natCast]
  congr 3
  rw [Int.one_mul]
  norm_cast
/-- the i-th binary place of k -/
def bit (k i : Nat) : Bool := decide (Builtin.bitAnd ((k : Int) / 2 ^ i) 1 = 1)
def sel (m k : Nat) : List Nat := (List.range m).filter (bit k)
end Mi

set_option maxRecDepth 100000
set_option maxHeartbeats 2000000
namespace Mi
open PySem PySem.Spec
/-! ### blocks over a state that is known by its slots -/
theorem get_ne {ρ : DEnv} {i j : Nat} {s t : Slot} (h : ρ[i]? = some s) (hne : j ≠ i) : (ρ.set j t)[i]? = some s := by rw [List.getElem?_set_ne hne]; exact h
theorem get_eq {ρ : DEnv} {i : Nat} {t : Slot} (h : i < ρ.length) : (ρ.set i t)[i]? = some t := List.getElem?_set_self h
section
variable {α : Type} (enc : α → D)
theorem sLc_slot {fi : Im} {ft : Tm} {fe : Sm} {b : Nat} {ρ ρ1 : DEnv} {l : List α} (P : α → Bool) (G : α → D) (hb : b < ρ1.length) (hno : isOwn ρ1[b]? = false) (hi : fi ρ = some (l.map enc, ρ1))
    (h : ∀ a ∈ l, ∀ τ : DEnv, τ.length = ρ1.length → τ[b]? = some (.val (enc a)) → (∀ j s, j ≠ b → ρ1[j]? = some s → τ[j]? = some s) → ft τ = some (P a, τ) ∧ (P a = true → ∃ rv, fe τ = some (rv, τ) ∧ rv.frz = G a))
    (hl : l.length ≤ 1000000) : sLc fi (.nm b) ft fe [b] ρ = some (.fl ((l.filter P).map G), ρ1) := by
  refine sLc_enc enc P G hi (by simp [noOwn, hno]) (fun a ha => ?_) hl
  have e1 : (ρ1.set b .no).length = ρ1.length := List.length_set ..
  have hz : wipeD ((ρ1.set b .no).set b (.val (enc a))) [b] = wipeD ρ1 [b] := by
    show ((ρ1.set b .no).set b (.val (enc a))).set b .no = ρ1.set b .no
    rw [List.set_set, List.set_set]
  obtain ⟨h1, h2⟩ := h a ha ((ρ1.set b .no).set b (.val (enc a))) (by rw [List.length_set, List.length_set]) (List.getElem?_set_self (by rw [e1]; exact hb)) fun j s hj e => by
    rw [List.getElem?_set_ne (Ne.symm hj), List.getElem?_set_ne (Ne.symm hj)]
    exact e
  refine ⟨(ρ1.set b .no).set b (.val (enc a)), (ρ1.set b .no).set b (.val (enc a)), ?_, h1, fun _ => hz, fun hp => ?_⟩
  · show asgT (.nm b) (enc a) (ρ1.set b .no) = _
    simp only [asgT, e1, hb, if_true]
  · obtain ⟨rv, h3, h4⟩ := h2 hp
    exact ⟨rv, _, h3, h4, hz⟩
theorem sLc_slotM {fi : Im} {fe : Sm} {b : Nat} {ρ ρ1 : DEnv} {l : List α} (G : α → D) (hb : b < ρ1.length) (hno : isOwn ρ1[b]? = false) (hi : fi ρ = some (l.map enc, ρ1))
    (h : ∀ a ∈ l, ∀ τ : DEnv, τ.length = ρ1.length → τ[b]? = some (.val (enc a)) → (∀ j s, j ≠ b → ρ1[j]? = some s → τ[j]? = some s) → ∃ rv, fe τ = some (rv, τ) ∧ rv.frz = G a)
    (hl : l.length ≤ 1000000) : sLc fi (.nm b) tYes2 fe [b] ρ = some (.fl (l.map G), ρ1) := by
  have e := sLc_slot enc (ft := tYes2) (fun _ => true) G hb hno hi (fun a ha τ h1 h2 h3 => ⟨rfl, fun _ => h a ha τ h1 h2 h3⟩) hl
  rw [List.filter_eq_self.mpr fun _ _ => rfl] at e
  exact e
end
/-- a block with one plain variable that draws -/
theorem sLc_slotI {fi : Im} {ft : Tm} {fe : Sm} {b : Nat} {ρ ρ1 : DEnv} {ds : List D} (I : DEnv → Prop) (g : D → D) (hb : b < ρ1.length) (hno : isOwn ρ1[b]? = false) (hi : fi ρ = some (ds, ρ1)) (hI : I (ρ1.set b .no)) (hIl : ∀ τ, I τ → τ.length = ρ1.length)
    (h : ∀ d ∈ ds, ∀ τ : DEnv, I τ → ∃ t ρ2, ft (τ.set b (.val d)) = some (t, ρ2) ∧ (t = false → I (ρ2.set b .no)) ∧ (t = true → ∃ rv ρ3, fe ρ2 = some (rv, ρ3) ∧ rv.frz = g d ∧ I (ρ3.set b .no)))
    (hl : ds.length ≤ 1000000) : ∃ (zs : List D) (ρ' : DEnv), sLc fi (.nm b) ft fe [b] ρ = some (.fl (zs.map g), restD ρ1 ρ' [b]) ∧ zs.Sublist ds ∧ I ρ' := by
  obtain ⟨zs, ρ', h1, h2, h3⟩ := lc_invF (t := .nm b) (ft := ft) (fe := fe) (vs := [b]) I g (ds := ds) (ρ := wipeD ρ1 [b]) hI (fun d hd τ hτ => by
    obtain ⟨t, ρ2, a1, a2, a3⟩ := h d hd τ hτ
    refine ⟨τ.set b (.val d), t, ρ2, ?_, a1, a2, a3⟩
    simp only [asgT, hIl τ hτ, hb, if_true])
  refine ⟨zs, ρ', ?_, h2, h3⟩
  have hz : (zs.map g).length ≤ sizeLine := by
    rw [List.length_map]
    exact fits (Nat.le_trans h2.length_le hl)
  have hno2 : noOwn [b] ρ1 = true := by simp [noOwn, hno]
  unfold sLc
  simp only [hi, hno2, if_true, h1, hz]
end Mi

set_option maxRecDepth 100000
set_option maxHeartbeats 4000000
namespace Cp
open PySem PySem.Spec PyProof.Rows L2 Gx RZ Mi
def topS (i : Nat) : Stmt := PySem.Challenge.pw_coastlit_k36_whole_islands.main.body.getD i (.Pass ⟨0, 0, 0, 0⟩)

section
variable {P : Program} {w : World} {K : PySem.W.Frag} {mg : Str → Option Value} {base : Heap} {tabs : List (Addr × Nat)}
/-! is_number -/
abbrev s_is_number : Stmt := topS 1
theorem sc_is_number : FnScope ["value", "least", "most"] ["value", "least", "most"] (defScope s_is_number) := ⟨rfl, rfl, rfl, by decide +kernel, rfl, by decide +kernel, by decide +kernel⟩
def b_is_number : Bm :=
  (xRet (sAnd (sUn (gIsi .int) (lVar 0)) (sAnd (sNot (sUn (gIsi .bool) (lVar 0))) (sChn gLe gLe (lVar 1) (lVar 0) (lVar 2)))))
def f_is_number : FS := defF false 3 b_is_number
theorem ok_is_number {a : Addr} {oc kV doc pm ct : Value} {od an : Option Addr} {osl : Array (Option Value)} {cdv : Value}
    (lk : K.lookup a = some ⟨oc, od, .func (PySem.W.fnOf "is_number" "is_number" (defArgs s_is_number) (defBody s_is_number) (defScope s_is_number) .none kV doc pm an cdv ct), osl⟩) (hcd : PySem.W.codeIn K cdv "is_number" = true) (z_isinstance : mg "isinstance" = none) (z_int : mg "int" = none) (z_bool : mg "bool" = none) :
    FnOk P w K mg base CX0 1 a (PySem.W.fnOf "is_number" "is_number" (defArgs s_is_number) (defBody s_is_number) (defScope s_is_number) .none kV doc pm an cdv ct) ["value", "least", "most"] (spFn K tabs ["value", "least", "most"].length (defF false ["value", "least", "most"].length b_is_number)) :=
  fn_ok (P := P) (w := w) (K := K) (mg := mg) (base := base) (x := "is_number") (qual := "is_number") (st := s_is_number) (f := a) (N := ["value", "least", "most"]) (ps := ["value", "least", "most"]) (k := 0) false (fb := b_is_number) (tabs := tabs) (c := 0) (n := 0) lk hcd sc_is_number (.inl rfl) fun A outer s H E ioa hr =>
  (mss_one (ms_ret (m_and rfl (m_isi (T := .int) (u := .none) rfl (m_lvar rfl (.inl rfl) rfl rfl) (by rfl) z_isinstance PyProof.Rows.boot_isinstance (by rfl) z_int boot_int (by decide) rfl rfl) (m_and rfl (m_not rfl (m_isi (T := .bool) (u := .none) rfl (m_lvar rfl (.inl rfl) rfl rfl) (by rfl) z_isinstance PyProof.Rows.boot_isinstance (by rfl) z_bool boot_bool (by decide) rfl rfl)) (pe_one (m_chn (o_le hr.units) (o_le hr.units) (m_lvar rfl (.inl rfl) rfl rfl) (m_lvar rfl (.inl rfl) rfl rfl) (m_lvar rfl (.inl rfl) rfl rfl) rfl))))))
/-! is_arc -/
abbrev s_is_arc : Stmt := topS 6
theorem sc_is_arc : FnScope ["around", "value"] ["around", "value"] (defScope s_is_arc) := ⟨rfl, rfl, rfl, by decide +kernel, rfl, by decide +kernel, by decide +kernel⟩
def b_is_arc : Bm :=
  (xSeq (xIf (tOr2 (tNot2 (tTru (lOf (sUn (gIsi .tuple) (lVar 1))))) (tOfB (sBin gNe (lOf (sBlt gLen (aCons (lVar 1) aNil))) (lOf (sC (.int 2)))))) (xRet (sC (.bool false))) xPass)
    (xRet (sAnd (sCall f_is_number (aCons (lOf (sBin gIdx (lVar 1) (lOf (sC (.int 0))))) (aCons (lOf (sC (.int 0))) (aCons (lOf (sBin gSub (lVar 0) (lOf (sC (.int 1))))) aNil)))) (sCall f_is_number (aCons (lOf (sBin gIdx (lVar 1) (lOf (sC (.int 1))))) (aCons (lOf (sC (.int 1))) (aCons (lVar 0) aNil)))))))
def f_is_arc : FS := defF false 2 b_is_arc
theorem ok_is_arc {a : Addr} {oc kV doc pm ct : Value} {od an : Option Addr} {osl : Array (Option Value)} {a_is_number : Addr} {d_is_number : FuncData} {cdv : Value}
    (lk : K.lookup a = some ⟨oc, od, .func (PySem.W.fnOf "is_arc" "is_arc" (defArgs s_is_arc) (defBody s_is_arc) (defScope s_is_arc) .none kV doc pm an cdv ct), osl⟩) (hcd : PySem.W.codeIn K cdv "is_arc" = true) (z_isinstance : mg "isinstance" = none) (z_tuple : mg "tuple" = none) (z_len : mg "len" = none) (g_is_number : mg "is_number" = some (.ref a_is_number)) (k_is_number : PySem.W.keepIn K (.ref a_is_number) = true) (bi_is_number : Binds K d_is_number ["value", "least", "most"] []) (G_is_number : FnOk P w K mg base CX0 1 a_is_number d_is_number ["value", "least", "most"] (spFn K tabs 3 f_is_number)) :
    FnOk P w K mg base CX0 2 a (PySem.W.fnOf "is_arc" "is_arc" (defArgs s_is_arc) (defBody s_is_arc) (defScope s_is_arc) .none kV doc pm an cdv ct) ["around", "value"] (spFn K tabs ["around", "value"].length (defF false ["around", "value"].length b_is_arc)) :=
  fn_ok (P := P) (w := w) (K := K) (mg := mg) (base := base) (x := "is_arc") (qual := "is_arc") (st := s_is_arc) (f := a) (N := ["around", "value"]) (ps := ["around", "value"]) (k := 1) false (fb := b_is_arc) (tabs := tabs) (c := 0) (n := 0) lk hcd sc_is_arc (.inl rfl) fun A outer s H E ioa hr =>
  (mss_cons (ms_if (mw_or (mt_not (mt_tru (fun _ => rfl) (pe_lOf (m_isi (T := .tuple) (u := .none) rfl (m_lvar rfl (.inl rfl) rfl rfl) (by rfl) z_isinstance PyProof.Rows.boot_isinstance (by rfl) z_tuple boot_tuple (by decide) rfl rfl)) rfl)) (mw_or1 (mt_cmp (o_ne hr.units) rfl (pe_lOf (m_blt rfl c_len (by rfl) z_len PySem.boot_len (ma_cons (m_lvar rfl (.inl rfl) rfl rfl) ma_nil rfl) (by decide) rfl rfl rfl)) (pe_lOf m_int)))).pt (mss_one (ms_ret m_bl)) mss_nil)
    (mss_one (ms_ret (m_and rfl (m_call rfl G_is_number (Room.mono hr (by decide)) (by rfl) g_is_number k_is_number bi_is_number (ma_cons (pe_lOf (m_idx rfl (m_lvar rfl (.inl rfl) rfl rfl) (pe_lOf m_int) (fun _ _ => rfl))) (ma_cons (pe_lOf m_int) (ma_cons (pe_lOf (m_bin o_sub (m_lvar rfl (.inl rfl) rfl rfl) (pe_lOf m_int))) ma_nil rfl) rfl) rfl) rfl rfl rfl rfl (aLen_cons (aLen_cons (aLen_cons aLen_nil)))) (pe_one (m_call rfl G_is_number (Room.mono hr (by decide)) (by rfl) g_is_number k_is_number bi_is_number (ma_cons (pe_lOf (m_idx rfl (m_lvar rfl (.inl rfl) rfl rfl) (pe_lOf m_int) (fun _ _ => rfl))) (ma_cons (pe_lOf m_int) (ma_cons (m_lvar rfl (.inl rfl) rfl rfl) ma_nil rfl) rfl) rfl) rfl rfl rfl rfl (aLen_cons (aLen_cons (aLen_cons aLen_nil)))))))))
/-! is_island -/
abbrev s_is_island : Stmt := topS 7
theorem sc_is_island : FnScope ["value", "one"] ["value"] (defScope s_is_island) := ⟨rfl, rfl, rfl, by decide +kernel, rfl, by decide +kernel, by decide +kernel⟩
def b_is_island : Bm :=
  (xSeq (xIf (tOr2 (tNot2 (tTru (lOf (sUn (gIsi .tuple) (lVar 0))))) (tOr2 (tOfB (sBin gNe (lOf (sBlt gLen (aCons (lVar 0) aNil))) (lOf (sC (.int 2))))) (tNot2 (tTru (lOf (sCall f_is_number (aCons (lOf (sBin gIdx (lVar 0) (lOf (sC (.int 0))))) (aCons (lOf (sC (.int 1))) (aCons (lOf (sC (.int 200))) aNil))))))))) (xRet (sC (.bool false))) xPass)
    (xSeq (xIf (tOr2 (tNot2 (tTru (lOf (sUn (gIsi .tuple) (lOf (sBin gIdx (lVar 0) (lOf (sC (.int 1))))))))) (tNot2 (tOfB (sChn gLe gLe (lOf (sC (.int 1))) (lOf (sBlt gLen (aCons (lOf (sBin gIdx (lVar 0) (lOf (sC (.int 1))))) aNil))) (lOf (sC (.int 10))))))) (xRet (sC (.bool false))) xPass)
    (xRet (sGen false (iM (sBin gIdx (lVar 0) (lOf (sC (.int 1))))) (.nm 1) tYes2 (sCall f_is_arc (aCons (lOf (sBin gIdx (lVar 0) (lOf (sC (.int 0))))) (aCons (lVar 1) aNil))) [1]))))
def f_is_island : FS := defF false 2 b_is_island
theorem ok_is_island {a : Addr} {oc kV doc pm ct : Value} {od an : Option Addr} {osl : Array (Option Value)} {a_is_number : Addr} {d_is_number : FuncData} {a_is_arc : Addr} {d_is_arc : FuncData} {c Pt : Addr}
    (lk : K.lookup a = some ⟨oc, od, .func (PySem.W.fnOf "is_island" "is_island" (defArgs s_is_island) (defBody s_is_island) (defScope s_is_island) .none kV doc pm an (.ref c) ct), osl⟩) (hcd : PySem.W.codeIn K (.ref c) "is_island" = true) (z_isinstance : mg "isinstance" = none) (z_tuple : mg "tuple" = none) (z_len : mg "len" = none) (v_LEAST_ROUND : ∃ t, mg "LEAST_ROUND" = some (.int 1 t)) (v_MOST_ROUND : ∃ t, mg "MOST_ROUND" = some (.int 200 t)) (v_MOST_ARCS : ∃ t, mg "MOST_ARCS" = some (.int 10 t)) (hbm : BMb mg base) (z_all : mg "all" = none) (g_is_number : mg "is_number" = some (.ref a_is_number)) (k_is_number : PySem.W.keepIn K (.ref a_is_number) = true) (bi_is_number : Binds K d_is_number ["value", "least", "most"] []) (G_is_number : FnOk P w K mg base CX0 1 a_is_number d_is_number ["value", "least", "most"] (spFn K tabs 3 f_is_number)) (g_is_arc : mg "is_arc" = some (.ref a_is_arc)) (k_is_arc : PySem.W.keepIn K (.ref a_is_arc) = true) (bi_is_arc : Binds K d_is_arc ["around", "value"] []) (G_is_arc : FnOk P w K mg base CX0 2 a_is_arc d_is_arc ["around", "value"] (spFn K tabs 2 f_is_arc)) (hT : (Pt, 1) ∈ tabs) (hC : PySem.W.CodeHd base c Pt) :
    FnOk P w K mg base CX0 4 a (PySem.W.fnOf "is_island" "is_island" (defArgs s_is_island) (defBody s_is_island) (defScope s_is_island) .none kV doc pm an (.ref c) ct) ["value"] (spFn K tabs ["value"].length (defF false ["value", "one"].length b_is_island)) :=
  fn_ok (P := P) (w := w) (K := K) (mg := mg) (base := base) (x := "is_island") (qual := "is_island") (st := s_is_island) (f := a) (N := ["value", "one"]) (ps := ["value"]) (k := 3) false (fb := b_is_island) (tabs := tabs) (c := c) (n := 1) lk hcd sc_is_island (.inr ⟨Pt, hT, hC⟩) fun A outer s H E ioa hr =>
  (mss_cons (ms_if (mw_or (mt_not (mt_tru (fun _ => rfl) (pe_lOf (m_isi (T := .tuple) (u := .none) rfl (m_lvar rfl (.inr (.inl rfl)) rfl rfl) (by rfl) z_isinstance PyProof.Rows.boot_isinstance (by rfl) z_tuple boot_tuple (by decide) rfl rfl)) rfl)) (mw_or (mt_cmp (o_ne hr.units) rfl (pe_lOf (m_blt rfl c_len (by rfl) z_len PySem.boot_len (ma_cons (m_lvar rfl (.inr (.inl rfl)) rfl rfl) ma_nil rfl) (by decide) rfl rfl rfl)) (pe_lOf m_int)) (mw_or1 (mt_not (mt_tru (fun _ => rfl) (pe_lOf (m_call rfl G_is_number (Room.mono hr (by decide)) (by rfl) g_is_number k_is_number bi_is_number (ma_cons (pe_lOf (m_idx rfl (m_lvar rfl (.inr (.inl rfl)) rfl rfl) (pe_lOf m_int) (fun _ _ => rfl))) (ma_cons (pe_lOf (m_globI (i := 1) (by rfl) v_LEAST_ROUND rfl)) (ma_cons (pe_lOf (m_globI (i := 200) (by rfl) v_MOST_ROUND rfl)) ma_nil rfl) rfl) rfl) rfl rfl rfl rfl (aLen_cons (aLen_cons (aLen_cons aLen_nil))))) rfl))))).pt (mss_one (ms_ret m_bl)) mss_nil)
    (mss_cons (ms_if (mw_or (mt_not (mt_tru (fun _ => rfl) (pe_lOf (m_isi (T := .tuple) (u := .none) rfl (pe_lOf (m_idx rfl (m_lvar rfl (.inr (.inl rfl)) rfl rfl) (pe_lOf m_int) (fun _ _ => rfl))) (by rfl) z_isinstance PyProof.Rows.boot_isinstance (by rfl) z_tuple boot_tuple (by decide) rfl rfl)) rfl)) (mw_or1 (mt_not (mt_chn (o_le hr.units) (o_le hr.units) (pe_lOf m_int) (pe_lOf (m_blt rfl c_len (by rfl) z_len PySem.boot_len (ma_cons (pe_lOf (m_idx rfl (m_lvar rfl (.inr (.inl rfl)) rfl rfl) (pe_lOf m_int) (fun _ _ => rfl))) ma_nil rfl) (by decide) rfl rfl rfl)) (pe_lOf (m_globI (i := 10) (by rfl) v_MOST_ARCS rfl)) rfl)))).pt (mss_one (ms_ret m_bl)) mss_nil)
    (mss_one (ms_ret (m_all (own := [("one", 1)]) (k := 2) (n := 0) rfl rfl rfl rfl (Room.mono hr (by decide)) rfl sc_is_island.nd (by exact hbm) rfl ⟨rfl, rfl⟩ (blkOk_by (by rfl)) (by rfl) z_all PyProof.Rows.boot_all (mi_m rfl (m_idx rfl (m_lvar rfl (.inr (.inl rfl)) rfl rfl) (pe_lOf m_int) (fun _ _ => rfl))) (fun _ _ => (mg_name sc_is_island.nd rfl (.inl rfl) (.inr rfl))) (fun _ _ hr1 => mts_nil) (fun _ _ hr1 => (m_call rfl G_is_arc (Room.mono hr1 (by decide)) (by rfl) g_is_arc k_is_arc bi_is_arc (ma_cons (pe_lOf (m_idx rfl (m_lvar rfl (.inr (.inr rfl)) rfl rfl) (pe_lOf m_int) (fun _ _ => rfl))) (ma_cons (m_lvar rfl (.inl rfl) rfl rfl) ma_nil rfl) rfl) rfl rfl rfl rfl (aLen_cons (aLen_cons aLen_nil)))) (fun _ => rfl) rfl)))))
/-! lights_at -/
abbrev s_lights_at : Stmt := topS 8
theorem sc_lights_at : FnScope ["island", "place", "around", "arcs", "number", "begin", "many"] ["island", "place"] (defScope s_lights_at) := ⟨rfl, rfl, rfl, by decide +kernel, rfl, by decide +kernel, by decide +kernel⟩
def b_lights_at : Bm :=
  (xSeq (xAsg (.tp (.cons (.nm 2) (.cons (.nm 3) .nil))) (sVar 0))
    (xRet (sLc (iEnA (aCons (lVar 3) aNil)) (.tp (.cons (.nm 4) (.cons (.tp (.cons (.nm 5) (.cons (.nm 6) .nil))) .nil))) (tOfB (sBin gLt (lOf (sBin gMod (lOf (sBin gSub (lVar 1) (lVar 5))) (lVar 2))) (lVar 6))) (sVar 4) [4, 5, 6])))
def f_lights_at : FS := defF false 7 b_lights_at
theorem ok_lights_at {a : Addr} {oc kV doc pm ct : Value} {od an : Option Addr} {osl : Array (Option Value)} {cdv : Value}
    (lk : K.lookup a = some ⟨oc, od, .func (PySem.W.fnOf "lights_at" "lights_at" (defArgs s_lights_at) (defBody s_lights_at) (defScope s_lights_at) .none kV doc pm an cdv ct), osl⟩) (hcd : PySem.W.codeIn K cdv "lights_at" = true) (z_enumerate : mg "enumerate" = none) :
    FnOk P w K mg base CX0 1 a (PySem.W.fnOf "lights_at" "lights_at" (defArgs s_lights_at) (defBody s_lights_at) (defScope s_lights_at) .none kV doc pm an cdv ct) ["island", "place"] (spFn K tabs ["island", "place"].length (defF false ["island", "place", "around", "arcs", "number", "begin", "many"].length b_lights_at)) :=
  fn_ok (P := P) (w := w) (K := K) (mg := mg) (base := base) (x := "lights_at") (qual := "lights_at") (st := s_lights_at) (f := a) (N := ["island", "place", "around", "arcs", "number", "begin", "many"]) (ps := ["island", "place"]) (k := 0) false (fb := b_lights_at) (tabs := tabs) (c := 0) (n := 0) lk hcd sc_lights_at (.inl rfl) fun A outer s H E ioa hr =>
  (mss_cons (ms_asg (m_var rfl (.inl rfl) rfl rfl) (mg_tup rfl rfl (mgs_cons (mg_name sc_lights_at.nd rfl (.inr rfl) (.inl rfl)) (mgs_cons (mg_name sc_lights_at.nd rfl (.inl rfl) (.inl rfl)) mgs_nil rfl) rfl) rfl rfl) rfl (fun _ z => nomatch z) rfl rfl rfl)
    (mss_one (ms_ret (m_lc (own := [("number", 4), ("begin", 5), ("many", 6)]) rfl rfl sc_lights_at.nd (mi_enumA rfl (by rfl) z_enumerate (ma_cons (m_lvar rfl (.inl rfl) rfl rfl) ma_nil rfl) rfl) (blkOk_by (by rfl)) (fun _ _ _ _ _ => (mg_tup rfl rfl (mgs_cons (mg_name sc_lights_at.nd rfl (.inl rfl) (.inr rfl)) (mgs_cons (mg_tup rfl rfl (mgs_cons (mg_name sc_lights_at.nd rfl (.inl rfl) (.inr rfl)) (mgs_cons (mg_name sc_lights_at.nd rfl (.inl rfl) (.inr rfl)) mgs_nil rfl) rfl) rfl rfl) mgs_nil rfl) rfl) rfl rfl)) (fun _ _ _ _ _ => (mts_one (mt_cmp (o_lt hr.units) rfl (pe_lOf (m_bin o_mod (pe_lOf (m_bin o_sub (m_lvar rfl (.inr (.inl rfl)) rfl rfl) (m_lvar rfl (.inl rfl) rfl rfl))) (m_lvar rfl (.inr (.inl rfl)) rfl rfl))) (m_lvar rfl (.inl rfl) rfl rfl)))) (fun _ _ _ _ _ => (m_var rfl (.inl rfl) rfl rfl)) (fun _ => rfl)))))
/-! dark_places -/
abbrev s_dark_places : Stmt := topS 9
theorem sc_dark_places : FnScope ["island", "place"] ["island"] (defScope s_dark_places) := ⟨rfl, rfl, rfl, by decide +kernel, rfl, by decide +kernel, by decide +kernel⟩
def b_dark_places : Bm :=
  (xRet (sBlt gTuple (aCons (lOf (sLc (iR1 (aCons (lOf (sBin gIdx (lVar 0) (lOf (sC (.int 0))))) aNil)) (.nm 1) (tOfB (sBin gEq (lOf (sBlt gLen (aCons (lOf (sCall f_lights_at (aCons (lVar 0) (aCons (lVar 1) aNil)))) aNil))) (lOf (sC (.int 0))))) (sVar 1) [1])) aNil)))
def f_dark_places : FS := defF false 2 b_dark_places
theorem ok_dark_places {a : Addr} {oc kV doc pm ct : Value} {od an : Option Addr} {osl : Array (Option Value)} {a_lights_at : Addr} {d_lights_at : FuncData} {cdv : Value}
    (lk : K.lookup a = some ⟨oc, od, .func (PySem.W.fnOf "dark_places" "dark_places" (defArgs s_dark_places) (defBody s_dark_places) (defScope s_dark_places) .none kV doc pm an cdv ct), osl⟩) (hcd : PySem.W.codeIn K cdv "dark_places" = true) (z_range : mg "range" = none) (z_len : mg "len" = none) (z_tuple : mg "tuple" = none) (g_lights_at : mg "lights_at" = some (.ref a_lights_at)) (k_lights_at : PySem.W.keepIn K (.ref a_lights_at) = true) (bi_lights_at : Binds K d_lights_at ["island", "place"] []) (G_lights_at : FnOk P w K mg base CX0 1 a_lights_at d_lights_at ["island", "place"] (spFn K tabs 2 f_lights_at)) :
    FnOk P w K mg base CX0 2 a (PySem.W.fnOf "dark_places" "dark_places" (defArgs s_dark_places) (defBody s_dark_places) (defScope s_dark_places) .none kV doc pm an cdv ct) ["island"] (spFn K tabs ["island"].length (defF false ["island", "place"].length b_dark_places)) :=
  fn_ok (P := P) (w := w) (K := K) (mg := mg) (base := base) (x := "dark_places") (qual := "dark_places") (st := s_dark_places) (f := a) (N := ["island", "place"]) (ps := ["island"]) (k := 1) false (fb := b_dark_places) (tabs := tabs) (c := 0) (n := 0) lk hcd sc_dark_places (.inl rfl) fun A outer s H E ioa hr =>
  (mss_one (ms_ret (m_bltT rfl c_tuple (by rfl) z_tuple boot_tuple (ma_cons (pe_lOf (m_lc (own := [("place", 1)]) rfl rfl sc_dark_places.nd (mi_rng1 (by rfl) z_range (ma_cons (pe_lOf (m_idx rfl (m_lvar rfl (.inr (.inl rfl)) rfl rfl) (pe_lOf m_int) (fun _ _ => rfl))) ma_nil rfl) rfl) (blkOk_by (by rfl)) (fun _ _ _ _ _ => (mg_name sc_dark_places.nd rfl (.inl rfl) (.inr rfl))) (fun _ _ _ _ _ => (mts_one (mt_cmp (o_eq hr.units) rfl (pe_lOf (m_blt rfl c_len (by rfl) z_len PySem.boot_len (ma_cons (pe_lOf (m_call rfl G_lights_at (Room.mono hr (by decide)) (by rfl) g_lights_at k_lights_at bi_lights_at (ma_cons (m_lvar rfl (.inr (.inl rfl)) rfl rfl) (ma_cons (m_lvar rfl (.inl rfl) rfl rfl) ma_nil rfl) rfl) rfl rfl rfl rfl (aLen_cons (aLen_cons aLen_nil)))) ma_nil rfl) (by decide) rfl rfl rfl)) (pe_lOf m_int)))) (fun _ _ _ _ _ => (m_var rfl (.inl rfl) rfl rfl)) (fun _ => rfl))) ma_nil rfl) (by decide) rfl rfl rfl)))
/-! fewest_around -/
abbrev s_fewest_around : Stmt := topS 10
theorem sc_fewest_around : FnScope ["island", "rows", "found", "many", "mask", "some", "place", "row", "number"] ["island"] (defScope s_fewest_around) := ⟨rfl, rfl, rfl, by decide +kernel, rfl, by decide +kernel, by decide +kernel⟩
def b_fewest_around : Bm :=
  (xSeq (xSet 1 (sLc (iR1 (aCons (lOf (sBin gIdx (lVar 0) (lOf (sC (.int 0))))) aNil)) (.nm 6) tYes2 (sCall f_lights_at (aCons (lVar 0) (aCons (lVar 6) aNil))) [6]))
    (xSeq (xSet 1 (sLc (iM (sVar 1)) (.nm 7) (tOfB (sBin gGt (lOf (sBlt gLen (aCons (lVar 7) aNil))) (lOf (sC (.int 0))))) (sVar 7) [7]))
    (xSeq (xSet 2 (sLst aNil))
    (xSeq (xSet 3 (sBlt gLen (aCons (lOf (sBin gIdx (lVar 0) (lOf (sC (.int 1))))) aNil)))
    (xSeq (xFor (iR1 (aCons (lOf (sBin gShl (lOf (sC (.int 1))) (lVar 3))) aNil)) (.nm 4) (xSeq (xSet 5 (sLc (iR1 (aCons (lVar 3) aNil)) (.nm 8) (tOfB (sBin gEq (lOf (sBin gAnd (lOf (sBin gShr (lVar 4) (lVar 8))) (lOf (sC (.int 1))))) (lOf (sC (.int 1))))) (sVar 8) [8]))
    (xIf (tTru (lOf (sGen false (iM (sVar 1)) (.nm 7) tYes2 (sGen true (iM (sVar 7)) (.nm 8) tYes2 (sBin gIn (lVar 8) (lVar 5)) [8]) [7]))) (xApp 2 (aCons (lOf (sTup (aCons (lOf (sBlt gLen (aCons (lVar 5) aNil))) (aCons (lOf (sBlt gTuple (aCons (lVar 5) aNil))) aNil)))) aNil)) xPass)))
    (xRet (sBin gIdx (lOf (sBlt gMin (aCons (lVar 2) aNil))) (lOf (sC (.int 1))))))))))
def f_fewest_around : FS := defF false 9 b_fewest_around
theorem ok_fewest_around {a : Addr} {oc kV doc pm ct : Value} {od an : Option Addr} {osl : Array (Option Value)} {a_lights_at : Addr} {d_lights_at : FuncData} {c Pt : Addr}
    (lk : K.lookup a = some ⟨oc, od, .func (PySem.W.fnOf "fewest_around" "fewest_around" (defArgs s_fewest_around) (defBody s_fewest_around) (defScope s_fewest_around) .none kV doc pm an (.ref c) ct), osl⟩) (hcd : PySem.W.codeIn K (.ref c) "fewest_around" = true) (z_range : mg "range" = none) (z_len : mg "len" = none) (hbm : BMb mg base) (z_any : mg "any" = none) (z_all : mg "all" = none) (z_tuple : mg "tuple" = none) (z_min : mg "min" = none) (g_lights_at : mg "lights_at" = some (.ref a_lights_at)) (k_lights_at : PySem.W.keepIn K (.ref a_lights_at) = true) (bi_lights_at : Binds K d_lights_at ["island", "place"] []) (G_lights_at : FnOk P w K mg base CX0 1 a_lights_at d_lights_at ["island", "place"] (spFn K tabs 2 f_lights_at)) (hT : (Pt, 2) ∈ tabs) (hC : PySem.W.CodeHd base c Pt) :
    FnOk P w K mg base CX0 3 a (PySem.W.fnOf "fewest_around" "fewest_around" (defArgs s_fewest_around) (defBody s_fewest_around) (defScope s_fewest_around) .none kV doc pm an (.ref c) ct) ["island"] (spFn K tabs ["island"].length (defF false ["island", "rows", "found", "many", "mask", "some", "place", "row", "number"].length b_fewest_around)) :=
  fn_ok (P := P) (w := w) (K := K) (mg := mg) (base := base) (x := "fewest_around") (qual := "fewest_around") (st := s_fewest_around) (f := a) (N := ["island", "rows", "found", "many", "mask", "some", "place", "row", "number"]) (ps := ["island"]) (k := 2) false (fb := b_fewest_around) (tabs := tabs) (c := c) (n := 2) lk hcd sc_fewest_around (.inr ⟨Pt, hT, hC⟩) fun A outer s H E ioa hr =>
  (mss_cons (ms_setLc (own := [("place", 6)]) rfl rfl rfl sc_fewest_around.nd rfl rfl (sw_true rfl rfl rfl rfl) (mi_rng1 (by rfl) z_range (ma_cons (pe_lOf (m_idx rfl (m_lvar rfl (.inr (.inl rfl)) rfl rfl) (pe_lOf m_int) (fun _ _ => rfl))) ma_nil rfl) rfl) (blkOk_by (by rfl)) (fun _ _ _ _ _ => (mg_name sc_fewest_around.nd rfl (.inl rfl) (.inr rfl))) (fun _ _ _ _ _ => mts_nil) (fun _ _ _ _ _ => (m_call rfl G_lights_at (Room.mono hr (by decide)) (by rfl) g_lights_at k_lights_at bi_lights_at (ma_cons (m_lvar rfl (.inr (.inl rfl)) rfl rfl) (ma_cons (m_lvar rfl (.inl rfl) rfl rfl) ma_nil rfl) rfl) rfl rfl rfl rfl (aLen_cons (aLen_cons aLen_nil)))) (fun _ => rfl))
    (mss_cons (ms_setLc (own := [("row", 7)]) rfl rfl rfl sc_fewest_around.nd rfl rfl (sw_true rfl rfl rfl rfl) (mi_m rfl (m_var rfl (.inl rfl) rfl rfl)) (blkOk_by (by rfl)) (fun _ _ _ _ _ => (mg_name sc_fewest_around.nd rfl (.inl rfl) (.inr rfl))) (fun _ _ _ _ _ => (mts_one (mt_cmp (o_gt hr.units) rfl (pe_lOf (m_blt rfl c_len (by rfl) z_len PySem.boot_len (ma_cons (m_lvar rfl (.inl rfl) rfl rfl) ma_nil rfl) (by decide) rfl rfl rfl)) (pe_lOf m_int)))) (fun _ _ _ _ _ => (m_var rfl (.inl rfl) rfl rfl)) (fun _ => rfl))
    (mss_cons (ms_set sc_fewest_around.nd rfl (.inl rfl) (m_lst ma_nil) rfl rfl (.inl rfl))
    (mss_cons (ms_set sc_fewest_around.nd rfl (.inl rfl) (m_blt rfl c_len (by rfl) z_len PySem.boot_len (ma_cons (pe_lOf (m_idx rfl (m_lvar rfl (.inr (.inl rfl)) rfl rfl) (pe_lOf m_int) (fun _ _ => rfl))) ma_nil rfl) (by decide) rfl rfl rfl) rfl rfl (.inl rfl))
    (mss_cons (ms_for PassesOwn.never rfl (mi_rng1 (by rfl) z_range (ma_cons (pe_lOf (m_bin o_shl (pe_lOf m_int) (m_lvar rfl (.inl rfl) rfl rfl))) ma_nil rfl) rfl) (mg_name sc_fewest_around.nd rfl (.inr rfl) (.inl rfl)) (mss_cons (ms_set sc_fewest_around.nd rfl (.inr rfl) (m_lc (own := [("number", 8)]) rfl rfl sc_fewest_around.nd (mi_rng1 (by rfl) z_range (ma_cons (m_lvar rfl (.inl rfl) rfl rfl) ma_nil rfl) rfl) (blkOk_by (by rfl)) (fun _ _ _ _ _ => (mg_name sc_fewest_around.nd rfl (.inl rfl) (.inr rfl))) (fun _ _ _ _ _ => (mts_one (mt_cmp (o_eq hr.units) rfl (pe_lOf (m_bin o_and (pe_lOf (m_bin o_shr (m_lvar rfl (.inr (.inl rfl)) rfl rfl) (m_lvar rfl (.inl rfl) rfl rfl))) (pe_lOf m_int))) (pe_lOf m_int)))) (fun _ _ _ _ _ => (m_var rfl (.inl rfl) rfl rfl)) (fun _ => rfl)) rfl rfl (.inl rfl))
    (mss_one (ms_if (mt_tru (fun _ => rfl) (pe_lOf (m_all (own := [("row", 7)]) (k := 1) (n := 1) rfl rfl rfl rfl (Room.mono hr (by decide)) rfl sc_fewest_around.nd (by exact hbm) rfl ⟨rfl, rfl⟩ (blkOk_by (by rfl)) (by rfl) z_all PyProof.Rows.boot_all (mi_m rfl (m_var rfl (.inl rfl) rfl rfl)) (fun _ _ => (mg_name sc_fewest_around.nd rfl (.inl rfl) (.inr rfl))) (fun _ _ hr1 => mts_nil) (fun _ _ hr1 => (m_any (own := [("number", 8)]) (k := 0) (n := 0) rfl rfl rfl rfl (Room.mono hr1 (by decide)) rfl sc_fewest_around.nd (by exact hbm) rfl ⟨rfl, rfl⟩ (blkOk_by (by rfl)) (by rfl) z_any (mi_m rfl (m_var rfl (.inl rfl) rfl rfl)) (fun _ _ => (mg_name sc_fewest_around.nd rfl (.inl rfl) (.inr rfl))) (fun _ _ hr2 => mts_nil) (fun _ _ hr2 => (m_cmp (o_in hr2.units) rfl (m_lvar rfl (.inl rfl) rfl rfl) (m_lvar rfl (.inr (.inr rfl)) rfl rfl))) (fun _ => rfl) rfl)) (fun _ => rfl) rfl)) rfl) (mss_one (ms_app rfl rfl (.inl rfl) rfl rfl (ma_cons (pe_lOf (m_tup (ma_cons (pe_lOf (m_blt rfl c_len (by rfl) z_len PySem.boot_len (ma_cons (m_lvar rfl (.inr (.inl rfl)) rfl rfl) ma_nil rfl) (by decide) rfl rfl rfl)) (ma_cons (pe_lOf (m_bltT rfl c_tuple (by rfl) z_tuple boot_tuple (ma_cons (m_lvar rfl (.inr (.inl rfl)) rfl rfl) ma_nil rfl) (by decide) rfl rfl rfl)) ma_nil rfl) rfl))) ma_nil rfl) rfl rfl rfl rfl rfl rfl)) mss_nil))) rfl (fun _ => rfl))
    (mss_one (ms_ret (m_idx rfl (pe_lOf (m_blt rfl (c_min rfl hr.units65) (by rfl) z_min PyProof.Rows.boot_min (ma_cons (m_lvar rfl (.inl rfl) rfl rfl) ma_nil rfl) (by decide) rfl rfl rfl)) (pe_lOf m_int) (fun _ _ => rfl)))))))))
/-! are_marks -/
abbrev s_are_marks : Stmt := topS 11
theorem sc_are_marks : FnScope ["island", "value", "rows", "every", "one", "at", "place", "row", "number"] ["island", "value"] (defScope s_are_marks) := ⟨rfl, rfl, rfl, by decide +kernel, rfl, by decide +kernel, by decide +kernel⟩
def b_are_marks : Bm :=
  (xSeq (xIf (tOr2 (tNot2 (tTru (lOf (sUn (gIsi .tuple) (lVar 1))))) (tNot2 (tTru (lOf (sGen false (iM (sVar 1)) (.nm 4) tYes2 (sCall f_is_number (aCons (lVar 4) (aCons (lOf (sC (.int 0))) (aCons (lOf (sBin gSub (lOf (sBin gIdx (lVar 0) (lOf (sC (.int 0))))) (lOf (sC (.int 1))))) aNil)))) [4]))))) (xRet (sC (.bool false))) xPass)
    (xSeq (xIf (tTru (lOf (sGen true (iR2 (aCons (lOf (sC (.int 1))) (aCons (lOf (sBlt gLen (aCons (lVar 1) aNil))) aNil))) (.nm 5) tYes2 (sBin gGe (lOf (sBin gIdx (lVar 1) (lOf (sBin gSub (lVar 5) (lOf (sC (.int 1))))))) (lOf (sBin gIdx (lVar 1) (lVar 5)))) [5]))) (xRet (sC (.bool false))) xPass)
    (xSeq (xSet 2 (sLc (iM (sVar 1)) (.nm 6) tYes2 (sCall f_lights_at (aCons (lVar 0) (aCons (lVar 6) aNil))) [6]))
    (xSeq (xSet 3 (sLc2 (iM (sVar 2)) (.nm 7) tYes2 (iM (sVar 7)) (.nm 8) tYes2 (sVar 8) [7, 8] [8]))
    (xRet (sAnd (sGen false (iM (sVar 2)) (.nm 7) tYes2 (sBin gGt (lOf (sBlt gLen (aCons (lVar 7) aNil))) (lOf (sC (.int 0)))) [7]) (sGen false (iM (sVar 3)) (.nm 8) tYes2 (sBin gEq (lOf (sCnt (sVar 3) (lVar 8))) (lOf (sC (.int 1)))) [8])))))))
def f_are_marks : FS := defF false 9 b_are_marks
theorem ok_are_marks {a : Addr} {oc kV doc pm ct : Value} {od an : Option Addr} {osl : Array (Option Value)} {a_is_number : Addr} {d_is_number : FuncData} {a_lights_at : Addr} {d_lights_at : FuncData} {c Pt : Addr}
    (lk : K.lookup a = some ⟨oc, od, .func (PySem.W.fnOf "are_marks" "are_marks" (defArgs s_are_marks) (defBody s_are_marks) (defScope s_are_marks) .none kV doc pm an (.ref c) ct), osl⟩) (hcd : PySem.W.codeIn K (.ref c) "are_marks" = true) (z_isinstance : mg "isinstance" = none) (z_tuple : mg "tuple" = none) (hbm : BMb mg base) (z_all : mg "all" = none) (z_len : mg "len" = none) (z_range : mg "range" = none) (z_any : mg "any" = none) (g_is_number : mg "is_number" = some (.ref a_is_number)) (k_is_number : PySem.W.keepIn K (.ref a_is_number) = true) (bi_is_number : Binds K d_is_number ["value", "least", "most"] []) (G_is_number : FnOk P w K mg base CX0 1 a_is_number d_is_number ["value", "least", "most"] (spFn K tabs 3 f_is_number)) (g_lights_at : mg "lights_at" = some (.ref a_lights_at)) (k_lights_at : PySem.W.keepIn K (.ref a_lights_at) = true) (bi_lights_at : Binds K d_lights_at ["island", "place"] []) (G_lights_at : FnOk P w K mg base CX0 1 a_lights_at d_lights_at ["island", "place"] (spFn K tabs 2 f_lights_at)) (hT : (Pt, 1) ∈ tabs) (hC : PySem.W.CodeHd base c Pt) :
    FnOk P w K mg base CX0 3 a (PySem.W.fnOf "are_marks" "are_marks" (defArgs s_are_marks) (defBody s_are_marks) (defScope s_are_marks) .none kV doc pm an (.ref c) ct) ["island", "value"] (spFn K tabs ["island", "value"].length (defF false ["island", "value", "rows", "every", "one", "at", "place", "row", "number"].length b_are_marks)) :=
  fn_ok (P := P) (w := w) (K := K) (mg := mg) (base := base) (x := "are_marks") (qual := "are_marks") (st := s_are_marks) (f := a) (N := ["island", "value", "rows", "every", "one", "at", "place", "row", "number"]) (ps := ["island", "value"]) (k := 2) false (fb := b_are_marks) (tabs := tabs) (c := c) (n := 1) lk hcd sc_are_marks (.inr ⟨Pt, hT, hC⟩) fun A outer s H E ioa hr =>
  (mss_cons (ms_if (mw_or (mt_not (mt_tru (fun _ => rfl) (pe_lOf (m_isi (T := .tuple) (u := .none) rfl (m_lvar rfl (.inr (.inl rfl)) rfl rfl) (by rfl) z_isinstance PyProof.Rows.boot_isinstance (by rfl) z_tuple boot_tuple (by decide) rfl rfl)) rfl)) (mw_or1 (mt_not (mt_tru (fun _ => rfl) (pe_lOf (m_all (own := [("one", 4)]) (k := 1) (n := 0) rfl rfl rfl rfl (Room.mono hr (by decide)) rfl sc_are_marks.nd (by exact hbm) rfl ⟨rfl, rfl⟩ (blkOk_by (by rfl)) (by rfl) z_all PyProof.Rows.boot_all (mi_m rfl (m_var rfl (.inr (.inl rfl)) rfl rfl)) (fun _ _ => (mg_name sc_are_marks.nd rfl (.inl rfl) (.inr rfl))) (fun _ _ hr1 => mts_nil) (fun _ _ hr1 => (m_call rfl G_is_number (Room.mono hr1 (by decide)) (by rfl) g_is_number k_is_number bi_is_number (ma_cons (m_lvar rfl (.inl rfl) rfl rfl) (ma_cons (pe_lOf m_int) (ma_cons (pe_lOf (m_bin o_sub (pe_lOf (m_idx rfl (m_lvar rfl (.inr (.inr rfl)) rfl rfl) (pe_lOf m_int) (fun _ _ => rfl))) (pe_lOf m_int))) ma_nil rfl) rfl) rfl) rfl rfl rfl rfl (aLen_cons (aLen_cons (aLen_cons aLen_nil))))) (fun _ => rfl) rfl)) rfl)))).pt (mss_one (ms_ret m_bl)) mss_nil)
    (mss_cons (ms_if (mt_tru (fun _ => rfl) (pe_lOf (m_any (own := [("at", 5)]) (k := 0) (n := 0) rfl rfl rfl rfl (Room.mono hr (by decide)) rfl sc_are_marks.nd (by exact hbm) rfl ⟨rfl, rfl⟩ (blkOk_by (by rfl)) (by rfl) z_any (mi_rng2 (by rfl) z_range (ma_cons (pe_lOf m_int) (ma_cons (pe_lOf (m_blt rfl c_len (by rfl) z_len PySem.boot_len (ma_cons (m_lvar rfl (.inr (.inl rfl)) rfl rfl) ma_nil rfl) (by decide) rfl rfl rfl)) ma_nil rfl) rfl) rfl rfl) (fun _ _ => (mg_name sc_are_marks.nd rfl (.inl rfl) (.inr rfl))) (fun _ _ hr2 => mts_nil) (fun _ _ hr2 => (m_cmp (o_ge hr2.units) rfl (pe_lOf (m_idx rfl (m_lvar rfl (.inr (.inr rfl)) rfl rfl) (pe_lOf (m_bin o_sub (m_lvar rfl (.inl rfl) rfl rfl) (pe_lOf m_int))) (fun _ _ => rfl))) (pe_lOf (m_idx rfl (m_lvar rfl (.inr (.inr rfl)) rfl rfl) (m_lvar rfl (.inl rfl) rfl rfl) (fun _ _ => rfl))))) (fun _ => rfl) rfl)) rfl) (mss_one (ms_ret m_bl)) mss_nil)
    (mss_cons (ms_setLc (own := [("place", 6)]) rfl rfl rfl sc_are_marks.nd rfl rfl (sw_true rfl rfl rfl rfl) (mi_m rfl (m_var rfl (.inr (.inl rfl)) rfl rfl)) (blkOk_by (by rfl)) (fun _ _ _ _ _ => (mg_name sc_are_marks.nd rfl (.inl rfl) (.inr rfl))) (fun _ _ _ _ _ => mts_nil) (fun _ _ _ _ _ => (m_call rfl G_lights_at (Room.mono hr (by decide)) (by rfl) g_lights_at k_lights_at bi_lights_at (ma_cons (m_lvar rfl (.inr (.inl rfl)) rfl rfl) (ma_cons (m_lvar rfl (.inl rfl) rfl rfl) ma_nil rfl) rfl) rfl rfl rfl rfl (aLen_cons (aLen_cons aLen_nil)))) (fun _ => rfl))
    (mss_cons (ms_set sc_are_marks.nd rfl (.inr rfl) (m_lc2 (own := [("row", 7), ("number", 8)]) (vs1 := [8]) rfl rfl rfl rfl sc_are_marks.nd (mi_m rfl (m_var rfl (.inl rfl) rfl rfl)) (blkOk_by (by rfl)) (fun _ _ _ _ _ => (mg_name sc_are_marks.nd rfl (.inl rfl) (.inr rfl))) (fun _ _ _ _ _ => mts_nil) (fun _ _ _ _ _ => (m_var rfl (.inl rfl) rfl rfl)) (fun _ => rfl) (fun _ _ _ _ _ => (mi_m rfl (m_var rfl (.inl rfl) rfl rfl))) (fun _ _ _ _ _ => (mg_name sc_are_marks.nd rfl (.inl rfl) (.inr rfl))) (fun _ _ _ _ _ => mts_nil) (fun _ _ => rfl)) rfl rfl (.inl rfl))
    (mss_one (ms_ret (m_and rfl (m_all (own := [("row", 7)]) (k := 0) (n := 0) rfl rfl rfl rfl (Room.mono hr (by decide)) rfl sc_are_marks.nd (by exact hbm) rfl ⟨rfl, rfl⟩ (blkOk_by (by rfl)) (by rfl) z_all PyProof.Rows.boot_all (mi_m rfl (m_var rfl (.inl rfl) rfl rfl)) (fun _ _ => (mg_name sc_are_marks.nd rfl (.inl rfl) (.inr rfl))) (fun _ _ hr3 => mts_nil) (fun _ _ hr3 => (m_cmp (o_gt hr3.units) rfl (pe_lOf (m_blt rfl c_len (by rfl) z_len PySem.boot_len (ma_cons (m_lvar rfl (.inl rfl) rfl rfl) ma_nil rfl) (by decide) rfl rfl rfl)) (pe_lOf m_int))) (fun _ => rfl) rfl) (pe_one (m_all (own := [("number", 8)]) (k := 0) (n := 0) rfl rfl rfl rfl (Room.mono hr (by decide)) rfl sc_are_marks.nd (by exact hbm) rfl ⟨rfl, rfl⟩ (blkOk_by (by rfl)) (by rfl) z_all PyProof.Rows.boot_all (mi_m rfl (m_var rfl (.inr (.inl rfl)) rfl rfl)) (fun _ _ => (mg_name sc_are_marks.nd rfl (.inl rfl) (.inr rfl))) (fun _ _ hr4 => mts_nil) (fun _ _ hr4 => (m_cmp (o_eq hr4.units) rfl (pe_lOf (m_cnt rfl (m_var rfl (.inr (.inr rfl)) rfl rfl) (m_lvar rfl (.inl rfl) rfl rfl) rfl rfl rfl rfl rfl)) (pe_lOf m_int))) (fun _ => rfl) rfl)))))))))
/-! most_around -/
abbrev s_most_around : Stmt := topS 12
theorem sc_most_around : FnScope ["island", "place"] ["island"] (defScope s_most_around) := ⟨rfl, rfl, rfl, by decide +kernel, rfl, by decide +kernel, by decide +kernel⟩
def b_most_around : Bm :=
  (xRet (sBlt gMax (aCons (lOf (sLc (iR1 (aCons (lOf (sBin gIdx (lVar 0) (lOf (sC (.int 0))))) aNil)) (.nm 1) tYes2 (sBlt gLen (aCons (lOf (sCall f_lights_at (aCons (lVar 0) (aCons (lVar 1) aNil)))) aNil)) [1])) aNil)))
def f_most_around : FS := defF false 2 b_most_around
theorem ok_most_around {a : Addr} {oc kV doc pm ct : Value} {od an : Option Addr} {osl : Array (Option Value)} {a_lights_at : Addr} {d_lights_at : FuncData} {cdv : Value}
    (lk : K.lookup a = some ⟨oc, od, .func (PySem.W.fnOf "most_around" "most_around" (defArgs s_most_around) (defBody s_most_around) (defScope s_most_around) .none kV doc pm an cdv ct), osl⟩) (hcd : PySem.W.codeIn K cdv "most_around" = true) (z_range : mg "range" = none) (z_len : mg "len" = none) (z_max : mg "max" = none) (g_lights_at : mg "lights_at" = some (.ref a_lights_at)) (k_lights_at : PySem.W.keepIn K (.ref a_lights_at) = true) (bi_lights_at : Binds K d_lights_at ["island", "place"] []) (G_lights_at : FnOk P w K mg base CX0 1 a_lights_at d_lights_at ["island", "place"] (spFn K tabs 2 f_lights_at)) :
    FnOk P w K mg base CX0 2 a (PySem.W.fnOf "most_around" "most_around" (defArgs s_most_around) (defBody s_most_around) (defScope s_most_around) .none kV doc pm an cdv ct) ["island"] (spFn K tabs ["island"].length (defF false ["island", "place"].length b_most_around)) :=
  fn_ok (P := P) (w := w) (K := K) (mg := mg) (base := base) (x := "most_around") (qual := "most_around") (st := s_most_around) (f := a) (N := ["island", "place"]) (ps := ["island"]) (k := 1) false (fb := b_most_around) (tabs := tabs) (c := 0) (n := 0) lk hcd sc_most_around (.inl rfl) fun A outer s H E ioa hr =>
  (mss_one (ms_ret (m_blt rfl (c_max rfl hr.units65) (by rfl) z_max PyProof.Rows.boot_max (ma_cons (pe_lOf (m_lc (own := [("place", 1)]) rfl rfl sc_most_around.nd (mi_rng1 (by rfl) z_range (ma_cons (pe_lOf (m_idx rfl (m_lvar rfl (.inr (.inl rfl)) rfl rfl) (pe_lOf m_int) (fun _ _ => rfl))) ma_nil rfl) rfl) (blkOk_by (by rfl)) (fun _ _ _ _ _ => (mg_name sc_most_around.nd rfl (.inl rfl) (.inr rfl))) (fun _ _ _ _ _ => mts_nil) (fun _ _ _ _ _ => (m_blt rfl c_len (by rfl) z_len PySem.boot_len (ma_cons (pe_lOf (m_call rfl G_lights_at (Room.mono hr (by decide)) (by rfl) g_lights_at k_lights_at bi_lights_at (ma_cons (m_lvar rfl (.inr (.inl rfl)) rfl rfl) (ma_cons (m_lvar rfl (.inl rfl) rfl rfl) ma_nil rfl) rfl) rfl rfl rfl rfl (aLen_cons (aLen_cons aLen_nil)))) ma_nil rfl) (by decide) rfl rfl rfl)) (fun _ => rfl))) ma_nil rfl) (by decide) rfl rfl rfl)))
/-! needed_lights -/
abbrev s_needed_lights : Stmt := topS 13
theorem sc_needed_lights : FnScope ["island", "rows", "place", "number"] ["island"] (defScope s_needed_lights) := ⟨rfl, rfl, rfl, by decide +kernel, rfl, by decide +kernel, by decide +kernel⟩
def b_needed_lights : Bm :=
  (xSeq (xSet 1 (sLc (iR1 (aCons (lOf (sBin gIdx (lVar 0) (lOf (sC (.int 0))))) aNil)) (.nm 2) tYes2 (sCall f_lights_at (aCons (lVar 0) (aCons (lVar 2) aNil))) [2]))
    (xRet (sBlt gTuple (aCons (lOf (sLc (iR1 (aCons (lOf (sBlt gLen (aCons (lOf (sBin gIdx (lVar 0) (lOf (sC (.int 1))))) aNil))) aNil)) (.nm 3) (tOfB (sBin gIn (lOf (sLst (aCons (lVar 3) aNil))) (lVar 1))) (sVar 3) [3])) aNil))))
def f_needed_lights : FS := defF false 4 b_needed_lights
theorem ok_needed_lights {a : Addr} {oc kV doc pm ct : Value} {od an : Option Addr} {osl : Array (Option Value)} {a_lights_at : Addr} {d_lights_at : FuncData} {cdv : Value}
    (lk : K.lookup a = some ⟨oc, od, .func (PySem.W.fnOf "needed_lights" "needed_lights" (defArgs s_needed_lights) (defBody s_needed_lights) (defScope s_needed_lights) .none kV doc pm an cdv ct), osl⟩) (hcd : PySem.W.codeIn K cdv "needed_lights" = true) (z_range : mg "range" = none) (z_len : mg "len" = none) (z_tuple : mg "tuple" = none) (g_lights_at : mg "lights_at" = some (.ref a_lights_at)) (k_lights_at : PySem.W.keepIn K (.ref a_lights_at) = true) (bi_lights_at : Binds K d_lights_at ["island", "place"] []) (G_lights_at : FnOk P w K mg base CX0 1 a_lights_at d_lights_at ["island", "place"] (spFn K tabs 2 f_lights_at)) :
    FnOk P w K mg base CX0 2 a (PySem.W.fnOf "needed_lights" "needed_lights" (defArgs s_needed_lights) (defBody s_needed_lights) (defScope s_needed_lights) .none kV doc pm an cdv ct) ["island"] (spFn K tabs ["island"].length (defF false ["island", "rows", "place", "number"].length b_needed_lights)) :=
  fn_ok (P := P) (w := w) (K := K) (mg := mg) (base := base) (x := "needed_lights") (qual := "needed_lights") (st := s_needed_lights) (f := a) (N := ["island", "rows", "place", "number"]) (ps := ["island"]) (k := 1) false (fb := b_needed_lights) (tabs := tabs) (c := 0) (n := 0) lk hcd sc_needed_lights (.inl rfl) fun A outer s H E ioa hr =>
  (mss_cons (ms_set sc_needed_lights.nd rfl (.inr rfl) (m_lc (own := [("place", 2)]) rfl rfl sc_needed_lights.nd (mi_rng1 (by rfl) z_range (ma_cons (pe_lOf (m_idx rfl (m_lvar rfl (.inr (.inl rfl)) rfl rfl) (pe_lOf m_int) (fun _ _ => rfl))) ma_nil rfl) rfl) (blkOk_by (by rfl)) (fun _ _ _ _ _ => (mg_name sc_needed_lights.nd rfl (.inl rfl) (.inr rfl))) (fun _ _ _ _ _ => mts_nil) (fun _ _ _ _ _ => (m_call rfl G_lights_at (Room.mono hr (by decide)) (by rfl) g_lights_at k_lights_at bi_lights_at (ma_cons (m_lvar rfl (.inr (.inl rfl)) rfl rfl) (ma_cons (m_lvar rfl (.inl rfl) rfl rfl) ma_nil rfl) rfl) rfl rfl rfl rfl (aLen_cons (aLen_cons aLen_nil)))) (fun _ => rfl)) rfl rfl (.inl rfl))
    (mss_one (ms_ret (m_bltT rfl c_tuple (by rfl) z_tuple boot_tuple (ma_cons (pe_lOf (m_lc (own := [("number", 3)]) rfl rfl sc_needed_lights.nd (mi_rng1 (by rfl) z_range (ma_cons (pe_lOf (m_blt rfl c_len (by rfl) z_len PySem.boot_len (ma_cons (pe_lOf (m_idx rfl (m_lvar rfl (.inr (.inl rfl)) rfl rfl) (pe_lOf m_int) (fun _ _ => rfl))) ma_nil rfl) (by decide) rfl rfl rfl)) ma_nil rfl) rfl) (blkOk_by (by rfl)) (fun _ _ _ _ _ => (mg_name sc_needed_lights.nd rfl (.inl rfl) (.inr rfl))) (fun _ _ _ _ _ => (mts_one (mt_cmp (o_in hr.units) rfl (pe_lOf (m_lst (ma_cons (m_lvar rfl (.inl rfl) rfl rfl) ma_nil rfl))) (m_lvar rfl (.inr (.inl rfl)) rfl rfl)))) (fun _ _ _ _ _ => (m_var rfl (.inl rfl) rfl rfl)) (fun _ => rfl))) ma_nil rfl) (by decide) rfl rfl rfl))))
/-! longest_dark_around -/
abbrev s_longest_dark_around : Stmt := topS 14
theorem sc_longest_dark_around : FnScope ["island", "around", "most", "begin", "many"] ["island"] (defScope s_longest_dark_around) := ⟨rfl, rfl, rfl, by decide +kernel, rfl, by decide +kernel, by decide +kernel⟩
def b_longest_dark_around : Bm :=
  (xSeq (xSet 1 (sBin gIdx (lVar 0) (lOf (sC (.int 0)))))
    (xSeq (xSet 2 (sC (.int 0)))
    (xSeq (xFor (iR1 (aCons (lVar 1) aNil)) (.nm 3) (xSeq (xSet 4 (sC (.int 0)))
    (xSeq (whGo (tAnd2 (tOfB (sBin gLt (lVar 4) (lVar 1))) (tOfB (sBin gEq (lOf (sBlt gLen (aCons (lOf (sCall f_lights_at (aCons (lVar 0) (aCons (lOf (sBin gMod (lOf (sBin gAdd (lVar 3) (lVar 4))) (lVar 1))) aNil)))) aNil))) (lOf (sC (.int 0)))))) (xAug (fun i j => i + j) 4 (sC (.int 1))) 100000)
    (xSet 2 (sBlt gMax (aCons (lVar 2) (aCons (lVar 4) aNil)))))))
    (xRet (sVar 2)))))
def f_longest_dark_around : FS := defF false 5 b_longest_dark_around
theorem ok_longest_dark_around {a : Addr} {oc kV doc pm ct : Value} {od an : Option Addr} {osl : Array (Option Value)} {a_lights_at : Addr} {d_lights_at : FuncData} {cdv : Value}
    (lk : K.lookup a = some ⟨oc, od, .func (PySem.W.fnOf "longest_dark_around" "longest_dark_around" (defArgs s_longest_dark_around) (defBody s_longest_dark_around) (defScope s_longest_dark_around) .none kV doc pm an cdv ct), osl⟩) (hcd : PySem.W.codeIn K cdv "longest_dark_around" = true) (z_range : mg "range" = none) (z_len : mg "len" = none) (z_max : mg "max" = none) (g_lights_at : mg "lights_at" = some (.ref a_lights_at)) (k_lights_at : PySem.W.keepIn K (.ref a_lights_at) = true) (bi_lights_at : Binds K d_lights_at ["island", "place"] []) (G_lights_at : FnOk P w K mg base CX0 1 a_lights_at d_lights_at ["island", "place"] (spFn K tabs 2 f_lights_at)) :
    FnOk P w K mg base CX0 2 a (PySem.W.fnOf "longest_dark_around" "longest_dark_around" (defArgs s_longest_dark_around) (defBody s_longest_dark_around) (defScope s_longest_dark_around) .none kV doc pm an cdv ct) ["island"] (spFn K tabs ["island"].length (defF false ["island", "around", "most", "begin", "many"].length b_longest_dark_around)) :=
  fn_ok (P := P) (w := w) (K := K) (mg := mg) (base := base) (x := "longest_dark_around") (qual := "longest_dark_around") (st := s_longest_dark_around) (f := a) (N := ["island", "around", "most", "begin", "many"]) (ps := ["island"]) (k := 1) false (fb := b_longest_dark_around) (tabs := tabs) (c := 0) (n := 0) lk hcd sc_longest_dark_around (.inl rfl) fun A outer s H E ioa hr =>
  (mss_cons (ms_set sc_longest_dark_around.nd rfl (.inl rfl) (m_idx rfl (m_lvar rfl (.inl rfl) rfl rfl) (pe_lOf m_int) (fun _ _ => rfl)) rfl rfl (.inl rfl))
    (mss_cons (ms_set sc_longest_dark_around.nd rfl (.inl rfl) m_int rfl rfl (.inl rfl))
    (mss_cons (ms_for PassesOwn.never rfl (mi_rng1 (by rfl) z_range (ma_cons (m_lvar rfl (.inl rfl) rfl rfl) ma_nil rfl) rfl) (mg_name sc_longest_dark_around.nd rfl (.inl rfl) (.inl rfl)) (mss_cons (ms_set sc_longest_dark_around.nd rfl (.inl rfl) m_int rfl rfl (.inl rfl))
    (mss_cons (ms_while 100000 PassesOwn.never (mw_and (mt_cmp (o_lt hr.units) rfl (m_lvar rfl (.inl rfl) rfl rfl) (m_lvar rfl (.inl rfl) rfl rfl)) (mw_and1 (mt_cmp (o_eq hr.units) rfl (pe_lOf (m_blt rfl c_len (by rfl) z_len PySem.boot_len (ma_cons (pe_lOf (m_call rfl G_lights_at (Room.mono hr (by decide)) (by rfl) g_lights_at k_lights_at bi_lights_at (ma_cons (m_lvar rfl (.inl rfl) rfl rfl) (ma_cons (pe_lOf (m_bin o_mod (pe_lOf (m_bin o_add (m_lvar rfl (.inl rfl) rfl rfl) (m_lvar rfl (.inl rfl) rfl rfl))) (m_lvar rfl (.inl rfl) rfl rfl))) ma_nil rfl) rfl) rfl rfl rfl rfl (aLen_cons (aLen_cons aLen_nil)))) ma_nil rfl) (by decide) rfl rfl rfl)) (pe_lOf m_int)))).pt (mss_one (ms_aug sc_longest_dark_around.nd rfl (.inl rfl) m_int ip_add rfl (.inl rfl))))
    (mss_one (ms_set sc_longest_dark_around.nd rfl (.inl rfl) (m_blt rfl (c_max rfl hr.units65) (by rfl) z_max PyProof.Rows.boot_max (ma_cons (m_lvar rfl (.inl rfl) rfl rfl) (ma_cons (m_lvar rfl (.inl rfl) rfl rfl) ma_nil rfl) rfl) (by decide) rfl rfl rfl) rfl rfl (.inl rfl))))) rfl (fun _ => rfl))
    (mss_one (ms_ret (m_var rfl (.inl rfl) rfl rfl))))))
/-! _law_draws -/
abbrev s__law_draws : Stmt := topS 16
theorem sc__law_draws : FnScope ["script", "draws", "cell", "number", "first", "k", "seed"] ["script"] (defScope s__law_draws) := ⟨rfl, rfl, rfl, by decide +kernel, rfl, by decide +kernel, by decide +kernel⟩
def b__law_draws : Bm :=
  (xSeq (xSet 1 (sLst aNil))
    (xSeq (xFor (iM (sVar 0)) (.nm 2) (xSeq (xSet 3 (sBlt gAbs (aCons (lVar 2) aNil)))
    (xSeq (xIf (tOfB (sBin gLt (lVar 3) (lOf (sBin gPow (lOf (sC (.int 10))) (lOf (sC (.int 18))))))) (xSeq (xSet 4 (sBin gMod (lOf (sBlt gInt (aCons (lOf (sBin gAdd (lOf (sBin gMul (lVar 3) (lOf (sC (.int 48271))))) (lOf (sC (.int 11))))) aNil))) (lOf (sC (.int 2147483647)))))
    (xSeq (xApp 1 (aCons (lOf (sBin gMod (lOf (sBlt gInt (aCons (lOf (sBin gAdd (lOf (sBin gMul (lVar 4) (lOf (sC (.int 69621))))) (lVar 3))) aNil))) (lOf (sC (.int 2147483629))))) aNil))
    (xSeq (xApp 1 (aCons (lOf (sBin gMod (lOf (sBlt gInt (aCons (lOf (sBin gAdd (lVar 4) (lOf (sBin gDiv (lVar 3) (lOf (sC (.int 7))))))) aNil))) (lOf (sC (.int 1000003))))) aNil))
    (xSet 3 (sC (.int 0)))))) xPass)
    (xFor (iR1 (aCons (lOf (sC (.int 60))) aNil)) (.nm 5) (xIf (tOfB (sBin gGt (lVar 3) (lOf (sC (.int 0))))) (xSeq (xApp 1 (aCons (lOf (sBin gMod (lOf (sBlt gInt (aCons (lVar 3) aNil))) (lOf (sC (.int 997))))) aNil))
    (xSet 3 (sBin gDiv (lVar 3) (lOf (sC (.int 997)))))) xPass)))))
    (xSeq (xSet 6 (sC (.int 1)))
    (xSeq (xIf (tOfB (sBin gGt (lOf (sBlt gLen (aCons (lVar 0) aNil))) (lOf (sC (.int 0))))) (xSet 6 (sBin gAdd (lOf (sC (.int 1))) (lOf (sBlt gAbs (aCons (lOf (sBin gIdx (lVar 0) (lOf (sC (.int 0))))) aNil))))) xPass)
    (xSeq (xFor (iR1 (aCons (lOf (sC (.int 900))) aNil)) (.nm 5) (xSeq (xSet 6 (sBin gMod (lOf (sBlt gInt (aCons (lOf (sBin gAdd (lOf (sBin gMul (lVar 6) (lOf (sC (.int 48271))))) (lOf (sC (.int 69621))))) aNil))) (lOf (sC (.int 2147483647)))))
    (xApp 1 (aCons (lOf (sBin gDiv (lVar 6) (lOf (sC (.int 5))))) aNil))))
    (xRet (sUn gLRev (lVar 1))))))))
def f__law_draws : FS := defF false 7 b__law_draws
theorem ok__law_draws {a : Addr} {oc kV doc pm ct : Value} {od an : Option Addr} {osl : Array (Option Value)} {cdv : Value}
    (lk : K.lookup a = some ⟨oc, od, .func (PySem.W.fnOf "_law_draws" "_law_draws" (defArgs s__law_draws) (defBody s__law_draws) (defScope s__law_draws) .none kV doc pm an cdv ct), osl⟩) (hcd : PySem.W.codeIn K cdv "_law_draws" = true) (z_abs : mg "abs" = none) (z_int : mg "int" = none) (z_range : mg "range" = none) (z_len : mg "len" = none) (z_list : mg "list" = none) (z_reversed : mg "reversed" = none) :
    FnOk P w K mg base CX0 1 a (PySem.W.fnOf "_law_draws" "_law_draws" (defArgs s__law_draws) (defBody s__law_draws) (defScope s__law_draws) .none kV doc pm an cdv ct) ["script"] (spFn K tabs ["script"].length (defF false ["script", "draws", "cell", "number", "first", "k", "seed"].length b__law_draws)) :=
  fn_ok (P := P) (w := w) (K := K) (mg := mg) (base := base) (x := "_law_draws") (qual := "_law_draws") (st := s__law_draws) (f := a) (N := ["script", "draws", "cell", "number", "first", "k", "seed"]) (ps := ["script"]) (k := 0) false (fb := b__law_draws) (tabs := tabs) (c := 0) (n := 0) lk hcd sc__law_draws (.inl rfl) fun A outer s H E ioa hr =>
  (mss_cons (ms_set sc__law_draws.nd rfl (.inl rfl) (m_lst ma_nil) rfl rfl (.inl rfl))
    (mss_cons (ms_for PassesOwn.never rfl (mi_m rfl (m_var rfl (.inl rfl) rfl rfl)) (mg_name sc__law_draws.nd rfl (.inl rfl) (.inl rfl)) (mss_cons (ms_set sc__law_draws.nd rfl (.inl rfl) (m_blt rfl c_abs (by rfl) z_abs PyProof.Rows.boot_abs (ma_cons (m_lvar rfl (.inl rfl) rfl rfl) ma_nil rfl) (by decide) rfl rfl rfl) rfl rfl (.inl rfl))
    (mss_cons (ms_if (mt_cmp (o_lt hr.units) rfl (m_lvar rfl (.inl rfl) rfl rfl) (pe_lOf (m_bin o_pow (pe_lOf m_int) (pe_lOf m_int)))) (mss_cons (ms_set sc__law_draws.nd rfl (.inl rfl) (m_bin o_mod (pe_lOf (m_bltT rfl c_int (by rfl) z_int boot_int (ma_cons (pe_lOf (m_bin o_add (pe_lOf (m_bin o_mul (m_lvar rfl (.inl rfl) rfl rfl) (pe_lOf m_int))) (pe_lOf m_int))) ma_nil rfl) (by decide) rfl rfl rfl)) (pe_lOf m_int)) rfl rfl (.inl rfl))
    (mss_cons (ms_app rfl rfl (.inl rfl) rfl rfl (ma_cons (pe_lOf (m_bin o_mod (pe_lOf (m_bltT rfl c_int (by rfl) z_int boot_int (ma_cons (pe_lOf (m_bin o_add (pe_lOf (m_bin o_mul (m_lvar rfl (.inl rfl) rfl rfl) (pe_lOf m_int))) (m_lvar rfl (.inl rfl) rfl rfl))) ma_nil rfl) (by decide) rfl rfl rfl)) (pe_lOf m_int))) ma_nil rfl) rfl rfl rfl rfl rfl rfl)
    (mss_cons (ms_app rfl rfl (.inl rfl) rfl rfl (ma_cons (pe_lOf (m_bin o_mod (pe_lOf (m_bltT rfl c_int (by rfl) z_int boot_int (ma_cons (pe_lOf (m_bin o_add (m_lvar rfl (.inl rfl) rfl rfl) (pe_lOf (m_bin o_div (m_lvar rfl (.inl rfl) rfl rfl) (pe_lOf m_int))))) ma_nil rfl) (by decide) rfl rfl rfl)) (pe_lOf m_int))) ma_nil rfl) rfl rfl rfl rfl rfl rfl)
    (mss_one (ms_set sc__law_draws.nd rfl (.inl rfl) m_int rfl rfl (.inl rfl)))))) mss_nil)
    (mss_one (ms_for PassesOwn.never rfl (mi_rng1 (by rfl) z_range (ma_cons (pe_lOf m_int) ma_nil rfl) rfl) (mg_name sc__law_draws.nd rfl (.inl rfl) (.inl rfl)) (mss_one (ms_if (mt_cmp (o_gt hr.units) rfl (m_lvar rfl (.inl rfl) rfl rfl) (pe_lOf m_int)) (mss_cons (ms_app rfl rfl (.inl rfl) rfl rfl (ma_cons (pe_lOf (m_bin o_mod (pe_lOf (m_bltT rfl c_int (by rfl) z_int boot_int (ma_cons (m_lvar rfl (.inl rfl) rfl rfl) ma_nil rfl) (by decide) rfl rfl rfl)) (pe_lOf m_int))) ma_nil rfl) rfl rfl rfl rfl rfl rfl)
    (mss_one (ms_set sc__law_draws.nd rfl (.inl rfl) (m_bin o_div (m_lvar rfl (.inl rfl) rfl rfl) (pe_lOf m_int)) rfl rfl (.inl rfl)))) mss_nil)) rfl (fun _ => rfl))))) rfl (fun _ => rfl))
    (mss_cons (ms_set sc__law_draws.nd rfl (.inl rfl) m_int rfl rfl (.inl rfl))
    (mss_cons (ms_if (mt_cmp (o_gt hr.units) rfl (pe_lOf (m_blt rfl c_len (by rfl) z_len PySem.boot_len (ma_cons (m_lvar rfl (.inl rfl) rfl rfl) ma_nil rfl) (by decide) rfl rfl rfl)) (pe_lOf m_int)) (mss_one (ms_set sc__law_draws.nd rfl (.inl rfl) (m_bin o_add (pe_lOf m_int) (pe_lOf (m_blt rfl c_abs (by rfl) z_abs PyProof.Rows.boot_abs (ma_cons (pe_lOf (m_idx rfl (m_lvar rfl (.inl rfl) rfl rfl) (pe_lOf m_int) (fun _ _ => rfl))) ma_nil rfl) (by decide) rfl rfl rfl))) rfl rfl (.inl rfl))) mss_nil)
    (mss_cons (ms_for PassesOwn.never rfl (mi_rng1 (by rfl) z_range (ma_cons (pe_lOf m_int) ma_nil rfl) rfl) (mg_name sc__law_draws.nd rfl (.inl rfl) (.inl rfl)) (mss_cons (ms_set sc__law_draws.nd rfl (.inl rfl) (m_bin o_mod (pe_lOf (m_bltT rfl c_int (by rfl) z_int boot_int (ma_cons (pe_lOf (m_bin o_add (pe_lOf (m_bin o_mul (m_lvar rfl (.inl rfl) rfl rfl) (pe_lOf m_int))) (pe_lOf m_int))) ma_nil rfl) (by decide) rfl rfl rfl)) (pe_lOf m_int)) rfl rfl (.inl rfl))
    (mss_one (ms_app rfl rfl (.inl rfl) rfl rfl (ma_cons (pe_lOf (m_bin o_div (m_lvar rfl (.inl rfl) rfl rfl) (pe_lOf m_int))) ma_nil rfl) rfl rfl rfl rfl rfl rfl))) rfl (fun _ => rfl))
    (mss_one (ms_ret (m_lrev rfl rfl (by rfl) z_list (by rfl) z_reversed (m_lvar rfl (.inl rfl) rfl rfl) rfl rfl))))))))
/-! _law_take -/
abbrev s__law_take : Stmt := topS 17
theorem sc__law_take : FnScope ["draws", "bound"] ["draws", "bound"] (defScope s__law_take) := ⟨rfl, rfl, rfl, by decide +kernel, rfl, by decide +kernel, by decide +kernel⟩
def b__law_take : Bm :=
  (xSeq (xIf (tOfB (sBin gEq (lOf (sBlt gLen (aCons (lVar 0) aNil))) (lOf (sC (.int 0))))) (xRet (sC (.int 0))) xPass)
    (xRet (sBin gMod (lOf (sBlt gInt (aCons (lOf (sPop 0)) aNil))) (lVar 1))))
def f__law_take : FS := defF true 2 b__law_take
theorem ok__law_take {a : Addr} {oc kV doc pm ct : Value} {od an : Option Addr} {osl : Array (Option Value)} {cdv : Value}
    (lk : K.lookup a = some ⟨oc, od, .func (PySem.W.fnOf "_law_take" "_law_take" (defArgs s__law_take) (defBody s__law_take) (defScope s__law_take) .none kV doc pm an cdv ct), osl⟩) (hcd : PySem.W.codeIn K cdv "_law_take" = true) (z_len : mg "len" = none) (z_int : mg "int" = none) :
    FnOk P w K mg base CX0 1 a (PySem.W.fnOf "_law_take" "_law_take" (defArgs s__law_take) (defBody s__law_take) (defScope s__law_take) .none kV doc pm an cdv ct) ["draws", "bound"] (spFn K tabs ["draws", "bound"].length (defF true ["draws", "bound"].length b__law_take)) :=
  fn_ok (P := P) (w := w) (K := K) (mg := mg) (base := base) (x := "_law_take") (qual := "_law_take") (st := s__law_take) (f := a) (N := ["draws", "bound"]) (ps := ["draws", "bound"]) (k := 0) true (fb := b__law_take) (tabs := tabs) (c := 0) (n := 0) lk hcd sc__law_take (.inl rfl) fun A outer s H E ioa hr =>
  (mss_cons (ms_if (mt_cmp (o_eq hr.units) rfl (pe_lOf (m_blt rfl c_len (by rfl) z_len PySem.boot_len (ma_cons (m_lvar rfl (.inl rfl) rfl rfl) ma_nil rfl) (by decide) rfl rfl rfl)) (pe_lOf m_int)) (mss_one (ms_ret m_int)) mss_nil)
    (mss_one (ms_ret (m_bin o_mod (pe_lOf (m_bltT rfl c_int (by rfl) z_int boot_int (ma_cons (pe_lOf (m_pop rfl rfl (.inl rfl) rfl rfl rfl rfl)) ma_nil rfl) (by decide) rfl rfl rfl)) (m_lvar rfl (.inl rfl) rfl rfl)))))
/-! _law_alike -/
abbrev s__law_alike : Stmt := topS 18
theorem sc__law_alike : FnScope ["found", "due", "k"] ["found", "due"] (defScope s__law_alike) := ⟨rfl, rfl, rfl, by decide +kernel, rfl, by decide +kernel, by decide +kernel⟩
def b__law_alike (fself : FS) : Bm :=
  (xSeq (xIf (tOr2 (tTru (lOf (sUn (gIsi .list) (lVar 1)))) (tTru (lOf (sUn (gIsi .tuple) (lVar 1))))) (xSeq (xIf (tOr2 (tOfB (sBin gNe (lOf (sUn (gIsi .list) (lVar 0))) (lOf (sUn (gIsi .list) (lVar 1))))) (tOfB (sBin gNe (lOf (sUn (gIsi .tuple) (lVar 0))) (lOf (sUn (gIsi .tuple) (lVar 1)))))) (xRet (sC (.bool false))) xPass)
    (xRet (sAnd (sBin gEq (lOf (sBlt gLen (aCons (lVar 0) aNil))) (lOf (sBlt gLen (aCons (lVar 1) aNil)))) (sBin gEq (lOf (sLc (iR1 (aCons (lOf (sBlt gLen (aCons (lVar 1) aNil))) aNil)) (.nm 2) (tNot2 (tTru (lOf (sCall fself (aCons (lOf (sBin gIdx (lVar 0) (lVar 2))) (aCons (lOf (sBin gIdx (lVar 1) (lVar 2))) aNil)))))) (sVar 2) [2])) (lOf (sLst aNil)))))) xPass)
    (xSeq (xIf (tOfB (sBin gIs (lVar 1) (lOf (sC .none)))) (xRet (sBin gIs (lVar 0) (lOf (sC .none)))) xPass)
    (xSeq (xIf (tOr2 (tTru (lOf (sUn (gIsi .bool) (lVar 1)))) (tTru (lOf (sUn (gIsi .bool) (lVar 0))))) (xRet (sAnd (sUn (gIsi .bool) (lVar 0)) (sAnd (sUn (gIsi .bool) (lVar 1)) (sBin gEq (lVar 0) (lVar 1))))) xPass)
    (xSeq (xIf (tTru (lOf (sUn (gIsi .int) (lVar 1)))) (xRet (sAnd (sUn (gIsi .int) (lVar 0)) (sBin gEq (lVar 0) (lVar 1)))) xPass)
    (xRet (sAnd (sUn (gIsi .str) (lVar 0)) (sBin gEq (lVar 0) (lVar 1))))))))
def f__law_alike : Nat → FS
  | 0 => fun _ => none
  | n + 1 => defF false ["found", "due", "k"].length (b__law_alike (f__law_alike n))
theorem ok__law_alike {a : Addr} {oc kV doc pm ct : Value} {od an : Option Addr} {osl : Array (Option Value)} {cdv : Value}
    (lk : K.lookup a = some ⟨oc, od, .func (PySem.W.fnOf "_law_alike" "_law_alike" (defArgs s__law_alike) (defBody s__law_alike) (defScope s__law_alike) .none kV doc pm an cdv ct), osl⟩) (hcd : PySem.W.codeIn K cdv "_law_alike" = true) (z_isinstance : mg "isinstance" = none) (z_list : mg "list" = none) (z_tuple : mg "tuple" = none) (z_len : mg "len" = none) (z_range : mg "range" = none) (z_bool : mg "bool" = none) (z_int : mg "int" = none) (z_str : mg "str" = none) (g__law_alike : mg "_law_alike" = some (.ref a)) (k__law_alike : PySem.W.keepIn K (.ref a) = true) (bi__law_alike : Binds K (PySem.W.fnOf "_law_alike" "_law_alike" (defArgs s__law_alike) (defBody s__law_alike) (defScope s__law_alike) .none kV doc pm an cdv ct) ["found", "due"] []) :
    ∀ m, FnOk P w K mg base CX0 (m + 0) a (PySem.W.fnOf "_law_alike" "_law_alike" (defArgs s__law_alike) (defBody s__law_alike) (defScope s__law_alike) .none kV doc pm an cdv ct) ["found", "due"] (spFn K tabs ["found", "due"].length (f__law_alike m))
  | 0 => fn_none (ps := ["found", "due"])
  | m + 1 => by
    have G__law_alike := ok__law_alike lk hcd z_isinstance z_list z_tuple z_len z_range z_bool z_int z_str   g__law_alike k__law_alike bi__law_alike m
    have h := fn_ok (P := P) (w := w) (K := K) (mg := mg) (base := base) (x := "_law_alike") (qual := "_law_alike") (st := s__law_alike) (f := a) (N := ["found", "due", "k"]) (ps := ["found", "due"]) (k := m + 0) false (fb := b__law_alike (f__law_alike m)) (tabs := tabs) (c := 0) (n := 0) lk hcd sc__law_alike (.inl rfl) fun A outer s H E ioa hr =>
      (mss_cons (ms_if (mw_or (mt_tru (fun _ => rfl) (pe_lOf (m_isi (T := .list) (u := .none) rfl (m_lvar rfl (.inr (.inl rfl)) rfl rfl) (by rfl) z_isinstance PyProof.Rows.boot_isinstance (by rfl) z_list boot_list (by decide) rfl rfl)) rfl) (mw_or1 (mt_tru (fun _ => rfl) (pe_lOf (m_isi (T := .tuple) (u := .none) rfl (m_lvar rfl (.inr (.inl rfl)) rfl rfl) (by rfl) z_isinstance PyProof.Rows.boot_isinstance (by rfl) z_tuple boot_tuple (by decide) rfl rfl)) rfl))).pt (mss_cons (ms_if (mw_or (mt_cmp (o_ne hr.units) rfl (pe_lOf (m_isi (T := .list) (u := .none) rfl (m_lvar rfl (.inr (.inl rfl)) rfl rfl) (by rfl) z_isinstance PyProof.Rows.boot_isinstance (by rfl) z_list boot_list (by decide) rfl rfl)) (pe_lOf (m_isi (T := .list) (u := .none) rfl (m_lvar rfl (.inr (.inl rfl)) rfl rfl) (by rfl) z_isinstance PyProof.Rows.boot_isinstance (by rfl) z_list boot_list (by decide) rfl rfl))) (mw_or1 (mt_cmp (o_ne hr.units) rfl (pe_lOf (m_isi (T := .tuple) (u := .none) rfl (m_lvar rfl (.inr (.inl rfl)) rfl rfl) (by rfl) z_isinstance PyProof.Rows.boot_isinstance (by rfl) z_tuple boot_tuple (by decide) rfl rfl)) (pe_lOf (m_isi (T := .tuple) (u := .none) rfl (m_lvar rfl (.inr (.inl rfl)) rfl rfl) (by rfl) z_isinstance PyProof.Rows.boot_isinstance (by rfl) z_tuple boot_tuple (by decide) rfl rfl))))).pt (mss_one (ms_ret m_bl)) mss_nil)
    (mss_one (ms_ret (m_and rfl (m_cmp (o_eq hr.units) rfl (pe_lOf (m_blt rfl c_len (by rfl) z_len PySem.boot_len (ma_cons (m_lvar rfl (.inr (.inl rfl)) rfl rfl) ma_nil rfl) (by decide) rfl rfl rfl)) (pe_lOf (m_blt rfl c_len (by rfl) z_len PySem.boot_len (ma_cons (m_lvar rfl (.inr (.inl rfl)) rfl rfl) ma_nil rfl) (by decide) rfl rfl rfl))) (pe_one (m_cmp (o_eq hr.units) rfl (pe_lOf (m_lc (own := [("k", 2)]) rfl rfl sc__law_alike.nd (mi_rng1 (by rfl) z_range (ma_cons (pe_lOf (m_blt rfl c_len (by rfl) z_len PySem.boot_len (ma_cons (m_lvar rfl (.inr (.inl rfl)) rfl rfl) ma_nil rfl) (by decide) rfl rfl rfl)) ma_nil rfl) rfl) (blkOk_by (by rfl)) (fun _ _ _ _ _ => (mg_name sc__law_alike.nd rfl (.inl rfl) (.inr rfl))) (fun _ _ _ _ _ => (mts_one (mt_not (mt_tru (fun _ => rfl) (pe_lOf (m_call rfl G__law_alike (Room.mono hr (by omega)) (by rfl) g__law_alike k__law_alike bi__law_alike (ma_cons (pe_lOf (m_idx rfl (m_lvar rfl (.inr (.inl rfl)) rfl rfl) (m_lvar rfl (.inl rfl) rfl rfl) (fun _ _ => rfl))) (ma_cons (pe_lOf (m_idx rfl (m_lvar rfl (.inr (.inl rfl)) rfl rfl) (m_lvar rfl (.inl rfl) rfl rfl) (fun _ _ => rfl))) ma_nil rfl) rfl) rfl rfl rfl rfl (aLen_cons (aLen_cons aLen_nil)))) rfl)))) (fun _ _ _ _ _ => (m_var rfl (.inl rfl) rfl rfl)) (fun _ => rfl))) (pe_lOf (m_lst ma_nil)))))))) mss_nil)
    (mss_cons (ms_if (mt_cmp o_is rfl (m_lvar rfl (.inr (.inl rfl)) rfl rfl) (pe_lOf m_non)) (mss_one (ms_ret (m_cmp o_is rfl (m_lvar rfl (.inr (.inl rfl)) rfl rfl) (pe_lOf m_non)))) mss_nil)
    (mss_cons (ms_if (mw_or (mt_tru (fun _ => rfl) (pe_lOf (m_isi (T := .bool) (u := .none) rfl (m_lvar rfl (.inr (.inl rfl)) rfl rfl) (by rfl) z_isinstance PyProof.Rows.boot_isinstance (by rfl) z_bool boot_bool (by decide) rfl rfl)) rfl) (mw_or1 (mt_tru (fun _ => rfl) (pe_lOf (m_isi (T := .bool) (u := .none) rfl (m_lvar rfl (.inr (.inl rfl)) rfl rfl) (by rfl) z_isinstance PyProof.Rows.boot_isinstance (by rfl) z_bool boot_bool (by decide) rfl rfl)) rfl))).pt (mss_one (ms_ret (m_and rfl (m_isi (T := .bool) (u := .none) rfl (m_lvar rfl (.inr (.inl rfl)) rfl rfl) (by rfl) z_isinstance PyProof.Rows.boot_isinstance (by rfl) z_bool boot_bool (by decide) rfl rfl) (m_and rfl (m_isi (T := .bool) (u := .none) rfl (m_lvar rfl (.inr (.inl rfl)) rfl rfl) (by rfl) z_isinstance PyProof.Rows.boot_isinstance (by rfl) z_bool boot_bool (by decide) rfl rfl) (pe_one (m_cmp (o_eq hr.units) rfl (m_lvar rfl (.inr (.inl rfl)) rfl rfl) (m_lvar rfl (.inr (.inl rfl)) rfl rfl))))))) mss_nil)
    (mss_cons (ms_if (mt_tru (fun _ => rfl) (pe_lOf (m_isi (T := .int) (u := .none) rfl (m_lvar rfl (.inr (.inl rfl)) rfl rfl) (by rfl) z_isinstance PyProof.Rows.boot_isinstance (by rfl) z_int boot_int (by decide) rfl rfl)) rfl) (mss_one (ms_ret (m_and rfl (m_isi (T := .int) (u := .none) rfl (m_lvar rfl (.inr (.inl rfl)) rfl rfl) (by rfl) z_isinstance PyProof.Rows.boot_isinstance (by rfl) z_int boot_int (by decide) rfl rfl) (pe_one (m_cmp (o_eq hr.units) rfl (m_lvar rfl (.inr (.inl rfl)) rfl rfl) (m_lvar rfl (.inr (.inl rfl)) rfl rfl)))))) mss_nil)
    (mss_one (ms_ret (m_and rfl (m_isi (T := .str) (u := .none) rfl (m_lvar rfl (.inr (.inl rfl)) rfl rfl) (by rfl) z_isinstance PyProof.Rows.boot_isinstance (by rfl) z_str boot_str (by decide) rfl rfl) (pe_one (m_cmp (o_eq hr.units) rfl (m_lvar rfl (.inr (.inl rfl)) rfl rfl) (m_lvar rfl (.inr (.inl rfl)) rfl rfl))))))))))
    exact h.mono (by omega)
/-! _law_says -/
abbrev s__law_says : Stmt := topS 19
theorem sc__law_says : FnScope ["told", "due"] ["told", "due"] (defScope s__law_says) := ⟨rfl, rfl, rfl, by decide +kernel, rfl, by decide +kernel, by decide +kernel⟩
def b__law_says : Bm :=
  (xRet (sAnd (sUn (gIsi .bool) (lVar 0)) (sBin gEq (lVar 0) (lVar 1))))
def f__law_says : FS := defF false 2 b__law_says
theorem ok__law_says {a : Addr} {oc kV doc pm ct : Value} {od an : Option Addr} {osl : Array (Option Value)} {cdv : Value}
    (lk : K.lookup a = some ⟨oc, od, .func (PySem.W.fnOf "_law_says" "_law_says" (defArgs s__law_says) (defBody s__law_says) (defScope s__law_says) .none kV doc pm an cdv ct), osl⟩) (hcd : PySem.W.codeIn K cdv "_law_says" = true) (z_isinstance : mg "isinstance" = none) (z_bool : mg "bool" = none) :
    FnOk P w K mg base CX0 1 a (PySem.W.fnOf "_law_says" "_law_says" (defArgs s__law_says) (defBody s__law_says) (defScope s__law_says) .none kV doc pm an cdv ct) ["told", "due"] (spFn K tabs ["told", "due"].length (defF false ["told", "due"].length b__law_says)) :=
  fn_ok (P := P) (w := w) (K := K) (mg := mg) (base := base) (x := "_law_says") (qual := "_law_says") (st := s__law_says) (f := a) (N := ["told", "due"]) (ps := ["told", "due"]) (k := 0) false (fb := b__law_says) (tabs := tabs) (c := 0) (n := 0) lk hcd sc__law_says (.inl rfl) fun A outer s H E ioa hr =>
  (mss_one (ms_ret (m_and rfl (m_isi (T := .bool) (u := .none) rfl (m_lvar rfl (.inl rfl) rfl rfl) (by rfl) z_isinstance PyProof.Rows.boot_isinstance (by rfl) z_bool boot_bool (by decide) rfl rfl) (pe_one (m_cmp (o_eq hr.units) rfl (m_lvar rfl (.inl rfl) rfl rfl) (m_lvar rfl (.inl rfl) rfl rfl))))))
/-! _law_seen -/
abbrev s__law_seen : Stmt := topS 20
theorem sc__law_seen : FnScope ["island", "place", "around", "arcs", "found", "k", "walked", "step"] ["island", "place"] (defScope s__law_seen) := ⟨rfl, rfl, rfl, by decide +kernel, rfl, by decide +kernel, by decide +kernel⟩
def b__law_seen : Bm :=
  (xSeq (xAsg (.tp (.cons (.nm 2) (.cons (.nm 3) .nil))) (sVar 0))
    (xSeq (xSet 4 (sLst aNil))
    (xSeq (xFor (iR1 (aCons (lOf (sBlt gLen (aCons (lVar 3) aNil))) aNil)) (.nm 5) (xSeq (xSet 6 (sLc (iR1 (aCons (lOf (sBin gIdx (lOf (sBin gIdx (lVar 3) (lVar 5))) (lOf (sC (.int 1))))) aNil)) (.nm 7) tYes2 (sBin gMod (lOf (sBlt gInt (aCons (lOf (sBin gAdd (lOf (sBin gIdx (lOf (sBin gIdx (lVar 3) (lVar 5))) (lOf (sC (.int 0))))) (lVar 7))) aNil))) (lVar 2)) [7]))
    (xSet 4 (sBin gAdd (lVar 4) (lOf (sBin gMul (lOf (sLst (aCons (lVar 5) aNil))) (lOf (sBlt gInt (aCons (lOf (sBin gIn (lVar 1) (lVar 6))) aNil)))))))))
    (xRet (sVar 4)))))
def f__law_seen : FS := defF false 8 b__law_seen
theorem ok__law_seen {a : Addr} {oc kV doc pm ct : Value} {od an : Option Addr} {osl : Array (Option Value)} {cdv : Value}
    (lk : K.lookup a = some ⟨oc, od, .func (PySem.W.fnOf "_law_seen" "_law_seen" (defArgs s__law_seen) (defBody s__law_seen) (defScope s__law_seen) .none kV doc pm an cdv ct), osl⟩) (hcd : PySem.W.codeIn K cdv "_law_seen" = true) (z_len : mg "len" = none) (z_range : mg "range" = none) (z_int : mg "int" = none) :
    FnOk P w K mg base CX0 1 a (PySem.W.fnOf "_law_seen" "_law_seen" (defArgs s__law_seen) (defBody s__law_seen) (defScope s__law_seen) .none kV doc pm an cdv ct) ["island", "place"] (spFn K tabs ["island", "place"].length (defF false ["island", "place", "around", "arcs", "found", "k", "walked", "step"].length b__law_seen)) :=
  fn_ok (P := P) (w := w) (K := K) (mg := mg) (base := base) (x := "_law_seen") (qual := "_law_seen") (st := s__law_seen) (f := a) (N := ["island", "place", "around", "arcs", "found", "k", "walked", "step"]) (ps := ["island", "place"]) (k := 0) false (fb := b__law_seen) (tabs := tabs) (c := 0) (n := 0) lk hcd sc__law_seen (.inl rfl) fun A outer s H E ioa hr =>
  (mss_cons (ms_asg (m_var rfl (.inl rfl) rfl rfl) (mg_tup rfl rfl (mgs_cons (mg_name sc__law_seen.nd rfl (.inr rfl) (.inl rfl)) (mgs_cons (mg_name sc__law_seen.nd rfl (.inr rfl) (.inl rfl)) mgs_nil rfl) rfl) rfl rfl) rfl (fun _ z => nomatch z) rfl rfl rfl)
    (mss_cons (ms_set sc__law_seen.nd rfl (.inl rfl) (m_lst ma_nil) rfl rfl (.inl rfl))
    (mss_cons (ms_for PassesOwn.never rfl (mi_rng1 (by rfl) z_range (ma_cons (pe_lOf (m_blt rfl c_len (by rfl) z_len PySem.boot_len (ma_cons (m_lvar rfl (.inr (.inl rfl)) rfl rfl) ma_nil rfl) (by decide) rfl rfl rfl)) ma_nil rfl) rfl) (mg_name sc__law_seen.nd rfl (.inr rfl) (.inl rfl)) (mss_cons (ms_setLc (own := [("step", 7)]) rfl rfl rfl sc__law_seen.nd rfl rfl (sw_true rfl rfl rfl rfl) (mi_rng1 (by rfl) z_range (ma_cons (pe_lOf (m_idx rfl (pe_lOf (m_idx rfl (m_lvar rfl (.inr (.inl rfl)) rfl rfl) (m_lvar rfl (.inr (.inl rfl)) rfl rfl) (fun _ _ => rfl))) (pe_lOf m_int) (fun _ _ => rfl))) ma_nil rfl) rfl) (blkOk_by (by rfl)) (fun _ _ _ _ _ => (mg_name sc__law_seen.nd rfl (.inl rfl) (.inr rfl))) (fun _ _ _ _ _ => mts_nil) (fun _ _ _ _ _ => (m_bin o_mod (pe_lOf (m_bltT rfl c_int (by rfl) z_int boot_int (ma_cons (pe_lOf (m_bin o_add (pe_lOf (m_idx rfl (pe_lOf (m_idx rfl (m_lvar rfl (.inr (.inl rfl)) rfl rfl) (m_lvar rfl (.inr (.inl rfl)) rfl rfl) (fun _ _ => rfl))) (pe_lOf m_int) (fun _ _ => rfl))) (m_lvar rfl (.inl rfl) rfl rfl))) ma_nil rfl) (by decide) rfl rfl rfl)) (m_lvar rfl (.inr (.inl rfl)) rfl rfl))) (fun _ => rfl))
    (mss_one (ms_set sc__law_seen.nd rfl (.inl rfl) (m_bin o_add (m_lvar rfl (.inl rfl) rfl rfl) (pe_lOf (m_bin o_mul (pe_lOf (m_lst (ma_cons (m_lvar rfl (.inr (.inl rfl)) rfl rfl) ma_nil rfl))) (pe_lOf (m_bltT rfl c_int (by rfl) z_int boot_int (ma_cons (pe_lOf (m_cmp (o_in hr.units) rfl (m_lvar rfl (.inl rfl) rfl rfl) (m_lvar rfl (.inl rfl) rfl rfl))) ma_nil rfl) (by decide) rfl rfl rfl))))) rfl rfl (.inl rfl)))) rfl (fun _ => rfl))
    (mss_one (ms_ret (m_var rfl (.inl rfl) rfl rfl))))))
/-! law -/
abbrev s_law : Stmt := topS 21
theorem sc_law : FnScope ["script", "draws", "around", "arcs", "light", "island", "rows", "good", "number", "some", "runs", "place", "needed", "turn", "seen", "due", "odd", "k", "row", "arc", "size", "one", "value"] ["script"] (defScope s_law) := ⟨rfl, rfl, rfl, by decide +kernel, rfl, by decide +kernel, by decide +kernel⟩
def b_law : Bm :=
  (xSeq (xSet 1 (sCall f__law_draws (aCons (lVar 0) aNil)))
    (xSeq (xSet 2 (sBin gAdd (lOf (sC (.int 1))) (lOf (sCallIo f__law_take (aCons (lVar 1) (aCons (lOf (sC (.int 12))) aNil))))))
    (xSeq (xSet 3 (sLst aNil))
    (xSeq (xFor (iR1 (aCons (lOf (sBin gAdd (lOf (sC (.int 1))) (lOf (sCallIo f__law_take (aCons (lVar 1) (aCons (lOf (sC (.int 5))) aNil)))))) aNil)) (.nm 4) (xApp 3 (aCons (lOf (sTup (aCons (lOf (sCallIo f__law_take (aCons (lVar 1) (aCons (lVar 2) aNil)))) (aCons (lOf (sBin gAdd (lOf (sC (.int 1))) (lOf (sCallIo f__law_take (aCons (lVar 1) (aCons (lVar 2) aNil)))))) aNil)))) aNil)))
    (xSeq (xSet 5 (sTup (aCons (lVar 2) (aCons (lOf (sBlt gTuple (aCons (lVar 3) aNil))) aNil))))
    (xSeq (xIf (tNot2 (tTru (lOf (sCall f__law_says (aCons (lOf (sCall f_is_island (aCons (lVar 5) aNil))) (aCons (lOf (sC (.bool true))) aNil)))))) (xRet (sC (.bool false))) xPass)
    (xSeq (xSet 6 (sLc (iR1 (aCons (lVar 2) aNil)) (.nm 11) tYes2 (sCall f__law_seen (aCons (lVar 5) (aCons (lVar 11) aNil))) [11]))
    (xSeq (xIf (tNot2 (tTru (lOf (sCall (f__law_alike 6) (aCons (lOf (sCall f_dark_places (aCons (lVar 5) aNil))) (aCons (lOf (sBlt gTuple (aCons (lOf (sLc (iR1 (aCons (lVar 2) aNil)) (.nm 11) (tOfB (sBin gEq (lOf (sBin gIdx (lVar 6) (lVar 11))) (lOf (sLst aNil)))) (sVar 11) [11])) aNil))) aNil)))))) (xRet (sC (.bool false))) xPass)
    (xSeq (xSet 7 (sLst aNil))
    (xSeq (xFor (iR1 (aCons (lOf (sBin gShl (lOf (sC (.int 1))) (lOf (sBlt gLen (aCons (lVar 3) aNil))))) aNil)) (.nm 8) (xSeq (xSet 9 (sBlt gTuple (aCons (lOf (sLc (iR1 (aCons (lOf (sBlt gLen (aCons (lVar 3) aNil))) aNil)) (.nm 17) (tOfB (sBin gEq (lOf (sBin gAnd (lOf (sBin gShr (lVar 8) (lVar 17))) (lOf (sC (.int 1))))) (lOf (sC (.int 1))))) (sVar 17) [17])) aNil)))
    (xIf (tOfB (sBin gEq (lOf (sLc (iM (sVar 6)) (.nm 18) (tAnd2 (tOfB (sBin gNe (lVar 18) (lOf (sLst aNil)))) (tOfB (sBin gEq (lOf (sLc (iM (sVar 18)) (.nm 17) (tOfB (sBin gIn (lVar 17) (lVar 9))) (sVar 17) [17])) (lOf (sLst aNil))))) (sVar 18) [18])) (lOf (sLst aNil)))) (xApp 7 (aCons (lOf (sTup (aCons (lOf (sBlt gLen (aCons (lVar 9) aNil))) (aCons (lVar 9) aNil)))) aNil)) xPass)))
    (xSeq (xIf (tNot2 (tTru (lOf (sCall (f__law_alike 6) (aCons (lOf (sLst (aCons (lOf (sCall f_fewest_around (aCons (lVar 5) aNil))) (aCons (lOf (sCall f_most_around (aCons (lVar 5) aNil))) aNil)))) (aCons (lOf (sLst (aCons (lOf (sBin gIdx (lOf (sBlt gMin (aCons (lVar 7) aNil))) (lOf (sC (.int 1))))) (aCons (lOf (sBlt gMax (aCons (lOf (sLc (iM (sVar 6)) (.nm 18) tYes2 (sBlt gLen (aCons (lVar 18) aNil)) [18])) aNil))) aNil)))) aNil)))))) (xRet (sC (.bool false))) xPass)
    (xSeq (xIf (tOfB (sBin gLt (lOf (sBin gMul (lOf (sCall f_most_around (aCons (lVar 5) aNil))) (lVar 2))) (lOf (sBlt gSum (aCons (lOf (sLc (iM (sVar 3)) (.nm 19) tYes2 (sBin gIdx (lVar 19) (lOf (sC (.int 1)))) [19])) aNil))))) (xRet (sC (.bool false))) xPass)
    (xSeq (xSet 10 (sLst (aCons (lOf (sC (.int 0))) aNil)))
    (xSeq (xFor (iM (sBin gMul (lOf (sUn gLRng (lVar 2))) (lOf (sC (.int 2))))) (.nm 11) (xSet 10 (sIf (tOfB (sBin gEq (lOf (sBin gIdx (lVar 6) (lVar 11))) (lOf (sLst aNil)))) (sBin gAdd (lOf (sSlc (lVar 10) oNone (oSome (lOf (sUn gNeg (lOf (sC (.int 1)))))))) (lOf (sLst (aCons (lOf (sBin gAdd (lOf (sBin gIdx (lVar 10) (lOf (sUn gNeg (lOf (sC (.int 1))))))) (lOf (sC (.int 1))))) aNil)))) (sBin gAdd (lVar 10) (lOf (sLst (aCons (lOf (sC (.int 0))) aNil)))))))
    (xSeq (xSet 12 (sLc (iR1 (aCons (lOf (sBlt gLen (aCons (lVar 3) aNil))) aNil)) (.nm 17) (tOfB (sBin gIn (lOf (sLst (aCons (lVar 17) aNil))) (lVar 6))) (sVar 17) [17]))
    (xSeq (xIf (tNot2 (tTru (lOf (sCall (f__law_alike 6) (aCons (lOf (sLst (aCons (lOf (sCall f_longest_dark_around (aCons (lVar 5) aNil))) (aCons (lOf (sCall f_needed_lights (aCons (lVar 5) aNil))) aNil)))) (aCons (lOf (sLst (aCons (lOf (sBlt gMax (aCons (lVar 10) aNil))) (aCons (lOf (sBlt gTuple (aCons (lVar 12) aNil))) aNil)))) aNil)))))) (xRet (sC (.bool false))) xPass)
    (xSeq (xIf (tOfB (sBin gNe (lOf (sLc (iM (sVar 7)) (.tp (.cons (.nm 20) (.cons (.nm 21) .nil))) (tOfB (sBin gNe (lOf (sLc (iM (sVar 12)) (.nm 17) (tOfB (sBin gNi (lVar 17) (lVar 21))) (sVar 17) [17])) (lOf (sLst aNil)))) (sVar 21) [20, 21])) (lOf (sLst aNil)))) (xRet (sC (.bool false))) xPass)
    (xSeq (xFor (iR1 (aCons (lOf (sC (.int 12))) aNil)) (.nm 13) (xSeq (xSet 9 (sBlt gTuple (aCons (lOf (sLc (iR1 (aCons (lVar 2) aNil)) (.nm 11) (tOfB (sBin gEq (lOf (sCallIo f__law_take (aCons (lVar 1) (aCons (lOf (sC (.int 4))) aNil)))) (lOf (sC (.int 0))))) (sVar 11) [11])) aNil)))
    (xSeq (xSet 14 (sLst aNil))
    (xSeq (xFor (iM (sVar 9)) (.nm 11) (xSet 14 (sBin gAdd (lVar 14) (lOf (sBin gIdx (lVar 6) (lVar 11))))))
    (xSeq (xSet 15 (sAnd (sBin gEq (lOf (sLc (iM (sVar 9)) (.nm 11) (tOfB (sBin gEq (lOf (sBin gIdx (lVar 6) (lVar 11))) (lOf (sLst aNil)))) (sVar 11) [11])) (lOf (sLst aNil))) (sBin gEq (lOf (sUn gDcl (lOf (sLc (iM (sVar 14)) (.nm 17) tYes2 (sTup (aCons (lVar 17) (aCons (lOf (sC (.int 1))) aNil))) [17])))) (lOf (sBlt gLen (aCons (lVar 14) aNil))))))
    (xIf (tOr2 (tNot2 (tTru (lOf (sCall f__law_says (aCons (lOf (sCall f_are_marks (aCons (lVar 5) (aCons (lVar 9) aNil)))) (aCons (lVar 15) aNil)))))) (tAnd2 (tTru (lVar 15)) (tOfB (sBin gGt (lOf (sBlt gLen (aCons (lVar 9) aNil))) (lOf (sBin gIdx (lOf (sBlt gMin (aCons (lVar 7) aNil))) (lOf (sC (.int 0))))))))) (xRet (sC (.bool false))) xPass))))))
    (xSeq (xSet 16 (sLst (aCons (lOf (sC .none)) (aCons (lOf (sLst (aCons (lOf (sC (.int 0))) aNil))) (aCons (lOf (sTup (aCons (lVar 2) aNil))) (aCons (lOf (sTup (aCons (lOf (sUn gNeg (lOf (sC (.int 1))))) aNil))) (aCons (lOf (sTup (aCons (lOf (sC (.bool true))) aNil))) (aCons (lOf (sTup (aCons (lOf (sC .none)) aNil))) (aCons (lOf (sTup (aCons (lOf (sC (.int 0))) (aCons (lOf (sC (.int 0))) aNil)))) (aCons (lOf (sTup (aCons (lOf (sC (.int 1))) (aCons (lOf (sC (.int 0))) aNil)))) aNil))))))))))
    (xSeq (xIf (tOfB (sBin gNe (lOf (sLc (iM (sVar 16)) (.nm 22) (tNot2 (tTru (lOf (sCall f__law_says (aCons (lOf (sCall f_are_marks (aCons (lVar 5) (aCons (lVar 22) aNil)))) (aCons (lOf (sC (.bool false))) aNil)))))) (sVar 22) [22])) (lOf (sLst aNil)))) (xRet (sC (.bool false))) xPass)
    (xSeq (xSet 16 (sLst (aCons (lOf (sC .none)) (aCons (lOf (sBlt gList (aCons (lVar 5) aNil))) (aCons (lOf (sTup (aCons (lVar 2) aNil))) (aCons (lOf (sBin gAdd (lVar 5) (lOf (sTup (aCons (lOf (sC (.int 0))) aNil))))) (aCons (lOf (sTup (aCons (lOf (sC (.int 0))) (aCons (lOf (sTup (aCons (lOf (sTup (aCons (lOf (sC (.int 0))) (aCons (lOf (sC (.int 1))) aNil)))) aNil))) aNil)))) (aCons (lOf (sTup (aCons (lOf (sC (.int 201))) (aCons (lOf (sTup (aCons (lOf (sTup (aCons (lOf (sC (.int 0))) (aCons (lOf (sC (.int 1))) aNil)))) aNil))) aNil)))) (aCons (lOf (sTup (aCons (lVar 2) (aCons (lOf (sTup aNil)) aNil)))) (aCons (lOf (sTup (aCons (lVar 2) (aCons (lOf (sBlt gList (aCons (lVar 3) aNil))) aNil)))) (aCons (lOf (sTup (aCons (lVar 2) (aCons (lOf (sTup (aCons (lOf (sTup (aCons (lVar 2) (aCons (lOf (sC (.int 1))) aNil)))) aNil))) aNil)))) aNil)))))))))))
    (xSeq (xSet 16 (sBin gAdd (lVar 16) (lOf (sLst (aCons (lOf (sTup (aCons (lVar 2) (aCons (lOf (sTup (aCons (lOf (sTup (aCons (lOf (sC (.int 0))) (aCons (lOf (sC (.int 0))) aNil)))) aNil))) aNil)))) (aCons (lOf (sTup (aCons (lVar 2) (aCons (lOf (sTup (aCons (lOf (sTup (aCons (lOf (sC (.int 0))) (aCons (lOf (sBin gAdd (lVar 2) (lOf (sC (.int 1))))) aNil)))) aNil))) aNil)))) (aCons (lOf (sTup (aCons (lVar 2) (aCons (lOf (sTup (aCons (lOf (sTup (aCons (lOf (sC (.int 0))) aNil))) aNil))) aNil)))) (aCons (lOf (sTup (aCons (lVar 2) (aCons (lOf (sTup (aCons (lOf (sLst (aCons (lOf (sC (.int 0))) (aCons (lOf (sC (.int 1))) aNil)))) aNil))) aNil)))) (aCons (lOf (sTup (aCons (lVar 2) (aCons (lOf (sTup (aCons (lOf (sTup (aCons (lOf (sC (.bool true))) (aCons (lOf (sC (.int 1))) aNil)))) aNil))) aNil)))) (aCons (lOf (sTup (aCons (lOf (sC (.bool true))) (aCons (lOf (sTup (aCons (lOf (sTup (aCons (lOf (sC (.int 0))) (aCons (lOf (sC (.int 1))) aNil)))) aNil))) aNil)))) aNil))))))))))
    (xSeq (xSet 16 (sBin gAdd (lVar 16) (lOf (sLst (aCons (lOf (sTup (aCons (lVar 2) (aCons (lOf (sBin gMul (lOf (sTup (aCons (lOf (sTup (aCons (lOf (sC (.int 0))) (aCons (lOf (sC (.int 1))) aNil)))) aNil))) (lOf (sC (.int 11))))) aNil)))) aNil)))))
    (xRet (sBin gEq (lOf (sLc (iM (sVar 16)) (.nm 22) (tNot2 (tTru (lOf (sCall f__law_says (aCons (lOf (sCall f_is_island (aCons (lVar 22) aNil))) (aCons (lOf (sC (.bool false))) aNil)))))) (sVar 22) [22])) (lOf (sLst aNil)))))))))))))))))))))))))))
def f_law : FS := defF false 23 b_law
theorem ok_law {a : Addr} {oc kV doc pm ct : Value} {od an : Option Addr} {osl : Array (Option Value)} {a__law_draws : Addr} {d__law_draws : FuncData} {a__law_take : Addr} {d__law_take : FuncData} {a_is_island : Addr} {d_is_island : FuncData} {a__law_says : Addr} {d__law_says : FuncData} {a__law_seen : Addr} {d__law_seen : FuncData} {a_dark_places : Addr} {d_dark_places : FuncData} {a__law_alike : Addr} {d__law_alike : FuncData} {a_fewest_around : Addr} {d_fewest_around : FuncData} {a_most_around : Addr} {d_most_around : FuncData} {a_longest_dark_around : Addr} {d_longest_dark_around : FuncData} {a_needed_lights : Addr} {d_needed_lights : FuncData} {a_are_marks : Addr} {d_are_marks : FuncData} {cdv : Value}
    (lk : K.lookup a = some ⟨oc, od, .func (PySem.W.fnOf "law" "law" (defArgs s_law) (defBody s_law) (defScope s_law) .none kV doc pm an cdv ct), osl⟩) (hcd : PySem.W.codeIn K cdv "law" = true) (z_range : mg "range" = none) (z_tuple : mg "tuple" = none) (z_len : mg "len" = none) (z_min : mg "min" = none) (z_max : mg "max" = none) (z_sum : mg "sum" = none) (z_list : mg "list" = none) (z_dict : mg "dict" = none) (g__law_draws : mg "_law_draws" = some (.ref a__law_draws)) (k__law_draws : PySem.W.keepIn K (.ref a__law_draws) = true) (bi__law_draws : Binds K d__law_draws ["script"] []) (G__law_draws : FnOk P w K mg base CX0 1 a__law_draws d__law_draws ["script"] (spFn K tabs 1 f__law_draws)) (g__law_take : mg "_law_take" = some (.ref a__law_take)) (k__law_take : PySem.W.keepIn K (.ref a__law_take) = true) (bi__law_take : Binds K d__law_take ["draws", "bound"] []) (G__law_take : FnOk P w K mg base CX0 1 a__law_take d__law_take ["draws", "bound"] (spFn K tabs 2 f__law_take)) (g_is_island : mg "is_island" = some (.ref a_is_island)) (k_is_island : PySem.W.keepIn K (.ref a_is_island) = true) (bi_is_island : Binds K d_is_island ["value"] []) (G_is_island : FnOk P w K mg base CX0 4 a_is_island d_is_island ["value"] (spFn K tabs 1 f_is_island)) (g__law_says : mg "_law_says" = some (.ref a__law_says)) (k__law_says : PySem.W.keepIn K (.ref a__law_says) = true) (bi__law_says : Binds K d__law_says ["told", "due"] []) (G__law_says : FnOk P w K mg base CX0 1 a__law_says d__law_says ["told", "due"] (spFn K tabs 2 f__law_says)) (g__law_seen : mg "_law_seen" = some (.ref a__law_seen)) (k__law_seen : PySem.W.keepIn K (.ref a__law_seen) = true) (bi__law_seen : Binds K d__law_seen ["island", "place"] []) (G__law_seen : FnOk P w K mg base CX0 1 a__law_seen d__law_seen ["island", "place"] (spFn K tabs 2 f__law_seen)) (g_dark_places : mg "dark_places" = some (.ref a_dark_places)) (k_dark_places : PySem.W.keepIn K (.ref a_dark_places) = true) (bi_dark_places : Binds K d_dark_places ["island"] []) (G_dark_places : FnOk P w K mg base CX0 2 a_dark_places d_dark_places ["island"] (spFn K tabs 1 f_dark_places)) (g__law_alike : mg "_law_alike" = some (.ref a__law_alike)) (k__law_alike : PySem.W.keepIn K (.ref a__law_alike) = true) (bi__law_alike : Binds K d__law_alike ["found", "due"] []) (G__law_alike : FnOk P w K mg base CX0 6 a__law_alike d__law_alike ["found", "due"] (spFn K tabs 2 (f__law_alike 6))) (g_fewest_around : mg "fewest_around" = some (.ref a_fewest_around)) (k_fewest_around : PySem.W.keepIn K (.ref a_fewest_around) = true) (bi_fewest_around : Binds K d_fewest_around ["island"] []) (G_fewest_around : FnOk P w K mg base CX0 3 a_fewest_around d_fewest_around ["island"] (spFn K tabs 1 f_fewest_around)) (g_most_around : mg "most_around" = some (.ref a_most_around)) (k_most_around : PySem.W.keepIn K (.ref a_most_around) = true) (bi_most_around : Binds K d_most_around ["island"] []) (G_most_around : FnOk P w K mg base CX0 2 a_most_around d_most_around ["island"] (spFn K tabs 1 f_most_around)) (g_longest_dark_around : mg "longest_dark_around" = some (.ref a_longest_dark_around)) (k_longest_dark_around : PySem.W.keepIn K (.ref a_longest_dark_around) = true) (bi_longest_dark_around : Binds K d_longest_dark_around ["island"] []) (G_longest_dark_around : FnOk P w K mg base CX0 2 a_longest_dark_around d_longest_dark_around ["island"] (spFn K tabs 1 f_longest_dark_around)) (g_needed_lights : mg "needed_lights" = some (.ref a_needed_lights)) (k_needed_lights : PySem.W.keepIn K (.ref a_needed_lights) = true) (bi_needed_lights : Binds K d_needed_lights ["island"] []) (G_needed_lights : FnOk P w K mg base CX0 2 a_needed_lights d_needed_lights ["island"] (spFn K tabs 1 f_needed_lights)) (g_are_marks : mg "are_marks" = some (.ref a_are_marks)) (k_are_marks : PySem.W.keepIn K (.ref a_are_marks) = true) (bi_are_marks : Binds K d_are_marks ["island", "value"] []) (G_are_marks : FnOk P w K mg base CX0 3 a_are_marks d_are_marks ["island", "value"] (spFn K tabs 2 f_are_marks)) :
    FnOk P w K mg base CX0 7 a (PySem.W.fnOf "law" "law" (defArgs s_law) (defBody s_law) (defScope s_law) .none kV doc pm an cdv ct) ["script"] (spFn K tabs ["script"].length (defF false ["script", "draws", "around", "arcs", "light", "island", "rows", "good", "number", "some", "runs", "place", "needed", "turn", "seen", "due", "odd", "k", "row", "arc", "size", "one", "value"].length b_law)) :=
  fn_ok (P := P) (w := w) (K := K) (mg := mg) (base := base) (x := "law") (qual := "law") (st := s_law) (f := a) (N := ["script", "draws", "around", "arcs", "light", "island", "rows", "good", "number", "some", "runs", "place", "needed", "turn", "seen", "due", "odd", "k", "row", "arc", "size", "one", "value"]) (ps := ["script"]) (k := 6) false (fb := b_law) (tabs := tabs) (c := 0) (n := 0) lk hcd sc_law (.inl rfl) fun A outer s H E ioa hr =>
  (mss_cons (ms_set sc_law.nd rfl (.inr rfl) (m_call rfl G__law_draws (Room.mono hr (by decide)) (by rfl) g__law_draws k__law_draws bi__law_draws (ma_cons (m_lvar rfl (.inl rfl) rfl rfl) ma_nil rfl) rfl rfl rfl rfl (aLen_cons aLen_nil)) rfl rfl (.inl rfl))
    (mss_cons (ms_set sc_law.nd rfl (.inl rfl) (m_bin o_add (pe_lOf m_int) (pe_lOf (m_callIo rfl G__law_take (Room.mono hr (by decide)) (by rfl) g__law_take k__law_take bi__law_take (ma_cons (m_lvar rfl (.inr (.inl rfl)) rfl rfl) (ma_cons (pe_lOf m_int) ma_nil rfl) rfl) rfl rfl rfl (aLen_cons (aLen_cons aLen_nil))))) rfl rfl (.inl rfl))
    (mss_cons (ms_set sc_law.nd rfl (.inl rfl) (m_lst ma_nil) rfl rfl (.inl rfl))
    (mss_cons (ms_for PassesOwn.never rfl (mi_rng1 (by rfl) z_range (ma_cons (pe_lOf (m_bin o_add (pe_lOf m_int) (pe_lOf (m_callIo rfl G__law_take (Room.mono hr (by decide)) (by rfl) g__law_take k__law_take bi__law_take (ma_cons (m_lvar rfl (.inr (.inl rfl)) rfl rfl) (ma_cons (pe_lOf m_int) ma_nil rfl) rfl) rfl rfl rfl (aLen_cons (aLen_cons aLen_nil)))))) ma_nil rfl) rfl) (mg_name sc_law.nd rfl (.inl rfl) (.inl rfl)) (mss_one (ms_app rfl rfl (.inl rfl) rfl rfl (ma_cons (pe_lOf (m_tup (ma_cons (pe_lOf (m_callIo rfl G__law_take (Room.mono hr (by decide)) (by rfl) g__law_take k__law_take bi__law_take (ma_cons (m_lvar rfl (.inr (.inl rfl)) rfl rfl) (ma_cons (m_lvar rfl (.inl rfl) rfl rfl) ma_nil rfl) rfl) rfl rfl rfl (aLen_cons (aLen_cons aLen_nil)))) (ma_cons (pe_lOf (m_bin o_add (pe_lOf m_int) (pe_lOf (m_callIo rfl G__law_take (Room.mono hr (by decide)) (by rfl) g__law_take k__law_take bi__law_take (ma_cons (m_lvar rfl (.inr (.inl rfl)) rfl rfl) (ma_cons (m_lvar rfl (.inl rfl) rfl rfl) ma_nil rfl) rfl) rfl rfl rfl (aLen_cons (aLen_cons aLen_nil)))))) ma_nil rfl) rfl))) ma_nil rfl) rfl rfl rfl rfl rfl rfl)) rfl (fun _ => rfl))
    (mss_cons (ms_set sc_law.nd rfl (.inr rfl) (m_tup (ma_cons (m_lvar rfl (.inl rfl) rfl rfl) (ma_cons (pe_lOf (m_bltT rfl c_tuple (by rfl) z_tuple boot_tuple (ma_cons (m_lvar rfl (.inl rfl) rfl rfl) ma_nil rfl) (by decide) rfl rfl rfl)) ma_nil rfl) rfl)) rfl rfl (.inl rfl))
    (mss_cons (ms_if (mt_not (mt_tru (fun _ => rfl) (pe_lOf (m_call rfl G__law_says (Room.mono hr (by decide)) (by rfl) g__law_says k__law_says bi__law_says (ma_cons (pe_lOf (m_call rfl G_is_island (Room.mono hr (by decide)) (by rfl) g_is_island k_is_island bi_is_island (ma_cons (m_lvar rfl (.inr (.inl rfl)) rfl rfl) ma_nil rfl) rfl rfl rfl rfl (aLen_cons aLen_nil))) (ma_cons (pe_lOf m_bl) ma_nil rfl) rfl) rfl rfl rfl rfl (aLen_cons (aLen_cons aLen_nil)))) rfl)) (mss_one (ms_ret m_bl)) mss_nil)
    (mss_cons (ms_set sc_law.nd rfl (.inr rfl) (m_lc (own := [("place", 11)]) rfl rfl sc_law.nd (mi_rng1 (by rfl) z_range (ma_cons (m_lvar rfl (.inl rfl) rfl rfl) ma_nil rfl) rfl) (blkOk_by (by rfl)) (fun _ _ _ _ _ => (mg_name sc_law.nd rfl (.inl rfl) (.inr rfl))) (fun _ _ _ _ _ => mts_nil) (fun _ _ _ _ _ => (m_call rfl G__law_seen (Room.mono hr (by decide)) (by rfl) g__law_seen k__law_seen bi__law_seen (ma_cons (m_lvar rfl (.inr (.inl rfl)) rfl rfl) (ma_cons (m_lvar rfl (.inl rfl) rfl rfl) ma_nil rfl) rfl) rfl rfl rfl rfl (aLen_cons (aLen_cons aLen_nil)))) (fun _ => rfl)) rfl rfl (.inl rfl))
    (mss_cons (ms_if (mt_not (mt_tru (fun _ => rfl) (pe_lOf (m_call rfl G__law_alike (Room.mono hr (by decide)) (by rfl) g__law_alike k__law_alike bi__law_alike (ma_cons (pe_lOf (m_call rfl G_dark_places (Room.mono hr (by decide)) (by rfl) g_dark_places k_dark_places bi_dark_places (ma_cons (m_lvar rfl (.inr (.inl rfl)) rfl rfl) ma_nil rfl) rfl rfl rfl rfl (aLen_cons aLen_nil))) (ma_cons (pe_lOf (m_bltT rfl c_tuple (by rfl) z_tuple boot_tuple (ma_cons (pe_lOf (m_lc (own := [("place", 11)]) rfl rfl sc_law.nd (mi_rng1 (by rfl) z_range (ma_cons (m_lvar rfl (.inl rfl) rfl rfl) ma_nil rfl) rfl) (blkOk_by (by rfl)) (fun _ _ _ _ _ => (mg_name sc_law.nd rfl (.inl rfl) (.inr rfl))) (fun _ _ _ _ _ => (mts_one (mt_cmp (o_eq hr.units) rfl (pe_lOf (m_idx rfl (m_lvar rfl (.inr (.inl rfl)) rfl rfl) (m_lvar rfl (.inl rfl) rfl rfl) (fun _ _ => rfl))) (pe_lOf (m_lst ma_nil))))) (fun _ _ _ _ _ => (m_var rfl (.inl rfl) rfl rfl)) (fun _ => rfl))) ma_nil rfl) (by decide) rfl rfl rfl)) ma_nil rfl) rfl) rfl rfl rfl rfl (aLen_cons (aLen_cons aLen_nil)))) rfl)) (mss_one (ms_ret m_bl)) mss_nil)
    (mss_cons (ms_set sc_law.nd rfl (.inl rfl) (m_lst ma_nil) rfl rfl (.inl rfl))
    (mss_cons (ms_for PassesOwn.never rfl (mi_rng1 (by rfl) z_range (ma_cons (pe_lOf (m_bin o_shl (pe_lOf m_int) (pe_lOf (m_blt rfl c_len (by rfl) z_len PySem.boot_len (ma_cons (m_lvar rfl (.inl rfl) rfl rfl) ma_nil rfl) (by decide) rfl rfl rfl)))) ma_nil rfl) rfl) (mg_name sc_law.nd rfl (.inr rfl) (.inl rfl)) (mss_cons (ms_set sc_law.nd rfl (.inr rfl) (m_bltT rfl c_tuple (by rfl) z_tuple boot_tuple (ma_cons (pe_lOf (m_lc (own := [("k", 17)]) rfl rfl sc_law.nd (mi_rng1 (by rfl) z_range (ma_cons (pe_lOf (m_blt rfl c_len (by rfl) z_len PySem.boot_len (ma_cons (m_lvar rfl (.inl rfl) rfl rfl) ma_nil rfl) (by decide) rfl rfl rfl)) ma_nil rfl) rfl) (blkOk_by (by rfl)) (fun _ _ _ _ _ => (mg_name sc_law.nd rfl (.inl rfl) (.inr rfl))) (fun _ _ _ _ _ => (mts_one (mt_cmp (o_eq hr.units) rfl (pe_lOf (m_bin o_and (pe_lOf (m_bin o_shr (m_lvar rfl (.inr (.inl rfl)) rfl rfl) (m_lvar rfl (.inl rfl) rfl rfl))) (pe_lOf m_int))) (pe_lOf m_int)))) (fun _ _ _ _ _ => (m_var rfl (.inl rfl) rfl rfl)) (fun _ => rfl))) ma_nil rfl) (by decide) rfl rfl rfl) rfl rfl (.inl rfl))
    (mss_one (ms_if (mt_cmp (o_eq hr.units) rfl (pe_lOf (m_lc (own := [("row", 18)]) rfl rfl sc_law.nd (mi_m rfl (m_var rfl (.inr (.inl rfl)) rfl rfl)) (blkOk_by (by rfl)) (fun _ _ _ _ _ => (mg_name sc_law.nd rfl (.inl rfl) (.inr rfl))) (fun _ _ _ _ _ => (mts_one (mw_and (mt_cmp (o_ne hr.units) rfl (m_lvar rfl (.inl rfl) rfl rfl) (pe_lOf (m_lst ma_nil))) (mw_and1 (mt_cmp (o_eq hr.units) rfl (pe_lOf (m_lc (own := [("k", 17)]) rfl rfl sc_law.nd (mi_m rfl (m_var rfl (.inl rfl) rfl rfl)) (blkOk_by (by rfl)) (fun _ _ _ _ _ => (mg_name sc_law.nd rfl (.inl rfl) (.inr rfl))) (fun _ _ _ _ _ => (mts_one (mt_cmp (o_in hr.units) rfl (m_lvar rfl (.inl rfl) rfl rfl) (m_lvar rfl (.inr (.inl rfl)) rfl rfl)))) (fun _ _ _ _ _ => (m_var rfl (.inl rfl) rfl rfl)) (fun _ => rfl))) (pe_lOf (m_lst ma_nil))))).pt)) (fun _ _ _ _ _ => (m_var rfl (.inl rfl) rfl rfl)) (fun _ => rfl))) (pe_lOf (m_lst ma_nil))) (mss_one (ms_app rfl rfl (.inl rfl) rfl rfl (ma_cons (pe_lOf (m_tup (ma_cons (pe_lOf (m_blt rfl c_len (by rfl) z_len PySem.boot_len (ma_cons (m_lvar rfl (.inr (.inl rfl)) rfl rfl) ma_nil rfl) (by decide) rfl rfl rfl)) (ma_cons (m_lvar rfl (.inr (.inl rfl)) rfl rfl) ma_nil rfl) rfl))) ma_nil rfl) rfl rfl rfl rfl rfl rfl)) mss_nil))) rfl (fun _ => rfl))
    (mss_cons (ms_if (mt_not (mt_tru (fun _ => rfl) (pe_lOf (m_call rfl G__law_alike (Room.mono hr (by decide)) (by rfl) g__law_alike k__law_alike bi__law_alike (ma_cons (pe_lOf (m_lst (ma_cons (pe_lOf (m_call rfl G_fewest_around (Room.mono hr (by decide)) (by rfl) g_fewest_around k_fewest_around bi_fewest_around (ma_cons (m_lvar rfl (.inr (.inl rfl)) rfl rfl) ma_nil rfl) rfl rfl rfl rfl (aLen_cons aLen_nil))) (ma_cons (pe_lOf (m_call rfl G_most_around (Room.mono hr (by decide)) (by rfl) g_most_around k_most_around bi_most_around (ma_cons (m_lvar rfl (.inr (.inl rfl)) rfl rfl) ma_nil rfl) rfl rfl rfl rfl (aLen_cons aLen_nil))) ma_nil rfl) rfl))) (ma_cons (pe_lOf (m_lst (ma_cons (pe_lOf (m_idx rfl (pe_lOf (m_blt rfl (c_min rfl hr.units65) (by rfl) z_min PyProof.Rows.boot_min (ma_cons (m_lvar rfl (.inl rfl) rfl rfl) ma_nil rfl) (by decide) rfl rfl rfl)) (pe_lOf m_int) (fun _ _ => rfl))) (ma_cons (pe_lOf (m_blt rfl (c_max rfl hr.units65) (by rfl) z_max PyProof.Rows.boot_max (ma_cons (pe_lOf (m_lc (own := [("row", 18)]) rfl rfl sc_law.nd (mi_m rfl (m_var rfl (.inr (.inl rfl)) rfl rfl)) (blkOk_by (by rfl)) (fun _ _ _ _ _ => (mg_name sc_law.nd rfl (.inl rfl) (.inr rfl))) (fun _ _ _ _ _ => mts_nil) (fun _ _ _ _ _ => (m_blt rfl c_len (by rfl) z_len PySem.boot_len (ma_cons (m_lvar rfl (.inl rfl) rfl rfl) ma_nil rfl) (by decide) rfl rfl rfl)) (fun _ => rfl))) ma_nil rfl) (by decide) rfl rfl rfl)) ma_nil rfl) rfl))) ma_nil rfl) rfl) rfl rfl rfl rfl (aLen_cons (aLen_cons aLen_nil)))) rfl)) (mss_one (ms_ret m_bl)) mss_nil)
    (mss_cons (ms_if (mt_cmp (o_lt hr.units) rfl (pe_lOf (m_bin o_mul (pe_lOf (m_call rfl G_most_around (Room.mono hr (by decide)) (by rfl) g_most_around k_most_around bi_most_around (ma_cons (m_lvar rfl (.inr (.inl rfl)) rfl rfl) ma_nil rfl) rfl rfl rfl rfl (aLen_cons aLen_nil))) (m_lvar rfl (.inl rfl) rfl rfl))) (pe_lOf (m_blt rfl (c_sum rfl) (by rfl) z_sum PyProof.Rows.boot_sum (ma_cons (pe_lOf (m_lc (own := [("arc", 19)]) rfl rfl sc_law.nd (mi_m rfl (m_var rfl (.inl rfl) rfl rfl)) (blkOk_by (by rfl)) (fun _ _ _ _ _ => (mg_name sc_law.nd rfl (.inl rfl) (.inr rfl))) (fun _ _ _ _ _ => mts_nil) (fun _ _ _ _ _ => (m_idx rfl (m_lvar rfl (.inl rfl) rfl rfl) (pe_lOf m_int) (fun _ _ => rfl))) (fun _ => rfl))) ma_nil rfl) (by decide) rfl rfl rfl))) (mss_one (ms_ret m_bl)) mss_nil)
    (mss_cons (ms_set sc_law.nd rfl (.inl rfl) (m_lst (ma_cons (pe_lOf m_int) ma_nil rfl)) rfl rfl (.inl rfl))
    (mss_cons (ms_for PassesOwn.never rfl (mi_m rfl (m_bin o_mul (pe_lOf (m_lrng rfl rfl (by rfl) z_list (by rfl) z_range (m_lvar rfl (.inl rfl) rfl rfl) rfl rfl)) (pe_lOf m_int))) (mg_name sc_law.nd rfl (.inl rfl) (.inl rfl)) (mss_one (ms_set sc_law.nd rfl (.inl rfl) (m_if (mt_cmp (o_eq hr.units) rfl (pe_lOf (m_idx rfl (m_lvar rfl (.inr (.inl rfl)) rfl rfl) (m_lvar rfl (.inl rfl) rfl rfl) (fun _ _ => rfl))) (pe_lOf (m_lst ma_nil))) (m_bin o_add (pe_lOf (m_slc rfl (m_lvar rfl (.inl rfl) rfl rfl) mo_none (mo_some (pe_lOf (m_neg (pe_lOf m_int)))))) (pe_lOf (m_lst (ma_cons (pe_lOf (m_bin o_add (pe_lOf (m_idx rfl (m_lvar rfl (.inl rfl) rfl rfl) (pe_lOf (m_neg (pe_lOf m_int))) (fun _ _ => rfl))) (pe_lOf m_int))) ma_nil rfl)))) (m_bin o_add (m_lvar rfl (.inl rfl) rfl rfl) (pe_lOf (m_lst (ma_cons (pe_lOf m_int) ma_nil rfl))))) rfl rfl (.inl rfl))) rfl (fun _ => rfl))
    (mss_cons (ms_set sc_law.nd rfl (.inr rfl) (m_lc (own := [("k", 17)]) rfl rfl sc_law.nd (mi_rng1 (by rfl) z_range (ma_cons (pe_lOf (m_blt rfl c_len (by rfl) z_len PySem.boot_len (ma_cons (m_lvar rfl (.inl rfl) rfl rfl) ma_nil rfl) (by decide) rfl rfl rfl)) ma_nil rfl) rfl) (blkOk_by (by rfl)) (fun _ _ _ _ _ => (mg_name sc_law.nd rfl (.inl rfl) (.inr rfl))) (fun _ _ _ _ _ => (mts_one (mt_cmp (o_in hr.units) rfl (pe_lOf (m_lst (ma_cons (m_lvar rfl (.inl rfl) rfl rfl) ma_nil rfl))) (m_lvar rfl (.inr (.inl rfl)) rfl rfl)))) (fun _ _ _ _ _ => (m_var rfl (.inl rfl) rfl rfl)) (fun _ => rfl)) rfl rfl (.inl rfl))
    (mss_cons (ms_if (mt_not (mt_tru (fun _ => rfl) (pe_lOf (m_call rfl G__law_alike (Room.mono hr (by decide)) (by rfl) g__law_alike k__law_alike bi__law_alike (ma_cons (pe_lOf (m_lst (ma_cons (pe_lOf (m_call rfl G_longest_dark_around (Room.mono hr (by decide)) (by rfl) g_longest_dark_around k_longest_dark_around bi_longest_dark_around (ma_cons (m_lvar rfl (.inr (.inl rfl)) rfl rfl) ma_nil rfl) rfl rfl rfl rfl (aLen_cons aLen_nil))) (ma_cons (pe_lOf (m_call rfl G_needed_lights (Room.mono hr (by decide)) (by rfl) g_needed_lights k_needed_lights bi_needed_lights (ma_cons (m_lvar rfl (.inr (.inl rfl)) rfl rfl) ma_nil rfl) rfl rfl rfl rfl (aLen_cons aLen_nil))) ma_nil rfl) rfl))) (ma_cons (pe_lOf (m_lst (ma_cons (pe_lOf (m_blt rfl (c_max rfl hr.units65) (by rfl) z_max PyProof.Rows.boot_max (ma_cons (m_lvar rfl (.inl rfl) rfl rfl) ma_nil rfl) (by decide) rfl rfl rfl)) (ma_cons (pe_lOf (m_bltT rfl c_tuple (by rfl) z_tuple boot_tuple (ma_cons (m_lvar rfl (.inr (.inl rfl)) rfl rfl) ma_nil rfl) (by decide) rfl rfl rfl)) ma_nil rfl) rfl))) ma_nil rfl) rfl) rfl rfl rfl rfl (aLen_cons (aLen_cons aLen_nil)))) rfl)) (mss_one (ms_ret m_bl)) mss_nil)
    (mss_cons (ms_if (mt_cmp (o_ne hr.units) rfl (pe_lOf (m_lc (own := [("size", 20), ("one", 21)]) rfl rfl sc_law.nd (mi_m rfl (m_var rfl (.inl rfl) rfl rfl)) (blkOk_by (by rfl)) (fun _ _ _ _ _ => (mg_tup rfl rfl (mgs_cons (mg_name sc_law.nd rfl (.inl rfl) (.inr rfl)) (mgs_cons (mg_name sc_law.nd rfl (.inr rfl) (.inl rfl)) mgs_nil rfl) rfl) rfl rfl)) (fun _ _ _ _ _ => (mts_one (mt_cmp (o_ne hr.units) rfl (pe_lOf (m_lc (own := [("k", 17)]) rfl rfl sc_law.nd (mi_m rfl (m_var rfl (.inr (.inl rfl)) rfl rfl)) (blkOk_by (by rfl)) (fun _ _ _ _ _ => (mg_name sc_law.nd rfl (.inl rfl) (.inr rfl))) (fun _ _ _ _ _ => (mts_one (mt_cmp (o_ni hr.units) rfl (m_lvar rfl (.inl rfl) rfl rfl) (m_lvar rfl (.inr (.inl rfl)) rfl rfl)))) (fun _ _ _ _ _ => (m_var rfl (.inl rfl) rfl rfl)) (fun _ => rfl))) (pe_lOf (m_lst ma_nil))))) (fun _ _ _ _ _ => (m_var rfl (.inr (.inl rfl)) rfl rfl)) (fun _ => rfl))) (pe_lOf (m_lst ma_nil))) (mss_one (ms_ret m_bl)) mss_nil)
    (mss_cons (ms_for PassesOwn.never rfl (mi_rng1 (by rfl) z_range (ma_cons (pe_lOf m_int) ma_nil rfl) rfl) (mg_name sc_law.nd rfl (.inl rfl) (.inl rfl)) (mss_cons (ms_set sc_law.nd rfl (.inr rfl) (m_bltT rfl c_tuple (by rfl) z_tuple boot_tuple (ma_cons (pe_lOf (m_lc (own := [("place", 11)]) rfl rfl sc_law.nd (mi_rng1 (by rfl) z_range (ma_cons (m_lvar rfl (.inl rfl) rfl rfl) ma_nil rfl) rfl) (blkOk_by (by rfl)) (fun _ _ _ _ _ => (mg_name sc_law.nd rfl (.inl rfl) (.inr rfl))) (fun _ _ _ _ _ => (mts_one (mt_cmp (o_eq hr.units) rfl (pe_lOf (m_callIo rfl G__law_take (Room.mono hr (by decide)) (by rfl) g__law_take k__law_take bi__law_take (ma_cons (m_lvar rfl (.inr (.inl rfl)) rfl rfl) (ma_cons (pe_lOf m_int) ma_nil rfl) rfl) rfl rfl rfl (aLen_cons (aLen_cons aLen_nil)))) (pe_lOf m_int)))) (fun _ _ _ _ _ => (m_var rfl (.inl rfl) rfl rfl)) (fun _ => rfl))) ma_nil rfl) (by decide) rfl rfl rfl) rfl rfl (.inl rfl))
    (mss_cons (ms_set sc_law.nd rfl (.inl rfl) (m_lst ma_nil) rfl rfl (.inl rfl))
    (mss_cons (ms_for PassesOwn.never rfl (mi_m rfl (m_var rfl (.inr (.inl rfl)) rfl rfl)) (mg_name sc_law.nd rfl (.inl rfl) (.inl rfl)) (mss_one (ms_set sc_law.nd rfl (.inl rfl) (m_bin o_add (m_lvar rfl (.inl rfl) rfl rfl) (pe_lOf (m_idx rfl (m_lvar rfl (.inr (.inl rfl)) rfl rfl) (m_lvar rfl (.inl rfl) rfl rfl) (fun _ _ => rfl)))) rfl rfl (.inl rfl))) rfl (fun _ => rfl))
    (mss_cons (ms_set sc_law.nd rfl (.inl rfl) (m_and rfl (m_cmp (o_eq hr.units) rfl (pe_lOf (m_lc (own := [("place", 11)]) rfl rfl sc_law.nd (mi_m rfl (m_var rfl (.inr (.inl rfl)) rfl rfl)) (blkOk_by (by rfl)) (fun _ _ _ _ _ => (mg_name sc_law.nd rfl (.inl rfl) (.inr rfl))) (fun _ _ _ _ _ => (mts_one (mt_cmp (o_eq hr.units) rfl (pe_lOf (m_idx rfl (m_lvar rfl (.inr (.inl rfl)) rfl rfl) (m_lvar rfl (.inl rfl) rfl rfl) (fun _ _ => rfl))) (pe_lOf (m_lst ma_nil))))) (fun _ _ _ _ _ => (m_var rfl (.inl rfl) rfl rfl)) (fun _ => rfl))) (pe_lOf (m_lst ma_nil))) (pe_one (m_cmp (o_eq hr.units) rfl (pe_lOf (m_dcl rfl rfl (by rfl) z_len (by rfl) z_dict (pe_lOf (m_lc (own := [("k", 17)]) rfl rfl sc_law.nd (mi_m rfl (m_var rfl (.inl rfl) rfl rfl)) (blkOk_by (by rfl)) (fun _ _ _ _ _ => (mg_name sc_law.nd rfl (.inl rfl) (.inr rfl))) (fun _ _ _ _ _ => mts_nil) (fun _ _ _ _ _ => (m_tup (ma_cons (m_lvar rfl (.inl rfl) rfl rfl) (ma_cons (pe_lOf m_int) ma_nil rfl) rfl))) (fun _ => rfl))) rfl rfl)) (pe_lOf (m_blt rfl c_len (by rfl) z_len PySem.boot_len (ma_cons (m_lvar rfl (.inl rfl) rfl rfl) ma_nil rfl) (by decide) rfl rfl rfl))))) rfl rfl (.inl rfl))
    (mss_one (ms_if (mw_or (mt_not (mt_tru (fun _ => rfl) (pe_lOf (m_call rfl G__law_says (Room.mono hr (by decide)) (by rfl) g__law_says k__law_says bi__law_says (ma_cons (pe_lOf (m_call rfl G_are_marks (Room.mono hr (by decide)) (by rfl) g_are_marks k_are_marks bi_are_marks (ma_cons (m_lvar rfl (.inr (.inl rfl)) rfl rfl) (ma_cons (m_lvar rfl (.inr (.inl rfl)) rfl rfl) ma_nil rfl) rfl) rfl rfl rfl rfl (aLen_cons (aLen_cons aLen_nil)))) (ma_cons (m_lvar rfl (.inl rfl) rfl rfl) ma_nil rfl) rfl) rfl rfl rfl rfl (aLen_cons (aLen_cons aLen_nil)))) rfl)) (mw_or1 (mw_and (mt_tru (fun _ => rfl) (m_lvar rfl (.inl rfl) rfl rfl) rfl) (mw_and1 (mt_cmp (o_gt hr.units) rfl (pe_lOf (m_blt rfl c_len (by rfl) z_len PySem.boot_len (ma_cons (m_lvar rfl (.inr (.inl rfl)) rfl rfl) ma_nil rfl) (by decide) rfl rfl rfl)) (pe_lOf (m_idx rfl (pe_lOf (m_blt rfl (c_min rfl hr.units65) (by rfl) z_min PyProof.Rows.boot_min (ma_cons (m_lvar rfl (.inl rfl) rfl rfl) ma_nil rfl) (by decide) rfl rfl rfl)) (pe_lOf m_int) (fun _ _ => rfl)))))).pt)).pt (mss_one (ms_ret m_bl)) mss_nil)))))) rfl (fun _ => rfl))
    (mss_cons (ms_set sc_law.nd rfl (.inl rfl) (m_lst (ma_cons (pe_lOf m_non) (ma_cons (pe_lOf (m_lst (ma_cons (pe_lOf m_int) ma_nil rfl))) (ma_cons (pe_lOf (m_tup (ma_cons (m_lvar rfl (.inl rfl) rfl rfl) ma_nil rfl))) (ma_cons (pe_lOf (m_tup (ma_cons (pe_lOf (m_neg (pe_lOf m_int))) ma_nil rfl))) (ma_cons (pe_lOf (m_tup (ma_cons (pe_lOf m_bl) ma_nil rfl))) (ma_cons (pe_lOf (m_tup (ma_cons (pe_lOf m_non) ma_nil rfl))) (ma_cons (pe_lOf (m_tup (ma_cons (pe_lOf m_int) (ma_cons (pe_lOf m_int) ma_nil rfl) rfl))) (ma_cons (pe_lOf (m_tup (ma_cons (pe_lOf m_int) (ma_cons (pe_lOf m_int) ma_nil rfl) rfl))) ma_nil rfl) rfl) rfl) rfl) rfl) rfl) rfl) rfl)) rfl rfl (.inl rfl))
    (mss_cons (ms_if (mt_cmp (o_ne hr.units) rfl (pe_lOf (m_lc (own := [("value", 22)]) rfl rfl sc_law.nd (mi_m rfl (m_var rfl (.inl rfl) rfl rfl)) (blkOk_by (by rfl)) (fun _ _ _ _ _ => (mg_name sc_law.nd rfl (.inl rfl) (.inr rfl))) (fun _ _ _ _ _ => (mts_one (mt_not (mt_tru (fun _ => rfl) (pe_lOf (m_call rfl G__law_says (Room.mono hr (by decide)) (by rfl) g__law_says k__law_says bi__law_says (ma_cons (pe_lOf (m_call rfl G_are_marks (Room.mono hr (by decide)) (by rfl) g_are_marks k_are_marks bi_are_marks (ma_cons (m_lvar rfl (.inr (.inl rfl)) rfl rfl) (ma_cons (m_lvar rfl (.inl rfl) rfl rfl) ma_nil rfl) rfl) rfl rfl rfl rfl (aLen_cons (aLen_cons aLen_nil)))) (ma_cons (pe_lOf m_bl) ma_nil rfl) rfl) rfl rfl rfl rfl (aLen_cons (aLen_cons aLen_nil)))) rfl)))) (fun _ _ _ _ _ => (m_var rfl (.inl rfl) rfl rfl)) (fun _ => rfl))) (pe_lOf (m_lst ma_nil))) (mss_one (ms_ret m_bl)) mss_nil)
    (mss_cons (ms_set sc_law.nd rfl (.inl rfl) (m_lst (ma_cons (pe_lOf m_non) (ma_cons (pe_lOf (m_bltT rfl c_list (by rfl) z_list boot_list (ma_cons (m_lvar rfl (.inr (.inl rfl)) rfl rfl) ma_nil rfl) (by decide) rfl rfl rfl)) (ma_cons (pe_lOf (m_tup (ma_cons (m_lvar rfl (.inl rfl) rfl rfl) ma_nil rfl))) (ma_cons (pe_lOf (m_bin o_add (m_lvar rfl (.inr (.inl rfl)) rfl rfl) (pe_lOf (m_tup (ma_cons (pe_lOf m_int) ma_nil rfl))))) (ma_cons (pe_lOf (m_tup (ma_cons (pe_lOf m_int) (ma_cons (pe_lOf (m_tup (ma_cons (pe_lOf (m_tup (ma_cons (pe_lOf m_int) (ma_cons (pe_lOf m_int) ma_nil rfl) rfl))) ma_nil rfl))) ma_nil rfl) rfl))) (ma_cons (pe_lOf (m_tup (ma_cons (pe_lOf m_int) (ma_cons (pe_lOf (m_tup (ma_cons (pe_lOf (m_tup (ma_cons (pe_lOf m_int) (ma_cons (pe_lOf m_int) ma_nil rfl) rfl))) ma_nil rfl))) ma_nil rfl) rfl))) (ma_cons (pe_lOf (m_tup (ma_cons (m_lvar rfl (.inl rfl) rfl rfl) (ma_cons (pe_lOf (m_tup ma_nil)) ma_nil rfl) rfl))) (ma_cons (pe_lOf (m_tup (ma_cons (m_lvar rfl (.inl rfl) rfl rfl) (ma_cons (pe_lOf (m_bltT rfl c_list (by rfl) z_list boot_list (ma_cons (m_lvar rfl (.inl rfl) rfl rfl) ma_nil rfl) (by decide) rfl rfl rfl)) ma_nil rfl) rfl))) (ma_cons (pe_lOf (m_tup (ma_cons (m_lvar rfl (.inl rfl) rfl rfl) (ma_cons (pe_lOf (m_tup (ma_cons (pe_lOf (m_tup (ma_cons (m_lvar rfl (.inl rfl) rfl rfl) (ma_cons (pe_lOf m_int) ma_nil rfl) rfl))) ma_nil rfl))) ma_nil rfl) rfl))) ma_nil rfl) rfl) rfl) rfl) rfl) rfl) rfl) rfl) rfl)) rfl rfl (.inl rfl))
    (mss_cons (ms_set sc_law.nd rfl (.inl rfl) (m_bin o_add (m_lvar rfl (.inl rfl) rfl rfl) (pe_lOf (m_lst (ma_cons (pe_lOf (m_tup (ma_cons (m_lvar rfl (.inl rfl) rfl rfl) (ma_cons (pe_lOf (m_tup (ma_cons (pe_lOf (m_tup (ma_cons (pe_lOf m_int) (ma_cons (pe_lOf m_int) ma_nil rfl) rfl))) ma_nil rfl))) ma_nil rfl) rfl))) (ma_cons (pe_lOf (m_tup (ma_cons (m_lvar rfl (.inl rfl) rfl rfl) (ma_cons (pe_lOf (m_tup (ma_cons (pe_lOf (m_tup (ma_cons (pe_lOf m_int) (ma_cons (pe_lOf (m_bin o_add (m_lvar rfl (.inl rfl) rfl rfl) (pe_lOf m_int))) ma_nil rfl) rfl))) ma_nil rfl))) ma_nil rfl) rfl))) (ma_cons (pe_lOf (m_tup (ma_cons (m_lvar rfl (.inl rfl) rfl rfl) (ma_cons (pe_lOf (m_tup (ma_cons (pe_lOf (m_tup (ma_cons (pe_lOf m_int) ma_nil rfl))) ma_nil rfl))) ma_nil rfl) rfl))) (ma_cons (pe_lOf (m_tup (ma_cons (m_lvar rfl (.inl rfl) rfl rfl) (ma_cons (pe_lOf (m_tup (ma_cons (pe_lOf (m_lst (ma_cons (pe_lOf m_int) (ma_cons (pe_lOf m_int) ma_nil rfl) rfl))) ma_nil rfl))) ma_nil rfl) rfl))) (ma_cons (pe_lOf (m_tup (ma_cons (m_lvar rfl (.inl rfl) rfl rfl) (ma_cons (pe_lOf (m_tup (ma_cons (pe_lOf (m_tup (ma_cons (pe_lOf m_bl) (ma_cons (pe_lOf m_int) ma_nil rfl) rfl))) ma_nil rfl))) ma_nil rfl) rfl))) (ma_cons (pe_lOf (m_tup (ma_cons (pe_lOf m_bl) (ma_cons (pe_lOf (m_tup (ma_cons (pe_lOf (m_tup (ma_cons (pe_lOf m_int) (ma_cons (pe_lOf m_int) ma_nil rfl) rfl))) ma_nil rfl))) ma_nil rfl) rfl))) ma_nil rfl) rfl) rfl) rfl) rfl) rfl)))) rfl rfl (.inl rfl))
    (mss_cons (ms_set sc_law.nd rfl (.inl rfl) (m_bin o_add (m_lvar rfl (.inl rfl) rfl rfl) (pe_lOf (m_lst (ma_cons (pe_lOf (m_tup (ma_cons (m_lvar rfl (.inl rfl) rfl rfl) (ma_cons (pe_lOf (m_bin o_mul (pe_lOf (m_tup (ma_cons (pe_lOf (m_tup (ma_cons (pe_lOf m_int) (ma_cons (pe_lOf m_int) ma_nil rfl) rfl))) ma_nil rfl))) (pe_lOf m_int))) ma_nil rfl) rfl))) ma_nil rfl)))) rfl rfl (.inl rfl))
    (mss_one (ms_ret (m_cmp (o_eq hr.units) rfl (pe_lOf (m_lc (own := [("value", 22)]) rfl rfl sc_law.nd (mi_m rfl (m_var rfl (.inl rfl) rfl rfl)) (blkOk_by (by rfl)) (fun _ _ _ _ _ => (mg_name sc_law.nd rfl (.inl rfl) (.inr rfl))) (fun _ _ _ _ _ => (mts_one (mt_not (mt_tru (fun _ => rfl) (pe_lOf (m_call rfl G__law_says (Room.mono hr (by decide)) (by rfl) g__law_says k__law_says bi__law_says (ma_cons (pe_lOf (m_call rfl G_is_island (Room.mono hr (by decide)) (by rfl) g_is_island k_is_island bi_is_island (ma_cons (m_lvar rfl (.inl rfl) rfl rfl) ma_nil rfl) rfl rfl rfl rfl (aLen_cons aLen_nil))) (ma_cons (pe_lOf m_bl) ma_nil rfl) rfl) rfl rfl rfl rfl (aLen_cons (aLen_cons aLen_nil)))) rfl)))) (fun _ _ _ _ _ => (m_var rfl (.inl rfl) rfl rfl)) (fun _ => rfl))) (pe_lOf (m_lst ma_nil))))))))))))))))))))))))))))
end
end Cp

set_option maxRecDepth 100000
set_option maxHeartbeats 1000000
namespace Cp
open PySem PySem.Spec Mi
/-! ### is_number, is_arc -/
def isNum (v : D) (a b : Int) : Bool := match v with | .int i => decide (a ≤ i) && decide (i ≤ b) | _ => false
theorem is_number_eq (v : D) (a b : Int) : f_is_number [.val v, .val (.int a), .val (.int b)] = some (.d (.bool (isNum v a b)), none) := by
  cases v <;> simp only [f_is_number, defF, b_is_number, xPass, xBrk, xCnt, xRet, xRetN, xExpr, putRV, xSet, xAsg, asgT, asgTs, xSeq, xIf, xApp, sPop, xSub, xAug, xPar, xPar3, sVar, lVar, sC, lOf, lRes, lRess, locDs, frzA, frzLocs, sBin, sUn, sBlt, aCons, aNil, sTup, sLst, sIf, sAnd, sOr, sNot, sChn, sSlc, oNone, oSome, tOfB, tTru, truth, tAnd2, tOr2, tNot2, tYes2, sCall, sCallIo, iM, itemsD, RV.frz, outOf, List.getElem?_cons_zero, List.getElem?_cons_succ, List.set_cons_zero, List.set_cons_succ, List.length_cons, List.length_nil, gIsi, isTy, gLen, gInt, gAbs, gTuple, gList, Mi.gSub, gNeg, gIs, gIsN, Option.map_some, Option.map_none, List.append_nil, Nat.sub_self, List.replicate_zero, Bool.not_true, Bool.not_false, isNum]
  rename_i i
  simp only [gLe_ii]
  by_cases h : a ≤ i <;> simp [h, gLe_ii, outOf]
def isArc (n : Int) : D → Bool
  | .tuple [a, b] => isNum a 0 (n - 1) && isNum b 1 n
  | _ => false
theorem is_arc_eq (n : Int) (v : D) : f_is_arc [.val (.int n), .val v] = some (.d (.bool (isArc n v)), none) := by
  unfold f_is_arc defF b_is_arc
  cases v with
  | tuple xs =>
    rcases xs with _ | ⟨a, _ | ⟨b, _ | ⟨c, r⟩⟩⟩
    · simp only [xPass, xBrk, xCnt, xRet, xRetN, xExpr, putRV, xSet, xAsg, asgT, asgTs, xSeq, xIf, xApp, sPop, xSub, xAug, xPar, xPar3, sVar, lVar, sC, lOf, lRes, lRess, locDs, frzA, frzLocs, sBin, sUn, sBlt, aCons, aNil, sTup, sLst, sIf, sAnd, sOr, sNot, sChn, sSlc, oNone, oSome, tOfB, tTru, truth, tAnd2, tOr2, tNot2, tYes2, sCall, sCallIo, iM, itemsD, RV.frz, outOf, List.getElem?_cons_zero, List.getElem?_cons_succ, List.set_cons_zero, List.set_cons_succ, List.length_cons, List.length_nil, gIsi, isTy, gLen, gInt, gAbs, gTuple, gList, Mi.gSub, gNeg, gIs, gIsN, Option.map_some, Option.map_none, List.append_nil, Nat.sub_self, List.replicate_zero, Bool.not_true, Bool.not_false, gNe_ii, isArc]
      rfl
    · simp only [xPass, xBrk, xCnt, xRet, xRetN, xExpr, putRV, xSet, xAsg, asgT, asgTs, xSeq, xIf, xApp, sPop, xSub, xAug, xPar, xPar3, sVar, lVar, sC, lOf, lRes, lRess, locDs, frzA, frzLocs, sBin, sUn, sBlt, aCons, aNil, sTup, sLst, sIf, sAnd, sOr, sNot, sChn, sSlc, oNone, oSome, tOfB, tTru, truth, tAnd2, tOr2, tNot2, tYes2, sCall, sCallIo, iM, itemsD, RV.frz, outOf, List.getElem?_cons_zero, List.getElem?_cons_succ, List.set_cons_zero, List.set_cons_succ, List.length_cons, List.length_nil, gIsi, isTy, gLen, gInt, gAbs, gTuple, gList, Mi.gSub, gNeg, gIs, gIsN, Option.map_some, Option.map_none, List.append_nil, Nat.sub_self, List.replicate_zero, Bool.not_true, Bool.not_false, gNe_ii, isArc]
      rfl
    · have e0 : gIdx (.tuple [a, b]) (.int 0) = some (.d a) := gIdx_t (i := 0) rfl
      have e1 : gIdx (.tuple [a, b]) (.int 1) = some (.d b) := gIdx_t (i := 1) rfl
      simp only [xPass, xBrk, xCnt, xRet, xRetN, xExpr, putRV, xSet, xAsg, asgT, asgTs, xSeq, xIf, xApp, sPop, xSub, xAug, xPar, xPar3, sVar, lVar, sC, lOf, lRes, lRess, locDs, frzA, frzLocs, sBin, sUn, sBlt, aCons, aNil, sTup, sLst, sIf, sAnd, sOr, sNot, sChn, sSlc, oNone, oSome, tOfB, tTru, truth, tAnd2, tOr2, tNot2, tYes2, sCall, sCallIo, iM, itemsD, RV.frz, outOf, List.getElem?_cons_zero, List.getElem?_cons_succ, List.set_cons_zero, List.set_cons_succ, List.length_cons, List.length_nil, gIsi, isTy, gLen, gInt, gAbs, gTuple, gList, Mi.gSub, gNeg, gIs, gIsN, Option.map_some, Option.map_none, List.append_nil, Nat.sub_self, List.replicate_zero, Bool.not_true, Bool.not_false, gNe_ii, isArc, Nat.reduceAdd, Int.cast_ofNat_Int, decide_true, e0, e1, List.map_cons, List.map_nil, is_number_eq]
      cases h : isNum a 0 (n - 1) <;> simp [is_number_eq, outOf]
    · have h : decide (((r.length + 1 + 1 + 1 : Nat) : Int) = 2) = false := decide_eq_false (by omega)
      simp only [xPass, xBrk, xCnt, xRet, xRetN, xExpr, putRV, xSet, xAsg, asgT, asgTs, xSeq, xIf, xApp, sPop, xSub, xAug, xPar, xPar3, sVar, lVar, sC, lOf, lRes, lRess, locDs, frzA, frzLocs, sBin, sUn, sBlt, aCons, aNil, sTup, sLst, sIf, sAnd, sOr, sNot, sChn, sSlc, oNone, oSome, tOfB, tTru, truth, tAnd2, tOr2, tNot2, tYes2, sCall, sCallIo, iM, itemsD, RV.frz, outOf, List.getElem?_cons_zero, List.getElem?_cons_succ, List.set_cons_zero, List.set_cons_succ, List.length_cons, List.length_nil, gIsi, isTy, gLen, gInt, gAbs, gTuple, gList, Mi.gSub, gNeg, gIs, gIsN, Option.map_some, Option.map_none, List.append_nil, Nat.sub_self, List.replicate_zero, Bool.not_true, Bool.not_false, gNe_ii, isArc, h]
  | _ => simp only [xPass, xBrk, xCnt, xRet, xRetN, xExpr, putRV, xSet, xAsg, asgT, asgTs, xSeq, xIf, xApp, sPop, xSub, xAug, xPar, xPar3, sVar, lVar, sC, lOf, lRes, lRess, locDs, frzA, frzLocs, sBin, sUn, sBlt, aCons, aNil, sTup, sLst, sIf, sAnd, sOr, sNot, sChn, sSlc, oNone, oSome, tOfB, tTru, truth, tAnd2, tOr2, tNot2, tYes2, sCall, sCallIo, iM, itemsD, RV.frz, outOf, List.getElem?_cons_zero, List.getElem?_cons_succ, List.set_cons_zero, List.set_cons_succ, List.length_cons, List.length_nil, gIsi, isTy, gLen, gInt, gAbs, gTuple, gList, Mi.gSub, gNeg, gIs, gIsN, Option.map_some, Option.map_none, List.append_nil, Nat.sub_self, List.replicate_zero, Bool.not_true, Bool.not_false, isArc]
def isIsl : D → Bool
  | .tuple [.int n, .tuple xs] => isNum (.int n) 1 200 && (decide (1 ≤ (xs.length : Int)) && decide ((xs.length : Int) ≤ 10)) && xs.all (isArc n)
  | _ => false
/-- what is asked of values that are none -/
def oddIsl : D → Bool
  | .tuple [.int n, b] => match b with
    | .tuple xs => true
    | _ => true
  | _ => true
theorem is_island_eq (v : D) : f_is_island [.val v] = some (.d (.bool (isIsl v)), none) := by
  unfold f_is_island defF b_is_island
  cases v with
  | tuple xs =>
    rcases xs with _ | ⟨a, _ | ⟨b, _ | ⟨c, r⟩⟩⟩
    · simp only [xPass, xBrk, xCnt, xRet, xRetN, xExpr, putRV, xSet, xAsg, asgT, asgTs, xSeq, xIf, xApp, sPop, xSub, xAug, xPar, xPar3, sVar, lVar, sC, lOf, lRes, lRess, locDs, frzA, frzLocs, sBin, sUn, sBlt, aCons, aNil, sTup, sLst, sIf, sAnd, sOr, sNot, sChn, sSlc, oNone, oSome, tOfB, tTru, truth, tAnd2, tOr2, tNot2, tYes2, sCall, sCallIo, iM, itemsD, RV.frz, outOf, List.getElem?_cons_zero, List.getElem?_cons_succ, List.set_cons_zero, List.set_cons_succ, List.length_cons, List.length_nil, gIsi, isTy, gLen, gInt, gAbs, gTuple, gList, Mi.gSub, gNeg, gIs, gIsN, Option.map_some, Option.map_none, List.replicate, List.cons_append, List.nil_append, Nat.reduceSub, Bool.not_true, Bool.not_false, gNe_ii, isIsl]
      rfl
    · simp only [xPass, xBrk, xCnt, xRet, xRetN, xExpr, putRV, xSet, xAsg, asgT, asgTs, xSeq, xIf, xApp, sPop, xSub, xAug, xPar, xPar3, sVar, lVar, sC, lOf, lRes, lRess, locDs, frzA, frzLocs, sBin, sUn, sBlt, aCons, aNil, sTup, sLst, sIf, sAnd, sOr, sNot, sChn, sSlc, oNone, oSome, tOfB, tTru, truth, tAnd2, tOr2, tNot2, tYes2, sCall, sCallIo, iM, itemsD, RV.frz, outOf, List.getElem?_cons_zero, List.getElem?_cons_succ, List.set_cons_zero, List.set_cons_succ, List.length_cons, List.length_nil, gIsi, isTy, gLen, gInt, gAbs, gTuple, gList, Mi.gSub, gNeg, gIs, gIsN, Option.map_some, Option.map_none, List.replicate, List.cons_append, List.nil_append, Nat.reduceSub, Bool.not_true, Bool.not_false, gNe_ii, isIsl]
      rfl
    · have e0 : gIdx (.tuple [a, b]) (.int 0) = some (.d a) := gIdx_t (i := 0) rfl
      have e1 : gIdx (.tuple [a, b]) (.int 1) = some (.d b) := gIdx_t (i := 1) rfl
      cases h : isNum a 1 200 with
      | false =>
        simp only [xPass, xBrk, xCnt, xRet, xRetN, xExpr, putRV, xSet, xAsg, asgT, asgTs, xSeq, xIf, xApp, sPop, xSub, xAug, xPar, xPar3, sVar, lVar, sC, lOf, lRes, lRess, locDs, frzA, frzLocs, sBin, sUn, sBlt, aCons, aNil, sTup, sLst, sIf, sAnd, sOr, sNot, sChn, sSlc, oNone, oSome, tOfB, tTru, truth, tAnd2, tOr2, tNot2, tYes2, sCall, sCallIo, iM, itemsD, RV.frz, outOf, List.getElem?_cons_zero, List.getElem?_cons_succ, List.set_cons_zero, List.set_cons_succ, List.length_cons, List.length_nil, gIsi, isTy, gLen, gInt, gAbs, gTuple, gList, Mi.gSub, gNeg, gIs, gIsN, Option.map_some, Option.map_none, List.replicate, List.cons_append, List.nil_append, Nat.reduceSub, Nat.reduceAdd, Int.cast_ofNat_Int, decide_true, Bool.not_true, Bool.not_false, gNe_ii, e0, e1, List.map_cons, List.map_nil, is_number_eq, h]
        cases a <;> simp [isNum, isIsl] at h ⊢
        cases b <;> simp [isNum, isIsl, h]
        intro h1 h2
        have := h h1
        omega
      | true =>
        obtain ⟨n, rfl⟩ : ∃ n, a = .int n := by cases a <;> simp [isNum] at h; exact ⟨_, rfl⟩
        cases b with
        | tuple xs =>
          simp only [xPass, xBrk, xCnt, xRet, xRetN, xExpr, putRV, xSet, xAsg, asgT, asgTs, xSeq, xIf, xApp, sPop, xSub, xAug, xPar, xPar3, sVar, lVar, sC, lOf, lRes, lRess, locDs, frzA, frzLocs, sBin, sUn, sBlt, aCons, aNil, sTup, sLst, sIf, sAnd, sOr, sNot, sChn, sSlc, oNone, oSome, tOfB, tTru, truth, tAnd2, tOr2, tNot2, tYes2, sCall, sCallIo, iM, itemsD, RV.frz, outOf, List.getElem?_cons_zero, List.getElem?_cons_succ, List.set_cons_zero, List.set_cons_succ, List.length_cons, List.length_nil, gIsi, isTy, gLen, gInt, gAbs, gTuple, gList, Mi.gSub, gNeg, gIs, gIsN, Option.map_some, Option.map_none, List.replicate, List.cons_append, List.nil_append, Nat.reduceSub, Nat.reduceAdd, Int.cast_ofNat_Int, decide_true, Bool.not_true, Bool.not_false, gNe_ii, e0, e1, List.map_cons, List.map_nil, is_number_eq, h]
          by_cases h1 : (1 : Int) ≤ xs.length
          · by_cases h2 : (xs.length : Int) ≤ 10
            · have ha := all_pure (fi := iM (sBin gIdx (lVar 0) (lOf (sC (.int 1))))) (t := .nm 1) (fe := sCall f_is_arc (aCons (lOf (sBin gIdx (lVar 0) (lOf (sC (.int 0))))) (aCons (lVar 1) aNil))) (vs := [1]) (ρ := [.val (.tuple [.int n, .tuple xs]), .no]) (ρ1 := [.val (.tuple [.int n, .tuple xs]), .no]) (ds := xs) (isArc n)
                (by simp only [xPass, xBrk, xCnt, xRet, xRetN, xExpr, putRV, xSet, xAsg, asgT, asgTs, xSeq, xIf, xApp, sPop, xSub, xAug, xPar, xPar3, sVar, lVar, sC, lOf, lRes, lRess, locDs, frzA, frzLocs, sBin, sUn, sBlt, aCons, aNil, sTup, sLst, sIf, sAnd, sOr, sNot, sChn, sSlc, oNone, oSome, tOfB, tTru, truth, tAnd2, tOr2, tNot2, tYes2, sCall, sCallIo, iM, itemsD, RV.frz, outOf, List.getElem?_cons_zero, List.getElem?_cons_succ, List.set_cons_zero, List.set_cons_succ, List.length_cons, List.length_nil, gIsi, isTy, gLen, gInt, gAbs, gTuple, gList, Mi.gSub, gNeg, gIs, gIsN, Option.map_some, Option.map_none, e1]) rfl fun d hd => ⟨[.val (.tuple [.int n, .tuple xs]), .val d], [.val (.tuple [.int n, .tuple xs]), .val d], rfl, by simp only [xPass, xBrk, xCnt, xRet, xRetN, xExpr, putRV, xSet, xAsg, asgT, asgTs, xSeq, xIf, xApp, sPop, xSub, xAug, xPar, xPar3, sVar, lVar, sC, lOf, lRes, lRess, locDs, frzA, frzLocs, sBin, sUn, sBlt, aCons, aNil, sTup, sLst, sIf, sAnd, sOr, sNot, sChn, sSlc, oNone, oSome, tOfB, tTru, truth, tAnd2, tOr2, tNot2, tYes2, sCall, sCallIo, iM, itemsD, RV.frz, outOf, List.getElem?_cons_zero, List.getElem?_cons_succ, List.set_cons_zero, List.set_cons_succ, List.length_cons, List.length_nil, gIsi, isTy, gLen, gInt, gAbs, gTuple, gList, Mi.gSub, gNeg, gIs, gIsN, Option.map_some, Option.map_none, e0, List.map_cons, List.map_nil, is_arc_eq], rfl⟩
              simp only [gLe_ii, h1, h2, decide_true, Bool.not_true, ha, isIsl, h, Bool.and_true, Bool.true_and]
            · simp [gLe_ii, h1, h2, isIsl]
          · simp [gLe_ii, h1, isIsl]
        | _ => simp [xPass, xBrk, xCnt, xRet, xRetN, xExpr, putRV, xSet, xAsg, asgT, asgTs, xSeq, xIf, xApp, sPop, xSub, xAug, xPar, xPar3, sVar, lVar, sC, lOf, lRes, lRess, locDs, frzA, frzLocs, sBin, sUn, sBlt, aCons, aNil, sTup, sLst, sIf, sAnd, sOr, sNot, sChn, sSlc, oNone, oSome, tOfB, tTru, truth, tAnd2, tOr2, tNot2, tYes2, sCall, sCallIo, iM, itemsD, RV.frz, outOf, List.getElem?_cons_zero, List.getElem?_cons_succ, List.set_cons_zero, List.set_cons_succ, List.length_cons, List.length_nil, gIsi, isTy, gLen, gInt, gAbs, gTuple, gList, Mi.gSub, gNeg, gIs, gIsN, Option.map_some, Option.map_none, List.replicate, gNe_ii, e0, e1, is_number_eq, h, isIsl]
    · have h : decide (((r.length + 1 + 1 + 1 : Nat) : Int) = 2) = false := decide_eq_false (by omega)
      simp only [xPass, xBrk, xCnt, xRet, xRetN, xExpr, putRV, xSet, xAsg, asgT, asgTs, xSeq, xIf, xApp, sPop, xSub, xAug, xPar, xPar3, sVar, lVar, sC, lOf, lRes, lRess, locDs, frzA, frzLocs, sBin, sUn, sBlt, aCons, aNil, sTup, sLst, sIf, sAnd, sOr, sNot, sChn, sSlc, oNone, oSome, tOfB, tTru, truth, tAnd2, tOr2, tNot2, tYes2, sCall, sCallIo, iM, itemsD, RV.frz, outOf, List.getElem?_cons_zero, List.getElem?_cons_succ, List.set_cons_zero, List.set_cons_succ, List.length_cons, List.length_nil, gIsi, isTy, gLen, gInt, gAbs, gTuple, gList, Mi.gSub, gNeg, gIs, gIsN, Option.map_some, Option.map_none, List.replicate, List.cons_append, List.nil_append, Nat.reduceSub, Bool.not_true, Bool.not_false, gNe_ii, isIsl, h]
  | _ => simp [xPass, xBrk, xCnt, xRet, xRetN, xExpr, putRV, xSet, xAsg, asgT, asgTs, xSeq, xIf, xApp, sPop, xSub, xAug, xPar, xPar3, sVar, lVar, sC, lOf, lRes, lRess, locDs, frzA, frzLocs, sBin, sUn, sBlt, aCons, aNil, sTup, sLst, sIf, sAnd, sOr, sNot, sChn, sSlc, oNone, oSome, tOfB, tTru, truth, tAnd2, tOr2, tNot2, tYes2, sCall, sCallIo, iM, itemsD, RV.frz, outOf, List.getElem?_cons_zero, List.getElem?_cons_succ, List.set_cons_zero, List.set_cons_succ, List.length_cons, List.length_nil, gIsi, isTy, gLen, gInt, gAbs, gTuple, gList, Mi.gSub, gNeg, gIs, gIsN, Option.map_some, Option.map_none, List.replicate, isIsl]
/-! ### lights at a place -/
abbrev Arc := Nat × Nat
def arcD (a : Arc) : D := .tuple [iD a.1, iD a.2]
def isl (n : Nat) (A : List Arc) : D := .tuple [iD n, .tuple (A.map arcD)]
def lit (n : Nat) (a : Arc) (p : Nat) : Bool := decide (((p : Int) - (a.1 : Int)) % (n : Int) < (a.2 : Int))
/-- the lights that burn at a place -/
def rw (n : Nat) (A : List Arc) (p : Nat) : List Nat := (List.range A.length).filter fun k => lit n (A.getD k (0, 0)) p
theorem idx0 (n : Nat) (A : List Arc) : gIdx (isl n A) (.int 0) = some (.d (iD n)) := gIdx_t (i := 0) rfl
theorem idx1 (n : Nat) (A : List Arc) : gIdx (isl n A) (.int 1) = some (.d (.tuple (A.map arcD))) := gIdx_t (i := 1) rfl
theorem lights_at_eq (n : Nat) (hn : 0 < n) (A : List Arc) (hA : A.length ≤ 1000000) (p : Nat) : f_lights_at [.val (isl n A), .val (iD p)] = some (.fl ((rw n A p).map iD), none) := by
  refine fn_of (n := 7) (ds := [isl n A, iD p]) (rv := .fl ((rw n A p).map iD)) (ρ' := [.val (isl n A), .val (iD p), .val (iD n), .val (.tuple (A.map arcD)), .no, .no, .no]) ?_
  unfold b_lights_at
  rw [seq_nx (ρ1 := [.val (isl n A), .val (iD p), .val (iD n), .val (.tuple (A.map arcD)), .no, .no, .no]) rfl]
  unfold xRet
  have e1 : enumD 0 (A.map arcD) = (List.range A.length).map fun k => .tuple [iD k, arcD (A.getD k (0, 0))] := by
    rw [enumD_range, List.length_map]
    refine List.map_congr_left fun k hk => ?_
    rw [Nat.zero_add]
    have hk := List.mem_range.mp hk
    congr 3
    rw [List.getD_eq_getElem?_getD, List.getD_eq_getElem?_getD, List.getElem?_map, List.getElem?_eq_getElem hk]
    rfl
  rw [sLc_enc (fun k => .tuple [iD k, arcD (A.getD k (0, 0))]) (l := List.range A.length) (fun k => lit n (A.getD k (0, 0)) p) iD (ρ1 := [.val (isl n A), .val (iD p), .val (iD n), .val (.tuple (A.map arcD)), .no, .no, .no])
    (by simp only [iEnA, xPass, xBrk, xCnt, xRet, xRetN, xExpr, putRV, xSet, xAsg, asgT, asgTs, xSeq, xIf, xApp, sPop, xSub, xAug, xPar, xPar3, sVar, lVar, sC, lOf, lRes, lRess, locDs, frzA, frzLocs, sBin, sUn, sBlt, aCons, aNil, sTup, sLst, sIf, sAnd, sOr, sNot, sChn, sSlc, oNone, oSome, tOfB, tTru, truth, tAnd2, tOr2, tNot2, tYes2, sCall, sCallIo, iM, itemsD, RV.frz, outOf, List.getElem?_cons_zero, List.getElem?_cons_succ, List.set_cons_zero, List.set_cons_succ, List.length_cons, List.length_nil, gIsi, isTy, gLen, gInt, gAbs, gTuple, gList, Mi.gSub, gNeg, gIs, gIsN, Option.map_some, Option.map_none, e1]) rfl (fun k _ => by
      refine ⟨[.val (isl n A), .val (iD p), .val (iD n), .val (.tuple (A.map arcD)), .val (iD k), .val (iD (A.getD k (0, 0)).1), .val (iD (A.getD k (0, 0)).2)], [.val (isl n A), .val (iD p), .val (iD n), .val (.tuple (A.map arcD)), .val (iD k), .val (iD (A.getD k (0, 0)).1), .val (iD (A.getD k (0, 0)).2)], rfl, ?_, fun _ => rfl, fun _ => ⟨.d (iD k), _, rfl, rfl, rfl⟩⟩
      have h0 : (0 : Int) < (n : Int) := by omega
      simp only [xPass, xBrk, xCnt, xRet, xRetN, xExpr, putRV, xSet, xAsg, asgT, asgTs, xSeq, xIf, xApp, sPop, xSub, xAug, xPar, xPar3, sVar, lVar, sC, lOf, lRes, lRess, locDs, frzA, frzLocs, sBin, sUn, sBlt, aCons, aNil, sTup, sLst, sIf, sAnd, sOr, sNot, sChn, sSlc, oNone, oSome, tOfB, tTru, truth, tAnd2, tOr2, tNot2, tYes2, sCall, sCallIo, iM, itemsD, RV.frz, outOf, List.getElem?_cons_zero, List.getElem?_cons_succ, List.set_cons_zero, List.set_cons_succ, List.length_cons, List.length_nil, gIsi, isTy, gLen, gInt, gAbs, gTuple, gList, Mi.gSub, gNeg, gIs, gIsN, Option.map_some, Option.map_none, iD, gSub_ii, gMod_ii h0, gLt_ii, lit]) (by rw [List.length_range]; exact hA)]
  rfl
/-! ### dark places -/
def dark (n : Nat) (A : List Arc) (p : Nat) : Bool := (rw n A p).isEmpty
theorem len0 (l : List Nat) : decide (((l.length : Nat) : Int) = 0) = l.isEmpty := by
  cases l
  · rfl
  · exact decide_eq_false (by rw [List.length_cons]; omega)
theorem lOfs_idx0 (n : Nat) (A : List Arc) (r : DEnv) : aCons (lOf (sBin gIdx (lVar 0) (lOf (sC (.int 0))))) aNil (.val (isl n A) :: r) = some ([.d (iD n)], .val (isl n A) :: r) := by
  simp only [xPass, xBrk, xCnt, xRet, xRetN, xExpr, putRV, xSet, xAsg, asgT, asgTs, xSeq, xIf, xApp, sPop, xSub, xAug, xPar, xPar3, sVar, lVar, sC, lOf, lRes, lRess, locDs, frzA, frzLocs, sBin, sUn, sBlt, aCons, aNil, sTup, sLst, sIf, sAnd, sOr, sNot, sChn, sSlc, oNone, oSome, tOfB, tTru, truth, tAnd2, tOr2, tNot2, tYes2, sCall, sCallIo, iM, itemsD, RV.frz, outOf, List.getElem?_cons_zero, List.getElem?_cons_succ, List.set_cons_zero, List.set_cons_succ, List.length_cons, List.length_nil, gIsi, isTy, gLen, gInt, gAbs, gTuple, gList, Mi.gSub, gNeg, gIs, gIsN, Option.map_some, Option.map_none, idx0]
theorem dark_places_eq (n : Nat) (hn : 0 < n) (h1 : n ≤ 1000000) (A : List Arc) (hA : A.length ≤ 1000000) : f_dark_places [.val (isl n A)] = some (.d (.tuple (((List.range n).filter (dark n A)).map iD)), none) := by
  refine fn_of (n := 2) (ds := [isl n A]) (ρ' := [.val (isl n A), .no]) ?_
  unfold b_dark_places
  refine xRet_eq (blt1f (rw := .fl (((List.range n).filter (dark n A)).map iD)) (sLc_enc iD (l := List.range n) (dark n A) iD
    (iR1_nat (l := .d (iD n)) (lOfs_idx0 ..) rfl h1) rfl (fun k _ => ?_) (by rw [List.length_range]; exact h1)) rfl)
  refine ⟨[.val (isl n A), .val (iD k)], [.val (isl n A), .val (iD k)], rfl, ?_, fun _ => rfl, fun _ => ⟨.d (iD k), _, rfl, rfl, rfl⟩⟩
  simp only [xPass, xBrk, xCnt, xRet, xRetN, xExpr, putRV, xSet, xAsg, asgT, asgTs, xSeq, xIf, xApp, sPop, xSub, xAug, xPar, xPar3, sVar, lVar, sC, lOf, lRes, lRess, locDs, frzA, frzLocs, sBin, sUn, sBlt, aCons, aNil, sTup, sLst, sIf, sAnd, sOr, sNot, sChn, sSlc, oNone, oSome, tOfB, tTru, truth, tAnd2, tOr2, tNot2, tYes2, sCall, sCallIo, iM, itemsD, RV.frz, outOf, List.getElem?_cons_zero, List.getElem?_cons_succ, List.set_cons_zero, List.set_cons_succ, List.length_cons, List.length_nil, gIsi, isTy, gLen, gInt, gAbs, gTuple, gList, Mi.gSub, gNeg, gIs, gIsN, Option.map_some, Option.map_none, List.map_cons, List.map_nil, lights_at_eq n hn A hA, List.length_map, gEq_ii, len0, dark]
end Cp

set_option maxRecDepth 100000
set_option maxHeartbeats 1000000
namespace Cp
open PySem PySem.Spec Mi
section
variable (n : Nat) (hn : 0 < n) (h1 : n ≤ 1000000) (A : List Arc) (hA : A.length ≤ 1000000)
/-- the rows of lights, place by place -/
def rws (n : Nat) (A : List Arc) : List (List Nat) := (List.range n).map (rw n A)
def lstD (r : List Nat) : D := .list (r.map iD)
include hn h1 hA
theorem most_around_eq : f_most_around [.val (isl n A)] = some (.d (iD (maxN ((rws n A).map List.length))), none) := by
  refine fn_of (n := 2) (ds := [isl n A]) (ρ' := [.val (isl n A), .no]) ?_
  unfold b_most_around
  refine xRet_eq (blt1f (rw := .fl ((List.range n).map fun p => iD (rw n A p).length)) (sLc_map iD (l := List.range n) (fun p => iD (rw n A p).length)
    (iR1_nat (l := .d (iD n)) (lOfs_idx0 ..) rfl h1) rfl (fun k _ => ?_) (by rw [List.length_range]; exact h1)) ?_)
  · refine ⟨[.val (isl n A), .val (iD k)], .d (iD (rw n A k).length), [.val (isl n A), .val (iD k)], rfl, ?_, rfl, rfl⟩
    simp only [xPass, xBrk, xCnt, xRet, xRetN, xExpr, putRV, xSet, xAsg, asgT, asgTs, xSeq, xIf, xApp, sPop, xSub, xAug, xPar, xPar3, sVar, lVar, sC, lOf, lRes, lRess, locDs, frzA, frzLocs, sBin, sUn, sBlt, aCons, aNil, sTup, sLst, sIf, sAnd, sOr, sNot, sChn, sSlc, oNone, oSome, tOfB, tTru, truth, tAnd2, tOr2, tNot2, tYes2, sCall, sCallIo, iM, itemsD, RV.frz, outOf, List.getElem?_cons_zero, List.getElem?_cons_succ, List.set_cons_zero, List.set_cons_succ, List.length_cons, List.length_nil, gIsi, isTy, gLen, gInt, gAbs, gTuple, gList, Mi.gSub, gNeg, gIs, gIsN, Option.map_some, Option.map_none, List.map_cons, List.map_nil, lights_at_eq n hn A hA, List.length_map]
    rfl
  · have e : (List.range n).map (fun p => iD (rw n A p).length) = ((rws n A).map List.length).map iD := by
      unfold rws
      rw [List.map_map, List.map_map]
      rfl
    show gMax [.list ((List.range n).map fun p => iD (rw n A p).length)] = _
    rw [e]
    refine gMax_nat fun z => ?_
    have := congrArg List.length z
    rw [List.length_map] at this
    unfold rws at this
    rw [List.length_map, List.length_range] at this
    simp at this
    omega
theorem needed_lights_eq : f_needed_lights [.val (isl n A)] = some (.d (.tuple (((List.range A.length).filter fun k => (rws n A).contains [k]).map iD)), none) := by
  refine fn_of (n := 4) (ds := [isl n A]) (ρ' := [.val (isl n A), .own ((rws n A).map lstD), .no, .no]) ?_
  unfold b_needed_lights
  have er : (List.range n).map (fun p => lstD (rw n A p)) = (rws n A).map lstD := by
    unfold rws
    rw [List.map_map]
    rfl
  refine (seq_nx (xSet_eq (rv := .fl ((rws n A).map lstD)) (ρ1 := [.val (isl n A), .no, .no, .no]) (er ▸ sLc_map iD (l := List.range n) (fun p => lstD (rw n A p))
    (iR1_nat (l := .d (iD n)) (lOfs_idx0 ..) rfl h1) rfl (fun k _ => by
      refine ⟨[.val (isl n A), .no, .val (iD k), .no], .fl ((rw n A k).map iD), [.val (isl n A), .no, .val (iD k), .no], rfl, ?_, rfl, rfl⟩
      simp only [xPass, xBrk, xCnt, xRet, xRetN, xExpr, putRV, xSet, xAsg, asgT, asgTs, xSeq, xIf, xApp, sPop, xSub, xAug, xPar, xPar3, sVar, lVar, sC, lOf, lRes, lRess, locDs, frzA, frzLocs, sBin, sUn, sBlt, aCons, aNil, sTup, sLst, sIf, sAnd, sOr, sNot, sChn, sSlc, oNone, oSome, tOfB, tTru, truth, tAnd2, tOr2, tNot2, tYes2, sCall, sCallIo, iM, itemsD, RV.frz, outOf, List.getElem?_cons_zero, List.getElem?_cons_succ, List.set_cons_zero, List.set_cons_succ, List.length_cons, List.length_nil, gIsi, isTy, gLen, gInt, gAbs, gTuple, gList, Mi.gSub, gNeg, gIs, gIsN, Option.map_some, Option.map_none, List.map_cons, List.map_nil, lights_at_eq n hn A hA]) (by rw [List.length_range]; exact h1)) (by simp))).trans ?_
  refine xRet_eq (blt1f (rw := .fl (((List.range A.length).filter fun k => (rws n A).contains [k]).map iD)) (sLc_enc iD (l := List.range A.length) (fun k => (rws n A).contains [k]) iD
    (iR1_nat (l := .d (iD A.length)) (by simp only [xPass, xBrk, xCnt, xRet, xRetN, xExpr, putRV, xSet, xAsg, asgT, asgTs, xSeq, xIf, xApp, sPop, xSub, xAug, xPar, xPar3, sVar, lVar, sC, lOf, lRes, lRess, locDs, frzA, frzLocs, sBin, sUn, sBlt, aCons, aNil, sTup, sLst, sIf, sAnd, sOr, sNot, sChn, sSlc, oNone, oSome, tOfB, tTru, truth, tAnd2, tOr2, tNot2, tYes2, sCall, sCallIo, iM, itemsD, RV.frz, outOf, List.getElem?_cons_zero, List.getElem?_cons_succ, List.set_cons_zero, List.set_cons_succ, List.length_cons, List.length_nil, gIsi, isTy, gLen, gInt, gAbs, gTuple, gList, Mi.gSub, gNeg, gIs, gIsN, Option.map_some, Option.map_none, idx1, List.length_map]; rfl) rfl hA) rfl (fun k _ => ?_) (by rw [List.length_range]; exact hA)) rfl)
  refine ⟨[.val (isl n A), .own ((rws n A).map lstD), .no, .val (iD k)], [.val (isl n A), .own ((rws n A).map lstD), .no, .val (iD k)], rfl, ?_, fun _ => rfl, fun _ => ⟨.d (iD k), _, rfl, rfl, rfl⟩⟩
  have e : gIn (.list [iD k]) (.list ((rws n A).map lstD)) = _ := gIn_rows (rws n A) [k]
  have hz : (1 : Nat) ≤ sizeLine := fits (by omega)
  simp only [xPass, xBrk, xCnt, xRet, xRetN, xExpr, putRV, xSet, xAsg, asgT, asgTs, xSeq, xIf, xApp, sPop, xSub, xAug, xPar, xPar3, sVar, lVar, sC, lOf, lRes, lRess, locDs, frzA, frzLocs, sBin, sUn, sBlt, aCons, aNil, sTup, sLst, sIf, sAnd, sOr, sNot, sChn, sSlc, oNone, oSome, tOfB, tTru, truth, tAnd2, tOr2, tNot2, tYes2, sCall, sCallIo, iM, itemsD, RV.frz, outOf, List.getElem?_cons_zero, List.getElem?_cons_succ, List.set_cons_zero, List.set_cons_succ, List.length_cons, List.length_nil, gIsi, isTy, gLen, gInt, gAbs, gTuple, gList, Mi.gSub, gNeg, gIs, gIsN, Option.map_some, Option.map_none, List.set_cons_succ, Nat.reduceAdd, hz, if_true, e]
end
end Cp

set_option maxRecDepth 100000
set_option maxHeartbeats 1000000
namespace Cp
open PySem PySem.Spec Mi
/-- the rows in which a light burns -/
def lrs (n : Nat) (A : List Arc) : List (List Nat) := (rws n A).filter fun r => !r.isEmpty
/-- a set of lights that every such row meets -/
def hit (n : Nat) (A : List Arc) (s : List Nat) : Bool := (lrs n A).all fun r => r.any fun k => s.contains k
def good (n : Nat) (A : List Arc) : List NP := ((List.range (2 ^ A.length)).filter fun k => hit n A (sel A.length k)).map fun k => ((sel A.length k).length, sel A.length k)
theorem len_gt0 (l : List Nat) : decide ((0 : Int) < ((l.length : Nat) : Int)) = !l.isEmpty := by
  cases l
  · rfl
  · exact decide_eq_true (by rw [List.length_cons]; omega)
theorem bit_lc {m k : Nat} {ρ : DEnv} {s a b : Nat} (hm : m ≤ 1000000) (hb : b < ρ.length) (ha : ρ[a]? = some (.val (iD k))) (hs : ρ[s]? = some (.val (iD m))) (hab : a ≠ b) (hsb : s ≠ b) (hno : isOwn ρ[b]? = false) :
    sLc (iR1 (aCons (lVar s) aNil)) (.nm b) (tOfB (sBin gEq (lOf (sBin gAnd (lOf (sBin gShr (lVar a) (lVar b))) (lOf (sC (.int 1))))) (lOf (sC (.int 1))))) (sVar b) [b] ρ = some (.fl ((sel m k).map iD), ρ) := by
  have hw : wipeD ρ [b] = ρ.set b .no := rfl
  refine sLc_enc iD (l := List.range m) (bit k) iD (iR1_nat (l := .d (iD m)) (by simp only [xPass, xBrk, xCnt, xRet, xRetN, xExpr, putRV, xSet, xAsg, asgT, asgTs, xSeq, xIf, xApp, sPop, xSub, xAug, xPar, xPar3, sVar, lVar, sC, lOf, lRes, lRess, locDs, frzA, frzLocs, sBin, sUn, sBlt, aCons, aNil, sTup, sLst, sIf, sAnd, sOr, sNot, sChn, sSlc, oNone, oSome, tOfB, tTru, truth, tAnd2, tOr2, tNot2, tYes2, sCall, sCallIo, iM, itemsD, RV.frz, outOf, List.getElem?_cons_zero, List.getElem?_cons_succ, List.set_cons_zero, List.set_cons_succ, List.length_cons, List.length_nil, gIsi, isTy, gLen, gInt, gAbs, gTuple, gList, Mi.gSub, gNeg, gIs, gIsN, Option.map_some, Option.map_none, hs]) rfl hm) (by simp [noOwn, hno]) (fun i _ => ?_) (by rw [List.length_range]; exact hm)
  have e1 : (ρ.set b .no).length = ρ.length := List.length_set ..
  have g1 : ((ρ.set b .no).set b (.val (iD i)))[a]? = some (.val (iD k)) := by rw [List.getElem?_set_ne (Ne.symm hab), List.getElem?_set_ne (Ne.symm hab), ha]
  have g2 : ((ρ.set b .no).set b (.val (iD i)))[b]? = some (.val (iD i)) := List.getElem?_set_self (by rw [e1]; exact hb)
  have hz : wipeD ((ρ.set b .no).set b (.val (iD i))) [b] = wipeD ρ [b] := by
    show ((ρ.set b .no).set b (.val (iD i))).set b .no = ρ.set b .no
    rw [List.set_set, List.set_set]
  refine ⟨(ρ.set b .no).set b (.val (iD i)), (ρ.set b .no).set b (.val (iD i)), ?_, ?_, fun _ => hz, fun _ => ⟨.d (iD i), _, ?_, rfl, hz⟩⟩
  · rw [hw]
    simp only [asgT, e1, hb, if_true]
  · simp only [xPass, xBrk, xCnt, xRet, xRetN, xExpr, putRV, xSet, xAsg, asgT, asgTs, xSeq, xIf, xApp, sPop, xSub, xAug, xPar, xPar3, sVar, lVar, sC, lOf, lRes, lRess, locDs, frzA, frzLocs, sBin, sUn, sBlt, aCons, aNil, sTup, sLst, sIf, sAnd, sOr, sNot, sChn, sSlc, oNone, oSome, tOfB, tTru, truth, tAnd2, tOr2, tNot2, tYes2, sCall, sCallIo, iM, itemsD, RV.frz, outOf, List.getElem?_cons_zero, List.getElem?_cons_succ, List.set_cons_zero, List.set_cons_succ, List.length_cons, List.length_nil, gIsi, isTy, gLen, gInt, gAbs, gTuple, gList, Mi.gSub, gNeg, gIs, gIsN, Option.map_some, Option.map_none, g1, g2, gShr_nat, gAnd_ii, gEq_ii, bit]
  · simp only [xPass, xBrk, xCnt, xRet, xRetN, xExpr, putRV, xSet, xAsg, asgT, asgTs, xSeq, xIf, xApp, sPop, xSub, xAug, xPar, xPar3, sVar, lVar, sC, lOf, lRes, lRess, locDs, frzA, frzLocs, sBin, sUn, sBlt, aCons, aNil, sTup, sLst, sIf, sAnd, sOr, sNot, sChn, sSlc, oNone, oSome, tOfB, tTru, truth, tAnd2, tOr2, tNot2, tYes2, sCall, sCallIo, iM, itemsD, RV.frz, outOf, List.getElem?_cons_zero, List.getElem?_cons_succ, List.set_cons_zero, List.set_cons_succ, List.length_cons, List.length_nil, gIsi, isTy, gLen, gInt, gAbs, gTuple, gList, Mi.gSub, gNeg, gIs, gIsN, Option.map_some, Option.map_none, g2]
section
variable (n : Nat) (hn : 0 < n) (h1 : n ≤ 1000000) (A : List Arc) (hA : A.length ≤ 10)
include hn h1 hA
theorem two_pow_le : 2 ^ A.length ≤ 1000000 := by
  have : 2 ^ A.length ≤ 2 ^ 10 := Nat.pow_le_pow_right (by omega) hA
  omega
theorem sel_len (m k : Nat) : (sel m k).length ≤ m := by
  have := List.length_filter_le (bit k) (List.range m)
  rw [List.length_range] at this
  exact this
theorem fewest_around_eq (mn : NP) (hmn : gMin [.list ((good n A).map npD)] = some (.d (npD mn))) : f_fewest_around [.val (isl n A)] = some (.d (.tuple (mn.2.map iD)), none) := by
  have hA' : A.length ≤ 1000000 := by omega
  have hp := two_pow_le n hn h1 A hA
  have er : (List.range n).map (fun p => lstD (rw n A p)) = (rws n A).map lstD := by
    unfold rws
    rw [List.map_map]
    rfl
  let enc : List NP → ({s : Slot // Holds ((lrs n A).map lstD) s} × Slot × Slot) → DEnv := fun s x => [.val (isl n A), x.1.1, .own (s.map npD), .val (iD A.length), x.2.1, x.2.2, .no, .no, .no]
  let step : List NP → Nat → List NP := fun s k => if hit n A (sel A.length k) = true then s ++ [((sel A.length k).length, sel A.length k)] else s
  have loop := for_foldN (t := .nm 4) (body := (xSeq (xSet 5 (sLc (iR1 (aCons (lVar 3) aNil)) (.nm 8) (tOfB (sBin gEq (lOf (sBin gAnd (lOf (sBin gShr (lVar 4) (lVar 8))) (lOf (sC (.int 1))))) (lOf (sC (.int 1))))) (sVar 8) [8]))
    (xIf (tTru (lOf (sGen false (iM (sVar 1)) (.nm 7) tYes2 (sGen true (iM (sVar 7)) (.nm 8) tYes2 (sBin gIn (lVar 8) (lVar 5)) [8]) [7]))) (xApp 2 (aCons (lOf (sTup (aCons (lOf (sBlt gLen (aCons (lVar 5) aNil))) (aCons (lOf (sBlt gTuple (aCons (lVar 5) aNil))) aNil)))) aNil)) xPass)))
    enc iD step (fun j s => s.length ≤ j) (l := List.range (2 ^ A.length)) (j := 0) (s := []) (x := (⟨.own ((lrs n A).map lstD), .inl rfl⟩, .no, .no)) (Nat.le_refl _) (fun k _ i s x hs hi => ?_)
  · obtain ⟨_, x', loop⟩ := loop
    have ef : (List.range (2 ^ A.length)).foldl step [] = good n A := by
      have := foldl_app (fun k => hit n A (sel A.length k)) (fun k => ((sel A.length k).length, sel A.length k)) (List.range (2 ^ A.length)) []
      rw [List.nil_append] at this
      exact this
    rw [ef] at loop
    refine fn_of (n := 9) (ds := [isl n A]) (ρ' := enc (good n A) x') ?_
    unfold b_fewest_around
    refine (seq_nx (xSet_eq (rv := .fl ((rws n A).map lstD)) (ρ1 := [.val (isl n A), .no, .no, .no, .no, .no, .no, .no, .no]) (er ▸ sLc_map iD (l := List.range n) (fun p => lstD (rw n A p))
      (iR1_nat (l := .d (iD n)) (lOfs_idx0 ..) rfl h1) rfl (fun k _ => by
        refine ⟨[.val (isl n A), .no, .no, .no, .no, .no, .val (iD k), .no, .no], .fl ((rw n A k).map iD), [.val (isl n A), .no, .no, .no, .no, .no, .val (iD k), .no, .no], rfl, ?_, rfl, rfl⟩
        simp only [xPass, xBrk, xCnt, xRet, xRetN, xExpr, putRV, xSet, xAsg, asgT, asgTs, xSeq, xIf, xApp, sPop, xSub, xAug, xPar, xPar3, sVar, lVar, sC, lOf, lRes, lRess, locDs, frzA, frzLocs, sBin, sUn, sBlt, aCons, aNil, sTup, sLst, sIf, sAnd, sOr, sNot, sChn, sSlc, oNone, oSome, tOfB, tTru, truth, tAnd2, tOr2, tNot2, tYes2, sCall, sCallIo, iM, itemsD, RV.frz, outOf, List.getElem?_cons_zero, List.getElem?_cons_succ, List.set_cons_zero, List.set_cons_succ, List.length_cons, List.length_nil, gIsi, isTy, gLen, gInt, gAbs, gTuple, gList, Mi.gSub, gNeg, gIs, gIsN, Option.map_some, Option.map_none, List.map_cons, List.map_nil, lights_at_eq n hn A hA']) (by rw [List.length_range]; exact h1)) (by simp))).trans ?_
    refine (seq_nx (xSet_eq (rv := .fl ((lrs n A).map lstD)) (ρ1 := [.val (isl n A), .val (.list ((rws n A).map lstD)), .no, .no, .no, .no, .no, .no, .no]) (sLc_enc lstD (l := rws n A) (fun r => !r.isEmpty) lstD
      rfl rfl (fun r _ => by
        refine ⟨[.val (isl n A), .val (.list ((rws n A).map lstD)), .no, .no, .no, .no, .no, .val (lstD r), .no], [.val (isl n A), .val (.list ((rws n A).map lstD)), .no, .no, .no, .no, .no, .val (lstD r), .no], rfl, ?_, fun _ => rfl, fun _ => ⟨.d (lstD r), _, rfl, rfl, rfl⟩⟩
        simp only [xPass, xBrk, xCnt, xRet, xRetN, xExpr, putRV, xSet, xAsg, asgT, asgTs, xSeq, xIf, xApp, sPop, xSub, xAug, xPar, xPar3, sVar, lVar, sC, lOf, lRes, lRess, locDs, frzA, frzLocs, sBin, sUn, sBlt, aCons, aNil, sTup, sLst, sIf, sAnd, sOr, sNot, sChn, sSlc, oNone, oSome, tOfB, tTru, truth, tAnd2, tOr2, tNot2, tYes2, sCall, sCallIo, iM, itemsD, RV.frz, outOf, List.getElem?_cons_zero, List.getElem?_cons_succ, List.set_cons_zero, List.set_cons_succ, List.length_cons, List.length_nil, gIsi, isTy, gLen, gInt, gAbs, gTuple, gList, Mi.gSub, gNeg, gIs, gIsN, Option.map_some, Option.map_none, lstD, List.length_map, gGt_ii, len_gt0]) (by unfold rws; rw [List.length_map, List.length_range]; exact h1)) (by simp))).trans ?_
    refine (seq_nx (ρ1 := [.val (isl n A), .own ((lrs n A).map lstD), .own [], .no, .no, .no, .no, .no, .no]) (by simp [xPass, xBrk, xCnt, xRet, xRetN, xExpr, putRV, xSet, xAsg, asgT, asgTs, xSeq, xIf, xApp, sPop, xSub, xAug, xPar, xPar3, sVar, lVar, sC, lOf, lRes, lRess, locDs, frzA, frzLocs, sBin, sUn, sBlt, aCons, aNil, sTup, sLst, sIf, sAnd, sOr, sNot, sChn, sSlc, oNone, oSome, tOfB, tTru, truth, tAnd2, tOr2, tNot2, tYes2, sCall, sCallIo, iM, itemsD, RV.frz, outOf, List.getElem?_cons_zero, List.getElem?_cons_succ, List.set_cons_zero, List.set_cons_succ, List.length_cons, List.length_nil, gIsi, isTy, gLen, gInt, gAbs, gTuple, gList, Mi.gSub, gNeg, gIs, gIsN, Option.map_some, Option.map_none])).trans ?_
    refine (seq_nx (ρ1 := enc [] (⟨.own ((lrs n A).map lstD), .inl rfl⟩, .no, .no)) (by simp only [xPass, xBrk, xCnt, xRet, xRetN, xExpr, putRV, xSet, xAsg, asgT, asgTs, xSeq, xIf, xApp, sPop, xSub, xAug, xPar, xPar3, sVar, lVar, sC, lOf, lRes, lRess, locDs, frzA, frzLocs, sBin, sUn, sBlt, aCons, aNil, sTup, sLst, sIf, sAnd, sOr, sNot, sChn, sSlc, oNone, oSome, tOfB, tTru, truth, tAnd2, tOr2, tNot2, tYes2, sCall, sCallIo, iM, itemsD, RV.frz, outOf, List.getElem?_cons_zero, List.getElem?_cons_succ, List.set_cons_zero, List.set_cons_succ, List.length_cons, List.length_nil, gIsi, isTy, gLen, gInt, gAbs, gTuple, gList, Mi.gSub, gNeg, gIs, gIsN, Option.map_some, Option.map_none, idx1, List.length_map]; rfl)).trans ?_
    refine (seq_nx (xFor_eq (ds := (List.range (2 ^ A.length)).map iD) (ρ1 := enc [] (⟨.own ((lrs n A).map lstD), .inl rfl⟩, .no, .no)) (iR1_nat (l := .d (iD (2 ^ A.length))) ?_ rfl hp) loop)).trans ?_
    · have := gShl_1 A.length hA'
      simp only [enc, xPass, xBrk, xCnt, xRet, xRetN, xExpr, putRV, xSet, xAsg, asgT, asgTs, xSeq, xIf, xApp, sPop, xSub, xAug, xPar, xPar3, sVar, lVar, sC, lOf, lRes, lRess, locDs, frzA, frzLocs, sBin, sUn, sBlt, aCons, aNil, sTup, sLst, sIf, sAnd, sOr, sNot, sChn, sSlc, oNone, oSome, tOfB, tTru, truth, tAnd2, tOr2, tNot2, tYes2, sCall, sCallIo, iM, itemsD, RV.frz, outOf, List.getElem?_cons_zero, List.getElem?_cons_succ, List.set_cons_zero, List.set_cons_succ, List.length_cons, List.length_nil, gIsi, isTy, gLen, gInt, gAbs, gTuple, gList, Mi.gSub, gNeg, gIs, gIsN, Option.map_some, Option.map_none, this]
    · refine xRet_eq (bin_eq (lOf_eq (blt1 (l := .at 2) (d := .list ((good n A).map npD)) rfl rfl hmn)) rfl rfl rfl ?_)
      exact gIdx_t (i := 1) rfl
  · obtain ⟨⟨s1, hs1⟩, x4, x5⟩ := x
    have hlt : s.length < sizeLine := by
      rw [sizeLine_eq]
      rw [List.length_range] at hi
      omega
    refine ⟨?_, ?_⟩
    · show (if _ then _ else _ : List NP).length ≤ i + 1
      split
      · rw [List.length_append]; simp; omega
      · omega
    refine ⟨[.val (isl n A), s1, .own (s.map npD), .val (iD A.length), .val (iD k), x5, .no, .no, .no], .nx, (⟨.val (.list ((lrs n A).map lstD)), .inr rfl⟩, .val (iD k), .own ((sel A.length k).map iD)), rfl, ?_, .inl rfl⟩
    refine (seq_nx (xSet_eq (rv := .fl ((sel A.length k).map iD)) (bit_lc (ρ := [.val (isl n A), s1, .own (s.map npD), .val (iD A.length), .val (iD k), x5, .no, .no, .no]) hA' (by simp) rfl rfl (by decide) (by decide) rfl) (by simp))).trans ?_
    have cond : sGen false (iM (sVar 1)) (.nm 7) tYes2 (sGen true (iM (sVar 7)) (.nm 8) tYes2 (sBin gIn (lVar 8) (lVar 5)) [8]) [7] [.val (isl n A), s1, .own (s.map npD), .val (iD A.length), .val (iD k), .own ((sel A.length k).map iD), .no, .no, .no]
        = some (.d (.bool (hit n A (sel A.length k))), [.val (isl n A), .val (.list ((lrs n A).map lstD)), .own (s.map npD), .val (iD A.length), .val (iD k), .own ((sel A.length k).map iD), .no, .no, .no]) := by
      refine all_enc lstD (l := lrs n A) (fun r => r.any fun k' => (sel A.length k).contains k') ?_ rfl fun r _ => ?_
      · rcases hs1 with rfl | rfl <;> rfl
      · refine ⟨[.val (isl n A), .val (.list ((lrs n A).map lstD)), .own (s.map npD), .val (iD A.length), .val (iD k), .own ((sel A.length k).map iD), .no, .val (lstD r), .no], [.val (isl n A), .val (.list ((lrs n A).map lstD)), .own (s.map npD), .val (iD A.length), .val (iD k), .own ((sel A.length k).map iD), .no, .val (lstD r), .no], rfl, ?_, rfl⟩
        refine any_enc iD (l := r) (fun k' => (sel A.length k).contains k') rfl rfl fun k' _ => ?_
        refine ⟨[.val (isl n A), .val (.list ((lrs n A).map lstD)), .own (s.map npD), .val (iD A.length), .val (iD k), .own ((sel A.length k).map iD), .no, .val (lstD r), .val (iD k')], [.val (isl n A), .val (.list ((lrs n A).map lstD)), .own (s.map npD), .val (iD A.length), .val (iD k), .own ((sel A.length k).map iD), .no, .val (lstD r), .val (iD k')], rfl, ?_, rfl⟩
        have := gIn_nat (sel A.length k) k'
        simp only [xPass, xBrk, xCnt, xRet, xRetN, xExpr, putRV, xSet, xAsg, asgT, asgTs, xSeq, xIf, xApp, sPop, xSub, xAug, xPar, xPar3, sVar, lVar, sC, lOf, lRes, lRess, locDs, frzA, frzLocs, sBin, sUn, sBlt, aCons, aNil, sTup, sLst, sIf, sAnd, sOr, sNot, sChn, sSlc, oNone, oSome, tOfB, tTru, truth, tAnd2, tOr2, tNot2, tYes2, sCall, sCallIo, iM, itemsD, RV.frz, outOf, List.getElem?_cons_zero, List.getElem?_cons_succ, List.set_cons_zero, List.set_cons_succ, List.length_cons, List.length_nil, gIsi, isTy, gLen, gInt, gAbs, gTuple, gList, Mi.gSub, gNeg, gIs, gIsN, Option.map_some, Option.map_none, this]
    have htr := tru_eq (b := hit n A (sel A.length k)) cond rfl
    cases hh : hit n A (sel A.length k) with
    | true =>
      rw [hh] at htr
      refine (if_t htr).trans ?_
      have hstep : step s k = s ++ [((sel A.length k).length, sel A.length k)] := if_pos hh
      rw [hstep]
      have hz2 : (2 : Nat) ≤ sizeLine := fits (by omega)
      simp only [enc, xPass, xBrk, xCnt, xRet, xRetN, xExpr, putRV, xSet, xAsg, asgT, asgTs, xSeq, xIf, xApp, sPop, xSub, xAug, xPar, xPar3, sVar, lVar, sC, lOf, lRes, lRess, locDs, frzA, frzLocs, sBin, sUn, sBlt, aCons, aNil, sTup, sLst, sIf, sAnd, sOr, sNot, sChn, sSlc, oNone, oSome, tOfB, tTru, truth, tAnd2, tOr2, tNot2, tYes2, sCall, sCallIo, iM, itemsD, RV.frz, outOf, List.getElem?_cons_zero, List.getElem?_cons_succ, List.set_cons_zero, List.set_cons_succ, List.length_cons, List.length_nil, gIsi, isTy, gLen, gInt, gAbs, gTuple, gList, Mi.gSub, gNeg, gIs, gIsN, Option.map_some, Option.map_none, List.length_map, hlt, if_true, Nat.reduceAdd, hz2, List.map_append, List.map_cons, List.map_nil]
      rfl
    | false =>
      rw [hh] at htr
      refine (if_f htr).trans ?_
      have hstep : step s k = s := if_neg (by rw [hh]; exact Bool.false_ne_true)
      rw [hstep]
      rfl
end
end Cp

set_option maxRecDepth 100000
set_option maxHeartbeats 1000000
namespace Cp
open PySem PySem.Spec Mi
theorem wh_run {c : Mi.Tm} {body : Bm} {ρ : Nat → DEnv} {r : Nat} (h1 : ∀ j, j < r → c (ρ j) = some (true, ρ j) ∧ body (ρ j) = some (.nx, ρ (j + 1))) (h2 : c (ρ r) = some (false, ρ r)) :
    ∀ (fuel j : Nat), j ≤ r → r - j < fuel → whGo c body fuel (ρ j) = some (.nx, ρ r)
  | 0, j, hj, hf => by omega
  | fuel + 1, j, hj, hf => by
    by_cases e : j = r
    · subst e
      simp only [whGo, h2]
    · obtain ⟨a, b⟩ := h1 j (by omega)
      simp only [whGo, a, b]
      exact wh_run h1 h2 fuel (j + 1) (by omega) (by omega)
/-- how many places are dark, one behind the other, from b on; at most all -/
def run (n : Nat) (A : List Arc) (b : Nat) : Nat := ((List.range n).takeWhile fun i => dark n A ((b + i) % n)).length
theorem takeWhile_lt {α : Type} (p : α → Bool) : ∀ (l : List α) (j : Nat), j < (l.takeWhile p).length → ∃ x, l[j]? = some x ∧ p x = true
  | [], j, h => by simp at h
  | a :: l, j, h => by
    by_cases ha : p a = true
    · rw [List.takeWhile_cons, if_pos ha, List.length_cons] at h
      cases j with
      | zero => exact ⟨a, rfl, ha⟩
      | succ j => exact takeWhile_lt p l j (by omega)
    · rw [List.takeWhile_cons, if_neg ha] at h
      simp at h
theorem takeWhile_at {α : Type} (p : α → Bool) : ∀ (l : List α), (∃ x, l[(l.takeWhile p).length]? = some x ∧ p x = false) ∨ (l.takeWhile p).length = l.length
  | [] => .inr rfl
  | a :: l => by
    by_cases ha : p a = true
    · rw [List.takeWhile_cons, if_pos ha, List.length_cons, List.length_cons]
      rcases takeWhile_at p l with ⟨x, h1, h2⟩ | h
      · exact .inl ⟨x, h1, h2⟩
      · exact .inr (by rw [h])
    · rw [List.takeWhile_cons, if_neg ha]
      exact .inl ⟨a, rfl, by simpa using ha⟩
theorem run_lt {n : Nat} {A : List Arc} {b j : Nat} (h : j < run n A b) : j < n ∧ dark n A ((b + j) % n) = true := by
  obtain ⟨x, h1, h2⟩ := takeWhile_lt _ _ _ h
  have hj : j < n := by
    have := (List.getElem?_eq_some_iff.mp h1).1
    rwa [List.length_range] at this
  rw [List.getElem?_range hj] at h1
  cases h1
  exact ⟨hj, h2⟩
theorem run_at (n : Nat) (A : List Arc) (b : Nat) : (run n A b < n ∧ dark n A ((b + run n A b) % n) = false) ∨ run n A b = n := by
  rcases takeWhile_at (fun i => dark n A ((b + i) % n)) (List.range n) with ⟨x, h1, h2⟩ | h
  · have hj : run n A b < n := by
      have := (List.getElem?_eq_some_iff.mp h1).1
      rwa [List.length_range] at this
    have h1 : (List.range n)[run n A b]? = some x := h1
    rw [List.getElem?_range hj] at h1
    cases h1
    exact .inl ⟨hj, h2⟩
  · rw [List.length_range] at h
    exact .inr h
section
variable (n : Nat) (hn : 0 < n) (h1 : n ≤ 1000) (A : List Arc) (hA : A.length ≤ 10)
include hn h1 hA
theorem longest_eq : f_longest_dark_around [.val (isl n A)] = some (.d (iD ((List.range n).foldl (fun s b => max s (run n A b)) 0)), none) := by
  have hA' : A.length ≤ 1000000 := by omega
  let enc : Nat → (Slot × Slot) → DEnv := fun s x => [.val (isl n A), .val (iD n), .val (iD s), x.1, x.2]
  have loop := for_foldN (t := .nm 3) (body := xSeq (xSet 4 (sC (.int 0)))
    (xSeq (whGo (tAnd2 (tOfB (sBin gLt (lVar 4) (lVar 1))) (tOfB (sBin gEq (lOf (sBlt gLen (aCons (lOf (sCall f_lights_at (aCons (lVar 0) (aCons (lOf (sBin gMod (lOf (sBin gAdd (lVar 3) (lVar 4))) (lVar 1))) aNil)))) aNil))) (lOf (sC (.int 0)))))) (xAug (fun i j => i + j) 4 (sC (.int 1))) 100000)
    (xSet 2 (sBlt gMax (aCons (lVar 2) (aCons (lVar 4) aNil))))))
    enc iD (fun s b => max s (run n A b)) (fun _ _ => True) (l := List.range n) (j := 0) (s := 0) (x := (.no, .no)) trivial (fun b _ i s x _ _ => ⟨trivial, ?_⟩)
  · obtain ⟨_, x', loop⟩ := loop
    refine fn_of (n := 5) (ds := [isl n A]) (ρ' := enc ((List.range n).foldl (fun s b => max s (run n A b)) 0) x') ?_
    unfold b_longest_dark_around
    refine (seq_nx (ρ1 := [.val (isl n A), .val (iD n), .no, .no, .no]) (by simp only [xPass, xBrk, xCnt, xRet, xRetN, xExpr, putRV, xSet, xAsg, asgT, asgTs, xSeq, xIf, xApp, sPop, xSub, xAug, xPar, xPar3, sVar, lVar, sC, lOf, lRes, lRess, locDs, frzA, frzLocs, sBin, sUn, sBlt, aCons, aNil, sTup, sLst, sIf, sAnd, sOr, sNot, sChn, sSlc, oNone, oSome, tOfB, tTru, truth, tAnd2, tOr2, tNot2, tYes2, sCall, sCallIo, iM, itemsD, RV.frz, outOf, List.getElem?_cons_zero, List.getElem?_cons_succ, List.set_cons_zero, List.set_cons_succ, List.length_cons, List.length_nil, gIsi, isTy, gLen, gInt, gAbs, gTuple, gList, Mi.gSub, gNeg, gIs, gIsN, Option.map_some, Option.map_none, idx0]; rfl)).trans ?_
    refine (seq_nx (ρ1 := enc 0 (.no, .no)) rfl).trans ?_
    refine (seq_nx (xFor_eq (ds := (List.range n).map iD) (ρ1 := enc 0 (.no, .no)) (iR1_nat (l := .d (iD n)) rfl rfl (by omega)) loop)).trans ?_
    exact xRet_eq rfl
  · obtain ⟨x3, x4⟩ := x
    let ρ : Nat → DEnv := fun j => [.val (isl n A), .val (iD n), .val (iD s), .val (iD b), .val (iD j)]
    refine ⟨[.val (isl n A), .val (iD n), .val (iD s), .val (iD b), x4], .nx, (.val (iD b), .val (iD (run n A b))), rfl, ?_, .inl rfl⟩
    refine (seq_nx (ρ1 := ρ 0) rfl).trans ?_
    have h0 : (0 : Int) < (n : Int) := by omega
    have len : ∀ j, sBin gEq (lOf (sBlt gLen (aCons (lOf (sCall f_lights_at (aCons (lVar 0) (aCons (lOf (sBin gMod (lOf (sBin gAdd (lVar 3) (lVar 4))) (lVar 1))) aNil)))) aNil))) (lOf (sC (.int 0))) (ρ j) = some (.d (.bool (dark n A ((b + j) % n))), ρ j) := by
      intro j
      have e1 : (.int (((b : Int) + (j : Int)) % (n : Int)) : D) = iD ((b + j) % n) := by
        unfold iD
        congr 1
      have e2 := lights_at_eq n hn A hA' ((b + j) % n)
      simp only [ρ, xPass, xBrk, xCnt, xRet, xRetN, xExpr, putRV, xSet, xAsg, asgT, asgTs, xSeq, xIf, xApp, sPop, xSub, xAug, xPar, xPar3, sVar, lVar, sC, lOf, lRes, lRess, locDs, frzA, frzLocs, sBin, sUn, sBlt, aCons, aNil, sTup, sLst, sIf, sAnd, sOr, sNot, sChn, sSlc, oNone, oSome, tOfB, tTru, truth, tAnd2, tOr2, tNot2, tYes2, sCall, sCallIo, iM, itemsD, RV.frz, outOf, List.getElem?_cons_zero, List.getElem?_cons_succ, List.set_cons_zero, List.set_cons_succ, List.length_cons, List.length_nil, gIsi, isTy, gLen, gInt, gAbs, gTuple, gList, Mi.gSub, gNeg, gIs, gIsN, Option.map_some, Option.map_none, iD, gAdd_ii, gMod_ii h0] at e1 e2 ⊢
      simp only [e1, List.map_cons, List.map_nil] at e2 ⊢
      simp only [e2, xPass, xBrk, xCnt, xRet, xRetN, xExpr, putRV, xSet, xAsg, asgT, asgTs, xSeq, xIf, xApp, sPop, xSub, xAug, xPar, xPar3, sVar, lVar, sC, lOf, lRes, lRess, locDs, frzA, frzLocs, sBin, sUn, sBlt, aCons, aNil, sTup, sLst, sIf, sAnd, sOr, sNot, sChn, sSlc, oNone, oSome, tOfB, tTru, truth, tAnd2, tOr2, tNot2, tYes2, sCall, sCallIo, iM, itemsD, RV.frz, outOf, List.getElem?_cons_zero, List.getElem?_cons_succ, List.set_cons_zero, List.set_cons_succ, List.length_cons, List.length_nil, gIsi, isTy, gLen, gInt, gAbs, gTuple, gList, Mi.gSub, gNeg, gIs, gIsN, Option.map_some, Option.map_none, List.length_map, gEq_ii, len0, dark]
    refine (seq_nx (ρ1 := ρ (run n A b)) (wh_run (ρ := ρ) (fun j hj => ?_) ?_ _ _ (Nat.zero_le _) ?_)).trans ?_
    · obtain ⟨hj, hd⟩ := run_lt hj
      have l := len j
      rw [hd] at l
      refine ⟨(and_t (ρ1 := ρ j) (ofB_eq ?_)).trans (ofB_eq l), ?_⟩
      · have : decide ((j : Int) < (n : Int)) = true := decide_eq_true (by omega)
        simp only [ρ, xPass, xBrk, xCnt, xRet, xRetN, xExpr, putRV, xSet, xAsg, asgT, asgTs, xSeq, xIf, xApp, sPop, xSub, xAug, xPar, xPar3, sVar, lVar, sC, lOf, lRes, lRess, locDs, frzA, frzLocs, sBin, sUn, sBlt, aCons, aNil, sTup, sLst, sIf, sAnd, sOr, sNot, sChn, sSlc, oNone, oSome, tOfB, tTru, truth, tAnd2, tOr2, tNot2, tYes2, sCall, sCallIo, iM, itemsD, RV.frz, outOf, List.getElem?_cons_zero, List.getElem?_cons_succ, List.set_cons_zero, List.set_cons_succ, List.length_cons, List.length_nil, gIsi, isTy, gLen, gInt, gAbs, gTuple, gList, Mi.gSub, gNeg, gIs, gIsN, Option.map_some, Option.map_none, iD, gLt_ii, this]
      · simp only [ρ, xAug, xPass, xBrk, xCnt, xRet, xRetN, xExpr, putRV, xSet, xAsg, asgT, asgTs, xSeq, xIf, xApp, sPop, xSub, xAug, xPar, xPar3, sVar, lVar, sC, lOf, lRes, lRess, locDs, frzA, frzLocs, sBin, sUn, sBlt, aCons, aNil, sTup, sLst, sIf, sAnd, sOr, sNot, sChn, sSlc, oNone, oSome, tOfB, tTru, truth, tAnd2, tOr2, tNot2, tYes2, sCall, sCallIo, iM, itemsD, RV.frz, outOf, List.getElem?_cons_zero, List.getElem?_cons_succ, List.set_cons_zero, List.set_cons_succ, List.length_cons, List.length_nil, gIsi, isTy, gLen, gInt, gAbs, gTuple, gList, Mi.gSub, gNeg, gIs, gIsN, Option.map_some, Option.map_none, iD, Nat.lt_irrefl, List.length_cons, List.length_nil]
        rfl
    · rcases run_at n A b with ⟨hj, hd⟩ | hr
      · have l := len (run n A b)
        rw [hd] at l
        refine (and_t (ρ1 := ρ (run n A b)) (ofB_eq ?_)).trans (ofB_eq l)
        have : decide (((run n A b : Nat) : Int) < (n : Int)) = true := decide_eq_true (by omega)
        simp only [ρ, xPass, xBrk, xCnt, xRet, xRetN, xExpr, putRV, xSet, xAsg, asgT, asgTs, xSeq, xIf, xApp, sPop, xSub, xAug, xPar, xPar3, sVar, lVar, sC, lOf, lRes, lRess, locDs, frzA, frzLocs, sBin, sUn, sBlt, aCons, aNil, sTup, sLst, sIf, sAnd, sOr, sNot, sChn, sSlc, oNone, oSome, tOfB, tTru, truth, tAnd2, tOr2, tNot2, tYes2, sCall, sCallIo, iM, itemsD, RV.frz, outOf, List.getElem?_cons_zero, List.getElem?_cons_succ, List.set_cons_zero, List.set_cons_succ, List.length_cons, List.length_nil, gIsi, isTy, gLen, gInt, gAbs, gTuple, gList, Mi.gSub, gNeg, gIs, gIsN, Option.map_some, Option.map_none, iD, gLt_ii, this]
      · refine and_f (ofB_eq ?_)
        have : decide (((run n A b : Nat) : Int) < (n : Int)) = false := decide_eq_false (by omega)
        simp only [ρ, xPass, xBrk, xCnt, xRet, xRetN, xExpr, putRV, xSet, xAsg, asgT, asgTs, xSeq, xIf, xApp, sPop, xSub, xAug, xPar, xPar3, sVar, lVar, sC, lOf, lRes, lRess, locDs, frzA, frzLocs, sBin, sUn, sBlt, aCons, aNil, sTup, sLst, sIf, sAnd, sOr, sNot, sChn, sSlc, oNone, oSome, tOfB, tTru, truth, tAnd2, tOr2, tNot2, tYes2, sCall, sCallIo, iM, itemsD, RV.frz, outOf, List.getElem?_cons_zero, List.getElem?_cons_succ, List.set_cons_zero, List.set_cons_succ, List.length_cons, List.length_nil, gIsi, isTy, gLen, gInt, gAbs, gTuple, gList, Mi.gSub, gNeg, gIs, gIsN, Option.map_some, Option.map_none, iD, gLt_ii, this]
    · have : run n A b ≤ n := by
        rcases run_at n A b with ⟨h, _⟩ | h <;> omega
      omega
    · have e := gMax_two s (run n A b)
      simp only [ρ, enc, xPass, xBrk, xCnt, xRet, xRetN, xExpr, putRV, xSet, xAsg, asgT, asgTs, xSeq, xIf, xApp, sPop, xSub, xAug, xPar, xPar3, sVar, lVar, sC, lOf, lRes, lRess, locDs, frzA, frzLocs, sBin, sUn, sBlt, aCons, aNil, sTup, sLst, sIf, sAnd, sOr, sNot, sChn, sSlc, oNone, oSome, tOfB, tTru, truth, tAnd2, tOr2, tNot2, tYes2, sCall, sCallIo, iM, itemsD, RV.frz, outOf, List.getElem?_cons_zero, List.getElem?_cons_succ, List.set_cons_zero, List.set_cons_succ, List.length_cons, List.length_nil, gIsi, isTy, gLen, gInt, gAbs, gTuple, gList, Mi.gSub, gNeg, gIs, gIsN, Option.map_some, Option.map_none, e]
      rfl
end
end Cp

set_option maxRecDepth 100000
set_option maxHeartbeats 1000000
namespace Cp
open PySem PySem.Spec Mi
/-- increasing, read as the program does -/
def falls (l : List Nat) : Bool := (List.range (l.length - 1)).any fun k => decide (l.getD (k + 1) 0 ≤ l.getD k 0)
def marksOk (n : Nat) (A : List Arc) (l : List Nat) : Bool := ((l.map (rw n A)).all fun r => !r.isEmpty) && ((l.map (rw n A)).flatten.all fun k => decide ((l.map (rw n A)).flatten.count k = 1))
def inR (n : Nat) : D → Bool := fun v => isNum v 0 ((n : Int) - 1)
theorem inR_nat {n : Nat} : ∀ {xs : List D}, xs.all (inR n) = true → ∃ l : List Nat, xs = l.map iD ∧ ∀ x ∈ l, x < n
  | [], _ => ⟨[], rfl, fun x hx => by cases hx⟩
  | x :: xs, h => by
    rw [List.all_cons, Bool.and_eq_true] at h
    obtain ⟨l, rfl, hl⟩ := inR_nat h.2
    have h1 := h.1
    unfold inR isNum at h1
    cases x with
    | int i =>
      simp only [Bool.and_eq_true, decide_eq_true_eq] at h1
      refine ⟨i.toNat :: l, ?_, fun y hy => ?_⟩
      · rw [List.map_cons]
        congr 1
        unfold iD
        congr 1
        omega
      · rcases List.mem_cons.mp hy with rfl | hy
        · omega
        · exact hl y hy
    | _ => simp at h1
theorem inR_all {n : Nat} {l : List Nat} (h : ∀ x ∈ l, x < n) : (l.map iD).all (inR n) = true := by
  rw [List.all_map, List.all_eq_true]
  intro x hx
  have := h x hx
  show isNum (iD x) 0 ((n : Int) - 1) = true
  unfold isNum iD
  simp only [Bool.and_eq_true, decide_eq_true_eq]
  omega
theorem intsD_nat (l : List Nat) : intsD (l.map iD) = some (l.map fun k : Nat => (k : Int)) := by
  induction l with
  | nil => rfl
  | cons a r ih =>
    show (intsD (r.map iD)).map (((a : Nat) : Int) :: ·) = _
    rw [ih]
    rfl
theorem count_cast (l : List Nat) (k : Nat) : (l.map fun k : Nat => (k : Int)).count (k : Int) = l.count k := by
  induction l with
  | nil => rfl
  | cons a r ih =>
    rw [List.map_cons, List.count_cons, List.count_cons, ih]
    congr 1
    by_cases h : a = k
    · subst h; simp
    · have : ¬ ((a : Int) = (k : Int)) := by omega
      simp [h, this]
section
variable (n : Nat) (hn : 0 < n) (h1 : n ≤ 1000) (A : List Arc) (hA : A.length ≤ 10)
include hn h1 hA
theorem rng_check (xs : List D) : sGen false (iM (sVar 1)) (.nm 4) tYes2 (sCall f_is_number (aCons (lVar 4) (aCons (lOf (sC (.int 0))) (aCons (lOf (sBin Mi.gSub (lOf (sBin gIdx (lVar 0) (lOf (sC (.int 0))))) (lOf (sC (.int 1))))) aNil)))) [4]
    [.val (isl n A), .val (.tuple xs), .no, .no, .no, .no, .no, .no, .no] = some (.d (.bool (xs.all (inR n))), [.val (isl n A), .val (.tuple xs), .no, .no, .no, .no, .no, .no, .no]) := by
  refine all_pure (ds := xs) (inR n) rfl rfl fun d _ => ⟨[.val (isl n A), .val (.tuple xs), .no, .no, .val d, .no, .no, .no, .no], [.val (isl n A), .val (.tuple xs), .no, .no, .val d, .no, .no, .no, .no], rfl, ?_, rfl⟩
  have e := is_number_eq d 0 ((n : Int) - 1)
  simp only [xPass, xBrk, xCnt, xRet, xRetN, xExpr, putRV, xSet, xAsg, asgT, asgTs, xSeq, xIf, xApp, sPop, xSub, xAug, xPar, xPar3, sVar, lVar, sC, lOf, lRes, lRess, locDs, frzA, frzLocs, sBin, sUn, sBlt, aCons, aNil, sTup, sLst, sIf, sAnd, sOr, sNot, sChn, sSlc, oNone, oSome, tOfB, tTru, truth, tAnd2, tOr2, tNot2, tYes2, sCall, sCallIo, iM, itemsD, RV.frz, outOf, List.getElem?_cons_zero, List.getElem?_cons_succ, List.set_cons_zero, List.set_cons_succ, List.length_cons, List.length_nil, gIsi, isTy, gLen, gInt, gAbs, gTuple, gList, Mi.gSub, gNeg, gIs, gIsN, Option.map_some, Option.map_none, idx0, iD, List.map_cons, List.map_nil, e, inR]
theorem fall_check (l : List Nat) (hl : l.length ≤ 1000) : sGen true (iR2 (aCons (lOf (sC (.int 1))) (aCons (lOf (sBlt gLen (aCons (lVar 1) aNil))) aNil))) (.nm 5) tYes2 (sBin gGe (lOf (sBin gIdx (lVar 1) (lOf (sBin Mi.gSub (lVar 5) (lOf (sC (.int 1))))))) (lOf (sBin gIdx (lVar 1) (lVar 5)))) [5]
    [.val (isl n A), .val (.tuple (l.map iD)), .no, .no, .no, .no, .no, .no, .no] = some (.d (.bool (falls l)), [.val (isl n A), .val (.tuple (l.map iD)), .no, .no, .no, .no, .no, .no, .no]) := by
  refine any_enc (fun k : Nat => (.int (1 + (k : Nat)) : D)) (l := List.range (l.length - 1)) (fun k => decide (l.getD (k + 1) 0 ≤ l.getD k 0)) ?_ rfl fun k hk => ?_
  · have hb : -(2 ^ 62 : Int) ≤ 1 ∧ (1 : Int) < 2 ^ 62 ∧ -(2 ^ 62 : Int) ≤ ((l.map iD).length : Nat) ∧ (((l.map iD).length : Nat) : Int) < 2 ^ 62 := by
      rw [List.length_map]
      omega
    have e : (((l.map iD).length : Nat) - 1 : Int).toNat = l.length - 1 := by rw [List.length_map]; omega
    simp only [iR2, xPass, xBrk, xCnt, xRet, xRetN, xExpr, putRV, xSet, xAsg, asgT, asgTs, xSeq, xIf, xApp, sPop, xSub, xAug, xPar, xPar3, sVar, lVar, sC, lOf, lRes, lRess, locDs, frzA, frzLocs, sBin, sUn, sBlt, aCons, aNil, sTup, sLst, sIf, sAnd, sOr, sNot, sChn, sSlc, oNone, oSome, tOfB, tTru, truth, tAnd2, tOr2, tNot2, tYes2, sCall, sCallIo, iM, itemsD, RV.frz, outOf, List.getElem?_cons_zero, List.getElem?_cons_succ, List.set_cons_zero, List.set_cons_succ, List.length_cons, List.length_nil, gIsi, isTy, gLen, gInt, gAbs, gTuple, gList, Mi.gSub, gNeg, gIs, gIsN, Option.map_some, Option.map_none]
    rw [if_pos hb, e]
    rfl
  · have hk := List.mem_range.mp hk
    refine ⟨[.val (isl n A), .val (.tuple (l.map iD)), .no, .no, .no, .val (.int (1 + (k : Nat))), .no, .no, .no], [.val (isl n A), .val (.tuple (l.map iD)), .no, .no, .no, .val (.int (1 + (k : Nat))), .no, .no, .no], rfl, ?_, rfl⟩
    have g : ∀ j, j < l.length → gIdx (.tuple (l.map iD)) (.int (j : Nat)) = some (.d (iD (l.getD j 0))) := fun j hj => gIdx_t (by
      rw [List.getElem?_map, List.getElem?_eq_getElem hj, List.getD_eq_getElem?_getD, List.getElem?_eq_getElem hj]
      rfl)
    have g1 := g k (by omega)
    have g2 := g (k + 1) (by omega)
    have e1 : (((k + 1 : Nat) : Int) - 1) = (k : Nat) := by omega
    have e2 : (1 + (k : Int)) = ((k + 1 : Nat) : Int) := by omega
    simp only [xPass, xBrk, xCnt, xRet, xRetN, xExpr, putRV, xSet, xAsg, asgT, asgTs, xSeq, xIf, xApp, sPop, xSub, xAug, xPar, xPar3, sVar, lVar, sC, lOf, lRes, lRess, locDs, frzA, frzLocs, sBin, sUn, sBlt, aCons, aNil, sTup, sLst, sIf, sAnd, sOr, sNot, sChn, sSlc, oNone, oSome, tOfB, tTru, truth, tAnd2, tOr2, tNot2, tYes2, sCall, sCallIo, iM, itemsD, RV.frz, outOf, List.getElem?_cons_zero, List.getElem?_cons_succ, List.set_cons_zero, List.set_cons_succ, List.length_cons, List.length_nil, gIsi, isTy, gLen, gInt, gAbs, gTuple, gList, Mi.gSub, gNeg, gIs, gIsN, Option.map_some, Option.map_none, e1, g1, e2, g2]
    simp only [iD, gGe_ii]
    congr 4
    exact decide_eq_decide.mpr (by omega)
theorem are_marks_eq (v : D) : (f_are_marks [.val (isl n A), .val v] = some (.d (.bool false), none) ∧ ∀ l : List Nat, v = .tuple (l.map iD) → ¬ ∀ x ∈ l, x < n) ∨ ∃ l : List Nat, v = .tuple (l.map iD) ∧ (∀ x ∈ l, x < n) ∧ (l.length ≤ 1000 → f_are_marks [.val (isl n A), .val v] = some (.d (.bool (!falls l && marksOk n A l)), none)) := by
  have bad : ∀ (ρ1 : DEnv), (tOr2 (tNot2 (tTru (lOf (sUn (gIsi .tuple) (lVar 1))))) (tNot2 (tTru (lOf (sGen false (iM (sVar 1)) (.nm 4) tYes2 (sCall f_is_number (aCons (lVar 4) (aCons (lOf (sC (.int 0))) (aCons (lOf (sBin Mi.gSub (lOf (sBin gIdx (lVar 0) (lOf (sC (.int 0))))) (lOf (sC (.int 1))))) aNil)))) [4])))))
      [.val (isl n A), .val v, .no, .no, .no, .no, .no, .no, .no] = some (true, ρ1) → f_are_marks [.val (isl n A), .val v] = some (.d (.bool false), none) := fun ρ1 h => by
    refine Mi.fn_of (n := 9) (ds := [isl n A, v]) (ρ' := ρ1) ?_
    unfold b_are_marks
    exact seq_ret ((if_t h).trans rfl)
  cases v with
  | tuple xs =>
    cases hx : xs.all (inR n) with
    | false =>
      left
      refine ⟨?_, fun l e h => ?_⟩
      case refine_2 =>
        injection e with e
        rw [e, inR_all h] at hx
        cases hx
      refine bad [.val (isl n A), .val (.tuple xs), .no, .no, .no, .no, .no, .no, .no] ((or_f (ρ1 := [.val (isl n A), .val (.tuple xs), .no, .no, .no, .no, .no, .no, .no]) rfl).trans (not_eq (b := false) (tru_eq (rng_check n hn h1 A hA xs) ?_)))
      show truth (.bool (xs.all (inR n))) = some false
      rw [hx]; rfl
    | true =>
      right
      obtain ⟨l, rfl, hl⟩ := inR_nat hx
      refine ⟨l, rfl, hl, fun hlen => ?_⟩
      have c1 : (tOr2 (tNot2 (tTru (lOf (sUn (gIsi .tuple) (lVar 1))))) (tNot2 (tTru (lOf (sGen false (iM (sVar 1)) (.nm 4) tYes2 (sCall f_is_number (aCons (lVar 4) (aCons (lOf (sC (.int 0))) (aCons (lOf (sBin Mi.gSub (lOf (sBin gIdx (lVar 0) (lOf (sC (.int 0))))) (lOf (sC (.int 1))))) aNil)))) [4])))))
          [.val (isl n A), .val (.tuple (l.map iD)), .no, .no, .no, .no, .no, .no, .no] = some (false, [.val (isl n A), .val (.tuple (l.map iD)), .no, .no, .no, .no, .no, .no, .no]) :=
        (or_f (ρ1 := [.val (isl n A), .val (.tuple (l.map iD)), .no, .no, .no, .no, .no, .no, .no]) rfl).trans (not_eq (b := true) (tru_eq (rng_check n hn h1 A hA (l.map iD)) (by show truth (.bool ((l.map iD).all (inR n))) = some true; rw [hx]; rfl)))
      cases hf : falls l with
      | true =>
        refine Mi.fn_of (n := 9) (ds := [isl n A, .tuple (l.map iD)]) (ρ' := [.val (isl n A), .val (.tuple (l.map iD)), .no, .no, .no, .no, .no, .no, .no]) ?_
        unfold b_are_marks
        refine (seq_nx (ρ1 := [.val (isl n A), .val (.tuple (l.map iD)), .no, .no, .no, .no, .no, .no, .no]) ((if_f c1).trans rfl)).trans ?_
        refine seq_ret ((if_t (ρ1 := [.val (isl n A), .val (.tuple (l.map iD)), .no, .no, .no, .no, .no, .no, .no]) (tru_eq (fall_check n hn h1 A hA l hlen) ?_)).trans rfl)
        show truth (.bool (falls l)) = some true
        rw [hf]; rfl
      | false =>
        have hA' : A.length ≤ 1000000 := by omega
        let R := l.map (rw n A)
        have hR : ∀ r ∈ R, r.length ≤ 10 := fun r hr => by
          obtain ⟨p, _, rfl⟩ := List.mem_map.mp hr
          have := List.length_filter_le (fun k => lit n (A.getD k (0, 0)) p) (List.range A.length)
          rw [List.length_range] at this
          exact Nat.le_trans this hA
        have hfl : R.flatten.length ≤ sizeLine := by
          have : ∀ R : List (List Nat), (∀ r ∈ R, r.length ≤ 10) → R.flatten.length ≤ 10 * R.length := by
            intro R
            induction R with
            | nil => intro _; simp
            | cons a r ih =>
              intro h
              have h1 := h a List.mem_cons_self
              have h2 := ih fun x hx => h x (List.mem_cons_of_mem _ hx)
              rw [List.flatten_cons, List.length_append, List.length_cons]
              omega
          have h2 := this R hR
          rw [show R.length = l.length from List.length_map ..] at h2
          exact fits (by omega)
        let ρ0 : DEnv := [.val (isl n A), .val (.tuple (l.map iD)), .no, .no, .no, .no, .no, .no, .no]
        let ρa : DEnv := [.val (isl n A), .val (.tuple (l.map iD)), .own (R.map lstD), .no, .no, .no, .no, .no, .no]
        let ρb : DEnv := [.val (isl n A), .val (.tuple (l.map iD)), .val (.list (R.map lstD)), .own (R.flatten.map iD), .no, .no, .no, .no, .no]
        let ρc : DEnv := [.val (isl n A), .val (.tuple (l.map iD)), .val (.list (R.map lstD)), .val (.list (R.flatten.map iD)), .no, .no, .no, .no, .no]
        have e1 : sLc (iM (sVar 1)) (.nm 6) tYes2 (sCall f_lights_at (aCons (lVar 0) (aCons (lVar 6) aNil))) [6] ρ0 = some (.fl (R.map lstD), ρ0) := by
          have := sLc_map iD (l := l) (fi := iM (sVar 1)) (t := .nm 6) (fe := sCall f_lights_at (aCons (lVar 0) (aCons (lVar 6) aNil))) (vs := [6]) (ρ := ρ0) (ρ1 := ρ0) (fun p => lstD (rw n A p)) rfl rfl (fun p _ => by
            refine ⟨[.val (isl n A), .val (.tuple (l.map iD)), .no, .no, .no, .no, .val (iD p), .no, .no], .fl ((rw n A p).map iD), [.val (isl n A), .val (.tuple (l.map iD)), .no, .no, .no, .no, .val (iD p), .no, .no], rfl, ?_, rfl, rfl⟩
            simp only [xPass, xBrk, xCnt, xRet, xRetN, xExpr, putRV, xSet, xAsg, asgT, asgTs, xSeq, xIf, xApp, sPop, xSub, xAug, xPar, xPar3, sVar, lVar, sC, lOf, lRes, lRess, locDs, frzA, frzLocs, sBin, sUn, sBlt, aCons, aNil, sTup, sLst, sIf, sAnd, sOr, sNot, sChn, sSlc, oNone, oSome, tOfB, tTru, truth, tAnd2, tOr2, tNot2, tYes2, sCall, sCallIo, iM, itemsD, RV.frz, outOf, List.getElem?_cons_zero, List.getElem?_cons_succ, List.set_cons_zero, List.set_cons_succ, List.length_cons, List.length_nil, gIsi, isTy, gLen, gInt, gAbs, gTuple, gList, Mi.gSub, gNeg, gIs, gIsN, Option.map_some, Option.map_none, List.map_cons, List.map_nil, lights_at_eq n hn A hA']) (by omega)
          rw [this]
          show some (RV.fl (l.map fun p => lstD (rw n A p)), ρ0) = some (RV.fl ((l.map (rw n A)).map lstD), ρ0)
          rw [List.map_map]
          rfl
        have e2 : sLc2 (iM (sVar 2)) (.nm 7) tYes2 (iM (sVar 7)) (.nm 8) tYes2 (sVar 8) [7, 8] [8] ρa = some (.fl (R.flatten.map iD), [.val (isl n A), .val (.tuple (l.map iD)), .val (.list (R.map lstD)), .no, .no, .no, .no, .no, .no]) := by
          have inner : ∀ (r : List Nat) (ρ : DEnv) (k : Nat) (x : Slot), lcGo (.nm 8) tYes2 (sVar 8) [8] (r.map iD) [.val (isl n A), .val (.tuple (l.map iD)), .val (.list (R.map lstD)), .no, .no, .no, .no, x, .no] = some (r.map iD, [.val (isl n A), .val (.tuple (l.map iD)), .val (.list (R.map lstD)), .no, .no, .no, .no, x, .no]) := by
            intro r _ _ x
            have := lc_enc iD (t := .nm 8) (ft := tYes2) (fe := sVar 8) (vs := [8]) (ρ := [.val (isl n A), .val (.tuple (l.map iD)), .val (.list (R.map lstD)), .no, .no, .no, .no, x, .no]) (fun _ => true) iD (l := r) (fun a _ => ⟨_, _, rfl, rfl, (fun z => by cases z), fun _ => ⟨.d (iD a), _, rfl, rfl, rfl⟩⟩)
            rw [List.filter_eq_self.mpr fun _ _ => rfl] at this
            exact this
          have outer : ∀ R' : List (List Nat), lc2Go (.nm 7) tYes2 (iM (sVar 7)) (.nm 8) tYes2 (sVar 8) [7, 8] [8] (R'.map lstD) [.val (isl n A), .val (.tuple (l.map iD)), .val (.list (R.map lstD)), .no, .no, .no, .no, .no, .no] = some (R'.flatten.map iD, [.val (isl n A), .val (.tuple (l.map iD)), .val (.list (R.map lstD)), .no, .no, .no, .no, .no, .no]) := by
            intro R'
            induction R' with
            | nil => rfl
            | cons r R' ih =>
              have i := inner r ρ0 0 (.val (lstD r))
              have e : iM (sVar 7) [.val (isl n A), .val (.tuple (l.map iD)), .val (.list (R.map lstD)), .no, .no, .no, .no, .val (lstD r), .no] = some (r.map iD, [.val (isl n A), .val (.tuple (l.map iD)), .val (.list (R.map lstD)), .no, .no, .no, .no, .val (lstD r), .no]) := rfl
              have w : wipeD ([.val (isl n A), .val (.tuple (l.map iD)), .val (.list (R.map lstD)), .no, .no, .no, .no, .val (lstD r), .no] : DEnv) [8] = [.val (isl n A), .val (.tuple (l.map iD)), .val (.list (R.map lstD)), .no, .no, .no, .no, .val (lstD r), .no] := rfl
              have w2 : wipeD ([.val (isl n A), .val (.tuple (l.map iD)), .val (.list (R.map lstD)), .no, .no, .no, .no, .val (lstD r), .no] : DEnv) [7, 8] = [.val (isl n A), .val (.tuple (l.map iD)), .val (.list (R.map lstD)), .no, .no, .no, .no, .no, .no] := rfl
              have a : asgT (.nm 7) (lstD r) [.val (isl n A), .val (.tuple (l.map iD)), .val (.list (R.map lstD)), .no, .no, .no, .no, .no, .no] = some [.val (isl n A), .val (.tuple (l.map iD)), .val (.list (R.map lstD)), .no, .no, .no, .no, .val (lstD r), .no] := rfl
              simp only [List.map_cons, lc2Go, a, tYes2, e, w, i, w2, ih, List.flatten_cons, List.map_append]
          unfold sLc2
          have a : iM (sVar 2) ρa = some (R.map lstD, [.val (isl n A), .val (.tuple (l.map iD)), .val (.list (R.map lstD)), .no, .no, .no, .no, .no, .no]) := rfl
          have b : noOwn [7, 8] ([.val (isl n A), .val (.tuple (l.map iD)), .val (.list (R.map lstD)), .no, .no, .no, .no, .no, .no] : DEnv) = true := rfl
          have c : wipeD ([.val (isl n A), .val (.tuple (l.map iD)), .val (.list (R.map lstD)), .no, .no, .no, .no, .no, .no] : DEnv) [7, 8] = [.val (isl n A), .val (.tuple (l.map iD)), .val (.list (R.map lstD)), .no, .no, .no, .no, .no, .no] := rfl
          simp only [a, b, if_true, c, outer R, List.length_map, hfl]
          rfl
        have e3 : sGen false (iM (sVar 2)) (.nm 7) tYes2 (sBin gGt (lOf (sBlt gLen (aCons (lVar 7) aNil))) (lOf (sC (.int 0)))) [7] ρb = some (.d (.bool (R.all fun r => !r.isEmpty)), ρb) :=
          all_enc lstD (l := R) (fun r => !r.isEmpty) rfl rfl fun r _ => ⟨[.val (isl n A), .val (.tuple (l.map iD)), .val (.list (R.map lstD)), .own (R.flatten.map iD), .no, .no, .no, .val (lstD r), .no], [.val (isl n A), .val (.tuple (l.map iD)), .val (.list (R.map lstD)), .own (R.flatten.map iD), .no, .no, .no, .val (lstD r), .no], rfl, by simp only [xPass, xBrk, xCnt, xRet, xRetN, xExpr, putRV, xSet, xAsg, asgT, asgTs, xSeq, xIf, xApp, sPop, xSub, xAug, xPar, xPar3, sVar, lVar, sC, lOf, lRes, lRess, locDs, frzA, frzLocs, sBin, sUn, sBlt, aCons, aNil, sTup, sLst, sIf, sAnd, sOr, sNot, sChn, sSlc, oNone, oSome, tOfB, tTru, truth, tAnd2, tOr2, tNot2, tYes2, sCall, sCallIo, iM, itemsD, RV.frz, outOf, List.getElem?_cons_zero, List.getElem?_cons_succ, List.set_cons_zero, List.set_cons_succ, List.length_cons, List.length_nil, gIsi, isTy, gLen, gInt, gAbs, gTuple, gList, Mi.gSub, gNeg, gIs, gIsN, Option.map_some, Option.map_none, lstD, List.length_map, gGt_ii, len_gt0], rfl⟩
        have e4 : sGen false (iM (sVar 3)) (.nm 8) tYes2 (sBin gEq (lOf (sCnt (sVar 3) (lVar 8))) (lOf (sC (.int 1)))) [8] ρb = some (.d (.bool (R.flatten.all fun k => decide (R.flatten.count k = 1))), ρc) := by
          refine all_enc iD (l := R.flatten) (fun k => decide (R.flatten.count k = 1)) rfl rfl fun k _ => ⟨[.val (isl n A), .val (.tuple (l.map iD)), .val (.list (R.map lstD)), .val (.list (R.flatten.map iD)), .no, .no, .no, .no, .val (iD k)], [.val (isl n A), .val (.tuple (l.map iD)), .val (.list (R.map lstD)), .val (.list (R.flatten.map iD)), .no, .no, .no, .no, .val (iD k)], rfl, ?_, rfl⟩
          have e := intsD_nat R.flatten
          simp only [sCnt, xPass, xBrk, xCnt, xRet, xRetN, xExpr, putRV, xSet, xAsg, asgT, asgTs, xSeq, xIf, xApp, sPop, xSub, xAug, xPar, xPar3, sVar, lVar, sC, lOf, lRes, lRess, locDs, frzA, frzLocs, sBin, sUn, sBlt, aCons, aNil, sTup, sLst, sIf, sAnd, sOr, sNot, sChn, sSlc, oNone, oSome, tOfB, tTru, truth, tAnd2, tOr2, tNot2, tYes2, sCall, sCallIo, iM, itemsD, RV.frz, outOf, List.getElem?_cons_zero, List.getElem?_cons_succ, List.set_cons_zero, List.set_cons_succ, List.length_cons, List.length_nil, gIsi, isTy, gLen, gInt, gAbs, gTuple, gList, Mi.gSub, gNeg, gIs, gIsN, Option.map_some, Option.map_none]
          simp only [iD] at e ⊢
          simp only [gCnt, e, count_cast, gEq_ii]
          congr 4
          exact decide_eq_decide.mpr (by omega)
        refine Mi.fn_of (n := 9) (ds := [isl n A, .tuple (l.map iD)]) (ρ' := if (R.all fun r => !r.isEmpty) = true then ρc else ρb) ?_
        unfold b_are_marks
        refine (seq_nx (ρ1 := ρ0) ((if_f c1).trans rfl)).trans ?_
        refine (seq_nx (ρ1 := ρ0) ((if_f (tru_eq (fall_check n hn h1 A hA l hlen) (by show truth (.bool (falls l)) = some false; rw [hf]; rfl))).trans rfl)).trans ?_
        refine (seq_nx (xSet_eq (rv := .fl (R.map lstD)) (ρ1 := ρ0) e1 (by simp [ρ0]))).trans ?_
        refine (seq_nx (xSet_eq (rv := .fl (R.flatten.map iD)) (ρ1 := [.val (isl n A), .val (.tuple (l.map iD)), .val (.list (R.map lstD)), .no, .no, .no, .no, .no, .no]) e2 (by simp))).trans ?_
        refine xRet_eq ?_
        show sAnd _ _ ρb = _
        unfold sAnd
        simp only [e3]
        cases hr : (R.all fun r => !r.isEmpty) with
        | false =>
          simp only [truth, Bool.false_eq_true, if_false, Bool.not_false, Bool.true_and, marksOk]
          show some (RV.d (.bool false), ρb) = some (RV.d (.bool ((R.all fun r => !r.isEmpty) && _)), ρb)
          rw [hr]; rfl
        | true =>
          simp only [truth, if_true, e4, Bool.not_false, Bool.true_and, marksOk]
          show some (RV.d (.bool _), ρc) = some (RV.d (.bool ((R.all fun r => !r.isEmpty) && _)), ρc)
          rw [hr]; rfl
  | _ =>
    left
    exact ⟨bad _ (or_t rfl), fun l e => nomatch e⟩
end
end Cp

set_option maxRecDepth 100000
set_option maxHeartbeats 1000000
namespace Cp
open PySem PySem.Spec Mi
theorem for_invN {t : Tg} {body : Bm} (I : Nat → DEnv → Prop) : ∀ {ds : List D} {j : Nat} {ρ : DEnv}, I j ρ → (∀ d ∈ ds, ∀ i ρ, I i ρ → i < j + ds.length → ∃ ρ1 fl ρ2, asgT t d ρ = some ρ1 ∧ body ρ1 = some (fl, ρ2) ∧ (fl = .nx ∨ fl = .ct) ∧ I (i + 1) ρ2) →
    ∃ ρ', forGo t body ds ρ = some (.nx, ρ') ∧ I (j + ds.length) ρ'
  | [], j, ρ, h0, _ => ⟨ρ, rfl, h0⟩
  | d :: ds, j, ρ, h0, h => by
    obtain ⟨ρ1, fl, ρ2, h1, h2, h3, h4⟩ := h d List.mem_cons_self j ρ h0 (by rw [List.length_cons]; omega)
    obtain ⟨ρ', h5, h6⟩ := for_invN I (ds := ds) (j := j + 1) h4 fun d hd i ρ hi hlt => h d (List.mem_cons_of_mem _ hd) i ρ hi (by rw [List.length_cons]; omega)
    refine ⟨ρ', ?_, by rw [List.length_cons, show j + (ds.length + 1) = j + 1 + ds.length from by omega]; exact h6⟩
    rcases h3 with rfl | rfl <;> simp only [forGo, h1, h2, h5]
/-- numbers alone -/
def Ints (ds : List D) : Prop := ∀ d ∈ ds, ∃ i : Int, d = .int i
theorem Ints.snoc {ds : List D} (h : Ints ds) (i : Int) : Ints (ds ++ [.int i]) := fun d hd => by
  rcases List.mem_append.mp hd with hd | hd
  · exact h d hd
  · exact ⟨i, List.mem_singleton.mp hd⟩
theorem take_eq {ds : List D} (h : Ints ds) {b : Nat} (hb : 0 < b) : ∃ r ds', f__law_take [.own ds, .val (iD b)] = some (.d (iD r), some ds') ∧ r < b ∧ Ints ds' := by
  have h0 : (0 : Int) < (b : Int) := by omega
  cases hl : ds.getLast? with
  | none =>
    have : ds = [] := List.getLast?_eq_none_iff.mp hl
    subst this
    exact ⟨0, [], rfl, hb, h⟩
  | some d =>
    obtain ⟨i, rfl⟩ := h d (List.mem_of_getLast? hl)
    have hne : ds ≠ [] := fun z => by rw [z] at hl; cases hl
    have hlen : decide (((ds.length : Nat) : Int) = 0) = false := decide_eq_false (by
      have := List.length_pos_iff.mpr hne
      omega)
    refine ⟨(i % (b : Int)).toNat, ds.dropLast, ?_, ?_, fun d hd => h d ((List.dropLast_sublist ds).subset hd)⟩
    · have h2 : 0 ≤ i % (b : Int) := Int.emod_nonneg _ (by omega)
      have e : iD (i % (b : Int)).toNat = .int (i % (b : Int)) := by
        unfold iD
        rw [Int.toNat_of_nonneg h2]
      rw [e]
      unfold f__law_take defF b__law_take
      simp only [xPass, xBrk, xCnt, xRet, xRetN, xExpr, putRV, xSet, xAsg, asgT, asgTs, xSeq, xIf, xApp, sPop, xSub, xAug, xPar, xPar3, sVar, lVar, sC, lOf, lRes, lRess, locDs, frzA, frzLocs, sBin, sUn, sBlt, aCons, aNil, sTup, sLst, sIf, sAnd, sOr, sNot, sChn, sSlc, oNone, oSome, tOfB, tTru, truth, tAnd2, tOr2, tNot2, tYes2, sCall, sCallIo, iM, itemsD, RV.frz, outOf, List.getElem?_cons_zero, List.getElem?_cons_succ, List.set_cons_zero, List.set_cons_succ, List.length_cons, List.length_nil, gIsi, isTy, gLen, gInt, gAbs, gTuple, gList, Mi.gSub, gNeg, gIs, gIsN, Option.map_some, Option.map_none, List.append_nil, Nat.sub_self, List.replicate_zero, gEq_ii, hlen, hl, iD, gMod_ii h0, if_true]
    · have h2 : 0 ≤ i % (b : Int) := Int.emod_nonneg _ (by omega)
      have h3 := Int.emod_lt_of_pos i h0
      omega
/-- a draw, as the law asks for it -/
theorem take_call {ρ : DEnv} {ds : List D} {la : Lm} {b : Nat} (h : Ints ds) (hb : 0 < b) (h1 : ρ[1]? = some (.own ds)) (ha : la ρ = some (.d (iD b), ρ)) :
    ∃ r ds', sCallIo f__law_take (aCons (lVar 1) (aCons la aNil)) ρ = some (.d (iD r), ρ.set 1 (.own ds')) ∧ r < b ∧ Ints ds' := by
  obtain ⟨r, ds', e, h2, h3⟩ := take_eq h hb
  refine ⟨r, ds', ?_, h2, h3⟩
  unfold sCallIo
  simp only [aCons, lVar, h1, ha, aNil, frzLocs, List.map_cons, List.map_nil, e]
theorem mulOk_r (i : Int) : mulOk i 48271 = true := by unfold mulOk; simp
theorem mulOk_r2 (i : Int) : mulOk i 69621 = true := by unfold mulOk; simp
theorem pow18 : gPow (.int 10) (.int 18) = some (.d (.int 1000000000000000000)) := by
  unfold gPow
  simp only
  rw [if_pos (by decide)]
  rfl
theorem gMul_ok {i j : Int} (h : mulOk i j = true) : gMul (.int i) (.int j) = some (.d (.int (i * j))) := by unfold gMul; simp only [h, if_true]
theorem gDiv_ok {i j : Int} (h : 0 < j ∧ j < 1073741824) : gDiv (.int i) (.int j) = some (.d (.int (i / j))) := by unfold gDiv; simp only [h, and_self, if_true]
/-- the draws so far: numbers, no more than that many -/
def DrI (script : D) (m : Nat) (ρ : DEnv) : Prop := ∃ ds c i f k s, ρ = [.val script, .own ds, c, .val (.int i), f, k, s] ∧ Ints ds ∧ ds.length ≤ m
theorem Ints.rev {ds : List D} (h : Ints ds) : Ints ds.reverse := fun d hd => h d (List.mem_reverse.mp hd)
theorem len_lt {ds : List D} {m : Nat} (h : ds.length ≤ m) (hm : m ≤ 1000000) : ds.length < sizeLine := by rw [sizeLine_eq]; omega
theorem loop60 {script : D} {ds : List D} {c f k s : Slot} {i : Int} {m : Nat} (hI : Ints ds) (hm : ds.length ≤ m) (hm2 : m ≤ 100000) :
    ∃ ρ', xFor (iR1 (aCons (lOf (sC (.int 60))) aNil)) (.nm 5) (xIf (tOfB (sBin gGt (lVar 3) (lOf (sC (.int 0))))) (xSeq (xApp 1 (aCons (lOf (sBin gMod (lOf (sBlt gInt (aCons (lVar 3) aNil))) (lOf (sC (.int 997))))) aNil))
      (xSet 3 (sBin gDiv (lVar 3) (lOf (sC (.int 997)))))) xPass) [.val script, .own ds, c, .val (.int i), f, k, s] = some (.nx, ρ') ∧ ∃ ds' i' k', ρ' = [.val script, .own ds', c, .val (.int i'), f, k', s] ∧ Ints ds' ∧ ds'.length ≤ m + 60 := by
  have loop := for_invN (t := .nm 5) (body := xIf (tOfB (sBin gGt (lVar 3) (lOf (sC (.int 0))))) (xSeq (xApp 1 (aCons (lOf (sBin gMod (lOf (sBlt gInt (aCons (lVar 3) aNil))) (lOf (sC (.int 997))))) aNil))
      (xSet 3 (sBin gDiv (lVar 3) (lOf (sC (.int 997)))))) xPass) (fun j ρ => ∃ ds' i' k', ρ = [.val script, .own ds', c, .val (.int i'), f, k', s] ∧ Ints ds' ∧ ds'.length ≤ m + j) (ds := (List.range 60).map iD) (j := 0) ⟨ds, i, k, rfl, hI, hm⟩ (fun d _ j ρ h hj => ?_)
  · obtain ⟨ρ', h1, ds', i', k', h2, h3, h4⟩ := loop
    refine ⟨ρ', xFor_eq (iR1_nat (l := .d (iD 60)) rfl rfl (by omega)) h1, ds', i', k', h2, h3, ?_⟩
    simpa using h4
  · obtain ⟨ds', i', k', rfl, h3, h4⟩ := h
    rw [List.length_map, List.length_range] at hj
    have hlt : ds'.length < sizeLine := len_lt h4 (by omega)
    by_cases hp : (0 : Int) < i'
    · refine ⟨[.val script, .own ds', c, .val (.int i'), f, .val d, s], .nx, [.val script, .own (ds' ++ [.int (i' % 997)]), c, .val (.int (i' / 997)), f, .val d, s], rfl, ?_, .inl rfl, _, _, _, rfl, h3.snoc _, by rw [List.length_append]; simp; omega⟩
      have e1 : gMod (.int i') (.int 997) = some (.d (.int (i' % 997))) := gMod_ii (by decide)
      have e2 : gDiv (.int i') (.int 997) = some (.d (.int (i' / 997))) := gDiv_ok (by decide)
      simp only [xPass, xBrk, xCnt, xRet, xRetN, xExpr, putRV, xSet, xAsg, asgT, asgTs, xSeq, xIf, xApp, sPop, xSub, xAug, xPar, xPar3, sVar, lVar, sC, lOf, lRes, lRess, locDs, frzA, frzLocs, sBin, sUn, sBlt, aCons, aNil, sTup, sLst, sIf, sAnd, sOr, sNot, sChn, sSlc, oNone, oSome, tOfB, tTru, truth, tAnd2, tOr2, tNot2, tYes2, sCall, sCallIo, iM, itemsD, RV.frz, outOf, List.getElem?_cons_zero, List.getElem?_cons_succ, List.set_cons_zero, List.set_cons_succ, List.length_cons, List.length_nil, gIsi, isTy, gLen, gInt, gAbs, gTuple, gList, Mi.gSub, gNeg, gIs, gIsN, Option.map_some, Option.map_none, gGt_ii, hp, decide_true, e1, hlt, if_true, e2]
      rfl
    · refine ⟨[.val script, .own ds', c, .val (.int i'), f, .val d, s], .nx, [.val script, .own ds', c, .val (.int i'), f, .val d, s], rfl, ?_, .inl rfl, _, _, _, rfl, h3, by omega⟩
      simp only [xPass, xBrk, xCnt, xRet, xRetN, xExpr, putRV, xSet, xAsg, asgT, asgTs, xSeq, xIf, xApp, sPop, xSub, xAug, xPar, xPar3, sVar, lVar, sC, lOf, lRes, lRess, locDs, frzA, frzLocs, sBin, sUn, sBlt, aCons, aNil, sTup, sLst, sIf, sAnd, sOr, sNot, sChn, sSlc, oNone, oSome, tOfB, tTru, truth, tAnd2, tOr2, tNot2, tYes2, sCall, sCallIo, iM, itemsD, RV.frz, outOf, List.getElem?_cons_zero, List.getElem?_cons_succ, List.set_cons_zero, List.set_cons_succ, List.length_cons, List.length_nil, gIsi, isTy, gLen, gInt, gAbs, gTuple, gList, Mi.gSub, gNeg, gIs, gIsN, Option.map_some, Option.map_none, gGt_ii, hp, decide_false]
theorem draws_eq (ns : List Int) (hn : ns.length ≤ 63) : ∃ ds, f__law_draws [.val (.list (ns.map .int))] = some (.fl ds, none) ∧ Ints ds := by
  let script : D := .list (ns.map .int)
  have hz : (0 : Nat) ≤ sizeLine := Nat.zero_le _
  -- over the cells
  have cells := for_invN (t := .nm 2) (body := (xSeq (xSet 3 (sBlt gAbs (aCons (lVar 2) aNil)))
    (xSeq (xIf (tOfB (sBin gLt (lVar 3) (lOf (sBin gPow (lOf (sC (.int 10))) (lOf (sC (.int 18))))))) (xSeq (xSet 4 (sBin gMod (lOf (sBlt gInt (aCons (lOf (sBin gAdd (lOf (sBin gMul (lVar 3) (lOf (sC (.int 48271))))) (lOf (sC (.int 11))))) aNil))) (lOf (sC (.int 2147483647)))))
    (xSeq (xApp 1 (aCons (lOf (sBin gMod (lOf (sBlt gInt (aCons (lOf (sBin gAdd (lOf (sBin gMul (lVar 4) (lOf (sC (.int 69621))))) (lVar 3))) aNil))) (lOf (sC (.int 2147483629))))) aNil))
    (xSeq (xApp 1 (aCons (lOf (sBin gMod (lOf (sBlt gInt (aCons (lOf (sBin gAdd (lVar 4) (lOf (sBin gDiv (lVar 3) (lOf (sC (.int 7))))))) aNil))) (lOf (sC (.int 1000003))))) aNil))
    (xSet 3 (sC (.int 0)))))) xPass)
    (xFor (iR1 (aCons (lOf (sC (.int 60))) aNil)) (.nm 5) (xIf (tOfB (sBin gGt (lVar 3) (lOf (sC (.int 0))))) (xSeq (xApp 1 (aCons (lOf (sBin gMod (lOf (sBlt gInt (aCons (lVar 3) aNil))) (lOf (sC (.int 997))))) aNil))
    (xSet 3 (sBin gDiv (lVar 3) (lOf (sC (.int 997)))))) xPass)))))
    (fun j ρ => ∃ ds c x f k, ρ = [.val script, .own ds, c, x, f, k, .no] ∧ Ints ds ∧ ds.length ≤ 62 * j) (ds := ns.map .int) (j := 0) (ρ := [.val script, .own [], .no, .no, .no, .no, .no]) ⟨[], .no, .no, .no, .no, rfl, fun d hd => (by cases hd), Nat.le_refl _⟩ (fun d hd j ρ h hj => ?_)
  · obtain ⟨ρ1, c1, ds, c, x, f, k, rfl, hI, hl⟩ := cells
    rw [List.length_map] at hl
    -- the seed
    have seed : ∃ z : Int, xSeq (xSet 6 (sC (.int 1))) (xIf (tOfB (sBin gGt (lOf (sBlt gLen (aCons (lVar 0) aNil))) (lOf (sC (.int 0))))) (xSet 6 (sBin gAdd (lOf (sC (.int 1))) (lOf (sBlt gAbs (aCons (lOf (sBin gIdx (lVar 0) (lOf (sC (.int 0))))) aNil))))) xPass) [.val script, .own ds, c, x, f, k, .no] = some (.nx, [.val script, .own ds, c, x, f, k, .val (.int z)]) := by
      cases ns with
      | nil => exact ⟨1, rfl⟩
      | cons a r =>
        refine ⟨1 + (if a < 0 then -a else a), ?_⟩
        have e : gIdx script (.int 0) = some (.d (.int a)) := gIdx_l (i := 0) rfl
        have e2 : decide ((0 : Int) < ((((a :: r).map PyData.int).length : Nat) : Int)) = true := decide_eq_true (by rw [List.length_map, List.length_cons]; omega)
        have e3 : gGt (.int ((((a :: r).map PyData.int).length : Nat) : Int)) (.int 0) = some (.d (.bool true)) := by rw [gGt_ii, e2]
        have e4 : gLen [script] = some (.d (.int ((((a :: r).map PyData.int).length : Nat) : Int))) := rfl
        refine (seq_nx (ρ1 := [.val script, .own ds, c, x, f, k, .val (.int 1)]) rfl).trans ((if_t (ρ1 := [.val script, .own ds, c, x, f, k, .val (.int 1)]) (ofB_eq (bin_eq (lOf_eq (blt1 rfl rfl e4)) rfl rfl rfl e3))).trans ?_)
        exact xSet_eq (rv := .d (.int (1 + (if a < 0 then -a else a)))) (ρ1 := [.val script, .own ds, c, x, f, k, .val (.int 1)]) (bin_eq (la := lOf (sC (.int 1))) (ρ1 := [.val script, .own ds, c, x, f, k, .val (.int 1)]) (l := .d (.int 1)) (m := .d (.int (if a < 0 then -a else a))) (x := .int 1) (y := .int (if a < 0 then -a else a)) rfl (lOf_eq (rv := .d (.int (if a < 0 then -a else a))) (blt1f (rw := .d (.int a)) (bin_eq rfl rfl rfl rfl e) rfl)) rfl rfl rfl) (by simp)
    obtain ⟨z, seed⟩ := seed
    have more := for_invN (t := .nm 5) (body := (xSeq (xSet 6 (sBin gMod (lOf (sBlt gInt (aCons (lOf (sBin gAdd (lOf (sBin gMul (lVar 6) (lOf (sC (.int 48271))))) (lOf (sC (.int 69621))))) aNil))) (lOf (sC (.int 2147483647)))))
      (xApp 1 (aCons (lOf (sBin gDiv (lVar 6) (lOf (sC (.int 5))))) aNil))))
      (fun j ρ => ∃ ds' k' z, ρ = [.val script, .own ds', c, x, f, k', .val (.int z)] ∧ Ints ds' ∧ ds'.length ≤ 62 * 63 + j) (ds := (List.range 900).map iD) (j := 0) (ρ := [.val script, .own ds, c, x, f, k, .val (.int z)]) ⟨ds, k, z, rfl, hI, by omega⟩ (fun d _ j ρ h hj => ?_)
    · obtain ⟨ρ2, m1, ds2, k2, z2, rfl, hI2, hl2⟩ := more
      refine ⟨ds2.reverse, ?_, hI2.rev⟩
      refine Mi.fn_of (n := 7) (ds := [script]) (ρ' := [.val script, .own ds2, c, x, f, k2, .val (.int z2)]) ?_
      unfold b__law_draws
      refine (seq_nx (ρ1 := [.val script, .own [], .no, .no, .no, .no, .no]) (by simp [xPass, xBrk, xCnt, xRet, xRetN, xExpr, putRV, xSet, xAsg, asgT, asgTs, xSeq, xIf, xApp, sPop, xSub, xAug, xPar, xPar3, sVar, lVar, sC, lOf, lRes, lRess, locDs, frzA, frzLocs, sBin, sUn, sBlt, aCons, aNil, sTup, sLst, sIf, sAnd, sOr, sNot, sChn, sSlc, oNone, oSome, tOfB, tTru, truth, tAnd2, tOr2, tNot2, tYes2, sCall, sCallIo, iM, itemsD, RV.frz, outOf, List.getElem?_cons_zero, List.getElem?_cons_succ, List.set_cons_zero, List.set_cons_succ, List.length_cons, List.length_nil, gIsi, isTy, gLen, gInt, gAbs, gTuple, gList, Mi.gSub, gNeg, gIs, gIsN, Option.map_some, Option.map_none])).trans ?_
      refine (seq_nx (xFor_eq (ρ1 := [.val script, .own [], .no, .no, .no, .no, .no]) rfl c1)).trans ?_
      have seed2 : ∀ g : Bm, xSeq (xSet 6 (sC (.int 1))) (xSeq (xIf (tOfB (sBin gGt (lOf (sBlt gLen (aCons (lVar 0) aNil))) (lOf (sC (.int 0))))) (xSet 6 (sBin gAdd (lOf (sC (.int 1))) (lOf (sBlt gAbs (aCons (lOf (sBin gIdx (lVar 0) (lOf (sC (.int 0))))) aNil))))) xPass) g) [.val script, .own ds, c, x, f, k, .no] = g [.val script, .own ds, c, x, f, k, .val (.int z)] := fun g => by
        have e1 : xSet 6 (sC (.int 1)) [.val script, .own ds, c, x, f, k, .no] = some (.nx, [.val script, .own ds, c, x, f, k, .val (.int 1)]) := rfl
        rw [seq_nx e1] at seed ⊢
        exact seq_nx seed
      refine (seed2 _).trans ?_
      refine (seq_nx (xFor_eq (iR1_nat (l := .d (iD 900)) rfl rfl (by omega)) m1)).trans ?_
      exact xRet_eq rfl
    · obtain ⟨ds', k', z', rfl, h3, h4⟩ := h
      rw [List.length_map, List.length_range] at hj
      have hlt : ds'.length < sizeLine := len_lt h4 (by omega)
      refine ⟨[.val script, .own ds', c, x, f, .val d, .val (.int z')], .nx, [.val script, .own (ds' ++ [.int ((z' * 48271 + 69621) % 2147483647 / 5)]), c, x, f, .val d, .val (.int ((z' * 48271 + 69621) % 2147483647))], rfl, ?_, .inl rfl, _, _, _, rfl, h3.snoc _, by rw [List.length_append]; simp; omega⟩
      have e1 := gMul_ok (mulOk_r z')
      have e2 : gMod (.int (z' * 48271 + 69621)) (.int 2147483647) = some (.d (.int ((z' * 48271 + 69621) % 2147483647))) := gMod_ii (by decide)
      have e3 : gDiv (.int ((z' * 48271 + 69621) % 2147483647)) (.int 5) = some (.d (.int ((z' * 48271 + 69621) % 2147483647 / 5))) := gDiv_ok (by decide)
      simp only [xPass, xBrk, xCnt, xRet, xRetN, xExpr, putRV, xSet, xAsg, asgT, asgTs, xSeq, xIf, xApp, sPop, xSub, xAug, xPar, xPar3, sVar, lVar, sC, lOf, lRes, lRess, locDs, frzA, frzLocs, sBin, sUn, sBlt, aCons, aNil, sTup, sLst, sIf, sAnd, sOr, sNot, sChn, sSlc, oNone, oSome, tOfB, tTru, truth, tAnd2, tOr2, tNot2, tYes2, sCall, sCallIo, iM, itemsD, RV.frz, outOf, List.getElem?_cons_zero, List.getElem?_cons_succ, List.set_cons_zero, List.set_cons_succ, List.length_cons, List.length_nil, gIsi, isTy, gLen, gInt, gAbs, gTuple, gList, Mi.gSub, gNeg, gIs, gIsN, Option.map_some, Option.map_none, e1, gAdd_ii, e2, e3, hlt, if_true, Nat.reduceAdd, Nat.reduceLT]
  · obtain ⟨ds', c, x, f, k, rfl, h3, h4⟩ := h
    rw [List.length_map] at hj
    obtain ⟨a, _, rfl⟩ := List.mem_map.mp hd
    refine ⟨[.val script, .own ds', .val (.int a), x, f, k, .no], ?_⟩
    have e0 : gAbs [.int a] = some (.d (.int (if a < 0 then -a else a))) := rfl
    generalize hb : (if a < 0 then -a else a) = b at e0
    have s1 : xSet 3 (sBlt gAbs (aCons (lVar 2) aNil)) [.val script, .own ds', .val (.int a), x, f, k, .no] = some (.nx, [.val script, .own ds', .val (.int a), .val (.int b), f, k, .no]) := xSet_eq (rv := .d (.int b)) (ρ1 := [.val script, .own ds', .val (.int a), x, f, k, .no]) (blt1 rfl rfl e0) (by simp)
    have cnd : tOfB (sBin gLt (lVar 3) (lOf (sBin gPow (lOf (sC (.int 10))) (lOf (sC (.int 18)))))) [.val script, .own ds', .val (.int a), .val (.int b), f, k, .no] = some (decide (b < 1000000000000000000), [.val script, .own ds', .val (.int a), .val (.int b), f, k, .no]) :=
      ofB_eq (bin_eq (y := .int 1000000000000000000) rfl (lOf_eq (bin_eq rfl rfl rfl rfl pow18)) rfl rfl (gLt_ii ..))
    by_cases hs : b < 1000000000000000000
    · rw [decide_eq_true hs] at cnd
      have e1 := gMul_ok (mulOk_r b)
      have e2 : gMod (.int (b * 48271 + 11)) (.int 2147483647) = some (.d (.int ((b * 48271 + 11) % 2147483647))) := gMod_ii (by decide)
      generalize hf : (b * 48271 + 11) % 2147483647 = u at e2
      have e3 := gMul_ok (mulOk_r2 u)
      have e4 : gMod (.int (u * 69621 + b)) (.int 2147483629) = some (.d (.int ((u * 69621 + b) % 2147483629))) := gMod_ii (by decide)
      have e5 : gDiv (.int b) (.int 7) = some (.d (.int (b / 7))) := gDiv_ok (by decide)
      have e6 : gMod (.int (u + b / 7)) (.int 1000003) = some (.d (.int ((u + b / 7) % 1000003))) := gMod_ii (by decide)
      have hl1 : ds'.length < sizeLine := len_lt h4 (by omega)
      have hl2 : (ds' ++ [PyData.int ((u * 69621 + b) % 2147483629)]).length < sizeLine := len_lt (m := 62 * j + 1) (by rw [List.length_append]; simp; omega) (by omega)
      obtain ⟨ρ', l1, ds2, i2, k2, rfl, l2, l3⟩ := loop60 (script := script) (c := .val (.int a)) (f := .val (.int u)) (k := k) (s := .no) (i := 0) (ds := ds' ++ [.int ((u * 69621 + b) % 2147483629)] ++ [.int ((u + b / 7) % 1000003)]) (m := 62 * j + 2) ((h3.snoc _).snoc _) (by rw [List.length_append, List.length_append]; simp; omega) (by omega)
      have a1 : xSet 4 (sBin gMod (lOf (sBlt gInt (aCons (lOf (sBin gAdd (lOf (sBin gMul (lVar 3) (lOf (sC (.int 48271))))) (lOf (sC (.int 11))))) aNil))) (lOf (sC (.int 2147483647)))) [.val script, .own ds', .val (.int a), .val (.int b), f, k, .no] = some (.nx, [.val script, .own ds', .val (.int a), .val (.int b), .val (.int u), k, .no]) := by
        simp only [xPass, xBrk, xCnt, xRet, xRetN, xExpr, putRV, xSet, xAsg, asgT, asgTs, xSeq, xIf, xApp, sPop, xSub, xAug, xPar, xPar3, sVar, lVar, sC, lOf, lRes, lRess, locDs, frzA, frzLocs, sBin, sUn, sBlt, aCons, aNil, sTup, sLst, sIf, sAnd, sOr, sNot, sChn, sSlc, oNone, oSome, tOfB, tTru, truth, tAnd2, tOr2, tNot2, tYes2, sCall, sCallIo, iM, itemsD, RV.frz, outOf, List.getElem?_cons_zero, List.getElem?_cons_succ, List.set_cons_zero, List.set_cons_succ, List.length_cons, List.length_nil, gIsi, isTy, gLen, gInt, gAbs, gTuple, gList, Mi.gSub, gNeg, gIs, gIsN, Option.map_some, Option.map_none, e1, gAdd_ii, e2]
        rfl
      have a2 : xApp 1 (aCons (lOf (sBin gMod (lOf (sBlt gInt (aCons (lOf (sBin gAdd (lOf (sBin gMul (lVar 4) (lOf (sC (.int 69621))))) (lVar 3))) aNil))) (lOf (sC (.int 2147483629))))) aNil) [.val script, .own ds', .val (.int a), .val (.int b), .val (.int u), k, .no] = some (.nx, [.val script, .own (ds' ++ [.int ((u * 69621 + b) % 2147483629)]), .val (.int a), .val (.int b), .val (.int u), k, .no]) := by
        simp only [xPass, xBrk, xCnt, xRet, xRetN, xExpr, putRV, xSet, xAsg, asgT, asgTs, xSeq, xIf, xApp, sPop, xSub, xAug, xPar, xPar3, sVar, lVar, sC, lOf, lRes, lRess, locDs, frzA, frzLocs, sBin, sUn, sBlt, aCons, aNil, sTup, sLst, sIf, sAnd, sOr, sNot, sChn, sSlc, oNone, oSome, tOfB, tTru, truth, tAnd2, tOr2, tNot2, tYes2, sCall, sCallIo, iM, itemsD, RV.frz, outOf, List.getElem?_cons_zero, List.getElem?_cons_succ, List.set_cons_zero, List.set_cons_succ, List.length_cons, List.length_nil, gIsi, isTy, gLen, gInt, gAbs, gTuple, gList, Mi.gSub, gNeg, gIs, gIsN, Option.map_some, Option.map_none, e3, gAdd_ii, e4, hl1, if_true]
      have a3 : xApp 1 (aCons (lOf (sBin gMod (lOf (sBlt gInt (aCons (lOf (sBin gAdd (lVar 4) (lOf (sBin gDiv (lVar 3) (lOf (sC (.int 7))))))) aNil))) (lOf (sC (.int 1000003))))) aNil) [.val script, .own (ds' ++ [.int ((u * 69621 + b) % 2147483629)]), .val (.int a), .val (.int b), .val (.int u), k, .no] = some (.nx, [.val script, .own (ds' ++ [.int ((u * 69621 + b) % 2147483629)] ++ [.int ((u + b / 7) % 1000003)]), .val (.int a), .val (.int b), .val (.int u), k, .no]) := by
        simp only [xPass, xBrk, xCnt, xRet, xRetN, xExpr, putRV, xSet, xAsg, asgT, asgTs, xSeq, xIf, xApp, sPop, xSub, xAug, xPar, xPar3, sVar, lVar, sC, lOf, lRes, lRess, locDs, frzA, frzLocs, sBin, sUn, sBlt, aCons, aNil, sTup, sLst, sIf, sAnd, sOr, sNot, sChn, sSlc, oNone, oSome, tOfB, tTru, truth, tAnd2, tOr2, tNot2, tYes2, sCall, sCallIo, iM, itemsD, RV.frz, outOf, List.getElem?_cons_zero, List.getElem?_cons_succ, List.set_cons_zero, List.set_cons_succ, List.length_cons, List.length_nil, gIsi, isTy, gLen, gInt, gAbs, gTuple, gList, Mi.gSub, gNeg, gIs, gIsN, Option.map_some, Option.map_none, e5, gAdd_ii, e6, hl2, if_true]
      have body : xIf (tOfB (sBin gLt (lVar 3) (lOf (sBin gPow (lOf (sC (.int 10))) (lOf (sC (.int 18))))))) (xSeq (xSet 4 (sBin gMod (lOf (sBlt gInt (aCons (lOf (sBin gAdd (lOf (sBin gMul (lVar 3) (lOf (sC (.int 48271))))) (lOf (sC (.int 11))))) aNil))) (lOf (sC (.int 2147483647)))))
        (xSeq (xApp 1 (aCons (lOf (sBin gMod (lOf (sBlt gInt (aCons (lOf (sBin gAdd (lOf (sBin gMul (lVar 4) (lOf (sC (.int 69621))))) (lVar 3))) aNil))) (lOf (sC (.int 2147483629))))) aNil))
        (xSeq (xApp 1 (aCons (lOf (sBin gMod (lOf (sBlt gInt (aCons (lOf (sBin gAdd (lVar 4) (lOf (sBin gDiv (lVar 3) (lOf (sC (.int 7))))))) aNil))) (lOf (sC (.int 1000003))))) aNil))
        (xSet 3 (sC (.int 0)))))) xPass [.val script, .own ds', .val (.int a), .val (.int b), f, k, .no] = some (.nx, [.val script, .own (ds' ++ [.int ((u * 69621 + b) % 2147483629)] ++ [.int ((u + b / 7) % 1000003)]), .val (.int a), .val (.int 0), .val (.int u), k, .no]) := by
        rw [if_t cnd, seq_nx a1, seq_nx a2, seq_nx a3]
        simp only [xSet, sC, putRV, List.length_cons, List.length_nil, Nat.reduceAdd, Nat.reduceLT, if_true, List.set_cons_succ, List.set_cons_zero]
      refine ⟨.nx, [.val script, .own ds2, .val (.int a), .val (.int i2), .val (.int u), k2, .no], rfl, ?_, .inl rfl, ds2, _, _, _, _, rfl, l2, by omega⟩
      rw [seq_nx s1, seq_nx body]
      exact l1
    · rw [decide_eq_false hs] at cnd
      obtain ⟨ρ', l1, ds2, i2, k2, rfl, l2, l3⟩ := loop60 (script := script) (c := .val (.int a)) (f := f) (k := k) (s := .no) (i := b) (ds := ds') (m := 62 * j) h3 h4 (by omega)
      refine ⟨.nx, [.val script, .own ds2, .val (.int a), .val (.int i2), f, k2, .no], rfl, ?_, .inl rfl, ds2, _, _, _, _, rfl, l2, by omega⟩
      rw [seq_nx s1, seq_nx (show xIf _ _ xPass _ = some (.nx, _) from (if_f cnd).trans rfl)]
      exact l1
end Cp

set_option maxRecDepth 100000
set_option maxHeartbeats 1000000
namespace Cp
open PySem PySem.Spec Mi
/- data without dicts, its lists short -/
mutual
def flat : D → Bool
  | .list xs => flats xs && decide (xs.length ≤ 1000000)
  | .tuple xs => flats xs && decide (xs.length ≤ 1000000)
  | .dict _ => false
  | _ => true
def flats : List D → Bool
  | [] => true
  | x :: xs => flat x && flats xs
end
theorem flats_at : ∀ {xs : List D} {i : Nat} {d : D}, flats xs = true → xs[i]? = some d → flat d = true
  | [], _, _, _, e => by simp at e
  | x :: xs, 0, d, h, e => by
    cases e
    exact (Bool.and_eq_true _ _ ▸ (show (flat x && flats xs) = true from h) : flat x = true ∧ flats xs = true).1
  | x :: xs, i + 1, d, h, e => flats_at ((Bool.and_eq_true _ _ ▸ (show (flat x && flats xs) = true from h) : flat x = true ∧ flats xs = true).2) e
theorem depth_at : ∀ {xs : List D} {i : Nat} {d : D}, xs[i]? = some d → d.depth ≤ PyData.depthAll xs
  | [], _, _, e => by simp at e
  | x :: xs, 0, d, e => by
    cases e
    show PyData.depth x ≤ max (PyData.depth x) (PyData.depthAll xs)
    omega
  | x :: xs, i + 1, d, e => by
    have := depth_at (xs := xs) (i := i) e
    show d.depth ≤ max (PyData.depth x) (PyData.depthAll xs)
    omega
theorem gIs_none (d : D) : gIs d .none = some (.d (.bool (match d with | .none => true | _ => false))) := by cases d <;> rfl
theorem gEq_bb (a b : Bool) : gEq (.bool a) (.bool b) = some (.d (.bool (a == b))) := by
  unfold gEq; rw [shal_l _ _ (by cases a <;> decide)]; rfl
theorem gNe_bb (a b : Bool) : gNe (.bool a) (.bool b) = some (.d (.bool (!(a == b)))) := by
  unfold gNe; rw [shal_l _ _ (by cases a <;> decide)]; rfl
theorem gEq_ss (a b : Str) : gEq (.str a) (.str b) = some (.d (.bool (a == b))) := by
  unfold gEq; rw [shal_l _ _ (by show (PyData.depth (.str a)) ≤ 60; simp [PyData.depth])]; rfl
/-- what the law calls alike: every value is, to itself -/
theorem alike_self : ∀ (m : Nat) (d : D), flat d = true → d.depth ≤ m → f__law_alike (m + 1) [.val d, .val d] = some (.d (.bool true), none) := by
  have seq : ∀ (m : Nat), (∀ d : D, flat d = true → d.depth ≤ m → f__law_alike (m + 1) [.val d, .val d] = some (.d (.bool true), none)) → ∀ (mk : List D → D) (xs : List D), (mk xs = .list xs ∨ mk xs = .tuple xs) → flats xs = true → xs.length ≤ 1000000 → PyData.depthAll xs ≤ m →
      f__law_alike (m + 1 + 1) [.val (mk xs), .val (mk xs)] = some (.d (.bool true), none) := by
    intro m ih mk xs hmk hf hl hd
    have e : sLc (iR1 (aCons (lOf (sBlt gLen (aCons (lVar 1) aNil))) aNil)) (.nm 2) (tNot2 (tTru (lOf (sCall (f__law_alike (m + 1)) (aCons (lOf (sBin gIdx (lVar 0) (lVar 2))) (aCons (lOf (sBin gIdx (lVar 1) (lVar 2))) aNil)))))) (sVar 2) [2] [.val (mk xs), .val (mk xs), .no] = some (.fl [], [.val (mk xs), .val (mk xs), .no]) := by
      have := sLc_enc iD (l := List.range xs.length) (fi := iR1 (aCons (lOf (sBlt gLen (aCons (lVar 1) aNil))) aNil)) (t := .nm 2) (ft := tNot2 (tTru (lOf (sCall (f__law_alike (m + 1)) (aCons (lOf (sBin gIdx (lVar 0) (lVar 2))) (aCons (lOf (sBin gIdx (lVar 1) (lVar 2))) aNil)))))) (fe := sVar 2) (vs := [2]) (ρ := [.val (mk xs), .val (mk xs), .no]) (ρ1 := [.val (mk xs), .val (mk xs), .no]) (fun _ => false) iD
        (iR1_nat (l := .d (iD xs.length)) (by rcases hmk with h | h <;> rw [h] <;> rfl) rfl hl) rfl (fun k hk => by
          have hk := List.mem_range.mp hk
          have hx : xs[k]? = some xs[k] := List.getElem?_eq_getElem hk
          have hi : gIdx (mk xs) (iD k) = some (.d xs[k]) := by rcases hmk with h | h <;> rw [h] <;> first | exact gIdx_l hx | exact gIdx_t hx
          have hc := ih xs[k] (flats_at hf hx) (Nat.le_trans (depth_at hx) hd)
          refine ⟨[.val (mk xs), .val (mk xs), .val (iD k)], [.val (mk xs), .val (mk xs), .val (iD k)], rfl, ?_, fun _ => rfl, fun z => by cases z⟩
          simp only [xPass, xBrk, xCnt, xRet, xRetN, xExpr, putRV, xSet, xAsg, asgT, asgTs, xSeq, xIf, xApp, sPop, xSub, xAug, xPar, xPar3, sVar, lVar, sC, lOf, lRes, lRess, locDs, frzA, frzLocs, sBin, sUn, sBlt, aCons, aNil, sTup, sLst, sIf, sAnd, sOr, sNot, sChn, sSlc, oNone, oSome, tOfB, tTru, truth, tAnd2, tOr2, tNot2, tYes2, sCall, sCallIo, iM, itemsD, RV.frz, outOf, List.getElem?_cons_zero, List.getElem?_cons_succ, List.set_cons_zero, List.set_cons_succ, List.length_cons, List.length_nil, gIsi, isTy, gLen, gInt, gAbs, gTuple, gList, Mi.gSub, gNeg, gIs, gIsN, Option.map_some, Option.map_none, hi, List.map_cons, List.map_nil, hc, Bool.not_true]) (by rw [List.length_range]; exact hl)
      rw [List.filter_eq_nil_iff.mpr (fun _ _ => Bool.false_ne_true)] at this
      exact this
    have e2 := gEq_nil ([] : List D)
    refine Mi.fn_of (n := 3) (ds := [mk xs, mk xs]) (ρ' := [.val (mk xs), .val (mk xs), .no]) ?_
    unfold b__law_alike
    refine seq_ret ((if_t (ρ1 := [.val (mk xs), .val (mk xs), .no]) ?_).trans ?_)
    · rcases hmk with h | h <;> rw [h] <;> rfl
    · refine (seq_nx (ρ1 := [.val (mk xs), .val (mk xs), .no]) ((if_f (ρ1 := [.val (mk xs), .val (mk xs), .no]) ?_).trans rfl)).trans ?_
      · rcases hmk with h | h <;> rw [h] <;> simp [xPass, xBrk, xCnt, xRet, xRetN, xExpr, putRV, xSet, xAsg, asgT, asgTs, xSeq, xIf, xApp, sPop, xSub, xAug, xPar, xPar3, sVar, lVar, sC, lOf, lRes, lRess, locDs, frzA, frzLocs, sBin, sUn, sBlt, aCons, aNil, sTup, sLst, sIf, sAnd, sOr, sNot, sChn, sSlc, oNone, oSome, tOfB, tTru, truth, tAnd2, tOr2, tNot2, tYes2, sCall, sCallIo, iM, itemsD, RV.frz, outOf, List.getElem?_cons_zero, List.getElem?_cons_succ, List.set_cons_zero, List.set_cons_succ, List.length_cons, List.length_nil, gIsi, isTy, gLen, gInt, gAbs, gTuple, gList, Mi.gSub, gNeg, gIs, gIsN, Option.map_some, Option.map_none, gNe_bb]
      · refine xRet_eq ?_
        have e3 : sBin gEq (lOf (sBlt gLen (aCons (lVar 0) aNil))) (lOf (sBlt gLen (aCons (lVar 1) aNil))) [.val (mk xs), .val (mk xs), .no] = some (.d (.bool true), [.val (mk xs), .val (mk xs), .no]) := by
          rcases hmk with h | h <;> rw [h] <;> simp [xPass, xBrk, xCnt, xRet, xRetN, xExpr, putRV, xSet, xAsg, asgT, asgTs, xSeq, xIf, xApp, sPop, xSub, xAug, xPar, xPar3, sVar, lVar, sC, lOf, lRes, lRess, locDs, frzA, frzLocs, sBin, sUn, sBlt, aCons, aNil, sTup, sLst, sIf, sAnd, sOr, sNot, sChn, sSlc, oNone, oSome, tOfB, tTru, truth, tAnd2, tOr2, tNot2, tYes2, sCall, sCallIo, iM, itemsD, RV.frz, outOf, List.getElem?_cons_zero, List.getElem?_cons_succ, List.set_cons_zero, List.set_cons_succ, List.length_cons, List.length_nil, gIsi, isTy, gLen, gInt, gAbs, gTuple, gList, Mi.gSub, gNeg, gIs, gIsN, Option.map_some, Option.map_none, gEq_ii]
        have e4 : sBin gEq (lOf (sLc (iR1 (aCons (lOf (sBlt gLen (aCons (lVar 1) aNil))) aNil)) (.nm 2) (tNot2 (tTru (lOf (sCall (f__law_alike (m + 1)) (aCons (lOf (sBin gIdx (lVar 0) (lVar 2))) (aCons (lOf (sBin gIdx (lVar 1) (lVar 2))) aNil)))))) (sVar 2) [2])) (lOf (sLst aNil)) [.val (mk xs), .val (mk xs), .no] = some (.d (.bool true), [.val (mk xs), .val (mk xs), .no]) :=
          bin_eq (lOf_eq e) (lOf_eq (rv := .fl []) (by simp [xPass, xBrk, xCnt, xRet, xRetN, xExpr, putRV, xSet, xAsg, asgT, asgTs, xSeq, xIf, xApp, sPop, xSub, xAug, xPar, xPar3, sVar, lVar, sC, lOf, lRes, lRess, locDs, frzA, frzLocs, sBin, sUn, sBlt, aCons, aNil, sTup, sLst, sIf, sAnd, sOr, sNot, sChn, sSlc, oNone, oSome, tOfB, tTru, truth, tAnd2, tOr2, tNot2, tYes2, sCall, sCallIo, iM, itemsD, RV.frz, outOf, List.getElem?_cons_zero, List.getElem?_cons_succ, List.set_cons_zero, List.set_cons_succ, List.length_cons, List.length_nil, gIsi, isTy, gLen, gInt, gAbs, gTuple, gList, Mi.gSub, gNeg, gIs, gIsN, Option.map_some, Option.map_none])) rfl rfl e2
        unfold sAnd
        simp only [e3, truth, e4]
  have at0 : ∀ (m : Nat) (d : D), flat d = true → (∀ xs, d ≠ .list xs) → (∀ xs, d ≠ .tuple xs) → f__law_alike (m + 1) [.val d, .val d] = some (.d (.bool true), none) := by
    intro m d hf h1 h2
    refine Mi.fn_of (n := 3) (ds := [d, d]) (ρ' := [.val d, .val d, .no]) ?_
    unfold b__law_alike
    refine (seq_nx (ρ1 := [.val d, .val d, .no]) ((if_f (ρ1 := [.val d, .val d, .no]) ?_).trans rfl)).trans ?_
    · cases d <;> first | rfl | exact absurd rfl (h1 _) | exact absurd rfl (h2 _)
    · cases d with
      | none => exact seq_ret ((if_t (ρ1 := [.val .none, .val .none, .no]) rfl).trans rfl)
      | bool b =>
        refine (seq_nx (ρ1 := [.val (.bool b), .val (.bool b), .no]) ((if_f (ρ1 := [.val (.bool b), .val (.bool b), .no]) rfl).trans rfl)).trans ?_
        refine seq_ret ((if_t (ρ1 := [.val (.bool b), .val (.bool b), .no]) rfl).trans (xRet_eq ?_))
        simp [xPass, xBrk, xCnt, xRet, xRetN, xExpr, putRV, xSet, xAsg, asgT, asgTs, xSeq, xIf, xApp, sPop, xSub, xAug, xPar, xPar3, sVar, lVar, sC, lOf, lRes, lRess, locDs, frzA, frzLocs, sBin, sUn, sBlt, aCons, aNil, sTup, sLst, sIf, sAnd, sOr, sNot, sChn, sSlc, oNone, oSome, tOfB, tTru, truth, tAnd2, tOr2, tNot2, tYes2, sCall, sCallIo, iM, itemsD, RV.frz, outOf, List.getElem?_cons_zero, List.getElem?_cons_succ, List.set_cons_zero, List.set_cons_succ, List.length_cons, List.length_nil, gIsi, isTy, gLen, gInt, gAbs, gTuple, gList, Mi.gSub, gNeg, gIs, gIsN, Option.map_some, Option.map_none, gEq_bb]
      | int i =>
        refine (seq_nx (ρ1 := [.val (.int i), .val (.int i), .no]) ((if_f (ρ1 := [.val (.int i), .val (.int i), .no]) rfl).trans rfl)).trans ?_
        refine (seq_nx (ρ1 := [.val (.int i), .val (.int i), .no]) ((if_f (ρ1 := [.val (.int i), .val (.int i), .no]) rfl).trans rfl)).trans ?_
        refine seq_ret ((if_t (ρ1 := [.val (.int i), .val (.int i), .no]) rfl).trans (xRet_eq ?_))
        simp [xPass, xBrk, xCnt, xRet, xRetN, xExpr, putRV, xSet, xAsg, asgT, asgTs, xSeq, xIf, xApp, sPop, xSub, xAug, xPar, xPar3, sVar, lVar, sC, lOf, lRes, lRess, locDs, frzA, frzLocs, sBin, sUn, sBlt, aCons, aNil, sTup, sLst, sIf, sAnd, sOr, sNot, sChn, sSlc, oNone, oSome, tOfB, tTru, truth, tAnd2, tOr2, tNot2, tYes2, sCall, sCallIo, iM, itemsD, RV.frz, outOf, List.getElem?_cons_zero, List.getElem?_cons_succ, List.set_cons_zero, List.set_cons_succ, List.length_cons, List.length_nil, gIsi, isTy, gLen, gInt, gAbs, gTuple, gList, Mi.gSub, gNeg, gIs, gIsN, Option.map_some, Option.map_none, gEq_ii]
      | str x =>
        refine (seq_nx (ρ1 := [.val (.str x), .val (.str x), .no]) ((if_f (ρ1 := [.val (.str x), .val (.str x), .no]) rfl).trans rfl)).trans ?_
        refine (seq_nx (ρ1 := [.val (.str x), .val (.str x), .no]) ((if_f (ρ1 := [.val (.str x), .val (.str x), .no]) rfl).trans rfl)).trans ?_
        refine (seq_nx (ρ1 := [.val (.str x), .val (.str x), .no]) ((if_f (ρ1 := [.val (.str x), .val (.str x), .no]) rfl).trans rfl)).trans ?_
        refine xRet_eq ?_
        simp [xPass, xBrk, xCnt, xRet, xRetN, xExpr, putRV, xSet, xAsg, asgT, asgTs, xSeq, xIf, xApp, sPop, xSub, xAug, xPar, xPar3, sVar, lVar, sC, lOf, lRes, lRess, locDs, frzA, frzLocs, sBin, sUn, sBlt, aCons, aNil, sTup, sLst, sIf, sAnd, sOr, sNot, sChn, sSlc, oNone, oSome, tOfB, tTru, truth, tAnd2, tOr2, tNot2, tYes2, sCall, sCallIo, iM, itemsD, RV.frz, outOf, List.getElem?_cons_zero, List.getElem?_cons_succ, List.set_cons_zero, List.set_cons_succ, List.length_cons, List.length_nil, gIsi, isTy, gLen, gInt, gAbs, gTuple, gList, Mi.gSub, gNeg, gIs, gIsN, Option.map_some, Option.map_none, gEq_ss]
      | list xs => exact absurd rfl (h1 _)
      | tuple xs => exact absurd rfl (h2 _)
      | dict kv => cases hf
  intro m
  induction m with
  | zero =>
    intro d hf hd
    refine at0 0 d hf (fun xs z => ?_) (fun xs z => ?_) <;> subst z
    · have : PyData.depthAll xs + 1 ≤ 0 := hd
      omega
    · have : PyData.depthAll xs + 1 ≤ 0 := hd
      omega
  | succ m ih =>
    intro d hf hd
    cases d with
    | list xs =>
      have hf : (flats xs && decide (xs.length ≤ 1000000)) = true := hf
      rw [Bool.and_eq_true] at hf
      have : PyData.depthAll xs + 1 ≤ m + 1 := hd
      exact seq m ih .list xs (.inl rfl) hf.1 (of_decide_eq_true hf.2) (by omega)
    | tuple xs =>
      have hf : (flats xs && decide (xs.length ≤ 1000000)) = true := hf
      rw [Bool.and_eq_true] at hf
      have : PyData.depthAll xs + 1 ≤ m + 1 := hd
      exact seq m ih .tuple xs (.inr rfl) hf.1 (of_decide_eq_true hf.2) (by omega)
    | none => exact at0 (m + 1) _ hf (fun xs z => nomatch z) (fun xs z => nomatch z)
    | bool b => exact at0 (m + 1) _ hf (fun xs z => nomatch z) (fun xs z => nomatch z)
    | int b => exact at0 (m + 1) _ hf (fun xs z => nomatch z) (fun xs z => nomatch z)
    | str b => exact at0 (m + 1) _ hf (fun xs z => nomatch z) (fun xs z => nomatch z)
    | dict b => cases hf
theorem says_eq (a b : Bool) : f__law_says [.val (.bool a), .val (.bool b)] = some (.d (.bool (a == b)), none) := by
  unfold f__law_says defF b__law_says
  simp [xPass, xBrk, xCnt, xRet, xRetN, xExpr, putRV, xSet, xAsg, asgT, asgTs, xSeq, xIf, xApp, sPop, xSub, xAug, xPar, xPar3, sVar, lVar, sC, lOf, lRes, lRess, locDs, frzA, frzLocs, sBin, sUn, sBlt, aCons, aNil, sTup, sLst, sIf, sAnd, sOr, sNot, sChn, sSlc, oNone, oSome, tOfB, tTru, truth, tAnd2, tOr2, tNot2, tYes2, sCall, sCallIo, iM, itemsD, RV.frz, outOf, List.getElem?_cons_zero, List.getElem?_cons_succ, List.set_cons_zero, List.set_cons_succ, List.length_cons, List.length_nil, gIsi, isTy, gLen, gInt, gAbs, gTuple, gList, Mi.gSub, gNeg, gIs, gIsN, Option.map_some, Option.map_none, gEq_bb]
end Cp

set_option maxRecDepth 100000
set_option maxHeartbeats 1000000
namespace Cp
open PySem PySem.Spec Mi
/-- arcs as the law draws them -/
def Okay (n : Nat) (A : List Arc) : Prop := ∀ a ∈ A, a.1 < n ∧ 1 ≤ a.2 ∧ a.2 ≤ n
theorem walked_mem {n b m p : Nat} (hb : b < n) (hm : m ≤ n) (hp : p < n) : ((List.range m).map fun s => (b + s) % n).contains p = lit n (b, m) p := by
  have hn : 0 < n := by omega
  have key : (∃ s, s < m ∧ (b + s) % n = p) ↔ (((p : Int) - (b : Int)) % (n : Int) < (m : Int)) := by
    constructor
    · rintro ⟨s, hs, rfl⟩
      have e : (((b + s) % n : Nat) : Int) - (b : Int) = (s : Int) - (n : Int) * (((b + s) / n : Nat) : Int) := by
        have := Nat.div_add_mod (b + s) n
        have h2 : ((b + s : Nat) : Int) = (n : Int) * (((b + s) / n : Nat) : Int) + (((b + s) % n : Nat) : Int) := by exact_mod_cast this.symm
        push_cast at h2 ⊢
        omega
      rw [e, Int.sub_mul_emod_self_left, Int.emod_eq_of_lt (by omega) (by omega)]
      omega
    · intro h
      have h0 : 0 ≤ ((p : Int) - (b : Int)) % (n : Int) := Int.emod_nonneg _ (by omega)
      refine ⟨(((p : Int) - (b : Int)) % (n : Int)).toNat, by omega, ?_⟩
      have e : ((b + (((p : Int) - (b : Int)) % (n : Int)).toNat : Nat) : Int) % (n : Int) = (p : Int) := by
        rw [Int.natCast_add, Int.toNat_of_nonneg h0, Int.add_emod, Int.emod_emod, ← Int.add_emod]
        rw [show (b : Int) + ((p : Int) - (b : Int)) = (p : Int) from by omega, Int.emod_eq_of_lt (by omega) (by omega)]
      exact_mod_cast e
  unfold lit
  rw [Bool.eq_iff_iff, decide_eq_true_eq, ← key, List.contains_iff_mem, List.mem_map]
  constructor
  · rintro ⟨s, h1, h2⟩
    exact ⟨s, List.mem_range.mp h1, h2⟩
  · rintro ⟨s, h1, h2⟩
    exact ⟨s, List.mem_range.mpr h1, h2⟩
theorem gMul_one (k : Nat) (b : Bool) : gMul (.list [iD k]) (.int (if b = true then 1 else 0)) = some (.fl (if b = true then [iD k] else [])) := by
  cases b
  · have : (0 : Int) ≤ 0 ∧ (0 : Int) ≤ 100000 ∧ [iD k].length * (0 : Int).toNat ≤ sizeLine := ⟨by decide, by decide, by simp⟩
    unfold gMul
    simp only [Bool.false_eq_true, if_false, this, and_self, if_true]
    rfl
  · have : (0 : Int) ≤ 1 ∧ (1 : Int) ≤ 100000 ∧ [iD k].length * (1 : Int).toNat ≤ sizeLine := ⟨by decide, by decide, fits (by simp)⟩
    unfold gMul
    simp only [if_true, this, and_self]
    rfl
section
variable (n : Nat) (hn : 0 < n) (h1 : n ≤ 1000) (A : List Arc) (hA : A.length ≤ 10) (hO : Okay n A)
include hn h1 hA hO
theorem seen_eq (p : Nat) (hp : p < n) : f__law_seen [.val (isl n A), .val (iD p)] = some (.d (lstD (rw n A p)), none) := by
  let enc : List Nat → (Slot × Slot) → DEnv := fun s x => [.val (isl n A), .val (iD p), .val (iD n), .val (.tuple (A.map arcD)), .own (s.map iD), x.1, x.2, .no]
  let step : List Nat → Nat → List Nat := fun s k => if lit n (A.getD k (0, 0)) p = true then s ++ [k] else s
  have loop := for_foldN (t := .nm 5) (body := (xSeq (xSet 6 (sLc (iR1 (aCons (lOf (sBin gIdx (lOf (sBin gIdx (lVar 3) (lVar 5))) (lOf (sC (.int 1))))) aNil)) (.nm 7) tYes2 (sBin gMod (lOf (sBlt gInt (aCons (lOf (sBin gAdd (lOf (sBin gIdx (lOf (sBin gIdx (lVar 3) (lVar 5))) (lOf (sC (.int 0))))) (lVar 7))) aNil))) (lVar 2)) [7]))
    (xSet 4 (sBin gAdd (lVar 4) (lOf (sBin gMul (lOf (sLst (aCons (lVar 5) aNil))) (lOf (sBlt gInt (aCons (lOf (sBin gIn (lVar 1) (lVar 6))) aNil)))))))))
    enc iD step (fun j s => s.length ≤ j) (l := List.range A.length) (j := 0) (s := []) (x := (.no, .no)) (Nat.le_refl _) (fun k hk i s x hs hi => ?_)
  · obtain ⟨_, x', loop⟩ := loop
    have ef : (List.range A.length).foldl step [] = rw n A p := by
      have := foldl_app (fun k => lit n (A.getD k (0, 0)) p) id (List.range A.length) []
      rw [List.nil_append, List.map_id] at this
      exact this
    rw [ef] at loop
    refine Mi.fn_of (n := 8) (ds := [isl n A, iD p]) (ρ' := [.val (isl n A), .val (iD p), .val (iD n), .val (.tuple (A.map arcD)), .val (lstD (rw n A p)), x'.1, x'.2, .no]) ?_
    unfold b__law_seen
    refine (seq_nx (ρ1 := [.val (isl n A), .val (iD p), .val (iD n), .val (.tuple (A.map arcD)), .no, .no, .no, .no]) rfl).trans ?_
    refine (seq_nx (ρ1 := enc [] (.no, .no)) (by simp [xPass, xBrk, xCnt, xRet, xRetN, xExpr, putRV, xSet, xAsg, asgT, asgTs, xSeq, xIf, xApp, sPop, xSub, xAug, xPar, xPar3, sVar, lVar, sC, lOf, lRes, lRess, locDs, frzA, frzLocs, sBin, sUn, sBlt, aCons, aNil, sTup, sLst, sIf, sAnd, sOr, sNot, sChn, sSlc, oNone, oSome, tOfB, tTru, truth, tAnd2, tOr2, tNot2, tYes2, sCall, sCallIo, iM, itemsD, RV.frz, outOf, List.getElem?_cons_zero, List.getElem?_cons_succ, List.set_cons_zero, List.set_cons_succ, List.length_cons, List.length_nil, gIsi, isTy, gLen, gInt, gAbs, gTuple, gList, Mi.gSub, gNeg, gIs, gIsN, Option.map_some, Option.map_none, enc])).trans ?_
    refine (seq_nx (xFor_eq (ds := (List.range A.length).map iD) (ρ1 := enc [] (.no, .no)) (iR1_nat (l := .d (iD A.length)) (by simp only [enc, xPass, xBrk, xCnt, xRet, xRetN, xExpr, putRV, xSet, xAsg, asgT, asgTs, xSeq, xIf, xApp, sPop, xSub, xAug, xPar, xPar3, sVar, lVar, sC, lOf, lRes, lRess, locDs, frzA, frzLocs, sBin, sUn, sBlt, aCons, aNil, sTup, sLst, sIf, sAnd, sOr, sNot, sChn, sSlc, oNone, oSome, tOfB, tTru, truth, tAnd2, tOr2, tNot2, tYes2, sCall, sCallIo, iM, itemsD, RV.frz, outOf, List.getElem?_cons_zero, List.getElem?_cons_succ, List.set_cons_zero, List.set_cons_succ, List.length_cons, List.length_nil, gIsi, isTy, gLen, gInt, gAbs, gTuple, gList, Mi.gSub, gNeg, gIs, gIsN, Option.map_some, Option.map_none, List.length_map]; rfl) rfl (by omega)) loop)).trans ?_
    exact xRet_eq rfl
  · obtain ⟨x5, x6⟩ := x
    rw [List.length_range] at hi
    have hk := List.mem_range.mp hk
    have hget : A.getD k (0, 0) ∈ A := by
      rw [List.getD_eq_getElem?_getD, List.getElem?_eq_getElem hk]
      exact List.getElem_mem hk
    obtain ⟨o1, o2, o3⟩ := hO _ hget
    have g0 : gIdx (.tuple (A.map arcD)) (iD k) = some (.d (arcD (A.getD k (0, 0)))) := gIdx_t (by
      rw [List.getElem?_map, List.getElem?_eq_getElem hk, List.getD_eq_getElem?_getD, List.getElem?_eq_getElem hk]
      rfl)
    have hw := walked_mem o1 o3 hp
    rcases ha : A.getD k (0, 0) with ⟨b, m⟩
    rw [ha] at o1 o2 o3 hw g0
    simp only at o1 o2 o3 hw
    have ga : gIdx (arcD (b, m)) (.int 0) = some (.d (iD b)) := gIdx_t (i := 0) rfl
    have gb : gIdx (arcD (b, m)) (.int 1) = some (.d (iD m)) := gIdx_t (i := 1) rfl
    have h0 : (0 : Int) < (n : Int) := by omega
    let W : List Nat := (List.range m).map fun st => (b + st) % n
    have hstep : step s k = s ++ (if W.contains p = true then [k] else []) := by
      show (if lit n (A.getD k (0, 0)) p = true then s ++ [k] else s) = _
      rw [ha, ← hw]
      show (if W.contains p = true then s ++ [k] else s) = _
      split <;> simp
    have hlen : (step s k).length ≤ i + 1 := by
      rw [hstep, List.length_append]
      split <;> simp <;> omega
    refine ⟨hlen, [.val (isl n A), .val (iD p), .val (iD n), .val (.tuple (A.map arcD)), .own (s.map iD), .val (iD k), x6, .no], .nx, (.val (iD k), .own (W.map iD)), rfl, ?_, .inl rfl⟩
    have e6 : sLc (iR1 (aCons (lOf (sBin gIdx (lOf (sBin gIdx (lVar 3) (lVar 5))) (lOf (sC (.int 1))))) aNil)) (.nm 7) tYes2 (sBin gMod (lOf (sBlt gInt (aCons (lOf (sBin gAdd (lOf (sBin gIdx (lOf (sBin gIdx (lVar 3) (lVar 5))) (lOf (sC (.int 0))))) (lVar 7))) aNil))) (lVar 2)) [7]
        [.val (isl n A), .val (iD p), .val (iD n), .val (.tuple (A.map arcD)), .own (s.map iD), .val (iD k), x6, .no] = some (.fl (W.map iD), [.val (isl n A), .val (iD p), .val (iD n), .val (.tuple (A.map arcD)), .own (s.map iD), .val (iD k), x6, .no]) := by
      have := sLc_map iD (l := List.range m) (fi := iR1 (aCons (lOf (sBin gIdx (lOf (sBin gIdx (lVar 3) (lVar 5))) (lOf (sC (.int 1))))) aNil)) (t := .nm 7) (fe := sBin gMod (lOf (sBlt gInt (aCons (lOf (sBin gAdd (lOf (sBin gIdx (lOf (sBin gIdx (lVar 3) (lVar 5))) (lOf (sC (.int 0))))) (lVar 7))) aNil))) (lVar 2)) (vs := [7])
        (ρ := [.val (isl n A), .val (iD p), .val (iD n), .val (.tuple (A.map arcD)), .own (s.map iD), .val (iD k), x6, .no]) (ρ1 := [.val (isl n A), .val (iD p), .val (iD n), .val (.tuple (A.map arcD)), .own (s.map iD), .val (iD k), x6, .no]) (fun st => iD ((b + st) % n))
        (iR1_nat (l := .d (iD m)) (by simp only [xPass, xBrk, xCnt, xRet, xRetN, xExpr, putRV, xSet, xAsg, asgT, asgTs, xSeq, xIf, xApp, sPop, xSub, xAug, xPar, xPar3, sVar, lVar, sC, lOf, lRes, lRess, locDs, frzA, frzLocs, sBin, sUn, sBlt, aCons, aNil, sTup, sLst, sIf, sAnd, sOr, sNot, sChn, sSlc, oNone, oSome, tOfB, tTru, truth, tAnd2, tOr2, tNot2, tYes2, sCall, sCallIo, iM, itemsD, RV.frz, outOf, List.getElem?_cons_zero, List.getElem?_cons_succ, List.set_cons_zero, List.set_cons_succ, List.length_cons, List.length_nil, gIsi, isTy, gLen, gInt, gAbs, gTuple, gList, Mi.gSub, gNeg, gIs, gIsN, Option.map_some, Option.map_none, g0, gb]) rfl (by omega)) rfl (fun st _ => by
          have e1 : (.int (((b : Int) + (st : Int)) % (n : Int)) : D) = iD ((b + st) % n) := rfl
          refine ⟨[.val (isl n A), .val (iD p), .val (iD n), .val (.tuple (A.map arcD)), .own (s.map iD), .val (iD k), x6, .val (iD st)], .d (iD ((b + st) % n)), [.val (isl n A), .val (iD p), .val (iD n), .val (.tuple (A.map arcD)), .own (s.map iD), .val (iD k), x6, .val (iD st)], rfl, ?_, rfl, rfl⟩
          have g0' := g0
          have ga' := ga
          simp only [iD] at g0' ga'
          simp only [xPass, xBrk, xCnt, xRet, xRetN, xExpr, putRV, xSet, xAsg, asgT, asgTs, xSeq, xIf, xApp, sPop, xSub, xAug, xPar, xPar3, sVar, lVar, sC, lOf, lRes, lRess, locDs, frzA, frzLocs, sBin, sUn, sBlt, aCons, aNil, sTup, sLst, sIf, sAnd, sOr, sNot, sChn, sSlc, oNone, oSome, tOfB, tTru, truth, tAnd2, tOr2, tNot2, tYes2, sCall, sCallIo, iM, itemsD, RV.frz, outOf, List.getElem?_cons_zero, List.getElem?_cons_succ, List.set_cons_zero, List.set_cons_succ, List.length_cons, List.length_nil, gIsi, isTy, gLen, gInt, gAbs, gTuple, gList, Mi.gSub, gNeg, gIs, gIsN, Option.map_some, Option.map_none, iD, g0', ga', gAdd_ii, gMod_ii h0]
          rfl) (by rw [List.length_range]; omega)
      rw [this, List.map_map]
      rfl
    refine (seq_nx (xSet_eq (rv := .fl (W.map iD)) (ρ1 := [.val (isl n A), .val (iD p), .val (iD n), .val (.tuple (A.map arcD)), .own (s.map iD), .val (iD k), x6, .no]) e6 (by simp))).trans ?_
    have gin := gIn_nat W p
    have gmu := gMul_one k (W.contains p)
    have gad : gAdd (.list (s.map iD)) (.list (if W.contains p = true then [iD k] else [])) = some (.fl ((step s k).map iD)) := by
      have e : (step s k).map iD = s.map iD ++ (if W.contains p = true then [iD k] else []) := by
        rw [hstep, List.map_append]
        congr 1
        split <;> rfl
      rw [e]
      refine if_pos (fits ?_)
      rw [List.length_map]
      split <;> simp <;> omega
    have hz1 : (1 : Nat) ≤ sizeLine := fits (by omega)
    have e7 : sLst (aCons (lVar 5) aNil) [.val (isl n A), .val (iD p), .val (iD n), .val (.tuple (A.map arcD)), .own (s.map iD), .val (iD k), .own (W.map iD), .no] = some (.fl [iD k], [.val (isl n A), .val (iD p), .val (iD n), .val (.tuple (A.map arcD)), .own (s.map iD), .val (iD k), .own (W.map iD), .no]) := by
      simp [xPass, xBrk, xCnt, xRet, xRetN, xExpr, putRV, xSet, xAsg, asgT, asgTs, xSeq, xIf, xApp, sPop, xSub, xAug, xPar, xPar3, sVar, lVar, sC, lOf, lRes, lRess, locDs, frzA, frzLocs, sBin, sUn, sBlt, aCons, aNil, sTup, sLst, sIf, sAnd, sOr, sNot, sChn, sSlc, oNone, oSome, tOfB, tTru, truth, tAnd2, tOr2, tNot2, tYes2, sCall, sCallIo, iM, itemsD, RV.frz, outOf, List.getElem?_cons_zero, List.getElem?_cons_succ, List.set_cons_zero, List.set_cons_succ, List.length_cons, List.length_nil, gIsi, isTy, gLen, gInt, gAbs, gTuple, gList, Mi.gSub, gNeg, gIs, gIsN, Option.map_some, Option.map_none, hz1]
    refine xSet_eq (rv := .fl ((step s k).map iD)) (ρ1 := [.val (isl n A), .val (iD p), .val (iD n), .val (.tuple (A.map arcD)), .own (s.map iD), .val (iD k), .own (W.map iD), .no]) (bin_eq (l := .at 4) rfl (lOf_eq (bin_eq (lOf_eq e7) (lOf_eq (blt1f (bin_eq (l := .d (iD p)) (m := .at 6) rfl rfl rfl rfl gin) rfl)) rfl rfl gmu)) rfl rfl gad) (by simp)
end
end Cp

set_option maxRecDepth 100000
set_option maxHeartbeats 1000000
namespace Cp
open PySem PySem.Spec Mi
/-- what the law's state keeps through its run -/
structure L0 (n : Nat) (ds : List D) (ρ : DEnv) : Prop where
  len : ρ.length = 23
  d : ρ[1]? = some (.own ds)
  num : Ints ds
  a : ρ[2]? = some (.val (iD n))
  fr : ∀ j, 17 ≤ j → j < 23 → ρ[j]? = some .no
  p : isOwn ρ[11]? = false
theorem L0.set {n : Nat} {ds : List D} {ρ : DEnv} (h : L0 n ds ρ) {j : Nat} (s : Slot) (h1 : j ≠ 1) (h2 : j ≠ 2) (h3 : j ≠ 11) (h4 : j < 17) : L0 n ds (ρ.set j s) :=
  ⟨by rw [List.length_set]; exact h.len, get_ne h.d h1, h.num, get_ne h.a h2, fun k a b => get_ne (h.fr k a b) (by omega), by rw [List.getElem?_set_ne h3]; exact h.p⟩
theorem L0.draw {n : Nat} {ds ds' : List D} {ρ : DEnv} (h : L0 n ds ρ) (hi : Ints ds') : L0 n ds' (ρ.set 1 (.own ds')) :=
  ⟨by rw [List.length_set]; exact h.len, get_eq (by rw [h.len]; decide), hi, get_ne h.a (by decide), fun k a b => get_ne (h.fr k a b) (by omega), by rw [List.getElem?_set_ne (by decide)]; exact h.p⟩
theorem L0.place {n : Nat} {ds : List D} {ρ : DEnv} (h : L0 n ds ρ) (x : D) : L0 n ds (ρ.set 11 (.val x)) :=
  ⟨by rw [List.length_set]; exact h.len, get_ne h.d (by decide), h.num, get_ne h.a (by decide), fun k a b => get_ne (h.fr k a b) (by omega), by rw [get_eq (by rw [h.len]; decide)]; rfl⟩
theorem onePlus {f : Sm} {ρ ρ1 : DEnv} {r : Nat} (h : f ρ = some (.d (iD r), ρ1)) : sBin gAdd (lOf (sC (.int 1))) (lOf f) ρ = some (.d (iD (1 + r)), ρ1) :=
  bin_eq (la := lOf (sC (.int 1))) (ρ1 := ρ) (l := .d (.int 1)) (m := .d (iD r)) (x := .int 1) (y := iD r) rfl (lOf_eq h) rfl rfl (by
    show some (RV.d (PyData.int (1 + (r : Int)))) = some (RV.d (PyData.int ((1 + r : Nat) : Int)))
    congr 3)
theorem aCons_eq {l : Lm} {r : Am} {ρ ρ1 ρ2 : DEnv} {x : Mi.Loc} {xs : List Mi.Loc} (h : l ρ = some (x, ρ1)) (h2 : r ρ1 = some (xs, ρ2)) : aCons l r ρ = some (x :: xs, ρ2) := by unfold aCons; simp only [h, h2]
theorem sTup_eq {r : Am} {ρ ρ1 : DEnv} {ls : List Mi.Loc} {ds : List D} (h : r ρ = some (ls, ρ1)) (h2 : locDs ls = some ds) (hl : ds.length ≤ 1000) : sTup r ρ = some (.d (.tuple ds), ρ1) := by
  unfold sTup; simp only [h, h2, fits (show ds.length ≤ 1000000 by omega), if_true]
theorem sLst_eq {r : Am} {ρ ρ1 : DEnv} {ls : List Mi.Loc} {ds : List D} (h : r ρ = some (ls, ρ1)) (h2 : locDs ls = some ds) (hl : ds.length ≤ 1000) : sLst r ρ = some (.fl ds, ρ1) := by
  unfold sLst; simp only [h, h2, fits (show ds.length ≤ 1000000 by omega), if_true]
theorem xApp_eq {i : Nat} {r : Am} {ρ ρ1 ρ2 : DEnv} {ls : List Mi.Loc} {xs0 xs : List D} {x : D} (h0 : ρ[i]? = some (.own xs0)) (h : r ρ = some (ls, ρ1)) (h2 : frzLocs ls ρ1 = some ([x], ρ2)) (h3 : ρ2[i]? = some (.own xs)) (hl : xs.length < sizeLine) : xApp i r ρ = some (.nx, ρ2.set i (.own (xs ++ [x]))) := by
  unfold xApp frzA; simp only [h0, h, h2, h3, hl, if_true]
theorem lVar_val {i : Nat} {ρ : DEnv} {d : D} (h : ρ[i]? = some (.val d)) : lVar i ρ = some (.d d, ρ) := by unfold lVar; simp only [h]
theorem lVar_own {i : Nat} {ρ : DEnv} {xs : List D} (h : ρ[i]? = some (.own xs)) : lVar i ρ = some (.at i, ρ) := by unfold lVar; simp only [h]
theorem lRes_own {i : Nat} {ρ : DEnv} {xs : List D} (h : ρ[i]? = some (.own xs)) : lRes ρ (.at i) = some (.list xs) := by simp only [lRes, h]
theorem sVar_val {i : Nat} {ρ : DEnv} {d : D} (h : ρ[i]? = some (.val d)) : sVar i ρ = some (.d d, ρ) := by unfold sVar; simp only [h]
theorem flats_nat (l : List Nat) : flats (l.map iD) = true := by
  induction l with
  | nil => rfl
  | cons a r ih =>
    show (flat (iD a) && flats (r.map iD)) = true
    rw [ih]; rfl
theorem flat_tup (l : List Nat) (h : l.length ≤ 1000000) : flat (.tuple (l.map iD)) = true := by
  show (flats (l.map iD) && decide ((l.map iD).length ≤ 1000000)) = true
  rw [flats_nat, List.length_map, decide_eq_true h]; rfl
theorem depth_tup (l : List Nat) : PyData.depth (.tuple (l.map iD)) ≤ 2 := by
  have := depth_nat l
  show PyData.depthAll (l.map iD) + 1 ≤ 2
  omega
theorem isIsl_ok {n : Nat} {A : List Arc} (hn0 : 0 < n) (hn1 : n ≤ 12) (hA1 : 1 ≤ A.length) (hA : A.length ≤ 10) (hO : Okay n A) : isIsl (isl n A) = true := by
  have h1 : isNum (iD n) 1 200 = true := by
    unfold isNum iD
    simp only [Bool.and_eq_true, decide_eq_true_eq]
    omega
  have h2 : (A.map arcD).all (isArc (n : Int)) = true := by
    rw [List.all_map, List.all_eq_true]
    intro a ha
    obtain ⟨o1, o2, o3⟩ := hO a ha
    show (isNum (iD a.1) 0 ((n : Int) - 1) && isNum (iD a.2) 1 (n : Int)) = true
    unfold isNum iD
    simp only [Bool.and_eq_true, decide_eq_true_eq]
    omega
  show (isNum (.int (n : Int)) 1 200 && (decide (1 ≤ ((A.map arcD).length : Int)) && decide (((A.map arcD).length : Int) ≤ 10)) && (A.map arcD).all (isArc (n : Int))) = true
  rw [h2, show isNum (.int (n : Int)) 1 200 = true from h1, List.length_map, decide_eq_true (show (1 : Int) ≤ (A.length : Int) by omega), decide_eq_true (show (A.length : Int) ≤ 10 by omega)]
  rfl

theorem set_same {ρ : DEnv} {i : Nat} {s : Slot} (h : ρ[i]? = some s) : ρ.set i s = ρ := by
  refine List.ext_getElem? fun j => ?_
  by_cases e : i = j
  · subst e
    rw [List.getElem?_set_self (List.getElem?_eq_some_iff.mp h).1, h]
  · rw [List.getElem?_set_ne e]
theorem iM_holds {i : Nat} {ρ : DEnv} {s : Slot} {xs : List D} (h : ρ[i]? = some s) (hs : Holds xs s) : iM (sVar i) ρ = some (xs, ρ.set i (.val (.list xs))) := by
  rcases hs with rfl | rfl
  · unfold iM sVar
    simp only [h, itemsD, RV.frz]
  · unfold iM sVar
    simp only [h, itemsD, RV.frz, set_same h]
theorem for_invI {t : Tg} {body : Bm} {α : Type} (itm : α → D) (I : Nat → DEnv → Prop) : ∀ {l : List α} {j : Nat} {ρ : DEnv}, I j ρ → (∀ i a ρ, l[i]? = some a → I (j + i) ρ → ∃ ρ1 fl ρ2, asgT t (itm a) ρ = some ρ1 ∧ body ρ1 = some (fl, ρ2) ∧ (fl = .nx ∨ fl = .ct) ∧ I (j + i + 1) ρ2) →
    ∃ ρ', forGo t body (l.map itm) ρ = some (.nx, ρ') ∧ I (j + l.length) ρ'
  | [], j, ρ, h0, _ => ⟨ρ, rfl, h0⟩
  | d :: ds, j, ρ, h0, h => by
    obtain ⟨ρ1, fl, ρ2, h1, h2, h3, h4⟩ := h 0 d ρ rfl h0
    obtain ⟨ρ', h5, h6⟩ := for_invI itm I (l := ds) (j := j + 1) h4 fun i a ρ hi hI => by
      obtain ⟨r1, f, r2, a1, a2, a3, a4⟩ := h (i + 1) a ρ hi (by rw [show j + (i + 1) = j + 1 + i from by omega]; exact hI)
      exact ⟨r1, f, r2, a1, a2, a3, by rw [show j + 1 + i + 1 = j + (i + 1) + 1 from by omega]; exact a4⟩
    refine ⟨ρ', ?_, by rw [List.length_cons, show j + (ds.length + 1) = j + 1 + ds.length from by omega]; exact h6⟩
    rcases h3 with rfl | rfl <;> simp only [List.map_cons, forGo, h1, h2, h5]
/-- what else the law's state holds once rows and good are there -/
structure L1 (n : Nat) (A : List Arc) (G : List NP) (ρ : DEnv) : Prop where
  arcs : ρ[3]? = some (.own (A.map arcD))
  isl : ρ[5]? = some (.val (isl n A))
  rows : ∃ s, ρ[6]? = some s ∧ Holds ((rws n A).map lstD) s
  good : ρ[7]? = some (.own (G.map npD))
theorem L1.set {n : Nat} {A : List Arc} {G : List NP} {ρ : DEnv} (h : L1 n A G ρ) {j : Nat} (s : Slot) (h3 : j ≠ 3) (h5 : j ≠ 5) (h6 : j ≠ 6) (h7 : j ≠ 7) : L1 n A G (ρ.set j s) :=
  ⟨get_ne h.arcs h3, get_ne h.isl h5, by obtain ⟨s, a, b⟩ := h.rows; exact ⟨s, get_ne a h6, b⟩, get_ne h.good h7⟩
theorem L1.rowsV {n : Nat} {A : List Arc} {G : List NP} {ρ : DEnv} (h : L1 n A G ρ) (hl : 6 < ρ.length) : L1 n A G (ρ.set 6 (.val (.list ((rws n A).map lstD)))) :=
  ⟨get_ne h.arcs (by decide), get_ne h.isl (by decide), ⟨_, get_eq hl, .inr rfl⟩, get_ne h.good (by decide)⟩
/-- the good sets among the first masks -/
def goodN (n : Nat) (A : List Arc) (m : Nat) : List NP := ((List.range m).filter fun k => hit n A (sel A.length k)).map fun k => ((sel A.length k).length, sel A.length k)
theorem goodN_succ (n : Nat) (A : List Arc) (m : Nat) : goodN n A (m + 1) = goodN n A m ++ (if hit n A (sel A.length m) = true then [((sel A.length m).length, sel A.length m)] else []) := by
  unfold goodN
  rw [List.range_succ, List.filter_append, List.map_append]
  congr 1
  by_cases h : hit n A (sel A.length m) = true
  · rw [if_pos h, List.filter_cons, if_pos h]; rfl
  · rw [if_neg h, List.filter_cons, if_neg h]; rfl
theorem goodN_len (n : Nat) (A : List Arc) (m : Nat) : (goodN n A m).length ≤ m := by
  unfold goodN
  rw [List.length_map]
  have := List.length_filter_le (fun k => hit n A (sel A.length k)) (List.range m)
  rwa [List.length_range] at this
theorem hit_alt (n : Nat) (A : List Arc) (s : List Nat) : ((rws n A).filter fun r => !r.isEmpty && (r.filter fun k => s.contains k).isEmpty).isEmpty = hit n A s := by
  unfold hit lrs
  generalize rws n A = R
  induction R with
  | nil => rfl
  | cons r R ih =>
    have e : (r.filter fun k => s.contains k).isEmpty = !(r.any fun k => s.contains k) := by
      rw [Bool.eq_iff_iff]
      simp [List.isEmpty_iff, List.filter_eq_nil_iff]
    rw [List.filter_cons, List.filter_cons, e]
    cases hr : r.isEmpty with
    | true =>
      simp only [Bool.not_true, Bool.false_and, Bool.false_eq_true, if_false]
      exact ih
    | false =>
      simp only [Bool.not_false, Bool.true_and, if_true, List.all_cons]
      cases ha : (r.any fun k => s.contains k) with
      | true =>
        simp only [Bool.not_true, Bool.false_eq_true, if_false, Bool.true_and]
        exact ih
      | false => simp
end Cp

set_option maxRecDepth 100000
set_option maxHeartbeats 1000000
namespace Cp
open PySem PySem.Spec Mi
/-! ### how much the lights cover -/
theorem nodup_le {α : Type} [DecidableEq α] : ∀ (l m : List α), l.Nodup → (∀ x ∈ l, x ∈ m) → l.length ≤ m.length
  | [], m, _, _ => Nat.zero_le _
  | a :: l, m, hn, h => by
    have ha := h a List.mem_cons_self
    have hn2 := List.nodup_cons.mp hn
    have ih := nodup_le l (m.erase a) hn2.2 fun x hx => (List.mem_erase_of_ne (by intro z; subst z; exact hn2.1 hx)).mpr (h x (List.mem_cons_of_mem _ hx))
    rw [List.length_erase_of_mem ha] at ih
    have := List.length_pos_of_mem ha
    rw [List.length_cons]
    omega
theorem cover_ge {n b m : Nat} (hb : b < n) (hm : m ≤ n) : m ≤ ((List.range n).filter fun p => lit n (b, m) p).length := by
  have hn : 0 < n := by omega
  have h := nodup_le ((List.range m).map fun s => (b + s) % n) ((List.range n).filter fun p => lit n (b, m) p) ?_ ?_
  · rwa [List.length_map, List.length_range] at h
  · rw [List.Nodup, List.pairwise_map]
    refine List.Pairwise.imp_of_mem ?_ (List.nodup_range (n := m))
    intro s t hs ht hne z
    have hs := List.mem_range.mp hs
    have ht := List.mem_range.mp ht
    have e : ∀ x, x < n → (b + x) % n = if b + x < n then b + x else b + x - n := fun x hx => by
      split
      · exact Nat.mod_eq_of_lt ‹_›
      · rw [Nat.mod_eq_sub_mod (by omega), Nat.mod_eq_of_lt (by omega)]
    rw [e s (by omega), e t (by omega)] at z
    split at z <;> split at z <;> omega
  · intro x hx
    obtain ⟨s, hs, rfl⟩ := List.mem_map.mp hx
    have hlt := Nat.mod_lt (b + s) hn
    refine List.mem_filter.mpr ⟨List.mem_range.mpr hlt, ?_⟩
    rw [← walked_mem hb hm hlt]
    exact List.contains_iff_mem.mpr hx
theorem sum_le {l : List Nat} {c : Nat} (h : ∀ x ∈ l, x ≤ c) : l.sum ≤ c * l.length := by
  induction l with
  | nil => simp
  | cons a r ih =>
    have h1 := h a List.mem_cons_self
    have h2 := ih fun x hx => h x (List.mem_cons_of_mem _ hx)
    rw [List.sum_cons, List.length_cons, Nat.mul_succ]
    omega
theorem swap_one {α β : Type} (f : α → β → Bool) (x : α) (xs : List α) : ∀ ys : List β, (ys.map fun y => ((x :: xs).filter fun x => f x y).length).sum = (ys.filter fun y => f x y).length + (ys.map fun y => (xs.filter fun x => f x y).length).sum
  | [] => rfl
  | y :: ys => by
    rw [List.map_cons, List.sum_cons, List.map_cons, List.sum_cons, swap_one f x xs ys, List.filter_cons, List.filter_cons]
    cases f x y <;> simp <;> omega
/-- counted by rows, counted by columns -/
theorem swap_count {α β : Type} (f : α → β → Bool) (ys : List β) : ∀ xs : List α, (xs.map fun x => (ys.filter fun y => f x y).length).sum = (ys.map fun y => (xs.filter fun x => f x y).length).sum
  | [] => by
    induction ys with
    | nil => rfl
    | cons y ys ih =>
      rw [List.map_cons, List.sum_cons, ← ih]
      rfl
  | x :: xs => by rw [swap_one, List.map_cons, List.sum_cons, swap_count f ys xs]
/-- the lights' lengths are no more than the greatest row, as often as there are places -/
theorem cover_sum {n : Nat} {A : List Arc} (hO : Okay n A) : (A.map fun a => a.2).sum ≤ maxN ((rws n A).map List.length) * n := by
  have h1 : (A.map fun a => a.2).sum ≤ ((List.range A.length).map fun k => ((List.range n).filter fun p => lit n (A.getD k (0, 0)) p).length).sum := by
    have e : A = (List.range A.length).map fun k => A.getD k (0, 0) := by
      refine List.ext_getElem? fun i => ?_
      rw [List.getElem?_map]
      by_cases h : i < A.length
      · rw [List.getElem?_range h, List.getElem?_eq_getElem h, Option.map_some, List.getD_eq_getElem?_getD, List.getElem?_eq_getElem h]
        rfl
      · rw [List.getElem?_eq_none (by omega), List.getElem?_eq_none (by rw [List.length_range]; omega)]
        rfl
    have e2 : (A.map fun a => a.2) = (List.range A.length).map fun k => (A.getD k (0, 0)).2 := by
      conv => lhs; rw [e]
      rw [List.map_map]
      rfl
    rw [e2]
    have : ∀ l : List Nat, (∀ k ∈ l, k < A.length) → (l.map fun k => (A.getD k (0, 0)).2).sum ≤ (l.map fun k => ((List.range n).filter fun p => lit n (A.getD k (0, 0)) p).length).sum := by
      intro l
      induction l with
      | nil => intro _; exact Nat.le_refl _
      | cons k l ih =>
        intro h
        have hk := h k List.mem_cons_self
        have hm : A.getD k (0, 0) ∈ A := by
          rw [List.getD_eq_getElem?_getD, List.getElem?_eq_getElem hk]
          exact List.getElem_mem hk
        obtain ⟨o1, o2, o3⟩ := hO _ hm
        have c1 : (A.getD k (0, 0)).2 ≤ ((List.range n).filter fun p => lit n (A.getD k (0, 0)) p).length := cover_ge o1 o3
        have := ih fun x hx => h x (List.mem_cons_of_mem _ hx)
        rw [List.map_cons, List.map_cons, List.sum_cons, List.sum_cons]
        omega
    exact this _ fun k hk => List.mem_range.mp hk
  have h2 := swap_count (fun k p => lit n (A.getD k (0, 0)) p) (List.range n) (List.range A.length)
  have h3 : ((List.range n).map fun p => ((List.range A.length).filter fun k => lit n (A.getD k (0, 0)) p).length) = (rws n A).map List.length := by
    unfold rws
    rw [List.map_map]
    rfl
  have h4 := sum_le (l := (rws n A).map List.length) (c := maxN ((rws n A).map List.length)) fun x hx => le_maxN hx
  rw [List.length_map, show (rws n A).length = n from by unfold rws; rw [List.length_map, List.length_range]] at h4
  rw [h2, h3] at h1
  exact Nat.le_trans h1 h4
/-! ### all lights together reach every lit row -/
theorem bit_full {m i : Nat} (h : i < m) : bit (2 ^ m - 1) i = true := by
  unfold bit
  have e : (((2 ^ m - 1 : Nat) : Int) / 2 ^ i) = (((2 ^ m - 1) / 2 ^ i : Nat) : Int) := by
    rw [Int.natCast_ediv]
    norm_cast
  rw [e]
  have e2 : Builtin.bitAnd ((((2 ^ m - 1) / 2 ^ i : Nat) : Nat) : Int) 1 = ((((2 ^ m - 1) / 2 ^ i) &&& 1 : Nat) : Int) := by
    generalize (2 ^ m - 1) / 2 ^ i = x
    unfold Builtin.bitAnd
    rw [decide_eq_true (Int.natCast_nonneg x), decide_eq_true (show (0 : Int) ≤ 1 by decide)]
    rfl
  rw [e2, Nat.and_one_is_mod]
  have h3 : ((2 ^ m - 1) / 2 ^ i) % 2 = 1 := by
    have := Nat.testBit_two_pow_sub_one m i
    rw [decide_eq_true h, Nat.testBit_eq_decide_div_mod_eq] at this
    exact of_decide_eq_true this
  rw [h3]
  rfl
theorem good_full (n : Nat) (A : List Arc) : (A.length, List.range A.length) ∈ good n A := by
  have hs : sel A.length (2 ^ A.length - 1) = List.range A.length := by
    unfold sel
    exact List.filter_eq_self.mpr fun i hi => bit_full (List.mem_range.mp hi)
  have hh : hit n A (List.range A.length) = true := by
    unfold hit lrs
    rw [List.all_eq_true]
    intro r hr
    obtain ⟨h1, h2⟩ := List.mem_filter.mp hr
    cases r with
    | nil => cases h2
    | cons k r =>
      unfold rws at h1
      obtain ⟨p, _, e⟩ := List.mem_map.mp h1
      have : k ∈ rw n A p := by rw [e]; exact List.mem_cons_self
      have := (List.mem_filter.mp this).1
      rw [List.any_cons, List.contains_iff_mem.mpr this]
      rfl
  unfold good
  refine List.mem_map.mpr ⟨2 ^ A.length - 1, List.mem_filter.mpr ⟨List.mem_range.mpr ?_, by rw [hs]; exact hh⟩, by rw [hs, List.length_range]⟩
  have : 0 < 2 ^ A.length := Nat.pow_pos (by decide)
  omega
end Cp

set_option maxRecDepth 100000
set_option maxHeartbeats 1000000
namespace Cp
open PySem PySem.Spec Mi
/-! ### runs of darkness, in a row of two rounds -/
section
variable (dk : Nat → Bool)
/-- how many are dark up to t, one behind the other -/
def cur : Nat → Nat
  | 0 => 0
  | t + 1 => if dk t = true then cur t + 1 else 0
def best : Nat → Nat
  | 0 => 0
  | t + 1 => max (best t) (cur dk (t + 1))
/-- the runs as the law keeps them -/
def stepR (d : Bool) (rs : List Nat) : List Nat := if d = true then rs.dropLast ++ [rs.getLast?.getD 0 + 1] else rs ++ [0]
def runsT : Nat → List Nat
  | 0 => [0]
  | t + 1 => stepR (dk t) (runsT t)
theorem cur_le : ∀ t, cur dk t ≤ t
  | 0 => Nat.le_refl _
  | t + 1 => by
    have := cur_le t
    unfold cur
    split <;> omega
theorem cur_dark : ∀ t j, t - cur dk t ≤ j → j < t → dk j = true
  | 0, j, _, h => by omega
  | t + 1, j, h1, h2 => by
    unfold cur at h1
    split at h1
    · rename_i hd
      by_cases e : j = t
      · rw [e]; exact hd
      · exact cur_dark t j (by omega) (by omega)
    · omega
theorem cur_ge : ∀ t r, r ≤ t → (∀ j, t - r ≤ j → j < t → dk j = true) → r ≤ cur dk t
  | 0, r, h, _ => by unfold cur; omega
  | t + 1, r, h, hd => by
    cases r with
    | zero => omega
    | succ r =>
      have h1 := hd t (by omega) (by omega)
      have := cur_ge t r (by omega) fun j a b => hd j (by omega) (by omega)
      unfold cur
      rw [if_pos h1]
      omega
theorem best_ge : ∀ t s, s ≤ t → cur dk s ≤ best dk t
  | 0, s, h => by
    have : s = 0 := by omega
    subst this
    exact Nat.le_refl _
  | t + 1, s, h => by
    unfold best
    by_cases e : s = t + 1
    · rw [e]; omega
    · have := best_ge t s (by omega)
      omega
theorem best_is : ∀ t, ∃ s, s ≤ t ∧ best dk t = cur dk s
  | 0 => ⟨0, Nat.le_refl _, rfl⟩
  | t + 1 => by
    obtain ⟨s, h1, h2⟩ := best_is t
    unfold best
    by_cases e : best dk t ≤ cur dk (t + 1)
    · exact ⟨t + 1, Nat.le_refl _, by omega⟩
    · exact ⟨s, by omega, by omega⟩
theorem maxN_snoc (l : List Nat) (x : Nat) : maxN (l ++ [x]) = max (maxN l) x := by
  cases l with
  | nil => show [].foldl max x = max 0 x; simp
  | cons a r =>
    show (r ++ [x]).foldl max a = max (r.foldl max a) x
    rw [List.foldl_append]
    rfl
theorem runsT_is : ∀ t, ∃ pre, runsT dk t = pre ++ [cur dk t] ∧ maxN (runsT dk t) = best dk t ∧ maxN pre ≤ best dk t
  | 0 => ⟨[], rfl, rfl, Nat.le_refl _⟩
  | t + 1 => by
    obtain ⟨pre, h1, h2, h3⟩ := runsT_is t
    unfold runsT stepR
    by_cases hd : dk t = true
    · have hc : cur dk (t + 1) = cur dk t + 1 := by
        show (if dk t = true then cur dk t + 1 else 0) = _
        rw [if_pos hd]
      have e : (runsT dk t).dropLast ++ [(runsT dk t).getLast?.getD 0 + 1] = pre ++ [cur dk (t + 1)] := by
        rw [h1, List.dropLast_concat, List.getLast?_concat, hc]
        rfl
      rw [if_pos hd, e]
      refine ⟨pre, rfl, ?_, ?_⟩
      · rw [maxN_snoc]
        show max (maxN pre) (cur dk (t + 1)) = max (best dk t) (cur dk (t + 1))
        rw [h1, maxN_snoc] at h2
        omega
      · show maxN pre ≤ max (best dk t) _
        omega
    · have hc : cur dk (t + 1) = 0 := by
        show (if dk t = true then cur dk t + 1 else 0) = _
        rw [if_neg hd]
      rw [if_neg hd]
      refine ⟨runsT dk t, by rw [hc], ?_, ?_⟩
      · rw [maxN_snoc, h2]
        show max (best dk t) 0 = max (best dk t) (cur dk (t + 1))
        rw [hc]
      · show maxN (runsT dk t) ≤ max (best dk t) _
        omega
theorem runsT_ne (t : Nat) : runsT dk t ≠ [] := by
  obtain ⟨pre, h, _⟩ := runsT_is dk t
  rw [h]
  simp
theorem runsT_len : ∀ t, (runsT dk t).length ≤ t + 1
  | 0 => Nat.le_refl _
  | t + 1 => by
    have := runsT_len t
    unfold runsT stepR
    split
    · rw [List.length_append, List.length_dropLast]
      simp
      omega
    · rw [List.length_append]
      simp
      omega
end
theorem foldl_max_run (f : Nat → Nat) (l : List Nat) (a : Nat) : a ≤ l.foldl (fun s b => max s (f b)) a ∧ (∀ b ∈ l, f b ≤ l.foldl (fun s b => max s (f b)) a) ∧ (l.foldl (fun s b => max s (f b)) a = a ∨ ∃ b ∈ l, l.foldl (fun s b => max s (f b)) a = f b) := by
  induction l generalizing a with
  | nil => exact ⟨Nat.le_refl _, fun x hx => (by cases hx), .inl rfl⟩
  | cons b r ih =>
    obtain ⟨h1, h2, h3⟩ := ih (max a (f b))
    rw [List.foldl_cons]
    refine ⟨by omega, fun x hx => ?_, ?_⟩
    · rcases List.mem_cons.mp hx with rfl | hx
      · omega
      · exact h2 x hx
    · rcases h3 with h3 | ⟨x, hx, h3⟩
      · rw [h3]
        by_cases h : a ≤ f b
        · exact .inr ⟨b, List.mem_cons_self, by omega⟩
        · left; omega
      · exact .inr ⟨x, List.mem_cons_of_mem _ hx, h3⟩
/-- the greatest run around is the greatest run in two rounds, if some place is lit -/
theorem runs_same {n : Nat} (hn : 0 < n) {A : List Arc} (hl : ∃ p, p < n ∧ dark n A p = false) :
    (List.range n).foldl (fun s b => max s (run n A b)) 0 = best (fun i => dark n A (i % n)) (n + n) := by
  obtain ⟨h1, h2, h3⟩ := foldl_max_run (run n A) (List.range n) 0
  generalize (List.range n).foldl (fun s b => max s (run n A b)) 0 = F at *
  obtain ⟨p, hp, hd⟩ := hl
  -- no run is as long as a round
  have short : ∀ b c, c ≤ n → (∀ i, i < c → dark n A ((b + i) % n) = true) → c < n := by
    intro b c hc h
    refine Nat.lt_of_le_of_ne hc fun e => ?_
    subst e
    have hb := Nat.mod_lt b hn
    by_cases q : b % c ≤ p
    · have := h (p - b % c) (by omega)
      rw [← Nat.mod_add_mod, show b % c + (p - b % c) = p from by omega, Nat.mod_eq_of_lt hp, hd] at this
      cases this
    · have := h (c + p - b % c) (by omega)
      rw [← Nat.mod_add_mod, show b % c + (c + p - b % c) = p + c from by omega, Nat.add_mod_right, Nat.mod_eq_of_lt hp, hd] at this
      cases this
  have runD : ∀ b i, i < run n A b → dark n A ((b + i) % n) = true := fun b i h => (run_lt h).2
  have runLe : ∀ b, run n A b ≤ n := fun b => by rcases run_at n A b with ⟨h, _⟩ | h <;> omega
  refine Nat.le_antisymm ?_ ?_
  · rcases h3 with h3 | ⟨b, hb, h3⟩
    · rw [h3]; exact Nat.zero_le _
    · have hb := List.mem_range.mp hb
      have hs := short b (run n A b) (runLe b) (runD b)
      rw [h3]
      refine Nat.le_trans (cur_ge (fun i => dark n A (i % n)) (b + run n A b) (run n A b) (by omega) fun j a c => ?_) (best_ge _ _ _ (by omega))
      have := runD b (j - b) (by omega)
      rwa [show b + (j - b) = j from by omega] at this
  · obtain ⟨s, hs, e⟩ := best_is (fun i => dark n A (i % n)) (n + n)
    rw [e]
    have hc := cur_le (fun i => dark n A (i % n)) s
    have hdk := cur_dark (fun i => dark n A (i % n)) s
    generalize cur (fun i => dark n A (i % n)) s = c at *
    have hcn : c ≤ n := by
      by_cases q : c ≤ n
      · exact q
      · exfalso
        have := short (s - n) n (Nat.le_refl _) fun i hi => hdk (s - n + i) (by omega) (by omega)
        omega
    have hb := Nat.mod_lt (s - c) hn
    have hge : c ≤ run n A ((s - c) % n) := by
      refine Nat.le_of_not_lt fun q => ?_
      rcases run_at n A ((s - c) % n) with ⟨hr, hf⟩ | hr
      · rw [Nat.mod_add_mod, hdk (s - c + run n A ((s - c) % n)) (by omega) (by omega)] at hf
        cases hf
      · omega
    exact Nat.le_trans hge (h2 _ (List.mem_range.mpr hb))
end Cp

set_option maxRecDepth 100000
set_option maxHeartbeats 1000000
namespace Cp
open PySem PySem.Spec Mi
/-! ### marks -/
theorem dedupN (l : List Nat) : ∀ acc : List Nat, dedupI (acc.map fun k : Nat => (k : Int)) (l.map fun k : Nat => (k : Int)) = (l.foldl (fun acc k => if k ∈ acc then acc else acc ++ [k]) acc).map fun k : Nat => (k : Int) := by
  induction l with
  | nil => intro acc; rfl
  | cons a r ih =>
    intro acc
    rw [List.map_cons, List.foldl_cons, ← ih]
    show dedupI (if ((a : Nat) : Int) ∈ acc.map (fun k : Nat => (k : Int)) then _ else _) _ = _
    have e : ((a : Nat) : Int) ∈ acc.map (fun k : Nat => (k : Int)) ↔ a ∈ acc := by
      constructor
      · intro h
        obtain ⟨x, h1, h2⟩ := List.mem_map.mp h
        have : x = a := by omega
        rw [← this]; exact h1
      · intro h
        exact List.mem_map.mpr ⟨a, h, rfl⟩
    by_cases h : a ∈ acc
    · rw [if_pos (e.mpr h), if_pos h]
    · rw [if_neg (fun z => h (e.mp z)), if_neg h, List.map_append]
      rfl
def ddup (l acc : List Nat) : List Nat := l.foldl (fun acc k => if k ∈ acc then acc else acc ++ [k]) acc
theorem ddup_le : ∀ (l acc : List Nat), (ddup l acc).length ≤ acc.length + l.length
  | [], acc => Nat.le_refl _
  | a :: l, acc => by
    have h := ddup_le l (if a ∈ acc then acc else acc ++ [a])
    show (ddup l (if a ∈ acc then acc else acc ++ [a])).length ≤ _
    rw [List.length_cons]
    split at h
    · rename_i q; rw [if_pos q]; omega
    · rename_i q; rw [if_neg q]; rw [List.length_append] at h; simp at h; omega
theorem ddup_full : ∀ (l acc : List Nat), (ddup l acc).length = acc.length + l.length ↔ (l.Nodup ∧ ∀ x ∈ l, x ∉ acc)
  | [], acc => by simp [ddup]
  | a :: l, acc => by
    have hle := ddup_le l (if a ∈ acc then acc else acc ++ [a])
    show (ddup l (if a ∈ acc then acc else acc ++ [a])).length = _ ↔ _
    rw [List.length_cons]
    by_cases h : a ∈ acc
    · rw [if_pos h] at hle ⊢
      constructor
      · intro e; omega
      · rintro ⟨_, q⟩; exact absurd h (q a List.mem_cons_self)
    · rw [if_neg h]
      have ih := ddup_full l (acc ++ [a])
      rw [List.length_append] at ih
      simp only [List.length_singleton] at ih
      rw [show acc.length + (l.length + 1) = acc.length + 1 + l.length from by omega, ih]
      constructor
      · rintro ⟨q1, q2⟩
        refine ⟨List.nodup_cons.mpr ⟨fun z => q2 a z (List.mem_append_right _ List.mem_cons_self), q1⟩, fun x hx => ?_⟩
        rcases List.mem_cons.mp hx with rfl | hx
        · exact h
        · exact fun z => q2 x hx (List.mem_append_left _ z)
      · rintro ⟨q1, q2⟩
        have q3 := List.nodup_cons.mp q1
        refine ⟨q3.2, fun x hx z => ?_⟩
        rcases List.mem_append.mp z with z | z
        · exact q2 x (List.mem_cons_of_mem _ hx) z
        · have := List.mem_singleton.mp z
          subst this
          exact q3.1 hx
theorem count_one (l : List Nat) : (l.all fun k => decide (l.count k = 1)) = true ↔ l.Nodup := by
  rw [List.all_eq_true, List.nodup_iff_count]
  constructor
  · intro h a
    by_cases ha : a ∈ l
    · have := of_decide_eq_true (h a ha)
      omega
    · rw [List.count_eq_zero.mpr ha]; omega
  · intro h a ha
    have h1 := h a
    have h2 := List.count_pos_iff.mpr ha
    exact decide_eq_true (by omega)
/-- what the law says of marks is what the program says -/
theorem due_eq (l : List Nat) : decide ((dedupI [] (l.map fun k : Nat => (k : Int))).length = l.length) = l.all fun k => decide (l.count k = 1) := by
  have e := dedupN l []
  rw [List.map_nil] at e
  rw [e, List.length_map]
  rw [Bool.eq_iff_iff, decide_eq_true_eq, count_one]
  have := ddup_full l []
  rw [List.length_nil, Nat.zero_add] at this
  show (ddup l []).length = l.length ↔ _
  rw [this]
  constructor
  · exact fun h => h.1
  · exact fun h => ⟨h, fun x _ z => by cases z⟩
/-- rows apart, each met by s: no more rows than s has -/
theorem marks_le : ∀ (R : List (List Nat)) (s : List Nat), R.flatten.Nodup → (∀ r ∈ R, ∃ k, k ∈ r ∧ k ∈ s) → R.length ≤ s.length
  | [], s, _, _ => Nat.zero_le _
  | r :: R, s, hn, h => by
    obtain ⟨k, hk, hs⟩ := h r List.mem_cons_self
    rw [List.flatten_cons] at hn
    have hn2 := List.nodup_append.mp hn
    have ih := marks_le R (s.erase k) hn2.2.1 fun r' hr' => by
      obtain ⟨k', h1, h2⟩ := h r' (List.mem_cons_of_mem _ hr')
      refine ⟨k', h1, (List.mem_erase_of_ne ?_).mpr h2⟩
      intro z
      subst z
      exact hn2.2.2 k' hk k' (List.mem_flatten.mpr ⟨r', hr', h1⟩) rfl
    rw [List.length_erase_of_mem hs] at ih
    have := List.length_pos_of_mem hs
    rw [List.length_cons]
    omega
theorem marks_fewest {n : Nat} {A : List Arc} {l : List Nat} (hl : ∀ p ∈ l, p < n) (hm : marksOk n A l = true) {p : NP} (hp : p ∈ good n A) : l.length ≤ p.1 := by
  unfold good at hp
  obtain ⟨m, hm2, rfl⟩ := List.mem_map.mp hp
  have hh := (List.mem_filter.mp hm2).2
  unfold marksOk at hm
  rw [Bool.and_eq_true] at hm
  have hne := List.all_eq_true.mp hm.1
  have hnd := (count_one _).mp hm.2
  have := marks_le (l.map (rw n A)) (sel A.length m) hnd fun r hr => by
    have h1 := hne r hr
    obtain ⟨q, hq, rfl⟩ := List.mem_map.mp hr
    unfold hit lrs at hh
    have h2 := List.all_eq_true.mp hh (rw n A q) (List.mem_filter.mpr ⟨by unfold rws; exact List.mem_map.mpr ⟨q, List.mem_range.mpr (hl q hq), rfl⟩, h1⟩)
    obtain ⟨k, hk1, hk2⟩ := List.any_eq_true.mp h2
    exact ⟨k, hk1, List.contains_iff_mem.mp hk2⟩
  rwa [List.length_map] at this
theorem falls_no {l : List Nat} (h : l.Pairwise (· < ·)) : falls l = false := by
  unfold falls
  rw [List.any_eq_false]
  intro k hk
  have hk := List.mem_range.mp hk
  have h1 : k < l.length := by omega
  have h2 : k + 1 < l.length := by omega
  have := List.pairwise_iff_getElem.mp h k (k + 1) h1 h2 (by omega)
  rw [List.getD_eq_getElem?_getD, List.getD_eq_getElem?_getD, List.getElem?_eq_getElem h1, List.getElem?_eq_getElem h2]
  show ¬ decide (l[k + 1] ≤ l[k]) = true
  rw [decide_eq_true_eq]
  omega
end Cp

set_option maxRecDepth 100000
set_option maxHeartbeats 1000000
namespace Cp
open PySem PySem.Spec Mi
/-- the state once the arcs are no more changed -/
structure L2' (n : Nat) (A : List Arc) (ρ : DEnv) : Prop where
  arcs : ρ[3]? = some (.val (.list (A.map arcD)))
  isl : ρ[5]? = some (.val (isl n A))
  rows : ρ[6]? = some (.val (.list ((rws n A).map lstD)))
  good : ∃ s, ρ[7]? = some s ∧ Holds ((good n A).map npD) s
theorem L2'.set {n : Nat} {A : List Arc} {ρ : DEnv} (h : L2' n A ρ) {j : Nat} (s : Slot) (h3 : j ≠ 3) (h5 : j ≠ 5) (h6 : j ≠ 6) (h7 : j ≠ 7) : L2' n A (ρ.set j s) :=
  ⟨get_ne h.arcs h3, get_ne h.isl h5, get_ne h.rows h6, by obtain ⟨s, a, b⟩ := h.good; exact ⟨s, get_ne a h7, b⟩⟩
/-- the lights without which no set will do -/
def need (n : Nat) (A : List Arc) : List Nat := (List.range A.length).filter fun k => (rws n A).contains [k]
theorem odd_marks (n : Nat) (hn0 : 0 < n) (hn1 : n ≤ 12) (A : List Arc) (hA : A.length ≤ 10) : ∀ v ∈ ([.none, .list [.int 0], .tuple [iD n], .tuple [.int (-1)], .tuple [.bool true], .tuple [.none], .tuple [.int 0, .int 0], .tuple [.int 1, .int 0]] : List D), f_are_marks [.val (isl n A), .val v] = some (.d (.bool false), none) := by
  intro v hv
  rcases are_marks_eq n hn0 (by omega) A hA v with ⟨h, _⟩ | ⟨l, rfl, hl, h⟩
  · exact h
  · have key : falls l = true → l.length ≤ 1000 → f_are_marks [.val (isl n A), .val (.tuple (l.map iD))] = some (.d (.bool false), none) := fun hf hle => by
      rw [h hle, hf]; rfl
    have inj : ∀ (l : List Nat) (ds : List D), (PyData.tuple (l.map iD)) = .tuple ds → l.map iD = ds := fun l ds e => by injection e
    simp only [List.mem_cons, List.not_mem_nil, or_false] at hv
    rcases hv with e | e | e | e | e | e | e | e
    · cases e
    · cases e
    · have e := inj l _ e
      match l, e with
      | [a], e =>
        injection e with e1 _
        have e1 : PyData.int (a : Int) = .int (n : Int) := e1
        injection e1 with e1
        have := hl a List.mem_cons_self
        omega
    · have e := inj l _ e
      match l, e with
      | [a], e =>
        injection e with e1 _
        have e1 : PyData.int (a : Int) = .int (-1) := e1
        injection e1 with e1
        omega
    · have e := inj l _ e
      match l, e with
      | [a], e =>
        injection e with e1 _
        have e1 : PyData.int (a : Int) = .bool true := e1
        cases e1
    · have e := inj l _ e
      match l, e with
      | [a], e =>
        injection e with e1 _
        have e1 : PyData.int (a : Int) = .none := e1
        cases e1
    · have e := inj l _ e
      match l, e with
      | [a, b], e =>
        injection e with e1 e2
        injection e2 with e2 _
        have e1 : PyData.int (a : Int) = .int 0 := e1
        have e2 : PyData.int (b : Int) = .int 0 := e2
        injection e1 with e1
        injection e2 with e2
        have : a = 0 := by omega
        have : b = 0 := by omega
        subst a b
        exact key rfl (by simp)
    · have e := inj l _ e
      match l, e with
      | [a, b], e =>
        injection e with e1 e2
        injection e2 with e2 _
        have e1 : PyData.int (a : Int) = .int 1 := e1
        have e2 : PyData.int (b : Int) = .int 0 := e2
        injection e1 with e1
        injection e2 with e2
        have : a = 1 := by omega
        have : b = 0 := by omega
        subst a b
        exact key rfl (by simp)
theorem gAdd_l {a b : List D} (h : a.length + b.length ≤ sizeLine) : gAdd (.list a) (.list b) = some (.fl (a ++ b)) := by unfold gAdd; simp only [h, if_true]
theorem gAdd_t {a b : List D} (h : a.length + b.length ≤ sizeLine) : gAdd (.tuple a) (.tuple b) = some (.d (.tuple (a ++ b))) := by unfold gAdd; simp only [h, if_true]
theorem law_run8 (n : Nat) (hn0 : 0 < n) (hn1 : n ≤ 12) (A : List Arc) (hA1 : 1 ≤ A.length) (hA : A.length ≤ 10) (hO : Okay n A) (ds : List D) (ρ : DEnv) (L : L0 n ds ρ) (M : L2' n A ρ) : Tru
  (xSeq (xSet 16 (sLst (aCons (lOf (sC .none)) (aCons (lOf (sLst (aCons (lOf (sC (.int 0))) aNil))) (aCons (lOf (sTup (aCons (lVar 2) aNil))) (aCons (lOf (sTup (aCons (lOf (sUn gNeg (lOf (sC (.int 1))))) aNil))) (aCons (lOf (sTup (aCons (lOf (sC (.bool true))) aNil))) (aCons (lOf (sTup (aCons (lOf (sC .none)) aNil))) (aCons (lOf (sTup (aCons (lOf (sC (.int 0))) (aCons (lOf (sC (.int 0))) aNil)))) (aCons (lOf (sTup (aCons (lOf (sC (.int 1))) (aCons (lOf (sC (.int 0))) aNil)))) aNil))))))))))
    (xSeq (xIf (tOfB (sBin gNe (lOf (sLc (iM (sVar 16)) (.nm 22) (tNot2 (tTru (lOf (sCall f__law_says (aCons (lOf (sCall f_are_marks (aCons (lVar 5) (aCons (lVar 22) aNil)))) (aCons (lOf (sC (.bool false))) aNil)))))) (sVar 22) [22])) (lOf (sLst aNil)))) (xRet (sC (.bool false))) xPass)
    (xSeq (xSet 16 (sLst (aCons (lOf (sC .none)) (aCons (lOf (sBlt gList (aCons (lVar 5) aNil))) (aCons (lOf (sTup (aCons (lVar 2) aNil))) (aCons (lOf (sBin gAdd (lVar 5) (lOf (sTup (aCons (lOf (sC (.int 0))) aNil))))) (aCons (lOf (sTup (aCons (lOf (sC (.int 0))) (aCons (lOf (sTup (aCons (lOf (sTup (aCons (lOf (sC (.int 0))) (aCons (lOf (sC (.int 1))) aNil)))) aNil))) aNil)))) (aCons (lOf (sTup (aCons (lOf (sC (.int 201))) (aCons (lOf (sTup (aCons (lOf (sTup (aCons (lOf (sC (.int 0))) (aCons (lOf (sC (.int 1))) aNil)))) aNil))) aNil)))) (aCons (lOf (sTup (aCons (lVar 2) (aCons (lOf (sTup aNil)) aNil)))) (aCons (lOf (sTup (aCons (lVar 2) (aCons (lOf (sBlt gList (aCons (lVar 3) aNil))) aNil)))) (aCons (lOf (sTup (aCons (lVar 2) (aCons (lOf (sTup (aCons (lOf (sTup (aCons (lVar 2) (aCons (lOf (sC (.int 1))) aNil)))) aNil))) aNil)))) aNil)))))))))))
    (xSeq (xSet 16 (sBin gAdd (lVar 16) (lOf (sLst (aCons (lOf (sTup (aCons (lVar 2) (aCons (lOf (sTup (aCons (lOf (sTup (aCons (lOf (sC (.int 0))) (aCons (lOf (sC (.int 0))) aNil)))) aNil))) aNil)))) (aCons (lOf (sTup (aCons (lVar 2) (aCons (lOf (sTup (aCons (lOf (sTup (aCons (lOf (sC (.int 0))) (aCons (lOf (sBin gAdd (lVar 2) (lOf (sC (.int 1))))) aNil)))) aNil))) aNil)))) (aCons (lOf (sTup (aCons (lVar 2) (aCons (lOf (sTup (aCons (lOf (sTup (aCons (lOf (sC (.int 0))) aNil))) aNil))) aNil)))) (aCons (lOf (sTup (aCons (lVar 2) (aCons (lOf (sTup (aCons (lOf (sLst (aCons (lOf (sC (.int 0))) (aCons (lOf (sC (.int 1))) aNil)))) aNil))) aNil)))) (aCons (lOf (sTup (aCons (lVar 2) (aCons (lOf (sTup (aCons (lOf (sTup (aCons (lOf (sC (.bool true))) (aCons (lOf (sC (.int 1))) aNil)))) aNil))) aNil)))) (aCons (lOf (sTup (aCons (lOf (sC (.bool true))) (aCons (lOf (sTup (aCons (lOf (sTup (aCons (lOf (sC (.int 0))) (aCons (lOf (sC (.int 1))) aNil)))) aNil))) aNil)))) aNil))))))))))
    (xSeq (xSet 16 (sBin gAdd (lVar 16) (lOf (sLst (aCons (lOf (sTup (aCons (lVar 2) (aCons (lOf (sBin gMul (lOf (sTup (aCons (lOf (sTup (aCons (lOf (sC (.int 0))) (aCons (lOf (sC (.int 1))) aNil)))) aNil))) (lOf (sC (.int 11))))) aNil)))) aNil)))))
    (xRet (sBin gEq (lOf (sLc (iM (sVar 16)) (.nm 22) (tNot2 (tTru (lOf (sCall f__law_says (aCons (lOf (sCall f_is_island (aCons (lVar 22) aNil))) (aCons (lOf (sC (.bool false))) aNil)))))) (sVar 22) [22])) (lOf (sLst aNil))))))))) ρ := by
  have hz : ∀ k, k ≤ 1000 → k ≤ sizeLine := fun k h => fits (by omega)
  have z1 := hz 1 (by omega)
  have z2 := hz 2 (by omega)
  have z8 := hz 8 (by omega)
  let odd1 : List D := [.none, .list [.int 0], .tuple [iD n], .tuple [.int (-1)], .tuple [.bool true], .tuple [.none], .tuple [.int 0, .int 0], .tuple [.int 1, .int 0]]
  refine Tru.seq (xSet_eq (rv := .fl odd1) (ρ1 := ρ) ?_ (by rw [L.len]; decide)) ?_
  · simp only [xPass, xBrk, xCnt, xRet, xRetN, xExpr, putRV, xSet, xAsg, asgT, asgTs, xSeq, xIf, xApp, sPop, xSub, xAug, xPar, xPar3, sVar, lVar, sC, lOf, lRes, lRess, locDs, frzA, frzLocs, sBin, sUn, sBlt, aCons, aNil, sTup, sLst, sIf, sAnd, sOr, sNot, sChn, sSlc, oNone, oSome, tOfB, tTru, truth, tAnd2, tOr2, tNot2, tYes2, sCall, sCallIo, iM, itemsD, RV.frz, outOf, List.getElem?_cons_zero, List.getElem?_cons_succ, List.set_cons_zero, List.set_cons_succ, List.length_cons, List.length_nil, gIsi, isTy, gLen, gInt, gAbs, gTuple, gList, Mi.gSub, gNeg, gIs, gIsN, Option.map_some, Option.map_none, L.a, Nat.reduceAdd, z1, z2, z8, if_true, Nat.zero_add]
    rfl
  have L1 := L.set (j := 16) (.own odd1) (by decide) (by decide) (by decide) (by decide)
  have M1 := M.set (j := 16) (.own odd1) (by decide) (by decide) (by decide) (by decide)
  have b16 : (ρ.set 16 (.own odd1))[16]? = some (.own odd1) := get_eq (by rw [L.len]; decide)
  show Tru _ (ρ.set 16 (.own odd1))
  generalize ρ.set 16 (.own odd1) = ρ1 at *
  have hw := iM_holds b16 (.inl rfl)
  have L2 := L1.set (j := 16) (.val (.list odd1)) (by decide) (by decide) (by decide) (by decide)
  have M2 := M1.set (j := 16) (.val (.list odd1)) (by decide) (by decide) (by decide) (by decide)
  generalize ρ1.set 16 (.val (.list odd1)) = ρ2 at *
  have e1 : sLc (iM (sVar 16)) (.nm 22) (tNot2 (tTru (lOf (sCall f__law_says (aCons (lOf (sCall f_are_marks (aCons (lVar 5) (aCons (lVar 22) aNil)))) (aCons (lOf (sC (.bool false))) aNil)))))) (sVar 22) [22] ρ1 = some (.fl [], ρ2) := by
    have := sLc_slot id (l := odd1) (fi := iM (sVar 16)) (ft := tNot2 (tTru (lOf (sCall f__law_says (aCons (lOf (sCall f_are_marks (aCons (lVar 5) (aCons (lVar 22) aNil)))) (aCons (lOf (sC (.bool false))) aNil)))))) (fe := sVar 22) (b := 22) (ρ := ρ1) (fun _ => false) id (by rw [L2.len]; decide) (by rw [L2.fr 22 (by decide) (by decide)]; rfl) (by rw [List.map_id]; exact hw) (fun v hv τ h1 h2 h3 => ⟨?_, fun z => by cases z⟩) (by show 8 ≤ 1000000; decide)
    · rw [List.filter_eq_nil_iff.mpr (fun _ _ => Bool.false_ne_true)] at this
      exact this
    · exact not_eq (b := true) (tru_eq (rv := .d (.bool true)) (call_eq (ls := [.d (.bool false), .d (.bool false)]) (ds := [.bool false, .bool false]) (aCons_eq (lOf_eq (rv := .d (.bool false)) (call_eq (ls := [.d (isl n A), .d v]) (ds := [isl n A, v]) (aCons_eq (lVar_val (h3 5 _ (by decide) M2.isl)) (aCons_eq (lVar_val h2) rfl)) rfl (odd_marks n hn0 hn1 A hA v hv))) rfl) rfl (says_eq false false)) rfl)
  refine Tru.skip (ρ1 := ρ2) (ofB_eq (bin_eq (lOf_eq e1) (lOf_eq (sLst_eq (ds := []) rfl rfl (by simp))) rfl rfl (gNe_nil []))) ?_
  clear e1 hw b16
  have z9 := hz 9 (by omega)
  have z6 := hz 6 (by omega)
  have z0 := hz 0 (by omega)
  have z3 := hz 3 (by omega)
  let AA : List D := A.map arcD
  let one : D := .tuple [.int 0, .int 1]
  let o2 : List D := [.none, .list [iD n, .tuple AA], .tuple [iD n], .tuple [iD n, .tuple AA, .int 0], .tuple [.int 0, .tuple [one]], .tuple [.int 201, .tuple [one]], .tuple [iD n, .tuple []], .tuple [iD n, .list AA], .tuple [iD n, .tuple [.tuple [iD n, .int 1]]]]
  let o3 : List D := [.tuple [iD n, .tuple [.tuple [.int 0, .int 0]]], .tuple [iD n, .tuple [.tuple [.int 0, .int (n + 1)]]], .tuple [iD n, .tuple [.tuple [.int 0]]], .tuple [iD n, .tuple [.list [.int 0, .int 1]]], .tuple [iD n, .tuple [.tuple [.bool true, .int 1]]], .tuple [.bool true, .tuple [one]]]
  let o4 : List D := [.tuple [iD n, .tuple [one, one, one, one, one, one, one, one, one, one, one]]]
  refine Tru.seq (xSet_eq (rv := .fl o2) (ρ1 := ρ2) ?_ (by rw [L2.len]; decide)) ?_
  · have ga : gAdd (.tuple [iD n, .tuple (A.map arcD)]) (.tuple [.int 0]) = some (.d (.tuple [iD n, .tuple (A.map arcD), .int 0])) := gAdd_t (a := [iD n, .tuple (A.map arcD)]) (b := [.int 0]) z3
    have hi : ρ2[5]? = some (.val (.tuple [iD n, .tuple (A.map arcD)])) := M2.isl
    simp only [xPass, xBrk, xCnt, xRet, xRetN, xExpr, putRV, xSet, xAsg, asgT, asgTs, xSeq, xIf, xApp, sPop, xSub, xAug, xPar, xPar3, sVar, lVar, sC, lOf, lRes, lRess, locDs, frzA, frzLocs, sBin, sUn, sBlt, aCons, aNil, sTup, sLst, sIf, sAnd, sOr, sNot, sChn, sSlc, oNone, oSome, tOfB, tTru, truth, tAnd2, tOr2, tNot2, tYes2, sCall, sCallIo, iM, itemsD, RV.frz, outOf, List.getElem?_cons_zero, List.getElem?_cons_succ, List.set_cons_zero, List.set_cons_succ, List.length_cons, List.length_nil, gIsi, isTy, gLen, gInt, gAbs, gTuple, gList, Mi.gSub, gNeg, gIs, gIsN, Option.map_some, Option.map_none, L2.a, hi, M2.arcs, Nat.reduceAdd, z0, z1, z2, z9, if_true, Nat.zero_add, ga]
    rfl
  have L3 := L2.set (j := 16) (.own o2) (by decide) (by decide) (by decide) (by decide)
  have M3 := M2.set (j := 16) (.own o2) (by decide) (by decide) (by decide) (by decide)
  have b16 : (ρ2.set 16 (.own o2))[16]? = some (.own o2) := get_eq (by rw [L2.len]; decide)
  show Tru _ (ρ2.set 16 (.own o2))
  generalize ρ2.set 16 (.own o2) = ρ3 at *
  refine Tru.seq (xSet_eq (rv := .fl (o2 ++ o3)) (ρ1 := ρ3) (bin_eq (lVar_own b16) (lOf_eq (rv := .fl o3) ?_) (lRes_own b16) rfl (gAdd_l (a := o2) (b := o3) (hz _ (by show 9 + 6 ≤ 1000; decide)))) (by rw [L3.len]; decide)) ?_
  · have ga : gAdd (iD n) (.int 1) = some (.d (.int (n + 1))) := rfl
    simp only [xPass, xBrk, xCnt, xRet, xRetN, xExpr, putRV, xSet, xAsg, asgT, asgTs, xSeq, xIf, xApp, sPop, xSub, xAug, xPar, xPar3, sVar, lVar, sC, lOf, lRes, lRess, locDs, frzA, frzLocs, sBin, sUn, sBlt, aCons, aNil, sTup, sLst, sIf, sAnd, sOr, sNot, sChn, sSlc, oNone, oSome, tOfB, tTru, truth, tAnd2, tOr2, tNot2, tYes2, sCall, sCallIo, iM, itemsD, RV.frz, outOf, List.getElem?_cons_zero, List.getElem?_cons_succ, List.set_cons_zero, List.set_cons_succ, List.length_cons, List.length_nil, gIsi, isTy, gLen, gInt, gAbs, gTuple, gList, Mi.gSub, gNeg, gIs, gIsN, Option.map_some, Option.map_none, L3.a, Nat.reduceAdd, z0, z1, z2, z6, if_true, Nat.zero_add, ga]
    rfl
  have L4 := L3.set (j := 16) (.own (o2 ++ o3)) (by decide) (by decide) (by decide) (by decide)
  have M4 := M3.set (j := 16) (.own (o2 ++ o3)) (by decide) (by decide) (by decide) (by decide)
  have c16 : (ρ3.set 16 (.own (o2 ++ o3)))[16]? = some (.own (o2 ++ o3)) := get_eq (by rw [L3.len]; decide)
  show Tru _ (ρ3.set 16 (.own (o2 ++ o3)))
  generalize ρ3.set 16 (.own (o2 ++ o3)) = ρ4 at *
  refine Tru.seq (xSet_eq (rv := .fl (o2 ++ o3 ++ o4)) (ρ1 := ρ4) (bin_eq (lVar_own c16) (lOf_eq (rv := .fl o4) ?_) (lRes_own c16) rfl (gAdd_l (a := o2 ++ o3) (b := o4) (hz _ (by show 15 + 1 ≤ 1000; decide)))) (by rw [L4.len]; decide)) ?_
  · have ga : gMul (.tuple [.tuple [.int 0, .int 1]]) (.int 11) = some (.d (.tuple [one, one, one, one, one, one, one, one, one, one, one])) := rfl
    simp only [xPass, xBrk, xCnt, xRet, xRetN, xExpr, putRV, xSet, xAsg, asgT, asgTs, xSeq, xIf, xApp, sPop, xSub, xAug, xPar, xPar3, sVar, lVar, sC, lOf, lRes, lRess, locDs, frzA, frzLocs, sBin, sUn, sBlt, aCons, aNil, sTup, sLst, sIf, sAnd, sOr, sNot, sChn, sSlc, oNone, oSome, tOfB, tTru, truth, tAnd2, tOr2, tNot2, tYes2, sCall, sCallIo, iM, itemsD, RV.frz, outOf, List.getElem?_cons_zero, List.getElem?_cons_succ, List.set_cons_zero, List.set_cons_succ, List.length_cons, List.length_nil, gIsi, isTy, gLen, gInt, gAbs, gTuple, gList, Mi.gSub, gNeg, gIs, gIsN, Option.map_some, Option.map_none, L4.a, Nat.reduceAdd, z0, z1, z2, if_true, Nat.zero_add, ga]
    rfl
  have L5 := L4.set (j := 16) (.own (o2 ++ o3 ++ o4)) (by decide) (by decide) (by decide) (by decide)
  have d16 : (ρ4.set 16 (.own (o2 ++ o3 ++ o4)))[16]? = some (.own (o2 ++ o3 ++ o4)) := get_eq (by rw [L4.len]; decide)
  show Tru _ (ρ4.set 16 (.own (o2 ++ o3 ++ o4)))
  generalize ρ4.set 16 (.own (o2 ++ o3 ++ o4)) = ρ5 at *
  have hw := iM_holds d16 (.inl rfl)
  have L6 := L5.set (j := 16) (.val (.list (o2 ++ o3 ++ o4))) (by decide) (by decide) (by decide) (by decide)
  generalize ρ5.set 16 (.val (.list (o2 ++ o3 ++ o4))) = ρ6 at *
  have hbad : ∀ v ∈ o2 ++ o3 ++ o4, isIsl v = false := by
    intro v hv
    simp only [o2, o3, o4, List.cons_append, List.nil_append, List.mem_cons, List.not_mem_nil, or_false] at hv
    have hA1' : ¬ (A.length = 0) := by omega
    rcases hv with rfl | rfl | rfl | rfl | rfl | rfl | rfl | rfl | rfl | rfl | rfl | rfl | rfl | rfl | rfl | rfl
    all_goals simp [isIsl, isNum, isArc, iD, one]
    all_goals omega
  have e1 : sLc (iM (sVar 16)) (.nm 22) (tNot2 (tTru (lOf (sCall f__law_says (aCons (lOf (sCall f_is_island (aCons (lVar 22) aNil))) (aCons (lOf (sC (.bool false))) aNil)))))) (sVar 22) [22] ρ5 = some (.fl [], ρ6) := by
    have := sLc_slot id (l := o2 ++ o3 ++ o4) (fi := iM (sVar 16)) (ft := tNot2 (tTru (lOf (sCall f__law_says (aCons (lOf (sCall f_is_island (aCons (lVar 22) aNil))) (aCons (lOf (sC (.bool false))) aNil)))))) (fe := sVar 22) (b := 22) (ρ := ρ5) (fun _ => false) id (by rw [L6.len]; decide) (by rw [L6.fr 22 (by decide) (by decide)]; rfl) (by rw [List.map_id]; exact hw) (fun v hv τ h1 h2 h3 => ⟨?_, fun z => by cases z⟩) (by show 16 ≤ 1000000; decide)
    · rw [List.filter_eq_nil_iff.mpr (fun _ _ => Bool.false_ne_true)] at this
      exact this
    · have hv2 := is_island_eq v
      rw [hbad v hv] at hv2
      exact not_eq (b := true) (tru_eq (rv := .d (.bool true)) (call_eq (ls := [.d (.bool false), .d (.bool false)]) (ds := [.bool false, .bool false]) (aCons_eq (lOf_eq (rv := .d (.bool false)) (call_eq (ls := [.d v]) (ds := [v]) (aCons_eq (lVar_val h2) rfl) rfl hv2)) rfl) rfl (says_eq false false)) rfl)
  exact ⟨ρ6, xRet_eq (bin_eq (lOf_eq e1) (lOf_eq (sLst_eq (ds := []) rfl rfl (by simp))) rfl rfl (gEq_nil []))⟩
end Cp

set_option maxRecDepth 100000
set_option maxHeartbeats 1000000
namespace Cp
open PySem PySem.Spec Mi
theorem L0.free11 {n : Nat} {ds : List D} {ρ : DEnv} (h : L0 n ds ρ) {s : Slot} (hs : isOwn (some s) = false) : L0 n ds (ρ.set 11 s) :=
  ⟨by rw [List.length_set]; exact h.len, get_ne h.d (by decide), h.num, get_ne h.a (by decide), fun k a b => get_ne (h.fr k a b) (by omega), by rw [get_eq (by rw [h.len]; decide)]; exact hs⟩
theorem L2'.draw {n : Nat} {A : List Arc} {ρ : DEnv} (h : L2' n A ρ) (ds : List D) : L2' n A (ρ.set 1 (.own ds)) := h.set _ (by decide) (by decide) (by decide) (by decide)
theorem rw_le (n : Nat) (A : List Arc) (p : Nat) (hA : A.length ≤ 10 := by assumption) : (rw n A p).length ≤ 10 := by
  have := List.length_filter_le (fun k => lit n (A.getD k (0, 0)) p) (List.range A.length)
  rw [List.length_range] at this
  exact Nat.le_trans this hA
theorem draw_marks (n : Nat) (hn0 : 0 < n) (hn1 : n ≤ 12) (A : List Arc) (ds : List D) (ρ : DEnv) (L : L0 n ds ρ) (M : L2' n A ρ) : ∃ (l : List Nat) (ds' : List D) (ρ' : DEnv), sLc (iR1 (aCons (lVar 2) aNil)) (.nm 11) (tOfB (sBin gEq (lOf (sCallIo f__law_take (aCons (lVar 1) (aCons (lOf (sC (.int 4))) aNil)))) (lOf (sC (.int 0))))) (sVar 11) [11] ρ = some (.fl (l.map iD), ρ') ∧
    L0 n ds' ρ' ∧ L2' n A ρ' ∧ l.Sublist (List.range n) := by
  have hn' : n ≤ 1000000 := by omega
  obtain ⟨zs, σ, h1, h2, ds', L', M'⟩ := sLc_slotI (fi := iR1 (aCons (lVar 2) aNil)) (ft := tOfB (sBin gEq (lOf (sCallIo f__law_take (aCons (lVar 1) (aCons (lOf (sC (.int 4))) aNil)))) (lOf (sC (.int 0))))) (fe := sVar 11) (b := 11) (ρ := ρ) (ρ1 := ρ) (ds := (List.range n).map iD) (fun τ => ∃ ds', L0 n ds' τ ∧ L2' n A τ) id (by rw [L.len]; decide) L.p
    (iR1_nat (l := .d (iD n)) (aCons_eq (lVar_val L.a) rfl) rfl hn') ⟨ds, L.free11 rfl, M.set _ (by decide) (by decide) (by decide) (by decide)⟩ (fun τ h => by obtain ⟨_, a, _⟩ := h; rw [a.len, L.len]) (fun d hd τ hτ => by
      obtain ⟨ds1, L1, M1⟩ := hτ
      obtain ⟨x, _, rfl⟩ := List.mem_map.mp hd
      have L2 := L1.place (iD x)
      have M2 := M1.set (j := 11) (.val (iD x)) (by decide) (by decide) (by decide) (by decide)
      have b11 : (τ.set 11 (.val (iD x)))[11]? = some (.val (iD x)) := get_eq (by rw [L1.len]; decide)
      obtain ⟨r, ds2, e1, hr, hi⟩ := take_call (ρ := τ.set 11 (.val (iD x))) (la := lOf (sC (.int 4))) (b := 4) L2.num (by omega) L2.d rfl
      have L3 := L2.draw hi
      have M3 := M2.draw ds2
      refine ⟨decide ((r : Int) = 0), _, ofB_eq (bin_eq (lOf_eq e1) rfl rfl rfl (gEq_ii _ _)), fun _ => ⟨ds2, L3.free11 rfl, M3.set _ (by decide) (by decide) (by decide) (by decide)⟩, fun _ => ⟨.d (iD x), _, sVar_val (get_ne b11 (by decide)), rfl, ds2, L3.free11 rfl, M3.set _ (by decide) (by decide) (by decide) (by decide)⟩⟩) (by rw [List.length_map, List.length_range]; exact hn')
  obtain ⟨l, hl, rfl⟩ := List.sublist_map_iff.mp h2
  refine ⟨l, ds', _, by rw [List.map_id] at h1; exact h1, ?_, ?_, hl⟩
  · show L0 n ds' (σ.set 11 (ρ.getD 11 .no))
    refine L'.free11 ?_
    rw [List.getD_eq_getElem?_getD]
    have := L.p
    cases h : ρ[11]? with
    | none => rfl
    | some s => rw [h] at this; exact this
  · exact M'.set _ (by decide) (by decide) (by decide) (by decide)
theorem law_run7 (n : Nat) (hn0 : 0 < n) (hn1 : n ≤ 12) (A : List Arc) (hA1 : 1 ≤ A.length) (hA : A.length ≤ 10) (hO : Okay n A) (ds : List D) (ρ : DEnv) (L : L0 n ds ρ) (M : L2' n A ρ) : Tru
  (xSeq (xFor (iR1 (aCons (lOf (sC (.int 12))) aNil)) (.nm 13) (xSeq (xSet 9 (sBlt gTuple (aCons (lOf (sLc (iR1 (aCons (lVar 2) aNil)) (.nm 11) (tOfB (sBin gEq (lOf (sCallIo f__law_take (aCons (lVar 1) (aCons (lOf (sC (.int 4))) aNil)))) (lOf (sC (.int 0))))) (sVar 11) [11])) aNil)))
    (xSeq (xSet 14 (sLst aNil))
    (xSeq (xFor (iM (sVar 9)) (.nm 11) (xSet 14 (sBin gAdd (lVar 14) (lOf (sBin gIdx (lVar 6) (lVar 11))))))
    (xSeq (xSet 15 (sAnd (sBin gEq (lOf (sLc (iM (sVar 9)) (.nm 11) (tOfB (sBin gEq (lOf (sBin gIdx (lVar 6) (lVar 11))) (lOf (sLst aNil)))) (sVar 11) [11])) (lOf (sLst aNil))) (sBin gEq (lOf (sUn gDcl (lOf (sLc (iM (sVar 14)) (.nm 17) tYes2 (sTup (aCons (lVar 17) (aCons (lOf (sC (.int 1))) aNil))) [17])))) (lOf (sBlt gLen (aCons (lVar 14) aNil))))))
    (xIf (tOr2 (tNot2 (tTru (lOf (sCall f__law_says (aCons (lOf (sCall f_are_marks (aCons (lVar 5) (aCons (lVar 9) aNil)))) (aCons (lVar 15) aNil)))))) (tAnd2 (tTru (lVar 15)) (tOfB (sBin gGt (lOf (sBlt gLen (aCons (lVar 9) aNil))) (lOf (sBin gIdx (lOf (sBlt gMin (aCons (lVar 7) aNil))) (lOf (sC (.int 0))))))))) (xRet (sC (.bool false))) xPass))))))
    (xSeq (xSet 16 (sLst (aCons (lOf (sC .none)) (aCons (lOf (sLst (aCons (lOf (sC (.int 0))) aNil))) (aCons (lOf (sTup (aCons (lVar 2) aNil))) (aCons (lOf (sTup (aCons (lOf (sUn gNeg (lOf (sC (.int 1))))) aNil))) (aCons (lOf (sTup (aCons (lOf (sC (.bool true))) aNil))) (aCons (lOf (sTup (aCons (lOf (sC .none)) aNil))) (aCons (lOf (sTup (aCons (lOf (sC (.int 0))) (aCons (lOf (sC (.int 0))) aNil)))) (aCons (lOf (sTup (aCons (lOf (sC (.int 1))) (aCons (lOf (sC (.int 0))) aNil)))) aNil))))))))))
    (xSeq (xIf (tOfB (sBin gNe (lOf (sLc (iM (sVar 16)) (.nm 22) (tNot2 (tTru (lOf (sCall f__law_says (aCons (lOf (sCall f_are_marks (aCons (lVar 5) (aCons (lVar 22) aNil)))) (aCons (lOf (sC (.bool false))) aNil)))))) (sVar 22) [22])) (lOf (sLst aNil)))) (xRet (sC (.bool false))) xPass)
    (xSeq (xSet 16 (sLst (aCons (lOf (sC .none)) (aCons (lOf (sBlt gList (aCons (lVar 5) aNil))) (aCons (lOf (sTup (aCons (lVar 2) aNil))) (aCons (lOf (sBin gAdd (lVar 5) (lOf (sTup (aCons (lOf (sC (.int 0))) aNil))))) (aCons (lOf (sTup (aCons (lOf (sC (.int 0))) (aCons (lOf (sTup (aCons (lOf (sTup (aCons (lOf (sC (.int 0))) (aCons (lOf (sC (.int 1))) aNil)))) aNil))) aNil)))) (aCons (lOf (sTup (aCons (lOf (sC (.int 201))) (aCons (lOf (sTup (aCons (lOf (sTup (aCons (lOf (sC (.int 0))) (aCons (lOf (sC (.int 1))) aNil)))) aNil))) aNil)))) (aCons (lOf (sTup (aCons (lVar 2) (aCons (lOf (sTup aNil)) aNil)))) (aCons (lOf (sTup (aCons (lVar 2) (aCons (lOf (sBlt gList (aCons (lVar 3) aNil))) aNil)))) (aCons (lOf (sTup (aCons (lVar 2) (aCons (lOf (sTup (aCons (lOf (sTup (aCons (lVar 2) (aCons (lOf (sC (.int 1))) aNil)))) aNil))) aNil)))) aNil)))))))))))
    (xSeq (xSet 16 (sBin gAdd (lVar 16) (lOf (sLst (aCons (lOf (sTup (aCons (lVar 2) (aCons (lOf (sTup (aCons (lOf (sTup (aCons (lOf (sC (.int 0))) (aCons (lOf (sC (.int 0))) aNil)))) aNil))) aNil)))) (aCons (lOf (sTup (aCons (lVar 2) (aCons (lOf (sTup (aCons (lOf (sTup (aCons (lOf (sC (.int 0))) (aCons (lOf (sBin gAdd (lVar 2) (lOf (sC (.int 1))))) aNil)))) aNil))) aNil)))) (aCons (lOf (sTup (aCons (lVar 2) (aCons (lOf (sTup (aCons (lOf (sTup (aCons (lOf (sC (.int 0))) aNil))) aNil))) aNil)))) (aCons (lOf (sTup (aCons (lVar 2) (aCons (lOf (sTup (aCons (lOf (sLst (aCons (lOf (sC (.int 0))) (aCons (lOf (sC (.int 1))) aNil)))) aNil))) aNil)))) (aCons (lOf (sTup (aCons (lVar 2) (aCons (lOf (sTup (aCons (lOf (sTup (aCons (lOf (sC (.bool true))) (aCons (lOf (sC (.int 1))) aNil)))) aNil))) aNil)))) (aCons (lOf (sTup (aCons (lOf (sC (.bool true))) (aCons (lOf (sTup (aCons (lOf (sTup (aCons (lOf (sC (.int 0))) (aCons (lOf (sC (.int 1))) aNil)))) aNil))) aNil)))) aNil))))))))))
    (xSeq (xSet 16 (sBin gAdd (lVar 16) (lOf (sLst (aCons (lOf (sTup (aCons (lVar 2) (aCons (lOf (sBin gMul (lOf (sTup (aCons (lOf (sTup (aCons (lOf (sC (.int 0))) (aCons (lOf (sC (.int 1))) aNil)))) aNil))) (lOf (sC (.int 11))))) aNil)))) aNil)))))
    (xRet (sBin gEq (lOf (sLc (iM (sVar 16)) (.nm 22) (tNot2 (tTru (lOf (sCall f__law_says (aCons (lOf (sCall f_is_island (aCons (lVar 22) aNil))) (aCons (lOf (sC (.bool false))) aNil)))))) (sVar 22) [22])) (lOf (sLst aNil)))))))))) ρ := by
  have hA' : A.length ≤ 1000000 := by omega
  have hn' : n ≤ 1000000 := by omega
  have hne : good n A ≠ [] := fun z => by
    have := good_full n A
    rw [z] at this
    cases this
  obtain ⟨mn, hmn, hmem, _⟩ := gMin_np hne
  have rowAt : ∀ p, p < n → gIdx (.list ((rws n A).map lstD)) (iD p) = some (.d (lstD (rw n A p))) := fun p hp => gIdx_l (by
    unfold rws
    rw [List.map_map, List.getElem?_map, List.getElem?_range hp]
    rfl)
  have loop := for_inv (t := .nm 13) (body := (xSeq (xSet 9 (sBlt gTuple (aCons (lOf (sLc (iR1 (aCons (lVar 2) aNil)) (.nm 11) (tOfB (sBin gEq (lOf (sCallIo f__law_take (aCons (lVar 1) (aCons (lOf (sC (.int 4))) aNil)))) (lOf (sC (.int 0))))) (sVar 11) [11])) aNil)))
    (xSeq (xSet 14 (sLst aNil))
    (xSeq (xFor (iM (sVar 9)) (.nm 11) (xSet 14 (sBin gAdd (lVar 14) (lOf (sBin gIdx (lVar 6) (lVar 11))))))
    (xSeq (xSet 15 (sAnd (sBin gEq (lOf (sLc (iM (sVar 9)) (.nm 11) (tOfB (sBin gEq (lOf (sBin gIdx (lVar 6) (lVar 11))) (lOf (sLst aNil)))) (sVar 11) [11])) (lOf (sLst aNil))) (sBin gEq (lOf (sUn gDcl (lOf (sLc (iM (sVar 14)) (.nm 17) tYes2 (sTup (aCons (lVar 17) (aCons (lOf (sC (.int 1))) aNil))) [17])))) (lOf (sBlt gLen (aCons (lVar 14) aNil))))))
    (xIf (tOr2 (tNot2 (tTru (lOf (sCall f__law_says (aCons (lOf (sCall f_are_marks (aCons (lVar 5) (aCons (lVar 9) aNil)))) (aCons (lVar 15) aNil)))))) (tAnd2 (tTru (lVar 15)) (tOfB (sBin gGt (lOf (sBlt gLen (aCons (lVar 9) aNil))) (lOf (sBin gIdx (lOf (sBlt gMin (aCons (lVar 7) aNil))) (lOf (sC (.int 0))))))))) (xRet (sC (.bool false))) xPass)))))) (fun ρ => ∃ ds, L0 n ds ρ ∧ L2' n A ρ) (ds := (List.range 12).map iD) (ρ := ρ) ⟨ds, L, M⟩ (fun d _ ρ hI => ?_)
  · obtain ⟨ρ', l1, ds', L', M'⟩ := loop
    exact Tru.seq (xFor_eq (iR1_nat (l := .d (iD 12)) rfl rfl (by omega)) l1) (law_run8 n hn0 hn1 A hA1 hA hO ds' ρ' L' M')
  · obtain ⟨ds, L, M⟩ := hI
    have L1 := L.set (j := 13) (.val d) (by decide) (by decide) (by decide) (by decide)
    have M1 := M.set (j := 13) (.val d) (by decide) (by decide) (by decide) (by decide)
    have hasg : asgT (.nm 13) d ρ = some (ρ.set 13 (.val d)) := by simp [asgT, L.len]
    generalize ρ.set 13 (.val d) = ρ1 at *
    obtain ⟨l, ds2, ρ2, e2, L2, M2, hsub⟩ := draw_marks n hn0 hn1 A ds ρ1 L1 M1
    have hlt : ∀ p ∈ l, p < n := fun p hp => List.mem_range.mp (hsub.subset hp)
    have hll : l.length ≤ 12 := by
      have := hsub.length_le
      rw [List.length_range] at this
      omega
    have hmono : l.Pairwise (· < ·) := List.pairwise_lt_range.sublist hsub
    -- some
    have s9 := xSet_eq (i := 9) (rv := .d (.tuple (l.map iD))) (blt1f (g := gTuple) e2 rfl) (by rw [L2.len]; decide)
    have L3 := L2.set (j := 9) (.val (.tuple (l.map iD))) (by decide) (by decide) (by decide) (by decide)
    have M3 := M2.set (j := 9) (.val (.tuple (l.map iD))) (by decide) (by decide) (by decide) (by decide)
    have b9 : (ρ2.set 9 (.val (.tuple (l.map iD))))[9]? = some (.val (.tuple (l.map iD))) := get_eq (by rw [L2.len]; decide)
    have s9 : xSet 9 _ ρ1 = some (.nx, ρ2.set 9 (.val (.tuple (l.map iD)))) := s9
    generalize ρ2.set 9 (.val (.tuple (l.map iD))) = ρ3 at *
    -- seen
    have s14 : xSet 14 (sLst aNil) ρ3 = some (.nx, ρ3.set 14 (.own [])) := xSet_eq (rv := .fl []) (sLst_eq (ds := []) rfl rfl (by simp)) (by rw [L3.len]; decide)
    have L4 := L3.set (j := 14) (.own []) (by decide) (by decide) (by decide) (by decide)
    have M4 := M3.set (j := 14) (.own []) (by decide) (by decide) (by decide) (by decide)
    have c9 : (ρ3.set 14 (.own []))[9]? = some (.val (.tuple (l.map iD))) := get_ne b9 (by decide)
    have c14 : (ρ3.set 14 (.own []))[14]? = some (.own ((((l.take 0).map (rw n A)).flatten).map iD)) := get_eq (by rw [L3.len]; decide)
    generalize ρ3.set 14 (.own []) = ρ4 at *
    have loop2 := for_invI (t := .nm 11) (body := (xSet 14 (sBin gAdd (lVar 14) (lOf (sBin gIdx (lVar 6) (lVar 11)))))) iD (fun j ρ => L0 n ds2 ρ ∧ L2' n A ρ ∧ ρ[9]? = some (.val (.tuple (l.map iD))) ∧ ρ[14]? = some (.own ((((l.take j).map (rw n A)).flatten).map iD))) (l := l) (j := 0) (ρ := ρ4) ⟨L4, M4, c9, c14⟩ (fun i p ρ hk hI => ?_)
    · obtain ⟨ρ5, l5, L5, M5, d9, d14⟩ := loop2
      rw [Nat.zero_add, List.take_length] at d14
      have f5 : xFor (iM (sVar 9)) (.nm 11) (xSet 14 (sBin gAdd (lVar 14) (lOf (sBin gIdx (lVar 6) (lVar 11))))) ρ4 = some (.nx, ρ5) := xFor_eq (by unfold iM; rw [sVar_val c9]; rfl) l5
      let S := (l.map (rw n A)).flatten
      have hS : S.length ≤ 1000000 := by
        have : ∀ l : List Nat, ((l.map (rw n A)).flatten).length ≤ l.length * 10 := fun l => by
          induction l with
          | nil => simp
          | cons a r ih =>
            have := rw_le n A a
            rw [List.map_cons, List.flatten_cons, List.length_append, List.length_cons, Nat.succ_mul]
            omega
        have := this l
        show ((l.map (rw n A)).flatten).length ≤ 1000000
        omega
      -- due
      have e1 : sLc (iM (sVar 9)) (.nm 11) (tOfB (sBin gEq (lOf (sBin gIdx (lVar 6) (lVar 11))) (lOf (sLst aNil)))) (sVar 11) [11] ρ5 = some (.fl ((l.filter (dark n A)).map iD), ρ5) := by
        refine sLc_slot iD (l := l) (dark n A) iD (by rw [L5.len]; decide) L5.p (by unfold iM; rw [sVar_val d9]; rfl) (fun p hp τ h1 h2 h3 => ⟨?_, fun _ => ⟨.d (iD p), sVar_val h2, rfl⟩⟩) (by omega)
        refine ofB_eq (bin_eq (lOf_eq (bin_eq (lVar_val (h3 6 _ (by decide) M5.rows)) (lVar_val h2) rfl rfl (rowAt p (hlt p hp)))) (lOf_eq (sLst_eq (ds := []) rfl rfl (by simp))) rfl rfl ?_)
        show gEq (.list ((rw n A p).map iD)) (.list []) = _
        rw [gEq_nil]
        unfold dark
        cases rw n A p <;> rfl
      let a1 : Bool := (l.map (rw n A)).all fun r => !r.isEmpty
      have ha1 : ((l.filter (dark n A)).map iD).isEmpty = a1 := by
        show _ = (l.map (rw n A)).all fun r => !r.isEmpty
        rw [List.all_map]
        clear e1 l5 hmono d9 d14 f5 hS hsub hlt hll b9 c9 c14 e2
        induction l with
        | nil => rfl
        | cons p r ih =>
          rw [List.filter_cons, List.all_cons]
          show _ = ((!(rw n A p).isEmpty) && _)
          unfold dark at ih ⊢
          cases h : (rw n A p).isEmpty with
          | true => simp
          | false =>
            simp only [Bool.false_eq_true, if_false, Bool.not_false, Bool.true_and]
            exact ih
      have e2' : sBin gEq (lOf (sLc (iM (sVar 9)) (.nm 11) (tOfB (sBin gEq (lOf (sBin gIdx (lVar 6) (lVar 11))) (lOf (sLst aNil)))) (sVar 11) [11])) (lOf (sLst aNil)) ρ5 = some (.d (.bool a1), ρ5) := by
        refine bin_eq (lOf_eq e1) (lOf_eq (sLst_eq (ds := []) rfl rfl (by simp))) rfl rfl ?_
        show gEq (.list ((l.filter (dark n A)).map iD)) (.list []) = _
        rw [gEq_nil, ha1]
      let v14 : Slot := .val (.list (S.map iD))
      have L6 := L5.set (j := 14) v14 (by decide) (by decide) (by decide) (by decide)
      have M6 := M5.set (j := 14) v14 (by decide) (by decide) (by decide) (by decide)
      have f9 : (ρ5.set 14 v14)[9]? = some (.val (.tuple (l.map iD))) := get_ne d9 (by decide)
      have f14 : (ρ5.set 14 v14)[14]? = some v14 := get_eq (by rw [L5.len]; decide)
      let a2 : Bool := S.all fun k => decide (S.count k = 1)
      have e3 : sBin gEq (lOf (sUn gDcl (lOf (sLc (iM (sVar 14)) (.nm 17) tYes2 (sTup (aCons (lVar 17) (aCons (lOf (sC (.int 1))) aNil))) [17])))) (lOf (sBlt gLen (aCons (lVar 14) aNil))) ρ5 = some (.d (.bool a2), ρ5.set 14 v14) := by
        have w := iM_holds d14 (.inl rfl)
        have g1 := sLc_slotM iD (l := S) (fi := iM (sVar 14)) (fe := sTup (aCons (lVar 17) (aCons (lOf (sC (.int 1))) aNil))) (b := 17) (ρ := ρ5) (ρ1 := ρ5.set 14 v14) (fun k => .tuple [iD k, .int 1]) (by rw [L6.len]; decide) (by rw [L6.fr 17 (by decide) (by decide)]; rfl) w (fun k hk τ h1 h2 h3 => ⟨.d (.tuple [iD k, .int 1]), sTup_eq (ds := [iD k, .int 1]) (aCons_eq (lVar_val h2) rfl) rfl (by simp), rfl⟩) hS
        have hk : ∀ S : List Nat, keysD (S.map fun k => .tuple [iD k, .int 1]) = some (S.map fun k : Nat => ((k : Int), (.int 1 : D))) := fun S => by
          induction S with
          | nil => rfl
          | cons a r ih =>
            show (keysD (r.map fun k => .tuple [iD k, .int 1])).map ((((a : Nat) : Int), (.int 1 : D)) :: ·) = _
            rw [ih]; rfl
        have g2 : sUn gDcl (lOf (sLc (iM (sVar 14)) (.nm 17) tYes2 (sTup (aCons (lVar 17) (aCons (lOf (sC (.int 1))) aNil))) [17])) ρ5 = some (.d (.int ((dedupI [] (S.map fun k : Nat => (k : Int))).length : Nat)), ρ5.set 14 v14) := by
          have hd : gDcl (.list (S.map fun k => .tuple [iD k, .int 1])) = some (.d (.int ((dedupI [] (S.map fun k : Nat => (k : Int))).length : Nat))) := by
            unfold gDcl
            simp only [hk S, List.map_map]
            rfl
          unfold sUn
          simp only [lOf_eq g1, lRes, hd]
        refine bin_eq (lOf_eq g2) (lOf_eq (rv := .d (.int (S.length : Nat))) (blt1 (lVar_val f14) rfl (by show some (RV.d (PyData.int ((S.map iD).length : Nat))) = _; rw [List.length_map]))) rfl rfl ?_
        show gEq (.int _) (.int _) = _
        rw [gEq_ii]
        congr 3
        show _ = S.all fun k => decide (S.count k = 1)
        rw [← due_eq S]
        exact decide_eq_decide.mpr (by omega)
      let due : Bool := a1 && a2
      have hdue : due = marksOk n A l := rfl
      obtain ⟨ρ6, e4, L7, M7, g9⟩ : ∃ ρ6, sAnd (sBin gEq (lOf (sLc (iM (sVar 9)) (.nm 11) (tOfB (sBin gEq (lOf (sBin gIdx (lVar 6) (lVar 11))) (lOf (sLst aNil)))) (sVar 11) [11])) (lOf (sLst aNil))) (sBin gEq (lOf (sUn gDcl (lOf (sLc (iM (sVar 14)) (.nm 17) tYes2 (sTup (aCons (lVar 17) (aCons (lOf (sC (.int 1))) aNil))) [17])))) (lOf (sBlt gLen (aCons (lVar 14) aNil)))) ρ5 = some (.d (.bool due), ρ6) ∧ L0 n ds2 ρ6 ∧ L2' n A ρ6 ∧ ρ6[9]? = some (.val (.tuple (l.map iD))) := by
        cases h : a1 with
        | false =>
          refine ⟨ρ5, ?_, L5, M5, d9⟩
          rw [h] at e2'
          unfold sAnd
          simp only [e2', truth]
          show _ = some (RV.d (.bool (a1 && a2)), ρ5)
          rw [h]; rfl
        | true =>
          refine ⟨ρ5.set 14 v14, ?_, L6, M6, f9⟩
          rw [h] at e2'
          unfold sAnd
          simp only [e2', truth, e3]
          show _ = some (RV.d (.bool (a1 && a2)), _)
          rw [h]; rfl
      have s15 : xSet 15 _ ρ5 = some (.nx, ρ6.set 15 (.val (.bool due))) := xSet_eq (rv := .d (.bool due)) e4 (by rw [L7.len]; decide)
      have L8 := L7.set (j := 15) (.val (.bool due)) (by decide) (by decide) (by decide) (by decide)
      have M8 := M7.set (j := 15) (.val (.bool due)) (by decide) (by decide) (by decide) (by decide)
      have h9 : (ρ6.set 15 (.val (.bool due)))[9]? = some (.val (.tuple (l.map iD))) := get_ne g9 (by decide)
      have h15 : (ρ6.set 15 (.val (.bool due)))[15]? = some (.val (.bool due)) := get_eq (by rw [L7.len]; decide)
      generalize ρ6.set 15 (.val (.bool due)) = ρ7 at *
      have em : f_are_marks [.val (isl n A), .val (.tuple (l.map iD))] = some (.d (.bool due), none) := by
        rcases are_marks_eq n hn0 (by omega) A hA (.tuple (l.map iD)) with ⟨_, h⟩ | ⟨l', e, _, h⟩
        · exact absurd hlt (h l rfl)
        · have e : l.map iD = l'.map iD := by injection e
          have : l = l' := by
            have h2 := eqvAll_nat l l'
            have h3 := eqvAll_nat l' l'
            rw [e, h3, decide_eq_true rfl] at h2
            exact of_decide_eq_true h2.symm
          subst this
          rw [h (by omega), falls_no hmono]
          rfl
      obtain ⟨sg, q7, hq7⟩ := M8.good
      have cnd : (tOr2 (tNot2 (tTru (lOf (sCall f__law_says (aCons (lOf (sCall f_are_marks (aCons (lVar 5) (aCons (lVar 9) aNil)))) (aCons (lVar 15) aNil)))))) (tAnd2 (tTru (lVar 15)) (tOfB (sBin gGt (lOf (sBlt gLen (aCons (lVar 9) aNil))) (lOf (sBin gIdx (lOf (sBlt gMin (aCons (lVar 7) aNil))) (lOf (sC (.int 0))))))))) ρ7 = some (false, ρ7) := by
        refine (or_f (ρ1 := ρ7) (not_eq (b := true) (tru_eq (rv := .d (.bool true)) (call_eq (ls := [.d (.bool due), .d (.bool due)]) (ds := [.bool due, .bool due]) (aCons_eq (lOf_eq (rv := .d (.bool due)) (call_eq (ls := [.d (isl n A), .d (.tuple (l.map iD))]) (ds := [isl n A, .tuple (l.map iD)]) (aCons_eq (lVar_val M8.isl) (aCons_eq (lVar_val h9) rfl)) rfl em)) (aCons_eq (lVar_val h15) rfl)) rfl ((says_eq due due).trans (by cases due <;> rfl))) rfl))).trans ?_
        have t15 : tTru (lVar 15) ρ7 = some (due, ρ7) := by
          unfold tTru
          simp only [lVar_val h15, lRes, truth]
        cases hd : due with
        | false =>
          rw [hd] at t15
          exact and_f t15
        | true =>
          rw [hd] at t15
          refine (and_t t15).trans ?_
          have hle := marks_fewest hlt (hdue ▸ hd) hmem
          have gmin : sBlt gMin (aCons (lVar 7) aNil) ρ7 = some (.d (npD mn), ρ7) := by
            rcases hq7 with rfl | rfl
            · exact blt1 (lVar_own q7) (lRes_own q7) hmn
            · exact blt1 (lVar_val q7) rfl hmn
          refine ofB_eq (bin_eq (lOf_eq (rv := .d (iD l.length)) (blt1 (lVar_val h9) rfl (by show some (RV.d (PyData.int ((l.map iD).length : Nat))) = _; rw [List.length_map]; rfl))) (lOf_eq (rv := .d (iD mn.1)) (bin_eq (lOf_eq gmin) rfl rfl rfl (gIdx_t (i := 0) rfl))) rfl rfl ?_)
          show gGt (.int _) (.int _) = _
          rw [gGt_ii, decide_eq_false (by show ¬ ((mn.1 : Int) < (l.length : Int)); omega)]
      refine ⟨ρ1, .nx, ρ7, hasg, ?_, .inl rfl, ds2, L8, M8⟩
      exact (seq_nx s9).trans ((seq_nx s14).trans ((seq_nx f5).trans ((seq_nx s15).trans ((if_f cnd).trans rfl))))
    · obtain ⟨La, Ma, k9, k14⟩ := hI
      rw [Nat.zero_add] at k14 ⊢
      have hp := List.mem_of_getElem? hk
      have La1 := La.place (iD p)
      have Ma1 := Ma.set (j := 11) (.val (iD p)) (by decide) (by decide) (by decide) (by decide)
      have hasg2 : asgT (.nm 11) (iD p) ρ = some (ρ.set 11 (.val (iD p))) := by simp [asgT, La.len]
      have k11 : (ρ.set 11 (.val (iD p)))[11]? = some (.val (iD p)) := get_eq (by rw [La.len]; decide)
      have k9' : (ρ.set 11 (.val (iD p)))[9]? = some (.val (.tuple (l.map iD))) := get_ne k9 (by decide)
      have k14' : (ρ.set 11 (.val (iD p)))[14]? = some (.own ((((l.take i).map (rw n A)).flatten).map iD)) := get_ne k14 (by decide)
      generalize ρ.set 11 (.val (iD p)) = τ at *
      have hi : i < l.length := (List.getElem?_eq_some_iff.mp hk).1
      have ee : ((l.take (i + 1)).map (rw n A)).flatten = ((l.take i).map (rw n A)).flatten ++ rw n A p := by
        rw [List.take_add_one, hk, List.map_append, List.flatten_append]
        simp
      have hS : ∀ l : List Nat, ((l.map (rw n A)).flatten).length ≤ l.length * 10 := fun l => by
        induction l with
        | nil => simp
        | cons a r ih =>
          have := rw_le n A a
          rw [List.map_cons, List.flatten_cons, List.length_append, List.length_cons, Nat.succ_mul]
          omega
      have h1 := hS (l.take i)
      have h2 := rw_le n A p
      have h3 : (l.take i).length ≤ 12 := by rw [List.length_take]; omega
      refine ⟨τ, .nx, τ.set 14 (.own ((((l.take (i + 1)).map (rw n A)).flatten).map iD)), hasg2, ?_, .inl rfl, La1.set _ (by decide) (by decide) (by decide) (by decide), Ma1.set _ (by decide) (by decide) (by decide) (by decide), get_ne k9' (by decide), get_eq (by rw [La1.len]; decide)⟩
      rw [ee]
      refine xSet_eq (rv := .fl ((((l.take i).map (rw n A)).flatten ++ rw n A p).map iD)) (bin_eq (lVar_own k14') (lOf_eq (rv := .d (lstD (rw n A p))) (bin_eq (lVar_val Ma1.rows) (lVar_val k11) rfl rfl (rowAt p (hlt p hp)))) (lRes_own k14') rfl ?_) (by rw [La1.len]; decide)
      rw [List.map_append]
      exact gAdd_l (a := (((l.take i).map (rw n A)).flatten).map iD) (b := (rw n A p).map iD) (fits (by rw [List.length_map, List.length_map]; omega))
end Cp

set_option maxRecDepth 100000
set_option maxHeartbeats 1000000
namespace Cp
open PySem PySem.Spec Mi
theorem lc_none {t : Tg} {ft : Mi.Tm} {fe : Sm} {vs : List Nat} (I : DEnv → Prop) : ∀ {ds : List D} {ρ : DEnv}, I ρ → (∀ d ∈ ds, ∀ ρ, I ρ → ∃ ρ1 ρ2, asgT t d ρ = some ρ1 ∧ ft ρ1 = some (false, ρ2) ∧ I (wipeD ρ2 vs)) → ∃ ρ', lcGo t ft fe vs ds ρ = some ([], ρ') ∧ I ρ'
  | [], ρ, h0, _ => ⟨ρ, rfl, h0⟩
  | d :: ds, ρ, h0, h => by
    obtain ⟨ρ1, ρ2, h1, h2, h3⟩ := h d List.mem_cons_self ρ h0
    obtain ⟨ρ', h4, h5⟩ := lc_none (fe := fe) I (ds := ds) h3 fun d hd => h d (List.mem_cons_of_mem _ hd)
    exact ⟨ρ', by simp only [lcGo, h1, h2, h4], h5⟩
theorem sLc_go {fi : Im} {t : Tg} {ft : Mi.Tm} {fe : Sm} {vs : List Nat} {ρ ρ1 ρ2 : DEnv} {ds ys : List D} (h1 : fi ρ = some (ds, ρ1)) (h2 : noOwn vs ρ1 = true) (h3 : lcGo t ft fe vs ds (wipeD ρ1 vs) = some (ys, ρ2)) (hl : ys.length ≤ 1000000) : sLc fi t ft fe vs ρ = some (.fl ys, restD ρ1 ρ2 vs) := by
  unfold sLc
  simp only [h1, h2, if_true, h3, fits hl]
theorem restore2 {τ : DEnv} {a b v : Slot} (h0 : τ[20]? = some .no) (h1 : τ[21]? = some .no) : wipeD (((τ.set 20 a).set 21 b).set 12 v) [20, 21] = τ.set 12 v := by
  have l0 : 20 < τ.length := (List.getElem?_eq_some_iff.mp h0).1
  have l1 : 21 < τ.length := (List.getElem?_eq_some_iff.mp h1).1
  show ((((τ.set 20 a).set 21 b).set 12 v).set 21 .no).set 20 .no = τ.set 12 v
  refine List.ext_getElem? fun j => ?_
  by_cases e0 : j = 20
  · subst e0
    rw [get_eq (by simp only [List.length_set]; exact l0), get_ne h0 (by decide)]
  · rw [List.getElem?_set_ne (Ne.symm e0)]
    by_cases e1 : j = 21
    · subst e1
      rw [get_eq (by simp only [List.length_set]; exact l1), get_ne h1 (by decide)]
    · rw [List.getElem?_set_ne (Ne.symm e1)]
      by_cases e2 : j = 12
      · subst e2
        rw [get_eq (by simp only [List.length_set]; omega), get_eq (by omega)]
      · rw [List.getElem?_set_ne (Ne.symm e2), List.getElem?_set_ne (Ne.symm e1), List.getElem?_set_ne (Ne.symm e0), List.getElem?_set_ne (Ne.symm e2)]
/-- each good set has the lights that are needed -/
theorem need_in {n : Nat} {A : List Arc} {p : NP} (hp : p ∈ good n A) {k : Nat} (hk : k ∈ need n A) : p.2.contains k = true := by
  unfold good at hp
  obtain ⟨m, hm, rfl⟩ := List.mem_map.mp hp
  have hh := (List.mem_filter.mp hm).2
  have hr := List.contains_iff_mem.mp (List.mem_filter.mp hk).2
  unfold hit lrs at hh
  have := List.all_eq_true.mp hh [k] (List.mem_filter.mpr ⟨hr, rfl⟩)
  simpa using this
theorem law_run6 (n : Nat) (hn0 : 0 < n) (hn1 : n ≤ 12) (A : List Arc) (hA1 : 1 ≤ A.length) (hA : A.length ≤ 10) (hO : Okay n A) (ds : List D) (ρ : DEnv) (L : L0 n ds ρ) (M : L2' n A ρ) (a12 : ρ[12]? = some (.own ((need n A).map iD))) : Tru
  (xSeq (xIf (tOfB (sBin gNe (lOf (sLc (iM (sVar 7)) (.tp (.cons (.nm 20) (.cons (.nm 21) .nil))) (tOfB (sBin gNe (lOf (sLc (iM (sVar 12)) (.nm 17) (tOfB (sBin gNi (lVar 17) (lVar 21))) (sVar 17) [17])) (lOf (sLst aNil)))) (sVar 21) [20, 21])) (lOf (sLst aNil)))) (xRet (sC (.bool false))) xPass)
    (xSeq (xFor (iR1 (aCons (lOf (sC (.int 12))) aNil)) (.nm 13) (xSeq (xSet 9 (sBlt gTuple (aCons (lOf (sLc (iR1 (aCons (lVar 2) aNil)) (.nm 11) (tOfB (sBin gEq (lOf (sCallIo f__law_take (aCons (lVar 1) (aCons (lOf (sC (.int 4))) aNil)))) (lOf (sC (.int 0))))) (sVar 11) [11])) aNil)))
    (xSeq (xSet 14 (sLst aNil))
    (xSeq (xFor (iM (sVar 9)) (.nm 11) (xSet 14 (sBin gAdd (lVar 14) (lOf (sBin gIdx (lVar 6) (lVar 11))))))
    (xSeq (xSet 15 (sAnd (sBin gEq (lOf (sLc (iM (sVar 9)) (.nm 11) (tOfB (sBin gEq (lOf (sBin gIdx (lVar 6) (lVar 11))) (lOf (sLst aNil)))) (sVar 11) [11])) (lOf (sLst aNil))) (sBin gEq (lOf (sUn gDcl (lOf (sLc (iM (sVar 14)) (.nm 17) tYes2 (sTup (aCons (lVar 17) (aCons (lOf (sC (.int 1))) aNil))) [17])))) (lOf (sBlt gLen (aCons (lVar 14) aNil))))))
    (xIf (tOr2 (tNot2 (tTru (lOf (sCall f__law_says (aCons (lOf (sCall f_are_marks (aCons (lVar 5) (aCons (lVar 9) aNil)))) (aCons (lVar 15) aNil)))))) (tAnd2 (tTru (lVar 15)) (tOfB (sBin gGt (lOf (sBlt gLen (aCons (lVar 9) aNil))) (lOf (sBin gIdx (lOf (sBlt gMin (aCons (lVar 7) aNil))) (lOf (sC (.int 0))))))))) (xRet (sC (.bool false))) xPass))))))
    (xSeq (xSet 16 (sLst (aCons (lOf (sC .none)) (aCons (lOf (sLst (aCons (lOf (sC (.int 0))) aNil))) (aCons (lOf (sTup (aCons (lVar 2) aNil))) (aCons (lOf (sTup (aCons (lOf (sUn gNeg (lOf (sC (.int 1))))) aNil))) (aCons (lOf (sTup (aCons (lOf (sC (.bool true))) aNil))) (aCons (lOf (sTup (aCons (lOf (sC .none)) aNil))) (aCons (lOf (sTup (aCons (lOf (sC (.int 0))) (aCons (lOf (sC (.int 0))) aNil)))) (aCons (lOf (sTup (aCons (lOf (sC (.int 1))) (aCons (lOf (sC (.int 0))) aNil)))) aNil))))))))))
    (xSeq (xIf (tOfB (sBin gNe (lOf (sLc (iM (sVar 16)) (.nm 22) (tNot2 (tTru (lOf (sCall f__law_says (aCons (lOf (sCall f_are_marks (aCons (lVar 5) (aCons (lVar 22) aNil)))) (aCons (lOf (sC (.bool false))) aNil)))))) (sVar 22) [22])) (lOf (sLst aNil)))) (xRet (sC (.bool false))) xPass)
    (xSeq (xSet 16 (sLst (aCons (lOf (sC .none)) (aCons (lOf (sBlt gList (aCons (lVar 5) aNil))) (aCons (lOf (sTup (aCons (lVar 2) aNil))) (aCons (lOf (sBin gAdd (lVar 5) (lOf (sTup (aCons (lOf (sC (.int 0))) aNil))))) (aCons (lOf (sTup (aCons (lOf (sC (.int 0))) (aCons (lOf (sTup (aCons (lOf (sTup (aCons (lOf (sC (.int 0))) (aCons (lOf (sC (.int 1))) aNil)))) aNil))) aNil)))) (aCons (lOf (sTup (aCons (lOf (sC (.int 201))) (aCons (lOf (sTup (aCons (lOf (sTup (aCons (lOf (sC (.int 0))) (aCons (lOf (sC (.int 1))) aNil)))) aNil))) aNil)))) (aCons (lOf (sTup (aCons (lVar 2) (aCons (lOf (sTup aNil)) aNil)))) (aCons (lOf (sTup (aCons (lVar 2) (aCons (lOf (sBlt gList (aCons (lVar 3) aNil))) aNil)))) (aCons (lOf (sTup (aCons (lVar 2) (aCons (lOf (sTup (aCons (lOf (sTup (aCons (lVar 2) (aCons (lOf (sC (.int 1))) aNil)))) aNil))) aNil)))) aNil)))))))))))
    (xSeq (xSet 16 (sBin gAdd (lVar 16) (lOf (sLst (aCons (lOf (sTup (aCons (lVar 2) (aCons (lOf (sTup (aCons (lOf (sTup (aCons (lOf (sC (.int 0))) (aCons (lOf (sC (.int 0))) aNil)))) aNil))) aNil)))) (aCons (lOf (sTup (aCons (lVar 2) (aCons (lOf (sTup (aCons (lOf (sTup (aCons (lOf (sC (.int 0))) (aCons (lOf (sBin gAdd (lVar 2) (lOf (sC (.int 1))))) aNil)))) aNil))) aNil)))) (aCons (lOf (sTup (aCons (lVar 2) (aCons (lOf (sTup (aCons (lOf (sTup (aCons (lOf (sC (.int 0))) aNil))) aNil))) aNil)))) (aCons (lOf (sTup (aCons (lVar 2) (aCons (lOf (sTup (aCons (lOf (sLst (aCons (lOf (sC (.int 0))) (aCons (lOf (sC (.int 1))) aNil)))) aNil))) aNil)))) (aCons (lOf (sTup (aCons (lVar 2) (aCons (lOf (sTup (aCons (lOf (sTup (aCons (lOf (sC (.bool true))) (aCons (lOf (sC (.int 1))) aNil)))) aNil))) aNil)))) (aCons (lOf (sTup (aCons (lOf (sC (.bool true))) (aCons (lOf (sTup (aCons (lOf (sTup (aCons (lOf (sC (.int 0))) (aCons (lOf (sC (.int 1))) aNil)))) aNil))) aNil)))) aNil))))))))))
    (xSeq (xSet 16 (sBin gAdd (lVar 16) (lOf (sLst (aCons (lOf (sTup (aCons (lVar 2) (aCons (lOf (sBin gMul (lOf (sTup (aCons (lOf (sTup (aCons (lOf (sC (.int 0))) (aCons (lOf (sC (.int 1))) aNil)))) aNil))) (lOf (sC (.int 11))))) aNil)))) aNil)))))
    (xRet (sBin gEq (lOf (sLc (iM (sVar 16)) (.nm 22) (tNot2 (tTru (lOf (sCall f__law_says (aCons (lOf (sCall f_is_island (aCons (lVar 22) aNil))) (aCons (lOf (sC (.bool false))) aNil)))))) (sVar 22) [22])) (lOf (sLst aNil))))))))))) ρ := by
  have hA' : A.length ≤ 1000000 := by omega
  have hn' : n ≤ 1000000 := by omega
  obtain ⟨s7, r7, h7⟩ := M.good
  have hw := iM_holds r7 h7
  have L1 := L.set (j := 7) (.val (.list ((good n A).map npD))) (by decide) (by decide) (by decide) (by decide)
  have M1 : L2' n A (ρ.set 7 (.val (.list ((good n A).map npD)))) := ⟨get_ne M.arcs (by decide), get_ne M.isl (by decide), get_ne M.rows (by decide), ⟨_, get_eq (by rw [L.len]; decide), .inr rfl⟩⟩
  have b12 : (ρ.set 7 (.val (.list ((good n A).map npD))))[12]? = some (.own ((need n A).map iD)) := get_ne a12 (by decide)
  generalize ρ.set 7 (.val (.list ((good n A).map npD))) = ρ1 at *
  let v12 : Slot := .val (.list ((need n A).map iD))
  have L2 := L1.set (j := 12) v12 (by decide) (by decide) (by decide) (by decide)
  have M2 := M1.set (j := 12) v12 (by decide) (by decide) (by decide) (by decide)
  have hnl : (need n A).length ≤ 1000000 := by
    have := List.length_filter_le (fun k => (rws n A).contains [k]) (List.range A.length)
    rw [List.length_range] at this
    exact Nat.le_trans this hA'
  -- a state of which each turn makes one
  have turn : ∀ τ : DEnv, L0 n ds τ → (∃ s, τ[12]? = some s ∧ Holds ((need n A).map iD) s) → ∀ p ∈ good n A, ∃ τ1, asgT (.tp (.cons (.nm 20) (.cons (.nm 21) .nil))) (npD p) τ = some τ1 ∧
      tOfB (sBin gNe (lOf (sLc (iM (sVar 12)) (.nm 17) (tOfB (sBin gNi (lVar 17) (lVar 21))) (sVar 17) [17])) (lOf (sLst aNil))) τ1 = some (false, τ1.set 12 v12) ∧ wipeD (τ1.set 12 v12) [20, 21] = τ.set 12 v12 := by
    intro τ Lτ h12 p hp
    obtain ⟨s, hs, hh⟩ := h12
    refine ⟨(τ.set 20 (.val (iD p.1))).set 21 (.val (.tuple (p.2.map iD))), ?_, ?_, restore2 (Lτ.fr 20 (by decide) (by decide)) (Lτ.fr 21 (by decide) (by decide))⟩
    · have h20 : 20 < τ.length := by rw [Lτ.len]; decide
      have h21 : 21 < τ.length := by rw [Lτ.len]; decide
      show asgTs _ [iD p.1, .tuple (p.2.map iD)] τ = _
      simp only [asgTs, asgT, h20, h21, if_true, List.length_set]
    · have w1 := iM_holds (ρ := (τ.set 20 (.val (iD p.1))).set 21 (.val (.tuple (p.2.map iD)))) (get_ne (get_ne hs (by decide)) (by decide)) hh
      have g21 : (((τ.set 20 (.val (iD p.1))).set 21 (.val (.tuple (p.2.map iD)))).set 12 v12)[21]? = some (.val (.tuple (p.2.map iD))) := get_ne (get_eq (by rw [List.length_set, Lτ.len]; decide)) (by decide)
      have g17 : (((τ.set 20 (.val (iD p.1))).set 21 (.val (.tuple (p.2.map iD)))).set 12 v12)[17]? = some .no := get_ne (get_ne (get_ne (Lτ.fr 17 (by decide) (by decide)) (by decide)) (by decide)) (by decide)
      have gl : (((τ.set 20 (.val (iD p.1))).set 21 (.val (.tuple (p.2.map iD)))).set 12 v12).length = 23 := by simp only [List.length_set]; exact Lτ.len
      have e := sLc_slot iD (l := need n A) (fi := iM (sVar 12)) (ft := tOfB (sBin gNi (lVar 17) (lVar 21))) (fe := sVar 17) (b := 17) (ρ := (τ.set 20 (.val (iD p.1))).set 21 (.val (.tuple (p.2.map iD)))) (fun k => !p.2.contains k) iD (by rw [gl]; decide) (by rw [g17]; rfl) w1 (fun k hk τ2 q1 q2 q3 => ⟨?_, fun _ => ⟨.d (iD k), sVar_val q2, rfl⟩⟩) hnl
      · have ef : ((need n A).filter fun k => !p.2.contains k) = [] := List.filter_eq_nil_iff.mpr fun k hk => by
          rw [need_in hp hk]; simp
        rw [ef] at e
        refine ofB_eq (bin_eq (lOf_eq e) (lOf_eq (sLst_eq (ds := []) rfl rfl (by simp))) rfl rfl ?_)
        exact gNe_nil []
      · refine ofB_eq (bin_eq (lVar_val q2) (lVar_val (q3 21 _ (by decide) g21)) rfl rfl ?_)
        unfold gNi
        have h : PyData.depth (iD k) ≤ 1 := by show (PyData.depth (.int _)) ≤ 1; simp [PyData.depth]
        simp only [any_nat]
        rw [if_pos (by omega)]
  have w0 : wipeD ρ1 [20, 21] = ρ1 := by
    show (ρ1.set 21 .no).set 20 .no = ρ1
    rw [set_same (L1.fr 21 (by decide) (by decide)), set_same (L1.fr 20 (by decide) (by decide))]
  obtain ⟨ρ', l1, hI⟩ := lc_none (t := .tp (.cons (.nm 20) (.cons (.nm 21) .nil))) (ft := tOfB (sBin gNe (lOf (sLc (iM (sVar 12)) (.nm 17) (tOfB (sBin gNi (lVar 17) (lVar 21))) (sVar 17) [17])) (lOf (sLst aNil)))) (fe := sVar 21) (vs := [20, 21]) (fun τ => τ = ρ1 ∨ τ = ρ1.set 12 v12) (ds := (good n A).map npD) (ρ := ρ1) (.inl rfl) (fun d hd τ hτ => by
    obtain ⟨p, hp, rfl⟩ := List.mem_map.mp hd
    rcases hτ with e | e <;> rw [e]
    · obtain ⟨τ1, t1, t2, t3⟩ := turn ρ1 L1 ⟨_, b12, .inl rfl⟩ p hp
      exact ⟨τ1, _, t1, t2, .inr t3⟩
    · obtain ⟨τ1, t1, t2, t3⟩ := turn _ L2 ⟨_, get_eq (by rw [L1.len]; decide), .inr rfl⟩ p hp
      refine ⟨τ1, _, t1, t2, .inr ?_⟩
      rw [t3, List.set_set])
  have hres : restD ρ1 ρ' [20, 21] = ρ' ∧ L0 n ds ρ' ∧ L2' n A ρ' := by
    have back : ∀ τ : DEnv, L0 n ds τ → restD ρ1 τ [20, 21] = τ := fun τ Lτ => by
      show (τ.set 21 (ρ1.getD 21 .no)).set 20 (ρ1.getD 20 .no) = τ
      rw [List.getD_eq_getElem?_getD, List.getD_eq_getElem?_getD, L1.fr 21 (by decide) (by decide), L1.fr 20 (by decide) (by decide)]
      show (τ.set 21 .no).set 20 .no = τ
      rw [set_same (Lτ.fr 21 (by decide) (by decide)), set_same (Lτ.fr 20 (by decide) (by decide))]
    rcases hI with e | e <;> rw [e]
    · exact ⟨back _ L1, L1, M1⟩
    · exact ⟨back _ L2, L2, M2⟩
  obtain ⟨hb, L3, M3⟩ := hres
  have e17 : sLc (iM (sVar 7)) (.tp (.cons (.nm 20) (.cons (.nm 21) .nil))) (tOfB (sBin gNe (lOf (sLc (iM (sVar 12)) (.nm 17) (tOfB (sBin gNi (lVar 17) (lVar 21))) (sVar 17) [17])) (lOf (sLst aNil)))) (sVar 21) [20, 21] ρ = some (.fl [], ρ') := by
    have hno : noOwn [20, 21] ρ1 = true := by
      simp [noOwn, L1.fr 20 (by decide) (by decide), L1.fr 21 (by decide) (by decide), isOwn]
    have := sLc_go hw hno (by rw [w0]; exact l1) (by simp)
    rwa [hb] at this
  exact Tru.skip (ρ1 := ρ') (ofB_eq (bin_eq (lOf_eq e17) (lOf_eq (sLst_eq (ds := []) rfl rfl (by simp))) rfl rfl (gNe_nil []))) (law_run7 n hn0 hn1 A hA1 hA hO ds ρ' L3 M3)
end Cp

set_option maxRecDepth 100000
set_option maxHeartbeats 1000000
namespace Cp
open PySem PySem.Spec Mi
theorem lit_some {n : Nat} {A : List Arc} (hA1 : 1 ≤ A.length) (hO : Okay n A) : ∃ p, p < n ∧ dark n A p = false := by
  have h0 : 0 < A.length := by omega
  obtain ⟨o1, o2, o3⟩ := hO _ (List.getElem_mem h0)
  refine ⟨A[0].1, o1, ?_⟩
  have hm : 0 ∈ rw n A A[0].1 := by
    refine List.mem_filter.mpr ⟨List.mem_range.mpr h0, ?_⟩
    rw [List.getD_eq_getElem?_getD, List.getElem?_eq_getElem h0]
    show decide ((((A[0].1 : Nat) : Int) - ((A[0].1 : Nat) : Int)) % (n : Int) < ((A[0].2 : Nat) : Int)) = true
    rw [Int.sub_self, Int.zero_emod]
    exact decide_eq_true (by omega)
  unfold dark
  cases h : rw n A A[0].1 with
  | nil => rw [h] at hm; cases hm
  | cons a r => rfl
theorem cut_last (l : List Nat) : cutD (l.map iD) none (some (-1)) = (l.dropLast).map iD := by
  have e : HT.sIx (l.map iD).length (l.map iD).length (some (-1)) = l.length - 1 := by
    rw [List.length_map]
    show (if (-1 : Int) < 0 then ((-1 : Int) + (l.length : Int)).toNat else min (-1 : Int).toNat l.length) = l.length - 1
    rw [if_pos (by decide)]
    omega
  unfold cutD
  rw [HT.sIx_none, e, List.drop_zero, Nat.sub_zero, ← List.map_take, List.dropLast_eq_take]
theorem idx_last {l : List Nat} (h : l ≠ []) : gIdx (.list (l.map iD)) (.int (-1)) = some (.d (iD (l.getLast?.getD 0))) := by
  have e : l = l.dropLast ++ [l.getLast h] := (List.dropLast_concat_getLast h).symm
  have e2 : l.map iD = l.dropLast.map iD ++ [iD (l.getLast h)] := by
    conv => lhs; rw [e]
    rw [List.map_append]
    rfl
  have := L2.atI_last (l.dropLast.map iD) (iD (l.getLast h))
  rw [← e2] at this
  unfold gIdx
  simp only [this]
  rw [List.getLast?_eq_getLast h]
  rfl
theorem gAdd_nat {l m : List Nat} (h : l.length + m.length ≤ 1000000) : gAdd (.list (l.map iD)) (.list (m.map iD)) = some (.fl ((l ++ m).map iD)) := by
  rw [List.map_append]
  exact if_pos (fits (by rw [List.length_map, List.length_map]; exact h))
theorem slc_eq {la : Lm} {lo hi : Om} {ρ ρ1 ρ2 ρ3 : DEnv} {l : Mi.Loc} {i j : Option Int} {d : D} {rv : RV} (h1 : la ρ = some (l, ρ1)) (h2 : lo ρ1 = some (i, ρ2)) (h3 : hi ρ2 = some (j, ρ3)) (h4 : lRes ρ3 l = some d) (h5 : gSlc i j d = some rv) : sSlc la lo hi ρ = some (rv, ρ3) := by
  unfold sSlc; simp only [h1, h2, h3, h4, h5]
theorem law_run5 (n : Nat) (hn0 : 0 < n) (hn1 : n ≤ 12) (A : List Arc) (hA1 : 1 ≤ A.length) (hA : A.length ≤ 10) (hO : Okay n A) (ds : List D) (ρ : DEnv) (L : L0 n ds ρ) (M : L2' n A ρ) : Tru
  (xSeq (xSet 10 (sLst (aCons (lOf (sC (.int 0))) aNil)))
    (xSeq (xFor (iM (sBin gMul (lOf (sUn gLRng (lVar 2))) (lOf (sC (.int 2))))) (.nm 11) (xSet 10 (sIf (tOfB (sBin gEq (lOf (sBin gIdx (lVar 6) (lVar 11))) (lOf (sLst aNil)))) (sBin gAdd (lOf (sSlc (lVar 10) oNone (oSome (lOf (sUn gNeg (lOf (sC (.int 1)))))))) (lOf (sLst (aCons (lOf (sBin gAdd (lOf (sBin gIdx (lVar 10) (lOf (sUn gNeg (lOf (sC (.int 1))))))) (lOf (sC (.int 1))))) aNil)))) (sBin gAdd (lVar 10) (lOf (sLst (aCons (lOf (sC (.int 0))) aNil)))))))
    (xSeq (xSet 12 (sLc (iR1 (aCons (lOf (sBlt gLen (aCons (lVar 3) aNil))) aNil)) (.nm 17) (tOfB (sBin gIn (lOf (sLst (aCons (lVar 17) aNil))) (lVar 6))) (sVar 17) [17]))
    (xSeq (xIf (tNot2 (tTru (lOf (sCall (f__law_alike 6) (aCons (lOf (sLst (aCons (lOf (sCall f_longest_dark_around (aCons (lVar 5) aNil))) (aCons (lOf (sCall f_needed_lights (aCons (lVar 5) aNil))) aNil)))) (aCons (lOf (sLst (aCons (lOf (sBlt gMax (aCons (lVar 10) aNil))) (aCons (lOf (sBlt gTuple (aCons (lVar 12) aNil))) aNil)))) aNil)))))) (xRet (sC (.bool false))) xPass)
    (xSeq (xIf (tOfB (sBin gNe (lOf (sLc (iM (sVar 7)) (.tp (.cons (.nm 20) (.cons (.nm 21) .nil))) (tOfB (sBin gNe (lOf (sLc (iM (sVar 12)) (.nm 17) (tOfB (sBin gNi (lVar 17) (lVar 21))) (sVar 17) [17])) (lOf (sLst aNil)))) (sVar 21) [20, 21])) (lOf (sLst aNil)))) (xRet (sC (.bool false))) xPass)
    (xSeq (xFor (iR1 (aCons (lOf (sC (.int 12))) aNil)) (.nm 13) (xSeq (xSet 9 (sBlt gTuple (aCons (lOf (sLc (iR1 (aCons (lVar 2) aNil)) (.nm 11) (tOfB (sBin gEq (lOf (sCallIo f__law_take (aCons (lVar 1) (aCons (lOf (sC (.int 4))) aNil)))) (lOf (sC (.int 0))))) (sVar 11) [11])) aNil)))
    (xSeq (xSet 14 (sLst aNil))
    (xSeq (xFor (iM (sVar 9)) (.nm 11) (xSet 14 (sBin gAdd (lVar 14) (lOf (sBin gIdx (lVar 6) (lVar 11))))))
    (xSeq (xSet 15 (sAnd (sBin gEq (lOf (sLc (iM (sVar 9)) (.nm 11) (tOfB (sBin gEq (lOf (sBin gIdx (lVar 6) (lVar 11))) (lOf (sLst aNil)))) (sVar 11) [11])) (lOf (sLst aNil))) (sBin gEq (lOf (sUn gDcl (lOf (sLc (iM (sVar 14)) (.nm 17) tYes2 (sTup (aCons (lVar 17) (aCons (lOf (sC (.int 1))) aNil))) [17])))) (lOf (sBlt gLen (aCons (lVar 14) aNil))))))
    (xIf (tOr2 (tNot2 (tTru (lOf (sCall f__law_says (aCons (lOf (sCall f_are_marks (aCons (lVar 5) (aCons (lVar 9) aNil)))) (aCons (lVar 15) aNil)))))) (tAnd2 (tTru (lVar 15)) (tOfB (sBin gGt (lOf (sBlt gLen (aCons (lVar 9) aNil))) (lOf (sBin gIdx (lOf (sBlt gMin (aCons (lVar 7) aNil))) (lOf (sC (.int 0))))))))) (xRet (sC (.bool false))) xPass))))))
    (xSeq (xSet 16 (sLst (aCons (lOf (sC .none)) (aCons (lOf (sLst (aCons (lOf (sC (.int 0))) aNil))) (aCons (lOf (sTup (aCons (lVar 2) aNil))) (aCons (lOf (sTup (aCons (lOf (sUn gNeg (lOf (sC (.int 1))))) aNil))) (aCons (lOf (sTup (aCons (lOf (sC (.bool true))) aNil))) (aCons (lOf (sTup (aCons (lOf (sC .none)) aNil))) (aCons (lOf (sTup (aCons (lOf (sC (.int 0))) (aCons (lOf (sC (.int 0))) aNil)))) (aCons (lOf (sTup (aCons (lOf (sC (.int 1))) (aCons (lOf (sC (.int 0))) aNil)))) aNil))))))))))
    (xSeq (xIf (tOfB (sBin gNe (lOf (sLc (iM (sVar 16)) (.nm 22) (tNot2 (tTru (lOf (sCall f__law_says (aCons (lOf (sCall f_are_marks (aCons (lVar 5) (aCons (lVar 22) aNil)))) (aCons (lOf (sC (.bool false))) aNil)))))) (sVar 22) [22])) (lOf (sLst aNil)))) (xRet (sC (.bool false))) xPass)
    (xSeq (xSet 16 (sLst (aCons (lOf (sC .none)) (aCons (lOf (sBlt gList (aCons (lVar 5) aNil))) (aCons (lOf (sTup (aCons (lVar 2) aNil))) (aCons (lOf (sBin gAdd (lVar 5) (lOf (sTup (aCons (lOf (sC (.int 0))) aNil))))) (aCons (lOf (sTup (aCons (lOf (sC (.int 0))) (aCons (lOf (sTup (aCons (lOf (sTup (aCons (lOf (sC (.int 0))) (aCons (lOf (sC (.int 1))) aNil)))) aNil))) aNil)))) (aCons (lOf (sTup (aCons (lOf (sC (.int 201))) (aCons (lOf (sTup (aCons (lOf (sTup (aCons (lOf (sC (.int 0))) (aCons (lOf (sC (.int 1))) aNil)))) aNil))) aNil)))) (aCons (lOf (sTup (aCons (lVar 2) (aCons (lOf (sTup aNil)) aNil)))) (aCons (lOf (sTup (aCons (lVar 2) (aCons (lOf (sBlt gList (aCons (lVar 3) aNil))) aNil)))) (aCons (lOf (sTup (aCons (lVar 2) (aCons (lOf (sTup (aCons (lOf (sTup (aCons (lVar 2) (aCons (lOf (sC (.int 1))) aNil)))) aNil))) aNil)))) aNil)))))))))))
    (xSeq (xSet 16 (sBin gAdd (lVar 16) (lOf (sLst (aCons (lOf (sTup (aCons (lVar 2) (aCons (lOf (sTup (aCons (lOf (sTup (aCons (lOf (sC (.int 0))) (aCons (lOf (sC (.int 0))) aNil)))) aNil))) aNil)))) (aCons (lOf (sTup (aCons (lVar 2) (aCons (lOf (sTup (aCons (lOf (sTup (aCons (lOf (sC (.int 0))) (aCons (lOf (sBin gAdd (lVar 2) (lOf (sC (.int 1))))) aNil)))) aNil))) aNil)))) (aCons (lOf (sTup (aCons (lVar 2) (aCons (lOf (sTup (aCons (lOf (sTup (aCons (lOf (sC (.int 0))) aNil))) aNil))) aNil)))) (aCons (lOf (sTup (aCons (lVar 2) (aCons (lOf (sTup (aCons (lOf (sLst (aCons (lOf (sC (.int 0))) (aCons (lOf (sC (.int 1))) aNil)))) aNil))) aNil)))) (aCons (lOf (sTup (aCons (lVar 2) (aCons (lOf (sTup (aCons (lOf (sTup (aCons (lOf (sC (.bool true))) (aCons (lOf (sC (.int 1))) aNil)))) aNil))) aNil)))) (aCons (lOf (sTup (aCons (lOf (sC (.bool true))) (aCons (lOf (sTup (aCons (lOf (sTup (aCons (lOf (sC (.int 0))) (aCons (lOf (sC (.int 1))) aNil)))) aNil))) aNil)))) aNil))))))))))
    (xSeq (xSet 16 (sBin gAdd (lVar 16) (lOf (sLst (aCons (lOf (sTup (aCons (lVar 2) (aCons (lOf (sBin gMul (lOf (sTup (aCons (lOf (sTup (aCons (lOf (sC (.int 0))) (aCons (lOf (sC (.int 1))) aNil)))) aNil))) (lOf (sC (.int 11))))) aNil)))) aNil)))))
    (xRet (sBin gEq (lOf (sLc (iM (sVar 16)) (.nm 22) (tNot2 (tTru (lOf (sCall f__law_says (aCons (lOf (sCall f_is_island (aCons (lVar 22) aNil))) (aCons (lOf (sC (.bool false))) aNil)))))) (sVar 22) [22])) (lOf (sLst aNil))))))))))))))) ρ := by
  have hA' : A.length ≤ 1000000 := by omega
  have hn' : n ≤ 1000000 := by omega
  have rowAt : ∀ p, p < n → gIdx (.list ((rws n A).map lstD)) (iD p) = some (.d (lstD (rw n A p))) := fun p hp => gIdx_l (by
    unfold rws
    rw [List.map_map, List.getElem?_map, List.getElem?_range hp]
    rfl)
  let dk : Nat → Bool := fun i => dark n A (i % n)
  refine Tru.seq (xSet_eq (rv := .fl [iD 0]) (ρ1 := ρ) (sLst_eq (ds := [.int 0]) rfl rfl (by simp)) (by rw [L.len]; decide)) ?_
  have L1 := L.set (j := 10) (.own [iD 0]) (by decide) (by decide) (by decide) (by decide)
  have M1 := M.set (j := 10) (.own [iD 0]) (by decide) (by decide) (by decide) (by decide)
  have r1 : (ρ.set 10 (.own [iD 0]))[10]? = some (.own ((runsT dk 0).map iD)) := get_eq (by rw [L.len]; decide)
  show Tru _ (ρ.set 10 (.own [iD 0]))
  generalize ρ.set 10 (.own [iD 0]) = ρ0 at *
  have loop := for_invI (t := .nm 11) (body := (xSet 10 (sIf (tOfB (sBin gEq (lOf (sBin gIdx (lVar 6) (lVar 11))) (lOf (sLst aNil)))) (sBin gAdd (lOf (sSlc (lVar 10) oNone (oSome (lOf (sUn gNeg (lOf (sC (.int 1)))))))) (lOf (sLst (aCons (lOf (sBin gAdd (lOf (sBin gIdx (lVar 10) (lOf (sUn gNeg (lOf (sC (.int 1))))))) (lOf (sC (.int 1))))) aNil)))) (sBin gAdd (lVar 10) (lOf (sLst (aCons (lOf (sC (.int 0))) aNil))))))) iD (fun j ρ => L0 n ds ρ ∧ L2' n A ρ ∧ ρ[10]? = some (.own ((runsT dk j).map iD))) (l := List.range n ++ List.range n) (j := 0) (ρ := ρ0) ⟨L1, M1, r1⟩ (fun i p ρ hk hI => ?_)
  · obtain ⟨ρ1, l1, L2, M2, r2⟩ := loop
    rw [List.length_append, List.length_range, Nat.zero_add] at r2
    have es : iM (sBin gMul (lOf (sUn gLRng (lVar 2))) (lOf (sC (.int 2)))) ρ0 = some ((List.range n ++ List.range n).map iD, ρ0) := by
      have e1 : sUn gLRng (lVar 2) ρ0 = some (.fl ((List.range n).map iD), ρ0) := by
        unfold sUn
        simp only [lVar_val L1.a, lRes]
        have hb : (0 : Int) ≤ (n : Int) ∧ (n : Int) ≤ 16777216 := by omega
        have : gLRng (iD n) = some (.fl ((List.range n).map iD)) := by
          show (if (0 : Int) ≤ (n : Int) ∧ (n : Int) ≤ 16777216 then _ else _) = _
          rw [if_pos hb, Int.toNat_natCast, rangeD_nat]
        simp only [this]
      have e2 : gMul (.list ((List.range n).map iD)) (.int 2) = some (.fl ((List.range n ++ List.range n).map iD)) := by
        have : (0 : Int) ≤ 2 ∧ (2 : Int) ≤ 100000 ∧ ((List.range n).map iD).length * (2 : Int).toNat ≤ sizeLine := ⟨by decide, by decide, fits (by rw [List.length_map, List.length_range]; show n * 2 ≤ 1000000; omega)⟩
        show (if (0 : Int) ≤ 2 ∧ (2 : Int) ≤ 100000 ∧ ((List.range n).map iD).length * (2 : Int).toNat ≤ sizeLine then _ else _) = _
        rw [if_pos this, List.map_append]
        show some (RV.fl ((List.replicate 2 ((List.range n).map iD)).flatten)) = _
        simp [List.replicate]
      have e3 : sBin gMul (lOf (sUn gLRng (lVar 2))) (lOf (sC (.int 2))) ρ0 = some (.fl ((List.range n ++ List.range n).map iD), ρ0) := bin_eq (lOf_eq e1) rfl rfl rfl e2
      unfold iM
      simp only [e3, itemsD, RV.frz]
    refine Tru.seq (xFor_eq es l1) ?_
    clear l1 es r1 L1 M1
    -- needed
    have e5 : sLc (iR1 (aCons (lOf (sBlt gLen (aCons (lVar 3) aNil))) aNil)) (.nm 17) (tOfB (sBin gIn (lOf (sLst (aCons (lVar 17) aNil))) (lVar 6))) (sVar 17) [17] ρ1 = some (.fl ((need n A).map iD), ρ1) := by
      refine sLc_slot iD (l := List.range A.length) (fun k => (rws n A).contains [k]) iD (by rw [L2.len]; decide) (by rw [L2.fr 17 (by decide) (by decide)]; rfl) (iR1_nat (l := .d (iD A.length)) (aCons_eq (lOf_eq (rv := .d (iD A.length)) (blt1 (lVar_val M2.arcs) rfl (by show some (RV.d (PyData.int ((A.map arcD).length : Nat))) = _; rw [List.length_map]; rfl))) rfl) rfl hA') (fun k hk τ h1 h2 h3 => ⟨?_, fun _ => ⟨.d (iD k), sVar_val h2, rfl⟩⟩) (by rw [List.length_range]; exact hA')
      exact ofB_eq (bin_eq (lOf_eq (sLst_eq (ds := [iD k]) (aCons_eq (lVar_val h2) rfl) rfl (by simp))) (lVar_val (h3 6 _ (by decide) M2.rows)) rfl rfl (gIn_rows (rws n A) [k]))
    refine Tru.seq (xSet_eq (rv := .fl ((need n A).map iD)) e5 (by rw [L2.len]; decide)) ?_
    have L3 := L2.set (j := 12) (.own ((need n A).map iD)) (by decide) (by decide) (by decide) (by decide)
    have M3 := M2.set (j := 12) (.own ((need n A).map iD)) (by decide) (by decide) (by decide) (by decide)
    have r3 : (ρ1.set 12 (.own ((need n A).map iD)))[10]? = some (.own ((runsT dk (n + n)).map iD)) := get_ne r2 (by decide)
    have a3 : (ρ1.set 12 (.own ((need n A).map iD)))[12]? = some (.own ((need n A).map iD)) := get_eq (by rw [L2.len]; decide)
    show Tru _ (ρ1.set 12 (.own ((need n A).map iD)))
    generalize ρ1.set 12 (.own ((need n A).map iD)) = ρ2 at *
    -- longest, needed
    have hnl : (need n A).length ≤ 1000000 := by
      have := List.length_filter_le (fun k => (rws n A).contains [k]) (List.range A.length)
      rw [List.length_range] at this
      exact Nat.le_trans this hA'
    have hlong : (List.range n).foldl (fun s b => max s (run n A b)) 0 = best dk (n + n) := runs_same hn0 (lit_some hA1 hO)
    have e6 := longest_eq n hn0 (by omega) A hA
    rw [hlong] at e6
    have e7 := needed_lights_eq n hn0 hn' A hA'
    have e8 : gMax [.list ((runsT dk (n + n)).map iD)] = some (.d (iD (best dk (n + n)))) := by
      have := gMax_nat (runsT_ne dk (n + n))
      obtain ⟨_, _, h, _⟩ := runsT_is dk (n + n)
      rwa [h] at this
    have e9 : sLst (aCons (lOf (sCall f_longest_dark_around (aCons (lVar 5) aNil))) (aCons (lOf (sCall f_needed_lights (aCons (lVar 5) aNil))) aNil)) ρ2 = some (.fl [iD (best dk (n + n)), .tuple ((need n A).map iD)], ρ2) :=
      sLst_eq (aCons_eq (lOf_eq (rv := .d (iD (best dk (n + n)))) (call_eq (ls := [.d (isl n A)]) (ds := [isl n A]) (aCons_eq (lVar_val M3.isl) rfl) rfl e6)) (aCons_eq (lOf_eq (rv := .d (.tuple ((need n A).map iD))) (call_eq (ls := [.d (isl n A)]) (ds := [isl n A]) (aCons_eq (lVar_val M3.isl) rfl) rfl e7)) rfl)) rfl (by simp)
    have e10 : sLst (aCons (lOf (sBlt gMax (aCons (lVar 10) aNil))) (aCons (lOf (sBlt gTuple (aCons (lVar 12) aNil))) aNil)) ρ2 = some (.fl [iD (best dk (n + n)), .tuple ((need n A).map iD)], ρ2) :=
      sLst_eq (aCons_eq (lOf_eq (rv := .d (iD (best dk (n + n)))) (blt1 (lVar_own r3) (lRes_own r3) e8)) (aCons_eq (lOf_eq (rv := .d (.tuple ((need n A).map iD))) (blt1 (lVar_own a3) (lRes_own a3) rfl)) rfl)) rfl (by simp)
    have hfl : flat (.list [iD (best dk (n + n)), .tuple ((need n A).map iD)]) = true := by
      show (flat (iD (best dk (n + n))) && (flat (.tuple ((need n A).map iD)) && true) && decide (2 ≤ 1000000)) = true
      rw [flat_tup _ hnl]
      rfl
    have hdp : (PyData.depth (.list [iD (best dk (n + n)), .tuple ((need n A).map iD)])) ≤ 5 := by
      have h1 := depth_tup (need n A)
      show max (PyData.depth (iD (best dk (n + n)))) (max (PyData.depth (.tuple ((need n A).map iD))) 0) + 1 ≤ 5
      have : PyData.depth (iD (best dk (n + n))) ≤ 1 := by show (PyData.depth (.int _)) ≤ 1; simp [PyData.depth]
      omega
    refine Tru.skip (ρ1 := ρ2) (not_eq (b := true) (tru_eq (rv := .d (.bool true)) (call_eq (ls := [.d (.list [iD (best dk (n + n)), .tuple ((need n A).map iD)]), .d (.list [iD (best dk (n + n)), .tuple ((need n A).map iD)])]) (ds := [.list [iD (best dk (n + n)), .tuple ((need n A).map iD)], .list [iD (best dk (n + n)), .tuple ((need n A).map iD)]])
      (aCons_eq (lOf_eq e9) (aCons_eq (lOf_eq e10) rfl)) rfl (alike_self 5 _ hfl hdp)) rfl)) ?_
    exact law_run6 n hn0 hn1 A hA1 hA hO ds ρ2 L3 M3 a3
  · obtain ⟨L, M, r⟩ := hI
    rw [Nat.zero_add] at r ⊢
    have hi : i < n + n := by
      have := (List.getElem?_eq_some_iff.mp hk).1
      rwa [List.length_append, List.length_range] at this
    have hp : p = i % n := by
      by_cases q : i < n
      · rw [List.getElem?_append_left (by rw [List.length_range]; exact q), List.getElem?_range q] at hk
        rw [Nat.mod_eq_of_lt q]
        exact (Option.some.inj hk).symm
      · rw [List.getElem?_append_right (by rw [List.length_range]; omega), List.length_range, List.getElem?_range (by omega)] at hk
        rw [Nat.mod_eq_sub_mod (by omega), Nat.mod_eq_of_lt (by omega)]
        exact (Option.some.inj hk).symm
    have hpn : p < n := by rw [hp]; exact Nat.mod_lt _ hn0
    have L1 := L.place (iD p)
    have M1 := M.set (j := 11) (.val (iD p)) (by decide) (by decide) (by decide) (by decide)
    have b11 : (ρ.set 11 (.val (iD p)))[11]? = some (.val (iD p)) := get_eq (by rw [L.len]; decide)
    have r' : (ρ.set 11 (.val (iD p)))[10]? = some (.own ((runsT dk i).map iD)) := get_ne r (by decide)
    have hasg : asgT (.nm 11) (iD p) ρ = some (ρ.set 11 (.val (iD p))) := by simp [asgT, L.len]
    generalize ρ.set 11 (.val (iD p)) = τ at *
    have hln := runsT_len dk i
    have cnd : tOfB (sBin gEq (lOf (sBin gIdx (lVar 6) (lVar 11))) (lOf (sLst aNil))) τ = some (dk i, τ) := by
      refine ofB_eq (bin_eq (lOf_eq (bin_eq (lVar_val M1.rows) (lVar_val b11) rfl rfl (rowAt p hpn))) (lOf_eq (sLst_eq (ds := []) rfl rfl (by simp))) rfl rfl ?_)
      show gEq (.list ((rw n A p).map iD)) (.list []) = _
      rw [gEq_nil]
      show some (RV.d (.bool _)) = some (RV.d (.bool (dark n A (i % n))))
      rw [← hp]
      unfold dark
      cases rw n A p <;> rfl
    have hval : sIf (tOfB (sBin gEq (lOf (sBin gIdx (lVar 6) (lVar 11))) (lOf (sLst aNil)))) (sBin gAdd (lOf (sSlc (lVar 10) oNone (oSome (lOf (sUn gNeg (lOf (sC (.int 1)))))))) (lOf (sLst (aCons (lOf (sBin gAdd (lOf (sBin gIdx (lVar 10) (lOf (sUn gNeg (lOf (sC (.int 1))))))) (lOf (sC (.int 1))))) aNil)))) (sBin gAdd (lVar 10) (lOf (sLst (aCons (lOf (sC (.int 0))) aNil)))) τ = some (.fl ((runsT dk (i + 1)).map iD), τ) := by
      unfold sIf
      simp only [cnd]
      cases hd : dk i with
      | true =>
        have e : runsT dk (i + 1) = (runsT dk i).dropLast ++ [(runsT dk i).getLast?.getD 0 + 1] := by
          show stepR (dk i) (runsT dk i) = _
          unfold stepR
          rw [if_pos hd]
        rw [e]
        have g1 : sSlc (lVar 10) oNone (oSome (lOf (sUn gNeg (lOf (sC (.int 1)))))) τ = some (.fl ((runsT dk i).dropLast.map iD), τ) := by
          have := cut_last (runsT dk i)
          refine slc_eq (i := none) (j := some (-1)) (lVar_own r') rfl rfl (lRes_own r') ?_
          show some (RV.fl (cutD ((runsT dk i).map iD) none (some (-1)))) = _
          rw [this]
        have g2 : sBin gAdd (lOf (sBin gIdx (lVar 10) (lOf (sUn gNeg (lOf (sC (.int 1))))))) (lOf (sC (.int 1))) τ = some (.d (iD ((runsT dk i).getLast?.getD 0 + 1)), τ) := by
          refine bin_eq (lOf_eq (rv := .d (iD ((runsT dk i).getLast?.getD 0))) (bin_eq (lVar_own r') (m := .d (.int (-1))) rfl (lRes_own r') rfl (idx_last (runsT_ne dk i)))) rfl rfl rfl ?_
          show some (RV.d (PyData.int (((runsT dk i).getLast?.getD 0 : Nat) + 1))) = some (RV.d (PyData.int (((runsT dk i).getLast?.getD 0 + 1 : Nat) : Int)))
          congr 3
        exact bin_eq (lOf_eq g1) (lOf_eq (rv := .fl [iD ((runsT dk i).getLast?.getD 0 + 1)]) (sLst_eq (ds := [iD ((runsT dk i).getLast?.getD 0 + 1)]) (aCons_eq (lOf_eq g2) rfl) rfl (by simp))) rfl rfl (gAdd_nat (m := [(runsT dk i).getLast?.getD 0 + 1]) (by rw [List.length_dropLast]; simp; omega))
      | false =>
        have e : runsT dk (i + 1) = runsT dk i ++ [0] := by
          show stepR (dk i) (runsT dk i) = _
          unfold stepR
          rw [if_neg (by rw [hd]; exact Bool.false_ne_true)]
        rw [e]
        exact bin_eq (lVar_own r') (lOf_eq (rv := .fl [iD 0]) (sLst_eq (ds := [.int 0]) rfl rfl (by simp))) (lRes_own r') rfl (gAdd_nat (m := [0]) (by simp; omega))
    refine ⟨τ, .nx, _, hasg, xSet_eq hval (by rw [L1.len]; decide), .inl rfl, L1.set _ (by decide) (by decide) (by decide) (by decide), M1.set _ (by decide) (by decide) (by decide) (by decide), get_eq (by rw [L1.len]; decide)⟩
end Cp

set_option maxRecDepth 100000
set_option maxHeartbeats 1000000
namespace Cp
open PySem PySem.Spec Mi
theorem intsOf_nat (l : List Nat) : intsOf (l.map iD) = some (l.map fun k : Nat => (k : Int)) := by
  induction l with
  | nil => rfl
  | cons a r ih =>
    show intsOf (.int (a : Int) :: r.map iD) = _
    unfold intsOf
    rw [ih]
    rfl
theorem sum_cast (l : List Nat) : (l.map fun k : Nat => (k : Int)).sum = ((l.sum : Nat) : Int) := by
  induction l with
  | nil => rfl
  | cons a r ih =>
    rw [List.map_cons, List.sum_cons, List.sum_cons, ih]
    norm_cast
theorem gSum_nat (l : List Nat) : gSum [.list (l.map iD)] = some (.d (iD l.sum)) := by
  unfold gSum
  simp only [intsOf_nat, sum_cast]
  rfl
theorem rw_len (n : Nat) (A : List Arc) (p : Nat) : (rw n A p).length ≤ A.length := by
  have := List.length_filter_le (fun k => lit n (A.getD k (0, 0)) p) (List.range A.length)
  rwa [List.length_range] at this
theorem maxr_le (n : Nat) (A : List Arc) : maxN ((rws n A).map List.length) ≤ A.length := by
  by_cases h : (rws n A).map List.length = []
  · rw [h]; exact Nat.zero_le _
  · have := maxN_mem h
    obtain ⟨r, hr, e⟩ := List.mem_map.mp this
    unfold rws at hr
    obtain ⟨p, _, rfl⟩ := List.mem_map.mp hr
    rw [← e]
    exact rw_len n A p
theorem law_run4 (n : Nat) (hn0 : 0 < n) (hn1 : n ≤ 12) (A : List Arc) (hA1 : 1 ≤ A.length) (hA : A.length ≤ 10) (hO : Okay n A) (ds : List D) (ρ : DEnv) (L : L0 n ds ρ) (M : L1 n A (goodN n A (2 ^ A.length)) ρ) : Tru
  (xSeq (xIf (tNot2 (tTru (lOf (sCall (f__law_alike 6) (aCons (lOf (sLst (aCons (lOf (sCall f_fewest_around (aCons (lVar 5) aNil))) (aCons (lOf (sCall f_most_around (aCons (lVar 5) aNil))) aNil)))) (aCons (lOf (sLst (aCons (lOf (sBin gIdx (lOf (sBlt gMin (aCons (lVar 7) aNil))) (lOf (sC (.int 1))))) (aCons (lOf (sBlt gMax (aCons (lOf (sLc (iM (sVar 6)) (.nm 18) tYes2 (sBlt gLen (aCons (lVar 18) aNil)) [18])) aNil))) aNil)))) aNil)))))) (xRet (sC (.bool false))) xPass)
    (xSeq (xIf (tOfB (sBin gLt (lOf (sBin gMul (lOf (sCall f_most_around (aCons (lVar 5) aNil))) (lVar 2))) (lOf (sBlt gSum (aCons (lOf (sLc (iM (sVar 3)) (.nm 19) tYes2 (sBin gIdx (lVar 19) (lOf (sC (.int 1)))) [19])) aNil))))) (xRet (sC (.bool false))) xPass)
    (xSeq (xSet 10 (sLst (aCons (lOf (sC (.int 0))) aNil)))
    (xSeq (xFor (iM (sBin gMul (lOf (sUn gLRng (lVar 2))) (lOf (sC (.int 2))))) (.nm 11) (xSet 10 (sIf (tOfB (sBin gEq (lOf (sBin gIdx (lVar 6) (lVar 11))) (lOf (sLst aNil)))) (sBin gAdd (lOf (sSlc (lVar 10) oNone (oSome (lOf (sUn gNeg (lOf (sC (.int 1)))))))) (lOf (sLst (aCons (lOf (sBin gAdd (lOf (sBin gIdx (lVar 10) (lOf (sUn gNeg (lOf (sC (.int 1))))))) (lOf (sC (.int 1))))) aNil)))) (sBin gAdd (lVar 10) (lOf (sLst (aCons (lOf (sC (.int 0))) aNil)))))))
    (xSeq (xSet 12 (sLc (iR1 (aCons (lOf (sBlt gLen (aCons (lVar 3) aNil))) aNil)) (.nm 17) (tOfB (sBin gIn (lOf (sLst (aCons (lVar 17) aNil))) (lVar 6))) (sVar 17) [17]))
    (xSeq (xIf (tNot2 (tTru (lOf (sCall (f__law_alike 6) (aCons (lOf (sLst (aCons (lOf (sCall f_longest_dark_around (aCons (lVar 5) aNil))) (aCons (lOf (sCall f_needed_lights (aCons (lVar 5) aNil))) aNil)))) (aCons (lOf (sLst (aCons (lOf (sBlt gMax (aCons (lVar 10) aNil))) (aCons (lOf (sBlt gTuple (aCons (lVar 12) aNil))) aNil)))) aNil)))))) (xRet (sC (.bool false))) xPass)
    (xSeq (xIf (tOfB (sBin gNe (lOf (sLc (iM (sVar 7)) (.tp (.cons (.nm 20) (.cons (.nm 21) .nil))) (tOfB (sBin gNe (lOf (sLc (iM (sVar 12)) (.nm 17) (tOfB (sBin gNi (lVar 17) (lVar 21))) (sVar 17) [17])) (lOf (sLst aNil)))) (sVar 21) [20, 21])) (lOf (sLst aNil)))) (xRet (sC (.bool false))) xPass)
    (xSeq (xFor (iR1 (aCons (lOf (sC (.int 12))) aNil)) (.nm 13) (xSeq (xSet 9 (sBlt gTuple (aCons (lOf (sLc (iR1 (aCons (lVar 2) aNil)) (.nm 11) (tOfB (sBin gEq (lOf (sCallIo f__law_take (aCons (lVar 1) (aCons (lOf (sC (.int 4))) aNil)))) (lOf (sC (.int 0))))) (sVar 11) [11])) aNil)))
    (xSeq (xSet 14 (sLst aNil))
    (xSeq (xFor (iM (sVar 9)) (.nm 11) (xSet 14 (sBin gAdd (lVar 14) (lOf (sBin gIdx (lVar 6) (lVar 11))))))
    (xSeq (xSet 15 (sAnd (sBin gEq (lOf (sLc (iM (sVar 9)) (.nm 11) (tOfB (sBin gEq (lOf (sBin gIdx (lVar 6) (lVar 11))) (lOf (sLst aNil)))) (sVar 11) [11])) (lOf (sLst aNil))) (sBin gEq (lOf (sUn gDcl (lOf (sLc (iM (sVar 14)) (.nm 17) tYes2 (sTup (aCons (lVar 17) (aCons (lOf (sC (.int 1))) aNil))) [17])))) (lOf (sBlt gLen (aCons (lVar 14) aNil))))))
    (xIf (tOr2 (tNot2 (tTru (lOf (sCall f__law_says (aCons (lOf (sCall f_are_marks (aCons (lVar 5) (aCons (lVar 9) aNil)))) (aCons (lVar 15) aNil)))))) (tAnd2 (tTru (lVar 15)) (tOfB (sBin gGt (lOf (sBlt gLen (aCons (lVar 9) aNil))) (lOf (sBin gIdx (lOf (sBlt gMin (aCons (lVar 7) aNil))) (lOf (sC (.int 0))))))))) (xRet (sC (.bool false))) xPass))))))
    (xSeq (xSet 16 (sLst (aCons (lOf (sC .none)) (aCons (lOf (sLst (aCons (lOf (sC (.int 0))) aNil))) (aCons (lOf (sTup (aCons (lVar 2) aNil))) (aCons (lOf (sTup (aCons (lOf (sUn gNeg (lOf (sC (.int 1))))) aNil))) (aCons (lOf (sTup (aCons (lOf (sC (.bool true))) aNil))) (aCons (lOf (sTup (aCons (lOf (sC .none)) aNil))) (aCons (lOf (sTup (aCons (lOf (sC (.int 0))) (aCons (lOf (sC (.int 0))) aNil)))) (aCons (lOf (sTup (aCons (lOf (sC (.int 1))) (aCons (lOf (sC (.int 0))) aNil)))) aNil))))))))))
    (xSeq (xIf (tOfB (sBin gNe (lOf (sLc (iM (sVar 16)) (.nm 22) (tNot2 (tTru (lOf (sCall f__law_says (aCons (lOf (sCall f_are_marks (aCons (lVar 5) (aCons (lVar 22) aNil)))) (aCons (lOf (sC (.bool false))) aNil)))))) (sVar 22) [22])) (lOf (sLst aNil)))) (xRet (sC (.bool false))) xPass)
    (xSeq (xSet 16 (sLst (aCons (lOf (sC .none)) (aCons (lOf (sBlt gList (aCons (lVar 5) aNil))) (aCons (lOf (sTup (aCons (lVar 2) aNil))) (aCons (lOf (sBin gAdd (lVar 5) (lOf (sTup (aCons (lOf (sC (.int 0))) aNil))))) (aCons (lOf (sTup (aCons (lOf (sC (.int 0))) (aCons (lOf (sTup (aCons (lOf (sTup (aCons (lOf (sC (.int 0))) (aCons (lOf (sC (.int 1))) aNil)))) aNil))) aNil)))) (aCons (lOf (sTup (aCons (lOf (sC (.int 201))) (aCons (lOf (sTup (aCons (lOf (sTup (aCons (lOf (sC (.int 0))) (aCons (lOf (sC (.int 1))) aNil)))) aNil))) aNil)))) (aCons (lOf (sTup (aCons (lVar 2) (aCons (lOf (sTup aNil)) aNil)))) (aCons (lOf (sTup (aCons (lVar 2) (aCons (lOf (sBlt gList (aCons (lVar 3) aNil))) aNil)))) (aCons (lOf (sTup (aCons (lVar 2) (aCons (lOf (sTup (aCons (lOf (sTup (aCons (lVar 2) (aCons (lOf (sC (.int 1))) aNil)))) aNil))) aNil)))) aNil)))))))))))
    (xSeq (xSet 16 (sBin gAdd (lVar 16) (lOf (sLst (aCons (lOf (sTup (aCons (lVar 2) (aCons (lOf (sTup (aCons (lOf (sTup (aCons (lOf (sC (.int 0))) (aCons (lOf (sC (.int 0))) aNil)))) aNil))) aNil)))) (aCons (lOf (sTup (aCons (lVar 2) (aCons (lOf (sTup (aCons (lOf (sTup (aCons (lOf (sC (.int 0))) (aCons (lOf (sBin gAdd (lVar 2) (lOf (sC (.int 1))))) aNil)))) aNil))) aNil)))) (aCons (lOf (sTup (aCons (lVar 2) (aCons (lOf (sTup (aCons (lOf (sTup (aCons (lOf (sC (.int 0))) aNil))) aNil))) aNil)))) (aCons (lOf (sTup (aCons (lVar 2) (aCons (lOf (sTup (aCons (lOf (sLst (aCons (lOf (sC (.int 0))) (aCons (lOf (sC (.int 1))) aNil)))) aNil))) aNil)))) (aCons (lOf (sTup (aCons (lVar 2) (aCons (lOf (sTup (aCons (lOf (sTup (aCons (lOf (sC (.bool true))) (aCons (lOf (sC (.int 1))) aNil)))) aNil))) aNil)))) (aCons (lOf (sTup (aCons (lOf (sC (.bool true))) (aCons (lOf (sTup (aCons (lOf (sTup (aCons (lOf (sC (.int 0))) (aCons (lOf (sC (.int 1))) aNil)))) aNil))) aNil)))) aNil))))))))))
    (xSeq (xSet 16 (sBin gAdd (lVar 16) (lOf (sLst (aCons (lOf (sTup (aCons (lVar 2) (aCons (lOf (sBin gMul (lOf (sTup (aCons (lOf (sTup (aCons (lOf (sC (.int 0))) (aCons (lOf (sC (.int 1))) aNil)))) aNil))) (lOf (sC (.int 11))))) aNil)))) aNil)))))
    (xRet (sBin gEq (lOf (sLc (iM (sVar 16)) (.nm 22) (tNot2 (tTru (lOf (sCall f__law_says (aCons (lOf (sCall f_is_island (aCons (lVar 22) aNil))) (aCons (lOf (sC (.bool false))) aNil)))))) (sVar 22) [22])) (lOf (sLst aNil))))))))))))))))) ρ := by
  have hA' : A.length ≤ 1000000 := by omega
  have hn' : n ≤ 1000000 := by omega
  have M7 : ρ[7]? = some (.own ((good n A).map npD)) := M.good
  have hne : good n A ≠ [] := fun z => by
    have := good_full n A
    rw [z] at this
    cases this
  obtain ⟨mn, hmn, hmem, hmin⟩ := gMin_np hne
  have hml : mn.2.length ≤ 1000000 := by
    unfold good at hmem
    obtain ⟨k, _, rfl⟩ := List.mem_map.mp hmem
    have := sel_len n hn0 hn' A hA A.length k
    show (sel A.length k).length ≤ 1000000
    omega
  let mx := maxN ((rws n A).map List.length)
  have hrl : (rws n A).length = n := by unfold rws; rw [List.length_map, List.length_range]
  -- the fewest, the most
  obtain ⟨s6, r6, hr6⟩ := M.rows
  have L6 := L.set (j := 6) (.val (.list ((rws n A).map lstD))) (by decide) (by decide) (by decide) (by decide)
  have M6 := M.rowsV (by rw [L.len]; decide)
  have hw := iM_holds r6 hr6
  have c6 : (ρ.set 6 (.val (.list ((rws n A).map lstD))))[6]? = some (.val (.list ((rws n A).map lstD))) := get_eq (by rw [L.len]; decide)
  have M67 : (ρ.set 6 (.val (.list ((rws n A).map lstD))))[7]? = some (.own ((good n A).map npD)) := M6.good
  generalize ρ.set 6 (.val (.list ((rws n A).map lstD))) = ω at *
  have e1 : sLst (aCons (lOf (sCall f_fewest_around (aCons (lVar 5) aNil))) (aCons (lOf (sCall f_most_around (aCons (lVar 5) aNil))) aNil)) ρ = some (.fl [.tuple (mn.2.map iD), iD mx], ρ) :=
    sLst_eq (aCons_eq (lOf_eq (rv := .d (.tuple (mn.2.map iD))) (call_eq (ls := [.d (isl n A)]) (ds := [isl n A]) (aCons_eq (lVar_val M.isl) rfl) rfl (fewest_around_eq n hn0 hn' A hA mn hmn))) (aCons_eq (lOf_eq (rv := .d (iD mx)) (call_eq (ls := [.d (isl n A)]) (ds := [isl n A]) (aCons_eq (lVar_val M.isl) rfl) rfl (most_around_eq n hn0 hn' A hA'))) rfl)) rfl (by simp)
  have e2 : sBlt gMax (aCons (lOf (sLc (iM (sVar 6)) (.nm 18) tYes2 (sBlt gLen (aCons (lVar 18) aNil)) [18])) aNil) ρ = some (.d (iD mx), ω) := by
    refine blt1f (rw := .fl (((rws n A).map List.length).map iD)) ?_ (gMax_nat fun z => ?_)
    · have := sLc_slotM lstD (l := rws n A) (fi := iM (sVar 6)) (fe := sBlt gLen (aCons (lVar 18) aNil)) (b := 18) (ρ := ρ) (ρ1 := ω) (fun r => iD r.length) (by rw [L6.len]; decide) (by rw [L6.fr 18 (by decide) (by decide)]; rfl) hw (fun r hr τ h1 h2 h3 => ⟨.d (iD r.length), blt1 (lVar_val h2) rfl (by show some (RV.d (PyData.int ((r.map iD).length : Nat))) = _; rw [List.length_map]; rfl), rfl⟩) (by rw [hrl]; exact hn')
      rw [List.map_map]
      exact this
    · have := congrArg List.length z
      rw [List.length_map, hrl] at this
      simp at this
      omega
  have e3 : sLst (aCons (lOf (sBin gIdx (lOf (sBlt gMin (aCons (lVar 7) aNil))) (lOf (sC (.int 1))))) (aCons (lOf (sBlt gMax (aCons (lOf (sLc (iM (sVar 6)) (.nm 18) tYes2 (sBlt gLen (aCons (lVar 18) aNil)) [18])) aNil))) aNil)) ρ = some (.fl [.tuple (mn.2.map iD), iD mx], ω) :=
    sLst_eq (aCons_eq (lOf_eq (rv := .d (.tuple (mn.2.map iD))) (bin_eq (lOf_eq (rv := .d (npD mn)) (blt1 (lVar_own M7) (lRes_own M7) hmn)) rfl rfl rfl (gIdx_t (i := 1) rfl))) (aCons_eq (lOf_eq e2) rfl)) rfl (by simp)
  have hfl : flat (.list [.tuple (mn.2.map iD), iD mx]) = true := by
    show (flat (.tuple (mn.2.map iD)) && (flat (iD mx) && true) && decide (2 ≤ 1000000)) = true
    rw [flat_tup _ hml]
    rfl
  have hdp : (PyData.depth (.list [.tuple (mn.2.map iD), iD mx])) ≤ 5 := by
    have h1 := depth_tup mn.2
    show max (PyData.depth (.tuple (mn.2.map iD))) (max (PyData.depth (iD mx)) 0) + 1 ≤ 5
    have : PyData.depth (iD mx) ≤ 1 := by show (PyData.depth (.int _)) ≤ 1; simp [PyData.depth]
    omega
  refine Tru.skip (ρ1 := ω) (not_eq (b := true) (tru_eq (rv := .d (.bool true)) (call_eq (ls := [.d (.list [.tuple (mn.2.map iD), iD mx]), .d (.list [.tuple (mn.2.map iD), iD mx])]) (ds := [.list [.tuple (mn.2.map iD), iD mx], .list [.tuple (mn.2.map iD), iD mx]])
    (aCons_eq (lOf_eq e1) (aCons_eq (lOf_eq e3) rfl)) rfl (alike_self 5 _ hfl hdp)) rfl)) ?_
  clear e1 e2 e3 hw
  -- the cover
  have e4 : sBin gMul (lOf (sCall f_most_around (aCons (lVar 5) aNil))) (lVar 2) ω = some (.d (iD (mx * n)), ω) := by
    refine bin_eq (lOf_eq (rv := .d (iD mx)) (call_eq (ls := [.d (isl n A)]) (ds := [isl n A]) (aCons_eq (lVar_val M6.isl) rfl) rfl (most_around_eq n hn0 hn' A hA'))) (lVar_val L6.a) rfl rfl ?_
    have hm := maxr_le n A
    have : mulOk (mx : Int) (n : Int) = true := by
      unfold mulOk
      have h1 : -(2 ^ 64 : Int) < (n : Int) := by omega
      have h2 : (n : Int) < 2 ^ 64 := by omega
      rw [decide_eq_true h1, decide_eq_true h2]
      simp
    show gMul (.int (mx : Int)) (.int (n : Int)) = _
    rw [gMul_ok this]
    show some (RV.d (PyData.int ((mx : Int) * (n : Int)))) = some (RV.d (PyData.int ((mx * n : Nat) : Int)))
    rw [Int.natCast_mul]
  have h3 : iM (sVar 3) ω = some (A.map arcD, ω.set 3 (.val (.list (A.map arcD)))) := iM_holds M6.arcs (.inl rfl)
  have L7 := L6.set (j := 3) (.val (.list (A.map arcD))) (by decide) (by decide) (by decide) (by decide)
  have e5 : sBlt gSum (aCons (lOf (sLc (iM (sVar 3)) (.nm 19) tYes2 (sBin gIdx (lVar 19) (lOf (sC (.int 1)))) [19])) aNil) ω = some (.d (iD (A.map fun a => a.2).sum), ω.set 3 (.val (.list (A.map arcD)))) := by
    refine blt1f (rw := .fl ((A.map fun a => a.2).map iD)) ?_ ?_
    · have := sLc_slotM arcD (l := A) (fi := iM (sVar 3)) (fe := sBin gIdx (lVar 19) (lOf (sC (.int 1)))) (b := 19) (ρ := ω) (ρ1 := ω.set 3 (.val (.list (A.map arcD)))) (fun a => iD a.2) (by rw [L7.len]; decide) (by rw [L7.fr 19 (by decide) (by decide)]; rfl) h3 (fun a ha τ h1 h2 h3 => ⟨.d (iD a.2), bin_eq (lVar_val h2) rfl rfl rfl (gIdx_t (i := 1) rfl), rfl⟩) hA'
      rw [List.map_map]
      exact this
    · exact gSum_nat _
  have hcov : decide (((mx * n : Nat) : Int) < (((A.map fun a => a.2).sum : Nat) : Int)) = false := decide_eq_false (by
    have := cover_sum hO
    show ¬ (((mx * n : Nat) : Int) < _)
    have h : (A.map fun a => a.2).sum ≤ mx * n := this
    omega)
  refine Tru.skip (ρ1 := ω.set 3 (.val (.list (A.map arcD)))) (ofB_eq (bin_eq (lOf_eq e4) (lOf_eq e5) rfl rfl ((gLt_ii _ _).trans (by rw [hcov])))) ?_
  refine law_run5 n hn0 hn1 A hA1 hA hO ds _ L7 ⟨get_eq (by rw [L6.len]; decide), get_ne M6.isl (by decide), get_ne c6 (by decide), ⟨_, get_ne M67 (by decide), .inl rfl⟩⟩
end Cp

set_option maxRecDepth 100000
set_option maxHeartbeats 1000000
namespace Cp
open PySem PySem.Spec Mi
theorem law_run3 (n : Nat) (hn0 : 0 < n) (hn1 : n ≤ 12) (A : List Arc) (hA1 : 1 ≤ A.length) (hA : A.length ≤ 10) (hO : Okay n A) (ds : List D) (ρ : DEnv) (L : L0 n ds ρ) (a3 : ρ[3]? = some (.own (A.map arcD))) (a5 : ρ[5]? = some (.val (isl n A))) (a6 : ρ[6]? = some (.own ((rws n A).map lstD))) : Tru
  (xSeq (xSet 7 (sLst aNil))
    (xSeq (xFor (iR1 (aCons (lOf (sBin gShl (lOf (sC (.int 1))) (lOf (sBlt gLen (aCons (lVar 3) aNil))))) aNil)) (.nm 8) (xSeq (xSet 9 (sBlt gTuple (aCons (lOf (sLc (iR1 (aCons (lOf (sBlt gLen (aCons (lVar 3) aNil))) aNil)) (.nm 17) (tOfB (sBin gEq (lOf (sBin gAnd (lOf (sBin gShr (lVar 8) (lVar 17))) (lOf (sC (.int 1))))) (lOf (sC (.int 1))))) (sVar 17) [17])) aNil)))
    (xIf (tOfB (sBin gEq (lOf (sLc (iM (sVar 6)) (.nm 18) (tAnd2 (tOfB (sBin gNe (lVar 18) (lOf (sLst aNil)))) (tOfB (sBin gEq (lOf (sLc (iM (sVar 18)) (.nm 17) (tOfB (sBin gIn (lVar 17) (lVar 9))) (sVar 17) [17])) (lOf (sLst aNil))))) (sVar 18) [18])) (lOf (sLst aNil)))) (xApp 7 (aCons (lOf (sTup (aCons (lOf (sBlt gLen (aCons (lVar 9) aNil))) (aCons (lVar 9) aNil)))) aNil)) xPass)))
    (xSeq (xIf (tNot2 (tTru (lOf (sCall (f__law_alike 6) (aCons (lOf (sLst (aCons (lOf (sCall f_fewest_around (aCons (lVar 5) aNil))) (aCons (lOf (sCall f_most_around (aCons (lVar 5) aNil))) aNil)))) (aCons (lOf (sLst (aCons (lOf (sBin gIdx (lOf (sBlt gMin (aCons (lVar 7) aNil))) (lOf (sC (.int 1))))) (aCons (lOf (sBlt gMax (aCons (lOf (sLc (iM (sVar 6)) (.nm 18) tYes2 (sBlt gLen (aCons (lVar 18) aNil)) [18])) aNil))) aNil)))) aNil)))))) (xRet (sC (.bool false))) xPass)
    (xSeq (xIf (tOfB (sBin gLt (lOf (sBin gMul (lOf (sCall f_most_around (aCons (lVar 5) aNil))) (lVar 2))) (lOf (sBlt gSum (aCons (lOf (sLc (iM (sVar 3)) (.nm 19) tYes2 (sBin gIdx (lVar 19) (lOf (sC (.int 1)))) [19])) aNil))))) (xRet (sC (.bool false))) xPass)
    (xSeq (xSet 10 (sLst (aCons (lOf (sC (.int 0))) aNil)))
    (xSeq (xFor (iM (sBin gMul (lOf (sUn gLRng (lVar 2))) (lOf (sC (.int 2))))) (.nm 11) (xSet 10 (sIf (tOfB (sBin gEq (lOf (sBin gIdx (lVar 6) (lVar 11))) (lOf (sLst aNil)))) (sBin gAdd (lOf (sSlc (lVar 10) oNone (oSome (lOf (sUn gNeg (lOf (sC (.int 1)))))))) (lOf (sLst (aCons (lOf (sBin gAdd (lOf (sBin gIdx (lVar 10) (lOf (sUn gNeg (lOf (sC (.int 1))))))) (lOf (sC (.int 1))))) aNil)))) (sBin gAdd (lVar 10) (lOf (sLst (aCons (lOf (sC (.int 0))) aNil)))))))
    (xSeq (xSet 12 (sLc (iR1 (aCons (lOf (sBlt gLen (aCons (lVar 3) aNil))) aNil)) (.nm 17) (tOfB (sBin gIn (lOf (sLst (aCons (lVar 17) aNil))) (lVar 6))) (sVar 17) [17]))
    (xSeq (xIf (tNot2 (tTru (lOf (sCall (f__law_alike 6) (aCons (lOf (sLst (aCons (lOf (sCall f_longest_dark_around (aCons (lVar 5) aNil))) (aCons (lOf (sCall f_needed_lights (aCons (lVar 5) aNil))) aNil)))) (aCons (lOf (sLst (aCons (lOf (sBlt gMax (aCons (lVar 10) aNil))) (aCons (lOf (sBlt gTuple (aCons (lVar 12) aNil))) aNil)))) aNil)))))) (xRet (sC (.bool false))) xPass)
    (xSeq (xIf (tOfB (sBin gNe (lOf (sLc (iM (sVar 7)) (.tp (.cons (.nm 20) (.cons (.nm 21) .nil))) (tOfB (sBin gNe (lOf (sLc (iM (sVar 12)) (.nm 17) (tOfB (sBin gNi (lVar 17) (lVar 21))) (sVar 17) [17])) (lOf (sLst aNil)))) (sVar 21) [20, 21])) (lOf (sLst aNil)))) (xRet (sC (.bool false))) xPass)
    (xSeq (xFor (iR1 (aCons (lOf (sC (.int 12))) aNil)) (.nm 13) (xSeq (xSet 9 (sBlt gTuple (aCons (lOf (sLc (iR1 (aCons (lVar 2) aNil)) (.nm 11) (tOfB (sBin gEq (lOf (sCallIo f__law_take (aCons (lVar 1) (aCons (lOf (sC (.int 4))) aNil)))) (lOf (sC (.int 0))))) (sVar 11) [11])) aNil)))
    (xSeq (xSet 14 (sLst aNil))
    (xSeq (xFor (iM (sVar 9)) (.nm 11) (xSet 14 (sBin gAdd (lVar 14) (lOf (sBin gIdx (lVar 6) (lVar 11))))))
    (xSeq (xSet 15 (sAnd (sBin gEq (lOf (sLc (iM (sVar 9)) (.nm 11) (tOfB (sBin gEq (lOf (sBin gIdx (lVar 6) (lVar 11))) (lOf (sLst aNil)))) (sVar 11) [11])) (lOf (sLst aNil))) (sBin gEq (lOf (sUn gDcl (lOf (sLc (iM (sVar 14)) (.nm 17) tYes2 (sTup (aCons (lVar 17) (aCons (lOf (sC (.int 1))) aNil))) [17])))) (lOf (sBlt gLen (aCons (lVar 14) aNil))))))
    (xIf (tOr2 (tNot2 (tTru (lOf (sCall f__law_says (aCons (lOf (sCall f_are_marks (aCons (lVar 5) (aCons (lVar 9) aNil)))) (aCons (lVar 15) aNil)))))) (tAnd2 (tTru (lVar 15)) (tOfB (sBin gGt (lOf (sBlt gLen (aCons (lVar 9) aNil))) (lOf (sBin gIdx (lOf (sBlt gMin (aCons (lVar 7) aNil))) (lOf (sC (.int 0))))))))) (xRet (sC (.bool false))) xPass))))))
    (xSeq (xSet 16 (sLst (aCons (lOf (sC .none)) (aCons (lOf (sLst (aCons (lOf (sC (.int 0))) aNil))) (aCons (lOf (sTup (aCons (lVar 2) aNil))) (aCons (lOf (sTup (aCons (lOf (sUn gNeg (lOf (sC (.int 1))))) aNil))) (aCons (lOf (sTup (aCons (lOf (sC (.bool true))) aNil))) (aCons (lOf (sTup (aCons (lOf (sC .none)) aNil))) (aCons (lOf (sTup (aCons (lOf (sC (.int 0))) (aCons (lOf (sC (.int 0))) aNil)))) (aCons (lOf (sTup (aCons (lOf (sC (.int 1))) (aCons (lOf (sC (.int 0))) aNil)))) aNil))))))))))
    (xSeq (xIf (tOfB (sBin gNe (lOf (sLc (iM (sVar 16)) (.nm 22) (tNot2 (tTru (lOf (sCall f__law_says (aCons (lOf (sCall f_are_marks (aCons (lVar 5) (aCons (lVar 22) aNil)))) (aCons (lOf (sC (.bool false))) aNil)))))) (sVar 22) [22])) (lOf (sLst aNil)))) (xRet (sC (.bool false))) xPass)
    (xSeq (xSet 16 (sLst (aCons (lOf (sC .none)) (aCons (lOf (sBlt gList (aCons (lVar 5) aNil))) (aCons (lOf (sTup (aCons (lVar 2) aNil))) (aCons (lOf (sBin gAdd (lVar 5) (lOf (sTup (aCons (lOf (sC (.int 0))) aNil))))) (aCons (lOf (sTup (aCons (lOf (sC (.int 0))) (aCons (lOf (sTup (aCons (lOf (sTup (aCons (lOf (sC (.int 0))) (aCons (lOf (sC (.int 1))) aNil)))) aNil))) aNil)))) (aCons (lOf (sTup (aCons (lOf (sC (.int 201))) (aCons (lOf (sTup (aCons (lOf (sTup (aCons (lOf (sC (.int 0))) (aCons (lOf (sC (.int 1))) aNil)))) aNil))) aNil)))) (aCons (lOf (sTup (aCons (lVar 2) (aCons (lOf (sTup aNil)) aNil)))) (aCons (lOf (sTup (aCons (lVar 2) (aCons (lOf (sBlt gList (aCons (lVar 3) aNil))) aNil)))) (aCons (lOf (sTup (aCons (lVar 2) (aCons (lOf (sTup (aCons (lOf (sTup (aCons (lVar 2) (aCons (lOf (sC (.int 1))) aNil)))) aNil))) aNil)))) aNil)))))))))))
    (xSeq (xSet 16 (sBin gAdd (lVar 16) (lOf (sLst (aCons (lOf (sTup (aCons (lVar 2) (aCons (lOf (sTup (aCons (lOf (sTup (aCons (lOf (sC (.int 0))) (aCons (lOf (sC (.int 0))) aNil)))) aNil))) aNil)))) (aCons (lOf (sTup (aCons (lVar 2) (aCons (lOf (sTup (aCons (lOf (sTup (aCons (lOf (sC (.int 0))) (aCons (lOf (sBin gAdd (lVar 2) (lOf (sC (.int 1))))) aNil)))) aNil))) aNil)))) (aCons (lOf (sTup (aCons (lVar 2) (aCons (lOf (sTup (aCons (lOf (sTup (aCons (lOf (sC (.int 0))) aNil))) aNil))) aNil)))) (aCons (lOf (sTup (aCons (lVar 2) (aCons (lOf (sTup (aCons (lOf (sLst (aCons (lOf (sC (.int 0))) (aCons (lOf (sC (.int 1))) aNil)))) aNil))) aNil)))) (aCons (lOf (sTup (aCons (lVar 2) (aCons (lOf (sTup (aCons (lOf (sTup (aCons (lOf (sC (.bool true))) (aCons (lOf (sC (.int 1))) aNil)))) aNil))) aNil)))) (aCons (lOf (sTup (aCons (lOf (sC (.bool true))) (aCons (lOf (sTup (aCons (lOf (sTup (aCons (lOf (sC (.int 0))) (aCons (lOf (sC (.int 1))) aNil)))) aNil))) aNil)))) aNil))))))))))
    (xSeq (xSet 16 (sBin gAdd (lVar 16) (lOf (sLst (aCons (lOf (sTup (aCons (lVar 2) (aCons (lOf (sBin gMul (lOf (sTup (aCons (lOf (sTup (aCons (lOf (sC (.int 0))) (aCons (lOf (sC (.int 1))) aNil)))) aNil))) (lOf (sC (.int 11))))) aNil)))) aNil)))))
    (xRet (sBin gEq (lOf (sLc (iM (sVar 16)) (.nm 22) (tNot2 (tTru (lOf (sCall f__law_says (aCons (lOf (sCall f_is_island (aCons (lVar 22) aNil))) (aCons (lOf (sC (.bool false))) aNil)))))) (sVar 22) [22])) (lOf (sLst aNil))))))))))))))))))) ρ := by
  have hA' : A.length ≤ 1000000 := by omega
  have hn' : n ≤ 1000000 := by omega
  have hp : 2 ^ A.length ≤ 1000000 := two_pow_le n hn0 hn' A hA
  refine Tru.seq (xSet_eq (rv := .fl []) (sLst_eq (ds := []) rfl rfl (by simp)) (by rw [L.len]; decide)) ?_
  have M0 : L1 n A (goodN n A 0) (ρ.set 7 (.own [])) := ⟨get_ne a3 (by decide), get_ne a5 (by decide), ⟨_, get_ne a6 (by decide), .inl rfl⟩, get_eq (by rw [L.len]; decide)⟩
  have L7 := L.set (j := 7) (.own []) (by decide) (by decide) (by decide) (by decide)
  have loop := for_invI (t := .nm 8) (body := (xSeq (xSet 9 (sBlt gTuple (aCons (lOf (sLc (iR1 (aCons (lOf (sBlt gLen (aCons (lVar 3) aNil))) aNil)) (.nm 17) (tOfB (sBin gEq (lOf (sBin gAnd (lOf (sBin gShr (lVar 8) (lVar 17))) (lOf (sC (.int 1))))) (lOf (sC (.int 1))))) (sVar 17) [17])) aNil)))
    (xIf (tOfB (sBin gEq (lOf (sLc (iM (sVar 6)) (.nm 18) (tAnd2 (tOfB (sBin gNe (lVar 18) (lOf (sLst aNil)))) (tOfB (sBin gEq (lOf (sLc (iM (sVar 18)) (.nm 17) (tOfB (sBin gIn (lVar 17) (lVar 9))) (sVar 17) [17])) (lOf (sLst aNil))))) (sVar 18) [18])) (lOf (sLst aNil)))) (xApp 7 (aCons (lOf (sTup (aCons (lOf (sBlt gLen (aCons (lVar 9) aNil))) (aCons (lVar 9) aNil)))) aNil)) xPass))) iD (fun j ρ => L0 n ds ρ ∧ L1 n A (goodN n A j) ρ) (l := List.range (2 ^ A.length)) (j := 0) (ρ := ρ.set 7 (.own [])) ⟨L7, M0⟩ (fun i k ρ hk hI => ?_)
  · obtain ⟨ρ8, l1, L8, M8⟩ := loop
    rw [List.length_range, Nat.zero_add] at M8
    refine Tru.seq (xFor_eq (iR1_nat (l := .d (iD (2 ^ A.length))) (aCons_eq (lOf_eq (bin_eq (la := lOf (sC (.int 1))) (l := .d (.int 1)) (x := .int 1) rfl (lOf_eq (rv := .d (iD A.length)) (blt1 (lVar_own M0.arcs) (lRes_own M0.arcs) (by show some (RV.d (PyData.int ((A.map arcD).length : Nat))) = _; rw [List.length_map]; rfl))) rfl rfl (gShl_1 A.length hA'))) rfl) rfl hp) l1) ?_
    exact law_run4 n hn0 hn1 A hA1 hA hO ds ρ8 L8 M8
  · obtain ⟨L, M⟩ := hI
    rw [Nat.zero_add] at M ⊢
    have hi : i < 2 ^ A.length := by
      have := (List.getElem?_eq_some_iff.mp hk).1
      rwa [List.length_range] at this
    rw [List.getElem?_range hi] at hk
    cases hk
    have L1' := L.set (j := 8) (.val (iD i)) (by decide) (by decide) (by decide) (by decide)
    have M1' := M.set (j := 8) (.val (iD i)) (by decide) (by decide) (by decide) (by decide)
    have b8 : (ρ.set 8 (.val (iD i)))[8]? = some (.val (iD i)) := get_eq (by rw [L.len]; decide)
    have hasg : asgT (.nm 8) (iD i) ρ = some (ρ.set 8 (.val (iD i))) := by simp [asgT, L.len]
    generalize ρ.set 8 (.val (iD i)) = τ at *
    clear L M
    generalize hS : sel A.length i = S
    have hSl : S.length ≤ A.length := by rw [← hS]; exact sel_len n hn0 hn' A hA A.length i
    -- some
    have e1 : sBlt gTuple (aCons (lOf (sLc (iR1 (aCons (lOf (sBlt gLen (aCons (lVar 3) aNil))) aNil)) (.nm 17) (tOfB (sBin gEq (lOf (sBin gAnd (lOf (sBin gShr (lVar 8) (lVar 17))) (lOf (sC (.int 1))))) (lOf (sC (.int 1))))) (sVar 17) [17])) aNil) τ = some (.d (.tuple (S.map iD)), τ) := by
      refine blt1f (rw := .fl (S.map iD)) ?_ rfl
      rw [← hS]
      refine sLc_slot iD (l := List.range A.length) (bit i) iD (by rw [L1'.len]; decide) (by rw [L1'.fr 17 (by decide) (by decide)]; rfl) (iR1_nat (l := .d (iD A.length)) (aCons_eq (lOf_eq (rv := .d (iD A.length)) (blt1 (lVar_own M1'.arcs) (lRes_own M1'.arcs) (by show some (RV.d (PyData.int ((A.map arcD).length : Nat))) = _; rw [List.length_map]; rfl))) rfl) rfl hA') (fun j hj τ1 h1 h2 h3 => ⟨?_, fun _ => ⟨.d (iD j), sVar_val h2, rfl⟩⟩) (by rw [List.length_range]; exact hA')
      exact ofB_eq (bin_eq (lOf_eq (bin_eq (lOf_eq (bin_eq (lVar_val (h3 8 _ (by decide) b8)) (lVar_val h2) rfl rfl (gShr_nat i j))) rfl rfl rfl (gAnd_ii _ _))) rfl rfl rfl (gEq_ii _ _))
    have L2 := L1'.set (j := 9) (.val (.tuple (S.map iD))) (by decide) (by decide) (by decide) (by decide)
    have M2 := M1'.set (j := 9) (.val (.tuple (S.map iD))) (by decide) (by decide) (by decide) (by decide)
    have b9 : (τ.set 9 (.val (.tuple (S.map iD))))[9]? = some (.val (.tuple (S.map iD))) := get_eq (by rw [L1'.len]; decide)
    have s1 : xSet 9 (sBlt gTuple (aCons (lOf (sLc (iR1 (aCons (lOf (sBlt gLen (aCons (lVar 3) aNil))) aNil)) (.nm 17) (tOfB (sBin gEq (lOf (sBin gAnd (lOf (sBin gShr (lVar 8) (lVar 17))) (lOf (sC (.int 1))))) (lOf (sC (.int 1))))) (sVar 17) [17])) aNil)) τ = some (.nx, τ.set 9 (.val (.tuple (S.map iD)))) := xSet_eq (rv := .d (.tuple (S.map iD))) e1 (by rw [L1'.len]; decide)
    generalize τ.set 9 (.val (.tuple (S.map iD))) = υ at *
    -- the test
    obtain ⟨s6, r6, hr6⟩ := M2.rows
    have L3 := L2.set (j := 6) (.val (.list ((rws n A).map lstD))) (by decide) (by decide) (by decide) (by decide)
    have M3 := M2.rowsV (by rw [L2.len]; decide)
    have c9 : (υ.set 6 (.val (.list ((rws n A).map lstD))))[9]? = some (.val (.tuple (S.map iD))) := get_ne b9 (by decide)
    have hw := iM_holds r6 hr6
    generalize υ.set 6 (.val (.list ((rws n A).map lstD))) = ω at *
    have hR : (rws n A).length ≤ 1000000 := by
      unfold rws
      rw [List.length_map, List.length_range]
      exact hn'
    have e2 : sLc (iM (sVar 6)) (.nm 18) (tAnd2 (tOfB (sBin gNe (lVar 18) (lOf (sLst aNil)))) (tOfB (sBin gEq (lOf (sLc (iM (sVar 18)) (.nm 17) (tOfB (sBin gIn (lVar 17) (lVar 9))) (sVar 17) [17])) (lOf (sLst aNil))))) (sVar 18) [18] υ
        = some (.fl (((rws n A).filter fun r => !r.isEmpty && (r.filter fun k => S.contains k).isEmpty).map lstD), ω) := by
      refine sLc_slot lstD (l := rws n A) (fun r => !r.isEmpty && (r.filter fun k => S.contains k).isEmpty) lstD (by rw [L3.len]; decide) (by rw [L3.fr 18 (by decide) (by decide)]; rfl) hw (fun r hr τ1 h1 h2 h3 => ⟨?_, fun _ => ⟨.d (lstD r), sVar_val h2, rfl⟩⟩) hR
      have t1 : tOfB (sBin gNe (lVar 18) (lOf (sLst aNil))) τ1 = some (!r.isEmpty, τ1) := ofB_eq (bin_eq (lVar_val h2) (lOf_eq (sLst_eq (ds := []) rfl rfl (by simp))) rfl rfl (by
        show gNe (.list (r.map iD)) (.list []) = _
        rw [gNe_nil]
        cases r <;> rfl))
      cases hr2 : r.isEmpty with
      | true =>
        rw [hr2] at t1
        exact and_f t1
      | false =>
        rw [hr2] at t1
        refine (and_t t1).trans ?_
        have hrl : r.length ≤ 1000000 := by
          unfold rws at hr
          obtain ⟨p, _, rfl⟩ := List.mem_map.mp hr
          have := List.length_filter_le (fun k => lit n (A.getD k (0, 0)) p) (List.range A.length)
          rw [List.length_range] at this
          exact Nat.le_trans this hA'
        have e3 : sLc (iM (sVar 18)) (.nm 17) (tOfB (sBin gIn (lVar 17) (lVar 9))) (sVar 17) [17] τ1 = some (.fl ((r.filter fun k => S.contains k).map iD), τ1) := by
          refine sLc_slot iD (l := r) (fun k => S.contains k) iD (by rw [h1, L3.len]; decide) (by rw [h3 17 _ (by decide) (L3.fr 17 (by decide) (by decide))]; rfl) ?_ (fun k hk τ2 g1 g2 g3 => ⟨?_, fun _ => ⟨.d (iD k), sVar_val g2, rfl⟩⟩) hrl
          · unfold iM
            rw [sVar_val h2]
            rfl
          · exact ofB_eq (bin_eq (lVar_val g2) (lVar_val (g3 9 _ (by decide) (h3 9 _ (by decide) c9))) rfl rfl (gIn_natT S k))
        refine ofB_eq (bin_eq (lOf_eq e3) (lOf_eq (sLst_eq (ds := []) rfl rfl (by simp))) rfl rfl ?_)
        show gEq (.list ((r.filter fun k => S.contains k).map iD)) (.list []) = _
        rw [gEq_nil]
        cases (r.filter fun k => S.contains k) <;> rfl
    have e4 : tOfB (sBin gEq (lOf (sLc (iM (sVar 6)) (.nm 18) (tAnd2 (tOfB (sBin gNe (lVar 18) (lOf (sLst aNil)))) (tOfB (sBin gEq (lOf (sLc (iM (sVar 18)) (.nm 17) (tOfB (sBin gIn (lVar 17) (lVar 9))) (sVar 17) [17])) (lOf (sLst aNil))))) (sVar 18) [18])) (lOf (sLst aNil))) υ = some (hit n A S, ω) := by
      refine ofB_eq (bin_eq (lOf_eq e2) (lOf_eq (sLst_eq (ds := []) rfl rfl (by simp))) rfl rfl ?_)
      show gEq (.list (((rws n A).filter fun r => !r.isEmpty && (r.filter fun k => S.contains k).isEmpty).map lstD)) (.list []) = _
      rw [gEq_nil, ← hit_alt]
      cases ((rws n A).filter fun r => !r.isEmpty && (r.filter fun k => S.contains k).isEmpty) <;> rfl
    have hgs := goodN_succ n A i
    rw [hS] at hgs
    cases hh : hit n A S with
    | false =>
      rw [hh] at e4 hgs
      refine ⟨τ, .nx, ω, hasg, (seq_nx s1).trans ((if_f e4).trans rfl), .inl rfl, L3, ?_⟩
      rw [hgs]
      simpa using M3
    | true =>
      rw [hh] at e4 hgs
      have hgl : ((goodN n A i).map npD).length < sizeLine := by
        have := goodN_len n A i
        rw [List.length_map, sizeLine_eq]
        omega
      have e5 : xApp 7 (aCons (lOf (sTup (aCons (lOf (sBlt gLen (aCons (lVar 9) aNil))) (aCons (lVar 9) aNil)))) aNil) ω = some (.nx, ω.set 7 (.own ((goodN n A i).map npD ++ [npD (S.length, S)]))) := by
        refine xApp_eq M3.good (aCons_eq (lOf_eq (rv := .d (npD (S.length, S))) (sTup_eq (ds := [iD S.length, .tuple (S.map iD)]) (aCons_eq (lOf_eq (rv := .d (iD S.length)) (blt1 (lVar_val c9) rfl (by show some (RV.d (PyData.int ((S.map iD).length : Nat))) = _; rw [List.length_map]; rfl))) (aCons_eq (lVar_val c9) rfl)) rfl (by simp))) rfl) rfl M3.good hgl
      refine ⟨τ, .nx, _, hasg, (seq_nx s1).trans ((if_t e4).trans e5), .inl rfl, L3.set _ (by decide) (by decide) (by decide) (by decide), ?_⟩
      refine ⟨get_ne M3.arcs (by decide), get_ne M3.isl (by decide), ?_, ?_⟩
      · obtain ⟨s, x, y⟩ := M3.rows
        exact ⟨s, get_ne x (by decide), y⟩
      · rw [get_eq (by rw [L3.len]; decide), hgs, List.map_append]
        rfl
end Cp

set_option maxRecDepth 100000
set_option maxHeartbeats 1000000
namespace Cp
open PySem PySem.Spec Mi
theorem law_run2 (n : Nat) (hn0 : 0 < n) (hn1 : n ≤ 12) (A : List Arc) (hA1 : 1 ≤ A.length) (hA : A.length ≤ 10) (hO : Okay n A) (ds : List D) (ρ : DEnv) (L : L0 n ds ρ) (a3 : ρ[3]? = some (.own (A.map arcD))) : Tru
  (xSeq (xSet 5 (sTup (aCons (lVar 2) (aCons (lOf (sBlt gTuple (aCons (lVar 3) aNil))) aNil))))
    (xSeq (xIf (tNot2 (tTru (lOf (sCall f__law_says (aCons (lOf (sCall f_is_island (aCons (lVar 5) aNil))) (aCons (lOf (sC (.bool true))) aNil)))))) (xRet (sC (.bool false))) xPass)
    (xSeq (xSet 6 (sLc (iR1 (aCons (lVar 2) aNil)) (.nm 11) tYes2 (sCall f__law_seen (aCons (lVar 5) (aCons (lVar 11) aNil))) [11]))
    (xSeq (xIf (tNot2 (tTru (lOf (sCall (f__law_alike 6) (aCons (lOf (sCall f_dark_places (aCons (lVar 5) aNil))) (aCons (lOf (sBlt gTuple (aCons (lOf (sLc (iR1 (aCons (lVar 2) aNil)) (.nm 11) (tOfB (sBin gEq (lOf (sBin gIdx (lVar 6) (lVar 11))) (lOf (sLst aNil)))) (sVar 11) [11])) aNil))) aNil)))))) (xRet (sC (.bool false))) xPass)
    (xSeq (xSet 7 (sLst aNil))
    (xSeq (xFor (iR1 (aCons (lOf (sBin gShl (lOf (sC (.int 1))) (lOf (sBlt gLen (aCons (lVar 3) aNil))))) aNil)) (.nm 8) (xSeq (xSet 9 (sBlt gTuple (aCons (lOf (sLc (iR1 (aCons (lOf (sBlt gLen (aCons (lVar 3) aNil))) aNil)) (.nm 17) (tOfB (sBin gEq (lOf (sBin gAnd (lOf (sBin gShr (lVar 8) (lVar 17))) (lOf (sC (.int 1))))) (lOf (sC (.int 1))))) (sVar 17) [17])) aNil)))
    (xIf (tOfB (sBin gEq (lOf (sLc (iM (sVar 6)) (.nm 18) (tAnd2 (tOfB (sBin gNe (lVar 18) (lOf (sLst aNil)))) (tOfB (sBin gEq (lOf (sLc (iM (sVar 18)) (.nm 17) (tOfB (sBin gIn (lVar 17) (lVar 9))) (sVar 17) [17])) (lOf (sLst aNil))))) (sVar 18) [18])) (lOf (sLst aNil)))) (xApp 7 (aCons (lOf (sTup (aCons (lOf (sBlt gLen (aCons (lVar 9) aNil))) (aCons (lVar 9) aNil)))) aNil)) xPass)))
    (xSeq (xIf (tNot2 (tTru (lOf (sCall (f__law_alike 6) (aCons (lOf (sLst (aCons (lOf (sCall f_fewest_around (aCons (lVar 5) aNil))) (aCons (lOf (sCall f_most_around (aCons (lVar 5) aNil))) aNil)))) (aCons (lOf (sLst (aCons (lOf (sBin gIdx (lOf (sBlt gMin (aCons (lVar 7) aNil))) (lOf (sC (.int 1))))) (aCons (lOf (sBlt gMax (aCons (lOf (sLc (iM (sVar 6)) (.nm 18) tYes2 (sBlt gLen (aCons (lVar 18) aNil)) [18])) aNil))) aNil)))) aNil)))))) (xRet (sC (.bool false))) xPass)
    (xSeq (xIf (tOfB (sBin gLt (lOf (sBin gMul (lOf (sCall f_most_around (aCons (lVar 5) aNil))) (lVar 2))) (lOf (sBlt gSum (aCons (lOf (sLc (iM (sVar 3)) (.nm 19) tYes2 (sBin gIdx (lVar 19) (lOf (sC (.int 1)))) [19])) aNil))))) (xRet (sC (.bool false))) xPass)
    (xSeq (xSet 10 (sLst (aCons (lOf (sC (.int 0))) aNil)))
    (xSeq (xFor (iM (sBin gMul (lOf (sUn gLRng (lVar 2))) (lOf (sC (.int 2))))) (.nm 11) (xSet 10 (sIf (tOfB (sBin gEq (lOf (sBin gIdx (lVar 6) (lVar 11))) (lOf (sLst aNil)))) (sBin gAdd (lOf (sSlc (lVar 10) oNone (oSome (lOf (sUn gNeg (lOf (sC (.int 1)))))))) (lOf (sLst (aCons (lOf (sBin gAdd (lOf (sBin gIdx (lVar 10) (lOf (sUn gNeg (lOf (sC (.int 1))))))) (lOf (sC (.int 1))))) aNil)))) (sBin gAdd (lVar 10) (lOf (sLst (aCons (lOf (sC (.int 0))) aNil)))))))
    (xSeq (xSet 12 (sLc (iR1 (aCons (lOf (sBlt gLen (aCons (lVar 3) aNil))) aNil)) (.nm 17) (tOfB (sBin gIn (lOf (sLst (aCons (lVar 17) aNil))) (lVar 6))) (sVar 17) [17]))
    (xSeq (xIf (tNot2 (tTru (lOf (sCall (f__law_alike 6) (aCons (lOf (sLst (aCons (lOf (sCall f_longest_dark_around (aCons (lVar 5) aNil))) (aCons (lOf (sCall f_needed_lights (aCons (lVar 5) aNil))) aNil)))) (aCons (lOf (sLst (aCons (lOf (sBlt gMax (aCons (lVar 10) aNil))) (aCons (lOf (sBlt gTuple (aCons (lVar 12) aNil))) aNil)))) aNil)))))) (xRet (sC (.bool false))) xPass)
    (xSeq (xIf (tOfB (sBin gNe (lOf (sLc (iM (sVar 7)) (.tp (.cons (.nm 20) (.cons (.nm 21) .nil))) (tOfB (sBin gNe (lOf (sLc (iM (sVar 12)) (.nm 17) (tOfB (sBin gNi (lVar 17) (lVar 21))) (sVar 17) [17])) (lOf (sLst aNil)))) (sVar 21) [20, 21])) (lOf (sLst aNil)))) (xRet (sC (.bool false))) xPass)
    (xSeq (xFor (iR1 (aCons (lOf (sC (.int 12))) aNil)) (.nm 13) (xSeq (xSet 9 (sBlt gTuple (aCons (lOf (sLc (iR1 (aCons (lVar 2) aNil)) (.nm 11) (tOfB (sBin gEq (lOf (sCallIo f__law_take (aCons (lVar 1) (aCons (lOf (sC (.int 4))) aNil)))) (lOf (sC (.int 0))))) (sVar 11) [11])) aNil)))
    (xSeq (xSet 14 (sLst aNil))
    (xSeq (xFor (iM (sVar 9)) (.nm 11) (xSet 14 (sBin gAdd (lVar 14) (lOf (sBin gIdx (lVar 6) (lVar 11))))))
    (xSeq (xSet 15 (sAnd (sBin gEq (lOf (sLc (iM (sVar 9)) (.nm 11) (tOfB (sBin gEq (lOf (sBin gIdx (lVar 6) (lVar 11))) (lOf (sLst aNil)))) (sVar 11) [11])) (lOf (sLst aNil))) (sBin gEq (lOf (sUn gDcl (lOf (sLc (iM (sVar 14)) (.nm 17) tYes2 (sTup (aCons (lVar 17) (aCons (lOf (sC (.int 1))) aNil))) [17])))) (lOf (sBlt gLen (aCons (lVar 14) aNil))))))
    (xIf (tOr2 (tNot2 (tTru (lOf (sCall f__law_says (aCons (lOf (sCall f_are_marks (aCons (lVar 5) (aCons (lVar 9) aNil)))) (aCons (lVar 15) aNil)))))) (tAnd2 (tTru (lVar 15)) (tOfB (sBin gGt (lOf (sBlt gLen (aCons (lVar 9) aNil))) (lOf (sBin gIdx (lOf (sBlt gMin (aCons (lVar 7) aNil))) (lOf (sC (.int 0))))))))) (xRet (sC (.bool false))) xPass))))))
    (xSeq (xSet 16 (sLst (aCons (lOf (sC .none)) (aCons (lOf (sLst (aCons (lOf (sC (.int 0))) aNil))) (aCons (lOf (sTup (aCons (lVar 2) aNil))) (aCons (lOf (sTup (aCons (lOf (sUn gNeg (lOf (sC (.int 1))))) aNil))) (aCons (lOf (sTup (aCons (lOf (sC (.bool true))) aNil))) (aCons (lOf (sTup (aCons (lOf (sC .none)) aNil))) (aCons (lOf (sTup (aCons (lOf (sC (.int 0))) (aCons (lOf (sC (.int 0))) aNil)))) (aCons (lOf (sTup (aCons (lOf (sC (.int 1))) (aCons (lOf (sC (.int 0))) aNil)))) aNil))))))))))
    (xSeq (xIf (tOfB (sBin gNe (lOf (sLc (iM (sVar 16)) (.nm 22) (tNot2 (tTru (lOf (sCall f__law_says (aCons (lOf (sCall f_are_marks (aCons (lVar 5) (aCons (lVar 22) aNil)))) (aCons (lOf (sC (.bool false))) aNil)))))) (sVar 22) [22])) (lOf (sLst aNil)))) (xRet (sC (.bool false))) xPass)
    (xSeq (xSet 16 (sLst (aCons (lOf (sC .none)) (aCons (lOf (sBlt gList (aCons (lVar 5) aNil))) (aCons (lOf (sTup (aCons (lVar 2) aNil))) (aCons (lOf (sBin gAdd (lVar 5) (lOf (sTup (aCons (lOf (sC (.int 0))) aNil))))) (aCons (lOf (sTup (aCons (lOf (sC (.int 0))) (aCons (lOf (sTup (aCons (lOf (sTup (aCons (lOf (sC (.int 0))) (aCons (lOf (sC (.int 1))) aNil)))) aNil))) aNil)))) (aCons (lOf (sTup (aCons (lOf (sC (.int 201))) (aCons (lOf (sTup (aCons (lOf (sTup (aCons (lOf (sC (.int 0))) (aCons (lOf (sC (.int 1))) aNil)))) aNil))) aNil)))) (aCons (lOf (sTup (aCons (lVar 2) (aCons (lOf (sTup aNil)) aNil)))) (aCons (lOf (sTup (aCons (lVar 2) (aCons (lOf (sBlt gList (aCons (lVar 3) aNil))) aNil)))) (aCons (lOf (sTup (aCons (lVar 2) (aCons (lOf (sTup (aCons (lOf (sTup (aCons (lVar 2) (aCons (lOf (sC (.int 1))) aNil)))) aNil))) aNil)))) aNil)))))))))))
    (xSeq (xSet 16 (sBin gAdd (lVar 16) (lOf (sLst (aCons (lOf (sTup (aCons (lVar 2) (aCons (lOf (sTup (aCons (lOf (sTup (aCons (lOf (sC (.int 0))) (aCons (lOf (sC (.int 0))) aNil)))) aNil))) aNil)))) (aCons (lOf (sTup (aCons (lVar 2) (aCons (lOf (sTup (aCons (lOf (sTup (aCons (lOf (sC (.int 0))) (aCons (lOf (sBin gAdd (lVar 2) (lOf (sC (.int 1))))) aNil)))) aNil))) aNil)))) (aCons (lOf (sTup (aCons (lVar 2) (aCons (lOf (sTup (aCons (lOf (sTup (aCons (lOf (sC (.int 0))) aNil))) aNil))) aNil)))) (aCons (lOf (sTup (aCons (lVar 2) (aCons (lOf (sTup (aCons (lOf (sLst (aCons (lOf (sC (.int 0))) (aCons (lOf (sC (.int 1))) aNil)))) aNil))) aNil)))) (aCons (lOf (sTup (aCons (lVar 2) (aCons (lOf (sTup (aCons (lOf (sTup (aCons (lOf (sC (.bool true))) (aCons (lOf (sC (.int 1))) aNil)))) aNil))) aNil)))) (aCons (lOf (sTup (aCons (lOf (sC (.bool true))) (aCons (lOf (sTup (aCons (lOf (sTup (aCons (lOf (sC (.int 0))) (aCons (lOf (sC (.int 1))) aNil)))) aNil))) aNil)))) aNil))))))))))
    (xSeq (xSet 16 (sBin gAdd (lVar 16) (lOf (sLst (aCons (lOf (sTup (aCons (lVar 2) (aCons (lOf (sBin gMul (lOf (sTup (aCons (lOf (sTup (aCons (lOf (sC (.int 0))) (aCons (lOf (sC (.int 1))) aNil)))) aNil))) (lOf (sC (.int 11))))) aNil)))) aNil)))))
    (xRet (sBin gEq (lOf (sLc (iM (sVar 16)) (.nm 22) (tNot2 (tTru (lOf (sCall f__law_says (aCons (lOf (sCall f_is_island (aCons (lVar 22) aNil))) (aCons (lOf (sC (.bool false))) aNil)))))) (sVar 22) [22])) (lOf (sLst aNil))))))))))))))))))))))) ρ := by
  have hA' : A.length ≤ 1000000 := by omega
  have hn' : n ≤ 1000000 := by omega
  -- island
  refine Tru.seq (xSet_eq (rv := .d (isl n A)) (sTup_eq (ds := [iD n, .tuple (A.map arcD)]) (aCons_eq (lVar_val L.a) (aCons_eq (lOf_eq (blt1 (lVar_own a3) (lRes_own a3) rfl)) rfl)) rfl (by simp)) (by rw [L.len]; decide)) ?_
  have L5 := L.set (j := 5) (.val (isl n A)) (by decide) (by decide) (by decide) (by decide)
  have a35 : (ρ.set 5 (.val (isl n A)))[3]? = some (.own (A.map arcD)) := get_ne a3 (by decide)
  have a55 : (ρ.set 5 (.val (isl n A)))[5]? = some (.val (isl n A)) := get_eq (by rw [L.len]; decide)
  show Tru _ (ρ.set 5 (.val (isl n A)))
  generalize ρ.set 5 (.val (isl n A)) = ρ5 at *
  clear L a3 ρ
  -- is_island
  refine Tru.skip (ρ1 := ρ5) (not_eq (b := true) (tru_eq (rv := .d (.bool true)) (call_eq (ls := [.d (.bool true), .d (.bool true)]) (ds := [.bool true, .bool true]) (aCons_eq (lOf_eq (rv := .d (.bool true)) (call_eq (ls := [.d (isl n A)]) (ds := [isl n A]) (aCons_eq (lVar_val a55) rfl) rfl ?_)) rfl) rfl (says_eq true true)) rfl)) ?_
  · have := is_island_eq (isl n A)
    rw [isIsl_ok hn0 hn1 hA1 hA hO] at this
    exact this
  -- rows
  have er : (List.range n).map (fun p => lstD (rw n A p)) = (rws n A).map lstD := by
    unfold rws
    rw [List.map_map]
    rfl
  refine Tru.seq (xSet_eq (rv := .fl ((rws n A).map lstD)) (ρ1 := ρ5) (er ▸ sLc_slotM iD (l := List.range n) (fun p => lstD (rw n A p)) (by rw [L5.len]; decide) L5.p (iR1_nat (l := .d (iD n)) (aCons_eq (lVar_val L5.a) rfl) rfl hn') (fun p hp τ h1 h2 h3 => ⟨.d (lstD (rw n A p)), call_eq (ls := [.d (isl n A), .d (iD p)]) (ds := [isl n A, iD p]) (aCons_eq (lVar_val (h3 5 _ (by decide) a55)) (aCons_eq (lVar_val h2) rfl)) rfl (seen_eq n hn0 (by omega) A hA hO p (List.mem_range.mp hp)), rfl⟩) (by rw [List.length_range]; exact hn')) (by rw [L5.len]; decide)) ?_
  have L6 := L5.set (j := 6) (.own ((rws n A).map lstD)) (by decide) (by decide) (by decide) (by decide)
  have a36 : (ρ5.set 6 (.own ((rws n A).map lstD)))[3]? = some (.own (A.map arcD)) := get_ne a35 (by decide)
  have a56 : (ρ5.set 6 (.own ((rws n A).map lstD)))[5]? = some (.val (isl n A)) := get_ne a55 (by decide)
  have a66 : (ρ5.set 6 (.own ((rws n A).map lstD)))[6]? = some (.own ((rws n A).map lstD)) := get_eq (by rw [L5.len]; decide)
  show Tru _ (ρ5.set 6 (.own ((rws n A).map lstD)))
  generalize ρ5.set 6 (.own ((rws n A).map lstD)) = ρ6 at *
  clear L5 a35 a55 ρ5
  have rowAt : ∀ p, p < n → gIdx (.list ((rws n A).map lstD)) (iD p) = some (.d (lstD (rw n A p))) := fun p hp => gIdx_l (by
    unfold rws
    rw [List.map_map, List.getElem?_map, List.getElem?_range hp]
    rfl)
  -- dark places
  have e8 : sLc (iR1 (aCons (lVar 2) aNil)) (.nm 11) (tOfB (sBin gEq (lOf (sBin gIdx (lVar 6) (lVar 11))) (lOf (sLst aNil)))) (sVar 11) [11] ρ6 = some (.fl (((List.range n).filter (dark n A)).map iD), ρ6) :=
    sLc_slot iD (l := List.range n) (dark n A) iD (by rw [L6.len]; decide) L6.p (iR1_nat (l := .d (iD n)) (aCons_eq (lVar_val L6.a) rfl) rfl hn') (fun p hp τ h1 h2 h3 => ⟨ofB_eq (bin_eq (lOf_eq (bin_eq (lVar_own (h3 6 _ (by decide) a66)) (lVar_val h2) (lRes_own (h3 6 _ (by decide) a66)) rfl (rowAt p (List.mem_range.mp hp)))) (lOf_eq (sLst_eq (ds := []) rfl rfl (by simp))) rfl rfl (by
        show gEq (.list ((rw n A p).map iD)) (.list []) = _
        rw [gEq_nil]
        unfold dark
        cases rw n A p <;> rfl)), fun _ => ⟨.d (iD p), sVar_val h2, rfl⟩⟩) (by rw [List.length_range]; exact hn')
  have hfl : ((List.range n).filter (dark n A)).length ≤ 1000000 := by
    have := List.length_filter_le (dark n A) (List.range n)
    rw [List.length_range] at this
    omega
  refine Tru.skip (ρ1 := ρ6) (not_eq (b := true) (tru_eq (rv := .d (.bool true)) (call_eq (ls := [.d (.tuple (((List.range n).filter (dark n A)).map iD)), .d (.tuple (((List.range n).filter (dark n A)).map iD))]) (ds := [.tuple (((List.range n).filter (dark n A)).map iD), .tuple (((List.range n).filter (dark n A)).map iD)])
    (aCons_eq (lOf_eq (rv := .d (.tuple (((List.range n).filter (dark n A)).map iD))) (call_eq (ls := [.d (isl n A)]) (ds := [isl n A]) (aCons_eq (lVar_val a56) rfl) rfl (dark_places_eq n hn0 hn' A hA'))) (aCons_eq (lOf_eq (rv := .d (.tuple (((List.range n).filter (dark n A)).map iD))) (blt1f e8 rfl)) rfl)) rfl
    (alike_self 5 _ (flat_tup _ hfl) (Nat.le_trans (depth_tup _) (by omega)))) rfl)) ?_
  clear e8
  exact law_run3 n hn0 hn1 A hA1 hA hO ds ρ6 L6 a36 a56 a66
theorem law_run (ns : List Int) (hn : ns.length ≤ 63) : Tru b_law ([.val (.list (ns.map .int))] ++ List.replicate (23 - 1) .no) := by
  unfold b_law
  obtain ⟨ds, hd, hi⟩ := draws_eq ns hn
  let ρ0 : DEnv := .val (.list (ns.map .int)) :: List.replicate 22 .no
  show Tru _ ρ0
  -- draws
  refine Tru.seq (ρ1 := ρ0.set 1 (.own ds)) (xSet_eq (rv := .fl ds) (ρ1 := ρ0) (call_eq (ls := [.d (.list (ns.map .int))]) (ds := [.list (ns.map .int)]) rfl rfl hd) (by simp [ρ0])) ?_
  -- around
  obtain ⟨r, ds1, e1, hr, hi1⟩ := take_call (ρ := ρ0.set 1 (.own ds)) (la := lOf (sC (.int 12))) (b := 12) hi (by omega) rfl rfl
  let n := 1 + r
  have hn0 : 0 < n := by omega
  have hn1 : n ≤ 12 := by omega
  refine Tru.seq (xSet_eq (rv := .d (iD n)) (onePlus e1) (by simp [ρ0])) ?_
  -- arcs
  refine Tru.seq (ρ1 := (((ρ0.set 1 (.own ds)).set 1 (.own ds1)).set 2 (.val (iD n))).set 3 (.own [])) (by simp [xPass, xBrk, xCnt, xRet, xRetN, xExpr, putRV, xSet, xAsg, asgT, asgTs, xSeq, xIf, xApp, sPop, xSub, xAug, xPar, xPar3, sVar, lVar, sC, lOf, lRes, lRess, locDs, frzA, frzLocs, sBin, sUn, sBlt, aCons, aNil, sTup, sLst, sIf, sAnd, sOr, sNot, sChn, sSlc, oNone, oSome, tOfB, tTru, truth, tAnd2, tOr2, tNot2, tYes2, sCall, sCallIo, iM, itemsD, RV.frz, outOf, List.getElem?_cons_zero, List.getElem?_cons_succ, List.set_cons_zero, List.set_cons_succ, List.length_cons, List.length_nil, gIsi, isTy, gLen, gInt, gAbs, gTuple, gList, Mi.gSub, gNeg, gIs, gIsN, Option.map_some, Option.map_none, ρ0]) ?_
  generalize hρ : (((ρ0.set 1 (.own ds)).set 1 (.own ds1)).set 2 (.val (iD n))).set 3 (.own []) = ρ3
  have L3 : L0 n ds1 ρ3 := by
    subst hρ
    refine ⟨by simp [ρ0], rfl, hi1, rfl, fun j a b => ?_, rfl⟩
    have : j = 17 ∨ j = 18 ∨ j = 19 ∨ j = 20 ∨ j = 21 ∨ j = 22 := by omega
    rcases this with rfl | rfl | rfl | rfl | rfl | rfl <;> rfl
  have a3 : ρ3[3]? = some (.own []) := by subst hρ; rfl
  clear hρ hd e1
  obtain ⟨q, ds2, e2, hq, hi2⟩ := take_call (ρ := ρ3) (la := lOf (sC (.int 5))) (b := 5) L3.num (by omega) L3.d rfl
  have L3' := L3.draw hi2
  have a3' : (ρ3.set 1 (.own ds2))[3]? = some (.own []) := get_ne a3 (by decide)
  have loop := for_invN (t := .nm 4) (body := (xApp 3 (aCons (lOf (sTup (aCons (lOf (sCallIo f__law_take (aCons (lVar 1) (aCons (lVar 2) aNil)))) (aCons (lOf (sBin gAdd (lOf (sC (.int 1))) (lOf (sCallIo f__law_take (aCons (lVar 1) (aCons (lVar 2) aNil)))))) aNil)))) aNil)))
    (fun j ρ => ∃ ds A, L0 n ds ρ ∧ ρ[3]? = some (.own (A.map arcD)) ∧ Okay n A ∧ A.length = j) (ds := (List.range (1 + q)).map iD) (j := 0) (ρ := ρ3.set 1 (.own ds2)) ⟨ds2, [], L3', a3', (fun a ha => by cases ha), rfl⟩ (fun d _ j ρ hI hj => ?_)
  · obtain ⟨ρ4, l1, ds4, A, L4, a4, hO, hlen⟩ := loop
    rw [List.length_map, List.length_range, Nat.zero_add] at hlen
    refine Tru.seq (xFor_eq (iR1_nat (l := .d (iD (1 + q))) (by
      exact aCons_eq (lOf_eq (onePlus e2)) rfl) rfl (by omega)) l1) ?_
    have hA : A.length ≤ 10 := by omega
    have hA1 : 1 ≤ A.length := by omega
    clear l1 e2
    exact law_run2 n hn0 hn1 A hA1 hA hO ds4 ρ4 L4 a4
  · obtain ⟨ds', A, L, a, hO, hlen⟩ := hI
    have L' : L0 n ds' (ρ.set 4 (.val d)) := L.set _ (by decide) (by decide) (by decide) (by decide)
    have a' : (ρ.set 4 (.val d))[3]? = some (.own (A.map arcD)) := get_ne a (by decide)
    obtain ⟨b, ds5, e5, hb, hi5⟩ := take_call (la := lVar 2) (b := n) L'.num hn0 L'.d (by unfold lVar; simp only [L'.a])
    have L5 := L'.draw hi5
    obtain ⟨m, ds6, e6, hm, hi6⟩ := take_call (la := lVar 2) (b := n) L5.num hn0 L5.d (by unfold lVar; simp only [L5.a])
    have L6 := L5.draw hi6
    have a6 : (((ρ.set 4 (.val d)).set 1 (.own ds5)).set 1 (.own ds6))[3]? = some (.own (A.map arcD)) := get_ne (get_ne a' (by decide)) (by decide)
    have hzA : (A.map arcD).length < sizeLine := by
      rw [List.length_map, sizeLine_eq]
      rw [List.length_map, List.length_range] at hj
      omega
    have e7 : sTup (aCons (lOf (sCallIo f__law_take (aCons (lVar 1) (aCons (lVar 2) aNil)))) (aCons (lOf (sBin gAdd (lOf (sC (.int 1))) (lOf (sCallIo f__law_take (aCons (lVar 1) (aCons (lVar 2) aNil)))))) aNil)) (ρ.set 4 (.val d))
        = some (.d (arcD (b, 1 + m)), ((ρ.set 4 (.val d)).set 1 (.own ds5)).set 1 (.own ds6)) := by
      exact sTup_eq (aCons_eq (lOf_eq e5) (aCons_eq (lOf_eq (onePlus e6)) rfl)) rfl (by simp)
    refine ⟨ρ.set 4 (.val d), .nx, (((ρ.set 4 (.val d)).set 1 (.own ds5)).set 1 (.own ds6)).set 3 (.own (A.map arcD ++ [arcD (b, 1 + m)])), ?_, ?_, .inl rfl, ds6, A ++ [(b, 1 + m)], L6.set _ (by decide) (by decide) (by decide) (by decide), ?_, ?_, by rw [List.length_append, hlen]; rfl⟩
    · simp [asgT, L.len]
    · exact xApp_eq a' (aCons_eq (lOf_eq e7) rfl) rfl a6 hzA
    · rw [get_eq (by rw [L6.len]; decide), List.map_append]
      rfl
    · intro x hx
      rcases List.mem_append.mp hx with hx | hx
      · exact hO x hx
      · rw [List.mem_singleton.mp hx]
        exact ⟨hb, by show 1 ≤ 1 + m; omega, by show 1 + m ≤ n; omega⟩
end Cp

namespace Cp
open PySem PySem.Spec PyProof.Rows L2 Gx RZ Mi
theorem law_true (ns : List Int) (h1 : ns.length ≤ 63) (h2 : ∀ z ∈ ns, Builtin.Int.intBits z ≤ 1048576) : f_law [Slot.val (.list (ns.map .int))] = some (.d (.bool true), none) := law_of (n := 23) (law_run ns h1)
theorem bmb_of {base : Heap} {mg : Str → Option Value} {c P : Addr} (h : LamX.TabB base mg c P) : BMb mg base := by
  obtain ⟨bm, o, h1, h2, _, _, h5, h6, h7, h8⟩ := h.bm
  exact ⟨bm, o, h1, h2, h5, h6, h7, h8⟩
theorem all_mk {l : PySem.W.OpenLaw} {w : World} {K : PySem.W.Frag} {h : Heap} {mg : Str → Option Value} {names : List Str} (X : K.In h) (G : h.Ns mainGlobals mg) (T : TabsAt names K mg h)
    {t_LEAST_ROUND : Tok}
    {t_MOST_ROUND : Tok}
    {t_MOST_ARCS : Tok}
    {a_is_number : Addr} {od_is_number an_is_number : Option Addr} {sl_is_number : Array (Option Value)} {oc_is_number kV_is_number doc_is_number pm_is_number ct_is_number : Value} {cdv_is_number : Value}
    {a_is_arc : Addr} {od_is_arc an_is_arc : Option Addr} {sl_is_arc : Array (Option Value)} {oc_is_arc kV_is_arc doc_is_arc pm_is_arc ct_is_arc : Value} {cdv_is_arc : Value}
    {a_is_island : Addr} {od_is_island an_is_island : Option Addr} {sl_is_island : Array (Option Value)} {oc_is_island kV_is_island doc_is_island pm_is_island ct_is_island : Value} {c_is_island P_is_island : Addr} {e_is_island : Value} {dd_is_island : Option Addr} {vs_is_island : Array Value} {s2_is_island : Array (Option Value)}
    {a_lights_at : Addr} {od_lights_at an_lights_at : Option Addr} {sl_lights_at : Array (Option Value)} {oc_lights_at kV_lights_at doc_lights_at pm_lights_at ct_lights_at : Value} {cdv_lights_at : Value}
    {a_dark_places : Addr} {od_dark_places an_dark_places : Option Addr} {sl_dark_places : Array (Option Value)} {oc_dark_places kV_dark_places doc_dark_places pm_dark_places ct_dark_places : Value} {cdv_dark_places : Value}
    {a_fewest_around : Addr} {od_fewest_around an_fewest_around : Option Addr} {sl_fewest_around : Array (Option Value)} {oc_fewest_around kV_fewest_around doc_fewest_around pm_fewest_around ct_fewest_around : Value} {c_fewest_around P_fewest_around : Addr} {e_fewest_around : Value} {dd_fewest_around : Option Addr} {vs_fewest_around : Array Value} {s2_fewest_around : Array (Option Value)}
    {a_are_marks : Addr} {od_are_marks an_are_marks : Option Addr} {sl_are_marks : Array (Option Value)} {oc_are_marks kV_are_marks doc_are_marks pm_are_marks ct_are_marks : Value} {c_are_marks P_are_marks : Addr} {e_are_marks : Value} {dd_are_marks : Option Addr} {vs_are_marks : Array Value} {s2_are_marks : Array (Option Value)}
    {a_most_around : Addr} {od_most_around an_most_around : Option Addr} {sl_most_around : Array (Option Value)} {oc_most_around kV_most_around doc_most_around pm_most_around ct_most_around : Value} {cdv_most_around : Value}
    {a_needed_lights : Addr} {od_needed_lights an_needed_lights : Option Addr} {sl_needed_lights : Array (Option Value)} {oc_needed_lights kV_needed_lights doc_needed_lights pm_needed_lights ct_needed_lights : Value} {cdv_needed_lights : Value}
    {a_longest_dark_around : Addr} {od_longest_dark_around an_longest_dark_around : Option Addr} {sl_longest_dark_around : Array (Option Value)} {oc_longest_dark_around kV_longest_dark_around doc_longest_dark_around pm_longest_dark_around ct_longest_dark_around : Value} {cdv_longest_dark_around : Value}
    {a__law_draws : Addr} {od__law_draws an__law_draws : Option Addr} {sl__law_draws : Array (Option Value)} {oc__law_draws kV__law_draws doc__law_draws pm__law_draws ct__law_draws : Value} {cdv__law_draws : Value}
    {a__law_take : Addr} {od__law_take an__law_take : Option Addr} {sl__law_take : Array (Option Value)} {oc__law_take kV__law_take doc__law_take pm__law_take ct__law_take : Value} {cdv__law_take : Value}
    {a__law_alike : Addr} {od__law_alike an__law_alike : Option Addr} {sl__law_alike : Array (Option Value)} {oc__law_alike kV__law_alike doc__law_alike pm__law_alike ct__law_alike : Value} {cdv__law_alike : Value}
    {a__law_says : Addr} {od__law_says an__law_says : Option Addr} {sl__law_says : Array (Option Value)} {oc__law_says kV__law_says doc__law_says pm__law_says ct__law_says : Value} {cdv__law_says : Value}
    {a__law_seen : Addr} {od__law_seen an__law_seen : Option Addr} {sl__law_seen : Array (Option Value)} {oc__law_seen kV__law_seen doc__law_seen pm__law_seen ct__law_seen : Value} {cdv__law_seen : Value}
    {a_law : Addr} {od_law an_law : Option Addr} {sl_law : Array (Option Value)} {oc_law kV_law doc_law pm_law ct_law : Value} {cdv_law : Value}
    (y_isinstance : PySem.W.nsIn K mainGlobals "isinstance" = some none)
    (y_int : PySem.W.nsIn K mainGlobals "int" = some none)
    (y_bool : PySem.W.nsIn K mainGlobals "bool" = some none)
    (y_tuple : PySem.W.nsIn K mainGlobals "tuple" = some none)
    (y_len : PySem.W.nsIn K mainGlobals "len" = some none)
    (y_all : PySem.W.nsIn K mainGlobals "all" = some none)
    (y_enumerate : PySem.W.nsIn K mainGlobals "enumerate" = some none)
    (y_range : PySem.W.nsIn K mainGlobals "range" = some none)
    (y_any : PySem.W.nsIn K mainGlobals "any" = some none)
    (y_min : PySem.W.nsIn K mainGlobals "min" = some none)
    (y_max : PySem.W.nsIn K mainGlobals "max" = some none)
    (y_abs : PySem.W.nsIn K mainGlobals "abs" = some none)
    (y_list : PySem.W.nsIn K mainGlobals "list" = some none)
    (y_reversed : PySem.W.nsIn K mainGlobals "reversed" = some none)
    (y_str : PySem.W.nsIn K mainGlobals "str" = some none)
    (y_sum : PySem.W.nsIn K mainGlobals "sum" = some none)
    (y_dict : PySem.W.nsIn K mainGlobals "dict" = some none)
    (y_LEAST_ROUND : PySem.W.nsIn K mainGlobals "LEAST_ROUND" = some (some (.int 1 t_LEAST_ROUND)))
    (y_MOST_ROUND : PySem.W.nsIn K mainGlobals "MOST_ROUND" = some (some (.int 200 t_MOST_ROUND)))
    (y_MOST_ARCS : PySem.W.nsIn K mainGlobals "MOST_ARCS" = some (some (.int 10 t_MOST_ARCS)))
    (n_is_number : PySem.W.nsIn K mainGlobals "is_number" = some (some (.ref a_is_number)))
    (l_is_number : K.lookup a_is_number = some ⟨oc_is_number, od_is_number, .func (PySem.W.fnOf "is_number" "is_number" (defArgs s_is_number) (defBody s_is_number) (defScope s_is_number) .none kV_is_number doc_is_number pm_is_number an_is_number cdv_is_number ct_is_number), sl_is_number⟩)
    (h_is_number : PySem.W.codeIn K cdv_is_number "is_number" = true)
    (k_is_number : PySem.W.keepIn K (.ref a_is_number) = true)
    (n_is_arc : PySem.W.nsIn K mainGlobals "is_arc" = some (some (.ref a_is_arc)))
    (l_is_arc : K.lookup a_is_arc = some ⟨oc_is_arc, od_is_arc, .func (PySem.W.fnOf "is_arc" "is_arc" (defArgs s_is_arc) (defBody s_is_arc) (defScope s_is_arc) .none kV_is_arc doc_is_arc pm_is_arc an_is_arc cdv_is_arc ct_is_arc), sl_is_arc⟩)
    (h_is_arc : PySem.W.codeIn K cdv_is_arc "is_arc" = true)
    (k_is_arc : PySem.W.keepIn K (.ref a_is_arc) = true)
    (n_is_island : PySem.W.nsIn K mainGlobals "is_island" = some (some (.ref a_is_island)))
    (l_is_island : K.lookup a_is_island = some ⟨oc_is_island, od_is_island, .func (PySem.W.fnOf "is_island" "is_island" (defArgs s_is_island) (defBody s_is_island) (defScope s_is_island) .none kV_is_island doc_is_island pm_is_island an_is_island (.ref c_is_island) ct_is_island), sl_is_island⟩)
    (h_is_island : PySem.W.codeIn K (.ref c_is_island) "is_island" = true)
    (k_is_island : PySem.W.keepIn K (.ref a_is_island) = true)
    (lc_is_island : K.lookup c_is_island = some ⟨e_is_island, dd_is_island, .fields vs_is_island, s2_is_island⟩)
    (lv_is_island : vs_is_island[11]? = some (.ref P_is_island))
    (lp_is_island : K.lookup P_is_island = none)
    (ix_is_island : ("is_island" : Str) ∈ names)
    (n_lights_at : PySem.W.nsIn K mainGlobals "lights_at" = some (some (.ref a_lights_at)))
    (l_lights_at : K.lookup a_lights_at = some ⟨oc_lights_at, od_lights_at, .func (PySem.W.fnOf "lights_at" "lights_at" (defArgs s_lights_at) (defBody s_lights_at) (defScope s_lights_at) .none kV_lights_at doc_lights_at pm_lights_at an_lights_at cdv_lights_at ct_lights_at), sl_lights_at⟩)
    (h_lights_at : PySem.W.codeIn K cdv_lights_at "lights_at" = true)
    (k_lights_at : PySem.W.keepIn K (.ref a_lights_at) = true)
    (n_dark_places : PySem.W.nsIn K mainGlobals "dark_places" = some (some (.ref a_dark_places)))
    (l_dark_places : K.lookup a_dark_places = some ⟨oc_dark_places, od_dark_places, .func (PySem.W.fnOf "dark_places" "dark_places" (defArgs s_dark_places) (defBody s_dark_places) (defScope s_dark_places) .none kV_dark_places doc_dark_places pm_dark_places an_dark_places cdv_dark_places ct_dark_places), sl_dark_places⟩)
    (h_dark_places : PySem.W.codeIn K cdv_dark_places "dark_places" = true)
    (k_dark_places : PySem.W.keepIn K (.ref a_dark_places) = true)
    (n_fewest_around : PySem.W.nsIn K mainGlobals "fewest_around" = some (some (.ref a_fewest_around)))
    (l_fewest_around : K.lookup a_fewest_around = some ⟨oc_fewest_around, od_fewest_around, .func (PySem.W.fnOf "fewest_around" "fewest_around" (defArgs s_fewest_around) (defBody s_fewest_around) (defScope s_fewest_around) .none kV_fewest_around doc_fewest_around pm_fewest_around an_fewest_around (.ref c_fewest_around) ct_fewest_around), sl_fewest_around⟩)
    (h_fewest_around : PySem.W.codeIn K (.ref c_fewest_around) "fewest_around" = true)
    (k_fewest_around : PySem.W.keepIn K (.ref a_fewest_around) = true)
    (lc_fewest_around : K.lookup c_fewest_around = some ⟨e_fewest_around, dd_fewest_around, .fields vs_fewest_around, s2_fewest_around⟩)
    (lv_fewest_around : vs_fewest_around[11]? = some (.ref P_fewest_around))
    (lp_fewest_around : K.lookup P_fewest_around = none)
    (ix_fewest_around : ("fewest_around" : Str) ∈ names)
    (n_are_marks : PySem.W.nsIn K mainGlobals "are_marks" = some (some (.ref a_are_marks)))
    (l_are_marks : K.lookup a_are_marks = some ⟨oc_are_marks, od_are_marks, .func (PySem.W.fnOf "are_marks" "are_marks" (defArgs s_are_marks) (defBody s_are_marks) (defScope s_are_marks) .none kV_are_marks doc_are_marks pm_are_marks an_are_marks (.ref c_are_marks) ct_are_marks), sl_are_marks⟩)
    (h_are_marks : PySem.W.codeIn K (.ref c_are_marks) "are_marks" = true)
    (k_are_marks : PySem.W.keepIn K (.ref a_are_marks) = true)
    (lc_are_marks : K.lookup c_are_marks = some ⟨e_are_marks, dd_are_marks, .fields vs_are_marks, s2_are_marks⟩)
    (lv_are_marks : vs_are_marks[11]? = some (.ref P_are_marks))
    (lp_are_marks : K.lookup P_are_marks = none)
    (ix_are_marks : ("are_marks" : Str) ∈ names)
    (n_most_around : PySem.W.nsIn K mainGlobals "most_around" = some (some (.ref a_most_around)))
    (l_most_around : K.lookup a_most_around = some ⟨oc_most_around, od_most_around, .func (PySem.W.fnOf "most_around" "most_around" (defArgs s_most_around) (defBody s_most_around) (defScope s_most_around) .none kV_most_around doc_most_around pm_most_around an_most_around cdv_most_around ct_most_around), sl_most_around⟩)
    (h_most_around : PySem.W.codeIn K cdv_most_around "most_around" = true)
    (k_most_around : PySem.W.keepIn K (.ref a_most_around) = true)
    (n_needed_lights : PySem.W.nsIn K mainGlobals "needed_lights" = some (some (.ref a_needed_lights)))
    (l_needed_lights : K.lookup a_needed_lights = some ⟨oc_needed_lights, od_needed_lights, .func (PySem.W.fnOf "needed_lights" "needed_lights" (defArgs s_needed_lights) (defBody s_needed_lights) (defScope s_needed_lights) .none kV_needed_lights doc_needed_lights pm_needed_lights an_needed_lights cdv_needed_lights ct_needed_lights), sl_needed_lights⟩)
    (h_needed_lights : PySem.W.codeIn K cdv_needed_lights "needed_lights" = true)
    (k_needed_lights : PySem.W.keepIn K (.ref a_needed_lights) = true)
    (n_longest_dark_around : PySem.W.nsIn K mainGlobals "longest_dark_around" = some (some (.ref a_longest_dark_around)))
    (l_longest_dark_around : K.lookup a_longest_dark_around = some ⟨oc_longest_dark_around, od_longest_dark_around, .func (PySem.W.fnOf "longest_dark_around" "longest_dark_around" (defArgs s_longest_dark_around) (defBody s_longest_dark_around) (defScope s_longest_dark_around) .none kV_longest_dark_around doc_longest_dark_around pm_longest_dark_around an_longest_dark_around cdv_longest_dark_around ct_longest_dark_around), sl_longest_dark_around⟩)
    (h_longest_dark_around : PySem.W.codeIn K cdv_longest_dark_around "longest_dark_around" = true)
    (k_longest_dark_around : PySem.W.keepIn K (.ref a_longest_dark_around) = true)
    (n__law_draws : PySem.W.nsIn K mainGlobals "_law_draws" = some (some (.ref a__law_draws)))
    (l__law_draws : K.lookup a__law_draws = some ⟨oc__law_draws, od__law_draws, .func (PySem.W.fnOf "_law_draws" "_law_draws" (defArgs s__law_draws) (defBody s__law_draws) (defScope s__law_draws) .none kV__law_draws doc__law_draws pm__law_draws an__law_draws cdv__law_draws ct__law_draws), sl__law_draws⟩)
    (h__law_draws : PySem.W.codeIn K cdv__law_draws "_law_draws" = true)
    (k__law_draws : PySem.W.keepIn K (.ref a__law_draws) = true)
    (n__law_take : PySem.W.nsIn K mainGlobals "_law_take" = some (some (.ref a__law_take)))
    (l__law_take : K.lookup a__law_take = some ⟨oc__law_take, od__law_take, .func (PySem.W.fnOf "_law_take" "_law_take" (defArgs s__law_take) (defBody s__law_take) (defScope s__law_take) .none kV__law_take doc__law_take pm__law_take an__law_take cdv__law_take ct__law_take), sl__law_take⟩)
    (h__law_take : PySem.W.codeIn K cdv__law_take "_law_take" = true)
    (k__law_take : PySem.W.keepIn K (.ref a__law_take) = true)
    (n__law_alike : PySem.W.nsIn K mainGlobals "_law_alike" = some (some (.ref a__law_alike)))
    (l__law_alike : K.lookup a__law_alike = some ⟨oc__law_alike, od__law_alike, .func (PySem.W.fnOf "_law_alike" "_law_alike" (defArgs s__law_alike) (defBody s__law_alike) (defScope s__law_alike) .none kV__law_alike doc__law_alike pm__law_alike an__law_alike cdv__law_alike ct__law_alike), sl__law_alike⟩)
    (h__law_alike : PySem.W.codeIn K cdv__law_alike "_law_alike" = true)
    (k__law_alike : PySem.W.keepIn K (.ref a__law_alike) = true)
    (n__law_says : PySem.W.nsIn K mainGlobals "_law_says" = some (some (.ref a__law_says)))
    (l__law_says : K.lookup a__law_says = some ⟨oc__law_says, od__law_says, .func (PySem.W.fnOf "_law_says" "_law_says" (defArgs s__law_says) (defBody s__law_says) (defScope s__law_says) .none kV__law_says doc__law_says pm__law_says an__law_says cdv__law_says ct__law_says), sl__law_says⟩)
    (h__law_says : PySem.W.codeIn K cdv__law_says "_law_says" = true)
    (k__law_says : PySem.W.keepIn K (.ref a__law_says) = true)
    (n__law_seen : PySem.W.nsIn K mainGlobals "_law_seen" = some (some (.ref a__law_seen)))
    (l__law_seen : K.lookup a__law_seen = some ⟨oc__law_seen, od__law_seen, .func (PySem.W.fnOf "_law_seen" "_law_seen" (defArgs s__law_seen) (defBody s__law_seen) (defScope s__law_seen) .none kV__law_seen doc__law_seen pm__law_seen an__law_seen cdv__law_seen ct__law_seen), sl__law_seen⟩)
    (h__law_seen : PySem.W.codeIn K cdv__law_seen "_law_seen" = true)
    (k__law_seen : PySem.W.keepIn K (.ref a__law_seen) = true)
    (n_law : PySem.W.nsIn K mainGlobals "law" = some (some (.ref a_law)))
    (l_law : K.lookup a_law = some ⟨oc_law, od_law, .func (PySem.W.fnOf "law" "law" (defArgs s_law) (defBody s_law) (defScope s_law) .none kV_law doc_law pm_law an_law cdv_law ct_law), sl_law⟩)
    (h_law : PySem.W.codeIn K cdv_law "law" = true)
    (k_law : PySem.W.keepIn K (.ref a_law) = true) : LawM l w K 7 63 "script" mg h := by
  have z_isinstance : mg "isinstance" = none := PySem.W.mg_none_of X G y_isinstance
  have z_int : mg "int" = none := PySem.W.mg_none_of X G y_int
  have z_bool : mg "bool" = none := PySem.W.mg_none_of X G y_bool
  have z_tuple : mg "tuple" = none := PySem.W.mg_none_of X G y_tuple
  have z_len : mg "len" = none := PySem.W.mg_none_of X G y_len
  have z_all : mg "all" = none := PySem.W.mg_none_of X G y_all
  have z_enumerate : mg "enumerate" = none := PySem.W.mg_none_of X G y_enumerate
  have z_range : mg "range" = none := PySem.W.mg_none_of X G y_range
  have z_any : mg "any" = none := PySem.W.mg_none_of X G y_any
  have z_min : mg "min" = none := PySem.W.mg_none_of X G y_min
  have z_max : mg "max" = none := PySem.W.mg_none_of X G y_max
  have z_abs : mg "abs" = none := PySem.W.mg_none_of X G y_abs
  have z_list : mg "list" = none := PySem.W.mg_none_of X G y_list
  have z_reversed : mg "reversed" = none := PySem.W.mg_none_of X G y_reversed
  have z_str : mg "str" = none := PySem.W.mg_none_of X G y_str
  have z_sum : mg "sum" = none := PySem.W.mg_none_of X G y_sum
  have z_dict : mg "dict" = none := PySem.W.mg_none_of X G y_dict
  have v_LEAST_ROUND : ∃ t, mg "LEAST_ROUND" = some (.int 1 t) := ⟨_, PySem.W.mg_of X G y_LEAST_ROUND⟩
  have v_MOST_ROUND : ∃ t, mg "MOST_ROUND" = some (.int 200 t) := ⟨_, PySem.W.mg_of X G y_MOST_ROUND⟩
  have v_MOST_ARCS : ∃ t, mg "MOST_ARCS" = some (.int 10 t) := ⟨_, PySem.W.mg_of X G y_MOST_ARCS⟩
  have g_is_number : mg "is_number" = some (.ref a_is_number) := PySem.W.mg_of X G n_is_number
  have bi_is_number : Binds K (PySem.W.fnOf "is_number" "is_number" (defArgs s_is_number) (defBody s_is_number) (defScope s_is_number) .none kV_is_number doc_is_number pm_is_number an_is_number cdv_is_number ct_is_number) ["value", "least", "most"] [] := Binds.all fun us hl => match us, hl with | [_, _, _], _ => rfl
  have g_is_arc : mg "is_arc" = some (.ref a_is_arc) := PySem.W.mg_of X G n_is_arc
  have bi_is_arc : Binds K (PySem.W.fnOf "is_arc" "is_arc" (defArgs s_is_arc) (defBody s_is_arc) (defScope s_is_arc) .none kV_is_arc doc_is_arc pm_is_arc an_is_arc cdv_is_arc ct_is_arc) ["around", "value"] [] := Binds.all fun us hl => match us, hl with | [_, _], _ => rfl
  have g_is_island : mg "is_island" = some (.ref a_is_island) := PySem.W.mg_of X G n_is_island
  have bi_is_island : Binds K (PySem.W.fnOf "is_island" "is_island" (defArgs s_is_island) (defBody s_is_island) (defScope s_is_island) .none kV_is_island doc_is_island pm_is_island an_is_island (.ref c_is_island) ct_is_island) ["value"] [] := Binds.all fun us hl => match us, hl with | [_], _ => rfl
  have tt_is_island := T "is_island" ix_is_island a_is_island c_is_island P_is_island _ _ _ _ _ _ g_is_island l_is_island rfl rfl lc_is_island lv_is_island
  have g_lights_at : mg "lights_at" = some (.ref a_lights_at) := PySem.W.mg_of X G n_lights_at
  have bi_lights_at : Binds K (PySem.W.fnOf "lights_at" "lights_at" (defArgs s_lights_at) (defBody s_lights_at) (defScope s_lights_at) .none kV_lights_at doc_lights_at pm_lights_at an_lights_at cdv_lights_at ct_lights_at) ["island", "place"] [] := Binds.all fun us hl => match us, hl with | [_, _], _ => rfl
  have g_dark_places : mg "dark_places" = some (.ref a_dark_places) := PySem.W.mg_of X G n_dark_places
  have bi_dark_places : Binds K (PySem.W.fnOf "dark_places" "dark_places" (defArgs s_dark_places) (defBody s_dark_places) (defScope s_dark_places) .none kV_dark_places doc_dark_places pm_dark_places an_dark_places cdv_dark_places ct_dark_places) ["island"] [] := Binds.all fun us hl => match us, hl with | [_], _ => rfl
  have g_fewest_around : mg "fewest_around" = some (.ref a_fewest_around) := PySem.W.mg_of X G n_fewest_around
  have bi_fewest_around : Binds K (PySem.W.fnOf "fewest_around" "fewest_around" (defArgs s_fewest_around) (defBody s_fewest_around) (defScope s_fewest_around) .none kV_fewest_around doc_fewest_around pm_fewest_around an_fewest_around (.ref c_fewest_around) ct_fewest_around) ["island"] [] := Binds.all fun us hl => match us, hl with | [_], _ => rfl
  have tt_fewest_around := T "fewest_around" ix_fewest_around a_fewest_around c_fewest_around P_fewest_around _ _ _ _ _ _ g_fewest_around l_fewest_around rfl rfl lc_fewest_around lv_fewest_around
  have g_are_marks : mg "are_marks" = some (.ref a_are_marks) := PySem.W.mg_of X G n_are_marks
  have bi_are_marks : Binds K (PySem.W.fnOf "are_marks" "are_marks" (defArgs s_are_marks) (defBody s_are_marks) (defScope s_are_marks) .none kV_are_marks doc_are_marks pm_are_marks an_are_marks (.ref c_are_marks) ct_are_marks) ["island", "value"] [] := Binds.all fun us hl => match us, hl with | [_, _], _ => rfl
  have tt_are_marks := T "are_marks" ix_are_marks a_are_marks c_are_marks P_are_marks _ _ _ _ _ _ g_are_marks l_are_marks rfl rfl lc_are_marks lv_are_marks
  have g_most_around : mg "most_around" = some (.ref a_most_around) := PySem.W.mg_of X G n_most_around
  have bi_most_around : Binds K (PySem.W.fnOf "most_around" "most_around" (defArgs s_most_around) (defBody s_most_around) (defScope s_most_around) .none kV_most_around doc_most_around pm_most_around an_most_around cdv_most_around ct_most_around) ["island"] [] := Binds.all fun us hl => match us, hl with | [_], _ => rfl
  have g_needed_lights : mg "needed_lights" = some (.ref a_needed_lights) := PySem.W.mg_of X G n_needed_lights
  have bi_needed_lights : Binds K (PySem.W.fnOf "needed_lights" "needed_lights" (defArgs s_needed_lights) (defBody s_needed_lights) (defScope s_needed_lights) .none kV_needed_lights doc_needed_lights pm_needed_lights an_needed_lights cdv_needed_lights ct_needed_lights) ["island"] [] := Binds.all fun us hl => match us, hl with | [_], _ => rfl
  have g_longest_dark_around : mg "longest_dark_around" = some (.ref a_longest_dark_around) := PySem.W.mg_of X G n_longest_dark_around
  have bi_longest_dark_around : Binds K (PySem.W.fnOf "longest_dark_around" "longest_dark_around" (defArgs s_longest_dark_around) (defBody s_longest_dark_around) (defScope s_longest_dark_around) .none kV_longest_dark_around doc_longest_dark_around pm_longest_dark_around an_longest_dark_around cdv_longest_dark_around ct_longest_dark_around) ["island"] [] := Binds.all fun us hl => match us, hl with | [_], _ => rfl
  have g__law_draws : mg "_law_draws" = some (.ref a__law_draws) := PySem.W.mg_of X G n__law_draws
  have bi__law_draws : Binds K (PySem.W.fnOf "_law_draws" "_law_draws" (defArgs s__law_draws) (defBody s__law_draws) (defScope s__law_draws) .none kV__law_draws doc__law_draws pm__law_draws an__law_draws cdv__law_draws ct__law_draws) ["script"] [] := Binds.all fun us hl => match us, hl with | [_], _ => rfl
  have g__law_take : mg "_law_take" = some (.ref a__law_take) := PySem.W.mg_of X G n__law_take
  have bi__law_take : Binds K (PySem.W.fnOf "_law_take" "_law_take" (defArgs s__law_take) (defBody s__law_take) (defScope s__law_take) .none kV__law_take doc__law_take pm__law_take an__law_take cdv__law_take ct__law_take) ["draws", "bound"] [] := Binds.all fun us hl => match us, hl with | [_, _], _ => rfl
  have g__law_alike : mg "_law_alike" = some (.ref a__law_alike) := PySem.W.mg_of X G n__law_alike
  have bi__law_alike : Binds K (PySem.W.fnOf "_law_alike" "_law_alike" (defArgs s__law_alike) (defBody s__law_alike) (defScope s__law_alike) .none kV__law_alike doc__law_alike pm__law_alike an__law_alike cdv__law_alike ct__law_alike) ["found", "due"] [] := Binds.all fun us hl => match us, hl with | [_, _], _ => rfl
  have g__law_says : mg "_law_says" = some (.ref a__law_says) := PySem.W.mg_of X G n__law_says
  have bi__law_says : Binds K (PySem.W.fnOf "_law_says" "_law_says" (defArgs s__law_says) (defBody s__law_says) (defScope s__law_says) .none kV__law_says doc__law_says pm__law_says an__law_says cdv__law_says ct__law_says) ["told", "due"] [] := Binds.all fun us hl => match us, hl with | [_, _], _ => rfl
  have g__law_seen : mg "_law_seen" = some (.ref a__law_seen) := PySem.W.mg_of X G n__law_seen
  have bi__law_seen : Binds K (PySem.W.fnOf "_law_seen" "_law_seen" (defArgs s__law_seen) (defBody s__law_seen) (defScope s__law_seen) .none kV__law_seen doc__law_seen pm__law_seen an__law_seen cdv__law_seen ct__law_seen) ["island", "place"] [] := Binds.all fun us hl => match us, hl with | [_, _], _ => rfl
  have g_law : mg "law" = some (.ref a_law) := PySem.W.mg_of X G n_law
  have bi_law : Binds K (PySem.W.fnOf "law" "law" (defArgs s_law) (defBody s_law) (defScope s_law) .none kV_law doc_law pm_law an_law cdv_law ct_law) ["script"] [] := Binds.all fun us hl => match us, hl with | [_], _ => rfl
  refine ⟨(PySem.W.fnOf "law" "law" (defArgs s_law) (defBody s_law) (defScope s_law) .none kV_law doc_law pm_law an_law cdv_law ct_law), a_law, [(P_is_island, 1), (P_fewest_around, 2), (P_are_marks, 1)], [(c_is_island, P_is_island), (c_fewest_around, P_fewest_around), (c_are_marks, P_are_marks)], f_law, ?_, g_law, ?_, ?_, ?_, fun s u => .of_eq rfl, fun ns h1 h2 => law_true ns h1 h2, fun base KB GB TB => ?_⟩
  · intro t ht
    simp only [List.mem_cons, List.not_mem_nil, or_false] at ht
    rcases ht with rfl | rfl | rfl <;> simp
  · intro p hp
    simp only [List.mem_cons, List.not_mem_nil, or_false] at hp
    rcases hp with rfl | rfl | rfl
    · exact tt_is_island.1
    · exact tt_fewest_around.1
    · exact tt_are_marks.1
  · intro p hp
    simp only [List.mem_cons, List.not_mem_nil, or_false] at hp
    rcases hp with rfl | rfl | rfl
    · exact lp_is_island
    · exact lp_fewest_around
    · exact lp_are_marks
  · intro p hp
    simp only [List.mem_cons, List.not_mem_nil, or_false] at hp
    rcases hp with rfl | rfl | rfl
    · exact tt_is_island.2
    · exact tt_fewest_around.2
    · exact tt_are_marks.2
  · generalize htb : ([(P_is_island, 1), (P_fewest_around, 2), (P_are_marks, 1)] : List (Addr × Nat)) = tabs
    have hbm : BMb mg base := bmb_of (TB (c_is_island, P_is_island) (by simp))
    have G__law_draws : FnOk l.prog w K mg base CX0 1 a__law_draws (PySem.W.fnOf "_law_draws" "_law_draws" (defArgs s__law_draws) (defBody s__law_draws) (defScope s__law_draws) .none kV__law_draws doc__law_draws pm__law_draws an__law_draws cdv__law_draws ct__law_draws) ["script"] (spFn K tabs 1 f__law_draws) := ok__law_draws (P := l.prog) (w := w) (tabs := tabs) l__law_draws h__law_draws z_abs z_int z_range z_len z_list z_reversed
    have G__law_take : FnOk l.prog w K mg base CX0 1 a__law_take (PySem.W.fnOf "_law_take" "_law_take" (defArgs s__law_take) (defBody s__law_take) (defScope s__law_take) .none kV__law_take doc__law_take pm__law_take an__law_take cdv__law_take ct__law_take) ["draws", "bound"] (spFn K tabs 2 f__law_take) := ok__law_take (P := l.prog) (w := w) (tabs := tabs) l__law_take h__law_take z_len z_int
    have G_is_number : FnOk l.prog w K mg base CX0 1 a_is_number (PySem.W.fnOf "is_number" "is_number" (defArgs s_is_number) (defBody s_is_number) (defScope s_is_number) .none kV_is_number doc_is_number pm_is_number an_is_number cdv_is_number ct_is_number) ["value", "least", "most"] (spFn K tabs 3 f_is_number) := ok_is_number (P := l.prog) (w := w) (tabs := tabs) l_is_number h_is_number z_isinstance z_int z_bool
    have G_is_arc : FnOk l.prog w K mg base CX0 2 a_is_arc (PySem.W.fnOf "is_arc" "is_arc" (defArgs s_is_arc) (defBody s_is_arc) (defScope s_is_arc) .none kV_is_arc doc_is_arc pm_is_arc an_is_arc cdv_is_arc ct_is_arc) ["around", "value"] (spFn K tabs 2 f_is_arc) := ok_is_arc (P := l.prog) (w := w) (tabs := tabs) l_is_arc h_is_arc z_isinstance z_tuple z_len g_is_number k_is_number bi_is_number G_is_number
    have G_is_island : FnOk l.prog w K mg base CX0 4 a_is_island (PySem.W.fnOf "is_island" "is_island" (defArgs s_is_island) (defBody s_is_island) (defScope s_is_island) .none kV_is_island doc_is_island pm_is_island an_is_island (.ref c_is_island) ct_is_island) ["value"] (spFn K tabs 1 f_is_island) := ok_is_island (P := l.prog) (w := w) (tabs := tabs) l_is_island h_is_island z_isinstance z_tuple z_len v_LEAST_ROUND v_MOST_ROUND v_MOST_ARCS hbm z_all g_is_number k_is_number bi_is_number G_is_number g_is_arc k_is_arc bi_is_arc G_is_arc (by rw [← htb]; simp) (TB (c_is_island, P_is_island) (by simp)).code
    have G__law_says : FnOk l.prog w K mg base CX0 1 a__law_says (PySem.W.fnOf "_law_says" "_law_says" (defArgs s__law_says) (defBody s__law_says) (defScope s__law_says) .none kV__law_says doc__law_says pm__law_says an__law_says cdv__law_says ct__law_says) ["told", "due"] (spFn K tabs 2 f__law_says) := ok__law_says (P := l.prog) (w := w) (tabs := tabs) l__law_says h__law_says z_isinstance z_bool
    have G__law_seen : FnOk l.prog w K mg base CX0 1 a__law_seen (PySem.W.fnOf "_law_seen" "_law_seen" (defArgs s__law_seen) (defBody s__law_seen) (defScope s__law_seen) .none kV__law_seen doc__law_seen pm__law_seen an__law_seen cdv__law_seen ct__law_seen) ["island", "place"] (spFn K tabs 2 f__law_seen) := ok__law_seen (P := l.prog) (w := w) (tabs := tabs) l__law_seen h__law_seen z_len z_range z_int
    have G_lights_at : FnOk l.prog w K mg base CX0 1 a_lights_at (PySem.W.fnOf "lights_at" "lights_at" (defArgs s_lights_at) (defBody s_lights_at) (defScope s_lights_at) .none kV_lights_at doc_lights_at pm_lights_at an_lights_at cdv_lights_at ct_lights_at) ["island", "place"] (spFn K tabs 2 f_lights_at) := ok_lights_at (P := l.prog) (w := w) (tabs := tabs) l_lights_at h_lights_at z_enumerate
    have G_dark_places : FnOk l.prog w K mg base CX0 2 a_dark_places (PySem.W.fnOf "dark_places" "dark_places" (defArgs s_dark_places) (defBody s_dark_places) (defScope s_dark_places) .none kV_dark_places doc_dark_places pm_dark_places an_dark_places cdv_dark_places ct_dark_places) ["island"] (spFn K tabs 1 f_dark_places) := ok_dark_places (P := l.prog) (w := w) (tabs := tabs) l_dark_places h_dark_places z_range z_len z_tuple g_lights_at k_lights_at bi_lights_at G_lights_at
    have G__law_alike : FnOk l.prog w K mg base CX0 6 a__law_alike (PySem.W.fnOf "_law_alike" "_law_alike" (defArgs s__law_alike) (defBody s__law_alike) (defScope s__law_alike) .none kV__law_alike doc__law_alike pm__law_alike an__law_alike cdv__law_alike ct__law_alike) ["found", "due"] (spFn K tabs 2 (f__law_alike 6)) := ok__law_alike (P := l.prog) (w := w) (tabs := tabs) l__law_alike h__law_alike z_isinstance z_list z_tuple z_len z_range z_bool z_int z_str g__law_alike k__law_alike bi__law_alike 6
    have G_fewest_around : FnOk l.prog w K mg base CX0 3 a_fewest_around (PySem.W.fnOf "fewest_around" "fewest_around" (defArgs s_fewest_around) (defBody s_fewest_around) (defScope s_fewest_around) .none kV_fewest_around doc_fewest_around pm_fewest_around an_fewest_around (.ref c_fewest_around) ct_fewest_around) ["island"] (spFn K tabs 1 f_fewest_around) := ok_fewest_around (P := l.prog) (w := w) (tabs := tabs) l_fewest_around h_fewest_around z_range z_len hbm z_any z_all z_tuple z_min g_lights_at k_lights_at bi_lights_at G_lights_at (by rw [← htb]; simp) (TB (c_fewest_around, P_fewest_around) (by simp)).code
    have G_most_around : FnOk l.prog w K mg base CX0 2 a_most_around (PySem.W.fnOf "most_around" "most_around" (defArgs s_most_around) (defBody s_most_around) (defScope s_most_around) .none kV_most_around doc_most_around pm_most_around an_most_around cdv_most_around ct_most_around) ["island"] (spFn K tabs 1 f_most_around) := ok_most_around (P := l.prog) (w := w) (tabs := tabs) l_most_around h_most_around z_range z_len z_max g_lights_at k_lights_at bi_lights_at G_lights_at
    have G_longest_dark_around : FnOk l.prog w K mg base CX0 2 a_longest_dark_around (PySem.W.fnOf "longest_dark_around" "longest_dark_around" (defArgs s_longest_dark_around) (defBody s_longest_dark_around) (defScope s_longest_dark_around) .none kV_longest_dark_around doc_longest_dark_around pm_longest_dark_around an_longest_dark_around cdv_longest_dark_around ct_longest_dark_around) ["island"] (spFn K tabs 1 f_longest_dark_around) := ok_longest_dark_around (P := l.prog) (w := w) (tabs := tabs) l_longest_dark_around h_longest_dark_around z_range z_len z_max g_lights_at k_lights_at bi_lights_at G_lights_at
    have G_needed_lights : FnOk l.prog w K mg base CX0 2 a_needed_lights (PySem.W.fnOf "needed_lights" "needed_lights" (defArgs s_needed_lights) (defBody s_needed_lights) (defScope s_needed_lights) .none kV_needed_lights doc_needed_lights pm_needed_lights an_needed_lights cdv_needed_lights ct_needed_lights) ["island"] (spFn K tabs 1 f_needed_lights) := ok_needed_lights (P := l.prog) (w := w) (tabs := tabs) l_needed_lights h_needed_lights z_range z_len z_tuple g_lights_at k_lights_at bi_lights_at G_lights_at
    have G_are_marks : FnOk l.prog w K mg base CX0 3 a_are_marks (PySem.W.fnOf "are_marks" "are_marks" (defArgs s_are_marks) (defBody s_are_marks) (defScope s_are_marks) .none kV_are_marks doc_are_marks pm_are_marks an_are_marks (.ref c_are_marks) ct_are_marks) ["island", "value"] (spFn K tabs 2 f_are_marks) := ok_are_marks (P := l.prog) (w := w) (tabs := tabs) l_are_marks h_are_marks z_isinstance z_tuple hbm z_all z_len z_range z_any g_is_number k_is_number bi_is_number G_is_number g_lights_at k_lights_at bi_lights_at G_lights_at (by rw [← htb]; simp) (TB (c_are_marks, P_are_marks) (by simp)).code
    have G_law : FnOk l.prog w K mg base CX0 7 a_law (PySem.W.fnOf "law" "law" (defArgs s_law) (defBody s_law) (defScope s_law) .none kV_law doc_law pm_law an_law cdv_law ct_law) ["script"] (spFn K tabs 1 f_law) := ok_law (P := l.prog) (w := w) (tabs := tabs) l_law h_law z_range z_tuple z_len z_min z_max z_sum z_list z_dict g__law_draws k__law_draws bi__law_draws G__law_draws g__law_take k__law_take bi__law_take G__law_take g_is_island k_is_island bi_is_island G_is_island g__law_says k__law_says bi__law_says G__law_says g__law_seen k__law_seen bi__law_seen G__law_seen g_dark_places k_dark_places bi_dark_places G_dark_places g__law_alike k__law_alike bi__law_alike G__law_alike g_fewest_around k_fewest_around bi_fewest_around G_fewest_around g_most_around k_most_around bi_most_around G_most_around g_longest_dark_around k_longest_dark_around bi_longest_dark_around G_longest_dark_around g_needed_lights k_needed_lights bi_needed_lights G_needed_lights g_are_marks k_are_marks bi_are_marks G_are_marks
    exact G_law
end Cp
open PySem PySem.W PyProof.Rows
set_option maxHeartbeats 0 in
theorem PySem.Challenge.cw_coastlit_k36_whole_islands_holds : PySem.Challenge.rw_coastlit_k36_whole_islands.Holds := by
  w_on; o_law; k_head; (case hw => w_witness2)
  k_fill
  refine Mi.walk_mi (l := PySem.Challenge.rw_coastlit_k36_whole_islands) (n := 63) (k := 7) (x := "script") rfl (by decide) rfl rfl ⟨rfl, by decide, by decide⟩ (fun w h Y => PySem.W.kIn_of Y) ?F
  case F =>
    intro w mg fa h Y KX G hmg T
    refine' Cp.all_mk KX G T ?y_isinstance ?y_int ?y_bool ?y_tuple ?y_len ?y_all ?y_enumerate ?y_range ?y_any ?y_min ?y_max ?y_abs ?y_list ?y_reversed ?y_str ?y_sum ?y_dict ?y_LEAST_ROUND ?y_MOST_ROUND ?y_MOST_ARCS ?n_is_number ?l_is_number ?h_is_number ?k_is_number ?n_is_arc ?l_is_arc ?h_is_arc ?k_is_arc ?n_is_island ?l_is_island ?h_is_island ?k_is_island ?lc_is_island ?lv_is_island ?lp_is_island ?ix_is_island ?n_lights_at ?l_lights_at ?h_lights_at ?k_lights_at ?n_dark_places ?l_dark_places ?h_dark_places ?k_dark_places ?n_fewest_around ?l_fewest_around ?h_fewest_around ?k_fewest_around ?lc_fewest_around ?lv_fewest_around ?lp_fewest_around ?ix_fewest_around ?n_are_marks ?l_are_marks ?h_are_marks ?k_are_marks ?lc_are_marks ?lv_are_marks ?lp_are_marks ?ix_are_marks ?n_most_around ?l_most_around ?h_most_around ?k_most_around ?n_needed_lights ?l_needed_lights ?h_needed_lights ?k_needed_lights ?n_longest_dark_around ?l_longest_dark_around ?h_longest_dark_around ?k_longest_dark_around ?n__law_draws ?l__law_draws ?h__law_draws ?k__law_draws ?n__law_take ?l__law_take ?h__law_take ?k__law_take ?n__law_alike ?l__law_alike ?h__law_alike ?k__law_alike ?n__law_says ?l__law_says ?h__law_says ?k__law_says ?n__law_seen ?l__law_seen ?h__law_seen ?k__law_seen ?n_law ?l_law ?h_law ?k_law
    (case y_isinstance => k_is); (case y_int => k_is); (case y_bool => k_is); (case y_tuple => k_is); (case y_len => k_is); (case y_all => k_is); (case y_enumerate => k_is); (case y_range => k_is); (case y_any => k_is); (case y_min => k_is); (case y_max => k_is); (case y_abs => k_is); (case y_list => k_is); (case y_reversed => k_is); (case y_str => k_is); (case y_sum => k_is); (case y_dict => k_is); (case y_LEAST_ROUND => k_is); (case y_MOST_ROUND => k_is); (case y_MOST_ARCS => k_is); (case n_is_number => k_is); (case l_is_number => k_is); (case h_is_number => k_is); (case k_is_number => k_is); (case n_is_arc => k_is); (case l_is_arc => k_is); (case h_is_arc => k_is); (case k_is_arc => k_is); (case n_is_island => k_is); (case l_is_island => k_is); (case h_is_island => k_is); (case k_is_island => k_is); (case lc_is_island => k_is); (case lv_is_island => rfl); (case lp_is_island => kernel_rfl); (case ix_is_island => decide); (case n_lights_at => k_is); (case l_lights_at => k_is); (case h_lights_at => k_is); (case k_lights_at => k_is); (case n_dark_places => k_is); (case l_dark_places => k_is); (case h_dark_places => k_is); (case k_dark_places => k_is); (case n_fewest_around => k_is); (case l_fewest_around => k_is); (case h_fewest_around => k_is); (case k_fewest_around => k_is); (case lc_fewest_around => k_is); (case lv_fewest_around => rfl); (case lp_fewest_around => kernel_rfl); (case ix_fewest_around => decide); (case n_are_marks => k_is); (case l_are_marks => k_is); (case h_are_marks => k_is); (case k_are_marks => k_is); (case lc_are_marks => k_is); (case lv_are_marks => rfl); (case lp_are_marks => kernel_rfl); (case ix_are_marks => decide); (case n_most_around => k_is); (case l_most_around => k_is); (case h_most_around => k_is); (case k_most_around => k_is); (case n_needed_lights => k_is); (case l_needed_lights => k_is); (case h_needed_lights => k_is); (case k_needed_lights => k_is); (case n_longest_dark_around => k_is); (case l_longest_dark_around => k_is); (case h_longest_dark_around => k_is); (case k_longest_dark_around => k_is); (case n__law_draws => k_is); (case l__law_draws => k_is); (case h__law_draws => k_is); (case k__law_draws => k_is); (case n__law_take => k_is); (case l__law_take => k_is); (case h__law_take => k_is); (case k__law_take => k_is); (case n__law_alike => k_is); (case l__law_alike => k_is); (case h__law_alike => k_is); (case k__law_alike => k_is); (case n__law_says => k_is); (case l__law_says => k_is); (case h__law_says => k_is); (case k__law_says => k_is); (case n__law_seen => k_is); (case l__law_seen => k_is); (case h__law_seen => k_is); (case k__law_seen => k_is); (case n_law => k_is); (case l_law => k_is); (case h_law => k_is); (case k_law => k_is)

