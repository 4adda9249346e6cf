import PyProof.Rows.All
import Wide.All
import OpenK.AllK
import Wide.FinOn
import PySem.Challenge.RW_nm0012_01
set_option Elab.async false
set_option linter.unusedSimpArgs false
set_option linter.unusedVariables false
set_option linter.defProp false
section
open PySem PySem.W PyProof.Rows
namespace Mine
inductive AV where
  | none | bool (b : Bool) | int (i : Int) | str (x : Str) | ref (a : Addr)
deriving DecidableEq
inductive AO where
  | list (l : List AV)
  | tup (l : List AV)
  | dict (l : List (Int × AV)) (ep : Nat)
  | inst (C d : Addr)
  | ns (l : List (Str × AV))
  | rng (n : Nat)
noncomputable abbrev AHeap := Addr → Option AO
inductive F2 {α β : Type} (R : α → β → Prop) : List α → List β → Prop where
  | nil : F2 R [] []
  | cons {a b l m} : R a b → F2 R l m → F2 R (a :: l) (b :: m)
noncomputable def RepV : AV → Value → Prop
  | .none, v => v = .none
  | .bool b, v => v = .bool b
  | .int i, v => ∃ t, v = .int i t
  | .str x, v => ∃ t, v = .str x t
  | .ref a, v => v = .ref a
structure Cfg where
  prog : Program
  w : World
  base : Heap
  K : Frag
  gens : Array GenState
  os : OsState
  cf : Addr
  hd : Bool
  tot : Nat
noncomputable def DictIs (C : Cfg) (ob : Obj) (kvs : List (Int × Value)) (ep : Nat) : Prop :=
  ∃ es, ob.ExactDict ∧ ob.data = .dict es ep ∧ KeysOf (intKind C.prog C.w) es ∧ Pairs (intKind C.prog C.w) es.toList kvs ∧ (kvs.map (·.1)).Nodup
noncomputable def RepO (C : Cfg) : AO → Obj → Prop
  | .list l, ob => ob.cls = .type "list" ∧ ob.dict = none ∧ ∃ vs n, ob.data = .seq vs.toArray n ∧ F2 RepV l vs
  | .tup l, ob => ob.cls = .type "tuple" ∧ ∃ vs n, ob.data = .seq vs.toArray n ∧ F2 RepV l vs
  | .dict l ep, ob => ∃ kvs, DictIs C ob kvs ep ∧ F2 (fun p q => p.1 = q.1 ∧ RepV p.2 q.2) l kvs
  | .inst c d, ob => ob = instObj c d
  | .ns l, ob => ∃ es n, ob = dictOf es n ∧ F2 (fun p e => (∃ t, e.key = .str p.1 t) ∧ RepV p.2 e.val) l es
  | .rng n, ob => n ≤ 1000 ∧ ∃ t u v, ob = { cls := .type "range", dict := none, data := .fields #[.int 0 t, .int n u, .int 1 v], slots := #[] }
noncomputable def Cfg.on (C : Cfg) : Cfg := { C with hd := true }
structure Rep (C : Cfg) (H : AHeap) (s : Shared) : Prop where
  keep : ∀ b o, C.base.get? b = some o → s.heap.get? b = some o
  obj : ∀ a o, H a = some o → C.base.get? a = none ∧ a ≠ sysModules ∧ ∃ ob, s.heap.get? a = some ob ∧ RepO C o ob
  gens : s.gens = C.gens
  os : s.os = C.os
structure Step (H H' : AHeap) (s s' : Shared) : Prop where
  keep : ∀ b o, s.heap.get? b = some o → H b = none → s'.heap.get? b = some o
  fresh : ∀ a, H' a ≠ none → H a ≠ none ∨ s.heap.get? a = none
theorem Step.refl (H : AHeap) (s : Shared) : Step H H s s := ⟨fun _ _ e _ => e, fun _ h => .inl h⟩
theorem Step.tok (H : AHeap) (s : Shared) (t : Nat) : Step H H s { s with toks := t } := ⟨fun _ _ e _ => e, fun _ h => .inl h⟩
theorem Step.trans {H H1 H2 : AHeap} {s s1 s2 : Shared} (x : Step H H1 s s1) (y : Step H1 H2 s1 s2) : Step H H2 s s2 := by
  refine ⟨fun b o e hb => y.keep b o (x.keep b o e hb) ?_, fun a ha => ?_⟩
  · cases q : H1 b with
    | none => rfl
    | some o' =>
      rcases x.fresh b (by rw [q]; intro z; cases z) with h | h
      · exact absurd hb h
      · rw [e] at h; cases h
  · rcases y.fresh a ha with h | h
    · exact x.fresh a h
    · cases q : H a with
      | some o' => exact .inl (by intro z; cases z)
      | none =>
        right
        cases q2 : s.heap.get? a with
        | none => rfl
        | some o => have := x.keep a o q2 q; rw [h] at this; cases this
structure Ok (C : Cfg) (n : Nat) (A : Around) (H : AHeap) (s : Shared) : Prop where
  rep : Rep C H s
  depth : A.depth + 2 * n ≤ 980
  units : A.units + 20 * n ≤ 9000
  hd : A.handled = none ∨ ∃ e o vs, A.handled = some (.ref e) ∧ H e = none ∧ s.heap.get? e = some o ∧ o.data = .fields vs ∧ vs[2]? = some .none ∧ C.hd = true
  fr : ∃ outer, A.frames = some outer ∧ s.heap.FunFrames C.base outer ∧ ∀ env ∈ outer, ∀ a, env.frame = some a → H a = none
  len : ∀ outer, A.frames = some outer → outer.length + n ≤ C.tot
theorem step_none {H H' : AHeap} {s s' : Shared} (x : Step H H' s s') {a : Addr} {o : Obj} (h : H a = none) (e : s.heap.get? a = some o) : H' a = none := by
  cases q : H' a with
  | none => rfl
  | some o' =>
    rcases x.fresh a (by rw [q]; intro z; cases z) with h' | h'
    · exact absurd h h'
    · rw [e] at h'; cases h'
theorem funFrames_in' {base h : Heap} {l : List Env} (H0 : h.FunFrames base l) : ∀ env ∈ l, ∃ L o, env.frame = some L ∧ h.get? L = some o := by
  induction l with
  | nil => intro _ hm; cases hm
  | cons e r ih =>
    obtain ⟨_, ⟨L, o, hf, _, ho, _⟩, hr⟩ := H0
    intro env hm
    rcases List.mem_cons.mp hm with rfl | hm
    · exact ⟨L, o, hf, ho⟩
    · exact ih hr env hm
theorem funFrames_keep {base h h' : Heap} {H : AHeap} {l : List Env} (H0 : h.FunFrames base l) (hne : ∀ env ∈ l, ∀ a, env.frame = some a → H a = none)
    (k : ∀ b o, h.get? b = some o → H b = none → h'.get? b = some o) : h'.FunFrames base l := by
  induction l with
  | nil => exact trivial
  | cons e r ih =>
    obtain ⟨hk, ⟨L, o, hf, hn, ho, hd⟩, hr⟩ := H0
    exact ⟨hk, ⟨L, o, hf, hn, k L o ho (hne e (.head _) L hf), hd⟩, ih hr fun e he => hne e (.tail _ he)⟩
theorem Ok.step {C : Cfg} {n : Nat} {A : Around} {H H' : AHeap} {s s' : Shared} (x : Ok C n A H s) (y : Step H H' s s') (r : Rep C H' s') : Ok C n A H' s' := by
  refine ⟨r, x.depth, x.units, ?_, ?_, x.len⟩
  · rcases x.hd with h | ⟨e, o, vs, h1, h2, h3, h4, h5⟩
    · exact .inl h
    · exact .inr ⟨e, o, vs, h1, step_none y h2 h3, y.keep e o h3 h2, h4, h5⟩
  · obtain ⟨outer, h1, h2, h3⟩ := x.fr
    refine ⟨outer, h1, funFrames_keep h2 h3 y.keep, fun env he a ha => ?_⟩
    obtain ⟨L, o, hf, ho⟩ := funFrames_in' h2 env he
    rw [hf] at ha; cases ha
    exact step_none y (h3 env he _ hf) ho
theorem Ok.less {C : Cfg} {n m : Nat} {A : Around} {H : AHeap} {s : Shared} (x : Ok C n A H s) (h : m ≤ n) : Ok C m A H s :=
  ⟨x.rep, by have := x.depth; omega, by have := x.units; omega, x.hd, x.fr, fun o h => by have := x.len o h; omega⟩
theorem Rep.forget {C : Cfg} {H H' : AHeap} {s : Shared} (r : Rep C H s) (h : ∀ a o, H' a = some o → H a = some o) : Rep C H' s :=
  ⟨r.keep, fun a o e => r.obj a o (h a o e), r.gens, r.os⟩
theorem Step.forget {H H1 H' : AHeap} {s s' : Shared} (x : Step H H1 s s') (h : ∀ a o, H' a = some o → H1 a = some o) : Step H H' s s' :=
  ⟨x.keep, fun a ha => by
    cases q : H' a with
    | none => exact absurd q ha
    | some o => exact x.fresh a (by rw [h a o q]; intro z; cases z)⟩
theorem Rep.tok {C : Cfg} {H : AHeap} {s : Shared} (r : Rep C H s) (t : Nat) : Rep C H { s with toks := t } := ⟨r.keep, r.obj, r.gens, r.os⟩
noncomputable def AHeap.set (H : AHeap) (a : Addr) (o : AO) : AHeap := fun b => if b = a then some o else H b
@[simp] theorem AHeap.set_self (H : AHeap) (a : Addr) (o : AO) : H.set a o a = some o := if_pos rfl
theorem AHeap.set_ne (H : AHeap) {a b : Addr} (o : AO) (h : b ≠ a) : H.set a o b = H b := if_neg h
theorem Rep.upd {C : Cfg} {H : AHeap} {s : Shared} {a : Addr} {o : AO} {ob' : Obj} {h' : Heap} {t : Nat} {oo : AO} (r : Rep C H s) (ho : H a = some oo) (hs : ∀ b, b ≠ a → h'.get? b = s.heap.get? b)
    (hg : h'.get? a = some ob') (hr : RepO C o ob') : Rep C (H.set a o) { s with heap := h', toks := t } := by
  refine ⟨fun b ob e => ?_, fun b ob e => ?_, r.gens, r.os⟩
  · have : b ≠ a := fun q => by rw [q, (r.obj a oo ho).1] at e; cases e
    exact (hs b this).trans (r.keep b ob e)
  · by_cases q : b = a
    · subst q
      rw [AHeap.set_self] at e; cases e
      exact ⟨(r.obj b oo ho).1, (r.obj b oo ho).2.1, ob', hg, hr⟩
    · rw [AHeap.set_ne _ _ q] at e
      obtain ⟨h1, h2, ob2, h3, h4⟩ := r.obj b ob e
      exact ⟨h1, h2, ob2, (hs b q).trans h3, h4⟩
theorem Step.upd {H : AHeap} {s : Shared} {a : Addr} {o oo : AO} {h' : Heap} {t : Nat} (ho : H a = some oo) (hs : ∀ b, b ≠ a → h'.get? b = s.heap.get? b) :
    Step H (H.set a o) s { s with heap := h', toks := t } := by
  refine ⟨fun b ob e hb => (hs b fun q => by rw [q, ho] at hb; cases hb).trans e, fun b hb => ?_⟩
  by_cases q : b = a
  · subst q; exact .inl (by rw [ho]; intro z; cases z)
  · rw [AHeap.set_ne _ _ q] at hb; exact .inl hb
theorem Rep.grow {C : Cfg} {H : AHeap} {s : Shared} {h' : Heap} {t : Nat} (r : Rep C H s) (k : ∀ b o, s.heap.get? b = some o → h'.get? b = some o) : Rep C H { s with heap := h', toks := t } :=
  ⟨fun b o e => k b o (r.keep b o e), fun a o e => let ⟨h1, h2, ob, h3, h4⟩ := r.obj a o e; ⟨h1, h2, ob, k a ob h3, h4⟩, r.gens, r.os⟩
theorem Step.grow (H : AHeap) {s : Shared} {h' : Heap} {t : Nat} (k : ∀ b o, s.heap.get? b = some o → h'.get? b = some o) : Step H H s { s with heap := h', toks := t } :=
  ⟨fun b o e _ => k b o e, fun _ h => .inl h⟩
theorem Rep.new {C : Cfg} {H : AHeap} {s : Shared} {h' : Heap} {t : Nat} {a : Addr} {o : AO} {ob : Obj} (r : Rep C H s) (k : ∀ b o, s.heap.get? b = some o → h'.get? b = some o)
    (ha : s.heap.get? a = none) (hm : a ≠ sysModules) (hg : h'.get? a = some ob) (hr : RepO C o ob) : Rep C (H.set a o) { s with heap := h', toks := t } := by
  refine ⟨fun b o e => k b o (r.keep b o e), fun b ob2 e => ?_, r.gens, r.os⟩
  by_cases q : b = a
  · subst q
    rw [AHeap.set_self] at e; cases e
    refine ⟨?_, hm, ob, hg, hr⟩
    cases q : C.base.get? b with
    | none => rfl
    | some o' => rw [r.keep b o' q] at ha; cases ha
  · rw [AHeap.set_ne _ _ q] at e
    obtain ⟨h1, h2, ob3, h3, h4⟩ := r.obj b ob2 e
    exact ⟨h1, h2, ob3, k b ob3 h3, h4⟩
theorem Step.new {H : AHeap} {s : Shared} {h' : Heap} {t : Nat} {a : Addr} {o : AO} (k : ∀ b o, s.heap.get? b = some o → h'.get? b = some o) (ha : s.heap.get? a = none) :
    Step H (H.set a o) s { s with heap := h', toks := t } := by
  refine ⟨fun b ob e _ => k b ob e, fun b hb => ?_⟩
  by_cases q : b = a
  · subst q; exact .inr ha
  · rw [AHeap.set_ne _ _ q] at hb; exact .inl hb
end Mine
end
section
open PySem PySem.W PyProof.Rows
namespace Mine
noncomputable abbrev Loc := Str → Option AV
noncomputable def upd (ρ : Loc) (x : Str) (v : AV) : Loc := fun y => if y = x then some v else ρ y
noncomputable def own (env : Env) (b : Addr) : Prop := b = env.locals ∨ ∃ x, env.cells.lookup x = some b
structure Frm (C : Cfg) (env : Env) (ρ : Loc) (H : AHeap) (s : Shared) : Prop where
  kind : env.scope.kind = .function
  hg : env.globals = mainGlobals
  hb : env.builtins = builtinsNs
  hL : H env.locals = none
  bL : C.base.get? env.locals = none
  ns : ∃ m, s.heap.Ns env.locals m ∧ ∀ x v, env.kindOf x = some .local → ρ x = some v → ∃ cv, m x = some cv ∧ RepV v cv
  cells : ∀ x c, env.cells.lookup x = some c → c ≠ env.locals ∧ H c = none ∧ C.base.get? c = none ∧
    ∃ v, s.heap.IsCell c v ∧ ∀ av, ρ x = some av → env.kindOf x ≠ some .local → ∃ cv, v = some cv ∧ RepV av cv
  has : ∀ x, (env.kindOf x = some .cell ∨ env.kindOf x = some .free) → (env.cells.lookup x).isSome = true
  apart : ∀ x y c, env.cells.lookup x = some c → env.cells.lookup y = some c → x = y
theorem ns_get {h : Heap} {L : Addr} {m : Str → Option Value} (x : h.Ns L m) : ∃ o, h.get? L = some o ∧ ∀ vs, o.data ≠ .fields vs := by
  obtain ⟨o, es, ep, ho, hd, _⟩ := x
  exact ⟨o, ho, fun vs e => by rw [hd] at e; cases e⟩
theorem cell_get {h : Heap} {c : Addr} {v : Option Value} (x : h.IsCell c v) : ∃ o, h.get? c = some o ∧ ∀ vs, o.data ≠ .fields vs := by
  obtain ⟨o, ho, hd⟩ := x
  exact ⟨o, ho, fun vs e => by rw [hd] at e; cases e⟩
theorem Frm.own_nf {C : Cfg} {env : Env} {ρ : Loc} {H : AHeap} {s : Shared} (F : Frm C env ρ H s) {b : Addr} (h : own env b) : ∃ o, s.heap.get? b = some o ∧ ∀ vs, o.data ≠ .fields vs := by
  rcases h with rfl | ⟨x, hx⟩
  · obtain ⟨m, hm, _⟩ := F.ns; exact ns_get hm
  · obtain ⟨_, _, _, v, hv, _⟩ := F.cells x b hx; exact cell_get hv
theorem Frm.own_H {C : Cfg} {env : Env} {ρ : Loc} {H : AHeap} {s : Shared} (F : Frm C env ρ H s) {b : Addr} (h : own env b) : H b = none := by
  rcases h with rfl | ⟨x, hx⟩
  · exact F.hL
  · exact (F.cells x b hx).2.1
theorem Frm.own_base {C : Cfg} {env : Env} {ρ : Loc} {H : AHeap} {s : Shared} (F : Frm C env ρ H s) {b : Addr} (h : own env b) : C.base.get? b = none := by
  rcases h with rfl | ⟨x, hx⟩
  · exact F.bL
  · exact (F.cells x b hx).2.2.1
theorem Frm.step {C : Cfg} {env : Env} {ρ : Loc} {H H' : AHeap} {s s' : Shared} (F : Frm C env ρ H s) (y : Step H H' s s') : Frm C env ρ H' s' := by
  obtain ⟨m, ⟨o, es, ep, ho, hd, hk, hf⟩, hv⟩ := F.ns
  refine ⟨F.kind, F.hg, F.hb, step_none y F.hL ho, F.bL, ⟨m, ⟨o, es, ep, y.keep _ o ho F.hL, hd, hk, hf⟩, hv⟩, fun x c hc => ?_, F.has, F.apart⟩
  obtain ⟨h1, h2, h3, v, ⟨oc, hoc, hdc⟩, h5⟩ := F.cells x c hc
  exact ⟨h1, step_none y h2 hoc, h3, v, ⟨oc, y.keep _ oc hoc h2, hdc⟩, h5⟩
structure StepP (P : Addr → Prop) (H H' : AHeap) (s s' : Shared) : Prop where
  keep : ∀ b o, s.heap.get? b = some o → H b = none → ¬ P b → s'.heap.get? b = some o
  fresh : ∀ a, H' a ≠ none → H a ≠ none ∨ s.heap.get? a = none
  out : ∀ b, P b → H' b = none
noncomputable abbrev StepO (env : Env) := StepP (own env)
theorem StepP.of {P : Addr → Prop} {H H' : AHeap} {s s' : Shared} (hP : ∀ b, P b → H b = none ∧ s.heap.get? b ≠ none) (x : Step H H' s s') : StepP P H H' s s' := by
  refine ⟨fun b o e hb _ => x.keep b o e hb, x.fresh, fun b hb => ?_⟩
  obtain ⟨h1, h2⟩ := hP b hb
  cases q : s.heap.get? b with
  | none => exact absurd q h2
  | some o => exact step_none x h1 q
theorem StepO.of {env : Env} {H H' : AHeap} {s s' : Shared} {C : Cfg} {ρ : Loc} (F : Frm C env ρ H s) (x : Step H H' s s') : StepO env H H' s s' :=
  StepP.of (fun b hb => ⟨F.own_H hb, by obtain ⟨o, ho, _⟩ := F.own_nf hb; rw [ho]; intro z; cases z⟩) x
theorem StepP.trans {P : Addr → Prop} {H H1 H2 : AHeap} {s s1 s2 : Shared} (x : StepP P H H1 s s1) (y : StepP P H1 H2 s1 s2) : StepP P H H2 s s2 := by
  have non : ∀ b o, s.heap.get? b = some o → H b = none → ¬ P b → H1 b = none := fun b o e hb ho => by
    cases q : H1 b with
    | none => rfl
    | some o' =>
      rcases x.fresh b (by rw [q]; intro z; cases z) with h | h
      · exact absurd hb h
      · rw [e] at h; cases h
  refine ⟨fun b o e hb ho => y.keep b o (x.keep b o e hb ho) (non b o e hb ho) ho, fun a ha => ?_, y.out⟩
  rcases y.fresh a ha with h | h
  · exact x.fresh a h
  · cases q : H a with
    | some o' => exact .inl (by intro z; cases z)
    | none =>
      right
      cases q2 : s.heap.get? a with
      | none => rfl
      | some o =>
        by_cases hw : P a
        · exact absurd (y.out a hw) ha
        · have := x.keep a o q2 q hw; rw [h] at this; cases this
theorem StepP.less {P P' : Addr → Prop} {H H' : AHeap} {s s' : Shared} (x : StepP P H H' s s') (h : ∀ b, P b → P' b ∨ s.heap.get? b = none) (h' : ∀ b, P' b → P b) : StepP P' H H' s s' :=
  ⟨fun b o e hb hn => x.keep b o e hb fun q => (h b q).elim hn fun z => (by rw [e] at z; cases z), x.fresh, fun b hb => x.out b (h' b hb)⟩
theorem StepP.toStep {P : Addr → Prop} {H H' : AHeap} {s s' : Shared} (x : StepP P H H' s s') (h : ∀ b, P b → s.heap.get? b = none) : Step H H' s s' :=
  ⟨fun b o e hb => x.keep b o e hb fun q => (by rw [h b q] at e; cases e), x.fresh⟩
theorem Ok.stepP {C : Cfg} {n : Nat} {A : Around} {P : Addr → Prop} {H H' : AHeap} {s s' : Shared} (x : Ok C n A H s)
    (hP : ∀ b, P b → s.heap.get? b = none ∨ ((∃ o, s.heap.get? b = some o ∧ ∀ vs, o.data ≠ .fields vs) ∧ ∃ o, s'.heap.get? b = some o ∧ ∀ vs, o.data ≠ .fields vs))
    (y : StepP P H H' s s') (r : Rep C H' s') : Ok C n A H' s' := by
  have non : ∀ b o, s.heap.get? b = some o → H b = none → H' b = none := fun b o e hb => by
    cases q : H' b with
    | none => rfl
    | some o' =>
      rcases y.fresh b (by rw [q]; intro z; cases z) with h | h
      · exact absurd hb h
      · rw [e] at h; cases h
  refine ⟨r, x.depth, x.units, ?_, ?_, x.len⟩
  · rcases x.hd with h | ⟨e, o, vs, h1, h2, h3, h4, h5⟩
    · exact .inl h
    · refine .inr ⟨e, o, vs, h1, non e o h3 h2, y.keep e o h3 h2 fun hw => ?_, h4, h5⟩
      rcases hP e hw with z | ⟨⟨o', ho', hn⟩, _⟩
      · rw [h3] at z; cases z
      · rw [h3] at ho'; cases ho'; exact hn vs h4
  · obtain ⟨outer, h1, h2, h3⟩ := x.fr
    refine ⟨outer, h1, ?_, fun env' he a ha => ?_⟩
    · clear h1
      induction outer with
      | nil => trivial
      | cons env' rest ih =>
        obtain ⟨hk, ⟨L, o, hf, hn, ho, hd⟩, hr⟩ := h2
        refine ⟨hk, ?_, ih hr fun e he => h3 e (.tail _ he)⟩
        by_cases hw : P L
        · rcases hP L hw with z | ⟨_, o', ho', hn'⟩
          · rw [ho] at z; cases z
          · exact ⟨L, o', hf, hn, ho', hn'⟩
        · exact ⟨L, o, hf, hn, y.keep L o ho (h3 env' (.head _) L hf) hw, hd⟩
    · obtain ⟨L, o, hf, ho⟩ := funFrames_in' h2 env' he
      rw [hf] at ha; cases ha
      exact non _ o ho (h3 env' he _ hf)
theorem Ok.stepO {C : Cfg} {n : Nat} {A : Around} {env : Env} {ρ ρ' : Loc} {H H' : AHeap} {s s' : Shared} (x : Ok C n A H s) (F : Frm C env ρ H s) (F' : Frm C env ρ' H' s') (y : StepO env H H' s s') (r : Rep C H' s') : Ok C n A H' s' :=
  x.stepP (fun _ hb => .inr ⟨F.own_nf hb, F'.own_nf hb⟩) y r
theorem Frm.load {C : Cfg} {env : Env} {ρ : Loc} {H : AHeap} {s : Shared} {M : Model} {A : Around} {E : Value → Shared → Prop} {x : Str} {v : AV} {Q : Value → Shared → Prop} (F : Frm C env ρ H s)
    (hk : env.kindOf x = some .local ∨ env.kindOf x = some .cell ∨ (env.kindOf x = some .free ∧ (x == ("__classdict__" : Str)) = false)) (hv : ρ x = some v) (h : ∀ cv, RepV v cv → Q cv s) : wpAny M A (loadName env x) Q E s := by
  rcases hk with hk | hk | ⟨hk, hn⟩
  · obtain ⟨m, hm, hf⟩ := F.ns
    obtain ⟨cv, h1, h2⟩ := hf x v hk hv
    exact wpAny_loadName_local F.kind hk hm h1 (h cv h2)
  · obtain ⟨c, hc⟩ := Option.isSome_iff_exists.mp (F.has x (.inl hk))
    obtain ⟨_, _, _, w, hw, hf⟩ := F.cells x c hc
    obtain ⟨cv, rfl, h2⟩ := hf v hv (by rw [hk]; decide)
    exact wpAny_loadName_cell F.kind hk hc hw (h cv h2)
  · obtain ⟨c, hc⟩ := Option.isSome_iff_exists.mp (F.has x (.inr hk))
    obtain ⟨_, _, _, w, hw, hf⟩ := F.cells x c hc
    obtain ⟨cv, rfl, h2⟩ := hf v hv (by rw [hk]; decide)
    exact wpAny_loadName_free F.kind hk hc hw (h cv h2) hn
theorem Frm.store {C : Cfg} {env : Env} {ρ : Loc} {H : AHeap} {s : Shared} {M : Model} {A : Around} {E : Value → Shared → Prop} {x : Str} {v : AV} {cv : Value} {Q : Unit → Shared → Prop} (F : Frm C env ρ H s) (r : Rep C H s)
    (hk : env.kindOf x = some .local ∨ env.kindOf x = some .cell) (hv : RepV v cv)
    (h : ∀ s', Rep C H s' → Frm C env (upd ρ x v) H s' → StepO env H H s s' → Q () s') : wpAny M A (storeName env x cv) Q E s := by
  have rep' : ∀ (a : Addr) (h' : Heap) (t : Nat), own env a → Heap.SameBut a s.heap h' → Rep C H { s with heap := h', toks := t } := fun a h' t ha hs => by
    refine ⟨fun b o e => ?_, fun b o e => ?_, r.gens, r.os⟩
    · exact (hs.2 b fun q => by rw [q, F.own_base ha] at e; cases e).trans (r.keep b o e)
    · obtain ⟨h1, h2, ob, h3, h4⟩ := r.obj b o e
      exact ⟨h1, h2, ob, (hs.2 b fun q => by rw [q, F.own_H ha] at e; cases e).trans h3, h4⟩
  have stp : ∀ (a : Addr) (h' : Heap) (t : Nat), own env a → Heap.SameBut a s.heap h' → StepO env H H s { s with heap := h', toks := t } := fun a h' t ha hs =>
    ⟨fun b o e _ hb => (hs.2 b fun q => hb (q ▸ ha)).trans e, fun _ z => .inl z, fun b hb => F.own_H hb⟩
  rcases hk with hk | hk
  · obtain ⟨m, hm, hf⟩ := F.ns
    refine wpAny_storeName_local hk hm (fun h' hn hs => h _ (rep' _ _ _ (.inl rfl) hs) ⟨F.kind, F.hg, F.hb, F.hL, F.bL, ⟨_, hn, fun y w hy hw => ?_⟩, fun y c hc => ?_, F.has, F.apart⟩ (stp _ _ _ (.inl rfl) hs)) (by rw [F.kind]; rfl)
    · by_cases q : y = x
      · subst q
        simp only [upd, if_true] at hw ⊢
        cases hw; exact ⟨cv, rfl, hv⟩
      · simp only [upd, if_neg q] at hw ⊢
        exact hf y w hy hw
    · obtain ⟨h1, h2, h3, w, ⟨oc, hoc, hdc⟩, h5⟩ := F.cells y c hc
      refine ⟨h1, h2, h3, w, ⟨oc, (hs.2 c h1).trans hoc, hdc⟩, fun av ha hnl => h5 av ?_ hnl⟩
      have q : y ≠ x := fun q => hnl (q ▸ hk)
      simpa only [upd, if_neg q] using ha
  · obtain ⟨c, hc⟩ := Option.isSome_iff_exists.mp (F.has x (.inl hk))
    obtain ⟨c1, c2, c3, w, hw, hf⟩ := F.cells x c hc
    refine wpAny_storeName_cell F.kind hk hc hw fun h' hc' hs => h _ (rep' c _ _ (.inr ⟨x, hc⟩) hs) ⟨F.kind, F.hg, F.hb, F.hL, F.bL, ?_, fun y d hd => ?_, F.has, F.apart⟩ (stp c _ _ (.inr ⟨x, hc⟩) hs)
    · obtain ⟨m, hm, hf⟩ := F.ns
      refine ⟨m, hm.sameBut hs (Ne.symm c1), fun y w hy hw' => hf y w hy ?_⟩
      have q : y ≠ x := fun q => by rw [q, hk] at hy; cases hy
      simpa only [upd, if_neg q] using hw'
    · obtain ⟨h1, h2, h3, w', hw', h5⟩ := F.cells y d hd
      by_cases q : y = x
      · subst q
        rw [hc] at hd; cases hd
        exact ⟨h1, h2, h3, some cv, hc', fun av ha _ => ⟨cv, rfl, by simp only [upd, if_true] at ha; cases ha; exact hv⟩⟩
      · have hne : d ≠ c := fun e => q (F.apart y x c (e ▸ hd) hc)
        refine ⟨h1, h2, h3, w', hw'.sameBut hs hne, fun av ha hnl => h5 av ?_ hnl⟩
        simpa only [upd, if_neg q] using ha
noncomputable def QV (C : Cfg) (H : AHeap) (s : Shared) (Q : AV → AHeap → Prop) : Value → Shared → Prop := fun v s' => ∃ av H', RepV av v ∧ Rep C H' s' ∧ Step H H' s s' ∧ Q av H'
inductive QP (C : Cfg) {α β : Type} (R : β → α → Prop) (H : AHeap) (s : Shared) (Q : β → AHeap → Prop) (v : α) (s' : Shared) : Prop where
  | mk (b : β) (H' : AHeap) (h1 : R b v) (h2 : Rep C H' s') (h3 : Step H H' s s') (h4 : Q b H')
noncomputable def ExcIn (h base : Heap) (ea : Addr) (cls : Value) (fl : Option Value) : Prop :=
  ∃ oe vs, h.get? ea = some oe ∧ oe.cls = cls ∧ oe.data = .fields vs ∧ vs[2]? = some .none ∧ (match fl with
    | none => vs[1]? = some .none
    | some f => ∃ T oT ts, vs[1]? = some (.ref T) ∧ base.get? T = none ∧ T ≠ ea ∧ h.get? T = some oT ∧ oT.data = .fields ts ∧ ts[3]? = some f)
structure FlyB (C : Cfg) (H : AHeap) (outer : List Env) (ea : Addr) (B h : Heap) : Prop where
  base : ∀ b o, C.base.get? b = some o → B.get? b = some o
  obj : ∀ a o, H a = some o → C.base.get? a = none ∧ a ≠ sysModules ∧ ∃ ob, B.get? a = some ob ∧ RepO C o ob
  stays : ∀ b o, B.get? b = some o → h.get? b = some o
  new : B.get? ea = none
  fr : h.FunFrames B outer
noncomputable def FlyN (C : Cfg) (A : Around) (H : AHeap) (P : Heap → Prop) (e : Value) (s : Shared) : Prop :=
  ∃ B outer ea fl, P B ∧ A.frames = some outer ∧ e = .ref ea ∧ FlyB C H outer ea B s.heap ∧ ExcIn s.heap B ea (.ref C.cf) fl ∧
    (fl = none ∨ fl = some .none ∨ ∃ env rest L, outer = env :: rest ∧ env.frame = some L ∧ fl = some (rawInt L))
theorem FlyN.mono {C : Cfg} {A : Around} {H : AHeap} {P P' : Heap → Prop} {e : Value} {s : Shared} (x : FlyN C A H P e s) (h : ∀ B, P B → P' B) : FlyN C A H P' e s :=
  let ⟨B, l, ea, fl, h0, r⟩ := x; ⟨B, l, ea, fl, h B h0, r⟩
noncomputable def noFr (A : Around) (b : Addr) : Prop := ∀ l, A.frames = some l → ∀ env ∈ l, env.frame ≠ some b
noncomputable def KpX (A : Around) (H : AHeap) (s : Shared) (B : Heap) : Prop := ∀ b o, s.heap.get? b = some o → H b = none → noFr A b → B.get? b = some o
noncomputable def KpO (A : Around) (env : Env) (H : AHeap) (s : Shared) (B : Heap) : Prop := ∀ b o, s.heap.get? b = some o → H b = none → ¬ own env b → noFr A b → B.get? b = some o
structure XP (C : Cfg) (A : Around) (H : AHeap) (s : Shared) (X : AHeap → Prop) (e : Value) (s' : Shared) : Prop where
  fly : ∃ H', FlyN C A H' (KpX A H s) e s' ∧ Rep C H' s' ∧ (∀ a, H' a ≠ none → H a ≠ none ∨ s.heap.get? a = none) ∧ X H'
  keep : ∀ b o, s.heap.get? b = some o → H b = none → (∀ vs, o.data ≠ .fields vs) → ∃ sl, s'.heap.get? b = some { o with slots := sl }
theorem XP.pre {C : Cfg} {A : Around} {H H1 : AHeap} {s s1 : Shared} {X : AHeap → Prop} {e : Value} {s' : Shared} (y : Step H H1 s s1) (x : XP C A H1 s1 X e s') : XP C A H s X e s' := by
  obtain ⟨⟨H', h1, h2, h3, h4⟩, hk⟩ := x
  refine ⟨⟨H', h1.mono fun B hB b o e hb hf => hB b o (y.keep b o e hb) (step_none y hb e) hf, h2, fun a ha => ?_, h4⟩, fun b o e hb hn => hk b o (y.keep b o e hb) (step_none y hb e) hn⟩
  rcases h3 a ha with h | h
  · exact y.fresh a h
  · cases q : H a with
    | some o' => exact .inl (by intro z; cases z)
    | none =>
      right
      cases q2 : s.heap.get? a with
      | none => rfl
      | some o => have := y.keep a o q2 q; rw [h] at this; cases this
noncomputable def SV (C : Cfg) (n : Nat) {α β : Type} (R : β → α → Prop) (t : Sem α) (H : AHeap) (Q : β → AHeap → Prop) : Prop :=
  ∀ A E s, Ok C n A H s → wpAny (model C.prog C.w) A t (QP C R H s Q) E s
noncomputable def JE (C : Cfg) (n : Nat) (X : AHeap → Prop) (env : Env) (e : Expr) (ρ : Loc) (H : AHeap) (Q : AV → AHeap → Prop) : Prop :=
  ∀ A s, Ok C n A H s → Frm C env ρ H s → wpAny (model C.prog C.w) A (eval e env) (QP C RepV H s Q) (XP C A H s X) s
theorem QP.post {C : Cfg} {α β : Type} {R : β → α → Prop} {H H1 : AHeap} {s s1 : Shared} {Q : β → AHeap → Prop} {v : α} {s' : Shared} (y : Step H H1 s s1) (x : QP C R H1 s1 Q v s') : QP C R H s Q v s' :=
  let ⟨b, H', h1, h2, h3, h4⟩ := x; ⟨b, H', h1, h2, y.trans h3, h4⟩
theorem seqQ {C : Cfg} {A : Around} {α β γ δ : Type} {R : β → α → Prop} {R' : δ → γ → Prop} {t : Sem α} {k : α → Sem γ} {H : AHeap} {s : Shared} {X : AHeap → Prop} {Q : β → AHeap → Prop} {Q' : δ → AHeap → Prop}
    (h : wpAny (model C.prog C.w) A t (QP C R H s Q) (XP C A H s X) s)
    (h' : ∀ v b s1 H1, R b v → Rep C H1 s1 → Step H H1 s s1 → Q b H1 → wpAny (model C.prog C.w) A (k v) (QP C R' H1 s1 Q') (XP C A H1 s1 X) s1) :
    wpAny (model C.prog C.w) A (t >>= k) (QP C R' H s Q') (XP C A H s X) s := by
  refine wpAny_bind (wpAny_mono h (fun v s1 x => ?_) fun _ _ z => z)
  obtain ⟨b, H1, h1, h2, h3, h4⟩ := x
  exact wpAny_mono (h' v b s1 H1 h1 h2 h3 h4) (fun _ _ z => z.post h3) fun _ _ z => z.pre h3
theorem contQ {C : Cfg} {A : Around} {α β γ δ : Type} {R : β → α → Prop} {R' : δ → γ → Prop} {t : Sem α} {k : α → Sem γ} {H : AHeap} {s : Shared} {X : AHeap → Prop} {Q : β → AHeap → Prop} {Q' : δ → AHeap → Prop}
    (h : wpAny (model C.prog C.w) A t (QP C R H s Q) (XP C A H s X) s)
    (h' : ∀ v b s1 H1, R b v → Rep C H1 s1 → Step H H1 s s1 → Q b H1 → wpAny (model C.prog C.w) A (k v) (QP C R' H1 s1 Q') (XP C A H1 s1 X) s1) :
    wpAny (model C.prog C.w) A t (fun v s1 => wpAny (model C.prog C.w) A (k v) (QP C R' H s Q') (XP C A H s X) s1) (XP C A H s X) s := by
  refine wpAny_mono h (fun v s1 x => ?_) fun _ _ z => z
  obtain ⟨b, H1, h1, h2, h3, h4⟩ := x
  exact wpAny_mono (h' v b s1 H1 h1 h2 h3 h4) (fun _ _ z => z.post h3) fun _ _ z => z.pre h3
end Mine
end
section
open PySem PySem.W PyProof.Rows
namespace Mine
inductive BF where | len | list | dict | range | sorted | sum
inductive BM where | append | lpop | dpop | get | update
noncomputable def BF.name : BF → Str
  | .len => "len" | .list => "list" | .dict => "dict" | .range => "range" | .sorted => "sorted" | .sum => "sum"
noncomputable def BM.name : BM → Str
  | .append => "append" | .lpop => "pop" | .dpop => "pop" | .get => "get" | .update => "update"
set_option genInjectivity false in
set_option genSizeOf false in
mutual
inductive PE where
  | var (x : Nat)
  | int (i : Int) | bool (b : Bool) | none | neg (i : Int)
  | bin (op : Operator) (a b : PE)
  | not (a : PE)
  | cmp (op : CmpOp) (a b : PE)
  | and (es : PEs) | or (es : PEs)
  | ite (t a b : PE)
  | attr (a : PE) (f : Str)
  | sub (a i : PE)
  | slHi (a hi : PE)
  | rev (a : PE)
  | list (es : PEs) | tup (es : PEs) | dict0
  | call (f : Str) (args : PEs)
  | meth (o : PE) (m : Str) (args : PEs)
  | callB (b : BF) (args : PEs)
  | methB (m : BM) (o : PE) (args : PEs)
  | lcomp (elt : PE) (x : Nat) (src : PE) (cond : PEs)
  | dcomp (k v : PE) (x : Nat) (src : PE) (cond : PEs)
inductive PEs where
  | nil | cons (e : PE) (r : PEs)
end
set_option genInjectivity false in
set_option genSizeOf false in
mutual
inductive PS where
  | assign (x : Nat) (e : PE)
  | assignT (xs : List Nat) (e : PE)
  | assignTT (xs : List Nat) (es : PEs)
  | setattr (o : PE) (f : Str) (e : PE)
  | setsub (o i e : PE)
  | expr (e : PE)
  | ret (e : PE)
  | ifS (t : PE) (a b : PSs)
  | while (t : PE) (b : PSs)
  | for1 (x : Nat) (it : PE) (b : PSs)
  | forT (xs : List Nat) (it : PE) (b : PSs)
  | forX (x : Nat) (it : PE) (b : PSs)
  | cont
  | raiseCF (w : Str)
  | tryA (xs : List Nat) (e : PE) (h : PE)
inductive PSs where
  | nil | cons (s : PS) (r : PSs) | join (s : PS) (keep : List Nat) (r : PSs)
end
noncomputable def PEs.len : PEs → Nat
  | .nil => 0
  | .cons _ r => r.len + 1
noncomputable abbrev Sc := List (Str × NameKind)
noncomputable def isVar (sc : Sc) (x : Str) : Bool :=
  (sc.lookup x == some .local || sc.lookup x == some .cell || (sc.lookup x == some .free && !(x == ("__classdict__" : Str)))) && !(x == ("__debug__" : Str))
noncomputable def isGlob (sc : Sc) (x : Str) : Bool := sc.lookup x == some .globalImplicit && !(x == ("__debug__" : Str))
noncomputable def isSt (sc : Sc) (x : Str) : Bool := sc.lookup x == some .local || sc.lookup x == some .cell
noncomputable def inner (sc names : Sc) : Sc := names.map fun p => if p.2 == .free && sc.lookup p.1 == some .cell then (p.1, .cell) else p
noncomputable def compOk (sc names : Sc) (x : Str) : Bool :=
  names.lookup x == some .local && names.all (fun p => p.2 != .cell && (p.2 != .local || (names.lookup p.1 == some .local && (p.1 == x || p.1 == (".0" : Str)))) && (p.2 != .free || (sc.lookup p.1 == some .cell || sc.lookup p.1 == some .free)))
noncomputable def ix : List Str → Str → Option Nat
  | [], _ => none
  | y :: r, x => if x = y then some 0 else (ix r x).map (· + 1)
noncomputable def nm (ns : List Str) (i : Nat) : Str := ns.getD i default
noncomputable def okI (ns : List Str) (i : Nat) : Bool := ix ns (nm ns i) == some i
noncomputable def gKids : List Comprehension → List PySem.Expr
  | [] => []
  | g :: _ => g.target :: g.iter :: g.ifs
noncomputable def kids : PySem.Expr → List PySem.Expr
  | .BoolOp _ es _ => es | .BinOp l _ r _ => [l, r] | .UnaryOp _ a _ => [a] | .IfExp t a b _ => [t, a, b]
  | .ListComp e gs _ _ => e :: gKids gs | .DictComp k v gs _ _ => k :: v :: gKids gs
  | .Compare l _ rs _ => l :: rs | .Call f xs _ _ => f :: xs | .Attribute v _ _ => [v] | .Subscript v s _ => [v, s]
  | .List es _ => es | .Tuple es _ _ => es | .Slice _ u s _ => u.toList ++ s.toList | _ => []
noncomputable def kOf : PySem.Expr → Nat
  | .Constant _ k _ => k | .Tuple _ k _ => k | _ => 0
noncomputable def scOf : PySem.Expr → Scope
  | .ListComp _ _ s _ => s | .DictComp _ _ _ s _ => s | _ => default
noncomputable def cN (i : Nat) (h : PySem.Expr) : PySem.Expr := (kids h).getD i default
mutual
noncomputable def toE (ns : List Str) : PE → PySem.Expr → PySem.Expr
  | .var x, h => .Name (nm ns x) h.pos
  | .int i, h => .Constant (.int i) (kOf h) h.pos
  | .bool b, h => .Constant (.bool b) (kOf h) h.pos
  | .none, h => .Constant .none (kOf h) h.pos
  | .neg i, h => .UnaryOp .USub (.Constant (.int i) (kOf (cN 0 h)) (cN 0 h).pos) h.pos
  | .bin op a b, h => .BinOp (toE ns a (cN 0 h)) op (toE ns b (cN 1 h)) h.pos
  | .not a, h => .UnaryOp .Not (toE ns a (cN 0 h)) h.pos
  | .cmp op a b, h => .Compare (toE ns a (cN 0 h)) [op] [toE ns b (cN 1 h)] h.pos
  | .and es, h => .BoolOp .And (toEs ns es (kids h)) h.pos
  | .or es, h => .BoolOp .Or (toEs ns es (kids h)) h.pos
  | .ite t a b, h => .IfExp (toE ns t (cN 0 h)) (toE ns a (cN 1 h)) (toE ns b (cN 2 h)) h.pos
  | .attr a f, h => .Attribute (toE ns a (cN 0 h)) f h.pos
  | .sub a i, h => .Subscript (toE ns a (cN 0 h)) (toE ns i (cN 1 h)) h.pos
  | .slHi a u, h => .Subscript (toE ns a (cN 0 h)) (.Slice none (some (toE ns u (cN 0 (cN 1 h)))) none (cN 1 h).pos) h.pos
  | .rev a, h => .Subscript (toE ns a (cN 0 h)) (.Slice none none (some (.UnaryOp .USub (.Constant (.int 1) (kOf (cN 0 (cN 0 (cN 1 h)))) (cN 0 (cN 0 (cN 1 h))).pos) (cN 0 (cN 1 h)).pos)) (cN 1 h).pos) h.pos
  | .list es, h => .List (toEs ns es (kids h)) h.pos
  | .tup es, h => .Tuple (toEs ns es (kids h)) (kOf h) h.pos
  | .dict0, h => .Dict [] [] h.pos
  | .call f es, h => .Call (.Name f (cN 0 h).pos) (toEs ns es (kids h).tail) [] h.pos
  | .meth o m es, h => .Call (.Attribute (toE ns o (cN 0 (cN 0 h))) m (cN 0 h).pos) (toEs ns es (kids h).tail) [] h.pos
  | .callB b es, h => .Call (.Name b.name (cN 0 h).pos) (toEs ns es (kids h).tail) [] h.pos
  | .methB m o es, h => .Call (.Attribute (toE ns o (cN 0 (cN 0 h))) m.name (cN 0 h).pos) (toEs ns es (kids h).tail) [] h.pos
  | .lcomp e x s c, h => .ListComp (toE ns e (cN 0 h)) [⟨.Name (nm ns x) (cN 1 h).pos, toE ns s (cN 2 h), toEs ns c ((kids h).drop 3), 0⟩] (scOf h) h.pos
  | .dcomp k v x s c, h => .DictComp (toE ns k (cN 0 h)) (toE ns v (cN 1 h)) [⟨.Name (nm ns x) (cN 2 h).pos, toE ns s (cN 3 h), toEs ns c ((kids h).drop 4), 0⟩] (scOf h) h.pos
noncomputable def toEs (ns : List Str) : PEs → List PySem.Expr → List PySem.Expr
  | .nil, _ => []
  | .cons e r, hs => toE ns e (hs.headD default) :: toEs ns r hs.tail
end
noncomputable def isVA : PE → Bool
  | .var _ => true | .attr .. => true | _ => false
noncomputable def isVAS : PE → Bool
  | .var _ => true | .attr .. => true | .sub .. => true | _ => false
noncomputable def plainPE : PE → Bool
  | .lcomp .. => false | .dcomp .. => false | _ => true
noncomputable def noTup : PE → Bool
  | .tup .. => false | _ => true
mutual
noncomputable def ckE (ns : List Str) : Sc → PE → PySem.Expr → Bool
  | sc, .var x, _ => isVar sc (nm ns x) && okI ns x
  | _, .int _, _ => true
  | _, .bool _, _ => true
  | _, .none, _ => true
  | _, .neg _, _ => true
  | sc, .bin _ a b, h => ckE ns sc a (cN 0 h) && ckE ns sc b (cN 1 h)
  | sc, .not a, h => ckE ns sc a (cN 0 h)
  | sc, .cmp op a b, h => ckE ns sc a (cN 0 h) && (ckE ns sc b (cN 1 h) && !(behindInMarks op (toE ns b (cN 1 h))))
  | sc, .and es, h => ckEs ns sc es (kids h)
  | sc, .or es, h => ckEs ns sc es (kids h)
  | sc, .ite t a b, h => ckE ns sc t (cN 0 h) && (ckE ns sc a (cN 1 h) && ckE ns sc b (cN 2 h))
  | sc, .attr a _, h => ckE ns sc a (cN 0 h) && isVA a
  | sc, .sub a i, h => ckE ns sc a (cN 0 h) && ckE ns sc i (cN 1 h)
  | sc, .slHi a u, h => ckE ns sc a (cN 0 h) && ckE ns sc u (cN 0 (cN 1 h))
  | sc, .rev a, h => ckE ns sc a (cN 0 h)
  | sc, .list es, h => ckEs ns sc es (kids h) && decide (es.len ≤ 1000)
  | sc, .tup es, h => ckEs ns sc es (kids h) && decide (es.len ≤ 1000)
  | _, .dict0, _ => true
  | sc, .call f es, h => ckEs ns sc es (kids h).tail && isGlob sc f
  | sc, .meth o _ es, h => ckE ns sc o (cN 0 (cN 0 h)) && (ckEs ns sc es (kids h).tail && ((cN 0 h).pos.endLine == h.pos.line && (decide (es.len < 20) && isVAS o)))
  | sc, .callB b es, h => ckEs ns sc es (kids h).tail && isGlob sc b.name
  | sc, .methB _ o es, h => ckE ns sc o (cN 0 (cN 0 h)) && (ckEs ns sc es (kids h).tail && ((cN 0 h).pos.endLine == h.pos.line && (decide (es.len < 20) && isVAS o)))
  | sc, .lcomp e x s c, h => ckE ns sc s (cN 2 h) && (ckE ns (inner sc (scOf h).names) e (cN 0 h) && (ckEs ns (inner sc (scOf h).names) c ((kids h).drop 3) && ((scOf h).kind == .function && (compOk sc (scOf h).names (nm ns x) && okI ns x && ix ns (".0" : Str) == none))))
  | sc, .dcomp k v x s c, h => ckE ns sc s (cN 3 h) && (ckE ns (inner sc (scOf h).names) k (cN 0 h) && (ckE ns (inner sc (scOf h).names) v (cN 1 h) && (ckEs ns (inner sc (scOf h).names) c ((kids h).drop 4) && ((scOf h).kind == .function && (compOk sc (scOf h).names (nm ns x) && okI ns x && ix ns (".0" : Str) == none)))))
noncomputable def ckEs (ns : List Str) : Sc → PEs → List PySem.Expr → Bool
  | _, .nil, _ => true
  | sc, .cons e r, hs => ckE ns sc e (hs.headD default) && ckEs ns sc r hs.tail
end
noncomputable def nmEs : List Str → List PySem.Expr → List PySem.Expr
  | [], _ => []
  | x :: xs, hs => .Name x (hs.headD default).pos :: nmEs xs hs.tail
noncomputable def kidsS : PySem.Stmt → List PySem.Expr
  | .Assign ts v _ => v :: ts | .For t it _ _ _ => [it, t] | .While t _ _ _ => [t] | .If t _ _ _ => [t] | .Return v _ => v.toList | .Expr v _ => [v] | .Raise e _ _ => e.toList | _ => []
noncomputable def bodS : PySem.Stmt → List PySem.Stmt
  | .For _ _ b _ _ => b | .While _ b _ _ => b | .If _ b _ _ => b | .Try b _ _ _ _ => b | _ => []
noncomputable def elsS : PySem.Stmt → List PySem.Stmt
  | .If _ _ b _ => b | _ => []
noncomputable def hndH : List PySem.ExceptHandler → Option PySem.Expr × List PySem.Stmt × Pos
  | .ExceptHandler t _ b p :: _ => (t, b, p)
  | [] => (none, [], default)
noncomputable def hndS : PySem.Stmt → Option PySem.Expr × List PySem.Stmt × Pos
  | .Try _ h _ _ _ => hndH h | _ => (none, [], default)
noncomputable def sN (i : Nat) (h : PySem.Stmt) : PySem.Expr := (kidsS h).getD i default
noncomputable def hdS (b : List PySem.Stmt) : PySem.Stmt := b.headD default
noncomputable def inN (sc : Sc) (ns : List Str) (xs : List Nat) : Bool := xs.all fun x => isSt sc (nm ns x) && okI ns x
mutual
noncomputable def toS (ns : List Str) : PS → PySem.Stmt → PySem.Stmt
  | .assign x e, h => .Assign [.Name (nm ns x) (sN 1 h).pos] (toE ns e (sN 0 h)) (h.pos)
  | .assignT xs e, h => .Assign [.Tuple (nmEs (xs.map (nm ns)) (kids (sN 1 h))) (kOf (sN 1 h)) (sN 1 h).pos] (toE ns e (sN 0 h)) (h.pos)
  | .assignTT xs es, h => .Assign [.Tuple (nmEs (xs.map (nm ns)) (kids (sN 1 h))) (kOf (sN 1 h)) (sN 1 h).pos] (.Tuple (toEs ns es (kids (sN 0 h))) (kOf (sN 0 h)) (sN 0 h).pos) (h.pos)
  | .setattr o f e, h => .Assign [.Attribute (toE ns o (cN 0 (sN 1 h))) f (sN 1 h).pos] (toE ns e (sN 0 h)) (h.pos)
  | .setsub o i e, h => .Assign [.Subscript (toE ns o (cN 0 (sN 1 h))) (toE ns i (cN 1 (sN 1 h))) (sN 1 h).pos] (toE ns e (sN 0 h)) (h.pos)
  | .expr e, h => .Expr (toE ns e (sN 0 h)) (h.pos)
  | .ret e, h => .Return (some (toE ns e (sN 0 h))) (h.pos)
  | .ifS t a b, h => .If (toE ns t (sN 0 h)) (toSs ns a (bodS h)) (toSs ns b (elsS h)) (h.pos)
  | .while t b, h => .While (toE ns t (sN 0 h)) (toSs ns b (bodS h)) [] (h.pos)
  | .for1 x it b, h => .For (.Name (nm ns x) (sN 1 h).pos) (toE ns it (sN 0 h)) (toSs ns b (bodS h)) [] (h.pos)
  | .forT xs it b, h => .For (.Tuple (nmEs (xs.map (nm ns)) (kids (sN 1 h))) (kOf (sN 1 h)) (sN 1 h).pos) (toE ns it (sN 0 h)) (toSs ns b (bodS h)) [] (h.pos)
  | .forX x it b, h => .For (.Name (nm ns x) (sN 1 h).pos) (toE ns it (sN 0 h)) (toSs ns b (bodS h)) [] (h.pos)
  | .cont, h => .Continue (h.pos)
  | .raiseCF w, h => .Raise (some (.Call (.Name ("CodeFault" : Str) (cN 0 (sN 0 h)).pos) [.Constant (.str w) (kOf (cN 1 (sN 0 h))) (cN 1 (sN 0 h)).pos] [] (sN 0 h).pos)) none (h.pos)
  | .tryA xs e r, h => .Try [.Assign [.Tuple (nmEs (xs.map (nm ns)) (kids (sN 1 (hdS (bodS h))))) (kOf (sN 1 (hdS (bodS h)))) (sN 1 (hdS (bodS h))).pos] (toE ns e (sN 0 (hdS (bodS h)))) (PySem.Stmt.pos (hdS (bodS h)))]
      [.ExceptHandler (some (.Name ("CodeFault" : Str) ((hndS h).1.getD default).pos)) none [.Return (some (toE ns r (sN 0 (hdS (hndS h).2.1)))) (PySem.Stmt.pos (hdS (hndS h).2.1))] (hndS h).2.2] [] [] (h.pos)
noncomputable def toSs (ns : List Str) : PSs → List PySem.Stmt → List PySem.Stmt
  | .nil, _ => []
  | .cons s r, hs => toS ns s (hdS hs) :: toSs ns r hs.tail
  | .join s _ r, hs => toS ns s (hdS hs) :: toSs ns r hs.tail
end
mutual
noncomputable def ckS (ns : List Str) (sc : Sc) : PS → PySem.Stmt → Bool
  | .assign x e, h => ckE ns sc e (sN 0 h) && (isSt sc (nm ns x) && okI ns x)
  | .assignT xs e, h => ckE ns sc e (sN 0 h) && (inN sc ns xs && (plainPE e && noTup e))
  | .assignTT xs es, h => ckEs ns sc es (kids (sN 0 h)) && (inN sc ns xs && ((!((toEs ns es (kids (sN 0 h))).all (constantsAlone 8)) || (toEs ns es (kids (sN 0 h))).all (foldedForSure 8)) && (decide ((xs.map (nm ns)).eraseDups.length = (xs.map (nm ns)).length) && (decide (es.len = xs.length) && decide (es.len ≤ 1000)))))
  | .setattr o _ e, h => ckE ns sc o (cN 0 (sN 1 h)) && (ckE ns sc e (sN 0 h) && plainPE e)
  | .setsub o i e, h => ckE ns sc o (cN 0 (sN 1 h)) && (ckE ns sc i (cN 1 (sN 1 h)) && (ckE ns sc e (sN 0 h) && plainPE e))
  | .expr e, h => ckE ns sc e (sN 0 h) && plainPE e
  | .ret e, h => ckE ns sc e (sN 0 h)
  | .ifS t a b, h => ckE ns sc t (sN 0 h) && (ckSs ns sc a (bodS h) && ckSs ns sc b (elsS h))
  | .while t b, h => ckE ns sc t (sN 0 h) && ckSs ns sc b (bodS h)
  | .for1 x it b, h => ckE ns sc it (sN 0 h) && (ckSs ns sc b (bodS h) && (isSt sc (nm ns x) && okI ns x))
  | .forT xs it b, h => ckE ns sc it (sN 0 h) && (ckSs ns sc b (bodS h) && inN sc ns xs)
  | .forX x it b, h => ckE ns sc it (sN 0 h) && (ckSs ns sc b (bodS h) && (isSt sc (nm ns x) && okI ns x))
  | .cont, _ => true
  | .raiseCF _, _ => isGlob sc ("CodeFault" : Str)
  | .tryA xs e r, h => ckE ns sc e (sN 0 (hdS (bodS h))) && (ckE ns sc r (sN 0 (hdS (hndS h).2.1)) && (inN sc ns xs && (plainPE e && (noTup e && isGlob sc ("CodeFault" : Str)))))
noncomputable def ckSs (ns : List Str) (sc : Sc) : PSs → List PySem.Stmt → Bool
  | .nil, _ => true
  | .cons s r, hs => ckS ns sc s (hdS hs) && ckSs ns sc r hs.tail
  | .join s _ r, hs => ckS ns sc s (hdS hs) && ckSs ns sc r hs.tail
end
end Mine
end
section
open PySem
set_option maxRecDepth 10000
namespace Mine
noncomputable def Pools_init : PSs :=
  (.cons (.setattr (.var 0) "all" (.bin .Add (.callB .list (.cons (.var 1) .nil)) (.callB .list (.cons (.var 2) .nil))))
  (.cons (.setattr (.var 0) "kept" (.callB .list (.cons (.var 2) .nil)))
  .nil))
noncomputable def m_Pools_init : List Str := ["self", "temps", "saved"]
noncomputable def Pools_of : PSs :=
  (.cons (.ret (.ite (.cmp .In (.var 2) (.attr (.var 1) "crosses")) (.attr (.var 0) "kept") (.attr (.var 0) "all")))
  .nil)
noncomputable def m_Pools_of : List Str := ["self", "graph", "register"]
noncomputable def Graph_init : PSs :=
  (.cons (.setattr (.var 0) "near" .dict0)
  (.cons (.setattr (.var 0) "crosses" .dict0)
  (.cons (.setattr (.var 0) "cost" .dict0)
  (.cons (.setattr (.var 0) "copies" (.list .nil))
  (.cons (.setattr (.var 0) "alias" .dict0)
  .nil)))))
noncomputable def m_Graph_init : List Str := ["self"]
noncomputable def Graph_add : PSs :=
  (.cons (.ifS (.cmp .NotIn (.var 1) (.attr (.var 0) "near")) (.cons (.setsub (.attr (.var 0) "near") (.var 1) .dict0)
    (.cons (.setsub (.attr (.var 0) "cost") (.var 1) (.int 0))
    (.cons (.setsub (.attr (.var 0) "alias") (.var 1) (.var 1))
    .nil))) .nil)
  .nil)
noncomputable def m_Graph_add : List Str := ["self", "register"]
noncomputable def Graph_touch : PSs :=
  (.cons (.expr (.meth (.var 0) "add" (.cons (.var 1) .nil)))
  (.cons (.setsub (.attr (.var 0) "cost") (.var 1) (.bin .Add (.sub (.attr (.var 0) "cost") (.var 1)) (.var 2)))
  .nil))
noncomputable def m_Graph_touch : List Str := ["self", "register", "weight"]
noncomputable def Graph_join : PSs :=
  (.cons (.ifS (.cmp .NotEq (.var 1) (.var 2)) (.cons (.setsub (.sub (.attr (.var 0) "near") (.var 1)) (.var 2) (.bool true))
    (.cons (.setsub (.sub (.attr (.var 0) "near") (.var 2)) (.var 1) (.bool true))
    .nil)) .nil)
  .nil)
noncomputable def m_Graph_join : List Str := ["self", "one", "other"]
noncomputable def Graph_leader : PSs :=
  (.cons (.while (.cmp .NotEq (.sub (.attr (.var 0) "alias") (.var 1)) (.var 1)) (.cons (.assign 1 (.sub (.attr (.var 0) "alias") (.var 1)))
    .nil))
  (.cons (.ret (.var 1))
  .nil))
noncomputable def m_Graph_leader : List Str := ["self", "register"]
noncomputable def Graph_leaders : PSs :=
  (.cons (.ret (.lcomp (.var 1) 1 (.attr (.var 0) "near") (.cons (.cmp .Eq (.sub (.attr (.var 0) "alias") (.var 1)) (.var 1)) .nil)))
  .nil)
noncomputable def m_Graph_leaders : List Str := ["self", "register"]
noncomputable def Graph_members : PSs :=
  (.cons (.ret (.lcomp (.var 2) 2 (.attr (.var 0) "near") (.cons (.cmp .Eq (.meth (.var 0) "leader" (.cons (.var 2) .nil)) (.var 1)) .nil)))
  .nil)
noncomputable def m_Graph_members : List Str := ["self", "leader", "register"]
noncomputable def Graph_merge : PSs :=
  (.cons (.for1 3 (.sub (.attr (.var 0) "near") (.var 2)) (.cons (.expr (.methB .dpop (.sub (.attr (.var 0) "near") (.var 3)) (.cons (.var 2) .nil)))
    (.cons (.setsub (.sub (.attr (.var 0) "near") (.var 3)) (.var 1) (.bool true))
    (.cons (.setsub (.sub (.attr (.var 0) "near") (.var 1)) (.var 3) (.bool true))
    .nil))))
  (.cons (.setsub (.attr (.var 0) "near") (.var 2) .dict0)
  (.cons (.setsub (.attr (.var 0) "cost") (.var 1) (.bin .Add (.sub (.attr (.var 0) "cost") (.var 1)) (.sub (.attr (.var 0) "cost") (.var 2))))
  (.join (.ifS (.cmp .In (.var 2) (.attr (.var 0) "crosses")) (.cons (.setsub (.attr (.var 0) "crosses") (.var 1) (.bool true))
    .nil) .nil) [0, 1, 2]
  (.cons (.setsub (.attr (.var 0) "alias") (.var 2) (.var 1))
  .nil)))))
noncomputable def m_Graph_merge : List Str := ["self", "one", "other", "third"]
noncomputable def f_is_safe : PSs :=
  (.join (.assign 4 (.or (.cons (.cmp .In (.var 2) (.attr (.var 0) "crosses")) (.cons (.cmp .In (.var 3) (.attr (.var 0) "crosses")) .nil)))) [0, 1, 2, 3, 4]
  (.join (.assign 5 (.ite (.var 4) (.callB .len (.cons (.attr (.var 1) "kept") .nil)) (.callB .len (.cons (.attr (.var 1) "all") .nil)))) [0, 1, 2, 3, 5]
  (.cons (.ifS (.cmp .Lt (.bin .Add (.callB .len (.cons (.sub (.attr (.var 0) "near") (.var 2)) .nil)) (.callB .len (.cons (.sub (.attr (.var 0) "near") (.var 3)) .nil))) (.var 5)) (.cons (.ret (.bool true))
    .nil) .nil)
  (.cons (.assign 6 (.int 0))
  (.cons (.assign 7 (.callB .dict (.cons (.sub (.attr (.var 0) "near") (.var 2)) .nil)))
  (.cons (.expr (.methB .update (.var 7) (.cons (.sub (.attr (.var 0) "near") (.var 3)) .nil)))
  (.cons (.for1 8 (.var 7) (.cons (.assign 9 (.callB .len (.cons (.sub (.attr (.var 0) "near") (.var 8)) .nil)))
    (.join (.ifS (.and (.cons (.cmp .In (.var 8) (.sub (.attr (.var 0) "near") (.var 2))) (.cons (.cmp .In (.var 8) (.sub (.attr (.var 0) "near") (.var 3))) .nil))) (.cons (.assign 9 (.bin .Sub (.var 9) (.int 1)))
      .nil) .nil) [0, 1, 2, 3, 5, 6, 8, 9]
    (.cons (.ifS (.cmp .GtE (.var 9) (.callB .len (.cons (.meth (.var 1) "of" (.cons (.var 0) (.cons (.var 8) .nil))) .nil))) (.cons (.assign 6 (.bin .Add (.var 6) (.int 1)))
      .nil) .nil)
    .nil))))
  (.cons (.ret (.cmp .Lt (.var 6) (.var 5)))
  .nil))))))))
noncomputable def n_is_safe : List Str := ["graph", "pools", "one", "other", "crosses", "size", "hard", "beside", "third", "degree"]
noncomputable def f_coalesce : PSs :=
  (.cons (.assign 3 (.callB .sorted (.cons (.attr (.var 0) "copies") .nil)))
  (.cons (.assign 4 (.bool true))
  (.cons (.while (.var 4) (.cons (.assign 4 (.bool false))
    (.cons (.forT [5, 6, 7] (.var 3) (.cons (.assignTT [8, 9] (.cons (.meth (.var 0) "leader" (.cons (.var 6) .nil)) (.cons (.meth (.var 0) "leader" (.cons (.var 7) .nil)) .nil)))
      (.cons (.ifS (.or (.cons (.cmp .Eq (.var 8) (.var 9)) (.cons (.cmp .In (.var 9) (.sub (.attr (.var 0) "near") (.var 8))) (.cons (.cmp .In (.var 8) (.var 2)) (.cons (.cmp .In (.var 9) (.var 2)) .nil))))) (.cons .cont
        .nil) .nil)
      (.cons (.ifS (.call "is_safe" (.cons (.var 0) (.cons (.var 1) (.cons (.var 8) (.cons (.var 9) .nil))))) (.cons (.expr (.meth (.var 0) "merge" (.cons (.var 8) (.cons (.var 9) .nil))))
        (.cons (.assign 4 (.bool true))
        .nil)) .nil)
      .nil))))
    .nil)))
  .nil)))
noncomputable def n_coalesce : List Str := ["graph", "pools", "frozen", "waiting", "changed", "weight", "dst", "source", "one", "other"]
noncomputable def f_worth_of : PSs :=
  (.cons (.ret (.bin .FloorDiv (.bin .Mult (.sub (.attr (.var 0) "cost") (.var 2)) (.int 1000)) (.bin .Add (.var 1) (.int 1))))
  .nil)
noncomputable def n_worth_of : List Str := ["graph", "degree", "register"]
noncomputable def f_cheapest : PSs :=
  (.cons (.assignTT [4, 5] (.cons .none (.cons (.neg 1) .nil)))
  (.cons (.for1 6 (.var 2) (.cons (.assign 7 (.tup (.cons (.cmp .In (.var 6) (.var 3)) (.cons (.call "worth_of" (.cons (.var 0) (.cons (.sub (.var 1) (.var 6)) (.cons (.var 6) .nil)))) .nil))))
    (.cons (.ifS (.or (.cons (.cmp .Is (.var 4) .none) (.cons (.cmp .Lt (.var 7) (.var 4)) .nil))) (.cons (.assignTT [4, 5] (.cons (.var 7) (.cons (.var 6) .nil)))
      .nil) .nil)
    .nil)))
  (.cons (.ret (.var 5))
  .nil)))
noncomputable def n_cheapest : List Str := ["graph", "degree", "left", "frozen", "best", "found", "register", "key"]
noncomputable def f_stacked : PSs :=
  (.cons (.assignTT [3, 4, 5] (.cons .dict0 (.cons .dict0 (.cons (.list .nil) .nil))))
  (.cons (.assign 6 (.list .nil))
  (.cons (.for1 7 (.meth (.var 0) "leaders" .nil) (.cons (.setsub (.var 3) (.var 7) (.callB .len (.cons (.sub (.attr (.var 0) "near") (.var 7)) .nil)))
    (.cons (.setsub (.var 4) (.var 7) (.bool true))
    (.cons (.ifS (.cmp .Lt (.sub (.var 3) (.var 7)) (.callB .len (.cons (.meth (.var 1) "of" (.cons (.var 0) (.cons (.var 7) .nil))) .nil))) (.cons (.expr (.methB .append (.var 6) (.cons (.var 7) .nil)))
      .nil) .nil)
    .nil))))
  (.cons (.while (.cmp .NotEq (.var 4) .dict0) (.join (.ifS (.cmp .Eq (.var 6) (.list .nil)) (.cons (.expr (.methB .append (.var 6) (.cons (.call "cheapest" (.cons (.var 0) (.cons (.var 3) (.cons (.var 4) (.cons (.var 2) .nil))))) .nil)))
      .nil) .nil) [0, 1, 2, 3, 4, 5, 6]
    (.cons (.assign 8 (.methB .lpop (.var 6) .nil))
    (.cons (.ifS (.cmp .NotIn (.var 8) (.var 4)) (.cons .cont
      .nil) .nil)
    (.cons (.expr (.methB .dpop (.var 4) (.cons (.var 8) .nil)))
    (.cons (.expr (.methB .append (.var 5) (.cons (.var 8) .nil)))
    (.cons (.for1 9 (.sub (.attr (.var 0) "near") (.var 8)) (.cons (.ifS (.cmp .In (.var 9) (.var 4)) (.cons (.setsub (.var 3) (.var 9) (.bin .Sub (.sub (.var 3) (.var 9)) (.int 1)))
        (.cons (.ifS (.cmp .Eq (.sub (.var 3) (.var 9)) (.bin .Sub (.callB .len (.cons (.meth (.var 1) "of" (.cons (.var 0) (.cons (.var 9) .nil))) .nil)) (.int 1))) (.cons (.expr (.methB .append (.var 6) (.cons (.var 9) .nil)))
          .nil) .nil)
        .nil)) .nil)
      .nil))
    .nil)))))))
  (.cons (.ret (.var 5))
  .nil)))))
noncomputable def n_stacked : List Str := ["graph", "pools", "frozen", "degree", "left", "stack", "low", "register", "here", "other"]
noncomputable def f_mates_of : PSs :=
  (.cons (.assign 1 .dict0)
  (.cons (.forT [2, 3, 4] (.callB .sorted (.cons (.attr (.var 0) "copies") .nil)) (.cons (.assignTT [5, 6] (.cons (.meth (.var 0) "leader" (.cons (.var 3) .nil)) (.cons (.meth (.var 0) "leader" (.cons (.var 4) .nil)) .nil)))
    (.cons (.ifS (.and (.cons (.cmp .NotEq (.var 5) (.var 6)) (.cons (.cmp .NotIn (.var 6) (.sub (.attr (.var 0) "near") (.var 5))) .nil))) (.cons (.setsub (.var 1) (.var 5) (.bin .Add (.methB .get (.var 1) (.cons (.var 5) (.cons (.list .nil) .nil))) (.list (.cons (.var 6) .nil))))
      (.cons (.setsub (.var 1) (.var 6) (.bin .Add (.methB .get (.var 1) (.cons (.var 6) (.cons (.list .nil) .nil))) (.list (.cons (.var 5) .nil))))
      .nil)) .nil)
    .nil)))
  (.cons (.ret (.var 1))
  .nil)))
noncomputable def n_mates_of : List Str := ["graph", "found", "weight", "dst", "source", "one", "other"]
noncomputable def f_victim_of : PSs :=
  (.cons (.ifS (.cmp .NotIn (.var 1) (.var 2)) (.cons (.ret (.var 1))
    .nil) .nil)
  (.cons (.assign 3 (.lcomp (.var 4) 4 (.sub (.attr (.var 0) "near") (.var 1)) (.cons (.cmp .NotIn (.var 4) (.var 2)) .nil)))
  (.cons (.ifS (.cmp .Eq (.var 3) (.list .nil)) (.cons (.raiseCF "too many values at once")
    .nil) .nil)
  (.cons (.assign 5 (.dcomp (.var 4) (.callB .len (.cons (.sub (.attr (.var 0) "near") (.var 4)) .nil)) 4 (.var 3) .nil))
  (.cons (.ret (.call "cheapest" (.cons (.var 0) (.cons (.var 5) (.cons (.var 3) (.cons (.var 2) .nil))))))
  .nil)))))
noncomputable def n_victim_of : List Str := ["graph", "register", "frozen", "some", "other", "degree"]
noncomputable def f_number_for : PSs :=
  (.cons (.for1 3 (.var 2) (.cons (.ifS (.and (.cons (.cmp .In (.var 3) (.var 0)) (.cons (.cmp .NotIn (.var 3) (.var 1)) .nil))) (.cons (.ret (.var 3))
      .nil) .nil)
    .nil))
  (.cons (.for1 3 (.var 0) (.cons (.ifS (.cmp .NotIn (.var 3) (.var 1)) (.cons (.ret (.var 3))
      .nil) .nil)
    .nil))
  (.cons (.ret (.neg 1))
  .nil)))
noncomputable def n_number_for : List Str := ["allowed", "taken", "wished", "number"]
noncomputable def f_coloured : PSs :=
  (.cons (.assignTT [3, 4] (.cons .dict0 (.cons .dict0 .nil)))
  (.cons (.assign 5 (.call "mates_of" (.cons (.var 0) .nil)))
  (.cons (.forX 6 (.rev (.call "stacked" (.cons (.var 0) (.cons (.var 1) (.cons (.var 2) .nil))))) (.cons (.assign 7 .dict0)
    (.cons (.for1 8 (.sub (.attr (.var 0) "near") (.var 6)) (.cons (.ifS (.cmp .In (.var 8) (.var 3)) (.cons (.setsub (.var 7) (.sub (.var 3) (.var 8)) (.bool true))
        .nil) .nil)
      .nil))
    (.cons (.assign 9 (.lcomp (.methB .get (.var 3) (.cons (.var 10) (.cons (.neg 1) .nil))) 10 (.methB .get (.var 5) (.cons (.var 6) (.cons (.list .nil) .nil))) .nil))
    (.cons (.assign 11 (.call "number_for" (.cons (.meth (.var 1) "of" (.cons (.var 0) (.cons (.var 6) .nil))) (.cons (.var 7) (.cons (.var 9) .nil)))))
    (.cons (.ifS (.cmp .Lt (.var 11) (.int 0)) (.cons (.setsub (.var 4) (.call "victim_of" (.cons (.var 0) (.cons (.var 6) (.cons (.var 2) .nil)))) (.bool true))
      .nil) (.cons (.setsub (.var 3) (.var 6) (.var 11))
      .nil))
    .nil))))))
  (.cons (.ret (.tup (.cons (.var 3) (.cons (.var 4) .nil))))
  .nil))))
noncomputable def n_coloured : List Str := ["graph", "pools", "frozen", "colours", "lost", "mates", "register", "taken", "other", "wished", "mate", "number"]
noncomputable def f_law_draw : PSs :=
  (.cons (.assignT [2, 3] (.var 0))
  (.join (.ifS (.cmp .Eq (.var 3) (.callB .len (.cons (.var 2) .nil))) (.cons (.expr (.methB .append (.var 2) (.cons (.bin .Mod (.bin .Add (.bin .Add (.bin .Mult (.sub (.var 2) (.neg 1)) (.int 5)) (.sub (.var 2) (.bin .FloorDiv (.var 3) (.int 2)))) (.var 3)) (.int 251)) .nil)))
    .nil) .nil) [0, 1, 2, 3]
  (.cons (.setsub (.var 0) (.int 1) (.bin .Add (.var 3) (.int 1)))
  (.cons (.ret (.bin .Mod (.sub (.var 2) (.var 3)) (.var 1)))
  .nil))))
noncomputable def n_law_draw : List Str := ["well", "size", "numbers", "place"]
noncomputable def f_law_easy : PSs :=
  (.cons (.assignTT [4, 5] (.cons (.callB .dict (.cons (.var 0) .nil)) (.cons (.bool false) .nil)))
  (.cons (.while (.not (.var 5)) (.cons (.assign 5 (.bool true))
    (.cons (.for1 6 (.callB .list (.cons (.var 4) .nil)) (.cons (.assign 7 (.lcomp (.var 8) 8 (.sub (.var 0) (.var 6)) (.cons (.cmp .In (.var 8) (.var 4)) .nil)))
      (.cons (.ifS (.cmp .Lt (.callB .len (.cons (.var 7) .nil)) (.ite (.cmp .In (.var 6) (.var 1)) (.var 2) (.var 3))) (.cons (.expr (.methB .dpop (.var 4) (.cons (.var 6) .nil)))
        (.cons (.assign 5 (.bool false))
        .nil)) .nil)
      .nil)))
    .nil)))
  (.cons (.ret (.cmp .Eq (.var 4) .dict0))
  .nil)))
noncomputable def n_law_easy : List Str := ["near", "crossing", "kept", "every", "left", "is_done", "cell", "beside", "other"]
noncomputable def f_law_drawn : PSs :=
  (.cons (.assignTT [3, 4, 5] (.cons .dict0 (.cons (.list .nil) (.cons (.list .nil) .nil))))
  (.cons (.for1 6 (.callB .range (.cons (.var 2) .nil)) (.cons (.expr (.methB .append (.var 4) (.cons (.bin .Add (.int 1) (.call "_law_draw" (.cons (.var 0) (.cons (.int 9) .nil)))) .nil)))
    (.cons (.expr (.meth (.var 1) "touch" (.cons (.var 6) (.cons (.sub (.var 4) (.var 6)) .nil))))
    (.cons (.setsub (.var 3) (.var 6) .dict0)
    (.cons (.assign 7 (.call "_law_draw" (.cons (.var 0) (.cons (.bin .Pow (.int 2) (.var 6)) .nil))))
    (.cons (.for1 8 (.callB .range (.cons (.var 6) .nil)) (.cons (.ifS (.cmp .Eq (.bin .Mod (.bin .FloorDiv (.var 7) (.bin .Pow (.int 2) (.var 8))) (.int 2)) (.int 1)) (.cons (.expr (.meth (.var 1) "join" (.cons (.var 6) (.cons (.var 8) .nil))))
        (.cons (.setsub (.sub (.var 3) (.var 6)) (.var 8) (.bool true))
        (.cons (.setsub (.sub (.var 3) (.var 8)) (.var 6) (.bool true))
        .nil))) .nil)
      .nil))
    .nil))))))
  (.cons (.assign 7 (.call "_law_draw" (.cons (.var 0) (.cons (.bin .Pow (.int 2) (.var 2)) .nil))))
  (.cons (.assign 9 (.dcomp (.var 6) (.bool true) 6 (.callB .range (.cons (.var 2) .nil)) (.cons (.cmp .Eq (.bin .Mod (.bin .FloorDiv (.var 7) (.bin .Pow (.int 2) (.var 6))) (.int 2)) (.int 1)) .nil)))
  (.cons (.for1 6 (.var 9) (.cons (.setsub (.attr (.var 1) "crosses") (.var 6) (.bool true))
    .nil))
  (.cons (.for1 10 (.callB .range (.cons (.call "_law_draw" (.cons (.var 0) (.cons (.int 5) .nil))) .nil)) (.cons (.assignTT [11, 8] (.cons (.call "_law_draw" (.cons (.var 0) (.cons (.var 2) .nil))) (.cons (.call "_law_draw" (.cons (.var 0) (.cons (.var 2) .nil))) .nil)))
    (.cons (.expr (.methB .append (.var 5) (.cons (.tup (.cons (.var 11) (.cons (.var 8) .nil))) .nil)))
    (.cons (.expr (.methB .append (.attr (.var 1) "copies") (.cons (.tup (.cons (.bin .Sub (.neg 1) (.call "_law_draw" (.cons (.var 0) (.cons (.int 3) .nil)))) (.cons (.var 11) (.cons (.var 8) .nil)))) .nil)))
    .nil))))
  (.cons (.ret (.tup (.cons (.var 3) (.cons (.var 4) (.cons (.var 9) (.cons (.var 5) .nil))))))
  .nil)))))))
noncomputable def n_law_drawn : List Str := ["well", "graph", "many", "near", "costs", "twins", "cell", "mask", "other", "crossing", "turn", "one"]
noncomputable def f_law_group : PSs :=
  (.cons (.assignTT [3, 4] (.cons (.list (.cons (.var 0) .nil)) (.cons (.list (.cons (.var 0) .nil)) .nil)))
  (.cons (.while (.cmp .NotEq (.var 4) (.list .nil)) (.cons (.assign 5 (.methB .lpop (.var 4) .nil))
    (.cons (.forT [6, 7] (.var 2) (.cons (.forT [8, 9] (.list (.cons (.tup (.cons (.var 6) (.cons (.var 7) .nil))) (.cons (.tup (.cons (.var 7) (.cons (.var 6) .nil))) .nil))) (.cons (.ifS (.and (.cons (.cmp .Eq (.var 8) (.var 5)) (.cons (.cmp .Eq (.sub (.var 1) (.var 9)) (.var 0)) (.cons (.cmp .NotIn (.var 9) (.var 3)) .nil)))) (.cons (.expr (.methB .append (.var 3) (.cons (.var 9) .nil)))
          (.cons (.expr (.methB .append (.var 4) (.cons (.var 9) .nil)))
          .nil)) .nil)
        .nil))
      .nil))
    .nil)))
  (.cons (.ret (.callB .sorted (.cons (.var 3) .nil)))
  .nil)))
noncomputable def n_law_group : List Str := ["head", "heads", "twins", "found", "waiting", "here", "one", "other", "cell", "mate"]
noncomputable def f_law_joined : PSs :=
  (.cons (.assign 6 (.callB .len (.cons (.var 2) .nil)))
  (.cons (.assign 7 (.lcomp (.meth (.var 0) "leader" (.cons (.var 8) .nil)) 8 (.callB .range (.cons (.var 6) .nil)) .nil))
  (.cons (.ifS (.cmp .NotEq (.meth (.var 0) "leaders" .nil) (.lcomp (.var 8) 8 (.callB .range (.cons (.var 6) .nil)) (.cons (.cmp .Eq (.sub (.var 7) (.var 8)) (.var 8)) .nil))) (.cons (.ret .none)
    .nil) .nil)
  (.cons (.assignTT [9, 10] (.cons .dict0 (.cons .dict0 .nil)))
  (.cons (.for1 11 (.meth (.var 0) "leaders" .nil) (.cons (.assign 12 (.lcomp (.var 8) 8 (.callB .range (.cons (.var 6) .nil)) (.cons (.cmp .Eq (.sub (.var 7) (.var 8)) (.var 11)) .nil)))
    (.cons (.ifS (.or (.cons (.cmp .NotEq (.var 12) (.call "_law_group" (.cons (.var 11) (.cons (.var 7) (.cons (.var 4) .nil))))) (.cons (.cmp .NotEq (.meth (.var 0) "members" (.cons (.var 11) .nil)) (.var 12)) .nil))) (.cons (.ret .none)
      .nil) .nil)
    (.cons (.setsub (.var 9) (.var 11) .dict0)
    (.cons (.for1 8 (.var 12) (.join (.ifS (.and (.cons (.cmp .Gt (.callB .len (.cons (.var 12) .nil)) (.int 1)) (.cons (.cmp .In (.var 8) (.var 5)) .nil))) (.cons (.ret .none)
        .nil) .nil) [0, 1, 2, 3, 4, 5, 6, 7, 8, 9, 10, 11, 12]
      (.cons (.for1 13 (.sub (.var 1) (.var 8)) (.cons (.ifS (.cmp .In (.var 13) (.var 12)) (.cons (.ret .none)
          .nil) .nil)
        (.cons (.setsub (.sub (.var 9) (.var 11)) (.sub (.var 7) (.var 13)) (.bool true))
        .nil)))
      (.cons (.ifS (.cmp .In (.var 8) (.var 3)) (.cons (.setsub (.var 10) (.var 11) (.bool true))
        .nil) .nil)
      .nil))))
    (.cons (.ifS (.or (.cons (.cmp .NotEq (.callB .sorted (.cons (.sub (.attr (.var 0) "near") (.var 11)) .nil)) (.callB .sorted (.cons (.sub (.var 9) (.var 11)) .nil))) (.cons (.cmp .NotEq (.cmp .In (.var 11) (.attr (.var 0) "crosses")) (.cmp .In (.var 11) (.var 10))) .nil))) (.cons (.ret .none)
      .nil) .nil)
    (.cons (.ifS (.cmp .NotEq (.sub (.attr (.var 0) "cost") (.var 11)) (.callB .sum (.cons (.lcomp (.sub (.var 2) (.var 8)) 8 (.var 12) .nil) .nil))) (.cons (.ret .none)
      .nil) .nil)
    .nil)))))))
  (.cons (.ret (.tup (.cons (.var 7) (.cons (.var 9) (.cons (.var 10) .nil)))))
  .nil))))))
noncomputable def n_law_joined : List Str := ["graph", "near", "costs", "crossing", "twins", "frozen", "many", "heads", "cell", "beside", "crosses", "head", "group", "other"]
noncomputable def f_law_is_unsafe : PSs :=
  (.cons (.assign 6 (.int 0))
  (.cons (.for1 7 (.var 0) (.cons (.ifS (.or (.cons (.cmp .In (.var 7) (.sub (.var 0) (.var 2))) (.cons (.cmp .In (.var 7) (.sub (.var 0) (.var 3))) .nil))) (.cons (.assign 8 (.callB .len (.cons (.lcomp (.var 9) 9 (.sub (.var 0) (.var 7)) (.cons (.or (.cons (.cmp .NotEq (.var 9) (.var 3)) (.cons (.cmp .NotIn (.var 2) (.sub (.var 0) (.var 7))) .nil))) .nil)) .nil)))
      (.cons (.ifS (.cmp .GtE (.var 8) (.ite (.cmp .In (.var 7) (.var 1)) (.var 4) (.var 5))) (.cons (.assign 6 (.bin .Add (.var 6) (.int 1)))
        .nil) .nil)
      .nil)) .nil)
    .nil))
  (.cons (.ret (.cmp .GtE (.var 6) (.ite (.or (.cons (.cmp .In (.var 2) (.var 1)) (.cons (.cmp .In (.var 3) (.var 1)) .nil))) (.var 4) (.var 5))))
  .nil)))
noncomputable def n_law_is_unsafe : List Str := ["beside", "crosses", "one", "other", "kept", "every", "hard", "third", "degree", "cell"]
noncomputable def f_law_is_stuck : PSs :=
  (.cons (.for1 5 (.var 0) (.cons (.ifS (.and (.cons (.cmp .In (.var 5) (.var 2)) (.cons (.cmp .GtE (.callB .len (.cons (.sub (.var 0) (.var 5)) .nil)) (.ite (.cmp .In (.var 5) (.var 1)) (.var 3) (.var 4))) .nil))) (.cons (.ifS (.cmp .Eq (.lcomp (.var 6) 6 (.sub (.var 0) (.var 5)) (.cons (.cmp .NotIn (.var 6) (.var 2)) .nil)) (.list .nil)) (.cons (.ret (.bool true))
        .nil) .nil)
      .nil) .nil)
    .nil))
  (.cons (.ret (.bool false))
  .nil))
noncomputable def n_law_is_stuck : List Str := ["beside", "crosses", "frozen", "kept", "every", "cell", "other"]
noncomputable def f_law_is_coloured : PSs :=
  (.cons (.for1 7 (.var 0) (.join (.assign 8 (.ite (.cmp .In (.var 7) (.var 1)) (.var 6) (.bin .Add (.var 5) (.var 6)))) [0, 1, 2, 3, 4, 5, 6, 7, 8]
    (.cons (.assign 9 (.lcomp (.sub (.var 3) (.var 10)) 10 (.sub (.var 0) (.var 7)) (.cons (.cmp .In (.var 10) (.var 3)) .nil)))
    (.cons (.ifS (.cmp .In (.var 7) (.var 3)) (.cons (.ifS (.or (.cons (.cmp .NotIn (.sub (.var 3) (.var 7)) (.var 8)) (.cons (.cmp .In (.sub (.var 3) (.var 7)) (.var 9)) .nil))) (.cons (.ret (.bool false))
        .nil) .nil)
      .nil) (.cons (.ifS (.or (.cons (.cmp .NotEq (.lcomp (.var 11) 11 (.var 8) (.cons (.cmp .NotIn (.var 11) (.var 9)) .nil)) (.list .nil)) (.cons (.and (.cons (.cmp .NotIn (.var 7) (.var 2)) (.cons (.cmp .NotIn (.var 7) (.var 4)) .nil))) .nil))) (.cons (.ret (.bool false))
        .nil) .nil)
      .nil))
    .nil))))
  (.cons (.for1 7 (.var 4) (.cons (.ifS (.or (.cons (.cmp .NotIn (.var 7) (.var 0)) (.cons (.cmp .In (.var 7) (.var 2)) .nil))) (.cons (.ret (.bool false))
      .nil) .nil)
    (.cons (.ifS (.and (.cons (.cmp .In (.var 7) (.var 3)) (.cons (.cmp .Eq (.lcomp (.var 12) 12 (.sub (.var 0) (.var 7)) (.cons (.and (.cons (.cmp .In (.var 12) (.var 2)) (.cons (.cmp .NotIn (.var 12) (.var 3)) .nil))) .nil)) (.list .nil)) .nil))) (.cons (.ret (.bool false))
      .nil) .nil)
    .nil)))
  (.cons (.ret (.cmp .Eq (.lcomp (.var 7) 7 (.var 3) (.cons (.cmp .NotIn (.var 7) (.var 0)) .nil)) (.list .nil)))
  .nil)))
noncomputable def n_law_is_coloured : List Str := ["beside", "crosses", "frozen", "colours", "lost", "temps", "saved", "cell", "room", "around", "other", "seat", "one"]
noncomputable def f_law : PSs :=
  (.join (.assign 1 (.list (.cons (.or (.cons (.lcomp (.bin .Mod (.var 2) (.int 2147483647)) 2 (.slHi (.var 0) (.int 60)) .nil) (.cons (.list (.cons (.int 3) .nil)) .nil))) (.cons (.int 0) .nil)))) [1]
  (.cons (.assign 3 (.bin .Add (.int 2) (.call "_law_draw" (.cons (.var 1) (.cons (.int 7) .nil)))))
  (.cons (.assign 4 (.slHi (.list (.cons (.int 28) (.cons (.int 29) (.cons (.int 30) .nil)))) (.call "_law_draw" (.cons (.var 1) (.cons (.int 4) .nil)))))
  (.cons (.assign 5 (.slHi (.list (.cons (.int 9) (.cons (.int 18) (.cons (.int 19) .nil)))) (.call "_law_draw" (.cons (.var 1) (.cons (.int 4) .nil)))))
  (.cons (.assignTT [6, 7] (.cons (.callB .len (.cons (.var 5) .nil)) (.cons (.bin .Add (.callB .len (.cons (.var 4) .nil)) (.callB .len (.cons (.var 5) .nil))) .nil)))
  (.cons (.assign 8 (.call "Graph" .nil))
  (.cons (.assignT [9, 10, 11, 12] (.call "_law_drawn" (.cons (.var 1) (.cons (.var 8) (.cons (.var 3) .nil)))))
  (.join (.assign 13 (.ite (.cmp .Eq (.call "_law_draw" (.cons (.var 1) (.cons (.int 3) .nil))) (.int 0)) (.call "_law_draw" (.cons (.var 1) (.cons (.bin .Pow (.int 2) (.var 3)) .nil))) (.int 0))) [3, 4, 5, 6, 7, 8, 9, 10, 11, 12, 13]
  (.cons (.assign 14 (.dcomp (.var 15) (.bool true) 15 (.callB .range (.cons (.var 3) .nil)) (.cons (.cmp .Eq (.bin .Mod (.bin .FloorDiv (.var 13) (.bin .Pow (.int 2) (.var 15))) (.int 2)) (.int 1)) .nil)))
  (.cons (.expr (.call "coalesce" (.cons (.var 8) (.cons (.call "Pools" (.cons (.var 4) (.cons (.var 5) .nil))) (.cons (.var 14) .nil)))))
  (.cons (.assign 16 (.call "_law_joined" (.cons (.var 8) (.cons (.var 9) (.cons (.var 10) (.cons (.var 11) (.cons (.var 12) (.cons (.var 14) .nil))))))))
  (.cons (.ifS (.cmp .Is (.var 16) .none) (.cons (.ret (.bool false))
    .nil) .nil)
  (.cons (.assignT [17, 18, 19] (.var 16))
  (.cons (.forT [20, 21] (.var 12) (.cons (.assignTT [20, 21] (.cons (.sub (.var 17) (.var 20)) (.cons (.sub (.var 17) (.var 21)) .nil)))
    (.cons (.ifS (.and (.cons (.cmp .NotEq (.var 20) (.var 21)) (.cons (.cmp .NotIn (.var 21) (.sub (.var 18) (.var 20))) (.cons (.cmp .NotIn (.var 20) (.var 14)) (.cons (.cmp .NotIn (.var 21) (.var 14)) .nil))))) (.cons (.ifS (.not (.call "_law_is_unsafe" (.cons (.var 18) (.cons (.var 19) (.cons (.var 20) (.cons (.var 21) (.cons (.var 6) (.cons (.var 7) .nil)))))))) (.cons (.ret (.bool false))
        .nil) .nil)
      .nil) .nil)
    .nil)))
  (.cons (.assign 22 (.call "_law_easy" (.cons (.var 18) (.cons (.var 19) (.cons (.var 6) (.cons (.var 7) .nil))))))
  (.join (.ifS (.and (.cons (.call "_law_easy" (.cons (.var 9) (.cons (.var 11) (.cons (.var 6) (.cons (.var 7) .nil))))) (.cons (.not (.var 22)) .nil))) (.cons (.ret (.bool false))
    .nil) .nil) [4, 5, 6, 7, 8, 14, 18, 19, 22]
  (.cons (.tryA [23, 24] (.call "coloured" (.cons (.var 8) (.cons (.call "Pools" (.cons (.var 4) (.cons (.var 5) .nil))) (.cons (.var 14) .nil)))) (.call "_law_is_stuck" (.cons (.var 18) (.cons (.var 19) (.cons (.var 14) (.cons (.var 6) (.cons (.var 7) .nil)))))))
  (.join (.ifS (.and (.cons (.var 22) (.cons (.cmp .NotEq (.var 24) .dict0) .nil))) (.cons (.ret (.bool false))
    .nil) .nil) [4, 5, 14, 18, 19, 23, 24]
  (.cons (.ret (.call "_law_is_coloured" (.cons (.var 18) (.cons (.var 19) (.cons (.var 14) (.cons (.var 23) (.cons (.var 24) (.cons (.var 4) (.cons (.var 5) .nil)))))))))
  .nil)))))))))))))))))))
noncomputable def n_law : List Str := ["script", "well", "number", "many", "temps", "saved", "kept", "every", "graph", "near", "costs", "crossing", "twins", "mask", "frozen", "cell", "found", "heads", "beside", "crosses", "one", "other", "is_easy", "colours", "lost"]
noncomputable def findDef (n : Str) : List PySem.Stmt → Option (Arguments × List PySem.Stmt × Scope)
  | [] => none
  | s :: r => match s with
    | .FunctionDef m a b _ _ _ sc _ _ _ => bif m == n then some (a, b, sc) else findDef n r
    | _ => findDef n r
noncomputable def findCls (c : Str) : List PySem.Stmt → List PySem.Stmt
  | [] => []
  | s :: r => match s with
    | .ClassDef m _ _ b _ _ _ _ _ _ _ => bif m == c then b else findCls c r
    | _ => findCls c r
noncomputable def body0 : List PySem.Stmt := Challenge.pw_nm0012_01.main.body
end Mine
end
section
open PySem PySem.W PyProof.Rows
namespace Mine
noncomputable def en (P : Params) (s : Str) (i : Nat) (v : Value) : DictEntry := ⟨PyData.keyHash P s, .str s i, v⟩
noncomputable def fnO (x : Option (Arguments × List PySem.Stmt × Scope)) (n q : Str) (m : Value) (c : Addr) : Obj := match x with
  | some (a, b, s) => ⟨.type "function", none, .func (FuncData.mk n q a (.stmts b) s 3 [] .none .none .none m none (.ref c) .none 0), #[]⟩
  | none => ⟨.none, none, .seq #[], #[]⟩
noncomputable def KF : Params → Frag := fun P => [
  (3, ⟨(.type "dict"), none, .dict #[en P "__name__" 165 (.str "law_nm0012_01" 454), en P "__doc__" 166 .none, en P "__package__" 167 .none, en P "__loader__" 168 (.builtin "__main__.__loader__#opaque"), en P "__spec__" 169 .none, en P "__annotations__" 170 (.ref 6), en P "__builtins__" 171 (.ref 4), en P "__file__" 173 (.str "/claim/cut.py" 172), en P "__cached__" 174 .none, en P "CodeFault" 217 (.ref 31), en P "Pools" 259 (.ref 58), en P "Graph" 347 (.ref 124), en P "is_safe" 363 (.ref 135), en P "coalesce" 379 (.ref 142), en P "worth_of" 388 (.ref 149), en P "cheapest" 402 (.ref 156), en P "stacked" 418 (.ref 163), en P "mates_of" 431 (.ref 170), en P "victim_of" 437 (.ref 175), en P "number_for" 447 (.ref 182), en P "coloured" 453 (.ref 187), en P "_law_draw" 465 (.ref 194), en P "_law_easy" 471 (.ref 199), en P "_law_drawn" 477 (.ref 204), en P "_law_group" 493 (.ref 211), en P "_law_joined" 499 (.ref 216), en P "_law_is_unsafe" 505 (.ref 221), en P "_law_is_stuck" 511 (.ref 226), en P "_law_is_coloured" 517 (.ref 231), en P "law" 523 (.ref 236)] 30, #[]⟩),
  (27, ⟨.type "code", none, .fields #[.str "__init__" 201, .str "CodeFault.__init__" 202, .str "/claim/cut.py" 203, .int 4 0, .int 2 0, .int 0 0, .int 0 0, .int 3 0, .ref 22, .bool true, .int 181 0, .ref 23, .none, .ref 24, .ref 25, .ref 26, .int 206 0, .int 4 0, .str "/claim/cut.py" 207], #[]⟩),
  (28, fnO (findDef "__init__" (findCls "CodeFault" body0)) "__init__" "CodeFault.__init__" (.str "corecc.errors" 187) 27),
  (30, ⟨(.type "dict"), none, .dict #[en P "__module__" 196 (.str "corecc.errors" 187), en P "__firstlineno__" 200 (.int 2 199), en P "__init__" 208 (.ref 28), en P "__static_attributes__" 210 (.ref 29), en P "__weakref__" 212 (.ref 32), en P "__doc__" 213 .none] 3, #[]⟩),
  (31, ⟨.type "type", none, .cls ⟨"CodeFault", [.type "Exception"], [.ref 31, .type "Exception", .type "BaseException", .type "object"], 30, "CodeFault", true, [], [], false, none, false⟩, #[some (.ref 15), none, some (.str "CodeFault" 189), some (.str "CodeFault" 197), some (.builtin "Exception.__new__"), some (.bool true)]⟩),
  (47, ⟨.type "code", none, .fields #[.str "__init__" 232, .str "Pools.__init__" 233, .str "/claim/cut.py" 234, .int 10 0, .int 3 0, .int 0 0, .int 0 0, .int 3 0, .ref 42, .bool true, .int 181 0, .ref 43, .none, .ref 44, .ref 45, .ref 46, .int 238 0, .int 10 0, .str "/claim/cut.py" 239], #[]⟩),
  (48, fnO (findDef "__init__" (findCls "Pools" body0)) "__init__" "Pools.__init__" (.str "corecc.alloc" 218) 47),
  (54, ⟨.type "code", none, .fields #[.str "of" 241, .str "Pools.of" 242, .str "/claim/cut.py" 243, .int 14 0, .int 3 0, .int 0 0, .int 0 0, .int 3 0, .ref 49, .bool true, .int 181 0, .ref 50, .none, .ref 51, .ref 52, .ref 53, .int 247 0, .int 14 0, .str "/claim/cut.py" 248], #[]⟩),
  (55, fnO (findDef "of" (findCls "Pools" body0)) "of" "Pools.of" (.str "corecc.alloc" 218) 54),
  (57, ⟨(.type "dict"), none, .dict #[en P "__module__" 227 (.str "corecc.alloc" 218), en P "__firstlineno__" 231 (.int 8 230), en P "__init__" 240 (.ref 48), en P "of" 249 (.ref 55), en P "__static_attributes__" 252 (.ref 56), en P "__dict__" 254 (.ref 59), en P "__weakref__" 256 (.ref 60), en P "__doc__" 257 .none] 4, #[]⟩),
  (58, ⟨.type "type", none, .cls ⟨"Pools", [.type "object"], [.ref 58, .type "object"], 57, "Pools", true, [], [], false, none, false⟩, #[none, none, some (.str "Pools" 220), some (.str "Pools" 228), some (.builtin "object.__new__"), some (.bool true)]⟩),
  (75, ⟨.type "code", none, .fields #[.str "__init__" 272, .str "Graph.__init__" 273, .str "/claim/cut.py" 274, .int 18 0, .int 1 0, .int 0 0, .int 0 0, .int 3 0, .ref 70, .bool true, .int 181 0, .ref 71, .none, .ref 72, .ref 73, .ref 74, .int 276 0, .int 18 0, .str "/claim/cut.py" 277], #[]⟩),
  (76, fnO (findDef "__init__" (findCls "Graph" body0)) "__init__" "Graph.__init__" (.str "corecc.alloc" 218) 75),
  (82, ⟨.type "code", none, .fields #[.str "add" 279, .str "Graph.add" 280, .str "/claim/cut.py" 281, .int 25 0, .int 2 0, .int 0 0, .int 0 0, .int 3 0, .ref 77, .bool true, .int 181 0, .ref 78, .none, .ref 79, .ref 80, .ref 81, .int 284 0, .int 25 0, .str "/claim/cut.py" 285], #[]⟩),
  (83, fnO (findDef "add" (findCls "Graph" body0)) "add" "Graph.add" (.str "corecc.alloc" 218) 82),
  (89, ⟨.type "code", none, .fields #[.str "touch" 287, .str "Graph.touch" 288, .str "/claim/cut.py" 289, .int 31 0, .int 3 0, .int 0 0, .int 0 0, .int 3 0, .ref 84, .bool true, .int 181 0, .ref 85, .none, .ref 86, .ref 87, .ref 88, .int 293 0, .int 31 0, .str "/claim/cut.py" 294], #[]⟩),
  (90, fnO (findDef "touch" (findCls "Graph" body0)) "touch" "Graph.touch" (.str "corecc.alloc" 218) 89),
  (96, ⟨.type "code", none, .fields #[.str "join" 296, .str "Graph.join" 297, .str "/claim/cut.py" 298, .int 35 0, .int 3 0, .int 0 0, .int 0 0, .int 3 0, .ref 91, .bool true, .int 181 0, .ref 92, .none, .ref 93, .ref 94, .ref 95, .int 302 0, .int 35 0, .str "/claim/cut.py" 303], #[]⟩),
  (97, fnO (findDef "join" (findCls "Graph" body0)) "join" "Graph.join" (.str "corecc.alloc" 218) 96),
  (103, ⟨.type "code", none, .fields #[.str "leader" 305, .str "Graph.leader" 306, .str "/claim/cut.py" 307, .int 40 0, .int 2 0, .int 0 0, .int 0 0, .int 3 0, .ref 98, .bool true, .int 181 0, .ref 99, .none, .ref 100, .ref 101, .ref 102, .int 310 0, .int 40 0, .str "/claim/cut.py" 311], #[]⟩),
  (104, fnO (findDef "leader" (findCls "Graph" body0)) "leader" "Graph.leader" (.str "corecc.alloc" 218) 103),
  (108, ⟨.type "code", none, .fields #[.str "leaders" 313, .str "Graph.leaders" 314, .str "/claim/cut.py" 315, .int 45 0, .int 1 0, .int 0 0, .int 0 0, .int 3 0, .ref 105, .bool true, .int 181 0, .ref 106, .none, .none, .none, .ref 107, .int 316 0, .int 45 0, .str "/claim/cut.py" 317], #[]⟩),
  (109, fnO (findDef "leaders" (findCls "Graph" body0)) "leaders" "Graph.leaders" (.str "corecc.alloc" 218) 108),
  (113, ⟨.type "code", none, .fields #[.str "members" 319, .str "Graph.members" 320, .str "/claim/cut.py" 321, .int 48 0, .int 2 0, .int 0 0, .int 0 0, .int 3 0, .ref 110, .bool true, .int 181 0, .ref 111, .none, .none, .none, .ref 112, .int 322 0, .int 48 0, .str "/claim/cut.py" 323], #[]⟩),
  (114, fnO (findDef "members" (findCls "Graph" body0)) "members" "Graph.members" (.str "corecc.alloc" 218) 113),
  (120, ⟨.type "code", none, .fields #[.str "merge" 325, .str "Graph.merge" 326, .str "/claim/cut.py" 327, .int 51 0, .int 3 0, .int 0 0, .int 0 0, .int 3 0, .ref 115, .bool true, .int 181 0, .ref 116, .none, .ref 117, .ref 118, .ref 119, .int 332 0, .int 51 0, .str "/claim/cut.py" 333], #[]⟩),
  (121, fnO (findDef "merge" (findCls "Graph" body0)) "merge" "Graph.merge" (.str "corecc.alloc" 218) 120),
  (123, ⟨(.type "dict"), none, .dict #[en P "__module__" 267 (.str "corecc.alloc" 218), en P "__firstlineno__" 271 (.int 16 270), en P "__init__" 278 (.ref 76), en P "add" 286 (.ref 83), en P "touch" 295 (.ref 90), en P "join" 304 (.ref 97), en P "leader" 312 (.ref 104), en P "leaders" 318 (.ref 109), en P "members" 324 (.ref 114), en P "merge" 334 (.ref 121), en P "__static_attributes__" 340 (.ref 122), en P "__dict__" 342 (.ref 125), en P "__weakref__" 344 (.ref 126), en P "__doc__" 345 .none] 4, #[]⟩),
  (124, ⟨.type "type", none, .cls ⟨"Graph", [.type "object"], [.ref 124, .type "object"], 123, "Graph", true, [], [], false, none, false⟩, #[none, none, some (.str "Graph" 260), some (.str "Graph" 268), some (.builtin "object.__new__"), some (.bool true)]⟩),
  (134, ⟨.type "code", none, .fields #[.str "is_safe" 348, .str "is_safe" 349, .str "/claim/cut.py" 350, .int 61 0, .int 4 0, .int 0 0, .int 0 0, .int 3 0, .ref 129, .bool true, .int 181 0, .ref 130, .none, .ref 131, .ref 132, .ref 133, .int 361 0, .int 61 0, .str "/claim/cut.py" 362], #[]⟩),
  (135, fnO (findDef "is_safe" body0) "is_safe" "is_safe" (.str "corecc.alloc" 218) 134),
  (141, ⟨.type "code", none, .fields #[.str "coalesce" 364, .str "coalesce" 365, .str "/claim/cut.py" 366, .int 76 0, .int 3 0, .int 0 0, .int 0 0, .int 3 0, .ref 136, .bool true, .int 181 0, .ref 137, .none, .ref 138, .ref 139, .ref 140, .int 377 0, .int 76 0, .str "/claim/cut.py" 378], #[]⟩),
  (142, fnO (findDef "coalesce" body0) "coalesce" "coalesce" (.str "corecc.alloc" 218) 141),
  (148, ⟨.type "code", none, .fields #[.str "worth_of" 380, .str "worth_of" 381, .str "/claim/cut.py" 382, .int 88 0, .int 3 0, .int 0 0, .int 0 0, .int 3 0, .ref 143, .bool true, .int 181 0, .ref 144, .none, .ref 145, .ref 146, .ref 147, .int 386 0, .int 88 0, .str "/claim/cut.py" 387], #[]⟩),
  (149, fnO (findDef "worth_of" body0) "worth_of" "worth_of" (.str "corecc.alloc" 218) 148),
  (155, ⟨.type "code", none, .fields #[.str "cheapest" 389, .str "cheapest" 390, .str "/claim/cut.py" 391, .int 90 0, .int 4 0, .int 0 0, .int 0 0, .int 3 0, .ref 150, .bool true, .int 181 0, .ref 151, .none, .ref 152, .ref 153, .ref 154, .int 400 0, .int 90 0, .str "/claim/cut.py" 401], #[]⟩),
  (156, fnO (findDef "cheapest" body0) "cheapest" "cheapest" (.str "corecc.alloc" 218) 155),
  (162, ⟨.type "code", none, .fields #[.str "stacked" 403, .str "stacked" 404, .str "/claim/cut.py" 405, .int 97 0, .int 3 0, .int 0 0, .int 0 0, .int 3 0, .ref 157, .bool true, .int 181 0, .ref 158, .none, .ref 159, .ref 160, .ref 161, .int 416 0, .int 97 0, .str "/claim/cut.py" 417], #[]⟩),
  (163, fnO (findDef "stacked" body0) "stacked" "stacked" (.str "corecc.alloc" 218) 162),
  (169, ⟨.type "code", none, .fields #[.str "mates_of" 419, .str "mates_of" 420, .str "/claim/cut.py" 421, .int 119 0, .int 1 0, .int 0 0, .int 0 0, .int 3 0, .ref 164, .bool true, .int 181 0, .ref 165, .none, .ref 166, .ref 167, .ref 168, .int 429 0, .int 119 0, .str "/claim/cut.py" 430], #[]⟩),
  (170, fnO (findDef "mates_of" body0) "mates_of" "mates_of" (.str "corecc.alloc" 218) 169),
  (174, ⟨.type "code", none, .fields #[.str "victim_of" 432, .str "victim_of" 433, .str "/claim/cut.py" 434, .int 127 0, .int 3 0, .int 0 0, .int 0 0, .int 3 0, .ref 171, .bool true, .int 181 0, .ref 172, .none, .none, .none, .ref 173, .int 435 0, .int 127 0, .str "/claim/cut.py" 436], #[]⟩),
  (175, fnO (findDef "victim_of" body0) "victim_of" "victim_of" (.str "corecc.alloc" 218) 174),
  (181, ⟨.type "code", none, .fields #[.str "number_for" 438, .str "number_for" 439, .str "/claim/cut.py" 440, .int 135 0, .int 3 0, .int 0 0, .int 0 0, .int 3 0, .ref 176, .bool true, .int 181 0, .ref 177, .none, .ref 178, .ref 179, .ref 180, .int 445 0, .int 135 0, .str "/claim/cut.py" 446], #[]⟩),
  (182, fnO (findDef "number_for" body0) "number_for" "number_for" (.str "corecc.alloc" 218) 181),
  (186, ⟨.type "code", none, .fields #[.str "coloured" 448, .str "coloured" 449, .str "/claim/cut.py" 450, .int 143 0, .int 3 0, .int 0 0, .int 0 0, .int 3 0, .ref 183, .bool true, .int 181 0, .ref 184, .none, .none, .none, .ref 185, .int 451 0, .int 143 0, .str "/claim/cut.py" 452], #[]⟩),
  (187, fnO (findDef "coloured" body0) "coloured" "coloured" (.str "corecc.alloc" 218) 186),
  (193, ⟨.type "code", none, .fields #[.str "_law_draw" 456, .str "_law_draw" 457, .str "/claim/cut.py" 458, .int 159 0, .int 2 0, .int 0 0, .int 0 0, .int 3 0, .ref 188, .bool true, .int 181 0, .ref 189, .none, .ref 190, .ref 191, .ref 192, .int 463 0, .int 159 0, .str "/claim/cut.py" 464], #[]⟩),
  (194, fnO (findDef "_law_draw" body0) "_law_draw" "_law_draw" (.str "law_nm0012_01" 454) 193),
  (198, ⟨.type "code", none, .fields #[.str "_law_easy" 466, .str "_law_easy" 467, .str "/claim/cut.py" 468, .int 165 0, .int 4 0, .int 0 0, .int 0 0, .int 3 0, .ref 195, .bool true, .int 181 0, .ref 196, .none, .none, .none, .ref 197, .int 469 0, .int 165 0, .str "/claim/cut.py" 470], #[]⟩),
  (199, fnO (findDef "_law_easy" body0) "_law_easy" "_law_easy" (.str "law_nm0012_01" 454) 198),
  (203, ⟨.type "code", none, .fields #[.str "_law_drawn" 472, .str "_law_drawn" 473, .str "/claim/cut.py" 474, .int 175 0, .int 3 0, .int 0 0, .int 0 0, .int 3 0, .ref 200, .bool true, .int 181 0, .ref 201, .none, .none, .none, .ref 202, .int 475 0, .int 175 0, .str "/claim/cut.py" 476], #[]⟩),
  (204, fnO (findDef "_law_drawn" body0) "_law_drawn" "_law_drawn" (.str "law_nm0012_01" 454) 203),
  (210, ⟨.type "code", none, .fields #[.str "_law_group" 478, .str "_law_group" 479, .str "/claim/cut.py" 480, .int 196 0, .int 3 0, .int 0 0, .int 0 0, .int 3 0, .ref 205, .bool true, .int 181 0, .ref 206, .none, .ref 207, .ref 208, .ref 209, .int 491 0, .int 196 0, .str "/claim/cut.py" 492], #[]⟩),
  (211, fnO (findDef "_law_group" body0) "_law_group" "_law_group" (.str "law_nm0012_01" 454) 210),
  (215, ⟨.type "code", none, .fields #[.str "_law_joined" 494, .str "_law_joined" 495, .str "/claim/cut.py" 496, .int 206 0, .int 6 0, .int 0 0, .int 0 0, .int 3 0, .ref 212, .bool true, .int 181 0, .ref 213, .none, .none, .none, .ref 214, .int 497 0, .int 206 0, .str "/claim/cut.py" 498], #[]⟩),
  (216, fnO (findDef "_law_joined" body0) "_law_joined" "_law_joined" (.str "law_nm0012_01" 454) 215),
  (220, ⟨.type "code", none, .fields #[.str "_law_is_unsafe" 500, .str "_law_is_unsafe" 501, .str "/claim/cut.py" 502, .int 231 0, .int 6 0, .int 0 0, .int 0 0, .int 3 0, .ref 217, .bool true, .int 181 0, .ref 218, .none, .none, .none, .ref 219, .int 503 0, .int 231 0, .str "/claim/cut.py" 504], #[]⟩),
  (221, fnO (findDef "_law_is_unsafe" body0) "_law_is_unsafe" "_law_is_unsafe" (.str "law_nm0012_01" 454) 220),
  (225, ⟨.type "code", none, .fields #[.str "_law_is_stuck" 506, .str "_law_is_stuck" 507, .str "/claim/cut.py" 508, .int 239 0, .int 5 0, .int 0 0, .int 0 0, .int 3 0, .ref 222, .bool true, .int 181 0, .ref 223, .none, .none, .none, .ref 224, .int 509 0, .int 239 0, .str "/claim/cut.py" 510], #[]⟩),
  (226, fnO (findDef "_law_is_stuck" body0) "_law_is_stuck" "_law_is_stuck" (.str "law_nm0012_01" 454) 225),
  (230, ⟨.type "code", none, .fields #[.str "_law_is_coloured" 512, .str "_law_is_coloured" 513, .str "/claim/cut.py" 514, .int 245 0, .int 7 0, .int 0 0, .int 0 0, .int 3 0, .ref 227, .bool true, .int 181 0, .ref 228, .none, .none, .none, .ref 229, .int 515 0, .int 245 0, .str "/claim/cut.py" 516], #[]⟩),
  (231, fnO (findDef "_law_is_coloured" body0) "_law_is_coloured" "_law_is_coloured" (.str "law_nm0012_01" 454) 230),
  (235, ⟨.type "code", none, .fields #[.str "law" 518, .str "law" 519, .str "/claim/cut.py" 520, .int 260 0, .int 1 0, .int 0 0, .int 0 0, .int 3 0, .ref 232, .bool true, .int 181 0, .ref 233, .none, .none, .none, .ref 234, .int 521 0, .int 260 0, .str "/claim/cut.py" 522], #[]⟩),
  (236, fnO (findDef "law" body0) "law" "law" (.str "law_nm0012_01" 454) 235)]
noncomputable def KAs : List Addr := [3, 27, 28, 30, 31, 47, 48, 54, 55, 57, 58, 75, 76, 82, 83, 89, 90, 96, 97, 103, 104, 108, 109, 113, 114, 120, 121, 123, 124, 134, 135, 141, 142, 148, 149, 155, 156, 162, 163, 169, 170, 174, 175, 181, 182, 186, 187, 193, 194, 198, 199, 203, 204, 210, 211, 215, 216, 220, 221, 225, 226, 230, 231, 235, 236]
noncomputable def VW0 : Program := view PySem.Challenge.pw_nm0012_01 [1, 3, 4, 5, 6, 7, 8, 9, 10, 11, 12, 13, 15, 16, 17, 18, 19, 20, 21, 22, 23]
noncomputable abbrev RW0 : RowW := OpenRow.toRowW PySem.Challenge.rw_nm0012_01.row
theorem left : LeftO RW0.prog VW0 [] (fun s => xlAt VW0 [] s && recOk (RowW.records RW0) s) (Hook.obs (kHook KF KAs fun _ => by kernel_rfl)) (Hook.val (kHook KF KAs fun _ => by kernel_rfl)) 3144 := fun w => by kernel_rfl
end Mine
end
section
open PySem PySem.W PyProof.Rows
namespace Mine
section
variable (C : Cfg) (n : Nat)
noncomputable def PBin (op : Operator) (a b : AV) (H : AHeap) (Q : AV → AHeap → Prop) : Prop := ∀ va vb, RepV a va → RepV b vb → SV C n RepV (binaryOp op va vb) H Q
noncomputable def PCmp (op : CmpOp) (a b : AV) (H : AHeap) (Q : AV → AHeap → Prop) : Prop := ∀ va vb, RepV a va → RepV b vb → SV C n RepV (compareOp op va vb) H Q
noncomputable def PTruth (a : AV) (H : AHeap) (Q : Bool → AHeap → Prop) : Prop := ∀ va, RepV a va → SV C n Eq (truthy va) H Q
noncomputable def PAttr (a : AV) (f : Str) (H : AHeap) (Q : AV → AHeap → Prop) : Prop := ∀ va, RepV a va → SV C n RepV (getAttr va f true) H Q
noncomputable def PSub (a i : AV) (H : AHeap) (Q : AV → AHeap → Prop) : Prop := ∀ va vi (value slice : PySem.Expr), RepV a va → RepV i vi →
  (∀ o j, subscripted slice false o j = operate [o, j] (getItem o j)) → SV C n RepV (subscriptTail value slice va vi) H Q
noncomputable def PSlHi (a h : AV) (H : AHeap) (Q : AV → AHeap → Prop) : Prop := ∀ va vh (value slice : PySem.Expr), RepV a va → RepV h vh →
  (∀ o j, subscripted slice false o j = operate [j, o] (getItem o j)) → ∀ A E s, Ok C n A H s →
  wpAny (model C.prog C.w) A (newFields "slice" [.none, vh, .none]) (fun i s1 => wpAny (model C.prog C.w) A (subscriptTail value slice va i) (QP C RepV H s Q) E s1) E s
noncomputable def PRev (a : AV) (H : AHeap) (Q : AV → AHeap → Prop) : Prop := ∀ va vm (value slice : PySem.Expr), RepV a va → RepV (.int (-1)) vm →
  (∀ o j, subscripted slice false o j = operate [o, j] (getItem o j)) → ∀ A E s, Ok C n A H s →
  wpAny (model C.prog C.w) A (newFields "slice" [.none, .none, vm]) (fun i s1 => wpAny (model C.prog C.w) A (subscriptTail value slice va i) (QP C RepV H s Q) E s1) E s
noncomputable def GlobIs (f : Str) (v : Value) : Prop := ∀ (M : Model) (A : Around) (E : Value → Shared → Prop) (s : Shared) (env : Env) (Q : Value → Shared → Prop),
  (∀ b o, C.base.get? b = some o → s.heap.get? b = some o) → env.globals = mainGlobals → env.builtins = builtinsNs → Q v s → wpAny M A (loadGlobal env f) Q E s
noncomputable def CalleeOk (v : Value) : Prop := ∀ (M : Model) (h : Heap), (∀ b o, C.base.get? b = some o → h.get? b = some o) →
  ∃ k, (k = Keeper.frame ∨ k = Keeper.machine ∨ k = Keeper.boundFrame) ∧ Looks M h (keeperOf v) k
noncomputable def FCall (X : AHeap → Prop) (v : Value) (args : List AV) (H : AHeap) (Q : AV → AHeap → Prop) : Prop := ∀ A s vs, Ok C n A H s → F2 RepV args vs →
  wpAny (model C.prog C.w) A (call v vs) (QP C RepV H s Q) (XP C A H s X) s
noncomputable def PGet (o : AV) (m : Str) (H : AHeap) (f : Value) : Prop := ∀ cv, RepV o cv → ∀ A E s (pl : Sem Bool) (Q : Value × List Value → Shared → Prop), Ok C n A H s →
  (∀ s', Rep C H s' → Step H H s s' → Q (f, [cv]) s') → wpAny (model C.prog C.w) A (getMethod cv m pl) Q E s
noncomputable def PSetAttr (o : AV) (f : Str) (v : AV) (H : AHeap) (Q : AHeap → Prop) : Prop := ∀ vo vv, RepV o vo → RepV v vv → SV C n (fun (_ _ : Unit) => True) (setAttr vo f vv) H (fun _ H' => Q H')
noncomputable def PSetSub (o i v : AV) (H : AHeap) (Q : AHeap → Prop) : Prop := ∀ vo vi vv, RepV o vo → RepV i vi → RepV v vv → SV C n (fun (_ _ : Unit) => True) (setItem vo vi vv) H (fun _ H' => Q H')
end
noncomputable def newAt (o : AO) (H : AHeap) (Q : AV → AHeap → Prop) : Prop := ∀ a, H a = none → Q (.ref a) (H.set a o)
noncomputable def itemsOf (H : AHeap) : AV → Option (List AV)
  | .ref a => match H a with
    | some (.list l) => some l
    | some (.dict l _) => some (l.map fun p => .int p.1)
    | some (.rng n) => some ((List.range n).map fun (i : Nat) => .int i)
    | _ => none
  | _ => none
noncomputable def srcSame (H H' : AHeap) : AV → Prop
  | .ref a => H' a = H a
  | _ => True
noncomputable def cupd (ρ : Loc) (x : Str) (v : AV) : Loc := fun y => if y = x then some v else if y = (".0" : Str) then none else ρ y
noncomputable def upds (ρ : Loc) : List Str → List AV → Loc
  | x :: xs, v :: vs => upds (upd ρ x v) xs vs
  | _, _ => ρ
noncomputable def unpackOf (H : AHeap) (v : AV) (k : Nat) (Q : List AV → Prop) : Prop := ∃ a l, v = .ref a ∧ (H a = some (.tup l) ∨ H a = some (.list l)) ∧ l.length = k ∧ Q l
noncomputable def putD (d : List (Int × AV)) (k : Int) (v : AV) : List (Int × AV) :=
  if d.any (fun p => p.1 = k) then d.map (fun p => if p.1 = k then (p.1, v) else p) else d ++ [(k, v)]
noncomputable abbrev Ls := List (Nat × AV)
noncomputable def lk : Ls → Nat → Option AV
  | [], _ => none
  | p :: r, i => match Nat.beq p.1 i with
    | true => some p.2
    | false => lk r i
noncomputable def pick : List Nat → Ls → Ls
  | [], _ => []
  | i :: r, l => match lk l i with
    | some v => (i, v) :: pick r l
    | none => pick r l
noncomputable def updL (l : Ls) : List Nat → List AV → Ls
  | x :: xs, v :: vs => updL ((x, v) :: l) xs vs
  | _, _ => l
noncomputable def envOf : Nat → List AV → Ls
  | _, [] => []
  | k, v :: r => (k, v) :: envOf (k + 1) r
noncomputable def ofL (ns : List Str) (l : Ls) : Loc := fun y => (ix ns y).bind (lk l)
noncomputable def Le (ρ ρ' : Loc) : Prop := ∀ x v, ρ x = some v → ρ' x = some v
noncomputable def isI : AV → Bool
  | .int _ => true
  | _ => false
noncomputable def getI : AV → Int
  | .int i => i
  | _ => 0
noncomputable def int1 (a : AV) (K : Int → Prop) : Prop := match a with
  | .int i => K i
  | _ => False
noncomputable def ref1 (a : AV) (K : Addr → Prop) : Prop := match a with
  | .ref i => K i
  | _ => False
noncomputable def int2 (a b : AV) (K : Int → Int → Prop) : Prop := int1 a fun i => int1 b fun j => K i j
@[irreducible] noncomputable def kCat (x y : Addr) (H : AHeap) (Q : AV → AHeap → Prop) : Prop := ∃ l l', H x = some (.list l) ∧ H y = some (.list l') ∧ l.length + l'.length ≤ 1000 ∧ newAt (.list (l ++ l')) H Q
noncomputable def eAdd (a b : AV) (H : AHeap) (Q : AV → AHeap → Prop) : Prop := match a with
  | .int i => int1 b fun j => Q (.int (i + j)) H
  | .ref x => ref1 b fun y => kCat x y H Q
  | _ => False
noncomputable def eBin (op : Operator) (a b : AV) (H : AHeap) (Q : AV → AHeap → Prop) : Prop := match op with
  | .Add => eAdd a b H Q
  | .Sub => int2 a b fun i j => Q (.int (i - j)) H
  | .Mult => int2 a b fun i j => j.natAbs ≤ 1000 ∧ Q (.int (i * j)) H
  | .FloorDiv => int2 a b fun i j => (0 < j ∧ j ≤ 1000000) ∧ Q (.int (i / j)) H
  | .Mod => int2 a b fun i j => 0 < j ∧ Q (.int (i % j)) H
  | .Pow => int2 a b fun i j => (i = 2 ∧ 0 ≤ j ∧ j ≤ 20) ∧ Q (.int (2 ^ j.toNat)) H
  | _ => False
@[irreducible] noncomputable def kIn (k : Int) (d : Addr) (H : AHeap) (T : Bool → AHeap → Prop) : Prop :=
  (∃ l ep, H d = some (.dict l ep) ∧ T (l.lookup k).isSome H) ∨ ∃ l, H d = some (.list l) ∧ l.all isI = true ∧ T (decide (AV.int k ∈ l)) H
noncomputable def eIn (a o : AV) (H : AHeap) (T : Bool → AHeap → Prop) : Prop := int1 a fun k => ref1 o fun d => kIn k d H T
@[irreducible] noncomputable def kEq (x y : Addr) (H : AHeap) (T : Bool → AHeap → Prop) : Prop :=
  (∃ l l', H x = some (.list l) ∧ H y = some (.list l') ∧ l.all isI = true ∧ l'.all isI = true ∧ l.length ≤ 1000 ∧ l'.length ≤ 1000 ∧ T (decide (l = l')) H) ∨
  ∃ l e e', H x = some (.dict l e) ∧ H y = some (.dict [] e') ∧ l.length ≤ 1000 ∧ T l.isEmpty H
noncomputable def bool1 (a : AV) (K : Bool → Prop) : Prop := match a with
  | .bool i => K i
  | _ => False
noncomputable def eEq (a b : AV) (H : AHeap) (T : Bool → AHeap → Prop) : Prop := match a with
  | .int i => int1 b fun j => T (decide (i = j)) H
  | .bool i => bool1 b fun j => T (i == j) H
  | .ref x => ref1 b fun y => kEq x y H T
  | _ => False
@[irreducible] noncomputable def kTupLt (x y : Addr) (H : AHeap) (T : Bool → AHeap → Prop) : Prop :=
  ∃ b i b' i', H x = some (.tup [.bool b, .int i]) ∧ H y = some (.tup [.bool b', .int i']) ∧ T (decide ((b = false ∧ b' = true) ∨ (b = b' ∧ i < i'))) H
noncomputable def eLt (a b : AV) (H : AHeap) (T : Bool → AHeap → Prop) : Prop := match a with
  | .int i => int1 b fun j => T (decide (i < j)) H
  | .ref x => ref1 b fun y => kTupLt x y H T
  | _ => False
noncomputable def isNo : AV → Bool
  | .none => true
  | _ => false
noncomputable def eIs (a b : AV) (H : AHeap) (T : Bool → AHeap → Prop) : Prop := match isNo b with
  | true => T (isNo a) H
  | false => False
noncomputable def eCmp (op : CmpOp) (a b : AV) (H : AHeap) (T : Bool → AHeap → Prop) : Prop := match op with
  | .Lt => eLt a b H T
  | .LtE => int2 a b fun i j => T (decide (i ≤ j)) H
  | .Gt => int2 a b fun i j => T (decide (j < i)) H
  | .GtE => int2 a b fun i j => T (decide (j ≤ i)) H
  | .Is => eIs a b H T
  | .In => eIn a b H T
  | .NotIn => eIn a b H fun r => T (!r)
  | .Eq => eEq a b H T
  | .NotEq => eEq a b H fun r => T (!r)
  | .IsNot => False
@[irreducible] noncomputable def kTruth (x : Addr) (H : AHeap) (T : Bool → AHeap → Prop) : Prop := ∃ l, H x = some (.list l) ∧ l.length ≤ 1000 ∧ T (!l.isEmpty) H
noncomputable def eTruth (a : AV) (H : AHeap) (T : Bool → AHeap → Prop) : Prop := match a with
  | .bool b => T b H
  | .ref x => kTruth x H T
  | _ => False
noncomputable def okAttr (c : Addr) (f : Str) : Bool := (c == 124 && (f == "near" || f == "crosses" || f == "cost" || f == "copies" || f == "alias")) || (c == 58 && (f == "all" || f == "kept"))
@[irreducible] noncomputable def kAttr (x : Addr) (f : Str) (H : AHeap) (Q : AV → AHeap → Prop) : Prop := ∃ c d l v, H x = some (.inst c d) ∧ H d = some (.ns l) ∧ okAttr c f = true ∧ l.lookup f = some v ∧ Q v H
noncomputable def eAttr (a : AV) (f : Str) (H : AHeap) (Q : AV → AHeap → Prop) : Prop := ref1 a fun x => kAttr x f H Q
noncomputable def nthOf (l : List AV) (i : Int) : Option AV := if i = -1 then l.getLast? else if 0 ≤ i then l[i.toNat]? else none
@[irreducible] noncomputable def kSub (a : Addr) (i : Int) (H : AHeap) (Q : AV → AHeap → Prop) : Prop :=
  (∃ l v, H a = some (.list l) ∧ l.length ≤ 1000 ∧ nthOf l i = some v ∧ Q v H) ∨ ∃ l ep v, H a = some (.dict l ep) ∧ l.lookup i = some v ∧ Q v H
noncomputable def eSub (a i : AV) (H : AHeap) (Q : AV → AHeap → Prop) : Prop := ref1 a fun a => int1 i fun i => kSub a i H Q
noncomputable def intsV : List Value → List Int → Prop
  | [], [] => True
  | v :: vs, i :: is => (∃ t, v = .int i t) ∧ intsV vs is
  | _, _ => False
@[irreducible] noncomputable def kSlHi (C : Cfg) (a : Addr) (i : Int) (H : AHeap) (Q : AV → AHeap → Prop) : Prop := 0 ≤ i ∧ i ≤ 1000 ∧
  ((∃ l, H a = some (.list l) ∧ l.length ≤ 1000 ∧ newAt (.list (l.take i.toNat)) H Q) ∨
   (H a = none ∧ ∃ vs ns, C.base.IsList a vs.toArray ∧ intsV vs ns ∧ ns.length ≤ 1000 ∧ newAt (.list ((ns.take i.toNat).map .int)) H Q))
noncomputable def eSlHi (C : Cfg) (a h : AV) (H : AHeap) (Q : AV → AHeap → Prop) : Prop := ref1 a fun a => int1 h fun i => kSlHi C a i H Q
@[irreducible] noncomputable def kRev (a : Addr) (H : AHeap) (Q : AV → AHeap → Prop) : Prop := ∃ l, H a = some (.list l) ∧ l.length ≤ 1000 ∧ newAt (.list l.reverse) H Q
noncomputable def eRev (a : AV) (H : AHeap) (Q : AV → AHeap → Prop) : Prop := ref1 a fun a => kRev a H Q
@[irreducible] noncomputable def kSetAttr (x : Addr) (f : Str) (v : AV) (H : AHeap) (Q : AHeap → Prop) : Prop := ∃ c d l, H x = some (.inst c d) ∧ H d = some (.ns l) ∧ okAttr c f = true ∧ l.lookup f = none ∧ l.length ≤ 20 ∧ Q (H.set d (.ns (l ++ [(f, v)])))
noncomputable def eSetAttr (a : AV) (f : Str) (v : AV) (H : AHeap) (Q : AHeap → Prop) : Prop := ref1 a fun x => kSetAttr x f v H Q
@[irreducible] noncomputable def kSetSub (a : Addr) (i : Int) (v : AV) (H : AHeap) (Q : AHeap → Prop) : Prop :=
  (∃ l, H a = some (.list l) ∧ 0 ≤ i ∧ i.toNat < l.length ∧ l.length ≤ 1000 ∧ Q (H.set a (.list (l.set i.toNat v)))) ∨
  ∃ l ep, H a = some (.dict l ep) ∧ l.length ≤ 1000 ∧ ∀ ep, Q (H.set a (.dict (putD l i v) ep))
noncomputable def eSetSub (a i v : AV) (H : AHeap) (Q : AHeap → Prop) : Prop := ref1 a fun a => int1 i fun i => kSetSub a i v H Q
noncomputable def delD (l : List (Int × AV)) (k : Int) : List (Int × AV) := l.filter fun p => !(p.1 == k)
noncomputable def updD (l m : List (Int × AV)) : List (Int × AV) := m.foldl (fun d p => putD d p.1 p.2) l
noncomputable def listsM : BM → Bool
  | .append => true | .lpop => true | _ => false
noncomputable def eHas (m : BM) (o : AV) (H : AHeap) : Prop := ∃ a, o = .ref a ∧ match listsM m with
  | true => ∃ l, H a = some (.list l)
  | false => ∃ l ep, H a = some (.dict l ep)
@[irreducible] noncomputable def kHas (m : BM) (o : AV) (H : AHeap) (K : Prop) : Prop := eHas m o H ∧ K
noncomputable def arg0 (vs : List AV) (K : Prop) : Prop := match vs with
  | [] => K
  | _ :: _ => False
noncomputable def arg1 (vs : List AV) (K : AV → Prop) : Prop := match vs with
  | [] => False
  | v :: r => arg0 r (K v)
noncomputable def arg2 (vs : List AV) (K : AV → AV → Prop) : Prop := match vs with
  | [] => False
  | v :: r => arg1 r (K v)
@[irreducible] noncomputable def kAppend (a : Addr) (v : AV) (H : AHeap) (Q : AV → AHeap → Prop) : Prop := ∃ l, H a = some (.list l) ∧ l.length ≤ 1000 ∧ Q .none (H.set a (.list (l ++ [v])))
@[irreducible] noncomputable def kLpop (a : Addr) (H : AHeap) (Q : AV → AHeap → Prop) : Prop := ∃ l v, H a = some (.list l) ∧ l.length ≤ 1000 ∧ l.getLast? = some v ∧ Q v (H.set a (.list l.dropLast))
@[irreducible] noncomputable def kDpop (a : Addr) (k : Int) (H : AHeap) (Q : AV → AHeap → Prop) : Prop := ∃ l ep v, H a = some (.dict l ep) ∧ l.length ≤ 1000 ∧ l.lookup k = some v ∧ ∀ ep, Q v (H.set a (.dict (delD l k) ep))
@[irreducible] noncomputable def kGet (a : Addr) (k : Int) (d : AV) (H : AHeap) (Q : AV → AHeap → Prop) : Prop := ∃ l ep, H a = some (.dict l ep) ∧ Q ((l.lookup k).getD d) H
@[irreducible] noncomputable def kUpdate (a b : Addr) (H : AHeap) (Q : AV → AHeap → Prop) : Prop := ∃ l e l' e', H a = some (.dict l e) ∧ H b = some (.dict l' e') ∧ a ≠ b ∧ l.length + l'.length ≤ 1000 ∧ ∀ ep, Q .none (H.set a (.dict (updD l l') ep))
noncomputable def eMeth (m : BM) (o : AV) (vs : List AV) (H : AHeap) (Q : AV → AHeap → Prop) : Prop := ref1 o fun a => match m with
  | .append => arg1 vs fun v => kAppend a v H Q
  | .lpop => arg0 vs (kLpop a H Q)
  | .dpop => arg1 vs fun k => int1 k fun k => kDpop a k H Q
  | .get => arg2 vs fun k d => int1 k fun k => kGet a k d H Q
  | .update => arg1 vs fun b => ref1 b fun b => kUpdate a b H Q
@[irreducible] noncomputable def kLen (a : Addr) (H : AHeap) (Q : AV → AHeap → Prop) : Prop :=
  (∃ l, H a = some (.list l) ∧ l.length ≤ 1000 ∧ Q (.int l.length) H) ∨ ∃ l ep, H a = some (.dict l ep) ∧ l.length ≤ 1000 ∧ Q (.int l.length) H
@[irreducible] noncomputable def kList (C : Cfg) (a : Addr) (H : AHeap) (Q : AV → AHeap → Prop) : Prop :=
  (∃ l, H a = some (.list l) ∧ l.length ≤ 1000 ∧ newAt (.list l) H Q) ∨ ∃ l ep, H a = some (.dict l ep) ∧ C.hd = false ∧ l.length ≤ 1000 ∧ newAt (.list (l.map fun p => .int p.1)) H Q
@[irreducible] noncomputable def kDict (a : Addr) (H : AHeap) (Q : AV → AHeap → Prop) : Prop := ∃ l ep, H a = some (.dict l ep) ∧ l.length ≤ 1000 ∧ ∀ b ep, H b = none → Q (.ref b) (H.set b (.dict l ep))
@[irreducible] noncomputable def kRange (n : Int) (H : AHeap) (Q : AV → AHeap → Prop) : Prop := 0 ≤ n ∧ n ≤ 1000 ∧ newAt (.rng n.toNat) H Q
noncomputable def sortsOf (H : AHeap) (a : Addr) (l : List AV) : Prop := H a = some (.list l) ∨ ∃ d ep, H a = some (.dict d ep) ∧ l = d.map fun p => .int p.1
@[irreducible] noncomputable def kSorted (C : Cfg) (a : Addr) (H : AHeap) (Q : AV → AHeap → Prop) : Prop := ∃ l, sortsOf H a l ∧ C.hd = false ∧ l.length ≤ 60 ∧ ((l.all isI = true ∧ ∀ l', l'.Perm l → (l'.map getI).Pairwise (· ≤ ·) → newAt (.list l') H Q) ∨
  (l.length ≤ 4 ∧ (∀ x ∈ l, ∃ t a b c, x = .ref t ∧ H t = some (.tup [.int a, .int b, .int c])) ∧ ∀ l', l'.Perm l → newAt (.list l') H Q))
@[irreducible] noncomputable def kSum (C : Cfg) (a : Addr) (H : AHeap) (Q : AV → AHeap → Prop) : Prop := ∃ l, H a = some (.list l) ∧ C.hd = false ∧ l.all isI = true ∧ l.length ≤ 1000 ∧ Q (.int (l.map getI).sum) H
noncomputable def eCallB (C : Cfg) (b : BF) (vs : List AV) (H : AHeap) (Q : AV → AHeap → Prop) : Prop := arg1 vs fun v => match b with
  | .len => ref1 v fun a => kLen a H Q
  | .list => ref1 v fun a => kList C a H Q
  | .dict => ref1 v fun a => kDict a H Q
  | .range => int1 v fun n => kRange n H Q
  | .sorted => ref1 v fun a => kSorted C a H Q
  | .sum => ref1 v fun a => kSum C a H Q
@[irreducible] noncomputable def kGlob (C : Cfg) (f : Str) (K : Value → Prop) : Prop := ∃ g, GlobIs C f g ∧ CalleeOk C g ∧ K g
@[irreducible] noncomputable def kMeth (C : Cfg) (n : Nat) (o : AV) (m : Str) (H : AHeap) (K : Value → Prop) : Prop := ∃ f, PGet C n o m H f ∧ CalleeOk C f ∧ K f
inductive AF where
  | next | brk | cont | ret (v : AV)
noncomputable def br (b : Bool) (A B : Prop) : Prop := match b with
  | true => A
  | false => B
mutual
noncomputable def dE (C : Cfg) (n : Nat) (X : AHeap → Prop) : PE → Ls → AHeap → (AV → AHeap → Prop) → Prop
  | .var x, ρ, H, Q => match lk ρ x with
    | some v => Q v H
    | none => False
  | .int i, _, H, Q => Q (.int i) H
  | .bool b, _, H, Q => Q (.bool b) H
  | .none, _, H, Q => Q .none H
  | .neg i, _, H, Q => Q (.int (-i)) H
  | .bin op a b, ρ, H, Q => dE C n X a ρ H fun va H1 => dE C n X b ρ H1 fun vb H2 => eBin op va vb H2 Q
  | .not _, _, _, _ => False
  | .cmp op a b, ρ, H, Q => dE C n X a ρ H fun va H1 => dE C n X b ρ H1 fun vb H2 => eCmp op va vb H2 fun b => Q (.bool b)
  | .and es, ρ, H, Q => dVA C n X es ρ H Q
  | .or es, ρ, H, Q => dVO C n X es ρ H Q
  | .ite t a b, ρ, H, Q => dT C n X t ρ H fun c H1 => br c (dE C n X a ρ H1 Q) (dE C n X b ρ H1 Q)
  | .attr a f, ρ, H, Q => dE C n X a ρ H fun va H1 => eAttr va f H1 Q
  | .sub a i, ρ, H, Q => dE C n X a ρ H fun va H1 => dE C n X i ρ H1 fun vi H2 => eSub va vi H2 Q
  | .slHi a h, ρ, H, Q => dE C n X a ρ H fun va H1 => dE C n X h ρ H1 fun vh H2 => eSlHi C va vh H2 Q
  | .rev a, ρ, H, Q => dE C n X a ρ H fun va H1 => eRev va H1 Q
  | .list es, ρ, H, Q => dEs C n X es ρ H fun vs H1 => newAt (.list vs) H1 Q
  | .tup es, ρ, H, Q => dEs C n X es ρ H fun vs H1 => newAt (.tup vs) H1 Q
  | .dict0, _, H, Q => ∀ a ep, H a = none → Q (.ref a) (H.set a (.dict [] ep))
  | .call f es, ρ, H, Q => kGlob C f fun g => dEs C n X es ρ H fun vs H1 => FCall C n X g vs H1 Q
  | .meth o m es, ρ, H, Q => dE C n X o ρ H fun vo H1 => kMeth C n vo m H1 fun f => dEs C n X es ρ H1 fun vs H2 => FCall C n X f (vo :: vs) H2 Q
  | .callB b es, ρ, H, Q => dEs C n X es ρ H fun vs H1 => eCallB C b vs H1 Q
  | .methB m o es, ρ, H, Q => dE C n X o ρ H fun vo H1 => kHas m vo H1 (dEs C n X es ρ H1 fun vs H2 => eMeth m vo vs H2 Q)
  | .lcomp e x src c, ρ, H, Q => dE C n X src ρ H fun v H1 => ∃ l, itemsOf H1 v = some l ∧ l.length ≤ 10000 ∧ ∃ I : Nat → List AV → AHeap → Prop, I 0 [] H1 ∧
      (∀ i acc H', I i acc H' → srcSame H1 H' v) ∧
      (∀ i acc H' (w : AV), I i acc H' → l[i]? = some w → dTA C n (fun _ => False) c ((x, w) :: ρ) H' fun b H2 => br b (dE C n (fun _ => False) e ((x, w) :: ρ) H2 fun u H3 => I (i + 1) (acc ++ [u]) H3) (I (i + 1) acc H2)) ∧
      (∀ acc H', I l.length acc H' → newAt (.list acc) H' Q)
  | .dcomp k u x src c, ρ, H, Q => dE C n X src ρ H fun v H1 => ∃ l, itemsOf H1 v = some l ∧ l.length ≤ 10000 ∧ ∃ I : Nat → List (Int × AV) → AHeap → Prop, I 0 [] H1 ∧
      (∀ i acc H', I i acc H' → srcSame H1 H' v) ∧
      (∀ i acc H' (w : AV), I i acc H' → l[i]? = some w → dTA C n (fun _ => False) c ((x, w) :: ρ) H' fun b H2 => br b (dE C n (fun _ => False) k ((x, w) :: ρ) H2 fun kv H3 => dE C n (fun _ => False) u ((x, w) :: ρ) H3 fun uv H4 => int1 kv fun kk => I (i + 1) (putD acc kk uv) H4) (I (i + 1) acc H2)) ∧
      (∀ acc H', I l.length acc H' → ∀ a ep, H' a = none → Q (.ref a) (H'.set a (.dict acc ep)))
noncomputable def dEs (C : Cfg) (n : Nat) (X : AHeap → Prop) : PEs → Ls → AHeap → (List AV → AHeap → Prop) → Prop
  | .nil, _, H, Q => Q [] H
  | .cons e r, ρ, H, Q => dE C n X e ρ H fun v H1 => dEs C n X r ρ H1 fun vs H2 => Q (v :: vs) H2
noncomputable def dT (C : Cfg) (n : Nat) (X : AHeap → Prop) : PE → Ls → AHeap → (Bool → AHeap → Prop) → Prop
  | .not a, ρ, H, Q => dT C n X a ρ H fun b H1 => Q (!b) H1
  | .and es, ρ, H, Q => dTA C n X es ρ H Q
  | .or es, ρ, H, Q => dTO C n X es ρ H Q
  | .cmp op a b, ρ, H, Q => dE C n X a ρ H fun va H1 => dE C n X b ρ H1 fun vb H2 => eCmp op va vb H2 Q
  | .var x, ρ, H, Q => match lk ρ x with
    | some v => eTruth v H Q
    | none => False
  | .call f es, ρ, H, Q => kGlob C f fun g => dEs C n X es ρ H fun vs H1 => FCall C n X g vs H1 fun v H2 => eTruth v H2 Q
  | _, _, _, _ => False
noncomputable def dTA (C : Cfg) (n : Nat) (X : AHeap → Prop) : PEs → Ls → AHeap → (Bool → AHeap → Prop) → Prop
  | .nil, _, H, Q => Q true H
  | .cons e r, ρ, H, Q => dT C n X e ρ H fun b H1 => br b (dTA C n X r ρ H1 Q) (Q false H1)
noncomputable def dTO (C : Cfg) (n : Nat) (X : AHeap → Prop) : PEs → Ls → AHeap → (Bool → AHeap → Prop) → Prop
  | .nil, _, H, Q => Q false H
  | .cons e r, ρ, H, Q => dT C n X e ρ H fun b H1 => br b (Q true H1) (dTO C n X r ρ H1 Q)
noncomputable def dVA (C : Cfg) (n : Nat) (X : AHeap → Prop) : PEs → Ls → AHeap → (AV → AHeap → Prop) → Prop
  | .nil, _, _, _ => False
  | .cons e r, ρ, H, Q => match r with
    | .nil => dE C n X e ρ H Q
    | .cons e2 r2 => dE C n X e ρ H fun v H1 => eTruth v H1 fun b H2 => br b (dVA C n X (.cons e2 r2) ρ H2 Q) (Q v H2)
noncomputable def dVO (C : Cfg) (n : Nat) (X : AHeap → Prop) : PEs → Ls → AHeap → (AV → AHeap → Prop) → Prop
  | .nil, _, _, _ => False
  | .cons e r, ρ, H, Q => match r with
    | .nil => dE C n X e ρ H Q
    | .cons e2 r2 => dE C n X e ρ H fun v H1 => eTruth v H1 fun b H2 => br b (Q v H2) (dVO C n X (.cons e2 r2) ρ H2 Q)
end
noncomputable def turnEnd {R : Type} (go : R → AHeap → Prop) (Q : AF → R → AHeap → Prop) : AF → R → AHeap → Prop
  | .next, ρ, H => go ρ H
  | .cont, ρ, H => go ρ H
  | .brk, ρ, H => Q .next ρ H
  | .ret v, ρ, H => Q (.ret v) ρ H
noncomputable def aft {R : Type} (go : R → AHeap → Prop) (Q : AF → R → AHeap → Prop) : AF → R → AHeap → Prop
  | .next, ρ, H => go ρ H
  | .cont, ρ, H => Q .cont ρ H
  | .brk, ρ, H => Q .brk ρ H
  | .ret v, ρ, H => Q (.ret v) ρ H
mutual
noncomputable def dS (C : Cfg) (n : Nat) (X : AHeap → Prop) : PS → Ls → AHeap → (AF → Ls → AHeap → Prop) → Prop
  | .assign x e, ρ, H, Q => dE C n X e ρ H fun v H1 => Q .next ((x, v) :: ρ) H1
  | .assignT xs e, ρ, H, Q => dE C n X e ρ H fun v H1 => unpackOf H1 v xs.length fun l => Q .next (updL ρ xs l) H1
  | .assignTT xs es, ρ, H, Q => dEs C n X es ρ H fun l H1 => Q .next (updL ρ xs l) H1
  | .setattr o f e, ρ, H, Q => dE C n X e ρ H fun v H1 => dE C n X o ρ H1 fun vo H2 => eSetAttr vo f v H2 fun H3 => Q .next ρ H3
  | .setsub o i e, ρ, H, Q => dE C n X e ρ H fun v H1 => dE C n X o ρ H1 fun vo H2 => dE C n X i ρ H2 fun vi H3 => eSetSub vo vi v H3 fun H4 => Q .next ρ H4
  | .expr e, ρ, H, Q => dE C n X e ρ H fun _ H1 => Q .next ρ H1
  | .ret e, ρ, H, Q => dE C n X e ρ H fun v H1 => Q (.ret v) ρ H1
  | .ifS t a b, ρ, H, Q => dT C n X t ρ H fun c H1 => br c (dSs C n X a ρ H1 Q) (dSs C n X b ρ H1 Q)
  | .while t b, ρ, H, Q => ∃ I : Nat → Ls → AHeap → Prop, (∃ ns m, I m (pick ns ρ) H) ∧
      ∀ m ρ' H', I m ρ' H' → dT C n (fun _ => False) t ρ' H' fun c H2 => br c (dSs C n (fun _ => False) b ρ' H2 (turnEnd (fun ρ3 H3 => ∃ ns m', m' < m ∧ I m' (pick ns ρ3) H3) Q)) (Q .next ρ' H2)
  | .for1 x it b, ρ, H, Q => dE C n X it ρ H fun v H1 => ∃ l, itemsOf H1 v = some l ∧ ∃ I : Nat → Ls → AHeap → Prop, (∃ ns, I 0 (pick ns ρ) H1) ∧
      (∀ i ρ' H', I i ρ' H' → srcSame H1 H' v) ∧
      (∀ i ρ' H' (w : AV), I i ρ' H' → l[i]? = some w → dSs C n (fun _ => False) b ((x, w) :: ρ') H' (turnEnd (fun ρ2 H2 => ∃ ns, I (i + 1) (pick ns ρ2) H2) Q)) ∧
      (∀ ρ' H', I l.length ρ' H' → Q .next ρ' H')
  | .forT xs it b, ρ, H, Q => dE C n X it ρ H fun v H1 => ∃ l, itemsOf H1 v = some l ∧ ∃ I : Nat → Ls → AHeap → Prop, (∃ ns, I 0 (pick ns ρ) H1) ∧
      (∀ i ρ' H', I i ρ' H' → srcSame H1 H' v) ∧
      (∀ i ρ' H' (w : AV), I i ρ' H' → l[i]? = some w → unpackOf H' w xs.length fun ws => dSs C n (fun _ => False) b (updL ρ' xs ws) H' (turnEnd (fun ρ2 H2 => ∃ ns, I (i + 1) (pick ns ρ2) H2) Q)) ∧
      (∀ ρ' H', I l.length ρ' H' → Q .next ρ' H')
  | .forX x it b, ρ, H, Q => dE C n X it ρ H fun v H1 => ∃ l, itemsOf H1 v = some l ∧ ∃ I : Nat → Ls → AHeap → Prop, (∃ ns, I 0 (pick ns ρ) H1) ∧
      (∀ i ρ' H', I i ρ' H' → srcSame H1 H' v) ∧
      (∀ i ρ' H' (w : AV), I i ρ' H' → l[i]? = some w → dSs C n X b ((x, w) :: ρ') H' (turnEnd (fun ρ2 H2 => ∃ ns, I (i + 1) (pick ns ρ2) H2) Q)) ∧
      (∀ ρ' H', I l.length ρ' H' → Q .next ρ' H')
  | .cont, ρ, H, Q => Q .cont ρ H
  | .raiseCF _, _, H, _ => C.hd = false ∧ X H
  | .tryA xs e h, ρ, H, Q => (C.hd = false ∧ C.tot ≤ n + 1) ∧ dE C n (fun H1 => dE C.on n (fun _ => False) h ρ H1 fun v H2 => Q (.ret v) ρ H2) e ρ H fun v H1 => unpackOf H1 v xs.length fun l => Q .next (updL ρ xs l) H1
noncomputable def dSs (C : Cfg) (n : Nat) (X : AHeap → Prop) : PSs → Ls → AHeap → (AF → Ls → AHeap → Prop) → Prop
  | .nil, ρ, H, Q => Q .next ρ H
  | .cons s r, ρ, H, Q => dS C n X s ρ H (aft (fun ρ1 H1 => dSs C n X r ρ1 H1 Q) Q)
  | .join s ns r, ρ, H, Q => ∃ K : Ls → AHeap → Prop, dS C n X s ρ H (aft (fun ρ1 H1 => K (pick ns ρ1) H1) Q) ∧ ∀ ρ1 H1, K ρ1 H1 → dSs C n X r ρ1 H1 Q
end
structure Prims (C : Cfg) (n : Nat) : Prop where
  bin : ∀ {op a b H Q}, eBin op a b H Q → PBin C n op a b H Q
  cmp : ∀ {op a b H T}, eCmp op a b H T → PCmp C n op a b H fun v H' => ∃ b, v = .bool b ∧ T b H'
  truth : ∀ {a H Q}, eTruth a H Q → PTruth C n a H Q
  attr : ∀ {a f H Q}, eAttr a f H Q → PAttr C n a f H Q
  sub : ∀ {a i H Q}, eSub a i H Q → PSub C n a i H Q
  slHi : ∀ {a i H Q}, eSlHi C a i H Q → PSlHi C n a i H Q
  rev : ∀ {a H Q}, eRev a H Q → PRev C n a H Q
  setAttr : ∀ {a f v H Q}, eSetAttr a f v H Q → PSetAttr C n a f v H Q
  setSub : ∀ {a i v H Q}, eSetSub a i v H Q → PSetSub C n a i v H Q
  callB : ∀ b, ∃ g, GlobIs C b.name g ∧ CalleeOk C g ∧ ∀ {X vs H Q}, eCallB C b vs H Q → FCall C n X g vs H Q
  methB : ∀ m {o H}, eHas m o H → ∃ f, PGet C n o m.name H f ∧ CalleeOk C f ∧ ∀ {X vs H2 Q}, eMeth m o vs H2 Q → FCall C n X f (o :: vs) H2 Q
end Mine
end
section
open PySem PySem.W PyProof.Rows PySem.Calls
namespace Mine
section
variable {C : Cfg} {n : Nat} {X : AHeap → Prop} {A : Around} {H : AHeap} {s : Shared} {α β : Type} {R : β → α → Prop}
theorem go {t : Sem α} {P : α → Shared → Prop} {s1 : Shared} {H1 : AHeap} {Q1 : β → AHeap → Prop} (h : wpAny (model C.prog C.w) A t (QP C R H1 s1 Q1) (XP C A H1 s1 X) s1) (st : Step H H1 s s1)
    (k : ∀ v b s2 H2, R b v → Rep C H2 s2 → Step H H2 s s2 → Q1 b H2 → P v s2) : wpAny (model C.prog C.w) A t P (XP C A H s X) s1 :=
  wpAny_mono h (fun v s2 ⟨b, H2, h1, h2, h3, h4⟩ => k v b s2 H2 h1 h2 (st.trans h3) h4) fun _ _ z => z.pre st
theorem goV {t : Sem α} {P : α → Shared → Prop} {E : Value → Shared → Prop} {s1 : Shared} {H1 : AHeap} {Q1 : β → AHeap → Prop} (h : SV C n R t H1 Q1) (ok : Ok C n A H1 s1) (st : Step H H1 s s1)
    (k : ∀ v b s2 H2, R b v → Rep C H2 s2 → Step H H2 s s2 → Q1 b H2 → P v s2) : wpAny (model C.prog C.w) A t P E s1 :=
  wpAny_mono (h A E s1 ok) (fun v s2 ⟨b, H2, h1, h2, h3, h4⟩ => k v b s2 H2 h1 h2 (st.trans h3) h4) fun _ _ z => z
end
theorem mono_E {C : Cfg} {n : Nat} {X : AHeap → Prop} {env : Env} {e : PySem.Expr} {ρ : Loc} {H : AHeap} {Q Q' : AV → AHeap → Prop} (h : JE C n X env e ρ H Q) (k : ∀ v H', Q v H' → Q' v H') : JE C n X env e ρ H Q' :=
  fun A s ok F => wpAny_mono (h A s ok F) (fun _ _ ⟨b, H', h1, h2, h3, h4⟩ => ⟨b, H', h1, h2, h3, k _ _ h4⟩) fun _ _ z => z
noncomputable def JEs (C : Cfg) (n : Nat) (X : AHeap → Prop) (env : Env) (es : List PySem.Expr) (ρ : Loc) (H : AHeap) (Q : List AV → AHeap → Prop) : Prop :=
  ∀ pos A s, Ok C n A H s → Frm C env ρ H s → wpAny (model C.prog C.w) A (spliced (backTo pos (starEach es env))) (QP C (F2 RepV) H s Q) (XP C A H s X) s
noncomputable def JT (C : Cfg) (n : Nat) (X : AHeap → Prop) (env : Env) (e : PySem.Expr) (ρ : Loc) (H : AHeap) (Q : Bool → AHeap → Prop) : Prop :=
  ∀ A s, Ok C n A H s → Frm C env ρ H s → wpAny (model C.prog C.w) A (isTrue e env (eval e env)) (QP C Eq H s Q) (XP C A H s X) s
noncomputable def JTA (C : Cfg) (n : Nat) (X : AHeap → Prop) (op : BoolOp) (env : Env) (es : List PySem.Expr) (ρ : Loc) (H : AHeap) (Q : Bool → AHeap → Prop) : Prop :=
  ∀ A s, Ok C n A H s → Frm C env ρ H s → wpAny (model C.prog C.w) A (allTrue op es env) (QP C Eq H s Q) (XP C A H s X) s
section
variable {C : Cfg} {n : Nat} {X : AHeap → Prop} {env : Env} {ρ : Loc} {H : AHeap}
theorem jVar {x : Str} {pos : Pos} {Q : AV → AHeap → Prop} {v : AV} (hx : isVar env.scope.names x = true) (hv : ρ x = some v) (h : Q v H) : JE C n X env (.Name x pos) ρ H Q := by
  intro A s ok F
  simp only [isVar, Bool.and_eq_true, Bool.or_eq_true, beq_iff_eq, Bool.not_eq_true'] at hx
  refine wpAny_Name (F.load ?_ hv fun cv hr => ⟨v, H, hr, ok.rep, .refl _ _, h⟩) hx.2
  rcases hx.1 with (h | h) | h
  · exact .inl h
  · exact .inr (.inl h)
  · exact .inr (.inr h)
theorem jInt {i : Int} {k pos} {Q : AV → AHeap → Prop} (h : Q (.int i) H) : JE C n X env (.Constant (.int i) k pos) ρ H Q :=
  fun _ s ok _ => wpAny_Constant_int ⟨.int i, H, ⟨_, rfl⟩, ok.rep.tok _, .tok _ _ _, h⟩
theorem jBool {b : Bool} {k pos} {Q : AV → AHeap → Prop} (h : Q (.bool b) H) : JE C n X env (.Constant (.bool b) k pos) ρ H Q :=
  fun _ s ok _ => wpAny_Constant_bool ⟨.bool b, H, rfl, ok.rep, .refl _ _, h⟩
theorem jNone {k pos} {Q : AV → AHeap → Prop} (h : Q .none H) : JE C n X env (.Constant .none k pos) ρ H Q :=
  fun _ s ok _ => wpAny_Constant_none ⟨.none, H, rfl, ok.rep, .refl _ _, h⟩
theorem jNeg {i : Int} {k pos pos'} {Q : AV → AHeap → Prop} (h : Q (.int (-i)) H) : JE C n X env (.UnaryOp .USub (.Constant (.int i) k pos) pos') ρ H Q :=
  fun _ s ok _ => UnaryOp_ (wpAny_Constant_int (P.neg_int ⟨.int (-i), H, ⟨_, rfl⟩, (ok.rep.tok _).tok _, ⟨fun _ _ e _ => e, fun _ z => .inl z⟩, h⟩))
theorem jBin {op : Operator} {l r : PySem.Expr} {pos : Pos} {Q : AV → AHeap → Prop} {Q1 : AV → AHeap → Prop} {Q2 : AV → AV → AHeap → Prop}
    (h1 : JE C n X env l ρ H Q1) (h2 : ∀ va H1, Q1 va H1 → JE C n X env r ρ H1 (Q2 va)) (h3 : ∀ va vb H2, Q2 va vb H2 → PBin C n op va vb H2 Q) : JE C n X env (.BinOp l op r pos) ρ H Q := by
  intro A s ok F
  refine wpAny_BinOp (go (h1 A s ok F) (.refl _ _) fun a va s1 H1 ra r1 st1 q1 => ?_)
  refine go (h2 va H1 q1 A s1 (ok.step st1 r1) (F.step st1)) st1 fun b vb s2 H2 rb r2 st2 q2 => ?_
  exact goV (h3 va vb H2 q2 a b ra rb) (ok.step st2 r2) st2 fun v w s3 H3 rv r3 st3 q3 => ⟨w, H3, rv, r3, st3, q3⟩
theorem jCmp {op : CmpOp} {l r : PySem.Expr} {pos : Pos} {Q : AV → AHeap → Prop} {Q1 : AV → AHeap → Prop} {Q2 : AV → AV → AHeap → Prop} (hm : behindInMarks op r = false)
    (h1 : JE C n X env l ρ H Q1) (h2 : ∀ va H1, Q1 va H1 → JE C n X env r ρ H1 (Q2 va)) (h3 : ∀ va vb H2, Q2 va vb H2 → PCmp C n op va vb H2 Q) : JE C n X env (.Compare l [op] [r] pos) ρ H Q := by
  intro A s ok F
  refine wpAny_Compare1 (go (h1 A s ok F) (.refl _ _) fun a va s1 H1 ra r1 st1 q1 => ?_) hm
  refine go (h2 va H1 q1 A s1 (ok.step st1 r1) (F.step st1)) st1 fun b vb s2 H2 rb r2 st2 q2 => ?_
  exact goV (h3 va vb H2 q2 a b ra rb) (ok.step st2 r2) st2 fun v w s3 H3 rv r3 st3 q3 => ⟨w, H3, rv, r3, st3, q3⟩
theorem jCmpT {op : CmpOp} {l r : PySem.Expr} {pos : Pos} {Q : Bool → AHeap → Prop} {Q1 : AV → AHeap → Prop} {Q2 : AV → AV → AHeap → Prop} (hm : behindInMarks op r = false)
    (h1 : JE C n X env l ρ H Q1) (h2 : ∀ va H1, Q1 va H1 → JE C n X env r ρ H1 (Q2 va)) (h3 : ∀ va vb H2, Q2 va vb H2 → PCmp C n op va vb H2 fun r H3 => ∃ b, r = .bool b ∧ Q b H3) : JT C n X env (.Compare l [op] [r] pos) ρ H Q := by
  intro A s ok F
  refine wpAny_isTrue_Compare1 (go (h1 A s ok F) (.refl _ _) fun a va s1 H1 ra r1 st1 q1 => ?_) hm
  refine go (h2 va H1 q1 A s1 (ok.step st1 r1) (F.step st1)) st1 fun b vb s2 H2 rb r2 st2 q2 => ?_
  refine goV (h3 va vb H2 q2 a b ra rb) (ok.step st2 r2) st2 fun v w s3 H3 rv r3 st3 q3 => ?_
  obtain ⟨c, rfl, q⟩ := q3
  cases rv
  exact wpAny_truthy_bool ⟨c, H3, rfl, r3, st3, q⟩
theorem jIf {t a b : PySem.Expr} {pos : Pos} {Q : AV → AHeap → Prop} {Q1 : Bool → AHeap → Prop} (h1 : JT C n X env t ρ H Q1) (h2 : ∀ H1, Q1 true H1 → JE C n X env a ρ H1 Q) (h3 : ∀ H1, Q1 false H1 → JE C n X env b ρ H1 Q) :
    JE C n X env (.IfExp t a b pos) ρ H Q := by
  intro A s ok F
  refine IfExp_ (go (h1 A s ok F) (.refl _ _) fun c b' s1 H1 rb r1 st1 q1 => ?_)
  cases rb
  cases c with
  | true => rw [if_pos rfl]; exact go (h2 H1 q1 A s1 (ok.step st1 r1) (F.step st1)) st1 fun v w s3 H3 rv r3 st3 q3 => ⟨w, H3, rv, r3, st3, q3⟩
  | false => rw [if_neg Bool.false_ne_true]; exact go (h3 H1 q1 A s1 (ok.step st1 r1) (F.step st1)) st1 fun v w s3 H3 rv r3 st3 q3 => ⟨w, H3, rv, r3, st3, q3⟩
theorem jNotT {a : PySem.Expr} {pos : Pos} {Q : Bool → AHeap → Prop} (h : JT C n X env a ρ H fun b H1 => Q (!b) H1) : JT C n X env (.UnaryOp .Not a pos) ρ H Q := by
  intro A s ok F
  refine isTrue_not (wpAny_mono (h A s ok F) (fun c s1 z => ?_) fun _ _ z => z)
  obtain ⟨b, H1, rfl, r1, st1, q1⟩ := z
  exact ⟨!b, H1, rfl, r1, st1, q1⟩
theorem jBoolOpT {op : BoolOp} {es : List PySem.Expr} {pos : Pos} {Q : Bool → AHeap → Prop} (h : JTA C n X op env es ρ H Q) : JT C n X env (.BoolOp op es pos) ρ H Q :=
  fun A s ok F => wpAny_isTrue_BoolOp (h A s ok F)
theorem jAndNil {Q : Bool → AHeap → Prop} (h : Q true H) : JTA C n X .And env [] ρ H Q := fun _ _ ok _ => wpAny_allTrue_And_nil ⟨true, H, rfl, ok.rep, .refl _ _, h⟩
theorem jOrNil {Q : Bool → AHeap → Prop} (h : Q false H) : JTA C n X .Or env [] ρ H Q := fun _ _ ok _ => wpAny_allTrue_Or_nil ⟨false, H, rfl, ok.rep, .refl _ _, h⟩
theorem jAndCons {e : PySem.Expr} {es : List PySem.Expr} {Q Q1 : Bool → AHeap → Prop} (h1 : JT C n X env e ρ H Q1) (h2 : ∀ H1, Q1 true H1 → JTA C n X .And env es ρ H1 Q) (h3 : ∀ H1, Q1 false H1 → Q false H1) : JTA C n X .And env (e :: es) ρ H Q := by
  intro A s ok F
  refine wpAny_allTrue_And_cons (go (h1 A s ok F) (.refl _ _) fun c b' s1 H1 rb r1 st1 q1 => ?_)
  cases rb
  cases c with
  | true => rw [if_pos rfl]; exact go (h2 H1 q1 A s1 (ok.step st1 r1) (F.step st1)) st1 fun v w s3 H3 rv r3 st3 q3 => ⟨w, H3, rv, r3, st3, q3⟩
  | false => rw [if_neg Bool.false_ne_true]; exact ⟨false, H1, rfl, r1, st1, h3 H1 q1⟩
theorem jOrCons {e : PySem.Expr} {es : List PySem.Expr} {Q Q1 : Bool → AHeap → Prop} (h1 : JT C n X env e ρ H Q1) (h2 : ∀ H1, Q1 false H1 → JTA C n X .Or env es ρ H1 Q) (h3 : ∀ H1, Q1 true H1 → Q true H1) : JTA C n X .Or env (e :: es) ρ H Q := by
  intro A s ok F
  refine wpAny_allTrue_Or_cons (go (h1 A s ok F) (.refl _ _) fun c b' s1 H1 rb r1 st1 q1 => ?_)
  cases rb
  cases c with
  | false => rw [if_neg Bool.false_ne_true]; exact go (h2 H1 q1 A s1 (ok.step st1 r1) (F.step st1)) st1 fun v w s3 H3 rv r3 st3 q3 => ⟨w, H3, rv, r3, st3, q3⟩
  | true => rw [if_pos rfl]; exact ⟨true, H1, rfl, r1, st1, h3 H1 q1⟩
theorem jPlainT {e : PySem.Expr} {Q : Bool → AHeap → Prop} {Q1 : AV → AHeap → Prop} (he : ∀ whole, isTrue e env whole = (do let v ← whole; standAt e.pos; holding [v] (truthy v)))
    (h1 : JE C n X env e ρ H Q1) (h2 : ∀ v H1, Q1 v H1 → PTruth C n v H1 Q) : JT C n X env e ρ H Q := by
  intro A s ok F
  refine wpAny_isTrue_value (go (h1 A s ok F) (.refl _ _) fun v b s1 H1 rb r1 st1 q1 => ?_) (he _)
  exact goV (h2 b H1 q1 v rb) (ok.step st1 r1) st1 fun v w s3 H3 rv r3 st3 q3 => ⟨w, H3, rv, r3, st3, q3⟩
theorem jVandCons {e₁ e₂ : PySem.Expr} {rest : List PySem.Expr} {pos : Pos} {Q Q1 : AV → AHeap → Prop} {Q2 : AV → Bool → AHeap → Prop} (h1 : JE C n X env e₁ ρ H Q1) (h2 : ∀ v H1, Q1 v H1 → PTruth C n v H1 (Q2 v))
    (h3 : ∀ v H2, Q2 v true H2 → JE C n X env (.BoolOp .And (e₂ :: rest) pos) ρ H2 Q) (h4 : ∀ v H2, Q2 v false H2 → Q v H2) : JE C n X env (.BoolOp .And (e₁ :: e₂ :: rest) pos) ρ H Q := by
  intro A s ok F
  refine BoolOp_and (go (h1 A s ok F) (.refl _ _) fun v b s1 H1 rb r1 st1 q1 => ?_)
  refine goV (h2 b H1 q1 v rb) (ok.step st1 r1) st1 fun c b2 s2 H2 rc r2 st2 q2 => ?_
  cases rc
  cases c with
  | true => rw [if_pos rfl]; exact go (h3 b H2 q2 A s2 (ok.step st2 r2) (F.step st2)) st2 fun v w s3 H3 rv r3 st3 q3 => ⟨w, H3, rv, r3, st3, q3⟩
  | false => rw [if_neg Bool.false_ne_true]; exact ⟨b, H2, rb, r2, st2, h4 b H2 q2⟩
theorem jVorCons {e₁ e₂ : PySem.Expr} {rest : List PySem.Expr} {pos : Pos} {Q Q1 : AV → AHeap → Prop} {Q2 : AV → Bool → AHeap → Prop} (h1 : JE C n X env e₁ ρ H Q1) (h2 : ∀ v H1, Q1 v H1 → PTruth C n v H1 (Q2 v))
    (h3 : ∀ v H2, Q2 v false H2 → JE C n X env (.BoolOp .Or (e₂ :: rest) pos) ρ H2 Q) (h4 : ∀ v H2, Q2 v true H2 → Q v H2) : JE C n X env (.BoolOp .Or (e₁ :: e₂ :: rest) pos) ρ H Q := by
  intro A s ok F
  refine BoolOp_or (go (h1 A s ok F) (.refl _ _) fun v b s1 H1 rb r1 st1 q1 => ?_)
  refine goV (h2 b H1 q1 v rb) (ok.step st1 r1) st1 fun c b2 s2 H2 rc r2 st2 q2 => ?_
  cases rc
  cases c with
  | false => rw [if_neg Bool.false_ne_true]; exact go (h3 b H2 q2 A s2 (ok.step st2 r2) (F.step st2)) st2 fun v w s3 H3 rv r3 st3 q3 => ⟨w, H3, rv, r3, st3, q3⟩
  | true => rw [if_pos rfl]; exact ⟨b, H2, rb, r2, st2, h4 b H2 q2⟩
theorem jAttr {ns : List Str} {pe : PE} {h : PySem.Expr} {f : Str} {pos : Pos} {Q Q1 : AV → AHeap → Prop} (hs : isVA pe = true) (h1 : JE C n X env (toE ns pe h) ρ H Q1) (h2 : ∀ v H1, Q1 v H1 → PAttr C n v f H1 Q) : JE C n X env (.Attribute (toE ns pe h) f pos) ρ H Q := by
  intro A s ok F
  refine Attribute_any_ (go (h1 A s ok F) (.refl _ _) fun v b s1 H1 rb r1 st1 q1 => ?_) ?_
  · exact goV (h2 b H1 q1 v rb) (ok.step st1 r1) st1 fun v w s3 H3 rv r3 st3 q3 => ⟨w, H3, rv, r3, st3, q3⟩
  · cases pe <;> first | rfl | cases hs
theorem jSub {a i : PySem.Expr} {pos : Pos} {Q Q1 : AV → AHeap → Prop} {Q2 : AV → AV → AHeap → Prop} (hs : ∀ o j, subscripted i false o j = operate [o, j] (getItem o j)) (h1 : JE C n X env a ρ H Q1) (h2 : ∀ v H1, Q1 v H1 → JE C n X env i ρ H1 (Q2 v))
    (h3 : ∀ va vi H2, Q2 va vi H2 → PSub C n va vi H2 Q) : JE C n X env (.Subscript a i pos) ρ H Q := by
  intro A s ok F
  refine Subscript_ (go (h1 A s ok F) (.refl _ _) fun v b s1 H1 rb r1 st1 q1 => ?_)
  refine go (h2 b H1 q1 A s1 (ok.step st1 r1) (F.step st1)) st1 fun vi bi s2 H2 ri r2 st2 q2 => ?_
  exact goV (h3 b bi H2 q2 v vi a i rb ri hs) (ok.step st2 r2) st2 fun v w s3 H3 rv r3 st3 q3 => ⟨w, H3, rv, r3, st3, q3⟩
theorem jSlHi {a h : PySem.Expr} {p pos : Pos} {Q Q1 : AV → AHeap → Prop} {Q2 : AV → AV → AHeap → Prop} (h1 : JE C n X env a ρ H Q1) (h2 : ∀ v H1, Q1 v H1 → JE C n X env h ρ H1 (Q2 v))
    (h3 : ∀ va vi H2, Q2 va vi H2 → PSlHi C n va vi H2 Q) : JE C n X env (.Subscript a (.Slice none (some h) none p) pos) ρ H Q := by
  intro A s ok F
  refine Subscript_ (go (h1 A s ok F) (.refl _ _) fun v b s1 H1 rb r1 st1 q1 => ?_)
  show wpAny _ _ (do
    let l ← valueOrNone (evalOpt none env)
    let u ← holding [l] (valueOrNone (evalOpt (some h) env))
    let st ← holding [l, u] (valueOrNone (evalOpt none env))
    newFields "slice" [l, u, st]) _ _ _
  refine wpAny_bind (wpAny_pure (wpAny_bind (wpAny_holding ?_)))
  show wpAny _ _ (eval h env) _ _ _
  refine go (h2 b H1 q1 A s1 (ok.step st1 r1) (F.step st1)) st1 fun vi bi s2 H2 ri r2 st2 q2 => ?_
  refine wpAny_bind (wpAny_holding (wpAny_pure ?_))
  refine wpAny_mono (h3 b bi H2 q2 v vi a (.Slice none (some h) none p) rb ri (fun _ _ => rfl) A (XP C A H s X) s2 (ok.step st2 r2)) (fun i s3 z => ?_) fun _ _ z => z
  exact wpAny_mono z (fun v s3 ⟨w, H3, rv, r3, st3, q3⟩ => ⟨w, H3, rv, r3, st2.trans st3, q3⟩) fun _ _ z => z
theorem jRev {a : PySem.Expr} {k p1 p2 p pos : Pos} {kk : Nat} {Q Q1 : AV → AHeap → Prop} (h1 : JE C n X env a ρ H Q1)
    (h3 : ∀ va H2, Q1 va H2 → PRev C n va H2 Q) : JE C n X env (.Subscript a (.Slice none none (some (.UnaryOp .USub (.Constant (.int 1) kk p1) p2)) p) pos) ρ H Q := by
  intro A s ok F
  refine Subscript_ (go (h1 A s ok F) (.refl _ _) fun v b s1 H1 rb r1 st1 q1 => ?_)
  show wpAny _ _ (do
    let l ← valueOrNone (evalOpt none env)
    let u ← holding [l] (valueOrNone (evalOpt none env))
    let st ← holding [l, u] (valueOrNone (evalOpt (some (.UnaryOp .USub (.Constant (.int 1) kk p1) p2)) env))
    newFields "slice" [l, u, st]) _ _ _
  refine wpAny_bind (wpAny_pure (wpAny_bind (wpAny_holding (wpAny_pure (wpAny_bind (wpAny_holding ?_))))))
  show wpAny _ _ (eval (.UnaryOp .USub (.Constant (.int 1) kk p1) p2) env) _ _ _
  refine UnaryOp_ (wpAny_Constant_int (P.neg_int ?_))
  have st2 : Step H H1 s { s1 with toks := s1.toks + 1 + 1 } := st1.trans (.tok _ _ _)
  refine wpAny_mono (h3 b H1 q1 v _ a (.Slice none none (some (.UnaryOp .USub (.Constant (.int 1) kk p1) p2)) p) rb ⟨_, rfl⟩ (fun _ _ => rfl) A (XP C A H s X) _ (ok.step st2 (r1.tok _))) (fun i s3 z => ?_) fun _ _ z => z
  exact wpAny_mono z (fun v s3 ⟨w, H3, rv, r3, st3, q3⟩ => ⟨w, H3, rv, r3, st2.trans st3, q3⟩) fun _ _ z => z
theorem jArgsNil {Q : List AV → AHeap → Prop} (h : Q [] H) : JEs C n X env [] ρ H Q := fun _ _ _ ok _ => args_nil ⟨[], H, .nil, ok.rep, .refl _ _, h⟩
theorem jArgsCons {e : PySem.Expr} {es : List PySem.Expr} {Q : List AV → AHeap → Prop} {Q1 : AV → AHeap → Prop} {Q2 : AV → List AV → AHeap → Prop} (hs : starEach (e :: es) env = (false, eval e env) :: starEach es env)
    (h1 : JE C n X env e ρ H Q1) (h2 : ∀ v H1, Q1 v H1 → JEs C n X env es ρ H1 (Q2 v)) (h3 : ∀ v vs H2, Q2 v vs H2 → Q (v :: vs) H2) : JEs C n X env (e :: es) ρ H Q := by
  intro pos A s ok F
  refine args_cons (go (h1 A s ok F) (.refl _ _) fun v b s1 H1 rb r1 st1 q1 => ?_) hs
  exact go (h2 b H1 q1 pos A s1 (ok.step st1 r1) (F.step st1)) st1 fun vs bs s2 H2 rs r2 st2 q2 => ⟨b :: bs, H2, .cons rb rs, r2, st2, h3 b bs H2 q2⟩
theorem F2.length {α β : Type} {R : α → β → Prop} {l : List α} {m : List β} (h : F2 R l m) : l.length = m.length := by
  induction h with
  | nil => rfl
  | cons _ _ ih => simp [ih]
theorem repL {C : Cfg} {vs : List Value} {l : List AV} (h : F2 RepV l vs) : RepO C (.list l) { cls := .type "list", dict := none, data := .seq vs.toArray } := ⟨rfl, rfl, vs, 0, rfl, h⟩
theorem repT {C : Cfg} {vs : List Value} {l : List AV} (h : F2 RepV l vs) : RepO C (.tup l) { cls := .type "tuple", dict := none, data := .seq vs.toArray } := ⟨rfl, vs, 0, rfl, h⟩
theorem Ok.notModules {C : Cfg} {n : Nat} {A : Around} {H : AHeap} {s : Shared} (hc : C.base.get? cStatics ≠ none) (ok : Ok C n A H s) : s.heap.objs.size ≠ sysModules := by
  intro q
  cases e : C.base.get? cStatics with
  | none => exact hc e
  | some o =>
    have h9 : 2 < s.heap.objs.size := Heap.lt_size (ok.rep.keep _ o e)
    have h8 : s.heap.objs.size = 1 := q
    omega
theorem get_size (h : Heap) : h.get? h.objs.size = none := by
  cases e : h.get? h.objs.size with
  | none => rfl
  | some o => exact absurd (Heap.lt_size e) (Nat.lt_irrefl _)
theorem Ok.atSize {C : Cfg} {n : Nat} {A : Around} {H : AHeap} {s : Shared} (ok : Ok C n A H s) : H s.heap.objs.size = none := by
  cases e : H s.heap.objs.size with
  | none => rfl
  | some o => obtain ⟨_, _, ob, h, _⟩ := ok.rep.obj _ o e; rw [get_size] at h; cases h
theorem newOb {C : Cfg} {n : Nat} {A : Around} {H H0 : AHeap} {s s0 : Shared} (hc : C.base.get? cStatics ≠ none) (ok : Ok C n A H s) (st : Step H0 H s0 s) {ob : Obj} {o : AO} (hr : RepO C o ob) (hf : ob.isFreed = false) {Q : AV → AHeap → Prop} (h : newAt o H Q) :
    QP C RepV H0 s0 Q (.ref s.heap.objs.size) { s with heap := s.heap.push ob } :=
  ⟨.ref s.heap.objs.size, H.set s.heap.objs.size o, rfl, ok.rep.new (t := s.toks) (fun _ _ e => Heap.get?_push_of_some _ e) (get_size _) (ok.notModules hc) (Heap.get?_push_size _ hf) hr,
    st.trans (.new (t := s.toks) (fun _ _ e => Heap.get?_push_of_some _ e) (get_size _)), h _ ok.atSize⟩
theorem jList {es : List PySem.Expr} {pos : Pos} {Q : AV → AHeap → Prop} {Q1 : List AV → AHeap → Prop} (hc : C.base.get? cStatics ≠ none) (h1 : JEs C n X env es ρ H Q1) (h2 : ∀ vs H1, Q1 vs H1 → vs.length ≤ 1000 ∧ newAt (.list vs) H1 Q) : JE C n X env (.List es pos) ρ H Q := by
  intro A s ok F
  refine List_ (go (h1 pos A s ok F) (.refl _ _) fun vs bs s1 H1 rb r1 st1 q1 => ?_)
  refine wpAny_newObj_type (newOb hc (ok.step st1 r1) st1 (repL rb) rfl (h2 bs H1 q1).2) ?_
  show vs.toArray.size ≤ sizeLine
  have := (h2 bs H1 q1).1; have := rb.length; rw [List.size_toArray, sizeLine_eq]; omega
theorem jTuple {es : List PySem.Expr} {k : Nat} {pos : Pos} {Q : AV → AHeap → Prop} {Q1 : List AV → AHeap → Prop} (hc : C.base.get? cStatics ≠ none) (h1 : JEs C n X env es ρ H Q1) (h2 : ∀ vs H1, Q1 vs H1 → vs.length ≤ 1000 ∧ newAt (.tup vs) H1 Q) : JE C n X env (.Tuple es k pos) ρ H Q := by
  intro A s ok F
  refine Tuple_ (go (h1 pos A s ok F) (.refl _ _) fun vs bs s1 H1 rb r1 st1 q1 => ?_)
  refine wpAny_newObj_type (newOb hc (ok.step st1 r1) st1 (repT rb) rfl (h2 bs H1 q1).2) ?_
  show vs.toArray.size ≤ sizeLine
  have := (h2 bs H1 q1).1; have := rb.length; rw [List.size_toArray, sizeLine_eq]; omega
theorem repD0 (C : Cfg) : RepO C (.dict [] 0) { cls := .type "dict", data := .dict #[] } :=
  ⟨[], ⟨#[], ⟨rfl, rfl, rfl⟩, rfl, (fun e he => by simp at he), .nil, .nil⟩, .nil⟩
theorem jDict0 {pos : Pos} {Q : AV → AHeap → Prop} (hc : C.base.get? cStatics ≠ none) (h : ∀ a ep, H a = none → Q (.ref a) (H.set a (.dict [] ep))) : JE C n X env (.Dict [] [] pos) ρ H Q :=
  fun A s ok F => wpAny_Dict_empty (newOb hc ok (.refl _ _) (repD0 C) rfl fun a ha => h a 0 ha)
theorem evalArgs_of {M : Model} {A : Around} {E : Value → Shared → Prop} {s : Shared} {f : Value} {es : List PySem.Expr} {pos : Pos} {Q : Args → Shared → Prop} (hp : (backTo pos (starEach es env)).any (·.1) = false)
    (h : wpAny M A (spliced (backTo pos (starEach es env))) (fun vs s' => Q ⟨vs, []⟩ s') E s) : wpAny M A (evalArgs f true (backTo pos (starEach es env)) []) Q E s := by
  cases e : backTo pos (starEach es env) with
  | nil =>
    rw [e] at h
    unfold evalArgs
    show wpAny M A (spliced [] >>= _) Q E s
    refine wpAny_bind (wpAny_mono h (fun vs s' h' => wpAny_bind (wpAny_pure ?_)) fun _ _ z => z)
    refine wpAny_holding ?_
    exact wpAny_bind (wpAny_pure (wpAny_bind (wpAny_pure (wpAny_pure h'))))
  | cons a r =>
    obtain ⟨b, t⟩ := a
    rw [e] at h hp
    cases b with
    | true => simp at hp
    | false => exact evalArgs_plain h
theorem jCall {f : Str} {np pos : Pos} {es : List PySem.Expr} {Q : AV → AHeap → Prop} {Q1 : List AV → AHeap → Prop} (hf : isGlob env.scope.names f = true) (hp : (backTo pos (starEach es env)).any (·.1) = false)
    (v : Value) (hv : GlobIs C f v) (hk : CalleeOk C v) (h1 : JEs C n X env es ρ H Q1) (h3 : ∀ vs H1, Q1 vs H1 → FCall C n X v vs H1 Q) : JE C n X env (.Call (.Name f np) es [] pos) ρ H Q := by
  intro A s ok F
  simp only [isGlob, Bool.and_eq_true, beq_iff_eq, Bool.not_eq_true'] at hf
  refine Call_ (Name_function_global F.kind hf.1 ?_ hf.2)
  refine hv _ _ _ _ _ _ ok.rep.keep F.hg F.hb ?_
  refine callWith_of (P := fun h => ∀ b o, C.base.get? b = some o → h.get? b = some o) (by rw [hp]; rfl) (fun h e => hk _ h e) (evalArgs_of hp ?_)
  refine go (h1 pos A s ok F) (.refl _ _) fun vs bs s1 H1 rb r1 st1 q1 => ⟨r1.keep, ?_⟩
  exact go (h3 bs H1 q1 A s1 vs (ok.step st1 r1) rb) st1 fun v w s3 H3 rv r3 st3 q3 => ⟨w, H3, rv, r3, st3, q3⟩
end
end Mine
end
section
open PySem PySem.W PyProof.Rows PySem.Calls
namespace Mine
theorem entry_unchain : entryFor table "proto.unchain" = some Builtin.«proto.unchain» := entryFor_of_fast (by kernel_rfl)
section
variable {prog : Program} {w : World} {A : Around} {s : Shared} {α : Type} {Q : α → Shared → Prop} {E : Value → Shared → Prop}
theorem stopRaise (hd : A.handled = none ∨ ∃ e o vs, A.handled = some (.ref e) ∧ s.heap.get? e = some o ∧ o.data = .fields vs ∧ vs[2]? = some .none)
    (h : ∀ x h', (∀ b o, s.heap.get? b = some o → h'.get? b = some o) → (∃ ob, h'.get? x = some ob ∧ ob.cls = .type "StopIteration") → E (.ref x) { s with heap := h' }) :
    wpAny (model prog w) A (newExc (.type "StopIteration") [] >>= fun e => (raiseNew e : Sem α)) Q E s := by
  refine wpAny_bind ?_
  simp only [newExc, newTuple]
  refine wpAny_bind (wpAny_newObj_type ?_ (by size_fits))
  refine wpAny_bind (m := firstArgMember _ _) (wpAny_of_eq (a := Value.none) (by first | rfl | (simp only [firstArgMember]; rfl)) ?_)
  refine wpAny_newObj_type ?_ (by size_fits)
  simp only [raiseNew]
  refine wpAny_bind (wpAny_handled ?_)
  rcases hd with hh | ⟨e, o, vs, hh, ho, hdat, h2⟩
  · rw [hh]
    refine wpAny_bind (wpAny_pure (wpAny_throw ?_))
    exact h _ _ (fun b o e => Heap.get?_push_of_some _ (Heap.get?_push_of_some _ e)) ⟨_, Heap.get?_push_size _ rfl, rfl⟩
  · rw [hh]
    have ho' := Heap.get?_push_of_some { cls := .type "StopIteration", dict := none, data := .fields (#[Value.ref s.heap.objs.size, .none, .none, .none, .bool false, .none] ++ ownMembersOf (.type "StopIteration") []) } (Heap.get?_push_of_some { cls := .type "tuple", data := .seq ([] : List Value).toArray } ho)
    have hlt := Heap.lt_size ho
    have hne : (Value.ref e != Value.ref (s.heap.push { cls := .type "tuple", data := .seq ([] : List Value).toArray }).objs.size) = true := by
      rw [bne_iff_ne]; simp only [ne_eq, Value.ref.injEq, Heap.size_push]; exact Nat.ne_of_lt (Nat.lt_succ_of_lt hlt)
    dsimp only
    rw [if_pos hne]
    refine wpAny_bind (wpAny_holding (wpAny_runValue (codeAny_builtin entry_unchain ?_)))
    unfold Builtin.«proto.unchain»
    dsimp only
    refine wpAny_bind (wpAny_field ho' hdat h2 ?_)
    rw [if_pos (show (Value.none == Value.none) = true from rfl)]
    refine wpAny_pure ?_
    show wpAny _ _ (setField (.ref _) 2 (.ref e) >>= _) _ _ _
    refine wpAny_bind ?_
    refine wpAny_setField (Heap.get?_push_size _ rfl) rfl (by simp only [Array.size_append]; exact Nat.lt_of_lt_of_le (by decide : 2 < 6) (Nat.le_add_right 6 _)) ?_
    refine wpAny_throw ?_
    refine h _ _ (fun b o' e' => ?_) ⟨_, Heap.get?_update_self _ (Heap.get?_push_size _ rfl) rfl, rfl⟩
    have hb := Heap.lt_size e'
    rw [Heap.get?_update_other _ _ (by rw [Heap.size_push]; exact Ne.symm (Nat.ne_of_lt (Nat.lt_succ_of_lt hb)))]
    exact Heap.get?_push_of_some _ (Heap.get?_push_of_some _ e')
end
noncomputable def HdOk (A : Around) (h : Heap) : Prop := A.handled = none ∨ ∃ e o vs, A.handled = some (.ref e) ∧ h.get? e = some o ∧ o.data = .fields vs ∧ vs[2]? = some .none
theorem Ok.hdOk {C : Cfg} {n : Nat} {A : Around} {H : AHeap} {s : Shared} (ok : Ok C n A H s) : HdOk A s.heap :=
  ok.hd.imp id fun ⟨e, o, vs, h1, _, h3, h4, h5⟩ => ⟨e, o, vs, h1, h3, h4, h5.1⟩
theorem HdOk.upd {A : Around} {h : Heap} {it : Addr} {f : Obj → Obj} (x : HdOk A h) (hne : ∀ e, A.handled = some (.ref e) → e ≠ it) : HdOk A (h.update it f) :=
  x.imp id fun ⟨e, o, vs, h1, h3, h4, h5⟩ => ⟨e, o, vs, h1, (Heap.get?_update_other _ _ (Ne.symm (hne e h1))).trans h3, h4, h5⟩
section
variable {prog : Program} {w : World} {A : Around} {s : Shared} {E : Value → Shared → Prop} {Q : Option Value → Shared → Prop}
theorem next_end_list {it l : Addr} {i : Nat} {items : Array Value} (hh : HdOk A s.heap) (hne : ∀ e, A.handled = some (.ref e) → e ≠ it)
    (hit : s.heap.IsListIter it l i) (hl : s.heap.IsList l items) (hx : items[i]? = none)
    (hQ : ∀ h', Heap.ExtBut it s.heap h' → Q none { s with heap := h' }) : wpAny (model prog w) A (pyNext (.ref it)) Q E s := by
  obtain ⟨o, ho, hc, hd⟩ := id hit
  obtain ⟨ol, hol, _, nl, hdl⟩ := hl
  unfold pyNext
  refine wpAny_bind (wpAny_attempt (wpAny_callSpecial?_slot (name := Str.ofString "__next__") hit.typeIs slot_listiter_next
    (wpAny_call_entry slot_listiter_next hit.typeIs entry_listiter_next ?_ (args_listiter_next _))))
  show wpAny _ _ (field (.ref it) 0 >>= _) _ _ s
  refine wpAny_bind (wpAny_field ho hd (x := .ref l) rfl ?_)
  show wpAny _ _ (if (Value.ref l == Value.none) = true then _ else _) _ _ s
  rw [if_neg (show ¬ ((Value.ref l == Value.none) = true) from Bool.false_ne_true)]
  show wpAny _ _ (field (.ref it) 1 >>= _) _ _ s
  refine wpAny_bind (wpAny_field ho hd (x := .int i 0) rfl ?_)
  show wpAny _ _ (seqItems? (.ref l) >>= _) _ _ s
  refine wpAny_bind (wpAny_seqItems hol hdl ?_)
  simp only [Int.toNat_natCast, hx]
  refine wpAny_bind (wpAny_rule (wpAny_bind (wpAny_setField ho hd (by simp) ?_)))
  refine stopRaise (hh.upd hne) fun x h' hk hx' => ?_
  refine wpAny_bind (wpAny_isInstance (T := "StopIteration") (b := true) hx' isSubtype_stop ?_)
  exact wpAny_pure (hQ _ fun b o hb e => hk b o (((Heap.SameBut.update ..).extBut) b o hb e))
theorem next_end_range {it : Addr} {x left step : Int} (hh : HdOk A s.heap) (hit : IsRangeIter s.heap it x left step) (hleft : left ≤ 0)
    (hQ : ∀ h', Heap.ExtBut it s.heap h' → Q none { s with heap := h' }) : wpAny (model prog w) A (pyNext (.ref it)) Q E s := by
  have hT : s.TypeIs (.ref it) "range_iterator" := ⟨_, hit, rfl⟩
  unfold pyNext
  refine wpAny_bind (wpAny_attempt (wpAny_callSpecial?_slot (name := Str.ofString "__next__") hT F.slot_range_iterator_next
    (wpAny_call_entry F.slot_range_iterator_next hT F.entry_range_iterator_next ?_ (F.args_range_iterator_next_1 _))))
  show wpAny _ _ (field (.ref it) 0 >>= _) _ _ s
  refine wpAny_bind (wpAny_field hit rfl (x := rawInt x) rfl ?_)
  show wpAny _ _ (field (.ref it) 1 >>= _) _ _ s
  refine wpAny_bind (wpAny_field hit rfl (x := rawInt left) rfl ?_)
  show wpAny _ _ (field (.ref it) 2 >>= _) _ _ s
  refine wpAny_bind (wpAny_field hit rfl (x := rawInt step) rfl ?_)
  show wpAny _ _ (if left ≤ 0 then _ else _) _ _ s
  rw [if_pos hleft]
  refine wpAny_bind (wpAny_rule ?_)
  refine wpAny_bind ?_
  refine stopRaise hh fun x h' hk hx' => ?_
  refine wpAny_bind (wpAny_isInstance (T := "StopIteration") (b := true) hx' isSubtype_stop ?_)
  exact wpAny_pure (hQ _ fun b o _ e => hk b o e)
theorem next_end_dict {K : Type} [DecidableEq K] {knd : KeyKind prog w K} {it d : Addr} {i ep : Nat} {kvs : List (K × Value)} (hh : HdOk A s.heap) (hne : ∀ e, A.handled = some (.ref e) → e ≠ it) (hit : s.heap.IsKeyIter it d i kvs.length ep)
    (hm : s.heap.DictAt knd d kvs ep) (hx : kvs[i]? = none)
    (hQ : ∀ h', Heap.ExtBut it s.heap h' → Q none { s with heap := h' }) : wpAny (model prog w) A (pyNext (.ref it)) Q E s := by
  obtain ⟨o, ho, hc, hd⟩ := id hit
  obtain ⟨od, es, hod, hcd, hdd, hk, hp, hn⟩ := id hm
  unfold pyNext
  refine wpAny_bind (wpAny_attempt (wpAny_callSpecial?_slot (name := Str.ofString "__next__") hit.typeIs F.slot_dict_keyiterator_next
    (wpAny_call_entry F.slot_dict_keyiterator_next hit.typeIs F.entry_dict_keyiterator_next ?_ (F.args_dict_keyiterator_next_1 _))))
  refine wpAny_bind (wpAny_pure ?_)
  refine wpAny_bind ?_
  refine wpAny_bind ?_
  refine wpAny_bind (wpAny_typeNameOfWhole_keyiter hit.typeIs (wpAny_pure ?_))
  refine wpAny_bind (wpAny_fieldsOf ho hd ?_)
  have hown : Builtin.Dict_items.ownsTuple "dict_keyiterator" = false := by decide
  simp only [hown, Bool.false_eq_true, if_false]
  show wpAny _ _ (if (Value.ref d == Value.none) = true then _ else _) _ _ s
  rw [if_neg (show ¬ ((Value.ref d == Value.none) = true) from Bool.false_ne_true)]
  refine wpAny_bind (wpAny_pure ?_)
  refine wpAny_bind (wpAny_dictEntries hod hdd ?_)
  have hsz : es.size = kvs.length := by rw [← hp.length]; simp
  rw [if_neg (by rw [hsz]; simp)]
  refine wpAny_bind (wpAny_pure ?_)
  refine wpAny_bind (wpAny_dictEpoch hod hdd ?_)
  rw [if_neg (by simp)]
  refine wpAny_pure ?_
  have hge : es.size ≤ i := by rw [hsz]; simpa using hx
  simp only [show ¬ ((i : Int) < 0) from by omega, if_false, Int.toNat_natCast, Array.getElem?_eq_none hge]
  refine wpAny_bind ?_
  refine wpAny_bind (wpAny_typeNameOfWhole_keyiter hit.typeIs (wpAny_pure ?_))
  show wpAny _ _ (setField (.ref it) 0 .none >>= _) _ _ s
  refine wpAny_bind (wpAny_setField ho hd (by simp) ?_)
  refine stopRaise (hh.upd hne) fun x h' hk hx' => ?_
  refine wpAny_bind (wpAny_isInstance (T := "StopIteration") (b := true) hx' isSubtype_stop ?_)
  exact wpAny_pure (hQ _ fun b o hb e => hk b o (((Heap.SameBut.update ..).extBut) b o hb e))
end
end Mine
end
section
open PySem PySem.W PyProof.Rows PySem.Calls
namespace Mine
noncomputable def Cur (H : AHeap) (v : AV) (it : Addr) (i : Nat) (h : Heap) : Prop :=
  ∃ a, v = .ref a ∧ ((∃ l, H a = some (.list l) ∧ h.IsListIter it a i) ∨ (∃ d ep, H a = some (.dict d ep) ∧ h.IsKeyIter it a i d.length ep) ∨
    (∃ n : Nat, H a = some (.rng n) ∧ IsRangeIter h it i ((n : Int) - i) 1))
theorem Cur.there {H : AHeap} {v : AV} {it : Addr} {i : Nat} {h : Heap} (x : Cur H v it i h) : ∃ o, h.get? it = some o := by
  obtain ⟨a, _, ⟨l, _, o, ho, _⟩ | ⟨d, ep, _, o, ho, _⟩ | ⟨n, _, ho⟩⟩ := x
  · exact ⟨o, ho⟩
  · exact ⟨o, ho⟩
  · exact ⟨_, ho⟩
theorem Cur.move {H H' : AHeap} {v : AV} {it : Addr} {i : Nat} {h h' : Heap} (x : Cur H v it i h) (hs : ∀ a, v = .ref a → H' a = H a) (e : ∀ o, h.get? it = some o → h'.get? it = some o) : Cur H' v it i h' := by
  obtain ⟨a, rfl, x⟩ := x
  refine ⟨a, rfl, ?_⟩
  rw [hs a rfl]
  rcases x with ⟨l, h1, o, ho, r⟩ | ⟨d, ep, h1, o, ho, r⟩ | ⟨n, h1, ho⟩
  · exact .inl ⟨l, h1, o, e o ho, r⟩
  · exact .inr (.inl ⟨d, ep, h1, o, e o ho, r⟩)
  · exact .inr (.inr ⟨n, h1, e _ ho⟩)
theorem F2.get {α β : Type} {R : α → β → Prop} {l : List α} {m : List β} (h : F2 R l m) {i : Nat} {a : α} (e : l[i]? = some a) : ∃ b, m[i]? = some b ∧ R a b := by
  induction h generalizing i with
  | nil => simp at e
  | cons h1 _ ih =>
    cases i with
    | zero => simp only [List.getElem?_cons_zero, Option.some.injEq] at e ⊢; subst e; exact ⟨_, rfl, h1⟩
    | succ j => simp only [List.getElem?_cons_succ] at e ⊢; exact ih e
theorem range_small {n : Nat} (h : n ≤ 1000) : Builtin.Range.small 0 n 1 = true ∧ Builtin.Range.rangeSize 0 n 1 = n := by
  have e : Builtin.Range.rangeSize 0 n 1 = n := by
    unfold Builtin.Range.rangeSize
    simp only [show (1 : Int) > 0 from by decide, if_true]
    split
    · simp only [Int.ediv_one]; omega
    · omega
  refine ⟨?_, e⟩
  have f : ∀ i : Int, 0 ≤ i → i ≤ 2000 → Builtin.Range.rangeFitsLong i = true := by
    intro i h1 h2
    unfold Builtin.Range.rangeFitsLong
    rw [Bool.and_eq_true]
    exact ⟨decide_eq_true (by omega), decide_eq_true (by omega)⟩
  unfold Builtin.Range.small
  rw [e, f 0 (by omega) (by omega), f n (by omega) (by omega), f 1 (by omega) (by omega), if_pos (by decide : (1 : Int) > 0), f (n + (1 - 1)) (by omega) (by omega)]
  simp
section
variable {C : Cfg} {n : Nat} {A : Around} {H : AHeap} {s : Shared} {v : AV} {cv : Value} {l : List AV}
theorem dictAt_of {a : Addr} {d : List (Int × AV)} {ep : Nat} (r : Rep C H s) (h : H a = some (.dict d ep)) : ∃ kvs, s.heap.DictAt (intKind C.prog C.w) a kvs ep ∧ F2 (fun p q => p.1 = q.1 ∧ RepV p.2 q.2) d kvs := by
  obtain ⟨_, _, ob, ho, kvs, ⟨es, h1, h2, h3, h4, h5⟩, h6⟩ := r.obj a _ h
  exact ⟨kvs, ⟨ob, es, ho, h1, h2, h3, h4, h5⟩, h6⟩
theorem isList_of {a : Addr} {d : List AV} (r : Rep C H s) (h : H a = some (.list d)) : ∃ vs, s.heap.IsList a vs.toArray ∧ F2 RepV d vs := by
  obtain ⟨_, _, ob, ho, h1, _, vs, n, h2, h3⟩ := r.obj a _ h
  exact ⟨vs, ⟨ob, ho, h1, n, h2⟩, h3⟩
theorem plainL_of {a : Addr} {d : List AV} (r : Rep C H s) (h : H a = some (.list d)) : ∃ vs, PlainL s.heap a vs.toArray ∧ F2 RepV d vs := by
  obtain ⟨_, _, ob, ho, h1, h0, vs, n, h2, h3⟩ := r.obj a _ h
  exact ⟨vs, ⟨ob, n, ho, h1, h0, h2⟩, h3⟩
theorem cur_start {E : Value → Shared → Prop} {Q : Value → Shared → Prop} (hl : itemsOf H v = some l) (hr : RepV v cv) (r : Rep C H s)
    (k : ∀ ob, ob.isFreed = false → Cur H v s.heap.objs.size 0 (s.heap.push ob) → Q (.ref s.heap.objs.size) { s with heap := s.heap.push ob }) : wpAny (model C.prog C.w) A (pyIter cv) Q E s := by
  cases v with
  | ref a =>
    cases hr
    cases e : H a with
    | none => simp only [itemsOf, e] at hl; cases hl
    | some o =>
      simp only [itemsOf, e] at hl
      cases o with
      | list d =>
        obtain ⟨vs, h1, h2⟩ := isList_of r e
        exact wpAny_pyIter_list h1 (k _ rfl ⟨a, rfl, .inl ⟨d, e, _, Heap.get?_push_size _ rfl, rfl, rfl⟩⟩)
      | dict d ep =>
        obtain ⟨kvs, h1, h2⟩ := dictAt_of r e
        refine wpAny_pyIter_dict (by rw [beq_eq_false_iff_ne]; exact (r.obj a _ e).2.1) h1 (k _ rfl ⟨a, rfl, .inr (.inl ⟨d, ep, e, _, Heap.get?_push_size _ rfl, rfl, ?_⟩)⟩)
        rw [h2.length]; rfl
      | rng m =>
        obtain ⟨_, _, ob, ho, hm, t, u, w, rfl⟩ := r.obj a _ e
        obtain ⟨h1, h2⟩ := range_small hm
        refine wpAny_pyIter_range (t := t) (u := u) (v := w) ho h1 (k _ rfl ⟨a, rfl, .inr (.inr ⟨m, e, ?_⟩)⟩)
        rw [h2]
        show (s.heap.push _).get? _ = _
        rw [Heap.get?_push_size _ rfl]
        simp [rawInt]
      | _ => cases hl
  | _ => cases hl
theorem cur_self {it : Addr} {i : Nat} {E : Value → Shared → Prop} {Q : Value → Shared → Prop} (c : Cur H v it i s.heap) (h : Q (.ref it) s) : wpAny (model C.prog C.w) A (pyIter (.ref it)) Q E s := by
  obtain ⟨a, rfl, ⟨l, _, x⟩ | ⟨d, ep, _, x⟩ | ⟨n, _, x⟩⟩ := c
  · exact wpAny_pyIter_listiter x h
  · exact wpAny_pyIter_keyiter x h
  · exact wpAny_pyIter_rangeiter x h
theorem cur_next {it : Addr} {i : Nat} {w : AV} {E : Value → Shared → Prop} {Q : Option Value → Shared → Prop} (c : Cur H v it i s.heap) (hl : itemsOf H v = some l) (r : Rep C H s) (hw : l[i]? = some w)
    (k : ∀ cw h' t, RepV w cw → Cur H v it (i + 1) h' → Heap.SameBut it s.heap h' → Q (some cw) { s with heap := h', toks := t }) : wpAny (model C.prog C.w) A (pyNext (.ref it)) Q E s := by
  obtain ⟨a, rfl, ⟨d, e, x⟩ | ⟨d, ep, e, x⟩ | ⟨n, e, x⟩⟩ := c
  · simp only [itemsOf, e] at hl; cases hl
    obtain ⟨vs, h1, h2⟩ := isList_of r e
    obtain ⟨cw, h3, h4⟩ := h2.get hw
    exact wpAny_pyNext_list_item x h1 (x := cw) (by simpa using h3) fun h' hi hs => k cw h' s.toks h4 ⟨a, rfl, .inl ⟨_, e, hi⟩⟩ hs
  · simp only [itemsOf, e] at hl; cases hl
    obtain ⟨kvs, h1, h2⟩ := dictAt_of r e
    rw [List.getElem?_map] at hw
    cases q : d[i]? with
    | none => rw [q] at hw; cases hw
    | some p =>
      rw [q] at hw; cases hw
      obtain ⟨⟨k1, v1⟩, h3, h4, h5⟩ := h2.get q
      rw [h2.length] at x
      refine wpAny_pyNext_dict_item x h1 h3 fun key h' hk hi hs => k key h' s.toks ?_ ⟨a, rfl, .inr (.inl ⟨d, ep, e, h2.length ▸ hi⟩)⟩ hs
      obtain ⟨t, rfl⟩ := Value.isInt_shape hk
      exact ⟨t, by rw [h4]⟩
  · simp only [itemsOf, e] at hl; cases hl
    have hi : i < n := by
      have := (List.getElem?_eq_some_iff.mp hw).1; simpa using this
    have hw' : w = .int i := by
      rw [List.getElem?_map, List.getElem?_range hi] at hw; cases hw; rfl
    subst hw'
    refine wpAny_pyNext_range_item x (by omega) fun h' hx hs => k _ h' _ ⟨_, rfl⟩ ⟨a, rfl, .inr (.inr ⟨n, e, ?_⟩)⟩ hs
    have e2 : ((n : Int) - ((i + 1 : Nat) : Int)) = (n : Int) - i - 1 := by omega
    rw [e2]
    exact hx
theorem cur_end {it : Addr} {i : Nat} {E : Value → Shared → Prop} {Q : Option Value → Shared → Prop} (c : Cur H v it i s.heap) (hl : itemsOf H v = some l) (r : Rep C H s) (hi : l[i]? = none) (hh : HdOk A s.heap) (hne : ∀ e, A.handled = some (.ref e) → e ≠ it)
    (k : ∀ h', Heap.ExtBut it s.heap h' → Q none { s with heap := h' }) : wpAny (model C.prog C.w) A (pyNext (.ref it)) Q E s := by
  obtain ⟨a, rfl, ⟨d, e, x⟩ | ⟨d, ep, e, x⟩ | ⟨n, e, x⟩⟩ := c
  · simp only [itemsOf, e] at hl; cases hl
    obtain ⟨vs, h1, h2⟩ := isList_of r e
    refine next_end_list hh hne x h1 ?_ k
    have := h2.length
    simp at hi ⊢; omega
  · simp only [itemsOf, e] at hl; cases hl
    obtain ⟨kvs, h1, h2⟩ := dictAt_of r e
    rw [h2.length] at x
    refine next_end_dict hh hne x h1 ?_ k
    have := h2.length
    simp at hi ⊢; omega
  · simp only [itemsOf, e] at hl; cases hl
    refine next_end_range hh x ?_ k
    simp at hi; omega
end
theorem Rep.but {C : Cfg} {H : AHeap} {s : Shared} {a : Addr} {h' : Heap} {t : Nat} (r : Rep C H s) (hH : H a = none) (hb : C.base.get? a = none) (hs : Heap.ExtBut a s.heap h') : Rep C H { s with heap := h', toks := t } :=
  ⟨fun b o e => hs b o (fun q => by rw [q, hb] at e; cases e) (r.keep b o e), fun b o e => let ⟨h1, h2, ob, h3, h4⟩ := r.obj b o e; ⟨h1, h2, ob, hs b ob (fun q => by rw [q, hH] at e; cases e) h3, h4⟩, r.gens, r.os⟩
theorem Frm.but {C : Cfg} {env : Env} {ρ : Loc} {H : AHeap} {s : Shared} {a : Addr} {h' : Heap} {t : Nat} (F : Frm C env ρ H s) (ho : ¬ own env a) (hs : Heap.ExtBut a s.heap h') : Frm C env ρ H { s with heap := h', toks := t } := by
  obtain ⟨m, ⟨o, es, ep, h1, h2, h3, h4⟩, hv⟩ := F.ns
  refine ⟨F.kind, F.hg, F.hb, F.hL, F.bL, ⟨m, ⟨o, es, ep, hs _ o (fun q => ho (q ▸ .inl rfl)) h1, h2, h3, h4⟩, hv⟩, fun x c hc => ?_, F.has, F.apart⟩
  obtain ⟨h1, h2, h3, w, ⟨oc, hoc, hdc⟩, h5⟩ := F.cells x c hc
  exact ⟨h1, h2, h3, w, ⟨oc, hs _ oc (fun q => ho (q ▸ .inr ⟨x, hc⟩)) hoc, hdc⟩, h5⟩
noncomputable def RepF : AF → Flow → Prop
  | .next, f => f = .next
  | .brk, f => f = .brk
  | .cont, f => f = .cont
  | .ret v, f => ∃ cv, f = .ret cv ∧ RepV v cv
inductive QS (C : Cfg) (env : Env) (H : AHeap) (s : Shared) (Q : AF → Loc → AHeap → Prop) (f : Flow) (s' : Shared) : Prop where
  | mk (af : AF) (ρ' : Loc) (H' : AHeap) (h1 : RepF af f) (h2 : Rep C H' s') (h3 : Frm C env ρ' H' s') (h4 : StepO env H H' s s') (h5 : Q af ρ' H')
structure XPO (C : Cfg) (A : Around) (env : Env) (H : AHeap) (s : Shared) (X : AHeap → Prop) (e : Value) (s' : Shared) : Prop where
  fly : ∃ H', FlyN C A H' (KpO A env H s) e s' ∧ Rep C H' s' ∧ (∀ a, H' a ≠ none → H a ≠ none ∨ s.heap.get? a = none) ∧ (∀ b, own env b → H' b = none) ∧ X H'
  keep : ∀ b o, s.heap.get? b = some o → H b = none → ¬ own env b → (∀ vs, o.data ≠ .fields vs) → ∃ sl, s'.heap.get? b = some { o with slots := sl }
theorem XP.toO {C : Cfg} {A : Around} {env : Env} {ρ : Loc} {H : AHeap} {s : Shared} {X : AHeap → Prop} {e : Value} {s' : Shared} (F : Frm C env ρ H s) (x : XP C A H s X e s') : XPO C A env H s X e s' := by
  obtain ⟨⟨H', h1, h2, h3, h4⟩, hk⟩ := x
  refine ⟨⟨H', h1.mono fun B hB b o e hb _ hf => hB b o e hb hf, h2, h3, fun b hb => ?_, h4⟩, fun b o e hb _ hn => hk b o e hb hn⟩
  cases q : H' b with
  | none => rfl
  | some o =>
    rcases h3 b (by rw [q]; intro z; cases z) with h | h
    · exact absurd (F.own_H hb) h
    · obtain ⟨o, ho, _⟩ := F.own_nf hb; rw [ho] at h; cases h
theorem XPO.pre {C : Cfg} {A : Around} {env : Env} {H H1 : AHeap} {s s1 : Shared} {X : AHeap → Prop} {e : Value} {s' : Shared} (y : StepO env H H1 s s1) (x : XPO C A env H1 s1 X e s') : XPO C A env H s X e s' := by
  obtain ⟨⟨H', h1, h2, h3, ho, h4⟩, hk⟩ := x
  have non : ∀ b o, s.heap.get? b = some o → H b = none → ¬ own env b → H1 b = none := fun b o e hb ho => by
    cases q : H1 b with
    | none => rfl
    | some o' =>
      rcases y.fresh b (by rw [q]; intro z; cases z) with h | h
      · exact absurd hb h
      · rw [e] at h; cases h
  refine ⟨⟨H', h1.mono fun B hB b o e hb hw hf => hB b o (y.keep b o e hb hw) (non b o e hb hw) hw hf, h2, fun a ha => ?_, ho, h4⟩, fun b o e hb hw hn => hk b o (y.keep b o e hb hw) (non b o e hb hw) hw hn⟩
  rcases h3 a ha with h | h
  · exact y.fresh a h
  · cases q : H a with
    | some o' => exact .inl (by intro z; cases z)
    | none =>
      right
      cases q2 : s.heap.get? a with
      | none => rfl
      | some o =>
        by_cases hw : own env a
        · exact absurd (ho a hw) ha
        · have := y.keep a o q2 q hw; rw [h] at this; cases this
theorem XP.never {C : Cfg} {A : Around} {H : AHeap} {s : Shared} {e : Value} {s' : Shared} {P : Prop} (x : XP C A H s (fun _ => False) e s') : P := let ⟨⟨_, _, _, _, f⟩, _⟩ := x; f.elim
theorem XPO.never {C : Cfg} {A : Around} {env : Env} {H : AHeap} {s : Shared} {e : Value} {s' : Shared} {P : Prop} (x : XPO C A env H s (fun _ => False) e s') : P := let ⟨⟨_, _, _, _, _, f⟩, _⟩ := x; f.elim
noncomputable def TopA (A : Around) (env : Env) : Prop := env.frame = some env.locals ∧ ∃ outer, A.frames = some (env :: outer)
noncomputable def JS (C : Cfg) (n : Nat) (X : AHeap → Prop) (env : Env) (st : PySem.Stmt) (ρ : Loc) (H : AHeap) (Q : AF → Loc → AHeap → Prop) : Prop :=
  ∀ A s, Ok C n A H s → Frm C env ρ H s → TopA A env → wpAny (model C.prog C.w) A (exec st env) (QS C env H s Q) (XPO C A env H s X) s
noncomputable def JSs (C : Cfg) (n : Nat) (X : AHeap → Prop) (env : Env) (st : List PySem.Stmt) (ρ : Loc) (H : AHeap) (Q : AF → Loc → AHeap → Prop) : Prop :=
  ∀ A s, Ok C n A H s → Frm C env ρ H s → TopA A env → wpAny (model C.prog C.w) A (execs st env) (QS C env H s Q) (XPO C A env H s X) s
end Mine
end
section
open PySem PySem.W PyProof.Rows PySem.Calls
namespace Mine
theorem letOwned_ok {H : AHeap} {v : AV} {it : Addr} {i : Nat} {M : Model} {A : Around} {E : Value → Shared → Prop} {s : Shared} {target : PySem.Expr} {cw : Value} {Q : Unit → Shared → Prop}
    (c : Cur H v it i s.heap) (h : Q () s) : wpAny M A (letOwnedTupleGo target (.ref it) cw) Q E s := by
  have key : ∃ o T vs, s.heap.get? it = some o ∧ o.cls = .type T ∧ o.data = .fields vs ∧ ["enumerate", "zip", "dict_itemiterator", "dict_reverseitemiterator", "odict_iterator", "itertools.zip_longest", "itertools.pairwise"].contains T = false := by
    obtain ⟨a, _, ⟨l, _, o, ho, h1, h2⟩ | ⟨d, ep, _, o, ho, h1, h2⟩ | ⟨n, _, ho⟩⟩ := c
    · exact ⟨o, "list_iterator", _, ho, h1, h2, by decide⟩
    · exact ⟨o, "dict_keyiterator", _, ho, h1, h2, by decide⟩
    · exact ⟨_, "range_iterator", _, ho, rfl, rfl, by decide⟩
  obtain ⟨o, T, vs, ho, h1, h2, h3⟩ := key
  unfold letOwnedTupleGo
  split
  · split
    · rename_i heq
      cases heq
      refine wpAny_bind (wpAny_load ho ?_)
      rw [h1, h2]
      dsimp only
      rw [h3]
      exact wpAny_pure h
    · exact wpAny_pure h
  · split
    · rename_i heq
      cases heq
      refine wpAny_bind (wpAny_load ho ?_)
      rw [h1, h2]
      dsimp only
      rw [h3]
      exact wpAny_pure h
    · exact wpAny_pure h
  · exact wpAny_pure h
theorem forLoop' {prog : Program} {w : World} {A : Around} {s : Shared} {R : Result → Shared → Prop} {target : PySem.Expr} {it : Value} {body : List PySem.Stmt} {env : Env} (I : Nat → Shared → Prop)
    (turn : ∀ n s, I n s → wpAny (model prog w) A (pyNext it) (fun r s₁ => match r with
      | none => R (.ok .next) s₁
      | some v => wpAny (model prog w) A (letOwnedTupleGo target it v) (fun _ s₁' => wpAny (model prog w) A (assign target env v) (fun _ s₂ => wpAny (model prog w) A (execs body env) (fun f s₃ => match f with
          | .next | .cont => ∃ m, m < n ∧ I m s₃
          | .brk => R (.ok .next) s₃
          | .ret v => R (.ok (.ret v)) s₃) (notedBy (model prog w) A env fun e s' => R (.error e) s') s₂) (notedBy (model prog w) A env fun e s' => R (.error e) s') s₁') (notedBy (model prog w) A env fun e s' => R (.error e) s') s₁) (notedBy (model prog w) A env fun e s' => R (.error e) s') s)
    (n : Nat) (h : I n s) : codeAny (model prog w) A (.forLoop target it body [] env) R s := by
  refine codeAny_loop' rfl I (fun n s hI => ?_) n h
  show wpAny _ _ ((forTurn target it body [] env).onRaise (fun x => do noteFrame x env; theTreesLotGoes x)) _ _ s
  refine wpAny_noted ?_
  simp only [forTurn]
  refine wpAny_bind (wpAny_standAt (wpAny_bind (wpAny_onRaise (wpAny_mono (turn n s hI) (fun r s₁ h₁ => ?_) fun _ _ h' => wpAny_standAt h'))))
  cases r with
  | none => exact wpAny_pure (.inr ⟨rfl, codeAny_block (wpAny_execs_nil h₁)⟩)
  | some v =>
    refine wpAny_bind (wpAny_mono h₁ (fun _ s₁' h₁' => ?_) fun _ _ h' => h')
    refine wpAny_bind (wpAny_mono h₁' (fun _ s₂ h₂ => wpAny_bind (wpAny_mono h₂ (fun f s₃ h₃ => ?_) fun _ _ h' => h')) fun _ _ h' => h')
    cases f with
    | next => exact wpAny_pure (.inl ⟨rfl, h₃⟩)
    | cont => exact wpAny_pure (.inl ⟨rfl, h₃⟩)
    | brk => exact wpAny_pure h₃
    | ret v => exact wpAny_pure h₃
theorem StepP.but {P : Addr → Prop} {H1 H' : AHeap} {s1 s' : Shared} {it : Addr} {h' : Heap} {t : Nat} (x : StepP P H1 H' s1 s') (hp : P it) (hs : Heap.ExtBut it s'.heap h') : StepP P H1 H' s1 { s' with heap := h', toks := t } :=
  ⟨fun b o e hb hn => hs b o (fun q => hn (q ▸ hp)) (x.keep b o e hb hn), x.fresh, x.out⟩
theorem StepO.up {env : Env} {P : Addr → Prop} {H H' : AHeap} {s s' : Shared} (x : StepO env H H' s s') (h : ∀ b, own env b → P b) (ho : ∀ b, P b → H b = none ∧ s.heap.get? b ≠ none) : StepP P H H' s s' := by
  refine ⟨fun b o e hb hn => x.keep b o e hb fun q => hn (h b q), x.fresh, fun b hb => ?_⟩
  by_cases hw : own env b
  · exact x.out b hw
  · obtain ⟨h1, h2⟩ := ho b hb
    cases q : s.heap.get? b with
    | none => exact absurd q h2
    | some o =>
      cases q2 : H' b with
      | none => rfl
      | some o' =>
        rcases x.fresh b (by rw [q2]; intro z; cases z) with z | z
        · exact absurd h1 z
        · rw [q] at z; cases z
theorem StepO.refl {C : Cfg} {env : Env} {ρ : Loc} {H : AHeap} {s : Shared} (F : Frm C env ρ H s) : StepO env H H s s := .of F (.refl _ _)
section
variable {C : Cfg} {n : Nat} {X : AHeap → Prop} {env : Env} {ρ : Loc} {H : AHeap}
theorem goO {A : Around} {s s1 : Shared} {α β : Type} {R : β → α → Prop} {t : Sem α} {P : α → Shared → Prop} {H1 : AHeap} {ρ1 : Loc} {Q1 : β → AHeap → Prop} (h : wpAny (model C.prog C.w) A t (QP C R H1 s1 Q1) (XP C A H1 s1 X) s1) (F1 : Frm C env ρ1 H1 s1) (st : StepO env H H1 s s1)
    (k : ∀ v b s2 H2, R b v → Rep C H2 s2 → Step H1 H2 s1 s2 → StepO env H H2 s s2 → Q1 b H2 → P v s2) : wpAny (model C.prog C.w) A t P (XPO C A env H s X) s1 :=
  wpAny_mono h (fun v s2 ⟨b, H2, h1, h2, h3, h4⟩ => k v b s2 H2 h1 h2 h3 (StepP.trans st (StepO.of F1 h3)) h4) fun _ _ z => (z.toO F1).pre st
noncomputable def AsgOk (C : Cfg) (n : Nat) (env : Env) (target : PySem.Expr) (Asg : Loc → AHeap → AV → (Loc → Prop) → Prop) : Prop :=
  ∀ ρ H w K A E s cw, Ok C n A H s → Frm C env ρ H s → RepV w cw → Asg ρ H w K →
    wpAny (model C.prog C.w) A (assign target env cw) (fun _ s' => ∃ ρ', K ρ' ∧ Rep C H s' ∧ Frm C env ρ' H s' ∧ StepO env H H s s') E s
inductive FoI (C : Cfg) (env : Env) (H1 : AHeap) (s1 : Shared) (v : AV) (it' : Addr) (L : Nat) (I : Nat → Loc → AHeap → Prop) (P : Addr → Prop) (k : Nat) (s' : Shared) : Prop where
  | mk (i : Nat) (ρ' : Loc) (H' : AHeap) (hI : I i ρ' H') (r : Rep C H' s') (F : Frm C env ρ' H' s') (st : StepP P H1 H' s1 s') (cu : Cur H' v it' i s'.heap) (le : i ≤ L) (e : k = L + 1 - i)
theorem jFor {target it : PySem.Expr} {body : List PySem.Stmt} {pos : Pos} {XB : AHeap → Prop} {Q : AF → Loc → AHeap → Prop} {Q1 : AV → AHeap → Prop} {Asg : Loc → AHeap → AV → (Loc → Prop) → Prop}
    (hs : ∀ x, foldedSetIterable it env x = pure x) (hasg : AsgOk C n env target Asg)
    (hE : ∀ A s H0 ρ0 e s', Ok C n A H0 s → Frm C env ρ0 H0 s → TopA A env → XPO C A env H0 s XB e s' → notedBy (model C.prog C.w) A env (cameBackBy (model C.prog C.w) A env (XPO C A env H0 s X)) e s')
    (h1 : JE C n X env it ρ H Q1)
    (h2 : ∀ v H1, Q1 v H1 → ∃ l, itemsOf H1 v = some l ∧ ∃ I : Nat → Loc → AHeap → Prop, I 0 ρ H1 ∧
      (∀ i ρ' H', I i ρ' H' → srcSame H1 H' v) ∧
      (∀ i ρ' H' (w : AV), I i ρ' H' → l[i]? = some w → Asg ρ' H' w fun ρ'' => JSs C n XB env body ρ'' H' (turnEnd (I (i + 1)) Q)) ∧
      (∀ ρ' H', I l.length ρ' H' → Q .next ρ' H')) : JS C n X env (.For target it body [] pos) ρ H Q := by
  intro A s ok F tA
  refine wpAny_For (goO (h1 A s ok F) F (StepO.refl F) fun cv v s1 H1 rv r1 st1 so1 q1 => ?_) hs
  obtain ⟨l, hl, I, hI0, hsrc, hturn, hend⟩ := h2 v H1 q1
  have ok1 := ok.step st1 r1
  have F1 := F.step st1
  refine cur_start hl rv r1 fun ob hob hcur => ?_
  generalize hit : s1.heap.objs.size = it' at hcur ⊢
  have it0 : s1.heap.get? it' = none := hit ▸ get_size _
  have itH : H1 it' = none := hit ▸ ok1.atSize
  have itB : C.base.get? it' = none := by
    cases q : C.base.get? it' with
    | none => rfl
    | some o => have := r1.keep _ o q; rw [it0] at this; cases this
  have itO : ¬ own env it' := fun q => by obtain ⟨o, ho, _⟩ := F1.own_nf q; rw [it0] at ho; cases ho
  have itHd : ∀ e, A.handled = some (.ref e) → e ≠ it' := fun e he q => by
    rcases ok1.hd with h | ⟨e', o, vs, h1, _, h3, _⟩
    · rw [h] at he; cases he
    · rw [h1] at he; cases he; rw [q, it0] at h3; cases h3
  let P : Addr → Prop := fun b => own env b ∨ b = it'
  have okAt : ∀ {s' : Shared} {H' : AHeap} {ρ' : Loc}, Rep C H' s' → Frm C env ρ' H' s' → StepP P H1 H' s1 s' → Ok C n A H' s' := fun r' F' st' =>
    ok1.stepP (fun b hb => hb.elim (fun q => .inr ⟨F1.own_nf q, F'.own_nf q⟩) fun q => .inl (q ▸ it0)) st' r'
  have fin : ∀ {s' : Shared} {H' : AHeap} {ρ' : Loc} {af : AF} {f : Flow}, RepF af f → Rep C H' s' → Frm C env ρ' H' s' → StepP P H1 H' s1 s' → Q af ρ' H' → QS C env H s Q f s' := fun rf r' F' st' q' =>
    ⟨_, _, _, rf, r', F', so1.trans (st'.less (fun b hb => hb.elim .inl fun q => .inr (q ▸ it0)) fun b hb => .inl hb), q'⟩
  have push : ∀ b o, s1.heap.get? b = some o → (s1.heap.push ob).get? b = some o := fun b o e => Heap.get?_push_of_some _ e
  refine forLoop' (FoI C env H1 s1 v it' l.length I P) ?_ (l.length + 1)
    ⟨0, ρ, H1, hI0, r1.grow (t := s1.toks) push, F1.step (.grow (t := s1.toks) _ push), ⟨fun b o e _ _ => push b o e, fun a ha => .inl ha, fun b hb => hb.elim F1.own_H fun q => q ▸ itH⟩, hcur, Nat.zero_le _, rfl⟩
  rintro k s' ⟨i, ρ', H', hI, r', F', st', hc, hi, rfl⟩
  have ok' := okAt r' F' st'
  have itH' : H' it' = none := st'.out it' (.inr rfl)
  have hl' : itemsOf H' v = some l := by
    have e := hsrc i ρ' H' hI
    cases v with
    | ref a => simp only [srcSame] at e; simp only [itemsOf, e] at hl ⊢; exact hl
    | _ => exact hl
  by_cases hlt : i < l.length
  · refine cur_next hc hl' r' (List.getElem?_eq_getElem hlt) fun cw h' t rw' hc2 hsb => ?_
    have ra := r'.but (t := t) itH' itB hsb.extBut
    have Fa := F'.but (t := t) itO hsb.extBut
    have sta := st'.but (t := t) (.inr rfl) hsb.extBut
    have oka := okAt ra Fa sta
    refine letOwned_ok (s := { s' with heap := h', toks := t }) hc2 ?_
    refine wpAny_mono (hasg ρ' H' _ _ A _ _ cw oka Fa rw' (hturn i ρ' H' _ hI (List.getElem?_eq_getElem hlt))) (fun _ sb ⟨ρ'', hK, rb, Fb, sob⟩ => ?_) fun _ _ z => z
    have thereA : ∃ o, h'.get? it' = some o := hc2.there
    obtain ⟨oa, hoa⟩ := thereA
    have stb : StepP P H1 H' s1 sb := sta.trans (sob.up (fun b q => .inl q) fun b hb => hb.elim (fun q => ⟨Fa.own_H q, by obtain ⟨o, ho, _⟩ := Fa.own_nf q; rw [ho]; intro z; cases z⟩) fun q => q ▸ ⟨itH', by rw [show ({ s' with heap := h', toks := t } : Shared).heap.get? it' = some oa from hoa]; intro z; cases z⟩)
    have okb := okAt rb Fb stb
    have keepb : ∀ o, h'.get? it' = some o → sb.heap.get? it' = some o := fun o e => sob.keep it' o e itH' itO
    refine wpAny_mono (hK A sb okb Fb tA) (fun f s3 ⟨af, ρ3, H3, rf, r3, F3, so3, q3⟩ => ?_) fun e s3 z => hE A s H ρ e s3 ok F tA ?_
    · have st3 : StepP P H1 H3 s1 s3 := stb.trans (so3.up (fun b q => .inl q) fun b hb => hb.elim (fun q => ⟨Fb.own_H q, by obtain ⟨o, ho, _⟩ := Fb.own_nf q; rw [ho]; intro z; cases z⟩) fun q => q ▸ ⟨itH', by rw [keepb oa hoa]; intro z; cases z⟩)
      have go3 : I (i + 1) ρ3 H3 → ∃ m, m < l.length + 1 - i ∧ FoI C env H1 s1 v it' l.length I P m s3 := fun hI3 => by
        refine ⟨l.length + 1 - (i + 1), by omega, i + 1, ρ3, H3, hI3, r3, F3, st3, hc2.move (fun a ha => ?_) (fun o e => so3.keep it' o (keepb o e) itH' itO), hlt, rfl⟩
        have e1 := hsrc (i + 1) ρ3 H3 hI3
        have e2 := hsrc i ρ' H' hI
        subst ha
        simp only [srcSame] at e1 e2
        rw [e1, e2]
      cases af with
      | next => cases rf; exact go3 q3
      | cont => cases rf; exact go3 q3
      | brk => cases rf; exact fin (af := .next) rfl r3 F3 st3 q3
      | ret u => obtain ⟨cu, rfl, ru⟩ := rf; exact fin (af := .ret u) ⟨cu, rfl, ru⟩ r3 F3 st3 q3
    · refine XPO.pre so1 ?_
      obtain ⟨⟨H4, f1, f2, f3, f4, f5⟩, fk⟩ := z
      have non : ∀ b o, s1.heap.get? b = some o → H1 b = none → ¬ own env b → sb.heap.get? b = some o ∧ H' b = none := fun b o e hb ho => by
        have hp : ¬ P b := fun q => q.elim ho fun q => by rw [q, it0] at e; cases e
        refine ⟨stb.keep b o e hb hp, ?_⟩
        cases q : H' b with
        | none => rfl
        | some o' =>
          rcases stb.fresh b (by rw [q]; intro z; cases z) with z | z
          · exact absurd hb z
          · rw [e] at z; cases z
      refine ⟨⟨H4, f1.mono fun B hB b o e hb ho hf => (let ⟨e1, e2⟩ := non b o e hb ho; hB b o e1 e2 ho hf), f2, fun a ha => ?_, f4, f5⟩, fun b o e hb ho hn => ?_⟩
      · rcases f3 a ha with z | z
        · exact stb.fresh a z
        · cases q : H1 a with
          | some o' => exact .inl (by intro z; cases z)
          | none =>
            right
            cases q2 : s1.heap.get? a with
            | none => rfl
            | some o =>
              by_cases hw : own env a
              · exact absurd (f4 a hw) ha
              · have := (non a o q2 q hw).1; rw [z] at this; cases this
      · obtain ⟨e1, e2⟩ := non b o e hb ho
        exact fk b o e1 e2 ho hn
  · have hin : i = l.length := by omega
    subst hin
    refine cur_end hc hl' r' (List.getElem?_eq_none (Nat.le_refl _)) ok'.hdOk itHd fun h' hx => ?_
    exact fin (af := .next) rfl (r'.but (t := s'.toks) itH' itB hx) (F'.but (t := s'.toks) itO hx) (st'.but (t := s'.toks) (.inr rfl) hx) (hend ρ' H' hI)
end
end Mine
end
section
open PySem PySem.W PyProof.Rows PySem.Calls
namespace Mine
noncomputable def closL (env : Env) : Sc → List (Str × Addr) → List (Str × Addr)
  | [], acc => acc
  | (n, k) :: r, acc => if k = .free then closL env r ((n, (env.cells.lookup n).getD 0) :: acc) else closL env r acc
theorem closureFor_eq {scope : Scope} {env : Env} (h : ∀ p ∈ scope.names, p.2 = .free → (env.cells.lookup p.1).isSome = true) : closureFor scope env = pure (closL env scope.names []) := by
  have key : ∀ (names : Sc) (acc : List (Str × Addr)), (∀ p ∈ names, p.2 = .free → (env.cells.lookup p.1).isSome = true) →
      (forIn names acc fun (p : Str × NameKind) (cs : List (Str × Addr)) => (if (p.2 == NameKind.free) = true then do
          let c ← cellOf env p.1
          pure (ForInStep.yield ((p.1, c) :: cs))
        else pure (ForInStep.yield cs) : Sem (ForInStep (List (Str × Addr))))) = pure (closL env names acc) := by
    intro names
    induction names with
    | nil => intro acc _; rfl
    | cons p r ih =>
      intro acc hp
      obtain ⟨n, k⟩ := p
      rw [List.forIn_cons]
      by_cases hk : k = .free
      · subst hk
        obtain ⟨c, hc⟩ := Option.isSome_iff_exists.mp (hp _ (.head _) rfl)
        have e : cellOf env n = pure c := by unfold cellOf; rw [hc]
        rw [if_pos (by rfl), e]
        show (forIn r _ _ : Sem _) = _
        rw [ih _ fun q hq => hp q (.tail _ hq)]
        conv => rhs; unfold closL
        rw [if_pos rfl, hc]
        rfl
      · rw [if_neg (by rw [beq_iff_eq]; exact hk)]
        show (forIn r _ _ : Sem _) = _
        rw [ih _ fun q hq => hp q (.tail _ hq)]
        conv => rhs; unfold closL
        rw [if_neg hk]
  unfold closureFor
  show (forIn scope.names [] _ >>= fun cs => pure cs) = _
  have := key scope.names [] h
  rw [show (forIn scope.names [] (fun (x : Str × NameKind) (r : List (Str × Addr)) => match x with
      | (name, kind) => if (kind == NameKind.free) = true then do
          let __do_lift ← cellOf env name
          pure (ForInStep.yield ((name, __do_lift) :: r))
        else pure (ForInStep.yield r)) : Sem _) = pure (closL env scope.names []) from this]
  rfl
theorem closL_lookup {env : Env} : ∀ {names : Sc} {acc : List (Str × Addr)} {y : Str} {c : Addr}, (closL env names acc).lookup y = some c → acc.lookup y = some c ∨ ((y, NameKind.free) ∈ names ∧ c = (env.cells.lookup y).getD 0)
  | [], _, _, _, h => .inl h
  | (n, k) :: r, acc, y, c, h => by
    unfold closL at h
    by_cases hk : k = .free
    · rw [if_pos hk] at h
      rcases closL_lookup h with h | ⟨h1, h2⟩
      · rw [List.lookup_cons] at h
        by_cases q : y = n
        · subst q; simp at h; exact .inr ⟨hk ▸ .head _, h.symm⟩
        · rw [beq_eq_false_iff_ne.mpr q] at h; exact .inl h
      · exact .inr ⟨.tail _ h1, h2⟩
    · rw [if_neg hk] at h
      rcases closL_lookup h with h | ⟨h1, h2⟩
      · exact .inl h
      · exact .inr ⟨.tail _ h1, h2⟩
theorem closL_has {env : Env} : ∀ {names : Sc} {acc : List (Str × Addr)} {y : Str}, ((y, NameKind.free) ∈ names ∨ (acc.lookup y).isSome = true) → ((closL env names acc).lookup y).isSome = true
  | [], _, _, h => h.elim (fun h => nomatch h) id
  | (n, k) :: r, acc, y, h => by
    unfold closL
    by_cases hk : k = .free
    · rw [if_pos hk]
      refine closL_has ?_
      by_cases q : y = n
      · right; rw [List.lookup_cons, q]; simp
      · rcases h with h | h
        · rcases List.mem_cons.mp h with e | e
          · cases e; exact absurd rfl q
          · exact .inl e
        · right; rw [List.lookup_cons, beq_eq_false_iff_ne.mpr q]; exact h
    · rw [if_neg hk]
      refine closL_has ?_
      rcases h with h | h
      · rcases List.mem_cons.mp h with e | e
        · cases e; exact absurd rfl hk
        · exact .inl e
      · exact .inr h
theorem compOk_all {sc names : Sc} {x : Str} (h : compOk sc names x = true) : names.lookup x = some .local ∧ ∀ p ∈ names, p.2 ≠ .cell ∧ (p.2 = .local → names.lookup p.1 = some .local ∧ (p.1 = x ∨ p.1 = (".0" : Str))) ∧
    (p.2 = .free → sc.lookup p.1 = some .cell ∨ sc.lookup p.1 = some .free) := by
  unfold compOk at h
  rw [Bool.and_eq_true, beq_iff_eq, List.all_eq_true] at h
  refine ⟨h.1, fun p hp => ?_⟩
  have := h.2 p hp
  simp only [Bool.and_eq_true, Bool.or_eq_true, bne_iff_ne, ne_eq, beq_iff_eq] at this
  obtain ⟨⟨h1, h2⟩, h3⟩ := this
  exact ⟨h1, fun e => h2.resolve_left fun q => q e, fun e => h3.resolve_left fun q => q e⟩
theorem mem_of_lookup' {names : Sc} {y : Str} {k : NameKind} (h : names.lookup y = some k) : (y, k) ∈ names := by
  induction names with
  | nil => cases h
  | cons p r ih =>
    obtain ⟨n, k'⟩ := p
    rw [List.lookup_cons] at h
    by_cases q : y = n
    · subst q; simp at h; subst h; exact .head _
    · rw [beq_eq_false_iff_ne.mpr q] at h; exact .tail _ (ih h)
theorem relabel_names {scope : Scope} {env : Env} (hk : env.scope.kind = .function) : (relabel scope env).names = inner env.scope.names scope.names := by
  unfold relabel inner
  rw [hk]
  refine List.map_congr_left fun p _ => ?_
  obtain ⟨n, k⟩ := p
  show (if (k == NameKind.free && ScopeKind.function == ScopeKind.function && env.kindOf n == some .cell) = true then _ else _) = _
  rw [show (ScopeKind.function == ScopeKind.function) = true from rfl, Bool.and_true]
  rfl
theorem comp_frm {C : Cfg} {env : Env} {ρ : Loc} {H : AHeap} {s : Shared} {scope : Scope} {x : Str} {L : Addr} {m : Str → Option Value} {w : AV} {cw : Value} (F : Frm C env ρ H s) (hk : scope.kind = .function) (hok : compOk env.scope.names scope.names x = true)
    (hL : H L = none) (bL : C.base.get? L = none) (hLo : ¬ own env L) (hn : s.heap.Ns L m) (hm : m x = some cw) (hw : RepV w cw) : Frm C (compEnvC scope (closL env scope.names []) L env) (cupd ρ x w) H s := by
  obtain ⟨hx, hall⟩ := compOk_all hok
  have memInner : ∀ y k, (compEnvC scope (closL env scope.names []) L env).kindOf y = some k → ∃ k', (y, k') ∈ scope.names ∧ (k = k' ∨ (k' = .free ∧ k = .cell)) := fun y k e => by
    have e' : (relabel scope env).names.lookup y = some k := e
    rw [relabel_names F.kind] at e'
    have := mem_of_lookup' e'
    obtain ⟨⟨n', k'⟩, hp, hq⟩ := List.mem_map.mp this
    by_cases c : (k' == NameKind.free && env.scope.names.lookup n' == some .cell) = true
    · dsimp only at hq; rw [if_pos c] at hq; cases hq
      rw [Bool.and_eq_true, beq_iff_eq] at c
      exact ⟨k', hp, .inr ⟨c.1, rfl⟩⟩
    · dsimp only at hq; rw [if_neg c] at hq; cases hq
      exact ⟨_, hp, .inl rfl⟩
  have look : ∀ y c, (closL env scope.names []).lookup y = some c → (y, NameKind.free) ∈ scope.names ∧ env.cells.lookup y = some c := fun y c e => by
    rcases closL_lookup e with h | ⟨h1, h2⟩
    · cases h
    · obtain ⟨c', hc'⟩ := Option.isSome_iff_exists.mp (F.has y ((hall _ h1).2.2 rfl))
      rw [hc'] at h2; exact ⟨h1, by rw [h2, hc']; rfl⟩
  refine ⟨by show (relabel scope env).kind = _; exact hk, F.hg, F.hb, hL, bL, ⟨m, hn, fun y v hy hv => ?_⟩, fun y c hc => ?_, fun y hy => ?_, fun y z c hy hz => ?_⟩
  · obtain ⟨k', hp, hkk⟩ := memInner y _ hy
    have hkl : k' = .local := by rcases hkk with h | ⟨_, h⟩; exact h.symm; cases h
    rcases ((hall _ hp).2.1 hkl).2 with e | e
    · have e : y = x := e
      subst e
      simp only [cupd, if_true] at hv; cases hv; exact ⟨cw, hm, hw⟩
    · have e : y = (".0" : Str) := e
      by_cases q : y = x
      · subst q; simp only [cupd, if_true] at hv; cases hv; exact ⟨cw, hm, hw⟩
      · simp only [cupd, if_neg q, if_pos e] at hv; cases hv
  · obtain ⟨hfree, hc'⟩ := look y c hc
    obtain ⟨h1, h2, h3, v, h4, h5⟩ := F.cells y c hc'
    refine ⟨fun (q : c = L) => hLo (.inr ⟨y, q ▸ hc'⟩), h2, h3, v, h4, fun av hav hnl => h5 av ?_ ?_⟩
    · by_cases q : y = x
      · exfalso; apply hnl
        subst q
        exact lookup_relabel_local hx
      · simp only [cupd, if_neg q] at hav
        split at hav
        · cases hav
        · exact hav
    · intro q
      rcases (hall _ hfree).2.2 rfl with z | z
      · have : env.scope.names.lookup y = some .local := q; rw [z] at this; cases this
      · have : env.scope.names.lookup y = some .local := q; rw [z] at this; cases this
  · refine closL_has (.inl ?_)
    rcases hy with hy | hy
    · obtain ⟨k', hp, h | ⟨h, _⟩⟩ := memInner y _ hy
      · exact absurd h.symm (hall _ hp).1
      · exact h ▸ hp
    · obtain ⟨k', hp, h | ⟨h, h'⟩⟩ := memInner y _ hy
      · exact h ▸ hp
      · cases h'
  · exact F.apart y z c (look y c hy).2 (look z c hz).2
noncomputable def JIfs (C : Cfg) (n : Nat) (env : Env) (ifs : List PySem.Expr) (ρ : Loc) (H : AHeap) (Q : Bool → AHeap → Prop) : Prop :=
  ∀ A E s, Ok C n A H s → Frm C env ρ H s → wpAny (model C.prog C.w) A
    (forIn ifs true fun c r => if r = true then do let ok ← isTrue c env (eval c env); pure (ForInStep.yield ok) else pure (ForInStep.yield r)) (QP C Eq H s Q) E s
theorem JIfs.mono {C : Cfg} {n : Nat} {env : Env} {ifs : List PySem.Expr} {ρ : Loc} {H : AHeap} {Q Q' : Bool → AHeap → Prop} (h : JIfs C n env ifs ρ H Q) (k : ∀ b H', Q b H' → Q' b H') : JIfs C n env ifs ρ H Q' :=
  fun A E s ok F => wpAny_mono (h A E s ok F) (fun _ _ ⟨b, H', h1, h2, h3, h4⟩ => ⟨b, H', h1, h2, h3, k _ _ h4⟩) fun _ _ z => z
theorem forIn_false {env : Env} : ∀ ifs : List PySem.Expr, (forIn ifs false (fun c r => if r = true then do let ok ← isTrue c env (eval c env); pure (ForInStep.yield ok) else pure (ForInStep.yield r)) : Sem Bool) = pure false
  | [] => rfl
  | c :: r => by
    rw [List.forIn_cons]
    simp only [Bool.false_eq_true, if_false]
    exact forIn_false r
section
variable {C : Cfg} {n : Nat} {env : Env} {ρ : Loc} {H : AHeap}
theorem jIfsNil {Q : Bool → AHeap → Prop} (h : Q true H) : JIfs C n env [] ρ H Q := fun _ _ _ ok _ => wpAny_pure ⟨true, H, rfl, ok.rep, .refl _ _, h⟩
theorem jIfsCons {c : PySem.Expr} {r : List PySem.Expr} {Q Q1 : Bool → AHeap → Prop} (h1 : JT C n (fun _ => False) env c ρ H Q1) (h2 : ∀ H1, Q1 true H1 → JIfs C n env r ρ H1 Q) (h3 : ∀ H1, Q1 false H1 → Q false H1) : JIfs C n env (c :: r) ρ H Q := by
  intro A E s ok F
  rw [List.forIn_cons, if_pos rfl]
  refine wpAny_bind (wpAny_bind (wpAny_mono (h1 A s ok F) (fun b s1 ⟨b', H1, rb, r1, st1, q1⟩ => ?_) fun _ _ z => z.never))
  cases rb
  refine wpAny_pure ?_
  show wpAny _ _ (forIn r b _) _ _ _
  cases b with
  | true => exact wpAny_mono (h2 H1 q1 A E s1 (ok.step st1 r1) (F.step st1)) (fun _ _ z => z.post st1) fun _ _ z => z
  | false => rw [forIn_false]; exact wpAny_pure ⟨false, H1, rfl, r1, st1, h3 H1 q1⟩
end
theorem F2.snoc {α β : Type} {R : α → β → Prop} {l : List α} {m : List β} {a : α} {b : β} (h : F2 R l m) (hab : R a b) : F2 R (l ++ [a]) (m ++ [b]) := by
  induction h with
  | nil => exact .cons hab .nil
  | cons h1 _ ih => exact .cons h1 ih
end Mine
end
section
open PySem PySem.W PyProof.Rows PySem.Calls
namespace Mine
theorem Ns.keep1 {h h' : Heap} {L : Addr} {m : Str → Option Value} (x : h.Ns L m) (e : ∀ o, h.get? L = some o → h'.get? L = some o) : h'.Ns L m := x.at' e
section
variable {C : Cfg} {n : Nat} {env : Env} {ρ : Loc}
inductive LcI (C : Cfg) (env : Env) (ρ : Loc) (H1 : AHeap) (s1 : Shared) (v : AV) (it' D Cn : Addr) (L : Nat) (I : Nat → List AV → AHeap → Prop) (P : Addr → Prop) (k : Nat) (s' : Shared) : Prop where
  | mk (i : Nat) (acc : List AV) (H' : AHeap) (vs : List Value) (m : Str → Option Value) (hI : I i acc H') (r : Rep C H' s') (F : Frm C env ρ H' s') (st : StepP P H1 H' s1 s') (cu : Cur H' v it' i s'.heap) (pl : PlainL s'.heap D vs.toArray) (hacc : F2 RepV acc vs) (hal : acc.length ≤ i) (ns : s'.heap.Ns Cn m) (le : i ≤ L) (e : k = L + 1 - i)
theorem listComp_core {e it : PySem.Expr} {x : Str} {px pos : Pos} {ifs : List PySem.Expr} {scope : Scope} {A : Around} {E : Value → Shared → Prop} {s1 : Shared} {H1 : AHeap} {v : AV} {cv : Value} {l : List AV}
    (hc : C.base.get? cStatics ≠ none) (ok1 : Ok C n A H1 s1) (F1 : Frm C env ρ H1 s1) (rv : RepV v cv) (hl : itemsOf H1 v = some l) (hlen : l.length ≤ 10000)
    (hok : compOk env.scope.names scope.names x = true) (hkind : scope.kind = .function)
    (I : Nat → List AV → AHeap → Prop) (hI0 : I 0 [] H1) (hsrc : ∀ i acc H', I i acc H' → srcSame H1 H' v)
    (hturn : ∀ i acc H' w, I i acc H' → l[i]? = some w → ∀ L, JIfs C n (compEnvC scope (closL env scope.names []) L env) ifs (cupd ρ x w) H' fun b H2 =>
      if b then JE C n (fun _ => False) (compEnvC scope (closL env scope.names []) L env) e (cupd ρ x w) H2 fun u H3 => I (i + 1) (acc ++ [u]) H3 else I (i + 1) acc H2)
    {RR : Value → Addr → Result → Shared → Prop}
    (hRR : ∀ D Cn acc H' s' vs m (P : Addr → Prop), s1.heap.get? D = none → s1.heap.get? Cn = none → D ≠ Cn → D ≠ sysModules → C.base.get? D = none → C.base.get? Cn = none → ¬ own env D → ¬ own env Cn → Rep C H' s' → Frm C env ρ H' s' →
      (∀ b, P b → s1.heap.get? b = none) → P D → P Cn → StepP P H1 H' s1 s' → PlainL s'.heap D vs.toArray → F2 RepV acc vs → s'.heap.Ns Cn m → I l.length acc H' → RR (.ref D) Cn (.ok .next) s') :
    wpAny (model C.prog C.w) A (pyIter cv) (fun itv s₂ => wpAny (model C.prog C.w) A (newList []) (fun accv s₃ => wpAny (model C.prog C.w) A (newFunctionEnv scope env.globals (closL env scope.names []) [] env.qual none .none (some env)) (fun cenv s₄ =>
      codeAny (model C.prog C.w) A (.compStart (.ListComp e [⟨.Name x px, it, ifs, 0⟩] scope pos) 0 itv accv { cenv with scope := relabel scope env }) (RR accv cenv.locals) s₄) E s₃) E s₂) E s1 := by
  obtain ⟨hx, hall⟩ := compOk_all hok
  refine cur_start hl rv ok1.rep fun ob hob hcur => ?_
  have notB : ∀ {a : Addr}, s1.heap.get? a = none → C.base.get? a = none := fun {a} ha => by
    cases q : C.base.get? a with
    | none => rfl
    | some o => rw [ok1.rep.keep a o q] at ha; cases ha
  have notO : ∀ {a : Addr}, s1.heap.get? a = none → ¬ own env a := fun {a} ha q => by obtain ⟨o, ho, _⟩ := F1.own_nf q; rw [ha] at ho; cases ho
  have notH : ∀ {a : Addr}, s1.heap.get? a = none → H1 a = none := fun {a} ha => by
    cases q : H1 a with
    | none => rfl
    | some o => obtain ⟨_, _, ob, h, _⟩ := ok1.rep.obj a o q; rw [ha] at h; cases h
  have big : ∀ a : Addr, s1.heap.objs.size ≤ a → s1.heap.get? a = none := fun a ha => by
    cases q : s1.heap.get? a with
    | none => rfl
    | some o => exact absurd (Heap.lt_size q) (Nat.not_lt.mpr ha)
  refine wpAny_newObj_type (wpAny_newFunctionEnv (fun y hy => (hall y hy).1) (by intro y hy; simp at hy) (fun h₁ hns₁ hsb₁ => ?_) hkind)
  dsimp only at hns₁ hsb₁ ⊢
  generalize hit : s1.heap.objs.size = it' at hcur hns₁ hsb₁ ⊢
  have szD : (s1.heap.push ob).objs.size = it' + 1 := by rw [Heap.size_push, hit]
  generalize hD : (s1.heap.push ob).objs.size = D at hns₁ hsb₁ ⊢
  generalize hL2 : (s1.heap.push ob).push { cls := .type "list", dict := none, data := .seq ([] : List Value).toArray } = h2 at hns₁ hsb₁ ⊢
  have szC : h2.objs.size = it' + 2 := by rw [← hL2, Heap.size_push, szD]
  generalize hCn : h2.objs.size = Cn at hns₁ hsb₁ ⊢
  have iD : D = it' + 1 := hD.symm.trans szD
  have iC : Cn = it' + 2 := hCn.symm.trans szC
  have it0 : s1.heap.get? it' = none := big _ (by rw [hit]; exact Nat.le_refl _)
  have D0 : s1.heap.get? D = none := big _ (by rw [hit, iD]; exact Nat.le_succ _)
  have C0 : s1.heap.get? Cn = none := big _ (by rw [hit, iC]; exact Nat.le_trans (Nat.le_succ _) (Nat.le_succ _))
  have itD : it' ≠ D := by rw [iD]; exact Nat.ne_of_lt (Nat.lt_succ_self _)
  have itC : it' ≠ Cn := by rw [iC]; exact Nat.ne_of_lt (Nat.lt_succ_of_lt (Nat.lt_succ_self _))
  have DC : D ≠ Cn := by rw [iD, iC]; exact Nat.ne_of_lt (Nat.lt_succ_self _)
  have hDobj : h2.get? D = some { cls := .type "list", dict := none, data := .seq ([] : List Value).toArray } := by rw [← hL2, ← hD]; exact Heap.get?_push_size _ rfl
  have Dm : D ≠ sysModules := by
    rw [iD, ← hit]; intro q
    obtain ⟨om, hom⟩ := Option.ne_none_iff_exists'.mp hc
    have h9 : 2 < s1.heap.objs.size := Heap.lt_size (ok1.rep.keep _ om hom)
    have h8 : s1.heap.objs.size + 1 = 1 := q
    omega
  let P : Addr → Prop := fun b => b = it' ∨ b = D ∨ b = Cn
  have P0 : ∀ b, P b → s1.heap.get? b = none := fun b hb => by rcases hb with rfl | rfl | rfl <;> assumption
  have oldB : ∀ b o, s1.heap.get? b = some o → b ≠ Cn := fun b o e q => by rw [q, C0] at e; cases e
  have up2 : ∀ b o, (s1.heap.push ob).get? b = some o → h2.get? b = some o := fun b o e => hL2 ▸ Heap.get?_push_of_some _ e
  have up : ∀ b o, b ≠ Cn → h2.get? b = some o → h₁.get? b = some o := fun b o hb e => hsb₁.extBut b o hb (Heap.get?_push_of_some _ e)
  have keep1 : ∀ b o, s1.heap.get? b = some o → h₁.get? b = some o := fun b o e => up b o (oldB b o e) (up2 b o (Heap.get?_push_of_some _ e))
  have itHd : ∀ e, A.handled = some (.ref e) → e ≠ it' := fun e he q => by
    rcases ok1.hd with h | ⟨e', o, vs, h1, _, h3, _⟩
    · rw [h] at he; cases he
    · rw [h1] at he; cases he; rw [q, it0] at h3; cases h3
  have okAt : ∀ {s' : Shared} {H' : AHeap}, Rep C H' s' → StepP P H1 H' s1 s' → Ok C n A H' s' := fun r' st' => ok1.stepP (fun b hb => .inl (P0 b hb)) st' r'
  have kx : (compEnvC scope (closL env scope.names []) Cn env).kindOf x = some .local := lookup_relabel_local hx
  have hp : ((compEnvC scope (closL env scope.names []) Cn env).scope.kind == .class || ((compEnvC scope (closL env scope.names []) Cn env).scope.kind == .module && (compEnvC scope (closL env scope.names []) Cn env).locals != (compEnvC scope (closL env scope.names []) Cn env).globals)) = false := by
    show (scope.kind == .class || (scope.kind == .module && _)) = false
    rw [hkind]; rfl
  have loop : ∀ s₃ : Shared, s₃ = { s1 with heap := h₁, toks := s1.toks + ([] : List (Str × Value)).length } →
      codeAny (model C.prog C.w) A (.compLoop (.ListComp e [⟨.Name x px, it, ifs, 0⟩] scope pos) 0 (.ref it') (.ref D) (compEnvC scope (closL env scope.names []) Cn env)) (RR (.ref D) Cn) s₃ := by
    rintro s₃ rfl
    refine codeAny_compLoop_tests (LcI C env ρ H1 s1 v it' D Cn l.length I P) ?_ (l.length + 1)
      ⟨0, [], H1, [], _, hI0, ok1.rep.grow keep1, F1.step (.grow _ keep1), ⟨fun b o e _ _ => keep1 b o e, fun a ha => .inl ha, fun b hb => notH (P0 b hb)⟩,
        hcur.move (fun _ _ => rfl) (fun o e => up _ o itC (up2 _ o e)), ⟨_, 0, up D _ DC hDobj, rfl, rfl, rfl⟩, .nil, Nat.le_refl _, hns₁, Nat.zero_le _, rfl⟩
    rintro k s' ⟨i, acc, H', vs, m, hI, r', F', st', hcu, hpl, hacc, hal, hns, hi, rfl⟩
    have ok' := okAt r' st'
    have HP : ∀ b, P b → H' b = none := st'.out
    have hl' : itemsOf H' v = some l := by
      have e := hsrc i acc H' hI
      cases v with
      | ref a => simp only [srcSame] at e; simp only [itemsOf, e] at hl ⊢; exact hl
      | _ => exact hl
    have pI : P it' := .inl rfl
    have pD : P D := .inr (.inl rfl)
    have pC : P Cn := .inr (.inr rfl)
    by_cases hlt : i < l.length
    · refine cur_next hcu hl' r' (List.getElem?_eq_getElem hlt) fun cw h' t rw' hc2 hsb => ?_
      have hnsA : h'.Ns Cn m := hns.sameBut hsb (Ne.symm itC)
      refine wpAny_assign_Name (wpAny_storeName_local (env := compEnvC scope (closL env scope.names []) Cn env) (s := { s' with heap := h', toks := t }) kx hnsA (fun h3 hn3 hs3 => ?_) hp)
      have rb := (r'.but (t := t) (HP _ pI) (notB it0) hsb.extBut).but (t := t + 1) (HP _ pC) (notB C0) hs3.extBut
      have Fb := (F'.but (t := t) (notO it0) hsb.extBut).but (t := t + 1) (notO C0) hs3.extBut
      have stb := (st'.but (t := t) pI hsb.extBut).but (t := t + 1) pC hs3.extBut
      have hplb : PlainL h3 D vs.toArray := (hpl.extBut hsb.extBut (Ne.symm itD)).extBut hs3.extBut DC
      have curb : Cur H' v it' (i + 1) h3 := hc2.move (fun _ _ => rfl) fun o e => hs3.extBut _ o itC e
      have okb := okAt rb stb
      have Fc := comp_frm Fb hkind hok (HP _ pC) (notB C0) (notO C0) hn3 (if_pos rfl) rw'
      refine wpAny_mono (hturn i acc H' _ hI (List.getElem?_eq_getElem hlt) Cn A _ _ okb Fc) (fun okb' sc ⟨b, H2, eb, rc, stc, qc⟩ => ?_) fun _ _ z => z
      cases eb
      have exI : ∃ o, h3.get? it' = some o := curb.there
      have exD : ∃ o, h3.get? D = some o := let ⟨o, _, ho, _⟩ := hplb; ⟨o, ho⟩
      have exC : ∃ o, h3.get? Cn = some o := let ⟨o, _, _, ho, _⟩ := hn3; ⟨o, ho⟩
      have exP : ∀ b, P b → H' b = none ∧ h3.get? b ≠ none := fun b hb => ⟨HP b hb, by
        rcases hb with rfl | rfl | rfl
        · obtain ⟨o, ho⟩ := exI; rw [ho]; intro z; cases z
        · obtain ⟨o, ho⟩ := exD; rw [ho]; intro z; cases z
        · obtain ⟨o, ho⟩ := exC; rw [ho]; intro z; cases z⟩
      cases okb' with
      | false =>
        rw [if_neg Bool.false_ne_true] at qc ⊢
        have stc' := stb.trans (.of exP stc)
        refine ⟨l.length + 1 - (i + 1), by omega, i + 1, acc, H2, vs, _, qc, rc, Fb.step stc, stc', curb.move (fun a ha => ?_) (fun o e => stc.keep _ o e (HP _ pI)), hplb.at fun o e => stc.keep _ o e (HP _ pD), hacc, by omega, Ns.keep1 (L := Cn) hn3 (fun o e => stc.keep _ o e (HP _ pC)), hlt, rfl⟩
        have e1 := hsrc (i + 1) acc H2 qc
        have e2 := hsrc i acc H' hI
        subst ha
        simp only [srcSame] at e1 e2
        rw [e1, e2]
      | true =>
        rw [if_pos rfl] at qc ⊢
        have okc := okb.step stc rc
        refine wpAny_mono (qc A sc okc (Fc.step stc)) (fun cu sd ⟨u, H3, ru, rd, std, qd⟩ => ?_) fun _ _ z => z.never
        have std2 := stc.trans std
        have stcd := stb.trans (.of exP std2)
        have hpld : PlainL sd.heap D vs.toArray := hplb.at fun o e => std2.keep _ o e (HP _ pD)
        have H3P : ∀ b, P b → H3 b = none := stcd.out
        refine list_append_plainL hpld (fun h4 hp4 hs4 => ?_) (by rw [List.size_toArray, ← hacc.length, sizeLine_eq]; omega)
        have hnf := (Ns.keep1 (L := Cn) hn3 fun o e => std2.keep _ o e (HP _ pC)).sameBut hs4 (Ne.symm DC)
        refine ⟨l.length + 1 - (i + 1), by omega, i + 1, acc ++ [u], H3, vs ++ [cu], _, qd, rd.but (t := sd.toks) (H3P _ pD) (notB D0) hs4.extBut, (Fb.step std2).but (t := sd.toks) (notO D0) hs4.extBut, stcd.but (t := sd.toks) pD hs4.extBut, ?_, ?_, hacc.snoc ru, ?_, hnf, hlt, rfl⟩
        · refine curb.move (fun a ha => ?_) (fun o e => hs4.extBut _ o itD (std2.keep _ o e (HP _ pI)))
          have e1 := hsrc (i + 1) _ H3 qd
          have e2 := hsrc i acc H' hI
          subst ha
          simp only [srcSame] at e1 e2
          rw [e1, e2]
        · simpa using hp4
        · rw [List.length_append, List.length_singleton]; omega
    · have hin : i = l.length := by omega
      subst hin
      refine cur_end hcu hl' r' (List.getElem?_eq_none (Nat.le_refl _)) ok'.hdOk itHd fun h' hx' => ?_
      exact hRR D Cn acc H' _ vs m P D0 C0 DC Dm (notB D0) (notB C0) (notO D0) (notO C0) (r'.but (t := s'.toks) (HP _ pI) (notB it0) hx') (F'.but (t := s'.toks) (notO it0) hx') P0 pD pC (st'.but (t := s'.toks) pI hx')
        (hpl.extBut hx' (Ne.symm itD)) hacc (hns.extBut hx' (Ne.symm itC)) hI
  refine codeAny_compStart_list (loop _ rfl) ?_
  exact cur_self (v := v) (H := H1) (i := 0) (hcur.move (fun _ _ => rfl) (fun o e => up _ o itC (up2 _ o e))) (loop _ rfl)
end
end Mine
end
section
open PySem PySem.W PyProof.Rows PySem.Calls
namespace Mine
theorem Rep.add {C : Cfg} {H : AHeap} {s : Shared} {D : Addr} {o : AO} {ob : Obj} (r : Rep C H s) (hb : C.base.get? D = none) (hm : D ≠ sysModules) (hg : s.heap.get? D = some ob) (ho : RepO C o ob) : Rep C (H.set D o) s := by
  refine ⟨r.keep, fun b o' e => ?_, r.gens, r.os⟩
  by_cases q : b = D
  · subst q; rw [AHeap.set_self] at e; cases e; exact ⟨hb, hm, ob, hg, ho⟩
  · rw [AHeap.set_ne _ _ q] at e; exact r.obj b o' e
theorem Frm.add {C : Cfg} {env : Env} {ρ : Loc} {H : AHeap} {s : Shared} {D : Addr} {o : AO} (F : Frm C env ρ H s) (h : ¬ own env D) : Frm C env ρ (H.set D o) s := by
  refine ⟨F.kind, F.hg, F.hb, ?_, F.bL, F.ns, fun x c hc => ?_, F.has, F.apart⟩
  · rw [AHeap.set_ne _ _ fun (q : env.locals = D) => h (.inl q.symm)]; exact F.hL
  · obtain ⟨h1, h2, h3, h4⟩ := F.cells x c hc
    exact ⟨h1, (AHeap.set_ne H o fun (q : c = D) => h (.inr ⟨x, q ▸ hc⟩)).trans h2, h3, h4⟩
theorem StepP.join {P : Addr → Prop} {H1 H' : AHeap} {s1 s' : Shared} {D : Addr} {o : AO} (x : StepP P H1 H' s1 s') (h : ∀ b, P b → s1.heap.get? b = none) (hD : P D) : Step H1 (H'.set D o) s1 s' :=
  ⟨fun b ob e hb => x.keep b ob e hb fun q => (by rw [h b q] at e; cases e), fun a ha => by
    by_cases q : a = D
    · subst q; exact .inr (h a hD)
    · rw [AHeap.set_ne _ _ q] at ha; exact x.fresh a ha⟩
theorem plainL_rep {C : Cfg} {h : Heap} {D : Addr} {vs : List Value} {l : List AV} (x : PlainL h D vs.toArray) (f : F2 RepV l vs) : ∃ ob, h.get? D = some ob ∧ RepO C (.list l) ob := by
  obtain ⟨o, n, ho, h1, h2, h3⟩ := x
  exact ⟨o, ho, h1, h2, vs, n, h3, f⟩
section
variable {C : Cfg} {n : Nat} {X : AHeap → Prop} {env : Env} {ρ : Loc} {H : AHeap}
theorem jLComp {e it : PySem.Expr} {x : Str} {px pos : Pos} {ifs : List PySem.Expr} {scope : Scope} {Q Q1 : AV → AHeap → Prop} (hc : C.base.get? cStatics ≠ none) (hs : ∀ x, foldedSetIterable it env x = pure x)
    (hok : compOk env.scope.names scope.names x = true) (hkind : scope.kind = .function) (h1 : JE C n X env it ρ H Q1)
    (h2 : ∀ v H1, Q1 v H1 → ∃ l, itemsOf H1 v = some l ∧ l.length ≤ 10000 ∧ ∃ I : Nat → List AV → AHeap → Prop, I 0 [] H1 ∧ (∀ i acc H', I i acc H' → srcSame H1 H' v) ∧
      (∀ i acc H' w, I i acc H' → l[i]? = some w → ∀ L, JIfs C n (compEnvC scope (closL env scope.names []) L env) ifs (cupd ρ x w) H' fun b H2 =>
        if b then JE C n (fun _ => False) (compEnvC scope (closL env scope.names []) L env) e (cupd ρ x w) H2 fun u H3 => I (i + 1) (acc ++ [u]) H3 else I (i + 1) acc H2) ∧
      (∀ acc H', I l.length acc H' → newAt (.list acc) H' Q)) : JE C n X env (.ListComp e [⟨.Name x px, it, ifs, 0⟩] scope pos) ρ H Q := by
  intro A s ok F
  obtain ⟨hx, hall⟩ := compOk_all hok
  rw [eval_ListComp]
  refine wpAny_comprehension_free (use := none) rfl hs (closureFor_eq fun p hp hf => F.has _ ((hall p hp).2.2 hf)) hkind (fun p hp hl => ((hall p hp).2.1 hl).1)
    (go (h1 A s ok F) (.refl _ _) fun cv v s1 H1 rv r1 st1 q1 => ?_)
  obtain ⟨l, hl, hlen, I, hI0, hsrc, hturn, hend⟩ := h2 v H1 q1
  refine listComp_core hc (ok.step st1 r1) (F.step st1) rv hl hlen hok hkind I hI0 hsrc hturn (RR := fun acc Cn => compPost (model C.prog C.w) A (XP C A H s X) none (QP C RepV H s Q) acc Cn) ?_
  intro D Cn acc H' s' vs m P D0 C0 DC Dm Db Cb Do Co r' F' P0 pD pC st' hpl hacc hn hI
  refine ⟨m, hn, fun h' hs' => ?_⟩
  have r2 := r'.but (t := s'.toks) (st'.out _ pC) Cb hs'.extBut
  have st2 := st'.but (t := s'.toks) pC hs'.extBut
  obtain ⟨ob, hob, hrep⟩ := plainL_rep (C := C) (hpl.extBut hs'.extBut DC) hacc
  exact ⟨.ref D, H'.set D (.list acc), rfl, r2.add Db Dm hob hrep, st1.trans (st2.join P0 pD), hend acc H' hI D (st'.out _ pD)⟩
theorem jAssignLComp {e it : PySem.Expr} {x y : Str} {px py pos spos : Pos} {ifs : List PySem.Expr} {scope : Scope} {Q : AF → Loc → AHeap → Prop} {Q1 : AV → AHeap → Prop} (hc : C.base.get? cStatics ≠ none) (hs : ∀ x, foldedSetIterable it env x = pure x)
    (hok : compOk env.scope.names scope.names x = true) (hkind : scope.kind = .function) (hy : env.kindOf y = some .local ∨ env.kindOf y = some .cell)
    (hsw : swapsWith (.ListComp e [⟨.Name x px, it, ifs, 0⟩] scope pos) (some (.Name y py)) spos.line env = pure true) (h1 : JE C n X env it ρ H Q1)
    (h2 : ∀ v H1, Q1 v H1 → ∃ l, itemsOf H1 v = some l ∧ l.length ≤ 10000 ∧ ∃ I : Nat → List AV → AHeap → Prop, I 0 [] H1 ∧ (∀ i acc H', I i acc H' → srcSame H1 H' v) ∧
      (∀ i acc H' w, I i acc H' → l[i]? = some w → ∀ L, JIfs C n (compEnvC scope (closL env scope.names []) L env) ifs (cupd ρ x w) H' fun b H2 =>
        if b then JE C n (fun _ => False) (compEnvC scope (closL env scope.names []) L env) e (cupd ρ x w) H2 fun u H3 => I (i + 1) (acc ++ [u]) H3 else I (i + 1) acc H2) ∧
      (∀ acc H', I l.length acc H' → newAt (.list acc) H' fun v H2 => Q .next (upd ρ y v) H2)) : JS C n X env (.Assign [.Name y py] (.ListComp e [⟨.Name x px, it, ifs, 0⟩] scope pos) spos) ρ H Q := by
  intro A s ok F tA
  obtain ⟨hx, hall⟩ := compOk_all hok
  rw [exec_Assign_Name_used _ _ _ _ hsw]
  refine wpAny_bind (wpAny_standAt (wpAny_bind ?_))
  show wpAny _ A (do let _ ← comprehension (.ListComp e [⟨.Name x px, it, ifs, 0⟩] scope pos) scope env _ (newList []) false (eval it env) (some (assign (.Name y py) env))) _ _ s
  refine wpAny_bind (wpAny_mono (wpAny_comprehension_free (use := some (assign (.Name y py) env)) (Q := fun _ s' => QS C env H s Q .next s') rfl hs (closureFor_eq fun p hp hf => F.has _ ((hall p hp).2.2 hf)) hkind (fun p hp hl => ((hall p hp).2.1 hl).1)
    (goO (h1 A s ok F) F (StepO.refl F) fun cv v s1 H1 rv r1 st1 so1 q1 => ?_)) (fun _ s' hq => wpAny_pure (wpAny_pure hq)) fun _ _ z => z)
  obtain ⟨l, hl, hlen, I, hI0, hsrc, hturn, hend⟩ := h2 v H1 q1
  refine listComp_core hc (ok.step st1 r1) (F.step st1) rv hl hlen hok hkind I hI0 hsrc hturn (RR := fun acc Cn => compPost (model C.prog C.w) A (XPO C A env H s X) (some (assign (.Name y py) env)) (fun _ s' => QS C env H s Q .next s') acc Cn) ?_
  intro D Cn acc H' s' vs m P D0 C0 DC Dm Db Cb Do Co r' F' P0 pD pC st' hpl hacc hn hI
  obtain ⟨ob, hob, hrep⟩ := plainL_rep (C := C) hpl hacc
  have rA := r'.add (o := .list acc) Db Dm hob hrep
  have FA := F'.add (o := .list acc) Do
  have stA := st'.join (o := .list acc) P0 pD
  show wpAny _ A (assign (.Name y py) env (.ref D)) _ _ _
  refine wpAny_assign_Name (FA.store rA hy (v := .ref D) rfl fun s'' r'' F'' so'' => ?_)
  have HC : (H'.set D (.list acc)) Cn = none := by rw [AHeap.set_ne _ _ (Ne.symm DC)]; exact st'.out _ pC
  refine ⟨m, Ns.keep1 (L := Cn) hn fun o ho => so''.keep _ o ho HC Co, fun h' hs' => ?_⟩
  have r3 := r''.but (t := s''.toks) HC Cb hs'.extBut
  have F3 := F''.but (t := s''.toks) Co hs'.extBut
  refine ⟨.next, _, _, rfl, r3, F3, so1.trans ?_, hend acc H' hI D (st'.out _ pD)⟩
  refine ⟨fun b o hb hH ho => hs'.extBut b o (fun q => by rw [q, C0] at hb; cases hb) (so''.keep b o (stA.keep b o hb hH) (step_none stA hH hb) ho), stA.fresh, so''.out⟩
end
end Mine
end
section
open PySem PySem.W PyProof.Rows PySem.Calls
namespace Mine
noncomputable abbrev RepP : Int × AV → Int × Value → Prop := fun p q => p.1 = q.1 ∧ RepV p.2 q.2
theorem putD_length (d : List (Int × AV)) (k : Int) (v : AV) : (putD d k v).length ≤ d.length + 1 := by
  unfold putD
  split
  · rw [List.length_map]; omega
  · rw [List.length_append, List.length_singleton]; omega
theorem F2.map2 {α β γ δ : Type} {R : α → β → Prop} {S : γ → δ → Prop} {f : α → γ} {g : β → δ} {l : List α} {m : List β} (h : F2 R l m) (k : ∀ a b, R a b → S (f a) (g b)) : F2 S (l.map f) (m.map g) := by
  induction h with
  | nil => exact .nil
  | cons h1 _ ih => exact .cons (k _ _ h1) ih
theorem F2.anyKey {d : List (Int × AV)} {e : List (Int × Value)} (h : F2 RepP d e) (k : Int) : (d.any fun p => p.1 = k) = (e.any fun p => p.1 = k) := by
  induction h with
  | nil => rfl
  | cons h1 _ ih => rw [List.any_cons, List.any_cons, ih, h1.1]
theorem F2.putD {d : List (Int × AV)} {e : List (Int × Value)} {k : Int} {v : AV} {cv : Value} (h : F2 RepP d e) (hv : RepV v cv) : F2 RepP (putD d k v) (stored e k cv) := by
  unfold Mine.putD stored
  rw [h.anyKey k]
  split
  · refine h.map2 fun p q hpq => ?_
    rw [hpq.1]
    split
    · exact ⟨by first | rfl | assumption, hv⟩
    · exact hpq
  · exact h.snoc ⟨rfl, hv⟩
theorem newDict_at {M : Model} {A : Around} {E : Value → Shared → Prop} {s : Shared} {Q : Value → Shared → Prop} (h : Q (.ref s.heap.objs.size) { s with heap := s.heap.push { cls := .type "dict", data := .dict #[] } }) : wpAny M A newDict Q E s := by
  simp only [newDict, newObj]
  exact wpAny_bind (wpAny_alloc (wpAny_pure h))
section
variable {C : Cfg} {n : Nat} {env : Env} {ρ : Loc}
inductive DcI (C : Cfg) (env : Env) (ρ : Loc) (H1 : AHeap) (s1 : Shared) (v : AV) (it' D Cn : Addr) (L : Nat) (I : Nat → List (Int × AV) → AHeap → Prop) (P : Addr → Prop) (k : Nat) (s' : Shared) : Prop where
  | mk (i : Nat) (acc : List (Int × AV)) (H' : AHeap) (vs : List (Int × Value)) (m : Str → Option Value) (hI : I i acc H') (r : Rep C H' s') (F : Frm C env ρ H' s') (st : StepP P H1 H' s1 s') (cu : Cur H' v it' i s'.heap) (pl : s'.heap.DictOf (intKind C.prog C.w) D vs) (hacc : F2 RepP acc vs) (hal : acc.length ≤ i) (ns : s'.heap.Ns Cn m) (le : i ≤ L) (e : k = L + 1 - i)
theorem dictComp_core {e e2 it : PySem.Expr} {x : Str} {px pos : Pos} {ifs : List PySem.Expr} {scope : Scope} {A : Around} {E : Value → Shared → Prop} {s1 : Shared} {H1 : AHeap} {v : AV} {cv : Value} {l : List AV}
    (hc : C.base.get? cStatics ≠ none) (ok1 : Ok C n A H1 s1) (F1 : Frm C env ρ H1 s1) (rv : RepV v cv) (hl : itemsOf H1 v = some l) (hlen : l.length ≤ 10000)
    (hok : compOk env.scope.names scope.names x = true) (hkind : scope.kind = .function)
    (I : Nat → List (Int × AV) → AHeap → Prop) (hI0 : I 0 [] H1) (hsrc : ∀ i acc H', I i acc H' → srcSame H1 H' v)
    (hturn : ∀ i acc H' w, I i acc H' → l[i]? = some w → ∀ L, JIfs C n (compEnvC scope (closL env scope.names []) L env) ifs (cupd ρ x w) H' fun b H2 =>
      if b then JE C n (fun _ => False) (compEnvC scope (closL env scope.names []) L env) e (cupd ρ x w) H2 fun kv H3 => JE C n (fun _ => False) (compEnvC scope (closL env scope.names []) L env) e2 (cupd ρ x w) H3 fun u H4 => ∃ kk, kv = .int kk ∧ I (i + 1) (putD acc kk u) H4 else I (i + 1) acc H2)
    {RR : Value → Addr → Result → Shared → Prop}
    (hRR : ∀ D Cn acc H' s' vs m (P : Addr → Prop), s1.heap.get? D = none → s1.heap.get? Cn = none → D ≠ Cn → D ≠ sysModules → C.base.get? D = none → C.base.get? Cn = none → ¬ own env D → ¬ own env Cn → Rep C H' s' → Frm C env ρ H' s' →
      (∀ b, P b → s1.heap.get? b = none) → P D → P Cn → StepP P H1 H' s1 s' → s'.heap.DictOf (intKind C.prog C.w) D vs → F2 RepP acc vs → s'.heap.Ns Cn m → I l.length acc H' → RR (.ref D) Cn (.ok .next) s') :
    wpAny (model C.prog C.w) A (pyIter cv) (fun itv s₂ => wpAny (model C.prog C.w) A newDict (fun accv s₃ => wpAny (model C.prog C.w) A (newFunctionEnv scope env.globals (closL env scope.names []) [] env.qual none .none (some env)) (fun cenv s₄ =>
      codeAny (model C.prog C.w) A (.compStart (.DictComp e e2 [⟨.Name x px, it, ifs, 0⟩] scope pos) 0 itv accv { cenv with scope := relabel scope env }) (RR accv cenv.locals) s₄) E s₃) E s₂) E s1 := by
  obtain ⟨hx, hall⟩ := compOk_all hok
  refine cur_start hl rv ok1.rep fun ob hob hcur => ?_
  have notB : ∀ {a : Addr}, s1.heap.get? a = none → C.base.get? a = none := fun {a} ha => by
    cases q : C.base.get? a with
    | none => rfl
    | some o => rw [ok1.rep.keep a o q] at ha; cases ha
  have notO : ∀ {a : Addr}, s1.heap.get? a = none → ¬ own env a := fun {a} ha q => by obtain ⟨o, ho, _⟩ := F1.own_nf q; rw [ha] at ho; cases ho
  have notH : ∀ {a : Addr}, s1.heap.get? a = none → H1 a = none := fun {a} ha => by
    cases q : H1 a with
    | none => rfl
    | some o => obtain ⟨_, _, ob, h, _⟩ := ok1.rep.obj a o q; rw [ha] at h; cases h
  have big : ∀ a : Addr, s1.heap.objs.size ≤ a → s1.heap.get? a = none := fun a ha => by
    cases q : s1.heap.get? a with
    | none => rfl
    | some o => exact absurd (Heap.lt_size q) (Nat.not_lt.mpr ha)
  refine newDict_at (wpAny_newFunctionEnv (fun y hy => (hall y hy).1) (by intro y hy; simp at hy) (fun h₁ hns₁ hsb₁ => ?_) hkind)
  dsimp only at hns₁ hsb₁ ⊢
  generalize hit : s1.heap.objs.size = it' at hcur hns₁ hsb₁ ⊢
  have szD : (s1.heap.push ob).objs.size = it' + 1 := by rw [Heap.size_push, hit]
  generalize hD : (s1.heap.push ob).objs.size = D at hns₁ hsb₁ ⊢
  generalize hL2 : (s1.heap.push ob).push { cls := .type "dict", data := .dict #[] } = h2 at hns₁ hsb₁ ⊢
  have szC : h2.objs.size = it' + 2 := by rw [← hL2, Heap.size_push, szD]
  generalize hCn : h2.objs.size = Cn at hns₁ hsb₁ ⊢
  have iD : D = it' + 1 := hD.symm.trans szD
  have iC : Cn = it' + 2 := hCn.symm.trans szC
  have it0 : s1.heap.get? it' = none := big _ (by rw [hit]; exact Nat.le_refl _)
  have D0 : s1.heap.get? D = none := big _ (by rw [hit, iD]; exact Nat.le_succ _)
  have C0 : s1.heap.get? Cn = none := big _ (by rw [hit, iC]; exact Nat.le_trans (Nat.le_succ _) (Nat.le_succ _))
  have itD : it' ≠ D := by rw [iD]; exact Nat.ne_of_lt (Nat.lt_succ_self _)
  have itC : it' ≠ Cn := by rw [iC]; exact Nat.ne_of_lt (Nat.lt_succ_of_lt (Nat.lt_succ_self _))
  have DC : D ≠ Cn := by rw [iD, iC]; exact Nat.ne_of_lt (Nat.lt_succ_self _)
  have hDobj : h2.get? D = some { cls := .type "dict", data := .dict #[] } := by rw [← hL2, ← hD]; exact Heap.get?_push_size _ rfl
  have Dm : D ≠ sysModules := by
    rw [iD, ← hit]; intro q
    obtain ⟨om, hom⟩ := Option.ne_none_iff_exists'.mp hc
    have h9 : 2 < s1.heap.objs.size := Heap.lt_size (ok1.rep.keep _ om hom)
    have h8 : s1.heap.objs.size + 1 = 1 := q
    omega
  let P : Addr → Prop := fun b => b = it' ∨ b = D ∨ b = Cn
  have P0 : ∀ b, P b → s1.heap.get? b = none := fun b hb => by rcases hb with rfl | rfl | rfl <;> assumption
  have oldB : ∀ b o, s1.heap.get? b = some o → b ≠ Cn := fun b o e q => by rw [q, C0] at e; cases e
  have up2 : ∀ b o, (s1.heap.push ob).get? b = some o → h2.get? b = some o := fun b o e => hL2 ▸ Heap.get?_push_of_some _ e
  have up : ∀ b o, b ≠ Cn → h2.get? b = some o → h₁.get? b = some o := fun b o hb e => hsb₁.extBut b o hb (Heap.get?_push_of_some _ e)
  have keep1 : ∀ b o, s1.heap.get? b = some o → h₁.get? b = some o := fun b o e => up b o (oldB b o e) (up2 b o (Heap.get?_push_of_some _ e))
  have itHd : ∀ e, A.handled = some (.ref e) → e ≠ it' := fun e he q => by
    rcases ok1.hd with h | ⟨e', o, vs, h1, _, h3, _⟩
    · rw [h] at he; cases he
    · rw [h1] at he; cases he; rw [q, it0] at h3; cases h3
  have okAt : ∀ {s' : Shared} {H' : AHeap}, Rep C H' s' → StepP P H1 H' s1 s' → Ok C n A H' s' := fun r' st' => ok1.stepP (fun b hb => .inl (P0 b hb)) st' r'
  have kx : (compEnvC scope (closL env scope.names []) Cn env).kindOf x = some .local := lookup_relabel_local hx
  have hp : ((compEnvC scope (closL env scope.names []) Cn env).scope.kind == .class || ((compEnvC scope (closL env scope.names []) Cn env).scope.kind == .module && (compEnvC scope (closL env scope.names []) Cn env).locals != (compEnvC scope (closL env scope.names []) Cn env).globals)) = false := by
    show (scope.kind == .class || (scope.kind == .module && _)) = false
    rw [hkind]; rfl
  have loop : ∀ s₃ : Shared, s₃ = { s1 with heap := h₁, toks := s1.toks + ([] : List (Str × Value)).length } →
      codeAny (model C.prog C.w) A (.compLoop (.DictComp e e2 [⟨.Name x px, it, ifs, 0⟩] scope pos) 0 (.ref it') (.ref D) (compEnvC scope (closL env scope.names []) Cn env)) (RR (.ref D) Cn) s₃ := by
    rintro s₃ rfl
    refine codeAny_compLoop_testsD (DcI C env ρ H1 s1 v it' D Cn l.length I P) ?_ (l.length + 1)
      ⟨0, [], H1, [], _, hI0, ok1.rep.grow keep1, F1.step (.grow _ keep1), ⟨fun b o e _ _ => keep1 b o e, fun a ha => .inl ha, fun b hb => notH (P0 b hb)⟩,
        hcur.move (fun _ _ => rfl) (fun o e => up _ o itC (up2 _ o e)), ⟨_, #[], 0, up D _ DC hDobj, ⟨rfl, rfl, rfl⟩, rfl, (fun e he => by simp at he), .nil, .nil⟩, .nil, Nat.le_refl _, hns₁, Nat.zero_le _, rfl⟩
    rintro k s' ⟨i, acc, H', vs, m, hI, r', F', st', hcu, hpl, hacc, hal, hns, hi, rfl⟩
    have ok' := okAt r' st'
    have HP : ∀ b, P b → H' b = none := st'.out
    have hl' : itemsOf H' v = some l := by
      have e := hsrc i acc H' hI
      cases v with
      | ref a => simp only [srcSame] at e; simp only [itemsOf, e] at hl ⊢; exact hl
      | _ => exact hl
    have pI : P it' := .inl rfl
    have pD : P D := .inr (.inl rfl)
    have pC : P Cn := .inr (.inr rfl)
    by_cases hlt : i < l.length
    · refine cur_next hcu hl' r' (List.getElem?_eq_getElem hlt) fun cw h' t rw' hc2 hsb => ?_
      have hnsA : h'.Ns Cn m := hns.sameBut hsb (Ne.symm itC)
      refine wpAny_assign_Name (wpAny_storeName_local (env := compEnvC scope (closL env scope.names []) Cn env) (s := { s' with heap := h', toks := t }) kx hnsA (fun h3 hn3 hs3 => ?_) hp)
      have rb := (r'.but (t := t) (HP _ pI) (notB it0) hsb.extBut).but (t := t + 1) (HP _ pC) (notB C0) hs3.extBut
      have Fb := (F'.but (t := t) (notO it0) hsb.extBut).but (t := t + 1) (notO C0) hs3.extBut
      have stb := (st'.but (t := t) pI hsb.extBut).but (t := t + 1) pC hs3.extBut
      have hplb : h3.DictOf (intKind C.prog C.w) D vs := (hpl.at fun o e => hsb.extBut _ o (Ne.symm itD) e).at fun o e => hs3.extBut _ o DC e
      have curb : Cur H' v it' (i + 1) h3 := hc2.move (fun _ _ => rfl) fun o e => hs3.extBut _ o itC e
      have okb := okAt rb stb
      have Fc := comp_frm Fb hkind hok (HP _ pC) (notB C0) (notO C0) hn3 (if_pos rfl) rw'
      refine wpAny_mono (hturn i acc H' _ hI (List.getElem?_eq_getElem hlt) Cn A _ _ okb Fc) (fun okb' sc ⟨b, H2, eb, rc, stc, qc⟩ => ?_) fun _ _ z => z
      cases eb
      have exI : ∃ o, h3.get? it' = some o := curb.there
      have exD : ∃ o, h3.get? D = some o := let ⟨o, _, _, ho, _⟩ := hplb; ⟨o, ho⟩
      have exC : ∃ o, h3.get? Cn = some o := let ⟨o, _, _, ho, _⟩ := hn3; ⟨o, ho⟩
      have exP : ∀ b, P b → H' b = none ∧ h3.get? b ≠ none := fun b hb => ⟨HP b hb, by
        rcases hb with rfl | rfl | rfl
        · obtain ⟨o, ho⟩ := exI; rw [ho]; intro z; cases z
        · obtain ⟨o, ho⟩ := exD; rw [ho]; intro z; cases z
        · obtain ⟨o, ho⟩ := exC; rw [ho]; intro z; cases z⟩
      cases okb' with
      | false =>
        rw [if_neg Bool.false_ne_true] at qc ⊢
        have stc' := stb.trans (.of exP stc)
        refine ⟨l.length + 1 - (i + 1), by omega, i + 1, acc, H2, vs, _, qc, rc, Fb.step stc, stc', curb.move (fun a ha => ?_) (fun o e => stc.keep _ o e (HP _ pI)), hplb.at fun o e => stc.keep _ o e (HP _ pD), hacc, by omega, Ns.keep1 (L := Cn) hn3 (fun o e => stc.keep _ o e (HP _ pC)), hlt, rfl⟩
        have e1 := hsrc (i + 1) acc H2 qc
        have e2 := hsrc i acc H' hI
        subst ha
        simp only [srcSame] at e1 e2
        rw [e1, e2]
      | true =>
        rw [if_pos rfl] at qc ⊢
        have okc := okb.step stc rc
        refine wpAny_mono (qc A sc okc (Fc.step stc)) (fun ck sk ⟨kv, H3, rk, rd, std, qd⟩ => ?_) fun _ _ z => z.never
        have stk := stc.trans std
        refine wpAny_mono (qd A sk (okb.step stk rd) (Fc.step stk)) (fun cu sd ⟨u, H4, ru, re, ste, qe⟩ => ?_) fun _ _ z => z.never
        obtain ⟨kk, rfl, qe⟩ := qe
        obtain ⟨tk, rfl⟩ := rk
        have std2 := stk.trans ste
        have stcd := stb.trans (.of exP std2)
        have hpld : sd.heap.DictOf (intKind C.prog C.w) D vs := hplb.at fun o e => std2.keep _ o e (HP _ pD)
        have H4P : ∀ b, P b → H4 b = none := stcd.out
        refine wpAny_dictSet_pairs (intKind_is _ _ kk tk) hpld (fun h4 hp4 hs4 => ?_) (by rw [← hacc.length, sizeLine_eq]; omega)
        have hnf := (Ns.keep1 (L := Cn) hn3 fun o e => std2.keep _ o e (HP _ pC)).sameBut hs4 (Ne.symm DC)
        refine ⟨l.length + 1 - (i + 1), by omega, i + 1, putD acc kk u, H4, stored vs kk cu, _, qe, re.but (t := sd.toks + 1) (H4P _ pD) (notB D0) hs4.extBut, (Fb.step std2).but (t := sd.toks + 1) (notO D0) hs4.extBut, stcd.but (t := sd.toks + 1) pD hs4.extBut, ?_, hp4, hacc.putD ru, ?_, hnf, hlt, rfl⟩
        · refine curb.move (fun a ha => ?_) (fun o e => hs4.extBut _ o itD (std2.keep _ o e (HP _ pI)))
          have e1 := hsrc (i + 1) _ H4 qe
          have e2 := hsrc i acc H' hI
          subst ha
          simp only [srcSame] at e1 e2
          rw [e1, e2]
        · have := putD_length acc kk u; omega
    · have hin : i = l.length := by omega
      subst hin
      refine cur_end hcu hl' r' (List.getElem?_eq_none (Nat.le_refl _)) ok'.hdOk itHd fun h' hx' => ?_
      exact hRR D Cn acc H' _ vs m P D0 C0 DC Dm (notB D0) (notB C0) (notO D0) (notO C0) (r'.but (t := s'.toks) (HP _ pI) (notB it0) hx') (F'.but (t := s'.toks) (notO it0) hx') P0 pD pC (st'.but (t := s'.toks) pI hx')
        (hpl.at fun o e => hx' _ o (Ne.symm itD) e) hacc (hns.extBut hx' (Ne.symm itC)) hI
  refine codeAny_compStart_dict (loop _ rfl) ?_
  exact cur_self (v := v) (H := H1) (i := 0) (hcur.move (fun _ _ => rfl) (fun o e => up _ o itC (up2 _ o e))) (loop _ rfl)
end
end Mine
end
section
open PySem PySem.W PyProof.Rows PySem.Calls
namespace Mine
section
variable {prog : Program} {w : World} {A : Around} {s : Shared} {E : Value → Shared → Prop}
theorem next_end_tuple {it t : Addr} {i : Nat} {items : Array Value} {Q : Option Value → Shared → Prop} (hh : HdOk A s.heap) (hne : ∀ e, A.handled = some (.ref e) → e ≠ it)
    (hit : IsTupIter s.heap it t i) (ht : IsTup s.heap t items) (hx : items[i]? = none)
    (hQ : ∀ h', Heap.ExtBut it s.heap h' → Q none { s with heap := h' }) : wpAny (model prog w) A (pyNext (.ref it)) Q E s := by
  obtain ⟨o, ho, hc, hd⟩ := id hit
  obtain ⟨ol, hol, _, nl, hdl⟩ := ht
  unfold pyNext
  refine wpAny_bind (wpAny_attempt (wpAny_callSpecial?_slot (name := Str.ofString "__next__") hit.typeIs slot_tupleiter_next
    (wpAny_call_entry slot_tupleiter_next hit.typeIs entry_tupleiter_next ?_ (args_tupleiter_next _))))
  show wpAny _ _ (field (.ref it) 0 >>= _) _ _ s
  refine wpAny_bind (wpAny_field ho hd (x := .ref t) rfl ?_)
  show wpAny _ _ (if (Value.ref t == Value.none) = true then _ else _) _ _ s
  rw [if_neg (show ¬ ((Value.ref t == Value.none) = true) from Bool.false_ne_true)]
  show wpAny _ _ (field (.ref it) 1 >>= _) _ _ s
  refine wpAny_bind (wpAny_field ho hd (x := .int i 0) rfl ?_)
  show wpAny _ _ (seqItems? (.ref t) >>= _) _ _ s
  refine wpAny_bind (wpAny_seqItems hol hdl ?_)
  simp only [Int.toNat_natCast, hx]
  refine wpAny_bind (wpAny_rule (wpAny_bind (wpAny_setField ho hd (by simp) ?_)))
  refine stopRaise (hh.upd hne) fun x h' hk hx' => ?_
  refine wpAny_bind (wpAny_isInstance (T := "StopIteration") (b := true) hx' isSubtype_stop ?_)
  exact wpAny_pure (hQ _ fun b o hb e => hk b o (((Heap.SameBut.update ..).extBut) b o hb e))
theorem HdOk.ne_size (hh : HdOk A s.heap) : ∀ e, A.handled = some (.ref e) → e ≠ s.heap.objs.size := fun e he q => by
  rcases hh with h | ⟨e', o, vs, h1, h3, _⟩
  · rw [h] at he; cases he
  · rw [h1] at he; cases he; exact absurd (Heap.lt_size h3) (by rw [q]; exact Nat.lt_irrefl _)
theorem HdOk.ext {h h' : Heap} {it : Addr} (x : HdOk A h) (hne : ∀ e, A.handled = some (.ref e) → e ≠ it) (k : Heap.ExtBut it h h') : HdOk A h' :=
  x.imp id fun ⟨e, o, vs, h1, h3, h4, h5⟩ => ⟨e, o, vs, h1, k e o (hne e h1) h3, h4, h5⟩
theorem unpackTup {t : Addr} {items : Array Value} {Q : List Value → Shared → Prop} (hh : HdOk A s.heap) (ht : IsTup s.heap t items)
    (hQ : ∀ h', Heap.ExtBut s.heap.objs.size s.heap h' → Q items.toList { s with heap := h' }) : wpAny (model prog w) A (unpackItems (.ref t) items.size none) Q E s := by
  have hlt : t ≠ s.heap.objs.size := by obtain ⟨o, ho, _⟩ := ht; exact Nat.ne_of_lt (Heap.lt_size ho)
  unfold unpackItems
  refine wpAny_bind ?_
  unfold notIterableAtAll
  refine wpAny_bind (wpAny_specialOf ht.typeIs slot_tuple_iter.lookup ?_)
  refine wpAny_pure ?_
  simp only [Bool.false_eq_true, if_false]
  refine wpAny_bind (wpAny_holding (iter_tuple ht ?_))
  refine wpAny_bind (wpAny_holding (draw_tuple hlt items.size 0 _ _ ⟨_, Heap.get?_push_size _ rfl, rfl, rfl⟩ (ht.push _) (by omega) fun h₁ hit₁ hs₁ => ?_))
  have hall : List.take items.size (List.drop 0 items.toList) = items.toList := by
    rw [List.drop_zero]; exact List.take_of_length_le (by simp)
  rw [hall]
  rw [if_neg (by simp)]
  have ht₁ : IsTup h₁ t items := (ht.push _).extBut hs₁.extBut hlt
  have k1 : Heap.ExtBut s.heap.objs.size s.heap h₁ := fun b o hb e => hs₁.extBut b o hb (Heap.get?_push_of_some _ e)
  refine wpAny_bind (wpAny_holding (next_end_tuple (s := { s with heap := h₁ }) (hh.ext hh.ne_size k1) hh.ne_size hit₁ ht₁ (by simp) fun h₂ he₂ => ?_))
  simp only [Option.isSome_none, Bool.false_eq_true, if_false]
  exact wpAny_pure (hQ h₂ fun b o hb e => he₂ b o hb (k1 b o hb e))
theorem unpackLst {l : Addr} {items : Array Value} {Q : List Value → Shared → Prop} (hh : HdOk A s.heap) (hl : s.heap.IsList l items)
    (hQ : ∀ h', Heap.ExtBut s.heap.objs.size s.heap h' → Q items.toList { s with heap := h' }) : wpAny (model prog w) A (unpackItems (.ref l) items.size none) Q E s := by
  have hlt : l ≠ s.heap.objs.size := by obtain ⟨o, ho, _⟩ := hl; exact Nat.ne_of_lt (Heap.lt_size ho)
  unfold unpackItems
  refine wpAny_bind ?_
  unfold notIterableAtAll
  refine wpAny_bind (wpAny_specialOf hl.typeIs slot_list_iter.lookup ?_)
  refine wpAny_pure ?_
  simp only [Bool.false_eq_true, if_false]
  refine wpAny_bind (wpAny_holding (wpAny_pyIter_list hl ?_))
  refine wpAny_bind (wpAny_holding (kun_draw hlt items.size 0 _ _ ⟨_, Heap.get?_push_size _ rfl, rfl, rfl⟩ (hl.push _) (by omega) fun h₁ hit₁ hs₁ => ?_))
  have hall : List.take items.size (List.drop 0 items.toList) = items.toList := by
    rw [List.drop_zero]; exact List.take_of_length_le (by simp)
  rw [hall]
  rw [if_neg (by simp)]
  have hl₁ : h₁.IsList l items := (hl.push _).extBut hs₁.extBut hlt
  have k1 : Heap.ExtBut s.heap.objs.size s.heap h₁ := fun b o hb e => hs₁.extBut b o hb (Heap.get?_push_of_some _ e)
  refine wpAny_bind (wpAny_holding (next_end_list (s := { s with heap := h₁ }) (hh.ext hh.ne_size k1) hh.ne_size hit₁ hl₁ (by simp) fun h₂ he₂ => ?_))
  simp only [Option.isSome_none, Bool.false_eq_true, if_false]
  exact wpAny_pure (hQ h₂ fun b o hb e => he₂ b o hb (k1 b o hb e))
end
theorem extSize {h h' : Heap} (k : Heap.ExtBut h.objs.size h h') : ∀ b o, h.get? b = some o → h'.get? b = some o := fun b o e => k b o (Nat.ne_of_lt (Heap.lt_size e)) e
section
variable {C : Cfg} {n : Nat} {X : AHeap → Prop} {env : Env} {ρ : Loc} {H : AHeap}
theorem unpack_abs {A : Around} {E : Value → Shared → Prop} {s : Shared} {v : AV} {cv : Value} {k : Nat} {K : List AV → Prop} {Q : List Value → Shared → Prop} (ok : Ok C n A H s) (rv : RepV v cv) (hu : unpackOf H v k K)
    (h : ∀ vs l h', K l → l.length = k → F2 RepV l vs → (∀ b o, s.heap.get? b = some o → h'.get? b = some o) → Q vs { s with heap := h' }) : wpAny (model C.prog C.w) A (unpackItems cv k none) Q E s := by
  obtain ⟨a, l, rfl, ha, hl, hK⟩ := hu
  cases rv
  rcases ha with ha | ha
  · obtain ⟨_, _, ob, ho, h1, vs, m, h2, h3⟩ := ok.rep.obj a _ ha
    have e : k = vs.toArray.size := by rw [List.size_toArray, ← h3.length, hl]
    rw [e]
    exact unpackTup ok.hdOk ⟨ob, ho, h1, m, h2⟩ fun h' hk => by simpa using h vs l h' hK hl h3 (extSize hk)
  · obtain ⟨vs, h1, h3⟩ := isList_of ok.rep ha
    have e : k = vs.toArray.size := by rw [List.size_toArray, ← h3.length, hl]
    rw [e]
    exact unpackLst ok.hdOk h1 fun h' hk => by simpa using h vs l h' hK hl h3 (extSize hk)
theorem isSt_of {x : Str} (h : isSt env.scope.names x = true) : env.kindOf x = some .local ∨ env.kindOf x = some .cell := by
  unfold isSt at h
  rw [Bool.or_eq_true, beq_iff_eq, beq_iff_eq] at h
  exact h
theorem assignNames {A : Around} {E : Value → Shared → Prop} : ∀ {xs : List Str} {hs : List PySem.Expr} {l : List AV} {vs : List Value} {ρ : Loc} {s : Shared}, (∀ x ∈ xs, isSt env.scope.names x = true) → F2 RepV l vs → l.length = xs.length → Rep C H s → Frm C env ρ H s →
    wpAny (model C.prog C.w) A (assignInOrder ((assignEach (nmEs xs hs) env).map (·.2)) vs) (fun _ s' => Rep C H s' ∧ Frm C env (upds ρ xs l) H s' ∧ StepO env H H s s') E s
  | [], _, _, _, ρ, s, _, .nil, _, r, F => wpAny_pure ⟨r, F, StepO.refl F⟩
  | [], _, _, _, ρ, s, _, .cons _ _, hl, r, F => nomatch hl
  | x :: xs, hs, _, _, ρ, s, _, .nil, hl, r, F => nomatch hl
  | x :: xs, hs, _, _, ρ, s, hc, .cons hv hf, hl, r, F => by
    refine assignInOrder_cons (wpAny_assign_Name (F.store r (isSt_of (hc x (.head _))) hv fun s' r' F' so => ?_))
    exact wpAny_mono (assignNames (fun y hy => hc y (.tail _ hy)) hf (Nat.succ.inj hl) r' F') (fun _ s2 ⟨r2, F2, so2⟩ => ⟨r2, F2, so.trans so2⟩) fun _ _ z => z
theorem names_each : ∀ {xs : List Str} {hs : List PySem.Expr}, (assignEach (nmEs xs hs) env).length = xs.length ∧ (assignEach (nmEs xs hs) env).findIdx? (·.1) = none
  | [], _ => ⟨rfl, rfl⟩
  | x :: xs, hs => by
    obtain ⟨h1, h2⟩ := names_each (xs := xs) (hs := hs.tail)
    have e : assignEach (nmEs (x :: xs) hs) env = (false, assign (.Name x (hs.headD default).pos) env) :: assignEach (nmEs xs hs.tail) env := rfl
    rw [e]
    refine ⟨congrArg (· + 1) h1, ?_⟩
    rw [List.findIdx?_cons, h2]
    rfl
theorem asgName {x : Str} {p : Pos} (h : isSt env.scope.names x = true) : AsgOk C n env (.Name x p) fun ρ _ w K => K (upd ρ x w) :=
  fun ρ H w K A E s cw ok F rw' hK => wpAny_assign_Name (F.store ok.rep (isSt_of h) rw' fun s' r' F' so => ⟨_, hK, r', F', so⟩)
theorem asgTup {xs : List Str} {hs : List PySem.Expr} {k : Nat} {p : Pos} (h : ∀ x ∈ xs, isSt env.scope.names x = true) : AsgOk C n env (.Tuple (nmEs xs hs) k p) fun ρ H w K => unpackOf H w xs.length fun l => K (upds ρ xs l) := by
  intro ρ H w K A E s cw ok F rw' hK
  rw [assign_Tuple]
  obtain ⟨h1, h2⟩ := names_each (env := env) (xs := xs) (hs := hs)
  refine wpAny_bind (wpAny_standAt ?_)
  unfold unpack
  rw [h1, h2]
  refine wpAny_bind (wpAny_holding (unpack_abs ok rw' hK fun vs l h' hk hl hf kp => ?_))
  refine wpAny_mono (assignNames h hf hl (ok.rep.grow kp) (F.step (.grow _ kp))) (fun _ s2 ⟨r2, F2, so2⟩ => ⟨_, hk, r2, F2, (StepO.of F (.grow _ kp)).trans so2⟩) fun _ _ z => z
theorem plain_sw {ns : List Str} {pe : PE} {h : PySem.Expr} (hp : plainPE pe = true) (t : Option PySem.Expr) (line : Nat) : swapsWith (toE ns pe h) t line env = pure false := by
  cases pe <;> first | rfl | cases hp
theorem jAssign {x : Str} {p pos : Pos} {v : PySem.Expr} {Q : AF → Loc → AHeap → Prop} {Q1 : AV → AHeap → Prop} (hx : isSt env.scope.names x = true) (hs : swapsWith v (some (.Name x p)) pos.line env = pure false)
    (h1 : JE C n X env v ρ H Q1) (h2 : ∀ v H1, Q1 v H1 → Q .next (upd ρ x v) H1) : JS C n X env (.Assign [.Name x p] v pos) ρ H Q := by
  intro A s ok F tA
  refine wpAny_Assign_Name (goO (h1 A s ok F) F (StepO.refl F) fun cv v s1 H1 rv r1 st1 so1 q1 => ?_) hs
  exact (F.step st1).store r1 (isSt_of hx) rv fun s' r' F' so => ⟨.next, _, H1, rfl, r', F', so1.trans so, h2 v H1 q1⟩
theorem jAssignT {xs : List Str} {hs : List PySem.Expr} {k : Nat} {p pos : Pos} {ns : List Str} {pe : PE} {h : PySem.Expr} {Q : AF → Loc → AHeap → Prop} {Q1 : AV → AHeap → Prop} (hx : ∀ x ∈ xs, isSt env.scope.names x = true) (hn : plainPE pe = true) (ht : noTup pe = true)
    (h1 : JE C n X env (toE ns pe h) ρ H Q1) (h2 : ∀ v H1, Q1 v H1 → unpackOf H1 v xs.length fun l => Q .next (upds ρ xs l) H1) : JS C n X env (.Assign [.Tuple (nmEs xs hs) k p] (toE ns pe h) pos) ρ H Q := by
  intro A s ok F tA
  refine Assign_Tuple (goO (h1 A s ok F) F (StepO.refl F) fun cv v s1 H1 rv r1 st1 so1 q1 => ?_) (show swapsWithSole [.Tuple (nmEs xs hs) k p] (toE ns pe h) pos.line env = pure false by unfold swapsWithSole; exact plain_sw hn _ _) ?_
  · refine wpAny_mono (asgTup hx ρ H1 v (fun ρ' => Q .next ρ' H1) A _ s1 cv (ok.step st1 r1) (F.step st1) rv (h2 v H1 q1)) (fun _ s2 ⟨ρ', hK, r2, F2, so2⟩ => ?_) fun _ _ z => z
    exact ⟨.next, ρ', H1, rfl, r2, F2, so1.trans so2, hK⟩
  · cases pe <;> first | rfl | cases ht
theorem upds_out : ∀ {xs : List Str} {l : List AV} {ρ : Loc} {y : Str}, y ∉ xs → upds ρ xs l y = ρ y
  | [], _, _, _, _ => by unfold upds; rfl
  | _ :: _, [], _, _, _ => rfl
  | x :: xs, v :: l, ρ, y, h => by
    unfold upds
    rw [upds_out fun q => h (.tail _ q)]
    exact if_neg fun (q : y = x) => h (by rw [q]; exact .head _)
theorem upds_upd {x : Str} {v : AV} : ∀ {xs : List Str} {l : List AV} {ρ : Loc}, x ∉ xs → upds (upd ρ x v) xs l = upd (upds ρ xs l) x v
  | [], _, _, _ => by unfold upds; rfl
  | _ :: _, [], _, _ => rfl
  | y :: xs, w :: l, ρ, h => by
    have hne : y ≠ x := fun q => h (q ▸ .head _)
    have e : upd (upd ρ x v) y w = upd (upd ρ y w) x v := by
      funext z
      simp only [upd]
      by_cases h1 : z = y
      · subst h1; simp [hne]
      · simp [h1]
    unfold upds
    rw [e, upds_upd fun q => h (.tail _ q)]
theorem upds_snoc {x : Str} {v : AV} : ∀ {xs : List Str} {l : List AV} {ρ : Loc}, xs.length = l.length → upds ρ (xs ++ [x]) (l ++ [v]) = upd (upds ρ xs l) x v
  | [], [], _, _ => rfl
  | [], _ :: _, _, h => by simp at h
  | _ :: _, [], _, h => by simp at h
  | y :: xs, w :: l, ρ, h => by
    show upds (upd ρ y w) (xs ++ [x]) (l ++ [v]) = _
    rw [upds_snoc (by simpa using h)]
    rfl
theorem upds_reverse : ∀ {xs : List Str} {l : List AV} {ρ : Loc}, xs.Nodup → xs.length = l.length → upds ρ xs.reverse l.reverse = upds ρ xs l
  | [], [], _, _, _ => rfl
  | [], _ :: _, _, _, h => by simp at h
  | _ :: _, [], _, _, h => by simp at h
  | x :: xs, v :: l, ρ, hn, h => by
    rw [List.nodup_cons] at hn
    rw [List.reverse_cons, List.reverse_cons, upds_snoc (by simpa using h), upds_reverse hn.2 (by simpa using h)]
    show _ = upds (upd ρ x v) xs l
    rw [upds_upd hn.1]
theorem bindNames {A : Around} {E : Value → Shared → Prop} : ∀ {xs : List Str} {l : List AV} {vs : List Value} {ρ : Loc} {s : Shared}, (∀ x ∈ xs, isSt env.scope.names x = true) → F2 RepV l vs → l.length = xs.length → Rep C H s → Frm C env ρ H s →
    wpAny (model C.prog C.w) A (assignInOrder (xs.map fun n => bindName env n) vs) (fun _ s' => Rep C H s' ∧ Frm C env (upds ρ xs l) H s' ∧ StepO env H H s s') E s
  | [], _, _, ρ, s, _, hf, hl, r, F => by
    cases hf with
    | nil => exact wpAny_pure ⟨r, F, StepO.refl F⟩
    | cons _ _ => simp at hl
  | x :: xs, l, vs, ρ, s, hc, hf, hl, r, F => by
    cases hf with
    | nil => simp at hl
    | @cons v cv l vs hv hf =>
      refine assignInOrder_cons (wpAny_bindName (F.store r (isSt_of (hc x (.head _))) hv fun s' r' F' so => ?_))
      exact wpAny_mono (bindNames (fun y hy => hc y (.tail _ hy)) hf (by simpa using hl) r' F') (fun _ s2 ⟨r2, F2, so2⟩ => ⟨r2, F2, so.trans so2⟩) fun _ _ z => z
theorem F2.append {α β : Type} {R : α → β → Prop} {l l' : List α} {m m' : List β} (h : F2 R l m) (h' : F2 R l' m') : F2 R (l ++ l') (m ++ m') := by
  induction h with
  | nil => exact h'
  | cons h1 _ ih => exact .cons h1 ih
theorem F2.reverse {α β : Type} {R : α → β → Prop} {l : List α} {m : List β} (h : F2 R l m) : F2 R l.reverse m.reverse := by
  induction h with
  | nil => exact .nil
  | cons h1 _ ih => rw [List.reverse_cons, List.reverse_cons]; exact ih.snoc h1
end
end Mine
end
section
open PySem PySem.W PyProof.Rows PySem.Calls
namespace Mine
theorem filterMap_names {f : PySem.Expr → Option Str} (hf : ∀ y p, f (.Name y p) = some y ∨ f (.Name y p) = none) : ∀ {xs : List Str} {hs : List PySem.Expr}, ((nmEs xs hs).filterMap f).length = (nmEs xs hs).length → (nmEs xs hs).filterMap f = xs
  | [], _, _ => rfl
  | x :: xs, hs, hl => by
    have e0 : nmEs (x :: xs) hs = .Name x (hs.headD default).pos :: nmEs xs hs.tail := rfl
    rw [e0] at hl ⊢
    rcases hf x (hs.headD default).pos with e | e
    · rw [List.filterMap_cons, e] at hl ⊢
      exact congrArg (x :: ·) (filterMap_names hf (Nat.succ.inj hl))
    · rw [List.filterMap_cons, e] at hl
      exact absurd hl (Nat.ne_of_lt (Nat.lt_succ_of_le (List.length_filterMap_le f _)))
theorem swapped_cases {env : Env} {xs : List Str} {hs vs : List PySem.Expr} {k k2 : Nat} {p p2 : Pos} (hv : (!(vs.all (constantsAlone 8)) || vs.all (foldedForSure 8)) = true) :
    swappedStores [.Tuple (nmEs xs hs) k p] (.Tuple vs k2 p2) env = pure none ∨ swappedStores [.Tuple (nmEs xs hs) k p] (.Tuple vs k2 p2) env = pure (some xs) := by
  unfold swappedStores
  dsimp only
  split
  · exact .inl rfl
  split
  · exact .inl rfl
  split
  · exact .inl rfl
  rename_i h1 h2 h3
  split
  · exact .inl rfl
  rename_i h4
  split
  · rename_i h5
    rw [h5] at hv
    exact absurd hv h4
  · right
    refine congrArg (fun z => pure (some z)) (filterMap_names (fun y q => ?_) ?_)
    · dsimp only
      split
      · exact .inl rfl
      · exact .inr rfl
    · simp only [Bool.or_eq_true, bne_iff_ne, ne_eq, not_or, Decidable.not_not] at h3
      exact h3.1
theorem nodup_of_eraseDups : ∀ {xs : List Str}, xs.eraseDups.length = xs.length → xs.Nodup
  | [], _ => .nil
  | x :: xs, h => by
    rw [List.eraseDups_cons] at h
    simp only [List.length_cons, Nat.add_right_cancel_iff] at h
    have h1 : (xs.filter fun b => !b == x).eraseDups.length ≤ (xs.filter fun b => !b == x).length := by
      have : ∀ l : List Str, l.eraseDups.length ≤ l.length := fun l => by
        induction hl : l.length using Nat.strongRecOn generalizing l with
        | ind m ih =>
          cases l with
          | nil => simp
          | cons a r =>
            rw [List.eraseDups_cons, List.length_cons]
            have hr : (r.filter fun b => !b == a).length ≤ r.length := List.length_filter_le _ _
            simp only [List.length_cons] at hl
            have := ih _ (by omega) (r.filter fun b => !b == a) rfl
            omega
      exact this _
    have h2 : (xs.filter fun b => !b == x).length ≤ xs.length := List.length_filter_le _ _
    have h3 : (xs.filter fun b => !b == x).length = xs.length := by omega
    have h4 : xs.filter (fun b => !b == x) = xs := (List.filter_sublist.eq_of_length h3)
    rw [h4] at h
    rw [List.nodup_cons]
    refine ⟨fun hm => ?_, nodup_of_eraseDups h⟩
    have hm2 : x ∈ xs.filter (fun b => !b == x) := by rw [h4]; exact hm
    have := (List.mem_filter.mp hm2).2
    simp at this
section
variable {C : Cfg} {n : Nat} {X : AHeap → Prop} {env : Env} {ρ : Loc} {H : AHeap}
theorem jAssignTT {xs : List Str} {hs vs : List PySem.Expr} {k k2 : Nat} {p p2 pos : Pos} {Q : AF → Loc → AHeap → Prop} {Q1 : List AV → AHeap → Prop} (hx : ∀ x ∈ xs, isSt env.scope.names x = true)
    (hv : (!(vs.all (constantsAlone 8)) || vs.all (foldedForSure 8)) = true) (hd : xs.eraseDups.length = xs.length)
    (h1 : JEs C n X env vs ρ H Q1) (h2 : ∀ l H1, Q1 l H1 → l.length = xs.length ∧ l.length ≤ 1000 ∧ Q .next (upds ρ xs l) H1) : JS C n X env (.Assign [.Tuple (nmEs xs hs) k p] (.Tuple vs k2 p2) pos) ρ H Q := by
  intro A s ok F tA
  have hnd := nodup_of_eraseDups hd
  have tup : ∀ (cvs : List Value) (l : List AV) (s1 : Shared) (H1 : AHeap), F2 RepV l cvs → Rep C H1 s1 → Step H H1 s s1 → l.length ≤ 1000 → ∀ {Q : Value → Shared → Prop} {E : Value → Shared → Prop},
      Q (.ref s1.heap.objs.size) { s1 with heap := s1.heap.push { cls := .type "tuple", data := .seq cvs.toArray } } → wpAny (model C.prog C.w) A (newTuple cvs) Q E s1 := fun cvs l s1 H1 hf r1 st1 hl Q E hQ => by
    refine wpAny_newObj_type hQ ?_
    show cvs.toArray.size ≤ sizeLine
    have := hf.length; rw [List.size_toArray, sizeLine_eq]; omega
  rcases swapped_cases (xs := xs) (hs := hs) (k := k) (k2 := k2) (p := p) (p2 := p2) hv with e | e
  · refine Assign_Tuple ?_ (by unfold swapsWithSole; rfl) e
    refine Tuple_ (goO (h1 p2 A s ok F) F (StepO.refl F) fun cvs l s1 H1 hf r1 st1 so1 q1 => ?_)
    obtain ⟨g1, g2, g3⟩ := h2 l H1 q1
    refine tup cvs l s1 H1 hf r1 st1 g2 ?_
    rw [assign_Tuple]
    obtain ⟨c1, c2⟩ := names_each (env := env) (xs := xs) (hs := hs)
    refine wpAny_bind (wpAny_standAt ?_)
    unfold unpack
    rw [c1, c2]
    have kp : ∀ b o, s1.heap.get? b = some o → (s1.heap.push { cls := .type "tuple", data := .seq cvs.toArray }).get? b = some o := fun b o e => Heap.get?_push_of_some _ e
    have okp := (ok.step st1 r1).step (.grow (t := s1.toks) _ kp) (r1.grow (t := s1.toks) kp)
    have e2 : xs.length = cvs.toArray.size := by rw [List.size_toArray, ← hf.length, g1]
    refine wpAny_bind (wpAny_holding ?_)
    rw [e2]
    refine unpackTup okp.hdOk ⟨_, Heap.get?_push_size _ rfl, rfl, 0, rfl⟩ fun h' hk => ?_
    have kp2 : ∀ b o, s1.heap.get? b = some o → h'.get? b = some o := fun b o e => extSize hk b o (kp b o e)
    refine wpAny_mono (assignNames hx (l := l) (vs := cvs.toArray.toList) (by simpa using hf) g1 (r1.grow (t := s1.toks) kp2) ((F.step st1).step (.grow (t := s1.toks) _ kp2))) (fun _ s2 ⟨r2, F2', so2⟩ => ?_) fun _ _ z => z
    exact ⟨.next, _, H1, rfl, r2, F2', so1.trans ((StepO.of (F.step st1) (.grow (t := s1.toks) _ kp2)).trans so2), g3⟩
  · refine Assign_Tuple_swapped ?_ (by unfold swapsWithSole; rfl) e
    refine Tuple_ (goO (h1 p2 A s ok F) F (StepO.refl F) fun cvs l s1 H1 hf r1 st1 so1 q1 => ?_)
    obtain ⟨g1, g2, g3⟩ := h2 l H1 q1
    refine tup cvs l s1 H1 hf r1 st1 g2 ?_
    have kp : ∀ b o, s1.heap.get? b = some o → (s1.heap.push { cls := .type "tuple", data := .seq cvs.toArray }).get? b = some o := fun b o e => Heap.get?_push_of_some _ e
    have okp := (ok.step st1 r1).step (.grow (t := s1.toks) _ kp) (r1.grow (t := s1.toks) kp)
    have e2 : xs.length = cvs.toArray.size := by rw [List.size_toArray, ← hf.length, g1]
    rw [e2]
    refine unpackTup okp.hdOk ⟨_, Heap.get?_push_size _ rfl, rfl, 0, rfl⟩ fun h' hk => ?_
    have kp2 : ∀ b o, s1.heap.get? b = some o → h'.get? b = some o := fun b o e => extSize hk b o (kp b o e)
    have hst : ∀ x ∈ xs.reverse, isSt env.scope.names x = true := fun x hm => hx x (List.mem_reverse.mp hm)
    refine wpAny_mono (bindNames (l := l.reverse) (vs := cvs.toArray.toList.reverse) hst (by simpa using hf.reverse) (by simpa using g1) (r1.grow (t := s1.toks) kp2) ((F.step st1).step (.grow (t := s1.toks) _ kp2))) (fun _ s2 ⟨r2, F2', so2⟩ => ?_) fun _ _ z => z
    rw [upds_reverse hnd g1.symm] at F2'
    exact ⟨.next, _, H1, rfl, r2, F2', so1.trans ((StepO.of (F.step st1) (.grow (t := s1.toks) _ kp2)).trans so2), g3⟩
theorem jSetAttr {a h : PySem.Expr} {ns : List Str} {pe : PE} {f : Str} {p pos : Pos} {Q : AF → Loc → AHeap → Prop} {Q1 : AV → AHeap → Prop} {Q2 : AV → AV → AHeap → Prop} (hn : plainPE pe = true)
    (h1 : JE C n X env (toE ns pe h) ρ H Q1) (h2 : ∀ v H1, Q1 v H1 → JE C n X env a ρ H1 (Q2 v)) (h3 : ∀ v o H2, Q2 v o H2 → PSetAttr C n o f v H2 fun H3 => Q .next ρ H3) : JS C n X env (.Assign [.Attribute a f p] (toE ns pe h) pos) ρ H Q := by
  intro A s ok F tA
  refine plainObj_wpAny_Assign_Attribute (goO (h1 A s ok F) F (StepO.refl F) fun cv v s1 H1 rv r1 st1 so1 q1 => ?_) (plain_sw hn _ _)
  refine goO (h2 v H1 q1 A s1 (ok.step st1 r1) (F.step st1)) (F.step st1) so1 fun co o s2 H2 ro r2 st2 so2 q2 => ?_
  have F2' := (F.step st1).step st2
  refine wpAny_mono (h3 v o H2 q2 co cv ro rv A _ s2 ((ok.step st1 r1).step st2 r2)) (fun _ s3 ⟨_, H3, _, r3, st3, q3⟩ => ?_) fun _ _ z => z
  exact ⟨.next, ρ, H3, rfl, r3, F2'.step st3, so2.trans (StepO.of F2' st3), q3⟩
theorem jSetSub {a i h : PySem.Expr} {ns : List Str} {pe : PE} {p pos : Pos} {Q : AF → Loc → AHeap → Prop} {Q1 : AV → AHeap → Prop} {Q2 : AV → AV → AHeap → Prop} {Q3 : AV → AV → AV → AHeap → Prop} (hn : plainPE pe = true)
    (h1 : JE C n X env (toE ns pe h) ρ H Q1) (h2 : ∀ v H1, Q1 v H1 → JE C n X env a ρ H1 (Q2 v)) (h3 : ∀ v o H2, Q2 v o H2 → JE C n X env i ρ H2 (Q3 v o)) (h4 : ∀ v o j H3, Q3 v o j H3 → PSetSub C n o j v H3 fun H4 => Q .next ρ H4) :
    JS C n X env (.Assign [.Subscript a i p] (toE ns pe h) pos) ρ H Q := by
  intro A s ok F tA
  refine wpAny_Assign_Subscript (goO (h1 A s ok F) F (StepO.refl F) fun cv v s1 H1 rv r1 st1 so1 q1 => ?_) (plain_sw hn _ _)
  refine goO (h2 v H1 q1 A s1 (ok.step st1 r1) (F.step st1)) (F.step st1) so1 fun co o s2 H2 ro r2 st2 so2 q2 => ?_
  have F2' := (F.step st1).step st2
  have ok2 := (ok.step st1 r1).step st2 r2
  refine goO (h3 v o H2 q2 A s2 ok2 F2') F2' so2 fun ci j s3 H3 ri r3 st3 so3 q3 => ?_
  have F3' := F2'.step st3
  refine wpAny_mono (h4 v o j H3 q3 co ci cv ro ri rv A _ s3 (ok2.step st3 r3)) (fun _ s4 ⟨_, H4, _, r4, st4, q4⟩ => ?_) fun _ _ z => z
  exact ⟨.next, ρ, H4, rfl, r4, F3'.step st4, so3.trans (StepO.of F3' st4), q4⟩
theorem jExpr {h : PySem.Expr} {ns : List Str} {pe : PE} {pos : Pos} {Q : AF → Loc → AHeap → Prop} {Q1 : AV → AHeap → Prop} (hn : plainPE pe = true) (h1 : JE C n X env (toE ns pe h) ρ H Q1) (h2 : ∀ v H1, Q1 v H1 → Q .next ρ H1) : JS C n X env (.Expr (toE ns pe h) pos) ρ H Q := by
  intro A s ok F tA
  refine wpAny_Expr_any (goO (h1 A s ok F) F (StepO.refl F) fun cv v s1 H1 rv r1 st1 so1 q1 => ⟨.next, ρ, H1, rfl, r1, F.step st1, so1, h2 v H1 q1⟩) ?_ (plain_sw hn _ _)
  unfold interactive
  rw [F.kind]; rfl
theorem jRet {v : PySem.Expr} {pos : Pos} {Q : AF → Loc → AHeap → Prop} {Q1 : AV → AHeap → Prop} (h1 : JE C n X env v ρ H Q1) (h2 : ∀ v H1, Q1 v H1 → Q (.ret v) ρ H1) : JS C n X env (.Return (some v) pos) ρ H Q :=
  fun A s ok F tA => wpAny_Return_some (goO (h1 A s ok F) F (StepO.refl F) fun cv v s1 H1 rv r1 st1 so1 q1 => ⟨.ret v, ρ, H1, ⟨cv, rfl, rv⟩, r1, F.step st1, so1, h2 v H1 q1⟩)
theorem jCont {pos : Pos} {Q : AF → Loc → AHeap → Prop} (h : Q .cont ρ H) : JS C n X env (.Continue pos) ρ H Q :=
  fun A s ok F tA => wpAny_Continue ⟨.cont, ρ, H, rfl, ok.rep, F, StepO.refl F, h⟩
theorem contS {A : Around} {s s1 : Shared} {H1 : AHeap} {ρ1 : Loc} {body : List PySem.Stmt} {Q : AF → Loc → AHeap → Prop} (h : JSs C n X env body ρ1 H1 Q) (ok : Ok C n A H s) (F : Frm C env ρ H s) (r1 : Rep C H1 s1) (F1 : Frm C env ρ1 H1 s1) (so : StepO env H H1 s s1) (tA : TopA A env) :
    wpAny (model C.prog C.w) A (execs body env) (QS C env H s Q) (XPO C A env H s X) s1 :=
  wpAny_mono (h A s1 (ok.stepO F F1 so r1) F1 tA) (fun _ _ ⟨af, ρ2, H2, rf, r2, F2', so2, q2⟩ => ⟨af, ρ2, H2, rf, r2, F2', so.trans so2, q2⟩) fun _ _ z => z.pre so
theorem jIfS {t : PySem.Expr} {a b : List PySem.Stmt} {pos : Pos} {Q : AF → Loc → AHeap → Prop} {Q1 : Bool → AHeap → Prop} (h1 : JT C n X env t ρ H Q1) (h2 : ∀ H1, Q1 true H1 → JSs C n X env a ρ H1 Q) (h3 : ∀ H1, Q1 false H1 → JSs C n X env b ρ H1 Q) :
    JS C n X env (.If t a b pos) ρ H Q := by
  intro A s ok F tA
  refine wpAny_If (goO (h1 A s ok F) F (StepO.refl F) fun c b' s1 H1 rb r1 st1 so1 q1 => ?_)
  cases rb
  cases c with
  | true => rw [if_pos rfl]; exact contS (h2 H1 q1) ok F r1 (F.step st1) so1 tA
  | false => rw [if_neg Bool.false_ne_true]; exact contS (h3 H1 q1) ok F r1 (F.step st1) so1 tA
theorem jNil {Q : AF → Loc → AHeap → Prop} (h : Q .next ρ H) : JSs C n X env [] ρ H Q := fun A s ok F tA => wpAny_execs_nil ⟨.next, ρ, H, rfl, ok.rep, F, StepO.refl F, h⟩
theorem jCons {st : PySem.Stmt} {rest : List PySem.Stmt} {Q Q1 : AF → Loc → AHeap → Prop} (h1 : JS C n X env st ρ H Q1) (h2 : ∀ ρ1 H1, Q1 .next ρ1 H1 → JSs C n X env rest ρ1 H1 Q)
    (h3 : ∀ af ρ1 H1, af ≠ .next → Q1 af ρ1 H1 → Q af ρ1 H1) : JSs C n X env (st :: rest) ρ H Q := by
  intro A s ok F tA
  refine wpAny_execs_cons (wpAny_mono (h1 A s ok F tA) (fun f s1 ⟨af, ρ1, H1, rf, r1, F1, so1, q1⟩ => ?_) fun _ _ z => z)
  cases af with
  | next => cases rf; exact contS (h2 ρ1 H1 q1) ok F r1 F1 so1 tA
  | brk => cases rf; exact ⟨.brk, ρ1, H1, rfl, r1, F1, so1, h3 .brk ρ1 H1 (by intro z; cases z) q1⟩
  | cont => cases rf; exact ⟨.cont, ρ1, H1, rfl, r1, F1, so1, h3 .cont ρ1 H1 (by intro z; cases z) q1⟩
  | ret v => obtain ⟨cv, rfl, rv⟩ := rf; exact ⟨.ret v, ρ1, H1, ⟨cv, rfl, rv⟩, r1, F1, so1, h3 (.ret v) ρ1 H1 (by intro z; cases z) q1⟩
inductive WhI (C : Cfg) (env : Env) (H : AHeap) (s : Shared) (I : Nat → Loc → AHeap → Prop) (k : Nat) (s' : Shared) : Prop where
  | mk (ρ' : Loc) (H' : AHeap) (hI : I k ρ' H') (r : Rep C H' s') (F : Frm C env ρ' H' s') (so : StepO env H H' s s')
theorem jWhile {t : PySem.Expr} {body : List PySem.Stmt} {pos : Pos} {Q : AF → Loc → AHeap → Prop} (I : Nat → Loc → AHeap → Prop) {m : Nat} (h0 : I m ρ H) {Q1 : Nat → Loc → AHeap → Bool → AHeap → Prop}
    (h1 : ∀ m ρ' H', I m ρ' H' → JT C n (fun _ => False) env t ρ' H' (Q1 m ρ' H'))
    (h2 : ∀ m ρ' H' H2, Q1 m ρ' H' true H2 → JSs C n (fun _ => False) env body ρ' H2 (turnEnd (fun ρ3 H3 => ∃ m', m' < m ∧ I m' ρ3 H3) Q))
    (h3 : ∀ m ρ' H' H2, Q1 m ρ' H' false H2 → Q .next ρ' H2) : JS C n X env (.While t body [] pos) ρ H Q := by
  intro A s ok F tA
  refine wpAny_While ?_
  refine codeAny_whileLoop (WhI C env H s I) ?_ m ⟨ρ, H, h0, ok.rep, F, StepO.refl F⟩
  rintro k s' ⟨ρ', H', hI, r', F', so'⟩
  have ok' := ok.stepO F F' so' r'
  refine wpAny_mono (h1 k ρ' H' hI A s' ok' F') (fun c s1 ⟨b, H1, rb, r1, st1, q1⟩ => ?_) fun _ _ z => z.never
  cases rb
  have so1 := so'.trans (StepO.of F' st1)
  cases c with
  | false => rw [if_neg Bool.false_ne_true]; exact wpAny_execs_nil ⟨.next, ρ', H1, rfl, r1, F'.step st1, so1, h3 k ρ' H' H1 q1⟩
  | true =>
    rw [if_pos rfl]
    refine wpAny_mono (h2 k ρ' H' H1 q1 A s1 (ok'.step st1 r1) (F'.step st1) tA) (fun f s2 ⟨af, ρ2, H2, rf, r2, F2', so2, q2⟩ => ?_) fun _ _ z => z.never
    have so3 := so1.trans so2
    cases af with
    | next => cases rf; obtain ⟨m', hm, q⟩ := q2; exact ⟨m', hm, ρ2, H2, q, r2, F2', so3⟩
    | cont => cases rf; obtain ⟨m', hm, q⟩ := q2; exact ⟨m', hm, ρ2, H2, q, r2, F2', so3⟩
    | brk => cases rf; exact ⟨.next, ρ2, H2, rfl, r2, F2', so3, q2⟩
    | ret v => obtain ⟨cv, rfl, rv⟩ := rf; exact ⟨.ret v, ρ2, H2, ⟨cv, rfl, rv⟩, r2, F2', so3, q2⟩
theorem jMeth {ns : List Str} {pe : PE} {h : PySem.Expr} {m : Str} {apos pos : Pos} {es : List PySem.Expr} {Q Q1 : AV → AHeap → Prop} {Q2 : AV → Value → List AV → AHeap → Prop} (hline : (apos.endLine == pos.line) = true) (hlen : es.length < 20)
    (hs : isVAS pe = true) (hp : (backTo pos (starEach es env)).any (·.1) = false)
    (h1 : JE C n X env (toE ns pe h) ρ H Q1) (h2 : ∀ v H1, Q1 v H1 → ∃ f, PGet C n v m H1 f ∧ CalleeOk C f ∧ JEs C n X env es ρ H1 (Q2 v f) ∧ ∀ vs H2, Q2 v f vs H2 → FCall C n X f (v :: vs) H2 Q) :
    JE C n X env (.Call (.Attribute (toE ns pe h) m apos) es [] pos) ρ H Q := by
  intro A s ok F
  have e0 : eval (.Call (.Attribute (toE ns pe h) m apos) es [] pos) env = (do
      let ov ← attributeBase (toE ns pe h) m env (eval (toE ns pe h) env)
      standAt apos.atName
      methodCall (toE ns pe h) m apos pos env ov (es.length + ([] : List Keyword).length) (backTo pos (starEach es env)) (backToKw pos (keywordEach [] env))) := rfl
  have eb : attributeBase (toE ns pe h) m env (eval (toE ns pe h) env) = eval (toE ns pe h) env := by cases pe <;> first | rfl | cases hs
  rw [e0, eb]
  refine wpAny_bind (go (h1 A s ok F) (.refl _ _) fun cv v s1 H1 rv r1 st1 q1 => wpAny_bind (wpAny_standAt ?_))
  obtain ⟨f, hget, hk, hargs, hcall⟩ := h2 v H1 q1
  have hform : methodCallForm (es.length + ([] : List Keyword).length) (backTo pos (starEach es env)) (backToKw pos (keywordEach [] env)) = true := by
    unfold methodCallForm
    have hall : (backTo pos (starEach es env)).all (fun x => !x.1) = true := by
      rw [List.all_eq_true]; intro x hx
      cases q : x.1 with
      | false => rfl
      | true => rw [List.any_eq_false] at hp; exact absurd q (hp x hx)
    rw [hall]
    show (true && true && decide _) = true
    simp only [Bool.and_self, Bool.true_and, decide_eq_true_eq]
    show es.length + 0 + 0 < 30
    omega
  unfold methodCall
  rw [hform]
  have ok1 := ok.step st1 r1
  have F1 := F.step st1
  refine wpAny_bind (wpAny_holding ?_)
  show wpAny _ _ (getMethod cv m _) _ _ _
  refine hget cv rv A _ s1 _ _ ok1 fun s2 r2 st2 => ?_
  dsimp only
  unfold methodCallPos
  rw [hline]
  refine wpAny_bind (wpAny_pure ?_)
  have st12 := st1.trans st2
  refine callWith_of (P := fun h => ∀ b o, C.base.get? b = some o → h.get? b = some o) (by rw [hp]; rfl) (fun h e => hk _ h e) (evalArgs_of hp ?_)
  refine go (hargs pos A s2 (ok1.step st2 r2) (F1.step st2)) st12 fun vs bs s3 H3 rb r3 st3 q3 => ⟨r3.keep, ?_⟩
  refine go (hcall bs H3 q3 A s3 (cv :: vs) (ok.step st3 r3) (.cons rv rb)) st3 fun v w s4 H4 rv' r4 st4 q4 => ⟨w, H4, rv', r4, st4, q4⟩
end
end Mine
end
section
open PySem PySem.W PyProof.Rows PySem.Calls
namespace Mine
theorem eval_DictComp' (k v gens scope pos) (env : Env) : eval (.DictComp k v gens scope pos) env = comprehension (.DictComp k v gens scope pos) scope env (firstIterPos gens pos) newDict (firstAsync gens) (firstIter gens env) := rfl
theorem dictOf_rep {C : Cfg} {h : Heap} {D : Addr} {vs : List (Int × Value)} {l : List (Int × AV)} (x : h.DictOf (intKind C.prog C.w) D vs) (f : F2 RepP l vs) : ∃ ep ob, h.get? D = some ob ∧ RepO C (.dict l ep) ob := by
  obtain ⟨o, es, ep, ho, h1, h2, h3, h4, h5⟩ := x
  exact ⟨ep, o, ho, vs, ⟨es, h1, h2, h3, h4, h5⟩, f⟩
section
variable {C : Cfg} {n : Nat} {X : AHeap → Prop} {env : Env} {ρ : Loc} {H : AHeap}
theorem jDComp {e e2 it : PySem.Expr} {x : Str} {px pos : Pos} {ifs : List PySem.Expr} {scope : Scope} {Q Q1 : AV → AHeap → Prop} (hc : C.base.get? cStatics ≠ none) (hs : ∀ x, foldedSetIterable it env x = pure x)
    (hok : compOk env.scope.names scope.names x = true) (hkind : scope.kind = .function) (h1 : JE C n X env it ρ H Q1)
    (h2 : ∀ v H1, Q1 v H1 → ∃ l, itemsOf H1 v = some l ∧ l.length ≤ 10000 ∧ ∃ I : Nat → List (Int × AV) → AHeap → Prop, I 0 [] H1 ∧ (∀ i acc H', I i acc H' → srcSame H1 H' v) ∧
      (∀ i acc H' w, I i acc H' → l[i]? = some w → ∀ L, JIfs C n (compEnvC scope (closL env scope.names []) L env) ifs (cupd ρ x w) H' fun b H2 =>
        if b then JE C n (fun _ => False) (compEnvC scope (closL env scope.names []) L env) e (cupd ρ x w) H2 fun kv H3 => JE C n (fun _ => False) (compEnvC scope (closL env scope.names []) L env) e2 (cupd ρ x w) H3 fun u H4 => ∃ kk, kv = .int kk ∧ I (i + 1) (putD acc kk u) H4 else I (i + 1) acc H2) ∧
      (∀ acc H', I l.length acc H' → ∀ a ep, H' a = none → Q (.ref a) (H'.set a (.dict acc ep)))) : JE C n X env (.DictComp e e2 [⟨.Name x px, it, ifs, 0⟩] scope pos) ρ H Q := by
  intro A s ok F
  obtain ⟨hx, hall⟩ := compOk_all hok
  rw [eval_DictComp']
  refine wpAny_comprehension_free (use := none) rfl hs (closureFor_eq fun p hp hf => F.has _ ((hall p hp).2.2 hf)) hkind (fun p hp hl => ((hall p hp).2.1 hl).1)
    (go (h1 A s ok F) (.refl _ _) fun cv v s1 H1 rv r1 st1 q1 => ?_)
  obtain ⟨l, hl, hlen, I, hI0, hsrc, hturn, hend⟩ := h2 v H1 q1
  refine dictComp_core hc (ok.step st1 r1) (F.step st1) rv hl hlen hok hkind I hI0 hsrc hturn (RR := fun acc Cn => compPost (model C.prog C.w) A (XP C A H s X) none (QP C RepV H s Q) acc Cn) ?_
  intro D Cn acc H' s' vs m P D0 C0 DC Dm Db Cb Do Co r' F' P0 pD pC st' hpl hacc hn hI
  refine ⟨m, hn, fun h' hs' => ?_⟩
  have r2 := r'.but (t := s'.toks) (st'.out _ pC) Cb hs'.extBut
  have st2 := st'.but (t := s'.toks) pC hs'.extBut
  obtain ⟨ep, ob, hob, hrep⟩ := dictOf_rep (hpl.at fun o e => hs'.extBut _ o DC e) hacc
  exact ⟨.ref D, H'.set D (.dict acc ep), rfl, r2.add Db Dm hob hrep, st1.trans (st2.join P0 pD), hend acc H' hI D ep (st'.out _ pD)⟩
theorem jAssignDComp {e e2 it : PySem.Expr} {x y : Str} {px py pos spos : Pos} {ifs : List PySem.Expr} {scope : Scope} {Q : AF → Loc → AHeap → Prop} {Q1 : AV → AHeap → Prop} (hc : C.base.get? cStatics ≠ none) (hs : ∀ x, foldedSetIterable it env x = pure x)
    (hok : compOk env.scope.names scope.names x = true) (hkind : scope.kind = .function) (hy : env.kindOf y = some .local ∨ env.kindOf y = some .cell)
    (hsw : swapsWith (.DictComp e e2 [⟨.Name x px, it, ifs, 0⟩] scope pos) (some (.Name y py)) spos.line env = pure true) (h1 : JE C n X env it ρ H Q1)
    (h2 : ∀ v H1, Q1 v H1 → ∃ l, itemsOf H1 v = some l ∧ l.length ≤ 10000 ∧ ∃ I : Nat → List (Int × AV) → AHeap → Prop, I 0 [] H1 ∧ (∀ i acc H', I i acc H' → srcSame H1 H' v) ∧
      (∀ i acc H' w, I i acc H' → l[i]? = some w → ∀ L, JIfs C n (compEnvC scope (closL env scope.names []) L env) ifs (cupd ρ x w) H' fun b H2 =>
        if b then JE C n (fun _ => False) (compEnvC scope (closL env scope.names []) L env) e (cupd ρ x w) H2 fun kv H3 => JE C n (fun _ => False) (compEnvC scope (closL env scope.names []) L env) e2 (cupd ρ x w) H3 fun u H4 => ∃ kk, kv = .int kk ∧ I (i + 1) (putD acc kk u) H4 else I (i + 1) acc H2) ∧
      (∀ acc H', I l.length acc H' → ∀ a ep, H' a = none → Q .next (upd ρ y (.ref a)) (H'.set a (.dict acc ep)))) : JS C n X env (.Assign [.Name y py] (.DictComp e e2 [⟨.Name x px, it, ifs, 0⟩] scope pos) spos) ρ H Q := by
  intro A s ok F tA
  obtain ⟨hx, hall⟩ := compOk_all hok
  rw [exec_Assign_Name_used _ _ _ _ hsw]
  refine wpAny_bind (wpAny_standAt (wpAny_bind ?_))
  show wpAny _ A (do let _ ← comprehension (.DictComp e e2 [⟨.Name x px, it, ifs, 0⟩] scope pos) scope env _ newDict false (eval it env) (some (assign (.Name y py) env))) _ _ s
  refine wpAny_bind (wpAny_mono (wpAny_comprehension_free (use := some (assign (.Name y py) env)) (Q := fun _ s' => QS C env H s Q .next s') rfl hs (closureFor_eq fun p hp hf => F.has _ ((hall p hp).2.2 hf)) hkind (fun p hp hl => ((hall p hp).2.1 hl).1)
    (goO (h1 A s ok F) F (StepO.refl F) fun cv v s1 H1 rv r1 st1 so1 q1 => ?_)) (fun _ s' hq => wpAny_pure (wpAny_pure hq)) fun _ _ z => z)
  obtain ⟨l, hl, hlen, I, hI0, hsrc, hturn, hend⟩ := h2 v H1 q1
  refine dictComp_core hc (ok.step st1 r1) (F.step st1) rv hl hlen hok hkind I hI0 hsrc hturn (RR := fun acc Cn => compPost (model C.prog C.w) A (XPO C A env H s X) (some (assign (.Name y py) env)) (fun _ s' => QS C env H s Q .next s') acc Cn) ?_
  intro D Cn acc H' s' vs m P D0 C0 DC Dm Db Cb Do Co r' F' P0 pD pC st' hpl hacc hn hI
  obtain ⟨ep, ob, hob, hrep⟩ := dictOf_rep hpl hacc
  have rA := r'.add (o := .dict acc ep) Db Dm hob hrep
  have FA := F'.add (o := .dict acc ep) Do
  have stA := st'.join (o := .dict acc ep) P0 pD
  show wpAny _ A (assign (.Name y py) env (.ref D)) _ _ _
  refine wpAny_assign_Name (FA.store rA hy (v := .ref D) rfl fun s'' r'' F'' so'' => ?_)
  have HC : (H'.set D (.dict acc ep)) Cn = none := by rw [AHeap.set_ne _ _ (Ne.symm DC)]; exact st'.out _ pC
  refine ⟨m, Ns.keep1 (L := Cn) hn fun o ho => so''.keep _ o ho HC Co, fun h' hs' => ?_⟩
  have r3 := r''.but (t := s''.toks) HC Cb hs'.extBut
  have F3 := F''.but (t := s''.toks) Co hs'.extBut
  refine ⟨.next, _, _, rfl, r3, F3, so1.trans ?_, hend acc H' hI D ep (st'.out _ pD)⟩
  refine ⟨fun b o hb hH ho => hs'.extBut b o (fun q => by rw [q, C0] at hb; cases hb) (so''.keep b o (stA.keep b o hb hH) (step_none stA hH hb) ho), stA.fresh, so''.out⟩
end
end Mine
end
section
open PySem PySem.W PyProof.Rows PySem.Calls
namespace Mine
theorem al {a b : Bool} (h : (a && b) = true) : a = true := by cases a; exact h; rfl
theorem ar {a b : Bool} (h : (a && b) = true) : b = true := by cases a; cases h; exact h
theorem ix_nm : ∀ {ns : List Str} {y : Str} {i : Nat}, ix ns y = some i → nm ns i = y
  | [], _, _, h => nomatch h
  | x :: r, y, i, h => by
    unfold ix at h
    by_cases e : y = x
    · rw [if_pos e] at h; cases h; exact e.symm
    · rw [if_neg e] at h
      cases q : ix r y with
      | none => rw [q] at h; cases h
      | some k => rw [q] at h; cases h; exact ix_nm (ns := r) q
theorem okI_ix {ns : List Str} {i : Nat} (h : okI ns i = true) : ix ns (nm ns i) = some i := beq_iff_eq.mp h
theorem lk_self (i : Nat) (v : AV) (l : Ls) : lk ((i, v) :: l) i = some v := by
  show (match Nat.beq i i with | true => some v | false => lk l i) = some v
  rw [Nat.beq_refl]
theorem lk_ne {i j : Nat} (v : AV) (l : Ls) (h : i ≠ j) : lk ((i, v) :: l) j = lk l j := by
  show (match Nat.beq i j with | true => some v | false => lk l j) = lk l j
  cases e : Nat.beq i j with
  | true => exact absurd (Nat.eq_of_beq_eq_true e) h
  | false => rfl
theorem ofL_of {ns : List Str} {l : Ls} {y : Str} {v : AV} (h : ofL ns l y = some v) : ∃ i, ix ns y = some i ∧ lk l i = some v := by
  unfold ofL at h
  cases q : ix ns y with
  | none => rw [q] at h; cases h
  | some i => rw [q] at h; exact ⟨i, rfl, h⟩
theorem Le.get {ns : List Str} {l : Ls} {ρ : Loc} (le : Le (ofL ns l) ρ) {i : Nat} (ok : okI ns i = true) {v : AV} (h : lk l i = some v) : ρ (nm ns i) = some v :=
  le _ _ (by unfold ofL; rw [okI_ix ok]; exact h)
theorem Le.upd {ns : List Str} {l : Ls} {ρ : Loc} (le : Le (ofL ns l) ρ) {i : Nat} (ok : okI ns i = true) (v : AV) : Le (ofL ns ((i, v) :: l)) (upd ρ (nm ns i) v) := fun y w h => by
  obtain ⟨j, hj, hw⟩ := ofL_of h
  by_cases e : y = nm ns i
  · rw [e, okI_ix ok] at hj; cases hj
    rw [lk_self] at hw; cases hw; rw [e]; exact if_pos rfl
  · rw [lk_ne _ _ fun q => e (by rw [q]; exact (ix_nm hj).symm)] at hw
    exact (if_neg e).trans (le y w (by unfold ofL; rw [hj]; exact hw))
theorem Le.cupd {ns : List Str} {l : Ls} {ρ : Loc} (le : Le (ofL ns l) ρ) {i : Nat} (ok : (okI ns i && ix ns (".0" : Str) == none) = true) (v : AV) : Le (ofL ns ((i, v) :: l)) (cupd ρ (nm ns i) v) := fun y w h => by
  have := le.upd (al ok) v y w h
  obtain ⟨j, hj, _⟩ := ofL_of h
  unfold Mine.cupd
  by_cases e : y = nm ns i
  · rw [if_pos e]; exact (if_pos e).symm.trans this
  · rw [if_neg e, if_neg fun q => by rw [q, beq_iff_eq.mp (ar ok)] at hj; cases hj]; exact (if_neg e).symm.trans this
theorem lk_pick {l : Ls} : ∀ {k : List Nat} {i : Nat} {v : AV}, lk (pick k l) i = some v → lk l i = some v
  | [], _, _, h => nomatch h
  | j :: r, i, v, h => by
    unfold pick at h
    cases q : lk l j with
    | none => rw [q] at h; exact lk_pick h
    | some w =>
      rw [q] at h
      by_cases e : j = i
      · subst e; rw [show lk ((j, w) :: pick r l) j = some w from lk_self _ _ _] at h; rw [q]; exact h
      · exact lk_pick (k := r) (by rw [← h]; exact (lk_ne _ _ e).symm)
theorem Le.pick {ns : List Str} {l : Ls} {ρ : Loc} (le : Le (ofL ns l) ρ) (k : List Nat) : Le (ofL ns (pick k l)) ρ := fun y v h => by
  obtain ⟨i, hi, hv⟩ := ofL_of h
  exact le y v (by unfold ofL; rw [hi]; exact lk_pick hv)
theorem Le.updL {ns : List Str} : ∀ {xs : List Nat} {vs : List AV} {l : Ls} {ρ : Loc}, Le (ofL ns l) ρ → (∀ x ∈ xs, okI ns x = true) → Le (ofL ns (updL l xs vs)) (upds ρ (xs.map (nm ns)) vs)
  | [], _, _, _, le, _ => by unfold Mine.updL; exact le
  | _ :: _, [], _, _, le, _ => le
  | x :: xs, v :: vs, l, ρ, le, ok => by
    unfold Mine.updL
    exact Le.updL (le.upd (ok x (.head _)) v) fun y hy => ok y (.tail _ hy)
theorem inN_ok {sc : Sc} {ns : List Str} {xs : List Nat} (h : inN sc ns xs = true) : ∀ x ∈ xs, okI ns x = true := fun x hx => ar (List.all_eq_true.mp h x hx)
theorem inN_st {sc : Sc} {ns : List Str} {xs : List Nat} (h : inN sc ns xs = true) : ∀ y ∈ xs.map (nm ns), isSt sc y = true := fun y hy => by
  obtain ⟨x, hx, rfl⟩ := List.mem_map.mp hy
  exact al (List.all_eq_true.mp h x hx)
structure ExcRules (C : Cfg) : Prop where
  pass : ∀ n A s H0 env ρ0 X e s', Ok C n A H0 s → Frm C env ρ0 H0 s → TopA A env → XPO C A env H0 s X e s' → notedBy (model C.prog C.w) A env (cameBackBy (model C.prog C.w) A env (XPO C A env H0 s X)) e s'
  raise : C.hd = false → ∀ n X env w p k p2 cp pos ρ H Q, isGlob env.scope.names ("CodeFault" : Str) = true → X H → 3 ≤ n →
    JS C n X env (.Raise (some (.Call (.Name ("CodeFault" : Str) p) [.Constant (.str w) k p2] [] cp)) none pos) ρ H Q
  try_ : C.hd = false → ∀ n, C.tot ≤ n + 1 → ∀ X env xs hs k p ns pe h ap xp r rp hp pos ρ H Q Q1 (XH : AHeap → Prop), (∀ x ∈ xs, isSt env.scope.names x = true) → plainPE pe = true → noTup pe = true → isGlob env.scope.names ("CodeFault" : Str) = true →
    JE C n XH env (toE ns pe h) ρ H Q1 → (∀ v H1, Q1 v H1 → unpackOf H1 v xs.length fun l => Q .next (upds ρ xs l) H1) → (∀ H1, XH H1 → JE C.on n (fun _ => False) env r ρ H1 fun v H2 => Q (.ret v) ρ H2) →
    JS C n X env (.Try [.Assign [.Tuple (nmEs xs hs) k p] (toE ns pe h) ap] [.ExceptHandler (some (.Name ("CodeFault" : Str) xp)) none [.Return (some r) rp] hp] [] [] pos) ρ H Q
section
variable {C : Cfg} {n : Nat} {ns : List Str}
theorem notSlice (pe : PE) (h : PySem.Expr) : ∀ o j, subscripted (toE ns pe h) false o j = operate [o, j] (getItem o j) := by intro o j; cases pe <;> rfl
theorem star_cons (pe : PE) (h : PySem.Expr) (es : List PySem.Expr) (env : Env) : starEach (toE ns pe h :: es) env = (false, eval (toE ns pe h) env) :: starEach es env := by cases pe <;> rfl
theorem noSet (pe : PE) (h : PySem.Expr) (env : Env) : ∀ x, foldedSetIterable (toE ns pe h) env x = pure x := by intro x; cases pe <;> rfl
theorem toEs_len : ∀ (pes : PEs) (hs : List PySem.Expr), (toEs ns pes hs).length = pes.len
  | .nil, _ => rfl
  | .cons _ r, hs => congrArg (· + 1) (toEs_len r hs.tail)
theorem star_any {env : Env} {pos : Pos} : ∀ (pes : PEs) (hs : List PySem.Expr), (backTo pos (starEach (toEs ns pes hs) env)).any (·.1) = false
  | .nil, _ => rfl
  | .cons e r, hs => by
    show (backTo pos (starEach (toE ns e (hs.headD default) :: toEs ns r hs.tail) env)).any (·.1) = false
    rw [star_cons]
    exact star_any r hs.tail
theorem compEnv_names {scope : Scope} {cl : List (Str × Addr)} {L : Addr} {env : Env} (hk : env.scope.kind = .function) : (compEnvC scope cl L env).scope.names = inner env.scope.names scope.names := relabel_names hk
theorem lk_some {o : Option AV} {K : AV → Prop} (h : match o with | some v => K v | none => False) : ∃ v, o = some v ∧ K v := by
  cases o with
  | none => exact h.elim
  | some v => exact ⟨v, rfl, h⟩
theorem PCmp.val {op : CmpOp} {a b : AV} {H : AHeap} {Q : AV → AHeap → Prop} (h : PCmp C n op a b H fun v H' => ∃ b, v = .bool b ∧ Q (.bool b) H') : PCmp C n op a b H Q := fun va vb ra rb A E s ok =>
  wpAny_mono (h va vb ra rb A E s ok) (fun _ _ ⟨b, H', h1, h2, h3, c, e, h4⟩ => ⟨b, H', h1, h2, h3, e ▸ h4⟩) fun _ _ z => z
theorem int1_of {a : AV} {K : Int → Prop} (h : int1 a K) : ∃ i, a = .int i ∧ K i := by
  cases a with
  | int i => exact ⟨i, rfl, h⟩
  | _ => exact h.elim
theorem ref1_of {a : AV} {K : Addr → Prop} (h : ref1 a K) : ∃ i, a = .ref i ∧ K i := by
  cases a with
  | ref i => exact ⟨i, rfl, h⟩
  | _ => exact h.elim
theorem int2_of {a b : AV} {K : Int → Int → Prop} (h : int2 a b K) : ∃ i j, a = .int i ∧ b = .int j ∧ K i j :=
  let ⟨i, e, h⟩ := int1_of h
  let ⟨j, e2, h⟩ := int1_of h
  ⟨i, j, e, e2, h⟩
theorem arg0_of {vs : List AV} {K : Prop} (h : arg0 vs K) : vs = [] ∧ K := by
  cases vs with
  | nil => exact ⟨rfl, h⟩
  | cons _ _ => exact h.elim
theorem arg1_of {vs : List AV} {K : AV → Prop} (h : arg1 vs K) : ∃ v, vs = [v] ∧ K v := by
  cases vs with
  | nil => exact h.elim
  | cons v r => obtain ⟨rfl, h⟩ := arg0_of h; exact ⟨v, rfl, h⟩
theorem kGlob_of {C : Cfg} {f : Str} {K : Value → Prop} (h : kGlob C f K) : ∃ g, GlobIs C f g ∧ CalleeOk C g ∧ K g := by unfold kGlob at h; exact h
theorem arg2_of {vs : List AV} {K : AV → AV → Prop} (h : arg2 vs K) : ∃ v w, vs = [v, w] ∧ K v w := by
  cases vs with
  | nil => exact h.elim
  | cons v r => obtain ⟨w, rfl, h⟩ := arg1_of h; exact ⟨v, w, rfl, h⟩
variable (hc : C.base.get? cStatics ≠ none) (pr : Prims C n)
include hc pr
set_option maxHeartbeats 1000000 in
mutual
theorem sE : ∀ (pe : PE) (X : AHeap → Prop) (env : Env) (h : PySem.Expr) (l : Ls) (ρ : Loc) (H : AHeap) (Q : AV → AHeap → Prop), env.scope.kind = .function → Le (ofL ns l) ρ → ckE ns env.scope.names pe h = true → dE C n X pe l H Q → JE C n X env (toE ns pe h) ρ H Q
  | .var x, X, env, h, l, ρ, H, Q, hk, le, k, d => let ⟨_, hv, hq⟩ := lk_some d; jVar (al k) (le.get (ar k) hv) hq
  | .int i, X, env, h, l, ρ, H, Q, hk, le, k, d => jInt d
  | .bool b, X, env, h, l, ρ, H, Q, hk, le, k, d => jBool d
  | .none, X, env, h, l, ρ, H, Q, hk, le, k, d => jNone d
  | .neg i, X, env, h, l, ρ, H, Q, hk, le, k, d => jNeg d
  | .bin op a b, X, env, h, l, ρ, H, Q, hk, le, k, d => jBin (sE a X env _ l ρ H _ hk le (al k) d) (fun va H1 q => sE b X env _ l ρ H1 _ hk le (ar k) q) fun _ _ _ q => pr.bin q
  | .not a, X, env, h, l, ρ, H, Q, hk, le, k, d => d.elim
  | .cmp op a b, X, env, h, l, ρ, H, Q, hk, le, k, d => jCmp (by have := ar (ar k); rwa [Bool.not_eq_true'] at this) (sE a X env _ l ρ H _ hk le (al k) d) (fun va H1 q => sE b X env _ l ρ H1 _ hk le (al (ar k)) q) fun _ _ _ q => (pr.cmp q).val
  | .and es, X, env, h, l, ρ, H, Q, hk, le, k, d => sVA es X env _ _ l ρ H Q hk le k d
  | .or es, X, env, h, l, ρ, H, Q, hk, le, k, d => sVO es X env _ _ l ρ H Q hk le k d
  | .ite t a b, X, env, h, l, ρ, H, Q, hk, le, k, d => jIf (sT t X env _ l ρ H _ hk le (al k) d) (fun H1 q => sE a X env _ l ρ H1 _ hk le (al (ar k)) q) (fun H1 q => sE b X env _ l ρ H1 _ hk le (ar (ar k)) q)
  | .attr a f, X, env, h, l, ρ, H, Q, hk, le, k, d => jAttr (ar k) (sE a X env _ l ρ H _ hk le (al k) d) fun _ _ q => pr.attr q
  | .sub a i, X, env, h, l, ρ, H, Q, hk, le, k, d => jSub (notSlice i _) (sE a X env _ l ρ H _ hk le (al k) d) (fun _ H1 q => sE i X env _ l ρ H1 _ hk le (ar k) q) fun _ _ _ q => pr.sub q
  | .slHi a b, X, env, h, l, ρ, H, Q, hk, le, k, d => jSlHi (sE a X env _ l ρ H _ hk le (al k) d) (fun _ H1 q => sE b X env _ l ρ H1 _ hk le (ar k) q) fun _ _ _ q => pr.slHi q
  | .rev a, X, env, h, l, ρ, H, Q, hk, le, k, d => jRev (k := h.pos) (sE a X env _ l ρ H _ hk le k d) fun _ _ q => pr.rev q
  | .list es, X, env, h, l, ρ, H, Q, hk, le, k, d => jList hc (sEs es X env _ l ρ H _ hk le (al k) d) fun _ _ q => ⟨q.1 ▸ of_decide_eq_true (ar k), q.2⟩
  | .tup es, X, env, h, l, ρ, H, Q, hk, le, k, d => jTuple hc (sEs es X env _ l ρ H _ hk le (al k) d) fun _ _ q => ⟨q.1 ▸ of_decide_eq_true (ar k), q.2⟩
  | .dict0, X, env, h, l, ρ, H, Q, hk, le, k, d => jDict0 hc d
  | .call f es, X, env, h, l, ρ, H, Q, hk, le, k, d => by
    obtain ⟨g, g1, g2, d⟩ := kGlob_of d
    exact jCall (ar k) (star_any es _) g g1 g2 (sEs es X env _ l ρ H _ hk le (al k) d) fun _ _ q => q.2
  | .meth o m es, X, env, h, l, ρ, H, Q, hk, le, k, d => by
    refine jMeth (Q2 := fun v f vs H2 => vs.length = es.len ∧ FCall C n X f (v :: vs) H2 Q) (al (ar (ar k))) ((toEs_len es _).symm ▸ of_decide_eq_true (al (ar (ar (ar k))))) (ar (ar (ar (ar k)))) (star_any es _) (sE o X env _ l ρ H _ hk le (al k) d) fun v H1 q => ?_
    unfold kMeth at q
    obtain ⟨f, q1, q2, q3⟩ := q
    exact ⟨f, q1, q2, sEs es X env _ l ρ H1 _ hk le (al (ar k)) q3, fun _ _ q => q.2⟩
  | .callB b es, X, env, h, l, ρ, H, Q, hk, le, k, d => by
    obtain ⟨g, g1, g2, g3⟩ := pr.callB b
    exact jCall (ar k) (star_any es _) g g1 g2 (sEs es X env _ l ρ H _ hk le (al k) d) fun _ _ q => g3 q.2
  | .methB m o es, X, env, h, l, ρ, H, Q, hk, le, k, d => by
    refine jMeth (Q2 := fun v f vs H2 => (vs.length = es.len ∧ eMeth m v vs H2 Q) ∧ (eMeth m v vs H2 Q → FCall C n X f (v :: vs) H2 Q)) (al (ar (ar k))) ((toEs_len es _).symm ▸ of_decide_eq_true (al (ar (ar (ar k))))) (ar (ar (ar (ar k)))) (star_any es _) (sE o X env _ l ρ H _ hk le (al k) d) fun v H1 q => ?_
    unfold kHas at q
    obtain ⟨f, g1, g2, g3⟩ := pr.methB m q.1
    refine ⟨f, g1, g2, ?_, fun _ _ q => q.2 q.1.2⟩
    intro pos A s ok F
    exact wpAny_mono (sEs es X env _ l ρ H1 _ hk le (al (ar k)) q.2 pos A s ok F) (fun _ _ ⟨b, H', r1, r2, r3, r4⟩ => ⟨b, H', r1, r2, r3, r4, fun q => g3 q⟩) fun _ _ z => z
  | .lcomp a x src c, X, env, h, l, ρ, H, Q, hk, le, k, d => by
    have kf := beq_iff_eq.mp (al (ar (ar (ar k))))
    have ko := ar (ar (ar (ar k)))
    rw [Bool.and_assoc] at ko
    refine jLComp hc (noSet src _ env) (al ko) kf (sE src X env _ l ρ H _ hk le (al k) d) fun v H1 ⟨xs, q1, q2, I, q3, q4, q5, q6⟩ => ⟨xs, q1, q2, I, q3, q4, fun i acc H' w hi hw L => ?_, q6⟩
    refine (sIfs c (compEnvC (scOf h) (closL env (scOf h).names []) L env) _ _ _ H' _ kf (le.cupd (ar ko) w) (by rw [compEnv_names hk]; exact al (ar (ar k))) (q5 i acc H' w hi hw)).mono fun b H2 q => ?_
    cases b with
    | true => exact sE a (fun _ => False) (compEnvC (scOf h) (closL env (scOf h).names []) L env) _ _ _ H2 _ kf (le.cupd (ar ko) w) (by rw [compEnv_names hk]; exact al (ar k)) q
    | false => exact q
  | .dcomp u y x src c, X, env, h, l, ρ, H, Q, hk, le, k, d => by
    have kf := beq_iff_eq.mp (al (ar (ar (ar (ar k)))))
    have ko := ar (ar (ar (ar (ar k))))
    rw [Bool.and_assoc] at ko
    refine jDComp hc (noSet src _ env) (al ko) kf (sE src X env _ l ρ H _ hk le (al k) d) fun v H1 ⟨xs, q1, q2, I, q3, q4, q5, q6⟩ => ⟨xs, q1, q2, I, q3, q4, fun i acc H' w hi hw L => ?_, q6⟩
    refine (sIfs c (compEnvC (scOf h) (closL env (scOf h).names []) L env) _ _ _ H' _ kf (le.cupd (ar ko) w) (by rw [compEnv_names hk]; exact al (ar (ar (ar k)))) (q5 i acc H' w hi hw)).mono fun b H2 q => ?_
    cases b with
    | true =>
      refine mono_E (sE u (fun _ => False) (compEnvC (scOf h) (closL env (scOf h).names []) L env) _ _ _ H2 _ kf (le.cupd (ar ko) w) (by rw [compEnv_names hk]; exact al (ar k)) q) fun kv H3 q' => ?_
      exact mono_E (sE y (fun _ => False) (compEnvC (scOf h) (closL env (scOf h).names []) L env) _ _ _ H3 _ kf (le.cupd (ar ko) w) (by rw [compEnv_names hk]; exact al (ar (ar k))) q') fun uv H4 q' => int1_of q'
    | false => exact q
theorem sEs : ∀ (pes : PEs) (X : AHeap → Prop) (env : Env) (hs : List PySem.Expr) (l : Ls) (ρ : Loc) (H : AHeap) (Q : List AV → AHeap → Prop), env.scope.kind = .function → Le (ofL ns l) ρ → ckEs ns env.scope.names pes hs = true → dEs C n X pes l H Q → JEs C n X env (toEs ns pes hs) ρ H fun vs H' => vs.length = pes.len ∧ Q vs H'
  | .nil, X, env, hs, l, ρ, H, Q, hk, le, k, d => jArgsNil ⟨rfl, d⟩
  | .cons e r, X, env, hs, l, ρ, H, Q, hk, le, k, d => jArgsCons (star_cons e _ _ env) (sE e X env _ l ρ H _ hk le (al k) d) (fun v H1 q => sEs r X env hs.tail l ρ H1 _ hk le (ar k) q) fun _ _ _ q => ⟨congrArg (· + 1) q.1, q.2⟩
theorem sT : ∀ (pe : PE) (X : AHeap → Prop) (env : Env) (h : PySem.Expr) (l : Ls) (ρ : Loc) (H : AHeap) (Q : Bool → AHeap → Prop), env.scope.kind = .function → Le (ofL ns l) ρ → ckE ns env.scope.names pe h = true → dT C n X pe l H Q → JT C n X env (toE ns pe h) ρ H Q
  | .not a, X, env, h, l, ρ, H, Q, hk, le, k, d => jNotT (sT a X env _ l ρ H _ hk le k d)
  | .and es, X, env, h, l, ρ, H, Q, hk, le, k, d => jBoolOpT (sTA es X env _ l ρ H Q hk le k d)
  | .or es, X, env, h, l, ρ, H, Q, hk, le, k, d => jBoolOpT (sTO es X env _ l ρ H Q hk le k d)
  | .cmp op a b, X, env, h, l, ρ, H, Q, hk, le, k, d => jCmpT (by have := ar (ar k); rwa [Bool.not_eq_true'] at this) (sE a X env _ l ρ H _ hk le (al k) d) (fun va H1 q => sE b X env _ l ρ H1 _ hk le (al (ar k)) q) fun _ _ _ q => pr.cmp q
  | .var x, X, env, h, l, ρ, H, Q, hk, le, k, d => by
    obtain ⟨v, hv, hq⟩ := lk_some d
    exact jPlainT (Q1 := fun v' H' => v' = v ∧ H' = H) (fun _ => rfl) (jVar (al k) (le.get (ar k) hv) ⟨rfl, rfl⟩) fun v' H' q => by obtain ⟨rfl, rfl⟩ := q; exact pr.truth hq
  | .call f es, X, env, h, l, ρ, H, Q, hk, le, k, d => by
    obtain ⟨g, g1, g2, d⟩ := kGlob_of d
    exact jPlainT (fun _ => rfl) (jCall (ar k) (star_any es _) g g1 g2 (sEs es X env _ l ρ H _ hk le (al k) d) fun _ _ q => q.2) fun _ _ q => pr.truth q
  | .int _, X, env, h, l, ρ, H, Q, hk, le, k, d => d.elim
  | .bool _, X, env, h, l, ρ, H, Q, hk, le, k, d => d.elim
  | .none, X, env, h, l, ρ, H, Q, hk, le, k, d => d.elim
  | .neg _, X, env, h, l, ρ, H, Q, hk, le, k, d => d.elim
  | .bin .., X, env, h, l, ρ, H, Q, hk, le, k, d => d.elim
  | .ite .., X, env, h, l, ρ, H, Q, hk, le, k, d => d.elim
  | .attr .., X, env, h, l, ρ, H, Q, hk, le, k, d => d.elim
  | .sub .., X, env, h, l, ρ, H, Q, hk, le, k, d => d.elim
  | .slHi .., X, env, h, l, ρ, H, Q, hk, le, k, d => d.elim
  | .rev _, X, env, h, l, ρ, H, Q, hk, le, k, d => d.elim
  | .list _, X, env, h, l, ρ, H, Q, hk, le, k, d => d.elim
  | .tup _, X, env, h, l, ρ, H, Q, hk, le, k, d => d.elim
  | .dict0, X, env, h, l, ρ, H, Q, hk, le, k, d => d.elim
  | .meth .., X, env, h, l, ρ, H, Q, hk, le, k, d => d.elim
  | .callB .., X, env, h, l, ρ, H, Q, hk, le, k, d => d.elim
  | .methB .., X, env, h, l, ρ, H, Q, hk, le, k, d => d.elim
  | .lcomp .., X, env, h, l, ρ, H, Q, hk, le, k, d => d.elim
  | .dcomp .., X, env, h, l, ρ, H, Q, hk, le, k, d => d.elim
theorem sTA : ∀ (pes : PEs) (X : AHeap → Prop) (env : Env) (hs : List PySem.Expr) (l : Ls) (ρ : Loc) (H : AHeap) (Q : Bool → AHeap → Prop), env.scope.kind = .function → Le (ofL ns l) ρ → ckEs ns env.scope.names pes hs = true → dTA C n X pes l H Q → JTA C n X .And env (toEs ns pes hs) ρ H Q
  | .nil, X, env, hs, l, ρ, H, Q, hk, le, k, d => jAndNil d
  | .cons e r, X, env, hs, l, ρ, H, Q, hk, le, k, d => jAndCons (sT e X env _ l ρ H _ hk le (al k) d) (fun H1 q => sTA r X env hs.tail l ρ H1 _ hk le (ar k) q) fun H1 q => q
theorem sTO : ∀ (pes : PEs) (X : AHeap → Prop) (env : Env) (hs : List PySem.Expr) (l : Ls) (ρ : Loc) (H : AHeap) (Q : Bool → AHeap → Prop), env.scope.kind = .function → Le (ofL ns l) ρ → ckEs ns env.scope.names pes hs = true → dTO C n X pes l H Q → JTA C n X .Or env (toEs ns pes hs) ρ H Q
  | .nil, X, env, hs, l, ρ, H, Q, hk, le, k, d => jOrNil d
  | .cons e r, X, env, hs, l, ρ, H, Q, hk, le, k, d => jOrCons (sT e X env _ l ρ H _ hk le (al k) d) (fun H1 q => sTO r X env hs.tail l ρ H1 _ hk le (ar k) q) fun H1 q => q
theorem sIfs : ∀ (pes : PEs) (env : Env) (hs : List PySem.Expr) (l : Ls) (ρ : Loc) (H : AHeap) (Q : Bool → AHeap → Prop), env.scope.kind = .function → Le (ofL ns l) ρ → ckEs ns env.scope.names pes hs = true → dTA C n (fun _ => False) pes l H Q → JIfs C n env (toEs ns pes hs) ρ H Q
  | .nil, env, hs, l, ρ, H, Q, hk, le, k, d => jIfsNil d
  | .cons e r, env, hs, l, ρ, H, Q, hk, le, k, d => jIfsCons (sT e (fun _ => False) env _ l ρ H _ hk le (al k) d) (fun H1 q => sIfs r env hs.tail l ρ H1 _ hk le (ar k) q) fun H1 q => q
theorem sVA : ∀ (pes : PEs) (X : AHeap → Prop) (env : Env) (hs : List PySem.Expr) (pos : Pos) (l : Ls) (ρ : Loc) (H : AHeap) (Q : AV → AHeap → Prop), env.scope.kind = .function → Le (ofL ns l) ρ → ckEs ns env.scope.names pes hs = true → dVA C n X pes l H Q → JE C n X env (.BoolOp .And (toEs ns pes hs) pos) ρ H Q
  | .nil, X, env, hs, pos, l, ρ, H, Q, hk, le, k, d => d.elim
  | .cons e .nil, X, env, hs, pos, l, ρ, H, Q, hk, le, k, d => fun A s ok F => BoolOp_one (sE e X env _ l ρ H _ hk le (al k) d A s ok F)
  | .cons e (.cons e2 r), X, env, hs, pos, l, ρ, H, Q, hk, le, k, d => jVandCons (sE e X env _ l ρ H _ hk le (al k) d) (fun v H1 q => pr.truth q) (fun v H2 q => sVA (.cons e2 r) X env hs.tail pos l ρ H2 _ hk le (ar k) q) fun v H2 q => q
theorem sVO : ∀ (pes : PEs) (X : AHeap → Prop) (env : Env) (hs : List PySem.Expr) (pos : Pos) (l : Ls) (ρ : Loc) (H : AHeap) (Q : AV → AHeap → Prop), env.scope.kind = .function → Le (ofL ns l) ρ → ckEs ns env.scope.names pes hs = true → dVO C n X pes l H Q → JE C n X env (.BoolOp .Or (toEs ns pes hs) pos) ρ H Q
  | .nil, X, env, hs, pos, l, ρ, H, Q, hk, le, k, d => d.elim
  | .cons e .nil, X, env, hs, pos, l, ρ, H, Q, hk, le, k, d => fun A s ok F => BoolOp_one (sE e X env _ l ρ H _ hk le (al k) d A s ok F)
  | .cons e (.cons e2 r), X, env, hs, pos, l, ρ, H, Q, hk, le, k, d => jVorCons (sE e X env _ l ρ H _ hk le (al k) d) (fun v H1 q => pr.truth q) (fun v H2 q => sVO (.cons e2 r) X env hs.tail pos l ρ H2 _ hk le (ar k) q) fun v H2 q => q
end
end
end Mine
end
section
open PySem PySem.W PyProof.Rows PySem.Calls
namespace Mine
variable {C : Cfg} {n : Nat} {ns : List Str}
theorem swaps_list {e : PySem.Expr} {gs : List PySem.Comprehension} {scope : Scope} {pos p : Pos} {x : Str} {l : Nat} {env : Env} : ∃ b, swapsWith (.ListComp e gs scope pos) (some (.Name x p)) l env = pure b := ⟨_, rfl⟩
theorem swaps_dict {e e2 : PySem.Expr} {gs : List PySem.Comprehension} {scope : Scope} {pos p : Pos} {x : Str} {l : Nat} {env : Env} : ∃ b, swapsWith (.DictComp e e2 gs scope pos) (some (.Name x p)) l env = pure b := ⟨_, rfl⟩
theorem eSetAttr.mono {a : AV} {f : Str} {v : AV} {H : AHeap} {Q Q' : AHeap → Prop} (h : eSetAttr a f v H Q) (k : ∀ H, Q H → Q' H) : eSetAttr a f v H Q' := by
  cases a with
  | ref x =>
    show kSetAttr x f v H Q'
    have h : kSetAttr x f v H Q := h
    unfold kSetAttr at h ⊢
    obtain ⟨c, d, l', h1, h2, h3, h4, h5, h6⟩ := h
    exact ⟨c, d, l', h1, h2, h3, h4, h5, k _ h6⟩
  | _ => exact h.elim
theorem eSetSub.mono {a i v : AV} {H : AHeap} {Q Q' : AHeap → Prop} (h : eSetSub a i v H Q) (k : ∀ H, Q H → Q' H) : eSetSub a i v H Q' := by
  cases a with
  | ref x =>
    cases i with
    | int j =>
      show kSetSub x j v H Q'
      have h : kSetSub x j v H Q := h
      unfold kSetSub at h ⊢
      rcases h with ⟨l', h1, h2, h3, h4, h5⟩ | ⟨l', ep, h1, h2, h3⟩
      · exact .inl ⟨l', h1, h2, h3, h4, k _ h5⟩
      · exact .inr ⟨l', ep, h1, h2, fun ep => k _ (h3 ep)⟩
    | _ => exact h.elim
  | _ => exact h.elim
noncomputable def LQ (ns : List Str) (Q : AF → Ls → AHeap → Prop) (af : AF) (ρ : Loc) (H : AHeap) : Prop := ∃ l, Le (ofL ns l) ρ ∧ Q af l H
theorem JSs.monoQ {X : AHeap → Prop} {env : Env} {b : List PySem.Stmt} {ρ : Loc} {H : AHeap} {Q Q' : AF → Loc → AHeap → Prop} (h : JSs C n X env b ρ H Q) (k : ∀ af ρ' H', Q af ρ' H' → Q' af ρ' H') : JSs C n X env b ρ H Q' := fun A s ok F tA =>
  wpAny_mono (h A s ok F tA) (fun _ _ ⟨af, ρ2, H2, h1, h2, h3, h4, q⟩ => ⟨af, ρ2, H2, h1, h2, h3, h4, k _ _ _ q⟩) fun _ _ z => z
theorem LQ.turn {go : Ls → AHeap → Prop} {go' : Loc → AHeap → Prop} {Q : AF → Ls → AHeap → Prop} {af : AF} {ρ : Loc} {H : AHeap} (k : ∀ l ρ H, Le (ofL ns l) ρ → go l H → go' ρ H) (h : LQ ns (turnEnd go Q) af ρ H) : turnEnd go' (LQ ns Q) af ρ H := by
  obtain ⟨l, le, q⟩ := h
  cases af with
  | next => exact k l ρ H le q
  | cont => exact k l ρ H le q
  | brk => exact ⟨l, le, q⟩
  | ret v => exact ⟨l, le, q⟩
section
variable (hc : C.base.get? cStatics ≠ none) (pr : Prims C n)
include hc pr
theorem sAssign {x : Nat} {pe : PE} {X : AHeap → Prop} {env : Env} {h : PySem.Expr} {p pos : Pos} {l : Ls} {ρ : Loc} {H : AHeap} {Q : AF → Ls → AHeap → Prop} (hk : env.scope.kind = .function) (le : Le (ofL ns l) ρ)
    (hx : (isSt env.scope.names (nm ns x) && okI ns x) = true) (k : ckE ns env.scope.names pe h = true) (hs : swapsWith (toE ns pe h) (some (.Name (nm ns x) p)) pos.line env = pure false) (d : dE C n X pe l H fun v H1 => Q .next ((x, v) :: l) H1) : JS C n X env (.Assign [.Name (nm ns x) p] (toE ns pe h) pos) ρ H (LQ ns Q) :=
  jAssign (al hx) hs (sE hc pr pe X env h l ρ H _ hk le k d) fun v _ q => ⟨_, le.upd (ar hx) v, q⟩
theorem sAssignL {x y : Nat} {a src : PE} {c : PEs} {X : AHeap → Prop} {env : Env} {h : PySem.Expr} {p pos : Pos} {l : Ls} {ρ : Loc} {H : AHeap} {Q : AF → Ls → AHeap → Prop} (hk : env.scope.kind = .function) (le : Le (ofL ns l) ρ)
    (hx : (isSt env.scope.names (nm ns x) && okI ns x) = true) (k : ckE ns env.scope.names (.lcomp a y src c) h = true) (d : dE C n X (.lcomp a y src c) l H fun v H1 => Q .next ((x, v) :: l) H1) : JS C n X env (.Assign [.Name (nm ns x) p] (toE ns (.lcomp a y src c) h) pos) ρ H (LQ ns Q) := by
  obtain ⟨b, hb⟩ := swaps_list (e := toE ns a (cN 0 h)) (gs := [⟨.Name (nm ns y) (cN 1 h).pos, toE ns src (cN 2 h), toEs ns c ((kids h).drop 3), 0⟩]) (scope := scOf h) (pos := h.pos) (p := p) (x := nm ns x) (l := pos.line) (env := env)
  cases b with
  | false => exact sAssign hc pr hk le hx k hb d
  | true =>
    have kf := beq_iff_eq.mp (al (ar (ar (ar k))))
    have ko := ar (ar (ar (ar k)))
    rw [Bool.and_assoc] at ko
    refine jAssignLComp hc (noSet src _ env) (al ko) kf (isSt_of (al hx)) hb (sE hc pr src X env _ l ρ H _ hk le (al k) d) fun v H1 ⟨xs, q1, q2, I, q3, q4, q5, q6⟩ => ⟨xs, q1, q2, I, q3, q4, fun i acc H' w hi hw L => ?_, fun acc H' hi a ha => ⟨_, le.upd (ar hx) _, q6 acc H' hi a ha⟩⟩
    refine (sIfs hc pr c (compEnvC (scOf h) (closL env (scOf h).names []) L env) _ _ _ H' _ kf (le.cupd (ar ko) w) (by rw [compEnv_names hk]; exact al (ar (ar k))) (q5 i acc H' w hi hw)).mono fun b H2 q => ?_
    cases b with
    | true => exact sE hc pr a (fun _ => False) (compEnvC (scOf h) (closL env (scOf h).names []) L env) _ _ _ H2 _ kf (le.cupd (ar ko) w) (by rw [compEnv_names hk]; exact al (ar k)) q
    | false => exact q
theorem sAssignD {x y : Nat} {u z src : PE} {c : PEs} {X : AHeap → Prop} {env : Env} {h : PySem.Expr} {p pos : Pos} {l : Ls} {ρ : Loc} {H : AHeap} {Q : AF → Ls → AHeap → Prop} (hk : env.scope.kind = .function) (le : Le (ofL ns l) ρ)
    (hx : (isSt env.scope.names (nm ns x) && okI ns x) = true) (k : ckE ns env.scope.names (.dcomp u z y src c) h = true) (d : dE C n X (.dcomp u z y src c) l H fun v H1 => Q .next ((x, v) :: l) H1) : JS C n X env (.Assign [.Name (nm ns x) p] (toE ns (.dcomp u z y src c) h) pos) ρ H (LQ ns Q) := by
  obtain ⟨b, hb⟩ := swaps_dict (e := toE ns u (cN 0 h)) (e2 := toE ns z (cN 1 h)) (gs := [⟨.Name (nm ns y) (cN 2 h).pos, toE ns src (cN 3 h), toEs ns c ((kids h).drop 4), 0⟩]) (scope := scOf h) (pos := h.pos) (p := p) (x := nm ns x) (l := pos.line) (env := env)
  cases b with
  | false => exact sAssign hc pr hk le hx k hb d
  | true =>
    have kf := beq_iff_eq.mp (al (ar (ar (ar (ar k)))))
    have ko := ar (ar (ar (ar (ar k))))
    rw [Bool.and_assoc] at ko
    refine jAssignDComp hc (noSet src _ env) (al ko) kf (isSt_of (al hx)) hb (sE hc pr src X env _ l ρ H _ hk le (al k) d) fun v H1 ⟨xs, q1, q2, I, q3, q4, q5, q6⟩ => ⟨xs, q1, q2, I, q3, q4, fun i acc H' w hi hw L => ?_, fun acc H' hi a ep ha => ⟨_, le.upd (ar hx) _, q6 acc H' hi a ep ha⟩⟩
    refine (sIfs hc pr c (compEnvC (scOf h) (closL env (scOf h).names []) L env) _ _ _ H' _ kf (le.cupd (ar ko) w) (by rw [compEnv_names hk]; exact al (ar (ar (ar k)))) (q5 i acc H' w hi hw)).mono fun b H2 q => ?_
    cases b with
    | true =>
      refine mono_E (sE hc pr u (fun _ => False) (compEnvC (scOf h) (closL env (scOf h).names []) L env) _ _ _ H2 _ kf (le.cupd (ar ko) w) (by rw [compEnv_names hk]; exact al (ar k)) q) fun kv H3 q' => ?_
      exact mono_E (sE hc pr z (fun _ => False) (compEnvC (scOf h) (closL env (scOf h).names []) L env) _ _ _ H3 _ kf (le.cupd (ar ko) w) (by rw [compEnv_names hk]; exact al (ar (ar k))) q') fun uv H4 q' => int1_of q'
    | false => exact q
end
variable (hc : C.base.get? cStatics ≠ none) (pr : Prims C n) (pr' : Prims C.on n) (er : ExcRules C) (hn : 3 ≤ n)
include hc pr pr' er hn
noncomputable def forI (ns : List Str) (I : Nat → Ls → AHeap → Prop) (i : Nat) (ρ : Loc) (H : AHeap) : Prop := ∃ l, Le (ofL ns l) ρ ∧ I i l H
omit hc pr pr' er hn in
theorem forI.next {I : Nat → Ls → AHeap → Prop} {i : Nat} {Q : AF → Ls → AHeap → Prop} {af : AF} {ρ : Loc} {H : AHeap} (h : LQ ns (turnEnd (fun ρ2 H2 => ∃ k, I i (pick k ρ2) H2) Q) af ρ H) : turnEnd (forI ns I i) (LQ ns Q) af ρ H :=
  LQ.turn (fun _ _ _ le ⟨k, q⟩ => ⟨_, le.pick k, q⟩) h
set_option maxHeartbeats 1000000 in
mutual
theorem sS : ∀ (ps : PS) (X : AHeap → Prop) (env : Env) (h : PySem.Stmt) (l : Ls) (ρ : Loc) (H : AHeap) (Q : AF → Ls → AHeap → Prop), env.scope.kind = .function → Le (ofL ns l) ρ → ckS ns env.scope.names ps h = true → dS C n X ps l H Q → JS C n X env (toS ns ps h) ρ H (LQ ns Q)
  | .assign x pe, X, env, h, l, ρ, H, Q, hk, le, k, d => by
    have k1 := ar k
    have k0 := al k
    clear k
    cases pe with
    | lcomp a y src c => exact sAssignL hc pr hk le k1 k0 d
    | dcomp u z y src c => exact sAssignD hc pr hk le k1 k0 d
    | _ => exact sAssign hc pr hk le k1 k0 (plain_sw rfl _ _) d
  | .assignT xs pe, X, env, h, l, ρ, H, Q, hk, le, k, d => by
    refine jAssignT (inN_st (al (ar k))) (al (ar (ar k))) (ar (ar (ar k))) (sE hc pr pe X env _ l ρ H _ hk le (al k) d) fun v H1 ⟨a, vs, q1, q2, q3, q4⟩ => ⟨a, vs, q1, q2, by rw [List.length_map]; exact q3, _, le.updL (inN_ok (al (ar k))), q4⟩
  | .assignTT xs es, X, env, h, l, ρ, H, Q, hk, le, k, d => by
    have k2 := ar (ar (ar (ar k)))
    exact jAssignTT (inN_st (al (ar k))) (al (ar (ar k))) (of_decide_eq_true (al (ar (ar (ar k))))) (sEs hc pr es X env _ l ρ H _ hk le (al k) d) fun vs H1 q => ⟨by rw [List.length_map, q.1]; exact of_decide_eq_true (al k2), q.1 ▸ of_decide_eq_true (ar k2), _, le.updL (inN_ok (al (ar k))), q.2⟩
  | .setattr o f e, X, env, h, l, ρ, H, Q, hk, le, k, d =>
    jSetAttr (ar (ar k)) (sE hc pr e X env _ l ρ H _ hk le (al (ar k)) d) (fun v' H1 q => sE hc pr o X env _ l ρ H1 _ hk le (al k) q) fun _ _ _ q => pr.setAttr (q.mono fun _ q => ⟨l, le, q⟩)
  | .setsub o i e, X, env, h, l, ρ, H, Q, hk, le, k, d =>
    jSetSub (ar (ar (ar k))) (sE hc pr e X env _ l ρ H _ hk le (al (ar (ar k))) d) (fun v' H1 q => sE hc pr o X env _ l ρ H1 _ hk le (al k) q) (fun v' o' H2 q => sE hc pr i X env _ l ρ H2 _ hk le (al (ar k)) q) fun _ _ _ _ q => pr.setSub (q.mono fun _ q => ⟨l, le, q⟩)
  | .expr e, X, env, h, l, ρ, H, Q, hk, le, k, d => jExpr (ar k) (sE hc pr e X env _ l ρ H _ hk le (al k) d) fun _ _ q => ⟨l, le, q⟩
  | .ret e, X, env, h, l, ρ, H, Q, hk, le, k, d => jRet (sE hc pr e X env _ l ρ H _ hk le k d) fun _ _ q => ⟨l, le, q⟩
  | .ifS t a b, X, env, h, l, ρ, H, Q, hk, le, k, d => jIfS (sT hc pr t X env _ l ρ H _ hk le (al k) d) (fun H1 q => sSs a X env _ l ρ H1 Q hk le (al (ar k)) q) (fun H1 q => sSs b X env _ l ρ H1 Q hk le (ar (ar k)) q)
  | .while t b, X, env, h, l, ρ, H, Q, hk, le, k, d => by
    obtain ⟨I, ⟨k0, m, h0⟩, d⟩ := d
    exact jWhile (forI ns I) ⟨_, le.pick k0, h0⟩ (Q1 := fun m ρ' H' c H2 => ∃ l', Le (ofL ns l') ρ' ∧ br c (dSs C n (fun _ => False) b l' H2 (turnEnd (fun ρ3 H3 => ∃ ns m', m' < m ∧ I m' (pick ns ρ3) H3) Q)) (Q .next l' H2))
      (fun m ρ' H' ⟨l', le', hI⟩ A s ok F => wpAny_mono (sT hc pr t (fun _ => False) env _ l' ρ' H' _ hk le' (al k) (d m l' H' hI) A s ok F) (fun _ _ ⟨b, H2, r1, r2, r3, r4⟩ => ⟨b, H2, r1, r2, r3, l', le', r4⟩) fun _ _ z => z)
      (fun m ρ' H' H2 ⟨l', le', q⟩ => (sSs b (fun _ => False) env _ l' ρ' H2 _ hk le' (ar k) q).monoQ fun _ _ _ q => LQ.turn (fun _ _ _ le ⟨k, m', hm, q⟩ => ⟨m', hm, _, le.pick k, q⟩) q)
      fun m ρ' H' H2 ⟨l', le', q⟩ => ⟨l', le', q⟩
  | .for1 x it b, X, env, h, l, ρ, H, Q, hk, le, k, d =>
    jFor (XB := fun _ => False) (noSet it _ env) (asgName (al (ar (ar k)))) (fun _ _ _ _ _ _ _ _ _ z => z.never) (sE hc pr it X env _ l ρ H _ hk le (al k) d) fun v H1 ⟨xs, q1, I, ⟨k0, q2⟩, q3, q4, q5⟩ =>
      ⟨xs, q1, forI ns I, ⟨_, le.pick k0, q2⟩, fun i ρ' H' ⟨l', _, hi⟩ => q3 i l' H' hi, fun i ρ' H' w ⟨l', le', hi⟩ hw => (sSs b (fun _ => False) env _ _ _ H' _ hk (le'.upd (ar (ar (ar k))) w) (al (ar k)) (q4 i l' H' w hi hw)).monoQ fun _ _ _ q => forI.next q, fun ρ' H' ⟨l', le', hi⟩ => ⟨l', le', q5 l' H' hi⟩⟩
  | .forT ts it b, X, env, h, l, ρ, H, Q, hk, le, k, d =>
    jFor (XB := fun _ => False) (noSet it _ env) (asgTup (inN_st (ar (ar k)))) (fun _ _ _ _ _ _ _ _ _ z => z.never) (sE hc pr it X env _ l ρ H _ hk le (al k) d) fun v H1 ⟨xs, q1, I, ⟨k0, q2⟩, q3, q4, q5⟩ =>
      ⟨xs, q1, forI ns I, ⟨_, le.pick k0, q2⟩, fun i ρ' H' ⟨l', _, hi⟩ => q3 i l' H' hi, fun i ρ' H' w ⟨l', le', hi⟩ hw => let ⟨a, ws, e1, e2, e3, e4⟩ := q4 i l' H' w hi hw
        ⟨a, ws, e1, e2, by rw [List.length_map]; exact e3, (sSs b (fun _ => False) env _ _ _ H' _ hk (le'.updL (inN_ok (ar (ar k)))) (al (ar k)) e4).monoQ fun _ _ _ q => forI.next q⟩, fun ρ' H' ⟨l', le', hi⟩ => ⟨l', le', q5 l' H' hi⟩⟩
  | .forX x it b, X, env, h, l, ρ, H, Q, hk, le, k, d =>
    jFor (XB := X) (noSet it _ env) (asgName (al (ar (ar k)))) (fun A s H0 ρ0 e s' => er.pass n A s H0 env ρ0 X e s') (sE hc pr it X env _ l ρ H _ hk le (al k) d) fun v H1 ⟨xs, q1, I, ⟨k0, q2⟩, q3, q4, q5⟩ =>
      ⟨xs, q1, forI ns I, ⟨_, le.pick k0, q2⟩, fun i ρ' H' ⟨l', _, hi⟩ => q3 i l' H' hi, fun i ρ' H' w ⟨l', le', hi⟩ hw => (sSs b X env _ _ _ H' _ hk (le'.upd (ar (ar (ar k))) w) (al (ar k)) (q4 i l' H' w hi hw)).monoQ fun _ _ _ q => forI.next q, fun ρ' H' ⟨l', le', hi⟩ => ⟨l', le', q5 l' H' hi⟩⟩
  | .cont, X, env, h, l, ρ, H, Q, hk, le, k, d => jCont ⟨l, le, d⟩
  | .raiseCF w, X, env, h, l, ρ, H, Q, hk, le, k, d => er.raise d.1 n X env w _ _ _ _ _ ρ H _ k d.2 hn
  | .tryA xs pe ph, X, env, h, l, ρ, H, Q, hk, le, k, d =>
    er.try_ d.1.1 n d.1.2 X env (xs.map (nm ns)) _ _ _ ns pe _ _ _ _ _ _ _ ρ H _ _ (fun H1 => dE C.on n (fun _ => False) ph l H1 fun v H2 => Q (.ret v) l H2) (inN_st (al (ar (ar k)))) (al (ar (ar (ar k)))) (al (ar (ar (ar (ar k))))) (ar (ar (ar (ar (ar k))))) (sE hc pr pe _ env _ l ρ H _ hk le (al k) d.2)
      (fun v H1 ⟨a, vs, q1, q2, q3, q4⟩ => ⟨a, vs, q1, q2, by rw [List.length_map]; exact q3, _, le.updL (inN_ok (al (ar (ar k)))), q4⟩)
      fun H1 q => mono_E (sE (C := C.on) hc pr' ph (fun _ => False) env _ l ρ H1 _ hk le (al (ar k)) q) fun _ _ q => ⟨l, le, q⟩
theorem sSs : ∀ (ps : PSs) (X : AHeap → Prop) (env : Env) (hs : List PySem.Stmt) (l : Ls) (ρ : Loc) (H : AHeap) (Q : AF → Ls → AHeap → Prop), env.scope.kind = .function → Le (ofL ns l) ρ → ckSs ns env.scope.names ps hs = true → dSs C n X ps l H Q → JSs C n X env (toSs ns ps hs) ρ H (LQ ns Q)
  | .nil, X, env, hs, l, ρ, H, Q, hk, le, k, d => jNil ⟨l, le, d⟩
  | .cons s r, X, env, hs, l, ρ, H, Q, hk, le, k, d => by
    refine jCons (sS s X env _ l ρ H _ hk le (al k) d) (fun ρ1 H1 ⟨l1, le1, q⟩ => sSs r X env hs.tail l1 ρ1 H1 Q hk le1 (ar k) q) fun af ρ1 H1 ha ⟨l1, le1, q⟩ => ?_
    cases af with
    | next => exact absurd rfl ha
    | _ => exact ⟨l1, le1, q⟩
  | .join s kp r, X, env, hs, l, ρ, H, Q, hk, le, k, d => by
    obtain ⟨K, d1, d2⟩ := d
    refine jCons (sS s X env _ l ρ H _ hk le (al k) d1) (fun ρ1 H1 ⟨l1, le1, q⟩ => sSs r X env hs.tail _ ρ1 H1 Q hk (le1.pick kp) (ar k) (d2 _ _ q)) fun af ρ1 H1 ha ⟨l1, le1, q⟩ => ?_
    cases af with
    | next => exact absurd rfl ha
    | _ => exact ⟨l1, le1, q⟩
end
end Mine
end
section
open PySem PySem.W PyProof.Rows PySem.Calls
namespace Mine
section
variable {C : Cfg} {M : Model} {A : Around} {E : Value → Shared → Prop} {s : Shared} {H : AHeap} {env : Env} {outer : List Env} {L ea : Addr} {B : Heap} {cls : Value}
theorem FlyB.move {h h' : Heap} (fb : FlyB C H outer ea B h) (hs : ∀ b o, B.get? b = some o → h'.get? b = some o) (hu : h.UpToSlots h') : FlyB C H outer ea B h' :=
  ⟨fb.base, fb.obj, hs, fb.new, fb.fr.of_keeps fun b o e hn => let ⟨sl, q⟩ := hu b o e hn; ⟨_, q, rfl⟩⟩
theorem FlyB.rep {h' : Heap} {s s' : Shared} (fb : FlyB C H outer ea B s'.heap) (r : Rep C H s) (hg : s'.gens = s.gens) (ho : s'.os = s.os) : Rep C H s' :=
  ⟨fun b o e => fb.stays b o (fb.base b o e), fun a o e => let ⟨h1, h2, ob, h3, h4⟩ := fb.obj a o e; ⟨h1, h2, ob, fb.stays a ob h3, h4⟩, hg.trans r.gens, ho.trans r.os⟩
theorem ExcIn.there {h : Heap} {fl : Option Value} (x : ExcIn h B ea cls fl) : ∃ oe vs, h.get? ea = some oe ∧ oe.data = .fields vs := let ⟨oe, vs, h1, _, h3, _⟩ := x; ⟨oe, vs, h1, h3⟩
theorem entryF {head : Value} {had : Bool} {Q : Unit → Shared → Prop} {oe : Obj} {vs : Array Value} (hfr : A.frames = some (env :: outer)) (hf : env.frame = some L) (fb : FlyB C H (env :: outer) ea B s.heap)
    (he : s.heap.get? ea = some oe) (hc : oe.cls = cls) (hd : oe.data = .fields vs) (h2 : vs[2]? = some .none)
    (k : ∀ h', FlyB C H (env :: outer) ea B h' → ExcIn h' B ea cls (some (rawInt L)) → s.heap.UpToSlots h' → Q () { s with heap := h' }) :
    wpAny M A (do let a ← frameOf env; let pl ← entryPlaceOf L had; let b ← EntryCells.newEntry head a .none (rawInt L) .none pl; setField (.ref ea) 1 b) Q E s := by
  have hsz : 2 < vs.size := (Array.getElem?_eq_some_iff.mp h2).1
  have notF : ea ∉ (env :: outer).filterMap (·.frame) := fun hm => by
    obtain ⟨_, o, ho, hnf⟩ := fb.fr.mem hm
    rw [he] at ho; cases ho; exact hnf vs hd
  refine wpAny_bind (wpAny_frameOf_fun hfr fb.fr hf fun h1 hs1 => wpAny_bind (wpAny_entryPlaceOf fun pl hpl => ?_))
  unfold EntryCells.newEntry newFields
  refine wpAny_bind (wpAny_newObj_type ?_ (hpl.sizeOk5 _ _ _ _ _))
  have he1 : h1.get? ea = some oe := (hs1.2.1 ea notF).trans he
  have kb1 : ∀ b o, B.get? b = some o → h1.get? b = some o := fun b o e => (hs1.2.1 b fun hm => by rw [(fb.fr.mem hm).1] at e; cases e).trans (fb.stays b o e)
  generalize hT : ({ cls := .type "traceback", dict := none, data := .fields ([head, .ref L, .none, rawInt L, .none] ++ (if pl.isEmpty then List.replicate 6 Value.none else pl)).toArray } : Obj) = ot
  have htf : ot.isFreed = false := by rw [← hT]; rfl
  have he2 := Heap.get?_push_of_some (h := h1) ot he1
  refine wpAny_setField he2 hd (by omega) ?_
  have ne : h1.objs.size ≠ ea := Nat.ne_of_gt (Heap.lt_size he1)
  have hd3 := Obj.data_mapFields hd (·.setIfInBounds 1 (Value.ref h1.objs.size))
  have he3 := Heap.get?_update_self (Obj.mapFields (·.setIfInBounds 1 (Value.ref h1.objs.size))) he2 (Obj.isFreed_of_fields hd3)
  have hT3 := (Heap.get?_update_other (h1.push ot) (Obj.mapFields (·.setIfInBounds 1 (Value.ref h1.objs.size))) (Ne.symm ne)).trans (Heap.get?_push_size h1 htf)
  have kp : ∀ b o, b ≠ ea → h1.get? b = some o → ((h1.push ot).update ea (Obj.mapFields (·.setIfInBounds 1 (Value.ref h1.objs.size)))).get? b = some o := fun b o hb e =>
    (Heap.get?_update_other _ _ (Ne.symm hb)).trans (Heap.get?_push_of_some _ e)
  have up : s.heap.UpToSlots ((h1.push ot).update ea (Obj.mapFields (·.setIfInBounds 1 (Value.ref h1.objs.size)))) := fun b o e hn => by
    obtain ⟨sl, q⟩ := hs1.2.2 b o e
    exact ⟨sl, kp b _ (fun z => by rw [z, he] at e; cases e; exact hn vs hd) q⟩
  have nB : B.get? h1.objs.size = none := by
    cases q : B.get? h1.objs.size with
    | none => rfl
    | some o => exact absurd (Heap.lt_size (kb1 _ _ q)) (Nat.lt_irrefl _)
  refine k _ (fb.move (fun b o e => kp b o (fun z => by rw [z, fb.new] at e; cases e) (kb1 b o e)) up) ⟨_, _, he3, (Obj.cls_mapFields _ _).trans hc, hd3, ?_, ?_⟩ up
  · rw [Array.getElem?_setIfInBounds_ne (by decide)]; exact h2
  · refine ⟨h1.objs.size, ot, _, ?_, nB, ne, hT3, by rw [← hT], ?_⟩
    · rw [Array.getElem?_setIfInBounds_self]; rw [if_pos (by omega)]
    · first | (simp; done) | (rcases hpl with rfl | ⟨_, _, _, _, _, _, _, rfl⟩ <;> simp)
theorem noteF {fl : Option Value} {Q : Unit → Shared → Prop} (hfr : A.frames = some (env :: outer)) (hf : env.frame = some L) (fb : FlyB C H (env :: outer) ea B s.heap) (ex : ExcIn s.heap B ea cls fl)
    (hfl : fl = none ∨ fl = some .none ∨ fl = some (rawInt L))
    (k : ∀ h', FlyB C H (env :: outer) ea B h' → ExcIn h' B ea cls (some (rawInt L)) → s.heap.UpToSlots h' → Q () { s with heap := h' }) : wpAny M A (noteFrame (.ref ea) env) Q E s := by
  obtain ⟨oe, vs, h1, h2, h3, h4, h5⟩ := ex
  unfold noteFrame
  simp only [hf]
  rcases hfl with rfl | rfl | rfl
  · dsimp only at h5
    refine wpAny_bind (wpAny_field h1 h3 h5 ?_)
    rw [if_neg (by decide)]
    exact entryF hfr hf fb h1 h2 h3 h4 k
  · obtain ⟨T, oT, ts, t1, t2, t3, t4, t5, t6⟩ := h5
    refine wpAny_bind (wpAny_field h1 h3 t1 ?_)
    rw [if_pos (show (Value.ref T != Value.none) = true from by simp)]
    refine wpAny_bind (wpAny_field t4 t5 t6 ?_)
    rw [if_neg (show ¬ ((Value.none == rawInt L) = true) from by simp [rawInt])]
    refine wpAny_bind (wpAny_setField t4 t5 (Array.getElem?_eq_some_iff.mp t6).1 ?_)
    have ot : ∀ b, b ≠ T → (s.heap.update T (Obj.mapFields (·.setIfInBounds 3 Value.none))).get? b = s.heap.get? b := fun b hb => Heap.get?_update_other _ _ (Ne.symm hb)
    have up : s.heap.UpToSlots (s.heap.update T (Obj.mapFields (·.setIfInBounds 3 Value.none))) := fun b o e hn => ⟨o.slots, (ot b fun z => by rw [z, t4] at e; cases e; exact hn ts t5).trans e⟩
    have fb' := fb.move (fun b o e => (ot b fun z => by rw [z, t2] at e; cases e).trans (fb.stays b o e)) up
    exact entryF (s := { s with heap := s.heap.update T (Obj.mapFields (·.setIfInBounds 3 Value.none)) }) hfr hf fb' ((ot ea (Ne.symm t3)).trans h1) h2 h3 h4 fun h' k1 k2 k3 => k h' k1 k2 (up.trans k3)
  · obtain ⟨T, oT, ts, t1, t2, t3, t4, t5, t6⟩ := id h5
    refine wpAny_bind (wpAny_field h1 h3 t1 ?_)
    rw [if_pos (show (Value.ref T != Value.none) = true from by simp)]
    refine wpAny_bind (wpAny_field t4 t5 t6 ?_)
    rw [if_pos (show (rawInt L == rawInt L) = true from by simp)]
    exact wpAny_pure (k s.heap fb ⟨oe, vs, h1, h2, h3, h4, h5⟩ (.refl _))
theorem markF {f : Value} {m : Option Addr} {l : List Env} {Q : Unit → Shared → Prop} (fb : FlyB C H l ea B s.heap) (ex : ExcIn s.heap B ea cls (some f))
    (k : ∀ h', FlyB C H l ea B h' → ExcIn h' B ea cls (some (m.elim .none fun f => rawInt f)) → s.heap.UpToSlots h' → Q () { s with heap := h' }) : wpAny M A (setFlight (.ref ea) m) Q E s := by
  obtain ⟨oe, vs, h1, h2, h3, h4, T, oT, ts, t1, t2, t3, t4, t5, t6⟩ := ex
  unfold setFlight
  refine wpAny_bind (wpAny_field h1 h3 t1 ?_)
  rw [if_pos (show (Value.ref T != Value.none) = true from by simp)]
  have hsz := (Array.getElem?_eq_some_iff.mp t6).1
  have ot : ∀ b, b ≠ T → (s.heap.update T (Obj.mapFields (·.setIfInBounds 3 (m.elim Value.none fun f => rawInt f)))).get? b = s.heap.get? b := fun b hb => Heap.get?_update_other _ _ (Ne.symm hb)
  have up : s.heap.UpToSlots (s.heap.update T (Obj.mapFields (·.setIfInBounds 3 (m.elim Value.none fun f => rawInt f)))) := fun b o e hn => ⟨o.slots, (ot b fun z => by rw [z, t4] at e; cases e; exact hn ts t5).trans e⟩
  refine wpAny_setField t4 t5 hsz (k _ (fb.move (fun b o e => (ot b fun z => by rw [z, t2] at e; cases e).trans (fb.stays b o e)) up) ⟨oe, vs, (ot ea (Ne.symm t3)).trans h1, h2, h3, h4, T, _, _, t1, t2, t3, Heap.get?_update_self _ t4 (Obj.isFreed_of_fields (Obj.data_mapFields t5 _)), Obj.data_mapFields t5 _, ?_⟩ up)
  rw [Array.getElem?_setIfInBounds_self]; rw [if_pos hsz]
theorem XPO.slots {X : AHeap → Prop} {e : Value} {s0 s1 : Shared} {h' : Heap} {H' : AHeap} (fn : FlyN C A H' (KpO A env H s0) e { s1 with heap := h' }) (r : Rep C H' { s1 with heap := h' }) (hu : s1.heap.UpToSlots h')
    (x1 : ∀ a, H' a ≠ none → H a ≠ none ∨ s0.heap.get? a = none) (x2 : ∀ b, own env b → H' b = none) (x3 : X H')
    (hk : ∀ b o, s0.heap.get? b = some o → H b = none → ¬ own env b → (∀ vs, o.data ≠ .fields vs) → ∃ sl, s1.heap.get? b = some { o with slots := sl }) : XPO C A env H s0 X e { s1 with heap := h' } :=
  ⟨⟨H', fn, r, x1, x2, x3⟩, fun b o e hb ho hn => by
    obtain ⟨sl, q⟩ := hk b o e hb ho hn
    obtain ⟨sl2, q2⟩ := hu b { o with slots := sl } q hn
    exact ⟨sl2, q2⟩⟩
theorem pass_rule {n : Nat} {ρ0 : Loc} {X : AHeap → Prop} {e : Value} {s' : Shared} (_ok : Ok C n A H s) (_F : Frm C env ρ0 H s) (tA : TopA A env) (x : XPO C A env H s X e s') :
    notedBy (model C.prog C.w) A env (cameBackBy (model C.prog C.w) A env (XPO C A env H s X)) e s' := by
  obtain ⟨⟨H', ⟨B, l, ea, fl, f0, f1, rfl, f2, f3, f4⟩, r, x1, x2, x3⟩, hk⟩ := x
  obtain ⟨tf, outer, ta⟩ := tA
  rw [ta] at f1; cases f1
  have hfl : fl = none ∨ fl = some .none ∨ fl = some (rawInt env.locals) := by
    rcases f4 with h | h | ⟨e1, rest, L, h1, h2, h3⟩
    · exact .inl h
    · exact .inr (.inl h)
    · cases h1; rw [tf] at h2; cases h2; exact .inr (.inr h3)
  refine noteF ta tf f2 f3 hfl fun h1 fb1 ex1 up1 => ?_
  obtain ⟨oe, vs, g1, g2, g3, g4, T, oT, ts, t1, t2⟩ := id ex1
  refine wpAny_bind (wpAny_field g1 g3 t1 ?_)
  rw [if_neg (show ¬ ((Value.ref T == Value.none) = true) from by simp)]
  refine markF fb1 ex1 fun h2 fb2 ex2 up2 => ?_
  rw [tf] at ex2
  exact XPO.slots (s1 := s') ⟨B, env :: outer, ea, _, f0, ta, rfl, fb2, ex2, .inr (.inr ⟨env, outer, env.locals, rfl, tf, rfl⟩)⟩ (fb2.rep (h' := h2) r rfl rfl) (up1.trans up2) x1 x2 x3 hk
theorem leave_rule {P : Heap → Prop} {e : Value} {s' : Shared} {Q : Unit → Shared → Prop} {H' : AHeap} (hfr : A.frames = some (env :: outer)) (hf : env.frame = some env.locals) (fn : FlyN C A H' P e s') (r : Rep C H' s')
    (k : ∀ h', (∀ A', A'.frames = some outer → FlyN C A' H' P e { s' with heap := h' }) → Rep C H' { s' with heap := h' } → s'.heap.UpToSlots h' → Q () { s' with heap := h' }) : wpAny M A (leaving env e) Q E s' := by
  obtain ⟨B, l, ea, fl, f0, f1, rfl, f2, f3, f4⟩ := fn
  rw [hfr] at f1; cases f1
  have hfl : fl = none ∨ fl = some .none ∨ fl = some (rawInt env.locals) := by
    rcases f4 with h | h | ⟨e1, rest, L, h1, h2, h3⟩
    · exact .inl h
    · exact .inr (.inl h)
    · cases h1; rw [hf] at h2; cases h2; exact .inr (.inr h3)
  unfold leaving
  refine wpAny_bind (noteF hfr hf f2 f3 hfl fun h1 fb1 ex1 up1 => ?_)
  refine markF fb1 ex1 fun h2 fb2 ex2 up2 => ?_
  refine k h2 (fun A' ha => ⟨B, outer, ea, _, f0, ha, rfl, ⟨fb2.base, fb2.obj, fb2.stays, fb2.new, ?_⟩, ex2, .inr (.inl rfl)⟩) (fb2.rep (h' := h2) r rfl rfl) (up1.trans up2)
  exact fb2.fr.2.2
end
end Mine
end
section
open PySem PySem.W PyProof.Rows PySem.Calls
namespace Mine
theorem cellsFrom_some : ∀ (names : List (Str × NameKind)) (n : Nat) (acc : List (Str × Addr)) (x : Str), ((acc.lookup x).isSome = true ∨ names.lookup x = some .cell) → ((cellsFrom n names acc).lookup x).isSome = true
  | [], n, acc, x, h => by
    rcases h with h | h
    · exact h
    · cases h
  | (y, k) :: r, n, acc, x, h => by
    unfold cellsFrom
    by_cases e : x = y
    · subst e
      by_cases hk : k = .cell
      · subst hk
        rw [if_pos (by decide)]
        refine cellsFrom_some r _ _ x (.inl ?_)
        rw [List.lookup_cons, beq_self_eq_true]; rfl
      · rw [if_neg (by cases k <;> first | decide | exact absurd rfl hk)]
        refine cellsFrom_some r _ _ x (.inl ?_)
        rcases h with h | h
        · exact h
        · rw [List.lookup_cons, beq_self_eq_true] at h; cases h; exact absurd rfl hk
    · have hb : (x == y) = false := by rw [beq_eq_false_iff_ne]; exact e
      split
      · refine cellsFrom_some r _ _ x ?_
        rcases h with h | h
        · left; rw [List.lookup_cons, hb]; exact h
        · right; rw [List.lookup_cons, hb] at h; exact h
      · refine cellsFrom_some r _ _ x ?_
        rcases h with h | h
        · exact .inl h
        · right; rw [List.lookup_cons, hb] at h; exact h
structure FnAt (C : Cfg) (f : Addr) (fd : FuncData) (ns xs : List Str) (ps : PSs) : Prop where
  fo : ∃ o, C.base.get? f = some o ∧ o.data = .func fd
  cd : C.base.CodeRec fd.code fd.qualname
  body : ∃ b, fd.body = .stmts (toSs ns ps b) ∧ ckSs ns fd.scope.names ps b = true
  co : fd.scope.isCoroutine = false
  gen : fd.scope.isGenerator = false
  kind : fd.scope.kind = .function
  clo : fd.closure = []
  glob : fd.globals = mainGlobals
  bi : fd.builtins = builtinsNs
  nofree : ∀ x, fd.scope.names.lookup x ≠ some .free
  par : ∀ x ∈ xs, isSt fd.scope.names x = true
  pre : ∃ r, ns = xs ++ r
  nd : xs.Nodup
  bind : ∀ vs : List Value, vs.length = xs.length → bindArgs fd ⟨vs, []⟩ = pure (xs.zip vs)
theorem bind_rep {kind : Str → Option NameKind} {args : List AV} {vs : List Value} (h : F2 RepV args vs) : ∀ {xs : List Str} {m cm : Str → Option Value} {ρ : Loc}, xs.length = args.length →
    (∀ x v, kind x = some .local → ρ x = some v → ∃ cv, m x = some cv ∧ RepV v cv) → (∀ x v, kind x ≠ some .local → ρ x = some v → ∃ cv, cm x = some cv ∧ RepV v cv) →
    (∀ x v, kind x = some .local → upds ρ xs args x = some v → ∃ cv, bindL kind (xs.zip vs) m x = some cv ∧ RepV v cv) ∧ (∀ x v, kind x ≠ some .local → upds ρ xs args x = some v → ∃ cv, bindC kind (xs.zip vs) cm x = some cv ∧ RepV v cv) := by
  induction h with
  | nil =>
    intro xs m cm ρ hl h1 h2
    cases xs with
    | nil => exact ⟨h1, h2⟩
    | cons x xs => cases hl
  | @cons a b l r' r rs ih =>
    intro xs m cm ρ hl h1 h2
    cases xs with
    | nil => cases hl
    | cons x xs =>
      show (∀ y v, _ → upds (upd ρ x a) xs _ y = some v → ∃ cv, bindL kind (xs.zip _) _ y = some cv ∧ _) ∧ (∀ y v, _ → upds (upd ρ x a) xs _ y = some v → ∃ cv, bindC kind (xs.zip _) _ y = some cv ∧ _)
      refine ih (Nat.succ.inj hl) (fun y v hk hv => ?_) fun y v hk hv => ?_
      · by_cases q : y = x
        · subst q
          rw [upd, if_pos rfl] at hv
          cases hv
          rw [if_pos hk]
          exact ⟨b, if_pos rfl, r⟩
        · rw [upd, if_neg q] at hv
          obtain ⟨cv, e1, e2⟩ := h1 y v hk hv
          refine ⟨cv, ?_, e2⟩
          split
          · exact (if_neg q).trans e1
          · exact e1
      · by_cases q : y = x
        · subst q
          rw [upd, if_pos rfl] at hv
          cases hv
          rw [if_neg hk]
          exact ⟨b, if_pos rfl, r⟩
        · rw [upd, if_neg q] at hv
          obtain ⟨cv, e1, e2⟩ := h2 y v hk hv
          refine ⟨cv, ?_, e2⟩
          split
          · exact e1
          · exact (if_neg q).trans e1
theorem mem_zip_fst {xs : List Str} {vs : List Value} {p : Str × Value} (h : p ∈ xs.zip vs) : p.1 ∈ xs := (List.of_mem_zip h).1
noncomputable def post {R : Type} (Q : AV → AHeap → Prop) : AF → R → AHeap → Prop
  | .ret v, _, H' => Q v H'
  | .next, _, H' => Q .none H'
  | _, _, _ => False
noncomputable def FCode (C : Cfg) (n : Nat) (X : AHeap → Prop) (f : Addr) (args : List AV) (H : AHeap) (Q : AV → AHeap → Prop) : Prop := ∀ A s vs, Ok C n A H s → F2 RepV args vs →
  codeAny (model C.prog C.w) A (.call (.ref f) ⟨vs, []⟩) (fun r s' => match r with | .ok (.ret v) => QP C RepV H s Q v s' | .ok _ => False | .error e => XP C A H s X e s') s
theorem FCode.call {C : Cfg} {n : Nat} {X : AHeap → Prop} {f : Addr} {args : List AV} {H : AHeap} {Q : AV → AHeap → Prop} (h : FCode C n X f args H Q) : FCall C n X (.ref f) args H Q := fun A s vs ok hv => wpAny_call (h A s vs ok hv)
theorem ix_app : ∀ {xs r : List Str} {y : Str} {i : Nat}, ix (xs ++ r) y = some i → i < xs.length → xs[i]? = some y
  | [], _, _, _, _, hi => absurd hi (Nat.not_lt_zero _)
  | x :: xs, r, y, i, h, hi => by
    have h : (if y = x then some 0 else (ix (xs ++ r) y).map (· + 1)) = some i := h
    by_cases e : y = x
    · rw [if_pos e] at h; cases h; rw [e]; rfl
    · rw [if_neg e] at h
      cases q : ix (xs ++ r) y with
      | none => rw [q] at h; cases h
      | some k => rw [q] at h; cases h; exact ix_app (xs := xs) q (Nat.lt_of_succ_lt_succ (show k + 1 < xs.length + 1 from hi))
theorem lk_env : ∀ {vs : List AV} {k i : Nat} {v : AV}, lk (envOf k vs) i = some v → k ≤ i ∧ vs[i - k]? = some v
  | [], _, _, _, h => nomatch h
  | w :: vs, k, i, v, h => by
    have h : lk ((k, w) :: envOf (k + 1) vs) i = some v := h
    by_cases e : k = i
    · subst e; rw [lk_self] at h; cases h; exact ⟨Nat.le_refl _, by rw [Nat.sub_self]; rfl⟩
    · rw [lk_ne _ _ e] at h
      obtain ⟨h1, h2⟩ := lk_env h
      refine ⟨Nat.le_of_succ_le h1, ?_⟩
      rw [show i - k = (i - (k + 1)) + 1 by omega]
      exact h2
theorem upds_at : ∀ {xs : List Str} {vs : List AV} {ρ : Loc} {i : Nat} {x : Str} {v : AV}, xs.Nodup → xs[i]? = some x → vs[i]? = some v → upds ρ xs vs x = some v
  | [], _, _, _, _, _, _, h, _ => nomatch h
  | _ :: _, [], _, _, _, _, _, _, h => nomatch h
  | y :: xs, w :: vs, ρ, i, x, v, nd, h1, h2 => by
    rw [List.nodup_cons] at nd
    cases i with
    | zero => cases h1; cases h2; show upds (upd ρ y w) xs vs y = some w; rw [upds_out nd.1]; exact if_pos rfl
    | succ i => exact upds_at (xs := xs) nd.2 h1 h2
theorem Le.args {xs r : List Str} {vs : List AV} {ρ : Loc} (nd : xs.Nodup) (hl : vs.length = xs.length) : Le (ofL (xs ++ r) (envOf 0 vs)) (upds ρ xs vs) := fun y v h => by
  obtain ⟨i, hi, hv⟩ := ofL_of h
  have h2 := (lk_env hv).2
  exact upds_at nd (ix_app hi (by rw [← hl]; exact (List.getElem?_eq_some_iff.mp h2).1)) h2
theorem fcode {C : Cfg} {n : Nat} {X : AHeap → Prop} {f : Addr} {fd : FuncData} {ns xs : List Str} {ps : PSs} {args : List AV} {H : AHeap} {Q : AV → AHeap → Prop} (hc : C.base.get? cStatics ≠ none) (pr : Prims C n) (pr' : Prims C.on n) (er : ExcRules C) (hn : 3 ≤ n) (hlim : C.base.NoLimit)
    (fa : FnAt C f fd ns xs ps) (hl : args.length = xs.length)
    (d : dSs C n X ps (envOf 0 args) H (post Q)) : FCode C (n + 1) X f args H Q := by
  intro A s vs ok hvs
  obtain ⟨o, ho, hd⟩ := fa.fo
  obtain ⟨b, hb, hchk⟩ := fa.body
  have kp := ok.rep.keep
  have hd1 := ok.depth
  have hu1 := ok.units
  have ker : ∀ x ∈ xs.zip vs, fd.scope.names.lookup x.1 = some .local ∨ (fd.scope.names.lookup x.1 = some .cell ∧ ((cellsFrom (s.heap.objs.size + 1) fd.scope.names []).lookup x.1).isSome = true) := fun x hx => by
    have := fa.par x.1 (mem_zip_fst hx)
    simp only [isSt, Bool.or_eq_true, beq_iff_eq] at this
    rcases this with h | h
    · exact .inl h
    · exact .inr ⟨h, cellsFrom_some _ _ _ _ (.inr h)⟩
  refine codeAny_call_cells (fd := fd) (body := toSs ns ps b) (binds := xs.zip vs) (by show A.depth < recursionLimit; have : recursionLimit = 1000 := rfl; omega) (kp _ _ ho) hd (hlim.keeps kp)
    (fa.cd.keeps kp) hb (fa.bind vs (by rw [← hvs.length, hl])) fa.clo ker (fun s1 ic => ?_) fa.co fa.gen fa.kind
  generalize henv : callEnvC fd s.heap.objs.size f = env at ic ⊢
  have eL : env.locals = s.heap.objs.size := by rw [← henv]; rfl
  have eS : env.scope = fd.scope := by rw [← henv]; rfl
  have eC : env.cells = cellsFrom (s.heap.objs.size + 1) fd.scope.names [] := by rw [← henv]; rfl
  have eF : env.frame = some env.locals := by rw [← henv]; rfl
  have eK : ∀ x, env.kindOf x = fd.scope.names.lookup x := fun x => by rw [← henv]; rfl
  have k1 := ic.toInCall.keep
  have g1 : s1.gens = s.gens ∧ s1.os = s.os := by obtain ⟨h', tk, e⟩ := ic.toInCall.same; rw [e]; exact ⟨rfl, rfl⟩
  have rep1 : Rep C H s1 := ⟨fun b o e => k1 b o (kp b o e), fun a o e => let ⟨h1, h2, ob, h3, h4⟩ := ok.rep.obj a o e; ⟨h1, h2, ob, k1 a ob h3, h4⟩, g1.1.trans ok.rep.gens, g1.2.trans ok.rep.os⟩
  have fresh : ∀ a, s.heap.objs.size ≤ a → s.heap.get? a = none := fun a ha => by
    cases q : s.heap.get? a with
    | none => rfl
    | some o => exact absurd (Heap.lt_size q) (Nat.not_lt.mpr ha)
  have frH : ∀ a, s.heap.objs.size ≤ a → H a = none ∧ C.base.get? a = none := fun a ha => by
    have := fresh a ha
    refine ⟨?_, ?_⟩
    · cases q : H a with
      | none => rfl
      | some o => obtain ⟨_, _, ob, h3, _⟩ := ok.rep.obj a o q; rw [this] at h3; cases h3
    · cases q : C.base.get? a with
      | none => rfl
      | some o => rw [kp a o q] at this; cases this
  have br := bind_rep (kind := env.kindOf) (xs := xs) (m := fun _ => none) (cm := fun _ => none) (ρ := fun _ => none) hvs hl.symm (fun _ _ _ z => by cases z) (fun _ _ _ z => by cases z)
  have F : Frm C env (upds (fun _ => none) xs args) H s1 := by
    refine ⟨by rw [eS]; exact fa.kind, by rw [← henv]; exact fa.glob, by rw [← henv]; exact fa.bi, (frH _ (by rw [eL]; exact Nat.le_refl _)).1, (frH _ (by rw [eL]; exact Nat.le_refl _)).2, ⟨_, ic.toInCall.ns, br.1⟩, fun x c hc => ?_, fun x hx => ?_, fun x y c h1 h2 => ?_⟩
    · have ab := ic.above x c (mem_of_lookup hc)
      rw [eL] at ab
      refine ⟨by rw [eL]; exact Nat.ne_of_gt ab, (frH c (Nat.le_of_lt ab)).1, (frH c (Nat.le_of_lt ab)).2, _, ic.cell x c hc, fun av ha hnl => br.2 x av hnl ha⟩
    · rw [eK] at hx
      rcases hx with hx | hx
      · rw [eC]; exact cellsFrom_some _ _ _ _ (.inr hx)
      · exact absurd hx (fa.nofree x)
    · exact name_of_addr ic.apart (mem_of_lookup h1) (mem_of_lookup h2)
  have ownF : ∀ a, own env a → s.heap.get? a = none := fun a ha => by
    rcases ha with rfl | ⟨x, hx⟩
    · exact fresh _ (by rw [eL]; exact Nat.le_refl _)
    · have ab := ic.above x a (mem_of_lookup hx)
      rw [eL] at ab
      exact fresh _ (Nat.le_of_lt ab)
  obtain ⟨outer, fr1, fr2, fr3⟩ := ok.fr
  have tA : TopA (A.deeper env) env := ⟨eF, outer, Around.frames_deeper fr1⟩
  have ok1 : Ok C n (A.deeper env) H s1 := by
    refine ⟨rep1, by show A.depth + 1 + 2 * n ≤ 980; omega, by show A.units + 3 + 20 * n ≤ 9000; omega, ?_, ⟨env :: outer, Around.frames_deeper fr1, ?_, fun e he a ha => ?_⟩, fun o ho => ?_⟩
    · rcases ok.hd with h | ⟨e, o, ws, h1, h2, h3, h4, h5⟩
      · exact .inl h
      · exact .inr ⟨e, o, ws, h1, h2, k1 e o h3, h4, h5⟩
    · obtain ⟨o, ho, hn⟩ := F.own_nf (.inl rfl)
      exact ⟨by rw [F.kind]; decide, ⟨env.locals, o, eF, F.bL, ho, hn⟩, fr2.of_keeps fun b o e _ => ⟨o, k1 b o e, rfl⟩⟩
    · rcases List.mem_cons.mp he with rfl | he
      · rw [eF] at ha; cases ha; exact F.hL
      · exact fr3 e he a ha
    · rw [Around.frames_deeper fr1] at ho
      cases ho
      have := ok.len outer fr1
      simp only [List.length_cons]
      omega
  obtain ⟨r, rfl⟩ := fa.pre
  have js := sSs hc pr pr' er hn ps X env b _ _ H _ F.kind (Le.args (ρ := fun _ => none) fa.nd hl) (by rw [eS]; exact hchk) d
  refine wpAny_mono (js (A.deeper env) s1 ok1 F tA) (fun fl s2 ⟨af, ρ2, H2, rf, r2, F2', so, _, _, q⟩ => ?_) fun e s2 z => ?_
  · have st : Step H H2 s s2 := ⟨fun b o e hb => so.keep b o (k1 b o e) hb fun q => (by rw [ownF b q] at e; cases e), fun a ha => by
      rcases so.fresh a ha with z | z
      · exact .inl z
      · right
        cases q : s.heap.get? a with
        | none => rfl
        | some o => rw [k1 a o q] at z; cases z⟩
    cases af with
    | next => cases rf; exact ⟨.none, H2, rfl, r2, st, q⟩
    | ret v => obtain ⟨cv, rfl, rv⟩ := rf; exact ⟨v, H2, rv, r2, st, q⟩
    | _ => exact q.elim
  · obtain ⟨⟨H', x1, x2, x3, x4, x5⟩, xk⟩ := z
    refine leave_rule (Around.frames_deeper fr1) eF x1 x2 fun h' fn rp up => ?_
    refine ⟨⟨H', (fn A fr1).mono fun B hB b o e hb hf => hB b o (k1 b o e) hb (fun q => by rw [ownF b q] at e; cases e) fun l hl env' he hfr => ?_, rp, fun a ha => ?_, x5⟩, fun b o e hb hn => ?_⟩
    · rw [Around.frames_deeper fr1] at hl
      cases hl
      rcases List.mem_cons.mp he with rfl | he
      · rw [eF] at hfr; cases hfr; rw [fresh _ (by rw [eL]; exact Nat.le_refl _)] at e; cases e
      · exact hf outer fr1 env' he hfr
    · rcases x3 a ha with z | z
      · exact .inl z
      · right
        cases q : s.heap.get? a with
        | none => rfl
        | some o => rw [k1 a o q] at z; cases z
    · obtain ⟨sl, q⟩ := xk b o (k1 b o e) hb (fun q => by rw [ownF b q] at e; cases e) hn
      obtain ⟨sl2, q2⟩ := up b { o with slots := sl } q hn
      exact ⟨sl2, q2⟩
end Mine
end
section
open PySem PySem.W PyProof.Rows PySem.Calls
set_option maxRecDepth 100000
namespace Mine
noncomputable abbrev KH (p : Params) : Frag := KF p
structure Ground (C : Cfg) : Prop where
  k : (KH C.w.params).In C.base
  top : ∃ p loose mg mb, TopRead p loose mg mb C.base
  cf : C.cf = 31
theorem Ground.lim {C : Cfg} (g : Ground C) : C.base.NoLimit := let ⟨_, _, _, _, t⟩ := g.top; t.nolimit
theorem Ground.cs {C : Cfg} (g : Ground C) : C.base.get? cStatics ≠ none := by
  obtain ⟨mc, ⟨o, _, _, ho, _⟩, _⟩ := g.lim
  rw [ho]; intro z; cases z
noncomputable def fdAt (K : Frag) (f : Addr) : FuncData := match K.lookup f with
  | some ⟨_, _, .func fd, _⟩ => fd
  | _ => default
noncomputable def bodyOf (fd : FuncData) : List PySem.Stmt := match fd.body with
  | .stmts b => b
  | _ => []
noncomputable def fnCheck (K : Frag) (fd : FuncData) (ns xs : List Str) (ps : PSs) : Bool :=
  ckSs ns fd.scope.names ps (bodyOf fd) && (codeIn K fd.code fd.qualname && (!fd.scope.isCoroutine && (!fd.scope.isGenerator && (fd.scope.kind == .function && (fd.closure.isEmpty &&
    (fd.globals == mainGlobals && (fd.builtins == builtinsNs && (fd.scope.names.all (fun p => p.2 != .free) && (xs.all (isSt fd.scope.names) && (xs ++ ns.drop xs.length == ns && xs.eraseDups.length == xs.length))))))))))
noncomputable def isFn (K : Frag) (f : Addr) : Bool := match K.lookup f with
  | some o => (match o.data with
    | .func _ => true
    | _ => false)
  | none => false
theorem isFn_at {K : Frag} {f : Addr} (h : isFn K f = true) : ∃ o, K.lookup f = some o ∧ o.data = .func (fdAt K f) := by
  unfold isFn at h
  unfold fdAt
  cases q : K.lookup f with
  | none => rw [q] at h; cases h
  | some o =>
    obtain ⟨c, d, x, sl⟩ := o
    rw [q] at h
    cases x with
    | func fd => exact ⟨_, rfl, rfl⟩
    | _ => cases h
theorem lookup_mem {α β : Type} [BEq α] [LawfulBEq α] : ∀ {l : List (α × β)} {x : α} {b : β}, l.lookup x = some b → (x, b) ∈ l
  | (k, v) :: r, n, c, h => by
    rw [List.lookup_cons] at h
    cases hb : n == k with
    | true => rw [hb] at h; cases h; rw [beq_iff_eq.mp hb]; exact List.mem_cons_self
    | false => rw [hb] at h; exact List.mem_cons_of_mem _ (lookup_mem h)
theorem fnAt_of {C : Cfg} (g : Ground C) {f : Addr} {ns xs : List Str} {ps : PSs} (hf : isFn (KH C.w.params) f = true) (he : (fdAt (KH C.w.params) f).body = .stmts (toSs ns ps (bodyOf (fdAt (KH C.w.params) f)))) (h : fnCheck (KH C.w.params) (fdAt (KH C.w.params) f) ns xs ps = true) (hb : ∀ vs : List Value, vs.length = xs.length → bindArgs (fdAt (KH C.w.params) f) ⟨vs, []⟩ = pure (xs.zip vs)) :
    FnAt C f (fdAt (KH C.w.params) f) ns xs ps := by
  obtain ⟨o, hl, hd⟩ := isFn_at hf
  have k2 := ar h
  have k3 := ar k2
  have k4 := ar k3
  have k5 := ar k4
  have k6 := ar k5
  have k7 := ar k6
  have k8 := ar k7
  have k9 := ar k8
  have k10 := ar k9
  have k11 := ar k10
  refine ⟨⟨_, g.k _ _ hl, hd⟩, codeRec_of g.k (al k2), ⟨_, he, al h⟩, (Bool.not_eq_true' _).mp (al k3), (Bool.not_eq_true' _).mp (al k4), beq_iff_eq.mp (al k5), List.isEmpty_iff.mp (al k6), beq_iff_eq.mp (al k7), beq_iff_eq.mp (al k8), fun x q => ?_, List.all_eq_true.mp (al k10), ⟨_, (beq_iff_eq.mp (al k11)).symm⟩, nodup_of_eraseDups (beq_iff_eq.mp (ar k11)), hb⟩
  have := List.all_eq_true.mp (al k9) _ (lookup_mem q)
  cases this
theorem globK {C : Cfg} (g : Ground C) {x : Str} {v : Value} (e : nsIn (KH C.w.params) mainGlobals x = some (some v)) : GlobIs C x v := by
  intro M A E s env Q k hg hb hq
  obtain ⟨p, l, mg, mb, T⟩ := g.top
  refine loadGlobal_global (mg := mg) ?_ (mg_of g.k T.g e) hq
  rw [hg]; exact T.g.keeps k
theorem globB {C : Cfg} (g : Ground C) {x : Str} {v : Value} (e : nsIn (KH C.w.params) mainGlobals x = some none) (hv : bootBuiltins x = some v) (hn : x ≠ "__name__") : GlobIs C x v := by
  intro M A E s env Q k hg hb hq
  obtain ⟨p, l, mg, mb, T⟩ := g.top
  refine loadGlobal_builtin (mg := mg) (mb := mb) ?_ (mg_none_of g.k T.g e) ?_ ((T.builtins x hn).trans hv) hq
  · rw [hg]; exact T.g.keeps k
  · rw [hb]; exact T.b.keeps k
theorem calleeK {C : Cfg} (g : Ground C) {f : Value} (e : keepIn (KH C.w.params) f = true) : CalleeOk C f := fun M h k =>
  let ⟨r, h1, h2⟩ := keeps_K (M := M) e h (g.k.keeps k)
  ⟨r, h1, h2⟩
theorem len1 {vs : List Value} (h : vs.length = 1) : ∃ a, vs = [a] := by
  rcases vs with _ | ⟨a, _ | ⟨b, r⟩⟩ <;> first | exact ⟨_, rfl⟩ | (simp at h)
theorem len2 {vs : List Value} (h : vs.length = 2) : ∃ a b, vs = [a, b] := by
  rcases vs with _ | ⟨a, r⟩
  · cases h
  · obtain ⟨b, rfl⟩ := len1 (vs := r) (by simpa using h); exact ⟨_, _, rfl⟩
theorem len3 {vs : List Value} (h : vs.length = 3) : ∃ a b c, vs = [a, b, c] := by
  rcases vs with _ | ⟨a, r⟩
  · cases h
  · obtain ⟨b, c, rfl⟩ := len2 (vs := r) (by simpa using h); exact ⟨_, _, _, rfl⟩
theorem len4 {vs : List Value} (h : vs.length = 4) : ∃ a b c d, vs = [a, b, c, d] := by
  rcases vs with _ | ⟨a, r⟩
  · cases h
  · obtain ⟨b, c, d, rfl⟩ := len3 (vs := r) (by simpa using h); exact ⟨_, _, _, _, rfl⟩
theorem len5 {vs : List Value} (h : vs.length = 5) : ∃ a b c d e, vs = [a, b, c, d, e] := by
  rcases vs with _ | ⟨a, r⟩
  · cases h
  · obtain ⟨b, c, d, e, rfl⟩ := len4 (vs := r) (by simpa using h); exact ⟨_, _, _, _, _, rfl⟩
theorem len6 {vs : List Value} (h : vs.length = 6) : ∃ a b c d e f, vs = [a, b, c, d, e, f] := by
  rcases vs with _ | ⟨a, r⟩
  · cases h
  · obtain ⟨b, c, d, e, f, rfl⟩ := len5 (vs := r) (by simpa using h); exact ⟨_, _, _, _, _, _, rfl⟩
theorem len7 {vs : List Value} (h : vs.length = 7) : ∃ a b c d e f i, vs = [a, b, c, d, e, f, i] := by
  rcases vs with _ | ⟨a, r⟩
  · cases h
  · obtain ⟨b, c, d, e, f, i, rfl⟩ := len6 (vs := r) (by simpa using h); exact ⟨_, _, _, _, _, _, _, rfl⟩
end Mine
end
section
open PySem PySem.W PyProof.Rows PySem.Calls
set_option maxRecDepth 100000
namespace Mine
theorem fn_Pools_init {C : Cfg} (g : Ground C) : FnAt C 48 (fdAt (KH C.w.params) 48) m_Pools_init ["self", "temps", "saved"] Pools_init :=
  fnAt_of g (by kernel_rfl) (by kernel_rfl) (by kernel_rfl) fun vs h => by obtain ⟨a, b, c, rfl⟩ := len3 h; kernel_rfl
theorem ce_Pools_init {C : Cfg} (g : Ground C) : CalleeOk C (.ref 48) := calleeK g (by kernel_rfl)
theorem fn_Pools_of {C : Cfg} (g : Ground C) : FnAt C 55 (fdAt (KH C.w.params) 55) m_Pools_of ["self", "graph", "register"] Pools_of :=
  fnAt_of g (by kernel_rfl) (by kernel_rfl) (by kernel_rfl) fun vs h => by obtain ⟨a, b, c, rfl⟩ := len3 h; kernel_rfl
theorem ce_Pools_of {C : Cfg} (g : Ground C) : CalleeOk C (.ref 55) := calleeK g (by kernel_rfl)
theorem fn_Graph_init {C : Cfg} (g : Ground C) : FnAt C 76 (fdAt (KH C.w.params) 76) m_Graph_init ["self"] Graph_init :=
  fnAt_of g (by kernel_rfl) (by kernel_rfl) (by kernel_rfl) fun vs h => by obtain ⟨a, rfl⟩ := len1 h; kernel_rfl
theorem ce_Graph_init {C : Cfg} (g : Ground C) : CalleeOk C (.ref 76) := calleeK g (by kernel_rfl)
theorem fn_Graph_add {C : Cfg} (g : Ground C) : FnAt C 83 (fdAt (KH C.w.params) 83) m_Graph_add ["self", "register"] Graph_add :=
  fnAt_of g (by kernel_rfl) (by kernel_rfl) (by kernel_rfl) fun vs h => by obtain ⟨a, b, rfl⟩ := len2 h; kernel_rfl
theorem ce_Graph_add {C : Cfg} (g : Ground C) : CalleeOk C (.ref 83) := calleeK g (by kernel_rfl)
theorem fn_Graph_touch {C : Cfg} (g : Ground C) : FnAt C 90 (fdAt (KH C.w.params) 90) m_Graph_touch ["self", "register", "weight"] Graph_touch :=
  fnAt_of g (by kernel_rfl) (by kernel_rfl) (by kernel_rfl) fun vs h => by obtain ⟨a, b, c, rfl⟩ := len3 h; kernel_rfl
theorem ce_Graph_touch {C : Cfg} (g : Ground C) : CalleeOk C (.ref 90) := calleeK g (by kernel_rfl)
theorem fn_Graph_join {C : Cfg} (g : Ground C) : FnAt C 97 (fdAt (KH C.w.params) 97) m_Graph_join ["self", "one", "other"] Graph_join :=
  fnAt_of g (by kernel_rfl) (by kernel_rfl) (by kernel_rfl) fun vs h => by obtain ⟨a, b, c, rfl⟩ := len3 h; kernel_rfl
theorem ce_Graph_join {C : Cfg} (g : Ground C) : CalleeOk C (.ref 97) := calleeK g (by kernel_rfl)
theorem fn_Graph_leader {C : Cfg} (g : Ground C) : FnAt C 104 (fdAt (KH C.w.params) 104) m_Graph_leader ["self", "register"] Graph_leader :=
  fnAt_of g (by kernel_rfl) (by kernel_rfl) (by kernel_rfl) fun vs h => by obtain ⟨a, b, rfl⟩ := len2 h; kernel_rfl
theorem ce_Graph_leader {C : Cfg} (g : Ground C) : CalleeOk C (.ref 104) := calleeK g (by kernel_rfl)
theorem fn_Graph_leaders {C : Cfg} (g : Ground C) : FnAt C 109 (fdAt (KH C.w.params) 109) m_Graph_leaders ["self"] Graph_leaders :=
  fnAt_of g (by kernel_rfl) (by kernel_rfl) (by kernel_rfl) fun vs h => by obtain ⟨a, rfl⟩ := len1 h; kernel_rfl
theorem ce_Graph_leaders {C : Cfg} (g : Ground C) : CalleeOk C (.ref 109) := calleeK g (by kernel_rfl)
theorem fn_Graph_members {C : Cfg} (g : Ground C) : FnAt C 114 (fdAt (KH C.w.params) 114) m_Graph_members ["self", "leader"] Graph_members :=
  fnAt_of g (by kernel_rfl) (by kernel_rfl) (by kernel_rfl) fun vs h => by obtain ⟨a, b, rfl⟩ := len2 h; kernel_rfl
theorem ce_Graph_members {C : Cfg} (g : Ground C) : CalleeOk C (.ref 114) := calleeK g (by kernel_rfl)
theorem fn_Graph_merge {C : Cfg} (g : Ground C) : FnAt C 121 (fdAt (KH C.w.params) 121) m_Graph_merge ["self", "one", "other"] Graph_merge :=
  fnAt_of g (by kernel_rfl) (by kernel_rfl) (by kernel_rfl) fun vs h => by obtain ⟨a, b, c, rfl⟩ := len3 h; kernel_rfl
theorem ce_Graph_merge {C : Cfg} (g : Ground C) : CalleeOk C (.ref 121) := calleeK g (by kernel_rfl)
theorem fn_is_safe {C : Cfg} (g : Ground C) : FnAt C 135 (fdAt (KH C.w.params) 135) n_is_safe ["graph", "pools", "one", "other"] f_is_safe :=
  fnAt_of g (by kernel_rfl) (by kernel_rfl) (by kernel_rfl) fun vs h => by obtain ⟨a, b, c, d, rfl⟩ := len4 h; kernel_rfl
theorem ce_is_safe {C : Cfg} (g : Ground C) : CalleeOk C (.ref 135) := calleeK g (by kernel_rfl)
theorem gl_is_safe {C : Cfg} (g : Ground C) : GlobIs C "is_safe" (.ref 135) := globK g (by kernel_rfl)
theorem fn_coalesce {C : Cfg} (g : Ground C) : FnAt C 142 (fdAt (KH C.w.params) 142) n_coalesce ["graph", "pools", "frozen"] f_coalesce :=
  fnAt_of g (by kernel_rfl) (by kernel_rfl) (by kernel_rfl) fun vs h => by obtain ⟨a, b, c, rfl⟩ := len3 h; kernel_rfl
theorem ce_coalesce {C : Cfg} (g : Ground C) : CalleeOk C (.ref 142) := calleeK g (by kernel_rfl)
theorem gl_coalesce {C : Cfg} (g : Ground C) : GlobIs C "coalesce" (.ref 142) := globK g (by kernel_rfl)
theorem fn_worth_of {C : Cfg} (g : Ground C) : FnAt C 149 (fdAt (KH C.w.params) 149) n_worth_of ["graph", "degree", "register"] f_worth_of :=
  fnAt_of g (by kernel_rfl) (by kernel_rfl) (by kernel_rfl) fun vs h => by obtain ⟨a, b, c, rfl⟩ := len3 h; kernel_rfl
theorem ce_worth_of {C : Cfg} (g : Ground C) : CalleeOk C (.ref 149) := calleeK g (by kernel_rfl)
theorem gl_worth_of {C : Cfg} (g : Ground C) : GlobIs C "worth_of" (.ref 149) := globK g (by kernel_rfl)
theorem fn_cheapest {C : Cfg} (g : Ground C) : FnAt C 156 (fdAt (KH C.w.params) 156) n_cheapest ["graph", "degree", "left", "frozen"] f_cheapest :=
  fnAt_of g (by kernel_rfl) (by kernel_rfl) (by kernel_rfl) fun vs h => by obtain ⟨a, b, c, d, rfl⟩ := len4 h; kernel_rfl
theorem ce_cheapest {C : Cfg} (g : Ground C) : CalleeOk C (.ref 156) := calleeK g (by kernel_rfl)
theorem gl_cheapest {C : Cfg} (g : Ground C) : GlobIs C "cheapest" (.ref 156) := globK g (by kernel_rfl)
theorem fn_stacked {C : Cfg} (g : Ground C) : FnAt C 163 (fdAt (KH C.w.params) 163) n_stacked ["graph", "pools", "frozen"] f_stacked :=
  fnAt_of g (by kernel_rfl) (by kernel_rfl) (by kernel_rfl) fun vs h => by obtain ⟨a, b, c, rfl⟩ := len3 h; kernel_rfl
theorem ce_stacked {C : Cfg} (g : Ground C) : CalleeOk C (.ref 163) := calleeK g (by kernel_rfl)
theorem gl_stacked {C : Cfg} (g : Ground C) : GlobIs C "stacked" (.ref 163) := globK g (by kernel_rfl)
theorem fn_mates_of {C : Cfg} (g : Ground C) : FnAt C 170 (fdAt (KH C.w.params) 170) n_mates_of ["graph"] f_mates_of :=
  fnAt_of g (by kernel_rfl) (by kernel_rfl) (by kernel_rfl) fun vs h => by obtain ⟨a, rfl⟩ := len1 h; kernel_rfl
theorem ce_mates_of {C : Cfg} (g : Ground C) : CalleeOk C (.ref 170) := calleeK g (by kernel_rfl)
theorem gl_mates_of {C : Cfg} (g : Ground C) : GlobIs C "mates_of" (.ref 170) := globK g (by kernel_rfl)
theorem fn_victim_of {C : Cfg} (g : Ground C) : FnAt C 175 (fdAt (KH C.w.params) 175) n_victim_of ["graph", "register", "frozen"] f_victim_of :=
  fnAt_of g (by kernel_rfl) (by kernel_rfl) (by kernel_rfl) fun vs h => by obtain ⟨a, b, c, rfl⟩ := len3 h; kernel_rfl
theorem ce_victim_of {C : Cfg} (g : Ground C) : CalleeOk C (.ref 175) := calleeK g (by kernel_rfl)
theorem gl_victim_of {C : Cfg} (g : Ground C) : GlobIs C "victim_of" (.ref 175) := globK g (by kernel_rfl)
theorem fn_number_for {C : Cfg} (g : Ground C) : FnAt C 182 (fdAt (KH C.w.params) 182) n_number_for ["allowed", "taken", "wished"] f_number_for :=
  fnAt_of g (by kernel_rfl) (by kernel_rfl) (by kernel_rfl) fun vs h => by obtain ⟨a, b, c, rfl⟩ := len3 h; kernel_rfl
theorem ce_number_for {C : Cfg} (g : Ground C) : CalleeOk C (.ref 182) := calleeK g (by kernel_rfl)
theorem gl_number_for {C : Cfg} (g : Ground C) : GlobIs C "number_for" (.ref 182) := globK g (by kernel_rfl)
theorem fn_coloured {C : Cfg} (g : Ground C) : FnAt C 187 (fdAt (KH C.w.params) 187) n_coloured ["graph", "pools", "frozen"] f_coloured :=
  fnAt_of g (by kernel_rfl) (by kernel_rfl) (by kernel_rfl) fun vs h => by obtain ⟨a, b, c, rfl⟩ := len3 h; kernel_rfl
theorem ce_coloured {C : Cfg} (g : Ground C) : CalleeOk C (.ref 187) := calleeK g (by kernel_rfl)
theorem gl_coloured {C : Cfg} (g : Ground C) : GlobIs C "coloured" (.ref 187) := globK g (by kernel_rfl)
theorem fn_law_draw {C : Cfg} (g : Ground C) : FnAt C 194 (fdAt (KH C.w.params) 194) n_law_draw ["well", "size"] f_law_draw :=
  fnAt_of g (by kernel_rfl) (by kernel_rfl) (by kernel_rfl) fun vs h => by obtain ⟨a, b, rfl⟩ := len2 h; kernel_rfl
theorem ce_law_draw {C : Cfg} (g : Ground C) : CalleeOk C (.ref 194) := calleeK g (by kernel_rfl)
theorem gl_law_draw {C : Cfg} (g : Ground C) : GlobIs C "_law_draw" (.ref 194) := globK g (by kernel_rfl)
theorem fn_law_easy {C : Cfg} (g : Ground C) : FnAt C 199 (fdAt (KH C.w.params) 199) n_law_easy ["near", "crossing", "kept", "every"] f_law_easy :=
  fnAt_of g (by kernel_rfl) (by kernel_rfl) (by kernel_rfl) fun vs h => by obtain ⟨a, b, c, d, rfl⟩ := len4 h; kernel_rfl
theorem ce_law_easy {C : Cfg} (g : Ground C) : CalleeOk C (.ref 199) := calleeK g (by kernel_rfl)
theorem gl_law_easy {C : Cfg} (g : Ground C) : GlobIs C "_law_easy" (.ref 199) := globK g (by kernel_rfl)
theorem fn_law_drawn {C : Cfg} (g : Ground C) : FnAt C 204 (fdAt (KH C.w.params) 204) n_law_drawn ["well", "graph", "many"] f_law_drawn :=
  fnAt_of g (by kernel_rfl) (by kernel_rfl) (by kernel_rfl) fun vs h => by obtain ⟨a, b, c, rfl⟩ := len3 h; kernel_rfl
theorem ce_law_drawn {C : Cfg} (g : Ground C) : CalleeOk C (.ref 204) := calleeK g (by kernel_rfl)
theorem gl_law_drawn {C : Cfg} (g : Ground C) : GlobIs C "_law_drawn" (.ref 204) := globK g (by kernel_rfl)
theorem fn_law_group {C : Cfg} (g : Ground C) : FnAt C 211 (fdAt (KH C.w.params) 211) n_law_group ["head", "heads", "twins"] f_law_group :=
  fnAt_of g (by kernel_rfl) (by kernel_rfl) (by kernel_rfl) fun vs h => by obtain ⟨a, b, c, rfl⟩ := len3 h; kernel_rfl
theorem ce_law_group {C : Cfg} (g : Ground C) : CalleeOk C (.ref 211) := calleeK g (by kernel_rfl)
theorem gl_law_group {C : Cfg} (g : Ground C) : GlobIs C "_law_group" (.ref 211) := globK g (by kernel_rfl)
theorem fn_law_joined {C : Cfg} (g : Ground C) : FnAt C 216 (fdAt (KH C.w.params) 216) n_law_joined ["graph", "near", "costs", "crossing", "twins", "frozen"] f_law_joined :=
  fnAt_of g (by kernel_rfl) (by kernel_rfl) (by kernel_rfl) fun vs h => by obtain ⟨a, b, c, d, e, f, rfl⟩ := len6 h; kernel_rfl
theorem ce_law_joined {C : Cfg} (g : Ground C) : CalleeOk C (.ref 216) := calleeK g (by kernel_rfl)
theorem gl_law_joined {C : Cfg} (g : Ground C) : GlobIs C "_law_joined" (.ref 216) := globK g (by kernel_rfl)
theorem fn_law_is_unsafe {C : Cfg} (g : Ground C) : FnAt C 221 (fdAt (KH C.w.params) 221) n_law_is_unsafe ["beside", "crosses", "one", "other", "kept", "every"] f_law_is_unsafe :=
  fnAt_of g (by kernel_rfl) (by kernel_rfl) (by kernel_rfl) fun vs h => by obtain ⟨a, b, c, d, e, f, rfl⟩ := len6 h; kernel_rfl
theorem ce_law_is_unsafe {C : Cfg} (g : Ground C) : CalleeOk C (.ref 221) := calleeK g (by kernel_rfl)
theorem gl_law_is_unsafe {C : Cfg} (g : Ground C) : GlobIs C "_law_is_unsafe" (.ref 221) := globK g (by kernel_rfl)
theorem fn_law_is_stuck {C : Cfg} (g : Ground C) : FnAt C 226 (fdAt (KH C.w.params) 226) n_law_is_stuck ["beside", "crosses", "frozen", "kept", "every"] f_law_is_stuck :=
  fnAt_of g (by kernel_rfl) (by kernel_rfl) (by kernel_rfl) fun vs h => by obtain ⟨a, b, c, d, e, rfl⟩ := len5 h; kernel_rfl
theorem ce_law_is_stuck {C : Cfg} (g : Ground C) : CalleeOk C (.ref 226) := calleeK g (by kernel_rfl)
theorem gl_law_is_stuck {C : Cfg} (g : Ground C) : GlobIs C "_law_is_stuck" (.ref 226) := globK g (by kernel_rfl)
theorem fn_law_is_coloured {C : Cfg} (g : Ground C) : FnAt C 231 (fdAt (KH C.w.params) 231) n_law_is_coloured ["beside", "crosses", "frozen", "colours", "lost", "temps", "saved"] f_law_is_coloured :=
  fnAt_of g (by kernel_rfl) (by kernel_rfl) (by kernel_rfl) fun vs h => by obtain ⟨a, b, c, d, e, f, i, rfl⟩ := len7 h; kernel_rfl
theorem ce_law_is_coloured {C : Cfg} (g : Ground C) : CalleeOk C (.ref 231) := calleeK g (by kernel_rfl)
theorem gl_law_is_coloured {C : Cfg} (g : Ground C) : GlobIs C "_law_is_coloured" (.ref 231) := globK g (by kernel_rfl)
theorem fn_law {C : Cfg} (g : Ground C) : FnAt C 236 (fdAt (KH C.w.params) 236) n_law ["script"] f_law :=
  fnAt_of g (by kernel_rfl) (by kernel_rfl) (by kernel_rfl) fun vs h => by obtain ⟨a, rfl⟩ := len1 h; kernel_rfl
theorem ce_law {C : Cfg} (g : Ground C) : CalleeOk C (.ref 236) := calleeK g (by kernel_rfl)
theorem gl_law {C : Cfg} (g : Ground C) : GlobIs C "law" (.ref 236) := globK g (by kernel_rfl)
end Mine
end
section
open PySem PySem.W PyProof.Rows PySem.Calls
namespace Mine
section
variable {C : Cfg} {n : Nat} {H : AHeap} {Q : AV → AHeap → Prop} {A : Around} {s : Shared}
theorem qv {av : AV} {v : Value} (r : Rep C H s) (hr : RepV av v) (hq : Q av H) (t : Nat) : QP C RepV H s Q v { s with toks := t } := ⟨av, H, hr, r.tok t, Step.tok H s t, hq⟩
theorem qv0 {av : AV} {v : Value} (r : Rep C H s) (hr : RepV av v) (hq : Q av H) : QP C RepV H s Q v s := ⟨av, H, hr, r, Step.refl H s, hq⟩
theorem qb0 {b : Bool} {Q : Bool → AHeap → Prop} (r : Rep C H s) (hq : Q b H) : QP C Eq H s Q b s := ⟨b, H, rfl, r, Step.refl H s, hq⟩
theorem qbt {b : Bool} {Q : Bool → AHeap → Prop} (r : Rep C H s) (hq : Q b H) (t : Nat) : QP C Eq H s Q b { s with toks := t } := ⟨b, H, rfl, r.tok t, Step.tok H s t, hq⟩
theorem qi {i : Int} {k : Tok} (r : Rep C H s) (hq : Q (.int i) H) (t : Nat) : QP C RepV H s Q (.int i k) { s with toks := t } := qv (av := .int i) r ⟨k, rfl⟩ hq t
theorem qb {b : Bool} (r : Rep C H s) (hq : Q (.bool b) H) : QP C RepV H s Q (.bool b) s := qv0 (av := .bool b) r rfl hq
theorem qbT {b : Bool} (r : Rep C H s) (hq : Q (.bool b) H) (t : Nat) : QP C RepV H s Q (.bool b) { s with toks := t } := qv (av := .bool b) r rfl hq t
theorem small_bits {b : Int} (h : b.natAbs < 2 ^ 63) : Builtin.Int.intBits b ≤ 64 := by
  unfold Builtin.Int.intBits
  split
  · omega
  · have h0 : b.natAbs ≠ 0 := by rename_i h1; simp at h1; omega
    have := (Nat.log2_lt h0).mpr h
    omega
theorem no_pylong {a b : Int} (h : b.natAbs < 2 ^ 63) : ¬ Builtin.divisionGoesByPylong a b = true := by
  unfold Builtin.divisionGoesByPylong
  intro q
  simp only [Bool.and_eq_true, decide_eq_true_eq] at q
  obtain ⟨q1, _⟩ := q
  split at q1
  · omega
  · have h0 : b.natAbs ≠ 0 := by rename_i h1; simp at h1; omega
    have := (Nat.log2_lt h0).mpr h
    omega
theorem bin_int {op : Operator} {a b : Int} (h : eBin op (.int a) (.int b) H Q) : PBin C n op (.int a) (.int b) H Q := by
  rintro va vb ⟨t, rfl⟩ ⟨u, rfl⟩ A E s ok
  cases op with
  | Add => exact P.add_int (qi ok.rep h _)
  | Sub => exact P.sub_int (qi ok.rep h _)
  | Mult =>
    obtain ⟨h1, h2⟩ := h
    exact P.mul_int (qi ok.rep h2 _) (IntMulOk.of_right (small_bits (by omega)))
  | FloorDiv =>
    obtain ⟨⟨h1, h2⟩, h3⟩ := h
    have e : a.fdiv b = a / b := Int.fdiv_eq_ediv_of_nonneg _ (by omega)
    refine AutoIntOps.floordiv_1 (by simp; omega) (no_pylong (by omega)) ?_
    rw [e]
    exact qi ok.rep h3 _
  | Mod =>
    obtain ⟨h1, h3⟩ := h
    have e : a.fmod b = a % b := Int.fmod_eq_emod_of_nonneg _ (by omega)
    refine AutoIntOps.mod_1 (by simp; omega) ?_
    rw [e]
    exact qi ok.rep h3 _
  | Pow =>
    obtain ⟨⟨rfl, h1, h2⟩, h3⟩ := h
    by_cases q : b = 0
    · subst q; exact AutoIntOps.pow_0 (by omega) (by simp) (qi ok.rep h3 _)
    · refine AutoIntOps.pow_4 (by omega) (by simpa using q) (by decide) (by decide) ?_ (qi ok.rep h3 _)
      have e1 : Builtin.Int.intBits 2 = 2 := by decide
      have e2 : bitsLine = 2 ^ 27 := rfl
      unfold Builtin.Int.intTooBig
      rw [e1, e2]
      simp only [decide_eq_true_eq]
      omega
  | _ => exact False.elim h
end
end Mine
end
section
open PySem PySem.W PyProof.Rows PySem.Calls
namespace Mine
section
variable {C : Cfg} {n : Nat} {H : AHeap} {Q : AV → AHeap → Prop} {A : Around} {s : Shared}
theorem dictOf_of {a : Addr} {d : List (Int × AV)} {ep : Nat} (r : Rep C H s) (h : H a = some (.dict d ep)) : ∃ kvs, s.heap.DictOf (intKind C.prog C.w) a kvs ∧ F2 RepP d kvs := by
  obtain ⟨_, _, ob, ho, kvs, ⟨es, h1, h2, h3, h4, h5⟩, h6⟩ := r.obj a _ h
  exact ⟨kvs, ⟨ob, es, ep, ho, h1, h2, h3, h4, h5⟩, h6⟩
theorem notMods {a : Addr} {o : AO} (r : Rep C H s) (h : H a = some o) : (a == sysModules) = false := beq_eq_false_iff_ne.mpr (r.obj a o h).2.1
theorem isInt_lit (k : Int) (t : Tok) : (intKind C.prog C.w).is k (.int k t) = true := by simp [intKind, Value.isInt]
theorem lookup_rep {l : List (Int × AV)} {kvs : List (Int × Value)} (h : F2 RepP l kvs) (k : Int) : (l.lookup k = none ∧ valueAt kvs k = none) ∨ ∃ v cv, l.lookup k = some v ∧ valueAt kvs k = some cv ∧ RepV v cv := by
  induction h with
  | nil => exact .inl ⟨rfl, rfl⟩
  | @cons a b l m h1 _ ih =>
    obtain ⟨e, rv⟩ := h1
    by_cases q : k = a.1
    · right
      refine ⟨a.2, b.2, ?_, ?_, rv⟩
      · rw [List.lookup_cons, beq_iff_eq.mpr q]
      · unfold valueAt; rw [List.find?_cons, decide_eq_true (by rw [← e, q])]; rfl
    · rw [List.lookup_cons, beq_eq_false_iff_ne.mpr q]
      have : valueAt (b :: m) k = valueAt m k := by
        unfold valueAt; rw [List.find?_cons, decide_eq_false (by rw [← e]; exact fun z => q z.symm)]
      rw [this]
      exact ih
theorem ints_of {l : List AV} {vs : List Value} (h : F2 RepV l vs) (hi : l.all isI = true) : IntsAre vs (l.map getI) := by
  induction h with
  | nil => exact .nil
  | @cons a b l m h1 _ ih =>
    rw [List.all_cons, Bool.and_eq_true] at hi
    cases a with
    | int i => obtain ⟨t, rfl⟩ := h1; exact .cons i t (ih hi.2)
    | _ => simp [isI] at hi
theorem map_getI {l : List AV} (hi : l.all isI = true) : (l.map getI).map AV.int = l := by
  induction l with
  | nil => rfl
  | cons a l ih =>
    rw [List.all_cons, Bool.and_eq_true] at hi
    rw [List.map_cons, List.map_cons, ih hi.2]
    cases a with
    | int i => rfl
    | _ => simp [isI] at hi
theorem getI_eq {l m : List AV} (h1 : l.all isI = true) (h2 : m.all isI = true) : (l.map getI = m.map getI) ↔ l = m :=
  ⟨fun e => by rw [← map_getI h1, ← map_getI h2, e], fun e => by rw [e]⟩
theorem mem_getI {l : List AV} (h1 : l.all isI = true) (k : Int) : (l.map getI).any (· == k) = decide (AV.int k ∈ l) := by
  rw [Bool.eq_iff_iff, List.any_eq_true, decide_eq_true_iff]
  constructor
  · rintro ⟨x, hx, e⟩
    rw [beq_iff_eq] at e; subst e
    rw [← map_getI h1]
    exact List.mem_map_of_mem hx
  · intro h
    refine ⟨k, ?_, by simp⟩
    exact List.mem_map.mpr ⟨_, h, rfl⟩
theorem ibeq (x y : Int) : (x == y) = decide (x = y) := by rw [Bool.eq_iff_iff]; simp
noncomputable def BT (T : Bool → AHeap → Prop) (v : AV) (H : AHeap) : Prop := ∃ b, v = .bool b ∧ T b H
theorem qbB {b : Bool} {T : Bool → AHeap → Prop} (r : Rep C H s) (hq : T b H) : QP C RepV H s (BT T) (.bool b) s := qb r ⟨b, rfl, hq⟩
theorem in_step {k : Int} {d : Addr} {neg : Bool} {T : Bool → AHeap → Prop} (h : kIn k d H fun r => T (bif neg then !r else r)) : PCmp C n (bif neg then .NotIn else .In) (.int k) (.ref d) H (BT T) := by
  rintro va vb ⟨t, rfl⟩ rb A E s ok
  cases rb
  unfold kIn at h
  rcases h with ⟨l, ep, e, h⟩ | ⟨l, e, hi, hq⟩
  · obtain ⟨kvs, h1, h2⟩ := dictOf_of ok.rep e
    have e2 : (valueAt kvs k).isSome = (l.lookup k).isSome := by
      rcases lookup_rep h2 k with ⟨a, b⟩ | ⟨v, cv, a, b, _⟩ <;> rw [a, b] <;> rfl
    cases neg with
    | false => exact wpAny_in_of (knd := intKind C.prog C.w) (isInt_lit k t) (notMods ok.rep e) h1.mapOf (by rw [e2]; exact qbT ok.rep ⟨_, rfl, h⟩ _)
    | true => exact wpAny_notIn_of (knd := intKind C.prog C.w) (isInt_lit k t) (notMods ok.rep e) h1.mapOf (by rw [e2]; exact qbT ok.rep ⟨_, rfl, h⟩ _)
  · obtain ⟨vs, h1, h2⟩ := isList_of ok.rep e
    cases neg with
    | false => exact in_list_ints h1 (ints_of h2 hi) (by rw [mem_getI hi]; exact qbB ok.rep hq)
    | true => exact notin_list_ints h1 (ints_of h2 hi) (by rw [mem_getI hi]; exact qbB ok.rep hq)
theorem bool1_of {a : AV} {K : Bool → Prop} (h : bool1 a K) : ∃ i, a = .bool i ∧ K i := by
  cases a with
  | bool i => exact ⟨i, rfl, h⟩
  | _ => exact h.elim
theorem eq_step {a b : AV} {neg : Bool} {T : Bool → AHeap → Prop} (h : eEq a b H fun r => T (bif neg then !r else r)) : PCmp C n (bif neg then .NotEq else .Eq) a b H (BT T) := by
  rintro va vb ra rb A E s ok
  have hu : A.units + 64 < cLine := by have := ok.units; have : cLine = 9900 := rfl; omega
  cases a with
  | int x =>
    obtain ⟨y, rfl, _⟩ := int1_of h; clear h; rename_i h
    obtain ⟨t, rfl⟩ := ra
    obtain ⟨u, rfl⟩ := rb
    cases neg with
    | false => exact P.eq_int (qbB ok.rep (by rw [ibeq]; exact h))
    | true =>
      refine P.ne_int (qbB ok.rep ?_)
      have : (x != y) = !(decide (x = y)) := by unfold bne; rw [ibeq]
      rw [this]; exact h
  | bool x =>
    obtain ⟨y, rfl, _⟩ := bool1_of h; clear h; rename_i h
    cases ra; cases rb
    cases neg with
    | false => exact eq_bool (qbB ok.rep h)
    | true => exact ne_bool (qbB ok.rep h)
  | ref x =>
    obtain ⟨y, rfl, _⟩ := ref1_of h; clear h; rename_i h
    cases ra; cases rb
    unfold kEq at h
    rcases h with ⟨l, l', e1, e2, i1, i2, _, _, hq⟩ | ⟨l, ep, ep', e1, e2, _, hq⟩
    · obtain ⟨vs, g1, g2⟩ := isList_of ok.rep e1
      obtain ⟨us, g3, g4⟩ := isList_of ok.rep e2
      have ed : decide ((l.map getI) = (l'.map getI)) = decide (l = l') := decide_eq_decide.mpr (getI_eq i1 i2)
      cases neg with
      | false => exact eq_intsK g1 (ints_of g2 i1) g3 (ints_of g4 i2) hu (by rw [ed]; exact qbB ok.rep hq)
      | true => exact ne_intsK g1 (ints_of g2 i1) g3 (ints_of g4 i2) hu (by rw [ed]; exact qbB ok.rep hq)
    · obtain ⟨ka, g1, g2⟩ := dictOf_of ok.rep e1
      obtain ⟨kb, g3, g4⟩ := dictOf_of ok.rep e2
      have z : kb = [] := by cases g4; rfl
      subst z
      have el : (ka.length == ([] : List (Int × Value)).length && true) = l.isEmpty := by
        cases g2 with
        | nil => rfl
        | cons _ _ => rfl
      have hits : ka.length = ([] : List (Int × Value)).length → KeqHits A.in1 s [] ka true := fun q => by
        have : ka = [] := List.length_eq_zero_iff.mp q
        subst this; exact .nil
      have hu' : A.units + 63 < cLine := by omega
      cases neg with
      | false => exact keq_eq (notMods ok.rep e1) (notMods ok.rep e2) g1 g3 (by omega) hits (by rw [el]; exact qbB ok.rep hq)
      | true => exact keq_ne (notMods ok.rep e1) (notMods ok.rep e2) g1 g3 (by omega) hits (by rw [el]; exact qbB ok.rep hq)
  | _ => exact h.elim
end
end Mine
end
section
open PySem PySem.W PyProof.Rows PySem.Calls
namespace Mine
theorem tuple_lt2 (l b : Addr) (x x' : Bool) (y y' : Int) (t u : Tok) (n n2 : Nat) (dd dd2 : Option Addr) (sl sl2 : Array (Option Value)) :
    Meets (Builtin.«tuple.__lt__» ⟨[.ref l, .ref b], []⟩)
      (fun A R s => s.heap.get? l = some { cls := .type "tuple", dict := dd, data := .seq #[.bool x, .int y t] n, slots := sl } ∧ s.heap.get? b = some { cls := .type "tuple", dict := dd2, data := .seq #[.bool x', .int y' u] n2, slots := sl2 } ∧
        R (.ok (.ret (.bool (decide ((x = false ∧ x' = true) ∨ (x = x' ∧ y < y')))))) s) :=
  .of_wp fun prog w A R s h => by
    obtain ⟨hp, g, d, tk, os⟩ := s; obtain ⟨hl, hb, h⟩ := h
    have f2 := AutoSeq1.sub_tuple_tuple
    wp_walk using wpAny_loadPart' hl, wpAny_loadPart' hb
    refine (show wpAny _ _ (eqBool (.bool x) (.bool x')) _ _ _ from SeqAt.EqAt.bool_bool x x' prog w _ _ ?_)
    by_cases q : x = x'
    · subst q
      rw [beq_self_eq_true]
      refine wpAny_pure ?_
      wp_walk
      refine (show wpAny _ _ (eqBool (.int y t) (.int y' u)) _ _ _ from SeqAt.EqAt.int_int y t y' u prog w _ _ ?_)
      by_cases q : y = y'
      · subst q
        rw [beq_self_eq_true]
        refine wpAny_pure ?_
        wp_walk
        refine ⟨_, rfl, ?_⟩
        have e : decide (x = false ∧ x = true ∨ x = x ∧ y < y) = false := by cases x <;> simp
        rw [e] at h
        exact h
      · rw [beq_eq_false_iff_ne.mpr q]
        have e : decide (x = false ∧ x = true ∨ x = x ∧ y < y') = decide (y < y') := by cases x <;> simp
        rw [e] at h
        refine wpAny_bind (wpAny_rule (wpAny_bind (show wpAny _ _ (compareOp .Lt (.int y t) (.int y' u)) _ _ _ from P.lt_int ?_)))
        wp_walk
        exact ⟨_, rfl, h⟩
    · rw [beq_eq_false_iff_ne.mpr q]
      have e : decide (x = false ∧ x' = true ∨ x = x' ∧ y < y') = decide (b2i x < b2i x') := by
        cases x <;> cases x' <;> simp_all [show b2i true = 1 from rfl, show b2i false = 0 from rfl]
      rw [e] at h
      refine wpAny_bind (wpAny_rule (wpAny_bind (show wpAny _ _ (compareOp .Lt (.bool x) (.bool x')) _ _ _ from lt_bool ?_)))
      wp_walk
      exact ⟨_, rfl, h⟩
section
variable {C : Cfg} {n : Nat} {H : AHeap} {Q : AV → AHeap → Prop}
theorem lt_tup {a b : Addr} {x x' : Bool} {y y' : Int} (h1 : H a = some (.tup [.bool x, .int y])) (h2 : H b = some (.tup [.bool x', .int y'])) {T : Bool → AHeap → Prop} (h : T (decide ((x = false ∧ x' = true) ∨ (x = x' ∧ y < y'))) H) :
    PCmp C n .Lt (.ref a) (.ref b) H (BT T) := by
  rintro va vb ra rb A E s ok
  cases ra; cases rb
  have hu : A.units < cLine := by have := ok.units; have : cLine = 9900 := rfl; omega
  obtain ⟨_, _, ⟨cl, dd, dt, sl⟩, g1, hc, vs, m, hd, f⟩ := ok.rep.obj a _ h1
  obtain ⟨_, _, ⟨cl2, dd2, dt2, sl2⟩, g2, hc2, vs2, m2, hd2, f2⟩ := ok.rep.obj b _ h2
  simp only at hc hd hc2 hd2
  subst hc hd hc2 hd2
  obtain _ | ⟨e1, _ | ⟨e2, _ | _⟩⟩ := f
  obtain _ | ⟨e3, _ | ⟨e4, _ | _⟩⟩ := f2
  cases e1; cases e3
  obtain ⟨t, rfl⟩ := e2
  obtain ⟨u, rfl⟩ := e4
  exact richCompare_meets_room (op := .Lt) ⟨_, g1, rfl⟩ ⟨_, g2, rfl⟩ PySem.F.slot_tuple_lt PySem.F.entry_tuple_lt (PySem.F.args_tuple_lt_2 _ _) (tuple_lt2 a b x x' y y' t u m m2 dd dd2 sl sl2)
    ⟨g1, g2, (fun z => nomatch z), qbB ok.rep h⟩ hu
theorem is_step {a b : AV} {T : Bool → AHeap → Prop} (h : eIs a b H T) : PCmp C n .Is a b H (BT T) := by
  rintro va vb ra rb A E s ok
  cases b with
  | none =>
    cases rb
    cases a with
    | none => cases ra; exact is_none_none (qbB ok.rep h)
    | bool c => cases ra; exact is_none_ne (by intro z; cases z) (qbB ok.rep h)
    | int i => obtain ⟨t, rfl⟩ := ra; exact is_none_ne (by intro z; cases z) (qbB ok.rep h)
    | str x => obtain ⟨t, rfl⟩ := ra; exact is_none_ne (by intro z; cases z) (qbB ok.rep h)
    | ref c => cases ra; exact is_none_ne (by intro z; cases z) (qbB ok.rep h)
  | _ => exact h.elim
theorem p_cmp {op : CmpOp} {a b : AV} {T : Bool → AHeap → Prop} (h : eCmp op a b H T) : PCmp C n op a b H (BT T) := by
  cases op with
  | Lt =>
    cases a with
    | int i => obtain ⟨j, rfl, _⟩ := int1_of h; clear h; rename_i h; rintro va vb ⟨t, rfl⟩ ⟨u, rfl⟩ A E s ok; exact P.lt_int (qbB ok.rep h)
    | ref x =>
      obtain ⟨y, rfl, _⟩ := ref1_of h; clear h; rename_i h
      unfold kTupLt at h
      obtain ⟨_, _, _, _, h1, h2, h⟩ := h
      exact lt_tup h1 h2 h
    | _ => exact h.elim
  | LtE => obtain ⟨i, j, rfl, rfl, _⟩ := int2_of h; clear h; rename_i h; rintro va vb ⟨t, rfl⟩ ⟨u, rfl⟩ A E s ok; exact P.le_int (qbB ok.rep h)
  | Gt => obtain ⟨i, j, rfl, rfl, _⟩ := int2_of h; clear h; rename_i h; rintro va vb ⟨t, rfl⟩ ⟨u, rfl⟩ A E s ok; exact P.gt_int (qbB ok.rep h)
  | GtE => obtain ⟨i, j, rfl, rfl, _⟩ := int2_of h; clear h; rename_i h; rintro va vb ⟨t, rfl⟩ ⟨u, rfl⟩ A E s ok; exact P.ge_int (qbB ok.rep h)
  | Is => exact is_step h
  | In => obtain ⟨k, rfl, _⟩ := int1_of h; clear h; rename_i h; obtain ⟨d, rfl, _⟩ := ref1_of h; clear h; rename_i h; exact in_step (neg := false) h
  | NotIn => obtain ⟨k, rfl, _⟩ := int1_of h; clear h; rename_i h; obtain ⟨d, rfl, _⟩ := ref1_of h; clear h; rename_i h; exact in_step (neg := true) h
  | Eq => exact eq_step (neg := false) h
  | NotEq => exact eq_step (neg := true) h
  | IsNot => exact h.elim
theorem cat_step (hc : C.base.get? cStatics ≠ none) {a b : Addr} (h : kCat a b H Q) : PBin C n .Add (.ref a) (.ref b) H Q := by
  rintro va vb ra rb A E s ok
  cases ra; cases rb
  unfold kCat at h
  obtain ⟨l, l', e1, e2, hl, hq⟩ := h
  obtain ⟨_, _, ⟨cl, dd, dt, sl⟩, g1, hc1, _, vs, m, hd, f⟩ := ok.rep.obj a _ e1
  obtain ⟨_, _, ⟨cl2, dd2, dt2, sl2⟩, g2, hc2, _, vs2, m2, hd2, f2⟩ := ok.rep.obj b _ e2
  cases hc1; cases hd; cases hc2; cases hd2
  have hf := f.append f2
  refine concat_meets ⟨_, g1, rfl⟩ ⟨_, g2, rfl⟩ noFill_list_add seq_list_add PySem.F.slot_list_add PySem.F.entry_list_add (PySem.F.args_list_add_2 _ _)
    (list_addW a b vs.toArray vs2.toArray m m2 dd dd2 sl sl2 ?_) ⟨g1, g2, ?_⟩
  · have l1 := f.length
    have l2 := f2.length
    rw [List.size_toArray, List.size_toArray, sizeLine_eq]; omega
  · rw [List.append_toArray]
    exact newOb hc ok (.refl _ _) (repL hf) rfl hq
theorem p_bin (hc : C.base.get? cStatics ≠ none) {op : Operator} {a b : AV} (h : eBin op a b H Q) : PBin C n op a b H Q := by
  cases op with
  | Add =>
    cases a with
    | int i => have h' := h; obtain ⟨j, rfl, _⟩ := int1_of h; exact bin_int h'
    | ref x => obtain ⟨y, rfl, _⟩ := ref1_of h; clear h; rename_i h; exact cat_step hc h
    | _ => exact h.elim
  | Sub => have h' := h; obtain ⟨i, j, rfl, rfl, _⟩ := int2_of h; exact bin_int h'
  | Mult => have h' := h; obtain ⟨i, j, rfl, rfl, _⟩ := int2_of h; exact bin_int h'
  | FloorDiv => have h' := h; obtain ⟨i, j, rfl, rfl, _⟩ := int2_of h; exact bin_int h'
  | Mod => have h' := h; obtain ⟨i, j, rfl, rfl, _⟩ := int2_of h; exact bin_int h'
  | Pow => have h' := h; obtain ⟨i, j, rfl, rfl, _⟩ := int2_of h; exact bin_int h'
  | _ => exact h.elim
theorem p_truth {a : AV} {Q : Bool → AHeap → Prop} (h : eTruth a H Q) : PTruth C n a H Q := by
  rintro va ra A E s ok
  cases a with
  | bool b => cases ra; exact wpAny_truthy_bool (qb0 ok.rep h)
  | ref x =>
    cases ra
    have h : kTruth x H Q := h
    unfold kTruth at h
    obtain ⟨l, e, hl, hq⟩ := h
    obtain ⟨vs, g1, g2⟩ := isList_of ok.rep e
    have l1 := g2.length
    refine wpAny_truthy_list g1 (by rw [List.size_toArray]; omega) ?_
    have e2 : (!vs.toArray.isEmpty) = !l.isEmpty := by cases g2 <;> rfl
    rw [e2]
    exact qbt ok.rep hq _
  | _ => exact h.elim
end
end Mine
end
section
open PySem PySem.W PyProof.Rows PySem.Calls
namespace Mine
section
variable {C : Cfg} {n : Nat} {H : AHeap} {Q : AV → AHeap → Prop} {A : Around} {s : Shared}
theorem F2.set {α β : Type} {R : α → β → Prop} {l : List α} {m : List β} (h : F2 R l m) {a : α} {b : β} (r : R a b) : ∀ i, F2 R (l.set i a) (m.set i b) := by
  induction h with
  | nil => intro i; exact .nil
  | cons h1 h2 ih =>
    intro i
    cases i with
    | zero => exact .cons r h2
    | succ j => exact .cons h1 (ih j)
theorem F2.take {α β : Type} {R : α → β → Prop} {l : List α} {m : List β} (h : F2 R l m) : ∀ i, F2 R (l.take i) (m.take i) := by
  induction h with
  | nil => intro i; simp; exact .nil
  | cons h1 h2 ih =>
    intro i
    cases i with
    | zero => exact .nil
    | succ j => exact .cons h1 (ih j)
theorem F2.dropLast {α β : Type} {R : α → β → Prop} {l : List α} {m : List β} (h : F2 R l m) : F2 R l.dropLast m.dropLast := by
  rw [List.dropLast_eq_take, List.dropLast_eq_take, h.length]; exact h.take _
theorem F2.last {α β : Type} {R : α → β → Prop} {l : List α} {m : List β} (h : F2 R l m) {a : α} (e : l.getLast? = some a) : ∃ b, m.getLast? = some b ∧ R a b := by
  rw [List.getLast?_eq_getElem?] at e ⊢
  obtain ⟨b, h1, h2⟩ := h.get e
  exact ⟨b, by rw [← h.length]; exact h1, h2⟩
theorem p_sub {a i : AV} (h : eSub a i H Q) : PSub C n a i H Q := by
  rintro va vi value slice ra ri hs A E s ok
  obtain ⟨d, rfl, _⟩ := ref1_of h; clear h; rename_i h
  obtain ⟨k, rfl, _⟩ := int1_of h; clear h; rename_i h
  cases ra
  obtain ⟨t, rfl⟩ := ri
  unfold kSub at h
  rcases h with ⟨l, v, e, hlen, hv, hq⟩ | ⟨l, ep, v, e, hv, hq⟩
  · obtain ⟨vs, g1, g2⟩ := isList_of ok.rep e
    refine tail_any (T := "list") g1.typeIs slot_list_getitem.lookup ?_ (hs _ _)
    unfold nthOf at hv
    by_cases i1 : k = -1
    · rw [if_pos i1] at hv
      subst i1
      obtain ⟨cv, k1, k2⟩ := g2.last hv
      have hne : 0 < vs.length := by
        cases vs with
        | nil => cases k1
        | cons _ _ => exact Nat.succ_pos _
      have hsz : vs.toArray.size = vs.length := List.size_toArray
      refine wpAny_getItem_list_neg g1 (by decide) (by rw [hsz]; omega) (by decide) (x := cv) ?_ (qv0 ok.rep k2 hq)
      rw [hsz, show ((-1 : Int) + (vs.length : Int)).toNat = vs.length - 1 by omega, List.getElem?_toArray, ← List.getLast?_eq_getElem?]
      exact k1
    · rw [if_neg i1] at hv
      by_cases i2 : 0 ≤ k
      · rw [if_pos i2] at hv
        obtain ⟨cv, k1, k2⟩ := g2.get hv
        have hl := (List.getElem?_eq_some_iff.mp hv).1
        exact wpAny_getItem_list g1 i2 (by omega) (by rw [List.getElem?_toArray]; exact k1) (qv0 ok.rep k2 hq)
      · rw [if_neg i2] at hv; cases hv
  · obtain ⟨kvs, g1, g2⟩ := dictOf_of ok.rep e
    rcases lookup_rep g2 k with ⟨a1, _⟩ | ⟨v', cv, a1, a2, a3⟩
    · rw [a1] at hv; cases hv
    · rw [a1] at hv; cases hv
      refine tail_any (T := "dict") g1.typeIs slot_dict_getitem.lookup ?_ (hs _ _)
      exact wpAny_getItem_of (knd := intKind C.prog C.w) (isInt_lit k t) g1.mapOf a2 (qv ok.rep a3 hq _)
theorem p_setSub {a i v : AV} {Q : AHeap → Prop} (h : eSetSub a i v H Q) : PSetSub C n a i v H Q := by
  rintro vo vi vv ro ri rv A E s ok
  obtain ⟨d, rfl, _⟩ := ref1_of h; clear h; rename_i h
  obtain ⟨k, rfl, _⟩ := int1_of h; clear h; rename_i h
  cases ro
  obtain ⟨t, rfl⟩ := ri
  unfold kSetSub at h
  · rcases h with ⟨l, e, h0, h1, hlen, hq⟩ | ⟨l, ep, e, hlen, hq⟩
    · skip
      obtain ⟨_, _, o, ho, hc, hdn, vs, m, hd, f⟩ := ok.rep.obj d _ e
      have hlv := f.length
      have isl : s.heap.IsList d vs.toArray := ⟨o, ho, hc, m, hd⟩
      unfold setItem
      try with_reducible refine wpAny_holding ?_
      first | refine wpAny_bind (wpAny_pure ?_) | skip
      refine wpAny_bind (wpAny_sequenceKey isl.typeIs (by decide) ?_)
      refine wpAny_bind (wpAny_callSpecial?_slot (name := Str.ofString "__setitem__") isl.typeIs slot_list_setitem
        (wpAny_call_entry slot_list_setitem isl.typeIs entry_list_setitem ?_ (args_list_setitem _ _ _)))
      show wpAny _ _ (Builtin.List.listSubscript? (.int k t) >>= _) _ _ s
      refine wpAny_bind (wpAny_listSubscript_int (fitsIndex_of h0 (by omega)) ?_)
      obtain ⟨j, rfl⟩ := Int.eq_ofNat_of_zero_le h0
      have hj : j < vs.toArray.size := by rw [List.size_toArray]; simp at h1; omega
      show wpAny _ _ ((seqItemAt d j >>= fun r => pure (r.map (j, ·))) >>= _) _ _ s
      refine wpAny_bind (wpAny_bind (wpAny_seqItemAt ho hd (wpAny_pure ?_)))
      rw [Array.getElem?_eq_getElem hj]
      show wpAny _ _ (setSeqItemAt d j vv >>= _) _ _ s
      obtain ⟨n', hd'⟩ := Obj.data_mapSeq hd (·.setIfInBounds j vv)
      have ob : (s.heap.update d (Obj.mapSeq (·.setIfInBounds j vv))).get? d = some (o.mapSeq (·.setIfInBounds j vv)) := Heap.get?_update_self _ ho (Obj.isFreed_of_seq hd')
      have hr : RepO C (.list (l.set j v)) (o.mapSeq (·.setIfInBounds j vv)) := by
        refine ⟨(Obj.cls_mapSeq ..).trans hc, ?_, vs.set j vv, n', ?_, f.set rv j⟩
        · rw [show (o.mapSeq (·.setIfInBounds j vv)).dict = o.dict by unfold Obj.mapSeq; split <;> rfl]; exact hdn
        · rw [hd']; simp
      have hs : Heap.SameBut d s.heap (s.heap.update d (Obj.mapSeq (·.setIfInBounds j vv))) := Heap.SameBut.update ..
      have fin : QP C (fun (_ _ : Unit) => True) H s (fun _ H' => Q H') () { s with heap := s.heap.update d (Obj.mapSeq (·.setIfInBounds j vv)) } :=
        ⟨(), H.set d (.list (l.set j v)), trivial, ok.rep.upd (t := s.toks) e (fun b hb => hs.2 b hb) ob hr, Step.upd (t := s.toks) e fun b hb => hs.2 b hb, by simpa using hq⟩
      refine wpAny_bind (wpAny_setSeqItemAt ho hd ?_)
      first
        | exact wpAny_bind (wpAny_pure (wpAny_pure ⟨.none, rfl, wpAny_pure fin⟩))
        | exact wpAny_pure ⟨.none, rfl, wpAny_pure fin⟩
    · obtain ⟨kvs, g1, g2⟩ := dictOf_of ok.rep e
      have hlv := g2.length
      refine wpAny_setItem_pairs (knd := intKind C.prog C.w) (isInt_lit k t) g1 (fun h' hd hs => ?_) (by rw [sizeLine_eq]; omega)
      obtain ⟨o', es, ep', ho', d1, d2, d3, d4, d5⟩ := hd
      exact ⟨(), H.set d (.dict (putD l k v) ep'), trivial, ok.rep.upd (t := s.toks + 1) e (fun b hb => hs.2 b hb) ho' ⟨_, ⟨es, d1, d2, d3, d4, d5⟩, g2.putD rv⟩, Step.upd (t := s.toks + 1) e fun b hb => hs.2 b hb, hq ep'⟩
end
end Mine
end
section
open PySem PySem.W PyProof.Rows PySem.Calls
namespace Mine
section
variable {C : Cfg} {n : Nat} {H : AHeap} {Q : AV → AHeap → Prop} {A : Around} {s : Shared}
theorem push2 (hc : C.base.get? cStatics ≠ none) {o1 o2 : Obj} {o : AO} (ok : Ok C n A H s) (hr : RepO C o o2) (hf : o2.isFreed = false) (h : newAt o H Q) :
    QP C RepV H s Q (.ref (s.heap.objs.size + 1)) { s with heap := (s.heap.push o1).push o2 } := by
  have hsz : (s.heap.push o1).objs.size = s.heap.objs.size + 1 := Heap.size_push ..
  have k1 : ∀ b o, s.heap.get? b = some o → (s.heap.push o1).get? b = some o := fun _ _ e => Heap.get?_push_of_some _ e
  have ok1 := ok.step (.grow (t := s.toks) _ k1) (ok.rep.grow (t := s.toks) k1)
  have := newOb (s0 := s) hc ok1 (.grow (t := s.toks) _ k1) hr hf h
  rw [← hsz]
  exact this
theorem is_rep {l : List AV} {a : Addr} (r : Rep C H s) (h : H a = some (.list l)) : ∃ vs, s.heap.IsList a vs.toArray ∧ F2 RepV l vs := isList_of r h
theorem intsV_rep : ∀ {vs : List Value} {ns : List Int}, intsV vs ns → F2 RepV (ns.map .int) vs
  | [], [], _ => .nil
  | v :: vs, i :: is, h => .cons h.1 (intsV_rep h.2)
  | [], _ :: _, h => h.elim
  | _ :: _, [], h => h.elim
theorem slice_go (hc : C.base.get? cStatics ≠ none) {a : Addr} {items : List Value} {l : List AV} {vl vu vk : Value} {lo hi st : Option Int} {value slice : PySem.Expr} {E : Value → Shared → Prop} (ok : Ok C n A H s) (hl : s.heap.IsList a items.toArray) (hsz : items.length ≤ 1000)
    (pl : IsPart vl lo) (pu : IsPart vu hi) (pk : IsPart vk st) (h0 : st ≠ some 0) (hp : ∃ r, slicePick items.toArray lo hi st = r.toArray ∧ F2 RepV l r) (ops : Value → Value → List Value) (hs : ∀ o j, subscripted slice false o j = operate (ops o j) (getItem o j)) (h : newAt (.list l) H Q) :
    wpAny (model C.prog C.w) A (newFields "slice" [vl, vu, vk]) (fun i s1 => wpAny (model C.prog C.w) A (subscriptTail value slice (.ref a) i) (QP C RepV H s Q) E s1) E s := by
  obtain ⟨r, hr, hf⟩ := hp
  unfold newFields
  refine wpAny_newObj_type ?_ (by show ([vl, vu, vk].toArray).size ≤ sizeLine + 2; rw [sizeLine_eq]; simp)
  refine tail_any (T := "list") (Heap.IsList.typeIs (s := { s with heap := s.heap.push _ }) (hl.push _)) slot_list_getitem.lookup ?_ (hs _ _)
  refine wpAny_getItem_list_slice (hl.push _) (Heap.IsSliceOf.new s.heap vl vu vk) pl pu pk h0 ?_ (by rw [List.size_toArray, sizeLine_eq]; omega)
  have hsz : (s.heap.push { cls := .type "slice", data := .fields #[vl, vu, vk] }).objs.size = s.heap.objs.size + 1 := Heap.size_push ..
  rw [hr]
  show QP C RepV H s Q (.ref (s.heap.push _).objs.size) _
  rw [hsz]
  exact push2 hc ok (repL hf) rfl h
theorem p_slHi (hc : C.base.get? cStatics ≠ none) {a i : AV} (h : eSlHi C a i H Q) : PSlHi C n a i H Q := by
  rintro va vh value slice ra rh hs A E s ok
  obtain ⟨d, rfl, _⟩ := ref1_of h; clear h; rename_i h
  obtain ⟨k, rfl, _⟩ := int1_of h; clear h; rename_i h
  cases ra
  obtain ⟨t, rfl⟩ := rh
  unfold kSlHi at h
  obtain ⟨h0, h1, h⟩ := h
  obtain ⟨b, rfl⟩ := Int.eq_ofNat_of_zero_le h0
  rcases h with ⟨l, e, hlen, hq⟩ | ⟨e, vs, ns, g1, g2, g3, hq⟩
  · obtain ⟨vs, g1, g2⟩ := isList_of ok.rep e
    exact slice_go hc ok g1 (by rw [← g2.length]; exact hlen) .none (.int _ _) .none (by intro z; cases z) ⟨vs.take b, slicePick_upto' _ _, g2.take b⟩ (fun o j => [j, o]) hs hq
  · have f := intsV_rep g2
    have hl := f.length
    rw [List.length_map] at hl
    obtain ⟨o, ho, r⟩ := g1
    refine slice_go hc ok ⟨o, ok.rep.keep _ _ ho, r⟩ (by omega) .none (.int _ _) .none (by intro z; cases z) ⟨vs.take b, slicePick_upto' _ _, ?_⟩ (fun o j => [j, o]) hs hq
    rw [List.map_take]
    exact f.take b
theorem p_rev (hc : C.base.get? cStatics ≠ none) {a : AV} (h : eRev a H Q) : PRev C n a H Q := by
  rintro va vm value slice ra rm hs A E s ok
  obtain ⟨d, rfl, _⟩ := ref1_of h; clear h; rename_i h
  cases ra
  obtain ⟨t, rfl⟩ := rm
  unfold kRev at h
  obtain ⟨l, e, hlen, hq⟩ := h
  obtain ⟨vs, g1, g2⟩ := isList_of ok.rep e
  exact slice_go hc ok g1 (by rw [← g2.length]; exact hlen) .none .none (.int _ _) (by intro z; cases z) ⟨vs.reverse, by rw [krv_pick], g2.reverse⟩ (fun o j => [o, j]) hs hq
end
end Mine
end
section
open PySem PySem.W PyProof.Rows PySem.Calls
namespace Mine
theorem list_pop_end (l : Addr) (items : Array Value) (n : Nat) (sl : Array (Option Value)) (y : Value) (hy : items[items.size - 1]? = some y) (hs1 : items.size ≤ sizeLine) :
    Meets (Builtin.«list.pop» ⟨[.ref l], []⟩)
      (fun _ R s => s.heap.get? l = some { cls := .type "list", dict := none, data := .seq items n, slots := sl } ∧ R (.ok (.ret y)) { s with heap := s.heap.update l (Obj.mapSeq fun xs => xs.eraseIdxIfInBounds (items.size - 1)) }) :=
  .of_wp fun prog w A R s h => by
    obtain ⟨hp, g, d, tk, os⟩ := s; obtain ⟨hl, h⟩ := h
    have hpos : 0 < items.size := by
      rcases Nat.eq_zero_or_pos items.size with h0 | h0
      · simp [h0] at hy
      · exact h0
    have hne : ¬ items.isEmpty = true := by
      intro he; have : items.size = 0 := by simpa using he
      omega
    have hk : seqIndex? (-1) items.size = some (items.size - 1) := by
      rw [PySem.MeetsSeq.seqIndex_neg (by omega) (by omega)]; congr 1; omega
    wp_walk using AutoSeq1.wpAny_loadPart' hl
    simp only [hk, hy, Option.bind_some, Option.map_some]
    have hz' : (items.eraseIdxIfInBounds (items.size - 1)).size ≤ sizeLine + 1 := Nat.le_trans (PySem.MeetsSeq.size_erased items _) (Nat.le_succ_of_le hs1)
    wp_walk using (wpAny_updateSeq hl rfl (hz := hs1) (_hz' := hz')), AutoSeq1.wpAny_loadPart' hl
    exact ⟨_, rfl, h⟩
section
variable {C : Cfg} {n : Nat} {H : AHeap} {Q : AV → AHeap → Prop} {X : AHeap → Prop}
theorem calleeB {v : Value} (h : ∀ a, v ≠ .ref a) : CalleeOk C v := fun M hp _ => ⟨.machine, .inr (.inl rfl), Looks.of_pure (by cases v <;> first | rfl | exact absurd rfl (h _))⟩
theorem get_list {a : Addr} {l : List AV} {m : Str} {id : String} (h : H a = some (.list l)) (slot : Slot "list" m id) (hty : typeOf (.builtin id) = pure (.type "method_descriptor")) : PGet C n (.ref a) m H (.builtin id) := by
  intro cv rv A E s pl Q ok hq
  cases rv
  obtain ⟨_, _, o, ho, hc, hdn, _⟩ := ok.rep.obj a _ h
  exact getMethod_builtin ⟨o, ho, hc⟩ PySem.F.plainAttrs_list slot hty (fun b e => by cases e; exact ⟨o, ho, hdn⟩) (hq s ok.rep (.refl _ _))
theorem get_dict {a : Addr} {l : List (Int × AV)} {ep : Nat} {m : Str} {id : String} (h : H a = some (.dict l ep)) (slot : Slot "dict" m id) (hty : typeOf (.builtin id) = pure (.type "method_descriptor")) : PGet C n (.ref a) m H (.builtin id) := by
  intro cv rv A E s pl Q ok hq
  cases rv
  obtain ⟨kvs, g1, _⟩ := dictOf_of ok.rep h
  exact getMethod_builtin g1.mapOf.typeIs PySem.F.plainAttrs_dict slot hty g1.mapOf.noDict (hq s ok.rep (.refl _ _))
theorem c_append {a : Addr} {l : List AV} {v : AV} (h : H a = some (.list l)) (hl : l.length ≤ 1000) (hq : Q .none (H.set a (.list (l ++ [v])))) : FCall C n X (.builtin "list.append") [.ref a, v] H Q := by
  intro A s vs ok hv
  obtain _ | ⟨r1, _ | ⟨r2, _ | _⟩⟩ := hv
  cases r1
  rename_i cv
  obtain ⟨us, g1, g2⟩ := plainL_of ok.rep h
  have hlen := g2.length
  refine list_append_plainL g1 (fun h' hp hs => ?_) (by rw [List.size_toArray, sizeLine_eq]; omega)
  obtain ⟨o, m, ho, hc, hdn, hd⟩ := hp
  exact ⟨.none, _, rfl, Rep.upd (o := .list (l ++ [v])) (t := s.toks) ok.rep h (fun b hb => hs.2 b hb) ho ⟨hc, hdn, us ++ [cv], m, by rw [hd]; simp, g2.snoc r2⟩, Step.upd (t := s.toks) h fun b hb => hs.2 b hb, hq⟩
theorem c_lpop {a : Addr} {l : List AV} {v : AV} (h : H a = some (.list l)) (hl : l.length ≤ 1000) (hv : l.getLast? = some v) (hq : Q v (H.set a (.list l.dropLast))) : FCall C n X (.builtin "list.pop") [.ref a] H Q := by
  intro A s vs ok hvs
  obtain _ | ⟨r1, _ | _⟩ := hvs
  cases r1
  obtain ⟨_, _, ⟨cl, dd, dt, sl⟩, ho, hc, hdn, us, m, hd, f⟩ := ok.rep.obj a _ h
  simp only at hc hdn hd
  subst hc hdn hd
  have hlen := f.length
  obtain ⟨cv, k1, k2⟩ := f.last hv
  have hne : us ≠ [] := by intro z; rw [z] at k1; simp at k1
  have hy : us.toArray[us.toArray.size - 1]? = some cv := by
    rw [List.getLast?_eq_getElem?] at k1
    simpa using k1
  refine call_meets PySem.F.slot_list_pop ⟨_, ho, rfl⟩ PySem.F.entry_list_pop (PySem.F.args_list_pop_1 _) (list_pop_end a us.toArray m sl cv hy (by rw [List.size_toArray, sizeLine_eq]; omega)) ⟨ho, ?_⟩
  have hs : Heap.SameBut a s.heap (s.heap.update a (Obj.mapSeq fun xs => xs.eraseIdxIfInBounds (us.toArray.size - 1))) := Heap.SameBut.update ..
  have e1 : us.toArray.eraseIdxIfInBounds (us.toArray.size - 1) = us.dropLast.toArray := by
    obtain ⟨p, y, rfl⟩ : ∃ p y, us = p ++ [y] := ⟨us.dropLast, us.getLast hne, (List.dropLast_concat_getLast hne).symm⟩
    have hk : (p ++ [y]).toArray.size - 1 = p.length := by simp
    rw [hk, kl_erase, List.append_nil, List.dropLast_concat]
  obtain ⟨n', hd'⟩ := Obj.data_mapSeq (o := { cls := .type "list", dict := none, data := .seq us.toArray m, slots := sl }) rfl (fun xs => xs.eraseIdxIfInBounds (us.toArray.size - 1))
  exact ⟨v, _, k2, Rep.upd (o := .list l.dropLast) (t := s.toks) ok.rep h (fun b hb => hs.2 b hb) (Heap.get?_update_self _ ho (Obj.isFreed_of_seq hd')) ⟨rfl, rfl, us.dropLast, n', by rw [hd', e1], f.dropLast⟩, Step.upd (t := s.toks) h fun b hb => hs.2 b hb, hq⟩
theorem F2.without {l : List (Int × AV)} {kvs : List (Int × Value)} (h : F2 RepP l kvs) (k : Int) : F2 RepP (delD l k) (without kvs k) := by
  induction h with
  | nil => exact .nil
  | @cons a b l m h1 _ ih =>
    unfold delD PySem.without
    rw [List.filter_cons, List.filter_cons]
    by_cases q : a.1 = k
    · rw [if_neg (by simp [q]), if_neg (by simp [← h1.1, q])]
      exact ih
    · rw [if_pos (by simp [q]), if_pos (by simp [← h1.1, q])]
      exact .cons h1 ih
theorem upd_dict {A : Around} {s : Shared} {a : Addr} {l l' : List (Int × AV)} {ep t : Nat} {kvs : List (Int × Value)} {h' : Heap} {v : AV} {cv : Value} (ok : Ok C n A H s) (h : H a = some (.dict l ep)) (hd : h'.DictOf (intKind C.prog C.w) a kvs) (hs : Heap.SameBut a s.heap h') (f : F2 RepP l' kvs) (rv : RepV v cv) (hq : ∀ ep, Q v (H.set a (.dict l' ep))) :
    QP C RepV H s Q cv { s with heap := h', toks := t } := by
  obtain ⟨o', es, ep', ho', d1, d2, d3, d4, d5⟩ := hd
  exact ⟨v, _, rv, Rep.upd (o := .dict l' ep') (t := t) ok.rep h (fun b hb => hs.2 b hb) ho' ⟨_, ⟨es, d1, d2, d3, d4, d5⟩, f⟩, Step.upd (t := t) h fun b hb => hs.2 b hb, hq ep'⟩
theorem c_dpop {a : Addr} {l : List (Int × AV)} {ep : Nat} {k : Int} {v : AV} (h : H a = some (.dict l ep)) (hl : l.length ≤ 1000) (hv : l.lookup k = some v) (hq : ∀ ep, Q v (H.set a (.dict (delD l k) ep))) : FCall C n X (.builtin "dict.pop") [.ref a, .int k] H Q := by
  intro A s vs ok hvs
  obtain _ | ⟨r1, _ | ⟨r2, _ | _⟩⟩ := hvs
  cases r1
  obtain ⟨t, rfl⟩ := r2
  obtain ⟨kvs, g1, g2⟩ := dictOf_of ok.rep h
  have hlen := g2.length
  rcases lookup_rep g2 k with ⟨z, _⟩ | ⟨v', cv, a1, a2, a3⟩
  · rw [z] at hv; cases hv
  · rw [a1] at hv; cases hv
    exact call_meetsIn PySem.F.slot_dict_pop g1.typeIs PySem.F.entry_dict_pop (PySem.F.args_dict_pop_2 _ _) (meets_dict_pop_there (intKind C.prog C.w) a (isInt_lit k t) [] (.inl rfl) rfl) ⟨kvs, cv, g1, by rw [sizeLine_eq]; omega, a2, fun h' hm hs => upd_dict ok h hm hs (g2.without k) a3 hq⟩
theorem c_get {a : Addr} {l : List (Int × AV)} {ep : Nat} {k : Int} {d : AV} (h : H a = some (.dict l ep)) (hq : Q ((l.lookup k).getD d) H) : FCall C n X (.builtin "dict.get") [.ref a, .int k, d] H Q := by
  intro A s vs ok hvs
  obtain _ | ⟨r1, _ | ⟨r2, _ | ⟨r3, _ | _⟩⟩⟩ := hvs
  cases r1
  obtain ⟨t, rfl⟩ := r2
  rename_i cd
  obtain ⟨kvs, g1, g2⟩ := dictOf_of ok.rep h
  refine call_meetsIn PySem.F.slot_dict_get g1.typeIs PySem.F.entry_dict_get (PySem.F.args_dict_get_3 _ _ _) (meets_dict_get_default (intKind C.prog C.w) a (isInt_lit k t) (notMods ok.rep h) cd) ⟨_, g1.mapOf, ?_⟩
  rcases lookup_rep g2 k with ⟨z1, z2⟩ | ⟨v', cv, a1, a2, a3⟩
  · rw [z2]; rw [z1] at hq; exact qv ok.rep r3 hq _
  · rw [a2]; rw [a1] at hq; exact qv ok.rep a3 hq _
theorem F2.merged {m : List (Int × AV)} {ks : List (Int × Value)} (h : F2 RepP m ks) : ∀ {l : List (Int × AV)} {kvs : List (Int × Value)}, F2 RepP l kvs → F2 RepP (updD l m) (merged kvs ks) := by
  induction h with
  | nil => intro l kvs f; exact f
  | @cons a b m ks h1 _ ih =>
    intro l kvs f
    have := ih (l := Mine.putD l a.1 a.2) (kvs := stored kvs b.1 b.2) (by rw [← h1.1]; exact f.putD h1.2)
    exact this
theorem c_update {a b : Addr} {l l' : List (Int × AV)} {ep ep' : Nat} (h : H a = some (.dict l ep)) (h2 : H b = some (.dict l' ep')) (hne : a ≠ b) (hl : l.length + l'.length ≤ 1000) (hq : ∀ ep, Q .none (H.set a (.dict (updD l l') ep))) : FCall C n X (.builtin "dict.update") [.ref a, .ref b] H Q := by
  intro A s vs ok hvs
  obtain _ | ⟨r1, _ | ⟨r2, _ | _⟩⟩ := hvs
  cases r1; cases r2
  obtain ⟨kvs, g1, g2⟩ := dictOf_of ok.rep h
  obtain ⟨ks, g3, g4⟩ := dictOf_of ok.rep h2
  have l1 := g2.length
  have l2 := g4.length
  exact call_meetsIn PySem.F.slot_dict_update g1.typeIs PySem.F.entry_dict_update (PySem.F.args_dict_update_2 _ _) (meets_dict_update (intKind C.prog C.w) a b hne (notMods ok.rep h2))
    ⟨kvs, ks, g1, g3, by rw [sizeLine_eq]; omega, fun h' hm _ hs => upd_dict (v := .none) ok h hm hs (g4.merged g2) rfl hq⟩
theorem p_methB (m : BM) {o : AV} (h : eHas m o H) : ∃ f, PGet C n o m.name H f ∧ CalleeOk C f ∧ ∀ {X : AHeap → Prop} {vs : List AV} {H2 : AHeap} {Q : AV → AHeap → Prop}, eMeth m o vs H2 Q → FCall C n X f (o :: vs) H2 Q := by
  obtain ⟨a, rfl, h⟩ := h
  cases m with
  | append =>
    obtain ⟨l, e⟩ := h
    refine ⟨_, get_list e PySem.F.slot_list_append PySem.F.type_list_append, calleeB (by intro _ z; cases z), fun {X vs H2 Q} q => ?_⟩
    obtain ⟨v, rfl, _⟩ := arg1_of q; clear q; rename_i q
    unfold kAppend at q
    obtain ⟨l', e2, q1, q2⟩ := q
    exact c_append e2 q1 q2
  | lpop =>
    obtain ⟨l, e⟩ := h
    refine ⟨_, get_list e PySem.F.slot_list_pop PySem.F.type_list_pop, calleeB (by intro _ z; cases z), fun {X vs H2 Q} q => ?_⟩
    obtain ⟨rfl, _⟩ := arg0_of q; clear q; rename_i q
    unfold kLpop at q
    obtain ⟨l', v, e2, q1, q2, q3⟩ := q
    exact c_lpop e2 q1 q2 q3
  | dpop =>
    obtain ⟨l, ep, e⟩ := h
    refine ⟨_, get_dict e PySem.F.slot_dict_pop PySem.F.type_dict_pop, calleeB (by intro _ z; cases z), fun {X vs H2 Q} q => ?_⟩
    obtain ⟨v, rfl, _⟩ := arg1_of q; clear q; rename_i q
    obtain ⟨k, rfl, _⟩ := int1_of q; clear q; rename_i q
    unfold kDpop at q
    obtain ⟨l', ep', v, e2, q1, q2, q3⟩ := q
    exact c_dpop e2 q1 q2 q3
  | get =>
    obtain ⟨l, ep, e⟩ := h
    refine ⟨_, get_dict e PySem.F.slot_dict_get PySem.F.type_dict_get, calleeB (by intro _ z; cases z), fun {X vs H2 Q} q => ?_⟩
    obtain ⟨v, w, rfl, _⟩ := arg2_of q; clear q; rename_i q
    obtain ⟨k, rfl, _⟩ := int1_of q; clear q; rename_i q
    unfold kGet at q
    obtain ⟨l', ep', e2, q1⟩ := q
    exact c_get e2 q1
  | update =>
    obtain ⟨l, ep, e⟩ := h
    refine ⟨_, get_dict e PySem.F.slot_dict_update PySem.F.type_dict_update, calleeB (by intro _ z; cases z), fun {X vs H2 Q} q => ?_⟩
    obtain ⟨v, rfl, _⟩ := arg1_of q; clear q; rename_i q
    obtain ⟨b, rfl, _⟩ := ref1_of q; clear q; rename_i q
    unfold kUpdate at q
    obtain ⟨l', ep', l2, ep2, e2, e3, q1, q2, q3⟩ := q
    exact c_update e2 e3 q1 q2 q3
end
end Mine
end
section
open PySem PySem.W PyProof.Rows PySem.Calls
namespace Mine
section
variable {C : Cfg} {n : Nat} {H : AHeap} {Q : AV → AHeap → Prop} {X : AHeap → Prop} {A : Around} {s : Shared}
theorem Ok.nohd (ok : Ok C n A H s) (h : C.hd = false) : A.handled = none := by
  rcases ok.hd with z | ⟨_, _, _, _, _, _, _, _, z⟩
  · exact z
  · rw [h] at z; cases z
theorem grown' {a : Addr} {h' : Heap} {t : Nat} {o : AO} {ob : Obj} (ok : Ok C n A H s) (k : ∀ b o, s.heap.get? b = some o → h'.get? b = some o) (ha0 : s.heap.get? a = none) (hm : a ≠ sysModules) (hg : h'.get? a = some ob) (hr : RepO C o ob) (hq : newAt o H Q) :
    QP C RepV H s Q (.ref a) { s with heap := h', toks := t } := by
  have hH : H a = none := by
    cases q : H a with
    | none => rfl
    | some x => obtain ⟨_, _, ob, h3, _⟩ := ok.rep.obj a x q; rw [ha0] at h3; cases h3
  exact ⟨.ref a, H.set a o, rfl, ok.rep.new (t := t) k ha0 hm hg hr, Step.new (t := t) k ha0, hq a hH⟩
theorem notMods_of (hc : C.base.get? cStatics ≠ none) {h : Heap} (k : ∀ b o, C.base.get? b = some o → h.get? b = some o) {a : Addr} (ha : h.objs.size ≤ a) : a ≠ sysModules := fun q => by
  obtain ⟨om, hom⟩ := Option.ne_none_iff_exists'.mp hc
  have h9 : 2 < h.objs.size := Heap.lt_size (k _ om hom)
  have h8 : h.objs.size ≤ 1 := by rw [q] at ha; exact ha
  omega
theorem grown {a : Addr} {h' : Heap} {t : Nat} {o : AO} {ob : Obj} (hc : C.base.get? cStatics ≠ none) (ok : Ok C n A H s) (k : ∀ b o, s.heap.get? b = some o → h'.get? b = some o) (ha : s.heap.objs.size ≤ a) (hg : h'.get? a = some ob) (hr : RepO C o ob) (hq : newAt o H Q) :
    QP C RepV H s Q (.ref a) { s with heap := h', toks := t } := by
  have ha0 : s.heap.get? a = none := by
    cases q : s.heap.get? a with
    | none => rfl
    | some x => exact absurd (Heap.lt_size q) (Nat.not_lt.mpr ha)
  exact grown' ok k ha0 (notMods_of hc ok.rep.keep ha) hg hr hq
theorem c_len_list {a : Addr} {l : List AV} (h : H a = some (.list l)) (hl : l.length ≤ 1000) (hq : Q (.int l.length) H) : FCall C n X (.builtin "len") [.ref a] H Q := by
  intro A s vs ok hv
  obtain _ | ⟨r1, _ | _⟩ := hv
  cases r1
  obtain ⟨us, g1, g2⟩ := isList_of ok.rep h
  have hlen := g2.length
  have e : us.toArray.size = l.length := by rw [List.size_toArray, hlen]
  exact call_len_list g1 (by rw [e]; omega) (by rw [e]; exact qi ok.rep hq _)
theorem c_len_dict {a : Addr} {l : List (Int × AV)} {ep : Nat} (h : H a = some (.dict l ep)) (hl : l.length ≤ 1000) (hq : Q (.int l.length) H) : FCall C n X (.builtin "len") [.ref a] H Q := by
  intro A s vs ok hv
  obtain _ | ⟨r1, _ | _⟩ := hv
  cases r1
  obtain ⟨kvs, g1, g2⟩ := dictOf_of ok.rep h
  have hlen := g2.length
  exact call_len_dict (notMods ok.rep h) g1 (by omega) (by rw [← hlen]; exact qi ok.rep hq _)
theorem c_list_list (hc : C.base.get? cStatics ≠ none) {a : Addr} {l : List AV} (h : H a = some (.list l)) (hl : l.length ≤ 1000) (hq : newAt (.list l) H Q) : FCall C n X (.type "list") [.ref a] H Q := by
  intro A s vs ok hv
  obtain _ | ⟨r1, _ | _⟩ := hv
  cases r1
  obtain ⟨_, _, o, ho, hcl, hdn, us, m, hd, f⟩ := ok.rep.obj a _ h
  have hlen := f.length
  refine call_list_seq a (.inl rfl) ho hcl hd (fun h' c' hk hg => ?_) (by rw [List.size_toArray, sizeLine_eq]; omega)
  exact grown (t := s.toks) hc ok hk (Nat.le_refl _) hg (o := .list l) ⟨rfl, rfl, us, c', rfl, f⟩ hq
theorem keys_rep {l : List (Int × AV)} {kvs : List (Int × Value)} (f : F2 RepP l kvs) {vs : List Value} (hl : vs.length = kvs.length) (hv : ∀ (j : Nat) (v : Value), vs[j]? = some v → ∃ k x, kvs[j]? = some (k, x) ∧ (intKind C.prog C.w).is k v = true) :
    F2 RepV (l.map fun p => .int p.1) vs := by
  induction f generalizing vs with
  | nil =>
    cases vs with
    | nil => exact .nil
    | cons _ _ => simp at hl
  | @cons a b l m h1 _ ih =>
    cases vs with
    | nil => simp at hl
    | cons v vs =>
      obtain ⟨k, x, e, hk⟩ := hv 0 v rfl
      simp only [List.getElem?_cons_zero, Option.some.injEq] at e
      obtain ⟨t, rfl⟩ := Value.isInt_shape hk
      refine .cons ⟨t, by rw [h1.1, e]⟩ (ih (by simpa using hl) fun j u hu => by simpa using hv (j + 1) u (by simpa using hu))
theorem c_list_dict (hc : C.base.get? cStatics ≠ none) (hh : C.hd = false) {a : Addr} {l : List (Int × AV)} {ep : Nat} (h : H a = some (.dict l ep)) (hl : l.length ≤ 1000) (hq : newAt (.list (l.map fun p => .int p.1)) H Q) : FCall C n X (.type "list") [.ref a] H Q := by
  intro A s vs ok hv
  obtain _ | ⟨r1, _ | _⟩ := hv
  cases r1
  obtain ⟨kvs, g1, g2⟩ := dictAt_of ok.rep h
  have hlen := g2.length
  refine kdl_call (kdl_dict (knd := intKind C.prog C.w) (notMods ok.rep h)) (ok.nohd hh) g1 (by rw [sizeLine_eq]; omega) fun h' tk acc c' hk hg hacc => ?_
  refine grown (t := tk) hc ok hk (Nat.le_refl _) hg (o := .list (l.map fun p => .int p.1)) ⟨rfl, rfl, acc.toList, c', by simp, ?_⟩ hq
  exact keys_rep g2 (by rw [Array.length_toList]; exact hacc.1) fun j v e => hacc.2 j v (by rw [← Array.getElem?_toList]; exact e)
theorem c_dict (hc : C.base.get? cStatics ≠ none) {a : Addr} {l : List (Int × AV)} {ep : Nat} (h : H a = some (.dict l ep)) (hl : l.length ≤ 1000) (hq : ∀ b ep, H b = none → Q (.ref b) (H.set b (.dict l ep))) : FCall C n X (.type "dict") [.ref a] H Q := by
  intro A s vs ok hv
  obtain _ | ⟨r1, _ | _⟩ := hv
  cases r1
  obtain ⟨kvs, g1, g2⟩ := dictOf_of ok.rep h
  have hlen := g2.length
  refine PySem.kt_call_dict (notMods ok.rep h) g1 (by rw [sizeLine_eq]; omega) fun h' hd hs => ?_
  obtain ⟨o', es, ep', ho', d1, d2, d3, d4, d5⟩ := hd
  refine grown (t := s.toks) hc ok (fun b o e => ?_) (Nat.le_refl _) ho' (o := .dict l ep') ⟨_, ⟨es, d1, d2, d3, d4, d5⟩, g2⟩ fun b hb => hq b ep' hb
  exact hs.extBut b o (Nat.ne_of_lt (Heap.lt_size e)) (Heap.get?_push_of_some _ e)
theorem c_range (hc : C.base.get? cStatics ≠ none) {i : Int} (h0 : 0 ≤ i) (h1 : i ≤ 1000) (hq : newAt (.rng i.toNat) H Q) : FCall C n X (.type "range") [.int i] H Q := by
  intro A s vs ok hv
  obtain _ | ⟨r1, _ | _⟩ := hv
  obtain ⟨t, rfl⟩ := r1
  refine call_range_1 (grown (t := s.toks + 1 + 1) hc ok (fun b o e => Heap.get?_push_of_some _ e) (Nat.le_refl _) (Heap.get?_push_size _ rfl) (o := .rng i.toNat) ⟨by omega, s.toks, t, s.toks + 1, ?_⟩ hq)
  have : ((i.toNat : Nat) : Int) = i := by omega
  rw [this]
theorem c_sum {a : Addr} {l : List AV} (hh : C.hd = false) (h : H a = some (.list l)) (hi : l.all isI = true) (hq : Q (.int (l.map getI).sum) H) : FCall C n X (.builtin "sum") [.ref a] H Q := by
  intro A s vs ok hv
  obtain _ | ⟨r1, _ | _⟩ := hv
  cases r1
  obtain ⟨us, g1, g2⟩ := isList_of ok.rep h
  have hints := ints_of g2 hi
  obtain ⟨xs, hx⟩ := hints.allInts.items
  have hn : numsOf us = l.map getI := hints.numsOf
  rw [hx] at g1
  refine sum_intListG (ok.nohd hh) g1 fun h' tk t' hk => ?_
  have e : preSum (numAt xs) xs.size = (l.map getI).sum := by
    rw [preSum_eq, List.take_of_length_le (by simp), ← nums_intItems, ← hx]; exact congrArg _ hn
  rw [e]
  exact ⟨.int (l.map getI).sum, H, ⟨t', rfl⟩, ok.rep.grow (t := tk) hk, Step.grow (t := tk) _ hk, hq⟩
end
end Mine
end
section
open PySem PySem.W PyProof.Rows PySem.Calls
namespace Mine
section
variable {C : Cfg} {n : Nat} {H : AHeap} {Q : AV → AHeap → Prop} {X : AHeap → Prop} {A : Around} {s : Shared}
theorem ints_rep {vs : List Value} {ns : List Int} (h : IntsAre vs ns) : F2 RepV (ns.map .int) vs := by
  induction h with
  | nil => exact .nil
  | cons i t _ ih => exact .cons ⟨t, rfl⟩ ih
theorem all_int (ns : List Int) : (ns.map AV.int).all isI = true := by
  induction ns with
  | nil => rfl
  | cons a r ih => rw [List.map_cons, List.all_cons, ih]; rfl
theorem getI_int (ns : List Int) : (ns.map AV.int).map getI = ns := by
  induction ns with
  | nil => rfl
  | cons a r ih => rw [List.map_cons, List.map_cons, ih]; rfl
theorem beyond (h : Heap) {a : Addr} (ha : h.objs.size ≤ a) : h.get? a = none := by
  cases q : h.get? a with
  | none => rfl
  | some x => exact absurd (Heap.lt_size q) (Nat.not_lt.mpr ha)
theorem sorted_end {l : List AV} {ns ns' : List Int} {out : List Value} {h' : Heap} {t e : Nat} {a : Addr} (ok : Ok C n A H s) (hi : l.all isI = true) (hns : ns = l.map getI) (k : ∀ b o, s.heap.get? b = some o → h'.get? b = some o) (ha : s.heap.get? a = none) (hm : a ≠ sysModules)
    (hg : h'.get? a = some (seqObj "list" out.toArray e)) (h1 : IntsAre out ns') (h2 : ns'.Perm ns) (h3 : ns'.Pairwise (· ≤ ·)) (hq : ∀ l', l'.Perm l → (l'.map getI).Pairwise (· ≤ ·) → newAt (.list l') H Q) : QP C RepV H s Q (.ref a) { s with heap := h', toks := t } := by
  refine grown' (t := t) ok k ha hm hg (o := .list (ns'.map .int)) ⟨rfl, rfl, out, e, rfl, ints_rep h1⟩ (hq _ ?_ (by rw [getI_int]; exact h3))
  have := h2.map AV.int
  rw [hns, map_getI hi] at this
  exact this
theorem c_sorted_list (hc : C.base.get? cStatics ≠ none) {a : Addr} {l : List AV} (h : H a = some (.list l)) (hl : l.length ≤ 60) (hi : l.all isI = true) (hq : ∀ l', l'.Perm l → (l'.map getI).Pairwise (· ≤ ·) → newAt (.list l') H Q) : FCall C n X (.builtin "sorted") [.ref a] H Q := by
  intro A s vs ok hv
  obtain _ | ⟨r1, _ | _⟩ := hv
  cases r1
  obtain ⟨us, g1, g2⟩ := isList_of ok.rep h
  have hlen := g2.length
  refine sorted_ints g1 (ints_of g2 hi) (by omega) fun out ns' h1 h2 h3 => ?_
  obtain ⟨e, he⟩ := sortedAll_at s.heap us out
  exact sorted_end (out := out.toList) (t := s.toks) ok hi rfl (fun _ _ => sortedAll_old) (beyond _ (Nat.le_succ _)) (notMods_of hc ok.rep.keep (Nat.le_succ _)) (by rw [Array.toArray_toList]; exact he) h1 h2 h3 hq
theorem c_sorted_dict (hc : C.base.get? cStatics ≠ none) (hh : C.hd = false) {a : Addr} {l : List (Int × AV)} {ep : Nat} (h : H a = some (.dict l ep)) (hl : l.length ≤ 60) (hq : ∀ l', l'.Perm (l.map fun p => AV.int p.1) → (l'.map getI).Pairwise (· ≤ ·) → newAt (.list l') H Q) : FCall C n X (.builtin "sorted") [.ref a] H Q := by
  intro A s vs ok hv
  obtain _ | ⟨r1, _ | _⟩ := hv
  cases r1
  obtain ⟨kvs, g1, g2⟩ := dictAt_of ok.rep h
  have hlen := g2.length
  refine Calls.call_function_entry kind_sorted plain_sorted entry_sorted (args_sorted1 _) ?_
  unfold Builtin.«sorted»
  refine wpAny_bind (m := checkCount "sorted" 1 1 _) (wpAny_pure ?_)
  refine wpAny_bind (kdu_collect (A := A.in1) (kdl_dict (knd := intKind C.prog C.w) (notMods ok.rep h)) (ok.nohd hh) g1 (by rw [sizeLine_eq]; omega) fun h1 tk acc hk hacc => ?_)
  have hrep := keys_rep g2 (by rw [Array.length_toList]; exact hacc.1) fun j v e => hacc.2 j v (by rw [← Array.getElem?_toList]; exact e)
  have hal : acc.toList.length = l.length := by have := hrep.length; rw [List.length_map] at this; exact this.symm
  have hi : (l.map fun p => AV.int p.1).all isI = true := by
    have := all_int (l.map fun p => p.1)
    rw [List.map_map] at this; exact this
  refine wpAny_bind (wpAny_newList ?_ (by rw [sizeLine_eq]; omega))
  have hoL : (h1.push (seqObj "list" acc.toList.toArray 0)).get? h1.objs.size = some (seqObj "list" acc.toList.toArray 0) := Heap.get?_push_size _ rfl
  have ha0 : s.heap.get? h1.objs.size = none := by
    cases q : s.heap.get? h1.objs.size with
    | none => rfl
    | some o => exact absurd (Heap.lt_size (hk _ o q)) (Nat.lt_irrefl _)
  refine wpAny_bind (wpAny_holding (wpAny_call_entry slot_list_sort ⟨_, hoL, rfl⟩ entry_list_sort (list_sort_tree hoL (ints_of hrep hi) (by rw [hal]; omega) fun out ns' h2 h3 h4 => ⟨_, rfl, ?_⟩) (args_list_sort _)))
  refine wpAny_pure ⟨_, rfl, ?_⟩
  obtain ⟨e, he⟩ := sortedHeap_at (h := h1.push (seqObj "list" acc.toList.toArray 0)) (n := 0) (out := out) hoL
  refine sorted_end (out := out.toList) (t := tk) ok hi rfl (fun b o e => ?_) ha0 (notMods_of hc (fun b o e => hk b o (ok.rep.keep b o e)) (Nat.le_refl _)) (by rw [Array.toArray_toList]; exact he) h2 h3 h4 hq
  have e1 := hk b o e
  have hlt := Heap.lt_size e1
  rw [sortedHeap_old (Nat.ne_of_lt hlt) (by rw [size_push']; exact Nat.lt_succ_of_lt hlt)]
  exact Heap.get?_push_of_some _ e1
end
end Mine
end
section
open PySem PySem.W PyProof.Rows PySem.Calls
set_option maxRecDepth 100000
namespace Mine
noncomputable def lvs (n : Nat) (P : Array Nat → Bool) : KasT (Array Nat) → Bool
  | .ret p => P p
  | .ask i j k => decide (i < n) && decide (j < n) && lvs n P (k true) && lvs n P (k false)
noncomputable def permOf (n : Nat) (p : Array Nat) : Bool := p.toList.isPerm (List.range n)
theorem lvs2 : lvs 2 (permOf 2) (kas_sort 2) = true := by decide +kernel
theorem lvs3 : lvs 3 (permOf 3) (kas_sort 3) = true := by decide +kernel
theorem lvs4 : lvs 4 (permOf 4) (kas_sort 4) = true := by decide +kernel
theorem kas_all {cmp : Nat → Nat → (Bool → Shared → Prop) → Shared → Prop} {n : Nat} {P : Array Nat → Bool} {St : Shared → Prop} {G : Array Nat → Shared → Prop}
    (ha : ∀ i j Cn s, i < n → j < n → St s → (∀ b s', St s' → Cn b s') → cmp i j Cn s) (hG : ∀ p s, P p = true → St s → G p s) : ∀ (t : KasT (Array Nat)) (s : Shared), lvs n P t = true → St s → t.kasWp cmp G s
  | .ret p, s, h, hs => hG p s h hs
  | .ask i j k, s, h, hs => by
    simp only [lvs, Bool.and_eq_true, decide_eq_true_eq] at h
    obtain ⟨⟨⟨h1, h2⟩, h3⟩, h4⟩ := h
    refine ha i j _ s h1 h2 hs fun b s' hs' => ?_
    cases b with
    | true => exact kas_all ha hG (k true) s' h3 hs'
    | false => exact kas_all ha hG (k false) s' h4 hs'
noncomputable def TupI (h : Heap) (v : Value) : Prop := ∃ a o n x y z t u w, v = .ref a ∧ h.get? a = some o ∧ o.cls = .type "tuple" ∧ o.data = .seq #[.int x t, .int y u, .int z w] n
theorem TupI.keep {h h' : Heap} {v : Value} (x : TupI h v) (k : ∀ b o, h.get? b = some o → h'.get? b = some o) : TupI h' v :=
  let ⟨a, o, n, x, y, z, t, u, w, e, h1, r⟩ := x; ⟨a, o, n, x, y, z, t, u, w, e, k _ _ h1, r⟩
section
variable {prog : Program} {w : World} {A : Around} {E : Value → Shared → Prop} {s : Shared}
theorem one_lt {c : Bool} {x y : Int} {t u : Tok} {Q : Bool → Shared → Prop} (h : Q (decide (x < y)) s) : wpAny (model prog w) A (oneLt' c (.int x t) (.int y u)) Q E s := by
  cases c with
  | true => exact oneLt_int h
  | false => exact kat_one _ _ (P.lt_int h)
theorem tup_lt {v v' : Value} {Q : Bool → Shared → Prop} (h1 : TupI s.heap v) (h2 : TupI s.heap v') (h : ∀ b, Q b s) : wpAny (model prog w) A (keyLt' (tuples' true) v v') Q E s := by
  obtain ⟨a, o, n, x, y, z, t, u, r, rfl, g1, g2, g3⟩ := h1
  obtain ⟨a', o', n', x', y', z', t', u', r', rfl, g1', g2', g3'⟩ := h2
  refine kat_lt g1 g3 g1' g3' ?_
  have step : ∀ (p q : Int) (a b : Tok) (l : List (Value × Value)) (i : Nat), KatLex prog w A true (decide ((3 : Nat) < 3)) Q l (i + 1) s → KatLex prog w A true (decide ((3 : Nat) < 3)) Q ((.int p a, .int q b) :: l) i s := fun p q a b l i hr => by
    refine kat_cons (SeqAt.EqAt.int_int p a q b prog w _ _ ?_)
    cases e : (p == q) with
    | true => exact kat_yes hr
    | false => exact kat_no (one_lt (h _))
  show KatLex prog w A true (decide ((3 : Nat) < 3)) Q [(.int x t, .int x' t'), (.int y u, .int y' u'), (.int z r, .int z' r')] 0 s
  exact step _ _ _ _ _ _ (step _ _ _ _ _ _ (step _ _ _ _ _ _ (kat_nil (h _))))
theorem tup_kind {vs : List Value} {Q : SortKind → Shared → Prop} (hne : 0 < vs.length) (ht : ∀ v ∈ vs, TupI s.heap v) (h : Q (tuples' true) s) : wpAny (model prog w) A (keyKind' vs.toArray) Q E s := by
  obtain ⟨fs, hf1, hf2, hf3⟩ : ∃ fs : List Value, KatTups s.heap vs fs ∧ fs.length = vs.length ∧ ∀ f ∈ fs, ∃ i t, f = .int i t := by
    clear hne
    induction vs with
    | nil => exact ⟨[], trivial, rfl, fun _ z => by cases z⟩
    | cons v vs ih =>
      obtain ⟨fs, h1, h2, h3⟩ := ih fun x hx => ht x (.tail _ hx)
      obtain ⟨a, o, n, x, y, z, t, u, r, rfl, g1, g2, g3⟩ := ht v (.head _)
      refine ⟨.int x t :: fs, KatTups.cons g1 g2 g3 rfl h1, by simp [h2], fun f hf => ?_⟩
      rcases List.mem_cons.mp hf with rfl | hf
      · exact ⟨x, t, rfl⟩
      · exact h3 f hf
  refine kat_kind (T := .type "int") hf1 (by omega) (fun v hv => ?_) (by decide) h
  obtain ⟨i, t, rfl⟩ := hf3 v hv
  exact Looks.of_pure rfl
theorem tup_sort {a : Addr} {vs : List Value} {n : Nat} {P : PySem.Fin → Shared → Prop} (ho : s.heap.get? a = some (seqObj "list" vs.toArray n)) (h4 : vs.length ≤ 4) (ht : ∀ v ∈ vs, TupI s.heap v)
    (h : ∀ (out : List Value), out.Perm vs → P (.done (.ret .none)) { s with heap := sortedHeap s.heap a vs out.toArray }) : wpAny (model prog w) A (Builtin.«list.sort» ⟨[.ref a], []⟩) P E s := by
  rw [list_sort_plain]
  have ha : a < s.heap.objs.size := Heap.lt_size ho
  refine wpAny_bind (listItems_at ho rfl ?_)
  refine wpAny_bind (listUpdate_at ho rfl ?_ (by rw [List.size_toArray, sizeLine_eq]; omega) (Nat.zero_le _))
  obtain ⟨e1, ho1⟩ : ∃ e1, (s.heap.update a (Obj.mapSeq fun _ => (#[] : Array Value))).get? a = some (seqObj "list" #[] e1) := ⟨_, get?_update_seq ho fun _ => #[]⟩
  refine wpAny_bind (seqEpoch_at ho1 rfl ?_)
  refine wpAny_bind (wpAny_newTuple ?_ (by show vs.length ≤ _; rw [sizeLine_eq]; omega))
  refine wpAny_bind (wpAny_newList ?_ (Nat.zero_le _))
  refine wpAny_holding ?_
  have ho6 : (((s.heap.update a (Obj.mapSeq fun _ => (#[] : Array Value))).push (seqObj "tuple" vs.toArray 0)).push (seqObj "list" #[] 0)).get? a = some (seqObj "list" #[] e1) :=
    Heap.get?_push_of_some _ (Heap.get?_push_of_some _ ho1)
  have ht6 : ∀ v ∈ vs, TupI (((s.heap.update a (Obj.mapSeq fun _ => (#[] : Array Value))).push (seqObj "tuple" vs.toArray 0)).push (seqObj "list" #[] 0)) v := fun v hv => by
    obtain ⟨b, o, m, x, y, z, t, u, r, rfl, g1, g2, g3⟩ := ht v hv
    have hb : b ≠ a := fun q => by
      rw [q, ho] at g1; cases g1; exact absurd (Value.type.inj g2) (by decide)
    exact ⟨b, o, m, x, y, z, t, u, r, rfl, Heap.get?_push_of_some _ (Heap.get?_push_of_some _ ((Heap.get?_update_ne _ _ _ _ hb).trans g1)), g2, g3⟩
  show wpAny (model prog w) A _ P E { s with heap := ((s.heap.update a (Obj.mapSeq fun _ => (#[] : Array Value))).push (seqObj "tuple" vs.toArray 0)).push (seqObj "list" #[] 0) }
  dsimp only
  by_cases h2 : vs.toArray.size < 2
  · rw [if_pos h2, if_pos h2]
    refine wpAny_bind (wpAny_pure ?_)
    rw [StateT.run_pure]
    refine wpAny_bind (wpAny_pure ?_)
    dsimp only
    have har : (arrOf (SortSt.mk' general' (vs.toArray.zip vs.toArray) #[] 7 none)).map (·.2) = vs.toArray := by
      show (vs.toArray.zip vs.toArray).map (·.2) = vs.toArray
      apply Array.toList_inj.mp
      simp only [Array.toList_map, Array.toList_zip]
      exact List.map_snd_zip (Nat.le_refl _)
    rw [har]
    refine wpAny_bind (seqEpoch_at ho6 rfl ?_)
    refine wpAny_bind (listUpdate_at ho6 rfl ?_ (Nat.zero_le _) (by rw [List.size_toArray, sizeLine_eq]; omega))
    simp only [bne_self_eq_false, Bool.false_eq_true, if_false]
    exact wpAny_pure (h vs (List.Perm.refl _))
  · rw [if_neg h2, if_neg h2]
    have h2' : 2 ≤ vs.length := by rw [List.size_toArray] at h2; omega
    refine wpAny_bind (tup_kind (by omega) ht6 ?_)
    generalize hg : ((s.heap.update a (Obj.mapSeq fun _ => (#[] : Array Value))).push (seqObj "tuple" vs.toArray 0)).push (seqObj "list" #[] 0) = h6 at ho6 ht6
    have hl : lvs vs.length (permOf vs.length) (kas_sort vs.length) = true := by
      have : vs.length = 2 ∨ vs.length = 3 ∨ vs.length = 4 := by omega
      rcases this with e | e | e <;> rw [e] <;> first | exact lvs2 | exact lvs3 | exact lvs4
    have ask := kas_all (cmp := kas_ask prog w A (tuples' true) vs) (St := fun s' => s' = { s with heap := h6 }) (G := fun p s' => permOf vs.length p = true ∧ s' = { s with heap := h6 })
      (fun i j Cn s' hi hj hs hC => by
        subst hs
        have gi : ∀ k, k < vs.length → TupI h6 (vs.getD k Value.none) := fun k hk => ht6 _ (by simp [List.getD_eq_getElem?_getD, List.getElem?_eq_getElem hk])
        exact tup_lt (gi i hi) (gi j hj) fun b => hC b _ rfl)
      (fun p s' hp hs => ⟨hp, hs⟩) (kas_sort vs.length) { s with heap := h6 } hl rfl
    refine wpAny_bind (wpAny_mono (kat_run (Q := fun st' s' => ∃ p : Array Nat, p.size = vs.length ∧ arrOf st' = p.map (kas_item (vs.toArray.zip vs.toArray)) ∧ failedOf st' = none ∧ permOf vs.length p = true ∧ s' = { s with heap := h6 })
      rfl h2' (by omega) (fun p' st' s' a1 a2 a3 a4 => ⟨p', a1, a2, a3, a4.1, a4.2⟩) ask) ?_ fun _ _ e => e)
    rintro ⟨⟨⟩, st'⟩ s' ⟨p, hp, har, hf, hperm, rfl⟩
    dsimp only
    have hout := kat_snds rfl har
    have hsz : (List.toArray (p.toList.map fun i => vs.getD i Value.none)).size = vs.length := by rw [List.size_toArray, List.length_map, Array.length_toList, hp]
    rw [hout]
    refine wpAny_bind (seqEpoch_at ho6 rfl ?_)
    refine wpAny_bind (listUpdate_at ho6 rfl ?_ (Nat.zero_le _) (Nat.le_trans (Nat.le_of_eq hsz) (by rw [sizeLine_eq]; omega)))
    rw [hf]
    simp only [bne_self_eq_false, Bool.false_eq_true, if_false]
    have hpl : (p.toList.map fun i => vs.getD i Value.none).Perm vs := by
      have q := (List.isPerm_iff.mp hperm).map fun i => vs.getD i Value.none
      have e : (List.range vs.length).map (fun i => vs.getD i Value.none) = vs := by
        apply List.ext_getElem
        · simp
        · intro i h1 h2
          simp [List.getD_eq_getElem?_getD, List.getElem?_eq_getElem h2]
      rw [e] at q
      exact q
    have := h _ hpl
    unfold sortedHeap at this
    rw [hg] at this
    exact wpAny_pure this
theorem sorted_tups {l : Addr} {vs : List Value} {Q : Value → Shared → Prop} (hl : s.heap.IsList l vs.toArray) (h4 : vs.length ≤ 4) (ht : ∀ v ∈ vs, TupI s.heap v)
    (h : ∀ (out : List Value), out.Perm vs → Q (.ref (s.heap.objs.size + 1)) { s with heap := sortedAll s.heap vs out.toArray }) : wpAny (model prog w) A (call (.builtin "sorted") [.ref l]) Q E s := by
  refine Calls.call_function_entry kind_sorted plain_sorted entry_sorted (args_sorted1 _) ?_
  unfold Builtin.«sorted»
  refine wpAny_bind (m := checkCount "sorted" 1 1 _) (wpAny_pure ?_)
  refine wpAny_bind (collect_list hl ?_ (by rw [sizeLine_eq]; omega))
  refine wpAny_bind (wpAny_newList ?_ (by rw [sizeLine_eq]; omega))
  have hsz : ((s.heap.push (seqObj "list" #[] 0)).update s.heap.objs.size (Obj.mapSeq (· ++ vs.toArray))).objs.size = s.heap.objs.size + 1 := by
    rw [Heap.size_update, size_push']
  have hoL : (((s.heap.push (seqObj "list" #[] 0)).update s.heap.objs.size (Obj.mapSeq (· ++ vs.toArray))).push (seqObj "list" vs.toArray 0)).get? (s.heap.objs.size + 1) = some (seqObj "list" vs.toArray 0) := by
    rw [← hsz]; exact Heap.get?_push_size _ rfl
  have keep : ∀ b o, s.heap.get? b = some o → (((s.heap.push (seqObj "list" #[] 0)).update s.heap.objs.size (Obj.mapSeq (· ++ vs.toArray))).push (seqObj "list" vs.toArray 0)).get? b = some o := fun b o q => by
    have hlt : b < s.heap.objs.size := Heap.lt_size q
    rw [Heap.get?_push_ne _ _ _ (by rw [hsz]; exact Nat.ne_of_lt (Nat.lt_succ_of_lt hlt)), Heap.get?_update_ne _ _ _ _ (Nat.ne_of_lt hlt), Heap.get?_push_ne _ _ _ (Nat.ne_of_lt hlt)]
    exact q
  show wpAny _ _ _ _ _ { s with heap := ((s.heap.push (seqObj "list" #[] 0)).update s.heap.objs.size (Obj.mapSeq (· ++ vs.toArray))).push (seqObj "list" vs.toArray 0) }
  rw [hsz]
  refine wpAny_bind (wpAny_holding (wpAny_call_entry slot_list_sort ⟨_, hoL, rfl⟩ entry_list_sort (tup_sort hoL h4 (fun v hv => (ht v hv).keep keep) fun out hp => ⟨_, rfl, ?_⟩) (args_list_sort _)))
  exact wpAny_pure ⟨_, rfl, h out hp⟩
end
section
variable {C : Cfg} {n : Nat} {H : AHeap} {Q : AV → AHeap → Prop} {X : AHeap → Prop}
theorem F2.perm {α β : Type} {R : α → β → Prop} {m m' : List β} (p : m.Perm m') : ∀ {l : List α}, F2 R l m → ∃ l', l.Perm l' ∧ F2 R l' m' := by
  induction p with
  | nil => intro l h; exact ⟨l, .refl _, h⟩
  | cons x _ ih =>
    intro l h
    cases h with
    | cons h1 h2 =>
      obtain ⟨l', p', f⟩ := ih h2
      exact ⟨_, p'.cons _, .cons h1 f⟩
  | swap x y m =>
    intro l h
    cases h with
    | cons h1 h2 =>
      cases h2 with
      | cons h3 h4 => exact ⟨_, .swap _ _ _, .cons h3 (.cons h1 h4)⟩
  | trans _ _ ih1 ih2 =>
    intro l h
    obtain ⟨l1, p1, f1⟩ := ih1 h
    obtain ⟨l2, p2, f2⟩ := ih2 f1
    exact ⟨l2, p1.trans p2, f2⟩
theorem c_sorted_tups (hc : C.base.get? cStatics ≠ none) {a : Addr} {l : List AV} (h : H a = some (.list l)) (hl : l.length ≤ 4) (hi : ∀ x ∈ l, ∃ t a b c, x = .ref t ∧ H t = some (.tup [.int a, .int b, .int c])) (hq : ∀ l', l'.Perm l → newAt (.list l') H Q) : FCall C n X (.builtin "sorted") [.ref a] H Q := by
  intro A s vs ok hv
  obtain _ | ⟨r1, _ | _⟩ := hv
  cases r1
  obtain ⟨us, g1, g2⟩ := isList_of ok.rep h
  have hlen := g2.length
  refine sorted_tups g1 (by omega) (fun v hv => ?_) fun out hp => ?_
  · obtain ⟨i, hi', rfl⟩ := List.mem_iff_getElem.mp hv
    have hil : i < l.length := by omega
    obtain ⟨b, h1, h2⟩ := g2.get (List.getElem?_eq_getElem hil)
    rw [List.getElem?_eq_getElem hi'] at h1
    cases h1
    obtain ⟨t, x, y, z, e, ht⟩ := hi _ (List.getElem_mem hil)
    rw [e] at h2
    obtain ⟨_, _, o, ho, hcl, ws, m, hd, f⟩ := ok.rep.obj t _ ht
    obtain _ | ⟨⟨t1, rfl⟩, _ | ⟨⟨t2, rfl⟩, _ | ⟨⟨t3, rfl⟩, _ | _⟩⟩⟩ := f
    exact ⟨t, o, m, x, y, z, t1, t2, t3, h2, ho, hcl, hd⟩
  · obtain ⟨e, he⟩ := sortedAll_at s.heap us out.toArray
    obtain ⟨l', p', f⟩ := F2.perm hp.symm g2
    exact grown' (t := s.toks) ok (fun _ _ => sortedAll_old) (beyond _ (Nat.le_succ _)) (notMods_of hc ok.rep.keep (Nat.le_succ _)) he (o := .list l') ⟨rfl, rfl, out, e, rfl, f⟩ (hq l' p'.symm)
end
end Mine
end
section
open PySem PySem.W PyProof.Rows PySem.Calls
set_option maxRecDepth 100000
namespace Mine
theorem okAttr_cases {c : Addr} {f : Str} (h : okAttr c f = true) : (c = 124 ∧ (f = "near" ∨ f = "crosses" ∨ f = "cost" ∨ f = "copies" ∨ f = "alias")) ∨ (c = 58 ∧ (f = "all" ∨ f = "kept")) := by
  unfold okAttr at h
  simp only [Bool.or_eq_true, Bool.and_eq_true, beq_iff_eq] at h
  rcases h with ⟨h1, h2⟩ | ⟨h1, h2⟩
  · exact .inl ⟨h1, by rcases h2 with (((h | h) | h) | h) | h <;> simp [h]⟩
  · exact .inr ⟨h1, by rcases h2 with h | h <;> simp [h]⟩
theorem ns_look {name : Str} {l : List (Str × AV)} {es : List DictEntry} (h0 : F2 (fun p e => (∃ t, e.key = .str p.1 t) ∧ RepV p.2 e.val) l es) :
    (∀ v, l.lookup name = some v → ∃ cv, getL name es = some (some cv) ∧ RepV v cv) ∧ (l.lookup name = none → getL name es = some none ∧ es.find? (·.key.isStr name) = none) := by
  induction h0 with
  | nil => exact ⟨fun v h => (by cases h), fun _ => ⟨rfl, rfl⟩⟩
  | @cons p e l es h1 h2 ih =>
    obtain ⟨⟨t, hk⟩, hv⟩ := h1
    obtain ⟨i1, i2⟩ := ih
    have noref : e.refKey = false := by unfold DictEntry.refKey; rw [hk]
    by_cases q : name = p.1
    · have hs : e.key.isStr name = true := by rw [hk, q]; simp [Value.isStr]
      refine ⟨fun v h => ?_, fun h => ?_⟩
      · rw [List.lookup_cons, beq_iff_eq.mpr q] at h
        cases h
        exact ⟨e.val, by unfold getL; rw [List.find?_cons, hs], hv⟩
      · rw [List.lookup_cons, beq_iff_eq.mpr q] at h; cases h
    · have hs : e.key.isStr name = false := by rw [hk]; simp [Value.isStr]; exact fun z => q z.symm
      have hf : (e :: es).find? (·.key.isStr name) = es.find? (·.key.isStr name) := by rw [List.find?_cons, hs]
      have hg : getL name (e :: es) = getL name es := by
        unfold getL
        rw [hf, List.any_cons, noref, Bool.false_or]
      rw [List.lookup_cons, beq_eq_false_iff_ne.mpr q, hg, hf]
      exact ⟨i1, i2⟩
theorem handed_rep {v : AV} {cv : Value} (h : RepV v cv) : handedIn cv = true := by
  cases v with
  | int i => obtain ⟨t, rfl⟩ := h; rfl
  | str x => obtain ⟨t, rfl⟩ := h; rfl
  | _ => cases h; rfl
section
variable {C : Cfg} {n : Nat} {H : AHeap} {Q : AV → AHeap → Prop} {A : Around} {s : Shared}
theorem Ground.in_ (g : Ground C) (r : Rep C H s) : (KH C.w.params).In s.heap := g.k.keeps r.keep
theorem inst_at {x c d : Addr} {l : List (Str × AV)} (r : Rep C H s) (h1 : H x = some (.inst c d)) (h2 : H d = some (.ns l)) :
    ∃ es k, InstAt s.heap x (instObj c d) c (some (dictOf es k)) ∧ s.heap.get? d = some (dictOf es k) ∧ F2 (fun p e => (∃ t, e.key = .str p.1 t) ∧ RepV p.2 e.val) l es := by
  obtain ⟨_, _, ob, ho, rfl⟩ := r.obj x _ h1
  obtain ⟨_, _, od, hd, es, k, rfl, f⟩ := r.obj d _ h2
  exact ⟨es, k, ⟨ho, rfl, rfl, hd⟩, hd, f⟩
theorem p_attr (g : Ground C) {a : AV} {f : Str} (h : eAttr a f H Q) : PAttr C n a f H Q := by
  obtain ⟨x, rfl, _⟩ := ref1_of h; clear h; rename_i h
  unfold kAttr at h
  obtain ⟨c, d, l, v, h1, h2, h3, h4, hq⟩ := h
  intro va ra A E s ok
  cases ra
  obtain ⟨es, k, I, _, f2⟩ := inst_at ok.rep h1 h2
  obtain ⟨cv, hg, rv⟩ := (ns_look f2).1 v h4
  have X := g.in_ ok.rep
  have fin : ∀ {hga : findIn (KH C.w.params) (.ref c) "__getattribute__" = some (some (.builtin "object.__getattribute__"))} (hh : hasDictIn (KH C.w.params) c = true) (ha : findIn (KH C.w.params) (.ref c) f = some none),
      wpAny (model C.prog C.w) A (getAttr (.ref x) f true) (QP C RepV H s Q) E s := fun {hga} hh ha =>
    get_value X I hga (findObj_own hh ha rfl (by rw [lookIn_dict]; exact hg)) (handed_rep rv) (qv ok.rep rv hq _)
  rcases okAttr_cases h3 with ⟨rfl, h | h | h | h | h⟩ | ⟨rfl, h | h⟩ <;> subst h <;> exact fin (hga := by kernel_rfl) (by kernel_rfl) (by kernel_rfl)
end
end Mine
end
section
open PySem PySem.W PyProof.Rows PySem.Calls
set_option maxRecDepth 100000
namespace Mine
theorem putL_end {name : Str} {hsh : Int} {key v : Value} : ∀ {es : List DictEntry}, es.find? (·.key.isStr name) = none → putL name hsh key v es = es ++ [⟨hsh, key, v⟩]
  | [], _ => rfl
  | e :: r, h => by
    rw [List.find?_cons] at h
    unfold putL
    cases q : e.key.isStr name with
    | true => rw [q] at h; cases h
    | false =>
      rw [q] at h
      rw [if_neg (by simp), putL_end h]
      rfl
section
variable {C : Cfg} {n : Nat} {H : AHeap} {A : Around} {s : Shared}
theorem osa_new (g : Ground C) {x c d : Addr} {l : List (Str × AV)} {f : Str} {v : AV} {cv : Value} {tk : Tok} {R : Result → Shared → Prop} (r : Rep C H s) (h1 : H x = some (.inst c d)) (h2 : H d = some (.ns l)) (h3 : l.lookup f = none) (hlen : l.length ≤ 20) (rv : RepV v cv)
    (hp : plainOver (KH C.w.params) c = true) (ht : takerIn (KH C.w.params) c f = some none) (hh : hasDictIn (KH C.w.params) c = true)
    (hq : ∀ h', Rep C (H.set d (.ns (l ++ [(f, v)]))) { s with heap := h', toks := s.toks + 1 } → Step H (H.set d (.ns (l ++ [(f, v)]))) s { s with heap := h', toks := s.toks + 1 } → R (.ok (.ret .none)) { s with heap := h', toks := s.toks + 1 }) :
    codeAny (model C.prog C.w) A (.call (.builtin "object.__setattr__") ⟨[.ref x, .str f tk, cv], []⟩) R s := by
  obtain ⟨es, k, I, hd, f2⟩ := inst_at r h1 h2
  have X := g.in_ r
  obtain ⟨hg, hnone⟩ := (ns_look (name := f) f2).2 h3
  have hz : es.length = l.length := f2.length.symm
  refine osa_open X I hp ht fun b => ?_
  obtain ⟨cd, hc, hd'⟩ := any_some hh
  have hx := I.at_
  refine wpAny_bind (wpAny_pure (wpAny_bind (wpAny_bind (wpAny_loadPart hx (wpAny_bind ((looks_clsIn X hc).here ?_))))))
  rw [hd']
  refine wpAny_pure (a := some d) (wpAny_bind (wpAny_pure (wpAny_bind ?_)))
  unfold nsSet
  refine wpAny_bind (wpAny_bind (wpAny_askSetting (wpAny_pure (wpAny_bind (wpAny_mkText (wpAny_bind (wpAny_loadPart hd ?_)))))))
  have c0 : (!es.toArray.any (·.key.isStr f) && es.toArray.any (·.refKey)) = false := by
    rw [← Array.any_toList, ← Array.any_toList]
    have hr : es.any (·.refKey) = false := by
      unfold getL at hg
      rw [hnone] at hg
      dsimp only at hg
      split at hg
      · cases hg
      · rename_i z; simpa using z
    rw [show es.toArray.toList = es from rfl, hr, Bool.and_false]
  have e1 : Obj.putName f (PyData.keyHash C.w.params f) (.str f s.toks) cv (dictOf es k) = dictOf (es ++ [⟨PyData.keyHash C.w.params f, .str f s.toks, cv⟩]) (putN f es k) := by rw [putName_dict, putL_end hnone]
  have hf : (Obj.putName f (PyData.keyHash C.w.params f) (.str f s.toks) cv (dictOf es k)).isFreed = false := by rw [e1]; rfl
  have D' := Heap.get?_update_self (Obj.putName f (PyData.keyHash C.w.params f) (.str f s.toks) cv) hd hf
  rw [e1] at D'
  dsimp only
  rw [aRefKeyMayBeTheName_at, c0]
  refine wpAny_updatePart hd ?_
  refine wpAny_bind (wpAny_lookBehind D' (pastItsLine_dict (by rw [List.size_toArray, sizeLine_eq, List.length_append]; simp; omega)) ?_)
  have hsb : ∀ b, b ≠ d → (s.heap.update d (Obj.putName f (PyData.keyHash C.w.params f) (.str f s.toks) cv)).get? b = s.heap.get? b := fun b hb => Heap.get?_update_ne _ _ _ _ hb
  exact wpAny_pure (hq _ (Rep.upd (o := .ns (l ++ [(f, v)])) (t := s.toks + 1) r h2 hsb D' ⟨_, _, rfl, f2.snoc ⟨⟨_, rfl⟩, rv⟩⟩) (Step.upd (t := s.toks + 1) h2 hsb))
theorem set_attr (g : Ground C) {x c d : Addr} {l : List (Str × AV)} {f : Str} {v : AV} {cv : Value} {Q : AHeap → Prop} {E : Value → Shared → Prop} (ok : Ok C n A H s) (h1 : H x = some (.inst c d)) (h2 : H d = some (.ns l)) (h3 : l.lookup f = none) (hlen : l.length ≤ 20) (rv : RepV v cv)
    (hs : findIn (KH C.w.params) (.ref c) "__setattr__" = some (some (.builtin "object.__setattr__"))) (hp : plainOver (KH C.w.params) c = true) (ht : takerIn (KH C.w.params) c f = some none) (hh : hasDictIn (KH C.w.params) c = true)
    (hq : Q (H.set d (.ns (l ++ [(f, v)])))) : wpAny (model C.prog C.w) A (setAttr (.ref x) f cv) (QP C (fun (_ _ : Unit) => True) H s fun _ H' => Q H') E s := by
  obtain ⟨es, k, I, hd, f2⟩ := inst_at ok.rep h1 h2
  refine set_plain (g.in_ ok.rep) I hs (osa_new (s := { s with toks := s.toks + 1 }) g (ok.rep.tok _) h1 h2 h3 hlen rv hp ht hh fun h' r' st => ?_)
  exact ⟨(), _, trivial, r', (Step.tok H s _).trans st, hq⟩
theorem p_setAttr (g : Ground C) {a v : AV} {f : Str} {Q : AHeap → Prop} (h : eSetAttr a f v H Q) : PSetAttr C n a f v H Q := by
  obtain ⟨x, rfl, _⟩ := ref1_of h; clear h; rename_i h
  unfold kSetAttr at h
  obtain ⟨c, d, l, h1, h2, h3, h4, h5, hq⟩ := h
  intro vo vv ro rv A E s ok
  cases ro
  rcases okAttr_cases h3 with ⟨rfl, h | h | h | h | h⟩ | ⟨rfl, h | h⟩ <;> subst h <;> exact set_attr g ok h1 h2 h4 h5 rv (by kernel_rfl) (by kernel_rfl) (by kernel_rfl) (by kernel_rfl) hq
theorem get_meth (g : Ground C) {x c d : Addr} {l : List (Str × AV)} {m : Str} {fn : Addr} (h1 : H x = some (.inst c d)) (h2 : H d = some (.ns l)) (h3 : l.lookup m = none)
    (hga : findIn (KH C.w.params) (.ref c) "__getattribute__" = some (some (.builtin "object.__getattribute__"))) (hk : findIn (KH C.w.params) (.ref c) "__getattr__" = some none) (hf : findIn (KH C.w.params) (.ref c) m = some (some (.ref fn))) (ht : typeIn (KH C.w.params) (.ref fn) = some (.type "function")) :
    PGet C n (.ref x) m H (.ref fn) := by
  intro cv rv A E s pl Q ok hq
  cases rv
  obtain ⟨es, k, I, hd, f2⟩ := inst_at ok.rep h1 h2
  obtain ⟨hg, _⟩ := (ns_look (name := m) f2).2 h3
  exact method_fn (g.in_ ok.rep) I hga hk hf ht (by show (lookIn m (dictOf es k)).map _ = _; rw [lookIn_dict, hg]; rfl) (hq s ok.rep (.refl _ _))
theorem make_inst (g : Ground C) {X : AHeap → Prop} {c fI : Addr} {args : List AV} {Q : AV → AHeap → Prop} (hm : makesIn (KH C.w.params) c = true) (hi : findIn (KH C.w.params) (.ref c) "__init__" = some (some (.ref fI))) (hf : typeIn (KH C.w.params) (.ref fI) = some (.type "function"))
    (h : ∀ x d, H x = none → H d = none → x ≠ d → FCode C n X fI (.ref x :: args) ((H.set d (.ns [])).set x (.inst c d)) fun v H' => v = .none ∧ Q (.ref x) H') : FCall C (n + 1) X (.ref c) args H Q := by
  intro A s vs ok hv
  have X0 := g.in_ ok.rep
  have hc := g.cs
  refine wpAny_call ?_
  obtain ⟨hh, gg, dd, tk, os⟩ := s
  refine make_core (makes_of X0 hm) (looks_findIn X0 hi) (fun self => bind_fn X0 self hf) (.inl rfl) ?_
  have k1 : ∀ b o, hh.get? b = some o → (hh.push emptyDict).get? b = some o := fun _ _ e => Heap.get?_push_of_some _ e
  have hsz : (hh.push emptyDict).objs.size = hh.objs.size + 1 := Heap.size_push ..
  have r1 : Rep C (H.set hh.objs.size (.ns [])) ⟨hh.push emptyDict, gg, dd, tk, os⟩ :=
    Rep.new (t := tk) ok.rep k1 (get_size hh) (ok.notModules hc) (Heap.get?_push_size _ rfl) ⟨[], 0, rfl, .nil⟩
  have st1 : Step H (H.set hh.objs.size (.ns [])) ⟨hh, gg, dd, tk, os⟩ ⟨hh.push emptyDict, gg, dd, tk, os⟩ := Step.new (t := tk) k1 (get_size hh)
  have ok1 := ok.step st1 r1
  have k2 : ∀ b o, (hh.push emptyDict).get? b = some o → ((hh.push emptyDict).push (instObj c hh.objs.size)).get? b = some o := fun _ _ e => Heap.get?_push_of_some _ e
  have r2 : Rep C ((H.set hh.objs.size (.ns [])).set (hh.objs.size + 1) (.inst c hh.objs.size)) ⟨(hh.push emptyDict).push (instObj c hh.objs.size), gg, dd, tk, os⟩ :=
    Rep.new (t := tk) r1 k2 (hsz ▸ get_size _) (hsz ▸ ok1.notModules hc) (hsz ▸ Heap.get?_push_size _ rfl) rfl
  have st2 : Step (H.set hh.objs.size (.ns [])) ((H.set hh.objs.size (.ns [])).set (hh.objs.size + 1) (.inst c hh.objs.size)) ⟨hh.push emptyDict, gg, dd, tk, os⟩ ⟨(hh.push emptyDict).push (instObj c hh.objs.size), gg, dd, tk, os⟩ :=
    Step.new (t := tk) k2 (hsz ▸ get_size _)
  have ok2 := ok1.step st2 r2
  have hx : H (hh.objs.size + 1) = none := by
    have := ok1.atSize
    rw [hsz] at this
    rw [AHeap.set_ne _ _ (Nat.succ_ne_self _)] at this
    exact this
  have fc := h (hh.objs.size + 1) hh.objs.size hx ok.atSize (Nat.succ_ne_self _)
  have ok3 : Ok C n (A.under (.builtin "type.__call__" ⟨.ref c :: vs, []⟩)) ((H.set hh.objs.size (.ns [])).set (hh.objs.size + 1) (.inst c hh.objs.size)) ⟨(hh.push emptyDict).push (instObj c hh.objs.size), gg, dd, tk, os⟩ :=
    ⟨ok2.rep, by have := ok2.depth; show A.depth + 1 + 2 * n ≤ 980; omega, by have := ok2.units; show A.units + 1 + 20 * n ≤ 9000; omega, ok2.hd, ok2.fr, fun o ho => (by have := ok2.len o ho; omega)⟩
  have st := st1.trans st2
  refine codeAny_mono (fc _ _ (.ref (hh.objs.size + 1) :: vs) ok3 (.cons rfl hv)) fun r s' z => ?_
  rcases r with e | (v | _ | _ | _)
  · exact XP.pre st ⟨z.fly, z.keep⟩
  · exact z.elim
  · exact z.elim
  · exact z.elim
  · obtain ⟨b, H', rv, r', st', rfl, hq⟩ := z
    exact ⟨rv, .ref (hh.objs.size + 1), H', rfl, r', st.trans st', hq⟩
end
end Mine
end
section
open PySem PySem.W PyProof.Rows PySem.Calls
set_option maxRecDepth 100000
namespace Mine
section
variable {C : Cfg} {n : Nat} {H : AHeap} {Q : AV → AHeap → Prop} {X : AHeap → Prop}
theorem e_len {vs : List AV} (h : eCallB C .len vs H Q) : FCall C n X (.builtin "len") vs H Q := by
  obtain ⟨v, rfl, _⟩ := arg1_of h; clear h; rename_i h
  obtain ⟨a, rfl, _⟩ := ref1_of h; clear h; rename_i h
  unfold kLen at h
  rcases h with ⟨l, e, h1, h2⟩ | ⟨l, ep, e, h1, h2⟩
  · exact c_len_list e h1 h2
  · exact c_len_dict e h1 h2
theorem e_list (hc : C.base.get? cStatics ≠ none) {vs : List AV} (h : eCallB C .list vs H Q) : FCall C n X (.type "list") vs H Q := by
  obtain ⟨v, rfl, _⟩ := arg1_of h; clear h; rename_i h
  obtain ⟨a, rfl, _⟩ := ref1_of h; clear h; rename_i h
  unfold kList at h
  rcases h with ⟨l, e, h1, h2⟩ | ⟨l, ep, e, h0, h1, h2⟩
  · exact c_list_list hc e h1 h2
  · exact c_list_dict hc h0 e h1 h2
theorem e_dict (hc : C.base.get? cStatics ≠ none) {vs : List AV} (h : eCallB C .dict vs H Q) : FCall C n X (.type "dict") vs H Q := by
  obtain ⟨v, rfl, _⟩ := arg1_of h; clear h; rename_i h
  obtain ⟨a, rfl, _⟩ := ref1_of h; clear h; rename_i h
  unfold kDict at h
  obtain ⟨l, ep, e, h1, h2⟩ := h
  exact c_dict hc e h1 h2
theorem e_range (hc : C.base.get? cStatics ≠ none) {vs : List AV} (h : eCallB C .range vs H Q) : FCall C n X (.type "range") vs H Q := by
  obtain ⟨v, rfl, _⟩ := arg1_of h; clear h; rename_i h
  obtain ⟨a, rfl, _⟩ := int1_of h; clear h; rename_i h
  unfold kRange at h
  exact c_range hc h.1 h.2.1 h.2.2
theorem e_sum {vs : List AV} (h : eCallB C .sum vs H Q) : FCall C n X (.builtin "sum") vs H Q := by
  obtain ⟨v, rfl, _⟩ := arg1_of h; clear h; rename_i h
  obtain ⟨a, rfl, _⟩ := ref1_of h; clear h; rename_i h
  unfold kSum at h
  obtain ⟨l, e, h0, h1, h2, h3⟩ := h
  exact c_sum h0 e h1 h3
theorem e_sorted (hc : C.base.get? cStatics ≠ none) {vs : List AV} (h : eCallB C .sorted vs H Q) : FCall C n X (.builtin "sorted") vs H Q := by
  obtain ⟨v, rfl, _⟩ := arg1_of h; clear h; rename_i h
  obtain ⟨a, rfl, _⟩ := ref1_of h; clear h; rename_i h
  unfold kSorted at h
  obtain ⟨l, e | ⟨d, ep, e, rfl⟩, h0, h1, h⟩ := h
  · rcases h with ⟨h2, h3⟩ | ⟨h2, h3, h4⟩
    · exact c_sorted_list hc e h1 h2 h3
    · exact c_sorted_tups hc e h2 h3 h4
  · rw [List.length_map] at h1
    rcases h with ⟨h2, h3⟩ | ⟨h2, h3, h4⟩
    · exact c_sorted_dict hc h0 e h1 h3
    · exact c_sorted_dict hc h0 e h1 fun l' p _ => h4 l' p
theorem prims (g : Ground C) : Prims C n := by
  have hc := g.cs
  refine ⟨fun h => p_bin hc h, fun h => p_cmp h, fun h => p_truth h, fun h => p_attr g h, fun h => p_sub h, fun h => p_slHi hc h, fun h => p_rev hc h, fun h => p_setAttr g h, fun h => p_setSub h, fun b => ?_, fun m {o H} h => p_methB m h⟩
  cases b with
  | len => exact ⟨_, globB g (by kernel_rfl) boot_len (by decide), calleeB (by intro _ z; cases z), fun h => e_len h⟩
  | list => exact ⟨.type "list", globB g (by kernel_rfl) Boot.«list» (by decide), calleeB (by intro _ z; cases z), fun h => e_list hc h⟩
  | dict => exact ⟨.type "dict", globB g (by kernel_rfl) Boot.«dict» (by decide), calleeB (by intro _ z; cases z), fun h => e_dict hc h⟩
  | range => exact ⟨.type "range", globB g (by kernel_rfl) Boot.«range» (by decide), calleeB (by intro _ z; cases z), fun h => e_range hc h⟩
  | sorted => exact ⟨_, globB g (by kernel_rfl) boot_sorted (by decide), calleeB (by intro _ z; cases z), fun h => e_sorted hc h⟩
  | sum => exact ⟨.builtin "sum", globB g (by kernel_rfl) Boot.«sum» (by decide), calleeB (by intro _ z; cases z), fun h => e_sum h⟩
end
end Mine
end
section
open PySem PySem.W PyProof.Rows PySem.Calls
set_option maxRecDepth 100000
namespace Mine
noncomputable def cfData : ClassData := { name := "CodeFault", bases := [.type "Exception"], mro := [.ref 31, .type "Exception", .type "BaseException", .type "object"], ns := 30, qualname := "CodeFault" }
theorem cf_cls (p : Params) : clsIn (KH p) 31 = some cfData := by kernel_rfl
noncomputable abbrev excOb (t : Value) (d : Option Addr) : Obj := { cls := .ref 31, dict := d, data := .fields #[t, .none, .none, .none, .bool false, .none] }
section
variable {C : Cfg} {A : Around} {E : Value → Shared → Prop} {s : Shared}
theorem exc_isa (g : Ground C) {e : Addr} {t : Value} {d : Option Addr} (X : (KH C.w.params).In s.heap) (he : s.heap.get? e = some (excOb t d)) : Looks (model C.prog C.w) s.heap (isInstance (.ref e) (.type "Exception")) true := by
  have L0 : Looks (model C.prog C.w) s.heap (typeOf (.ref e)) (.ref 31) := (Looks.ld he).andThen .now
  exact L0.andThen (looks_mroIn X (by kernel_rfl))
theorem base_check (g : Ground C) {e t : Addr} {v : Value} {h : Heap} {gg : Array GenState} {dd : Drawn} {tk : Nat} {os : OsState} {Q : Unit → Shared → Prop} (X : (KH C.w.params).In h) (he : h.get? e = some (excOb (.ref t) none)) (hq : Q () ⟨h, gg, dd, tk, os⟩) :
    wpAny (model C.prog C.w) A (checkBuiltinCall "Exception.__init__" ⟨[.ref e, v], []⟩) Q E ⟨h, gg, dd, tk, os⟩ := by
  have F := PySem.F.excBase_Exception
  have L1 := exc_isa (s := ⟨h, gg, dd, tk, os⟩) g X he
  have L0 : Looks (model C.prog C.w) h (typeOf (.ref e)) (.ref 31) := (Looks.ld he).andThen .now
  have L2 := looks_clsIn (M := model C.prog C.w) X (cf_cls _)
  simp only [checkBuiltinCall, F.initKind, F.initSplit, F.initRow]
  refine wpAny_bind (L1.at ?_)
  simp only [Bool.not_true, Bool.false_eq_true, if_false]
  unfold Bind.checkArgs
  repeat lk
  exact hq
theorem base_init (g : Ground C) {e t : Addr} {v : Value} {Q : Value → Shared → Prop} (X : (KH C.w.params).In s.heap) (he : s.heap.get? e = some (excOb (.ref t) none))
    (hq : Q .none { s with heap := (s.heap.push { cls := .type "tuple", data := .seq [v].toArray }).update e (Obj.mapFields (·.setIfInBounds 0 (.ref s.heap.objs.size))) }) :
    wpAny (model C.prog C.w) A (call (.builtin "Exception.__init__") [.ref e, v]) Q E s := by
  have F := PySem.F.excBase_Exception
  obtain ⟨h, gg, dd, tk, os⟩ := s
  refine wpAny_call (codeAny_call_builtin F.init.plain F.initEntry (base_check g X he ?_))
  show wpAny _ _ (newTuple [v] >>= fun t' => Builtin.BaseException.bexcPut (.ref e) 0 t' >>= fun _ => ret .none) _ _ _
  refine wpAny_bind (wpAny_newTuple ?_ (by show [v].length ≤ _; rw [sizeLine_eq]; simp))
  have he1 := Heap.get?_push_of_some { cls := .type "tuple", data := .seq [v].toArray } he
  unfold Builtin.BaseException.bexcPut
  refine wpAny_bind (wpAny_bind (wpAny_field he1 rfl (x := .ref t) rfl (wpAny_bind (wpAny_setField he1 rfl (Nat.succ_pos 5) ?_))))
  dsimp only
  exact wpAny_letGo (wpAny_pure hq)
theorem exc_method {pl : Sem Bool} {Q : Value × List Value → Shared → Prop} {mg : Str → Option Value} (G : s.heap.Ns mainGlobals mg) (h : Q (.builtin "Exception.__init__", []) { s with toks := s.toks + 1 }) :
    wpAny (model C.prog C.w) A (getMethod (.type "Exception") "__init__" pl) Q E s :=
  method_type (K := []) (h₀ := { objs := #[] }) (L := mainGlobals) (m := mg) ⟨G, fun b o e => by simp [Heap.get?] at e, Nat.zero_le _⟩ (fun a o e => by cases e) (by kernel_rfl) (by kernel_rfl) (by kernel_rfl) rfl h
theorem refuse31 (self : Value) : refuseLoop self "__setattr__" [.ref 31, .type "Exception", .type "BaseException", .type "object"] = pure () := by
  rw [refuseLoop_ref]
  kernel_rfl
theorem exc_word (g : Ground C) {e : Addr} {t v : Value} {Q : Unit → Shared → Prop} (X : (KH C.w.params).In s.heap) (he : s.heap.get? e = some (excOb t none))
    (hq : ∀ h' tk, h'.get? e = some (excOb t (some s.heap.objs.size)) → (∀ b o, b ≠ e → s.heap.get? b = some o → h'.get? b = some o) → Q () { s with heap := h', toks := tk }) :
    wpAny (model C.prog C.w) A (setAttr (.ref e) "word" v) Q E s := by
  obtain ⟨h, gg, dd, tk, os⟩ := s
  have I : InstAt h e (excOb t none) 31 none := ⟨he, rfl, rfl, trivial⟩
  have SF := PySem.F.store_object
  refine set_plain X I (by kernel_rfl) ?_
  have sub : Looks (model C.prog C.w) h (isInstance (.ref e) (.type "object")) true := I.type.andThen (looks_mroIn X (by kernel_rfl))
  refine codeAny_call_builtin SF.slot.plain SF.entry (@check_slot (model C.prog C.w) _ _ ⟨h, gg, dd, tk + 1, os⟩ "object.__setattr__" "object" "__setattr__" (.ref e) [.str "word" tk, v] [] _ SF.kind SF.split sub (SF.args (.ref e) (.str "word" tk) v) ?_)
  have hm : Looks (model C.prog C.w) h (mroOf (.ref 31)) cfData.mro := (looks_clsIn X (cf_cls _)).andThen .now
  have ha : Looks (model C.prog C.w) h (typeLookup (.ref 31) "word") none := looks_findIn X (by kernel_rfl)
  have L2 := looks_clsIn (M := model C.prog C.w) X (cf_cls _)
  rw [osa_eq, refuse_eq]
  refine wpAny_bind (wpAny_bind (I.type.at (wpAny_bind (hm.at ?_))))
  show wpAny _ _ (refuseLoop (.ref e) "__setattr__" [.ref 31, .type "Exception", .type "BaseException", .type "object"]) _ _ _
  rw [refuse31]
  refine wpAny_pure (wpAny_bind (I.type.at (wpAny_bind (ha.at (wpAny_bind (wpAny_pure ?_))))))
  have L3 := looks_clsIn (M := model C.prog C.w) X (cf_cls _)
  show wpAny _ _ (Builtin.ObjectAttr.storeInOwnDict (.ref e) (.ref 31) (.str "word" tk) "word" v false) _ _ _
  refine wpAny_bind (wpAny_pure (wpAny_bind (wpAny_bind (wpAny_loadPart he (wpAny_bind (L3.at ?_))))))
  show wpAny _ _ (do
    let d ← alloc { cls := .type "dict", data := .dict #[] }
    update e fun o => { o with dict := some d }
    dictMade (.ref 31) e d) _ _ _
  have he1 := Heap.get?_push_of_some { cls := .type "dict", data := .dict #[] } he
  refine wpAny_bind (wpAny_alloc (wpAny_bind (wpAny_update he1 ?_)))
  have hd : (((h.push { cls := .type "dict", data := .dict #[] })).update e fun o => { o with dict := some h.objs.size }).get? h.objs.size = some (dictOf [] 0) := by
    rw [Heap.get?_update_ne _ _ _ _ (Nat.ne_of_gt (Heap.lt_size he))]
    exact Heap.get?_push_size _ rfl
  have he2 : (((h.push { cls := .type "dict", data := .dict #[] })).update e fun o => { o with dict := some h.objs.size }).get? e = some (excOb t (some h.objs.size)) := Heap.get?_update_self _ he1 rfl
  refine wpAny_pure (a := some h.objs.size) (wpAny_bind (wpAny_pure (wpAny_bind ?_)))
  unfold nsSet
  refine wpAny_bind (wpAny_bind (wpAny_askSetting (wpAny_pure (wpAny_bind (wpAny_mkText (wpAny_bind (wpAny_loadPart hd ?_)))))))
  have e1 : ∀ k, Obj.putName "word" (PyData.keyHash C.w.params "word") k v (dictOf [] 0) = dictOf [⟨PyData.keyHash C.w.params "word", k, v⟩] 1 := fun k => by rw [putName_dict]; rfl
  have c0 : (!([] : List DictEntry).toArray.any (·.key.isStr "word") && ([] : List DictEntry).toArray.any (·.refKey)) = false := by simp
  dsimp only
  rw [aRefKeyMayBeTheName_at, c0]
  refine wpAny_updatePart hd ?_
  have D' := Heap.get?_update_self (Obj.putName "word" (PyData.keyHash C.w.params "word") (.str "word" (tk + 1)) v) hd (by rw [e1]; rfl)
  have D2 := D'
  rw [e1] at D2
  refine wpAny_bind (wpAny_lookBehind D2 (pastItsLine_dict (by rw [List.size_toArray, sizeLine_eq]; simp)) ?_)
  refine wpAny_pure (hq _ _ ?_ fun b o hb hbo => ?_)
  · exact (Heap.get?_update_ne _ _ _ _ (Nat.ne_of_lt (Heap.lt_size he))).trans he2
  · have hlt := Heap.lt_size hbo
    rw [Heap.get?_update_ne _ _ _ _ (Nat.ne_of_lt hlt), Heap.get?_update_ne _ _ _ _ hb]
    exact Heap.get?_push_of_some _ hbo
end
end Mine
end
section
open PySem PySem.W PyProof.Rows PySem.Calls
set_option maxRecDepth 100000
namespace Mine
noncomputable def cfCall : PySem.Expr := .Call (.Attribute (.Name "Exception" { line := 5, col := 8, endLine := 5, endCol := 17 }) "__init__" { line := 5, col := 8, endLine := 5, endCol := 26 })
  [.Name "self" { line := 5, col := 27, endLine := 5, endCol := 31 }, .Name "word" { line := 5, col := 33, endLine := 5, endCol := 37 }] [] { line := 5, col := 8, endLine := 5, endCol := 38 }
noncomputable def cfSet : PySem.Stmt := .Assign [.Attribute (.Name "self" { line := 6, col := 8, endLine := 6, endCol := 12 }) "word" { line := 6, col := 8, endLine := 6, endCol := 17 }]
  (.Name "word" { line := 6, col := 20, endLine := 6, endCol := 24 }) { line := 6, col := 8, endLine := 6, endCol := 24 }
noncomputable def cfBody : List PySem.Stmt := [.Expr cfCall { line := 5, col := 8, endLine := 5, endCol := 38 }, cfSet]
theorem cf_fn (p : Params) : (fdAt (KH p) 28).body = .stmts cfBody := by kernel_rfl
theorem cf_obj (p : Params) : (KH p).lookup 31 = some (excClassObj "CodeFault" "CodeFault" 31 30 [.type "Exception"] [.type "Exception", .type "BaseException", .type "object"] true [] [] false none none (some (.ref 15)) none (some (.str "CodeFault" 189)) (some (.str "CodeFault" 197)) (some (.bool true)) "Exception.__new__") := by kernel_rfl
section
variable {C : Cfg} {A : Around} {E : Value → Shared → Prop} {s : Shared} {env : Env}
theorem cf_run (g : Ground C) {e t : Addr} {v : Value} {m : Str → Option Value} {Q : Flow → Shared → Prop} (hk : env.scope.kind = .function) (h1 : env.kindOf "self" = some .local) (h2 : env.kindOf "word" = some .local) (h3 : env.kindOf "Exception" = some .globalImplicit)
    (hg : env.globals = mainGlobals) (hb : env.builtins = builtinsNs) (kp : ∀ b o, C.base.get? b = some o → s.heap.get? b = some o) (ns : s.heap.Ns env.locals m) (ms : m "self" = some (.ref e)) (mw : m "word" = some v) (he : s.heap.get? e = some (excOb (.ref t) none)) (heB : C.base.get? e = none)
    (hq : ∀ h' tk t2 d, h'.get? e = some (excOb t2 (some d)) → (∀ b o, b ≠ e → s.heap.get? b = some o → h'.get? b = some o) → Q .next { s with heap := h', toks := tk }) :
    wpAny (model C.prog C.w) A (execs cfBody env) Q E s := by
  have X := g.k.keeps kp
  obtain ⟨pp, ll, mg, mb, T⟩ := g.top
  have G := T.g.keeps kp
  have ld1 : ∀ {s' : Shared} {A' : Around} {p : Pos} {Q : Value → Shared → Prop} {E : Value → Shared → Prop}, s'.heap.Ns env.locals m → Q (.ref e) s' → wpAny (model C.prog C.w) A' (eval (.Name "self" p) env) Q E s' := fun n q => wpAny_Name (wpAny_loadName_local hk h1 n ms q)
  have ld2 : ∀ {s' : Shared} {A' : Around} {p : Pos} {Q : Value → Shared → Prop} {E : Value → Shared → Prop}, s'.heap.Ns env.locals m → Q v s' → wpAny (model C.prog C.w) A' (eval (.Name "word" p) env) Q E s' := fun n q => wpAny_Name (wpAny_loadName_local hk h2 n mw q)
  refine wpAny_execs_cons (wpAny_Expr_any ?_ (by unfold interactive; rw [hk]; rfl) rfl)
  have e0 : eval cfCall env = (do
      let ov ← eval (.Name "Exception" { line := 5, col := 8, endLine := 5, endCol := 17 }) env
      standAt (({ line := 5, col := 8, endLine := 5, endCol := 26 } : Pos).atName)
      methodCall (.Name "Exception" { line := 5, col := 8, endLine := 5, endCol := 17 }) "__init__" { line := 5, col := 8, endLine := 5, endCol := 26 } { line := 5, col := 8, endLine := 5, endCol := 38 } env ov 2
        (backTo { line := 5, col := 8, endLine := 5, endCol := 38 } (starEach [.Name "self" { line := 5, col := 27, endLine := 5, endCol := 31 }, .Name "word" { line := 5, col := 33, endLine := 5, endCol := 37 }] env)) (backToKw { line := 5, col := 8, endLine := 5, endCol := 38 } (keywordEach [] env))) := rfl
  rw [e0]
  refine wpAny_bind (Name_function_global hk h3 ?_)
  refine globB g (C := C) (by kernel_rfl) Boot.«Exception» (by decide) _ _ _ _ _ _ kp hg hb (wpAny_bind (wpAny_standAt ?_))
  unfold methodCall
  rw [show methodCallForm 2 (backTo { line := 5, col := 8, endLine := 5, endCol := 38 } (starEach [.Name "self" { line := 5, col := 27, endLine := 5, endCol := 31 }, .Name "word" { line := 5, col := 33, endLine := 5, endCol := 37 }] env)) (backToKw { line := 5, col := 8, endLine := 5, endCol := 38 } (keywordEach [] env)) = true from rfl]
  refine wpAny_bind (wpAny_holding ?_)
  show wpAny _ _ (getMethod (.type "Exception") "__init__" _) _ _ _
  refine exc_method G ?_
  dsimp only
  refine wpAny_bind (wpAny_of_eq (show methodCallPos true _ env _ _ = pure { line := 5, col := 8, endLine := 5, endCol := 38 } from rfl) ?_)
  refine callWith_of (P := fun _ => True) rfl (fun h _ => ⟨.machine, .inr (.inl rfl), Looks.of_pure rfl⟩) (evalArgs_of rfl ?_)
  refine args_cons (ld1 ns (args_cons (ld2 ns (args_nil ?_)) rfl)) rfl
  refine ⟨trivial, ?_⟩
  refine base_init (s := { s with toks := s.toks + 1 }) g X he ?_
  have he1 := Heap.get?_push_of_some { cls := .type "tuple", data := .seq [v].toArray } he
  generalize hh1 : (s.heap.push { cls := .type "tuple", data := .seq [v].toArray }).update e (Obj.mapFields (·.setIfInBounds 0 (.ref s.heap.objs.size))) = h1
  have ke : ∀ b o, b ≠ e → s.heap.get? b = some o → h1.get? b = some o := fun b o hb hbo => by
    rw [← hh1, Heap.get?_update_ne _ _ _ _ hb]
    exact Heap.get?_push_of_some _ hbo
  have he2 : h1.get? e = some (excOb (.ref s.heap.objs.size) none) := by rw [← hh1]; exact Heap.get?_update_self _ he1 rfl
  have neL : env.locals ≠ e := fun q => by
    obtain ⟨o, es, ep, ho, hd, _⟩ := ns
    rw [q, he] at ho; cases ho; cases hd
  have neB : ∀ b o, C.base.get? b = some o → b ≠ e ∨ True := fun _ _ _ => .inr trivial
  have ns1 : h1.Ns env.locals m := by
    obtain ⟨o, es, ep, ho, r⟩ := ns
    exact ⟨o, es, ep, ke _ _ neL ho, r⟩
  refine wpAny_execs_cons (plainObj_wpAny_Assign_Attribute (ld2 (s' := { s with heap := h1, toks := s.toks + 1 }) ns1 (ld1 (s' := { s with heap := h1, toks := s.toks + 1 }) ns1 ?_)) rfl)
  refine exc_word (s := { s with heap := h1, toks := s.toks + 1 }) g ?_ he2 fun h' tk hf hke => wpAny_execs_nil (hq h' tk _ _ hf fun b o hb hbo => hke b o hb (ke b o hb hbo))
  intro b o hbo
  by_cases q : b = e
  · subst q
    have := g.k b o hbo
    rw [heB] at this
    cases this
  · exact ke b o q (X b o hbo)
theorem ns_in {K : Frag} {h : Heap} {N : Addr} {mg : Str → Option Value} {x : Str} {v : Value} (X : K.In h) (G : h.Ns N mg) (e : nsIn K N x = some (some v)) : mg x = some v := by
  obtain ⟨o, es, ep, ho, hd, _, hf⟩ := G
  unfold nsIn at e
  split at e
  · rename_i c d es' n' sl q
    have := X _ _ q
    rw [ho] at this
    cases this
    cases hd
    split at e
    · rename_i en he
      cases e
      rw [← hf]
      unfold nsFind findBy
      rw [← Array.find?_toList, he]
      rfl
    · split at e <;> cases e
  · cases e
theorem make_exc (g : Ground C) {v : Value} {Q : Value → Shared → Prop} (kp : ∀ b o, C.base.get? b = some o → s.heap.get? b = some o) (hd : A.depth + 4 ≤ 980)
    (hq : ∀ h' tk e t d, s.heap.get? e = none → (∀ b o, s.heap.get? b = some o → h'.get? b = some o) → h'.get? e = some (excOb t (some d)) → Q (.ref e) { s with heap := h', toks := tk }) :
    wpAny (model C.prog C.w) A (call (.ref 31) [v]) Q E s := by
  have X := g.k.keeps kp
  obtain ⟨h, gg, dd, tk, os⟩ := s
  have hC : h.get? 31 = some (excClassObj "CodeFault" "CodeFault" 31 30 [.type "Exception"] [.type "Exception", .type "BaseException", .type "object"] true [] [] false none none (some (.ref 15)) none (some (.str "CodeFault" 189)) (some (.str "CodeFault" 197)) (some (.bool true)) "Exception.__new__") := X _ _ (cf_obj _)
  have G : h.Ns 30 (h.nsMap 30) := .of_isNs (isNs_of_in X (by kernel_rfl))
  have hi : h.nsMap 30 "__init__" = some (.ref 28) := ns_in X G (by kernel_rfl)
  obtain ⟨o28, ho28, hc28, hd28⟩ : ∃ o, (KH C.w.params).lookup 28 = some o ∧ o.cls = .type "function" ∧ o.data = .func (fdAt (KH C.w.params) 28) := ⟨_, rfl, by kernel_rfl, by kernel_rfl⟩
  refine wpAny_call_exc_init PySem.F.excBase_Exception hC G hi (X _ _ ho28) hc28 (fun h1 e hm => ?_) (by rw [sizeLine_eq]; simp)
  obtain ⟨t, he, _⟩ := hm.there
  have heB : C.base.get? e = none := by
    cases q : C.base.get? e with
    | none => rfl
    | some o => have := kp e o q; rw [hm.new] at this; cases this
  have X1 := X.keeps hm.keeps
  have kp1 : ∀ b o, C.base.get? b = some o → h1.get? b = some o := fun b o q => hm.keeps b o (kp b o q)
  refine wpAny_call (codeAny_call_cells (fd := fdAt (KH C.w.params) 28) (body := cfBody) (binds := [("self", .ref e), ("word", v)]) ?_ (X1 _ _ ho28) hd28 (g.lim.keeps kp1) (codeRec_of X1 (by kernel_rfl)) (cf_fn _) (by kernel_rfl) (by kernel_rfl) ?_ (fun s1 ic => ?_) (by kernel_rfl) (by kernel_rfl) (by kernel_rfl))
  · show A.depth + 1 < recursionLimit
    have : recursionLimit = 1000 := rfl
    omega
  · intro x hx
    rcases List.mem_cons.mp hx with rfl | hx
    · exact .inl (by kernel_rfl)
    · rcases List.mem_cons.mp hx with rfl | hx
      · exact .inl (by kernel_rfl)
      · cases hx
  · have ik := ic.toInCall.keep
    obtain ⟨hs, tks, rfl⟩ := ic.toInCall.same
    refine cf_run g (m := bindL (callEnvC (fdAt (KH C.w.params) 28) h1.objs.size 28).kindOf [("self", .ref e), ("word", v)] fun _ => none) (e := e) (t := t) (v := v) (by kernel_rfl) (by kernel_rfl) (by kernel_rfl) (by kernel_rfl) (by kernel_rfl) (by kernel_rfl) (fun b o q => ik b o (kp1 b o q)) ic.toInCall.ns ?_ ?_ (ik e _ he) heB fun h' tk' t2 d hf hke => ?_
    · kernel_rfl
    · kernel_rfl
    · exact ⟨rfl, hq h' tk' e t2 d hm.new (fun b o q => hke b o (fun z => by rw [z, hm.new] at q; cases q) (ik b o (hm.keeps b o q))) hf⟩
end
end Mine
end
section
open PySem PySem.W PyProof.Rows PySem.Calls
set_option maxRecDepth 100000
namespace Mine
noncomputable abbrev cfObj : Obj := excClassObj "CodeFault" "CodeFault" 31 30 [.type "Exception"] [.type "Exception", .type "BaseException", .type "object"] true [] [] false none none (some (.ref 15)) none (some (.str "CodeFault" 189)) (some (.str "CodeFault" 197)) (some (.bool true)) "Exception.__new__"
section
variable {M : Model} {A : Around} {E : Value → Shared → Prop} {s : Shared} {env : Env}
theorem raise_made {x : Sem Value} {Q : Flow → Shared → Prop} (hh : A.handled = none)
    (h : wpAny M A x (fun v s1 => ∃ e t d, v = .ref e ∧ s1.heap.get? 31 = some cfObj ∧ s1.heap.get? e = some (excOb t (some d)) ∧ E (.ref e) s1) E s) : wpAny M A (raiseStmt env (some x) none) Q E s := by
  have hcB : (Value.ref 31 :: [Value.type "Exception", .type "BaseException", .type "object"]).contains (.type "BaseException") = true := by decide
  unfold raiseStmt
  refine wpAny_bind (wpAny_mono h (fun v s1 h1 => ?_) fun _ _ x => x)
  obtain ⟨e, t, d, rfl, hC, he, hE⟩ := h1
  obtain ⟨hp, g, dd, tk, os⟩ := s1
  repeat (first | with_reducible refine wpAny_loadPart_at he ?_ | with_reducible refine wpAny_loadPart_at hC ?_ | (with_reducible refine wpAny_isSubtype_exc hC ?_; rw [hcB]) | wp_step)
  exact wpAny_raiseNew_none hh hE
end
theorem funFrames_mem {base h : Heap} {l : List Env} (H0 : h.FunFrames base l) : ∀ env ∈ l, ∃ L, env.frame = some L ∧ base.get? L = none := by
  induction l with
  | nil => intro _ hm; cases hm
  | cons e r ih =>
    obtain ⟨_, ⟨L, o, hf, hn, ho, _⟩, hr⟩ := H0
    intro env hm
    rcases List.mem_cons.mp hm with rfl | hm
    · exact ⟨L, hf, hn⟩
    · exact ih hr env hm
theorem raise_rule {C : Cfg} (g : Ground C) (hh : C.hd = false) (n : Nat) (X : AHeap → Prop) (env : Env) (w : Str) (p : Pos) (k : Nat) (p2 cp pos : Pos) (ρ : Loc) (H : AHeap) (Q : AF → Loc → AHeap → Prop) (hgl : isGlob env.scope.names ("CodeFault" : Str) = true) (hX : X H) (hn : 3 ≤ n) :
    JS C n X env (.Raise (some (.Call (.Name ("CodeFault" : Str) p) [.Constant (.str w) k p2] [] cp)) none pos) ρ H Q := by
  intro A s ok F tA
  have kp := ok.rep.keep
  simp only [isGlob, Bool.and_eq_true, beq_iff_eq, Bool.not_eq_true'] at hgl
  rw [arm_exec_Raise]
  refine wpAny_bind (wpAny_standAt ?_)
  show wpAny _ _ (raiseStmt env (some (do let v ← eval (.Call (.Name ("CodeFault" : Str) p) [.Constant (.str w) k p2] [] cp) env; standAt pos; pure v)) none) _ _ _
  refine raise_made (ok.nohd hh) (wpAny_bind ?_)
  refine wpAny_Call_ofName (Name_function_global F.kind hgl.1 ?_ hgl.2)
  refine globK g (v := .ref 31) (by kernel_rfl) _ _ _ _ _ _ kp F.hg F.hb ?_
  refine callWith_of (P := fun h => ∀ b o, C.base.get? b = some o → h.get? b = some o) rfl (fun h e => calleeK g (by kernel_rfl) _ h e) (evalArgs_of rfl ?_)
  refine args_cons (wpAny_Constant_str (args_nil ⟨kp, ?_⟩)) rfl
  refine make_exc (s := { s with toks := s.toks + 1 }) g kp (by have := ok.depth; omega) fun h' tk e t d hnew hk he => ?_
  refine wpAny_bind (wpAny_standAt (wpAny_pure ⟨e, t, d, rfl, hk _ _ (g.in_ ok.rep _ _ (cf_obj _)), he, ?_⟩))
  obtain ⟨outer, fr1, fr2, fr3⟩ := ok.fr
  generalize has : outer.filterMap (·.frame) = as
  have notin : ∀ b, (∀ env ∈ outer, env.frame ≠ some b) → b ∉ as := fun b hb hm => by
    rw [← has, List.mem_filterMap] at hm
    obtain ⟨env', he', hf⟩ := hm
    exact hb env' he' hf
  have keepB : ∀ b o, s.heap.get? b = some o → (∀ env ∈ outer, env.frame ≠ some b) → (hideAll s.heap as).get? b = some o := fun b o q hb => hideAll_get as q (notin b hb)
  have baseB : ∀ b o, C.base.get? b = some o → (hideAll s.heap as).get? b = some o := fun b o q => keepB b o (kp b o q) fun env' he' hf => by
    obtain ⟨L, h1, h2⟩ := funFrames_mem fr2 env' he'
    rw [h1] at hf; cases hf; rw [q] at h2; cases h2
  have fb : FlyB C H outer e (hideAll s.heap as) h' := by
    refine ⟨baseB, fun a o q => ?_, fun b o q => hk b o (of_hideAll as q), ?_, ?_⟩
    · obtain ⟨h1, h2, ob, h3, h4⟩ := ok.rep.obj a o q
      exact ⟨h1, h2, ob, keepB a ob h3 (fun env' he' hf => (by have := fr3 env' he' a hf; rw [q] at this; cases this)), h4⟩
    · cases q : (hideAll s.heap as).get? e with
      | none => rfl
      | some o => have := of_hideAll as q; rw [hnew] at this; cases this
    · refine (funFrames_hide (as := as) fr2 fun env' he' a hf => ?_).of_keeps fun b o q _ => ⟨o, hk b o q, rfl⟩
      rw [← has, List.mem_filterMap]
      exact ⟨env', he', hf⟩
  refine ⟨⟨H, ⟨hideAll s.heap as, outer, e, none, fun b o q _ _ hf => keepB b o q (hf outer fr1), fr1, rfl, fb, ⟨_, _, he, by rw [g.cf], rfl, rfl, rfl⟩, .inl rfl⟩, ok.rep.grow (t := tk) hk, fun a ha => .inl ha, fun b hb => F.own_H hb, hX⟩, fun b o q _ _ _ => ⟨o.slots, hk b o q⟩⟩
end Mine
end
section
open PySem PySem.W PyProof.Rows PySem.Calls
set_option maxRecDepth 100000
namespace Mine
theorem repO_on {C : Cfg} {o : AO} {ob : Obj} (h : RepO C o ob) : RepO C.on o ob := by cases o <;> exact h
theorem repO_off {C : Cfg} {o : AO} {ob : Obj} (h : RepO C.on o ob) : RepO C o ob := by cases o <;> exact h
theorem Rep.on {C : Cfg} {H : AHeap} {s : Shared} (r : Rep C H s) : Rep C.on H s := ⟨r.keep, fun a o e => let ⟨h1, h2, ob, h3, h4⟩ := r.obj a o e; ⟨h1, h2, ob, h3, repO_on h4⟩, r.gens, r.os⟩
theorem Rep.off {C : Cfg} {H : AHeap} {s : Shared} (r : Rep C.on H s) : Rep C H s := ⟨r.keep, fun a o e => let ⟨h1, h2, ob, h3, h4⟩ := r.obj a o e; ⟨h1, h2, ob, h3, repO_off h4⟩, r.gens, r.os⟩
theorem Frm.on {C : Cfg} {env : Env} {ρ : Loc} {H : AHeap} {s : Shared} (F : Frm C env ρ H s) : Frm C.on env ρ H s := ⟨F.kind, F.hg, F.hb, F.hL, F.bL, F.ns, F.cells, F.has, F.apart⟩
theorem Frm.off {C : Cfg} {env : Env} {ρ : Loc} {H : AHeap} {s : Shared} (F : Frm C.on env ρ H s) : Frm C env ρ H s := ⟨F.kind, F.hg, F.hb, F.hL, F.bL, F.ns, F.cells, F.has, F.apart⟩
theorem Ground.on {C : Cfg} (g : Ground C) : Ground C.on := ⟨g.k, g.top, g.cf⟩
theorem Frm.slots {C : Cfg} {env : Env} {ρ : Loc} {H H' : AHeap} {s s' : Shared} (F : Frm C env ρ H s) (hH : ∀ a, H' a ≠ none → H a ≠ none ∨ s.heap.get? a = none)
    (hk : ∀ b o, s.heap.get? b = some o → H b = none → (∀ vs, o.data ≠ .fields vs) → ∃ sl, s'.heap.get? b = some { o with slots := sl }) : Frm C env ρ H' s' := by
  have non : ∀ b, own env b → H' b = none := fun b hb => by
    cases q : H' b with
    | none => rfl
    | some o =>
      rcases hH b (by rw [q]; intro z; cases z) with z | z
      · exact absurd (F.own_H hb) z
      · obtain ⟨o', ho, _⟩ := F.own_nf hb; rw [ho] at z; cases z
  obtain ⟨m, ⟨o, es, ep, h1, h2, h3⟩, hv⟩ := F.ns
  refine ⟨F.kind, F.hg, F.hb, non _ (.inl rfl), F.bL, ⟨m, ?_, hv⟩, fun x c hc => ?_, F.has, F.apart⟩
  · obtain ⟨sl, q⟩ := hk _ o h1 F.hL fun vs z => by rw [h2] at z; cases z
    exact ⟨_, es, ep, q, h2, h3⟩
  · obtain ⟨c1, c2, c3, w, ⟨oc, hoc, hdc⟩, h5⟩ := F.cells x c hc
    obtain ⟨sl, q⟩ := hk _ oc hoc c2 fun vs z => by rw [hdc] at z; cases z
    exact ⟨c1, non c (.inr ⟨x, hc⟩), c3, w, ⟨_, q, hdc⟩, h5⟩
theorem try_rule {C : Cfg} (g : Ground C) (n : Nat) (htot : C.tot ≤ n + 1) (X : AHeap → Prop) (env : Env) (xs : List Str) (hs : List PySem.Expr) (k : Nat) (p : Pos) (ns : List Str) (pe : PE) (h : PySem.Expr) (ap xp : Pos) (r : PySem.Expr) (rp hp pos : Pos) (ρ : Loc) (H : AHeap) (Q : AF → Loc → AHeap → Prop) (Q1 : AV → AHeap → Prop) (XH : AHeap → Prop)
    (hx : ∀ x ∈ xs, isSt env.scope.names x = true) (hn : plainPE pe = true) (ht : noTup pe = true) (hgl : isGlob env.scope.names ("CodeFault" : Str) = true)
    (h1 : JE C n XH env (toE ns pe h) ρ H Q1) (h2 : ∀ v H1, Q1 v H1 → unpackOf H1 v xs.length fun l => Q .next (upds ρ xs l) H1) (h3 : ∀ H1, XH H1 → JE C.on n (fun _ => False) env r ρ H1 fun v H2 => Q (.ret v) ρ H2) :
    JS C n X env (.Try [.Assign [.Tuple (nmEs xs hs) k p] (toE ns pe h) ap] [.ExceptHandler (some (.Name ("CodeFault" : Str) xp)) none [.Return (some r) rp] hp] [] [] pos) ρ H Q := by
  intro A s ok F tA
  obtain ⟨tf, outer, ta⟩ := tA
  have h0 : outer = [] := by
    have := ok.len _ ta
    simp only [List.length_cons] at this
    exact List.length_eq_zero_iff.mp (by omega)
  subst h0
  simp only [isGlob, Bool.and_eq_true, beq_iff_eq, Bool.not_eq_true'] at hgl
  refine wpAny_Try_except (wpAny_execs_cons (Assign_Tuple (wpAny_mono (h1 A s ok F) (fun cv s1 ⟨av, H1, rv, r1, st1, q1⟩ => ?_) fun e s1 z => ?_) (show swapsWithSole [.Tuple (nmEs xs hs) k p] (toE ns pe h) ap.line env = pure false by unfold swapsWithSole; exact plain_sw hn _ _) ?_))
  · refine wpAny_mono (asgTup hx ρ H1 av (fun ρ' => Q .next ρ' H1) A _ s1 cv (ok.step st1 r1) (F.step st1) rv (h2 av H1 q1)) (fun _ s2 ⟨ρ', hK, r2, F2, so2⟩ => ?_) fun _ _ z => z
    refine wpAny_execs_nil ?_
    exact wpAny_execs_nil ⟨.next, ρ', H1, rfl, r2, F2, (StepO.of F st1).trans so2, hK⟩
  · obtain ⟨⟨H', ⟨B, l, ea, fl, f0, f1, rfl, fb, ex, f4⟩, rr, fr, hX⟩, hk⟩ := z
    rw [ta] at f1; cases f1
    have hfl : fl = none ∨ fl = some .none ∨ fl = some (rawInt env.locals) := by
      rcases f4 with h | h | ⟨e1, rest, L, q1, q2, q3⟩
      · exact .inl h
      · exact .inr (.inl h)
      · cases q1; rw [tf] at q2; cases q2; exact .inr (.inr q3)
    refine noteF ta tf fb ex hfl fun g1 fb1 ex1 up1 => ?_
    refine markF (s := { s1 with heap := g1 }) fb1 ex1 fun g2 fb2 ex2 up2 => ?_
    have kp2 : ∀ b o, C.base.get? b = some o → g2.get? b = some o := fun b o q => fb2.stays b o (fb2.base b o q)
    obtain ⟨oe, vs, e1, e2, e3, e4, e5⟩ := id ex2
    refine wpAny_handleBy_cons (codeAny_handlers_test (Name_function_global F.kind hgl.1 ?_ hgl.2)) (by intro q; cases q)
    refine globK g (v := .ref 31) (by kernel_rfl) _ _ _ _ _ _ kp2 F.hg F.hb ?_
    refine wpAny_excMatches_sub_self (bm := [.type "Exception", .type "BaseException", .type "object"]) (g.k.keeps kp2 _ _ (cf_obj _)) e1 (by rw [e2, g.cf]) (by decide) ?_
    refine codeAny_handlers_suite ?_
    refine markF (s := { s1 with heap := g2 }) fb2 ex2 fun g3 fb3 ex3 up3 => ?_
    obtain ⟨oe3, vs3, d1, d2, d3, d4, d5⟩ := id ex3
    have up : s1.heap.UpToSlots g3 := (up1.trans up2).trans up3
    have hk3 : ∀ b o, s.heap.get? b = some o → H b = none → (∀ vs, o.data ≠ .fields vs) → ∃ sl, g3.get? b = some { o with slots := sl } := fun b o q hb hn => by
      obtain ⟨sl, q2⟩ := hk b o q hb hn
      obtain ⟨sl2, q3⟩ := up b { o with slots := sl } q2 hn
      exact ⟨sl2, q3⟩
    have F3 : Frm C env ρ H' { s1 with heap := g3 } := F.slots (s' := { s1 with heap := g3 }) fr hk3
    have r3 : Rep C H' { s1 with heap := g3 } := fb3.rep (h' := g3) (s' := { s1 with heap := g3 }) rr rfl rfl
    have notB : ∀ a, B.get? a = none → H' a = none := fun a ha => by
      cases q : H' a with
      | none => rfl
      | some o => obtain ⟨_, _, ob, h3, _⟩ := fb.obj a o q; rw [ha] at h3; cases h3
    have ok3 : Ok C.on n (A.mark (some (.ref ea))) H' { s1 with heap := g3 } := by
      refine ⟨r3.on, ok.depth, ok.units, .inr ⟨ea, oe3, vs3, rfl, notB ea fb.new, d1, d3, d4, rfl⟩, ⟨[env], ta, funFrames_base (fun b o q => fb3.base b o q) fb3.fr, fun env' he a ha => ?_⟩, ok.len⟩
      obtain ⟨L, q1, q2⟩ := funFrames_mem fb3.fr env' he
      rw [q1] at ha; cases ha
      exact notB _ q2
    refine wpAny_execs_cons (wpAny_Return_some (wpAny_mono (h3 H' hX _ _ ok3 F3.on) (fun cv s4 ⟨av, H4, rv, r4, st4, q4⟩ => ?_) fun _ _ z => z.never))
    have F4 := F3.on.step st4
    have non : ∀ b o, s.heap.get? b = some o → H b = none → ¬ own env b → g3.get? b = some o ∧ H' b = none := fun b o q hb ho => by
      refine ⟨fb3.stays b o (f0 b o q hb fun l hl env' he hf => ?_), ?_⟩
      · rw [ta] at hl; cases hl
        rw [List.mem_singleton.mp he, tf] at hf
        cases hf; exact ho (.inl rfl)
      · cases q2 : H' b with
        | none => rfl
        | some o' =>
          rcases fr b (by rw [q2]; intro z; cases z) with z | z
          · exact absurd hb z
          · rw [q] at z; cases z
    refine ⟨.ret av, ρ, H4, ⟨cv, rfl, rv⟩, r4.off, F4.off, ⟨fun b o q hb ho => ?_, fun a ha => ?_, fun b hb => F4.own_H hb⟩, q4⟩
    · obtain ⟨q1, q2⟩ := non b o q hb ho
      exact st4.keep b o q1 q2
    · rcases st4.fresh a ha with z | z
      · exact fr a z
      · cases q : H a with
        | some o => exact .inl (by intro z; cases z)
        | none =>
          right
          cases q2 : s.heap.get? a with
          | none => rfl
          | some o =>
            by_cases ho : own env a
            · obtain ⟨o', ho', _⟩ := F3.own_nf ho
              rw [ho'] at z; cases z
            · rw [(non a o q2 q ho).1] at z; cases z
  · cases pe <;> first | rfl | cases ht
theorem excRules {C : Cfg} (g : Ground C) : ExcRules C :=
  ⟨fun _ _ _ _ _ _ _ _ _ ok F tA x => pass_rule ok F tA x, fun hh => raise_rule g hh, fun _ n ht X env xs hs k p ns pe h ap xp r rp hp pos ρ H Q Q1 XH a b c d e f i => try_rule g n ht X env xs hs k p ns pe h ap xp r rp hp pos ρ H Q Q1 XH a b c d e f i⟩
end Mine
end
section
open PySem PySem.W PyProof.Rows PySem.Calls
set_option maxRecDepth 100000
namespace Mine
noncomputable def LawOk (C : Cfg) (n : Nat) : Prop := ∀ (a : Addr) (vs : List Value) (ns : List Int), C.base.IsList a vs.toArray → intsV vs ns → ns.length ≤ 63 →
  dSs C n (fun _ => False) f_law [(0, .ref a)] (fun _ => none) fun af _ _ => af = .ret (.bool true)
noncomputable def budget : Nat := 60
noncomputable def cfgOf (prog : Program) (w : World) (s : Shared) : Cfg := { prog := prog, w := w, base := s.heap, K := [], gens := s.gens, os := s.os, cf := 31, hd := false, tot := budget + 1 }
theorem intsV_of {vs : List Value} {ns : List Int} (h : IntsAre vs ns) : intsV vs ns := by
  induction h with
  | nil => trivial
  | cons i t _ ih => exact ⟨⟨t, rfl⟩, ih⟩
theorem law_join {prog : Program} {w : World} {s1 : Shared} {h1 : Heap} {tk : Nat} {p : Program} {loose : List Str} {mean : ExcName → Option Value} {mg mb : Str → Option Value} {env : Env} {body : List PySem.Stmt} {m : Str → Option Value} {a : Addr} {vs : List Value} {ns : List Int} {dr : Drawn}
    (hlaw : LawOk (cfgOf prog w s1) budget) (KX : (KH w.params).In s1.heap) (T : Top p loose mean mg mb s1.heap) (F : Fr s1.heap s1.heap.objs.size h1 m) (hL : s1.heap.IsList a vs.toArray) (hI : IntsAre vs ns) (hlen : ¬ (63 : Nat) < ns.length)
    (eL : env.locals = s1.heap.objs.size) (eF : env.frame = some env.locals) (eK : env.scope.kind = .function) (eG : env.globals = mainGlobals) (eB : env.builtins = builtinsNs) (ms : m "script" = some (.ref a)) (hsc : env.kindOf "script" = some .local)
    (hb : body = toSs n_law f_law body) (hchk : ckSs n_law env.scope.names f_law body = true) (hcells : env.cells = [(("mask" : Str), s1.heap.objs.size + 1)]) {oc : Obj} {w0 : Option Value} (N0 : News s1.heap s1.heap.objs.size h1 [(s1.heap.objs.size + 1, oc)]) (od : oc.data = .cell w0) (hw0 : w0 = none)
    (hnames : env.scope.names.all (fun p => (p.2 != .cell || p.1 == "mask") && p.2 != .free) = true) :
    wpAny (model prog w) (callerA.deeper env) (execs body env) (fun f s' => f = .ret (.bool true) ∧ (∀ b o, s1.heap.get? b = some o → s'.heap.get? b = some o) ∧ s'.gens = s1.gens ∧ s'.os = s1.os) (fun _ _ => False)
      { heap := h1, gens := s1.gens, drawn := dr, toks := tk, os := s1.os } := by
  have hcell : ∀ x c, env.cells.lookup x = some c → c = s1.heap.objs.size + 1 ∧ x = "mask" := fun x c h => by
    rw [hcells] at h
    have := lookup_mem h
    rw [List.mem_singleton] at this
    cases this; exact ⟨rfl, rfl⟩
  have hc1 : ∃ o, h1.get? (s1.heap.objs.size + 1) = some o ∧ o.data = .cell none := ⟨oc, (N0 _ (.head _)).1, by rw [od, hw0]⟩
  have hhas : ∀ x, (env.kindOf x = some .cell ∨ env.kindOf x = some .free) → (env.cells.lookup x).isSome = true := fun x hx => by
    rw [List.all_eq_true] at hnames
    rcases hx with hx | hx
    · have := hnames _ (lookup_mem (show env.scope.names.lookup x = some .cell from hx))
      simp at this
      rw [hcells, this]; rfl
    · have := hnames _ (lookup_mem (show env.scope.names.lookup x = some .free from hx))
      simp at this
  generalize hC : cfgOf prog w s1 = C at hlaw
  have g : Ground C := by rw [← hC]; exact ⟨KX, ⟨_, _, _, _, topRead_of T⟩, rfl⟩
  have bC : C.base = s1.heap := by rw [← hC]; rfl
  have rep : Rep C (fun _ => none) { heap := h1, gens := s1.gens, drawn := dr, toks := tk, os := s1.os } := ⟨fun b o q => F.keep b o (by rw [← bC]; exact q), fun _ _ q => (by cases q), (by rw [← hC]; rfl), (by rw [← hC]; rfl)⟩
  obtain ⟨o, es, ep, ho, hd, hk⟩ := id F.ns
  have Fm : Frm C env (upd (fun _ => none) "script" (.ref a)) (fun _ => none) { heap := h1, gens := s1.gens, drawn := dr, toks := tk, os := s1.os } := by
    refine ⟨eK, eG, eB, rfl, by rw [bC, eL]; exact get_size _, ⟨m, by rw [eL]; exact F.ns, fun x v hx hv => ?_⟩, fun x c hc => ?_, hhas, fun x y c h2 h3 => (hcell x c h2).2.trans (hcell y c h3).2.symm⟩
    · by_cases q : x = "script"
      · subst q
        simp only [upd, if_true] at hv
        cases hv
        exact ⟨.ref a, ms, rfl⟩
      · simp only [upd, if_neg q] at hv; cases hv
    · obtain ⟨rfl, rfl⟩ := hcell x c hc
      refine ⟨by rw [eL]; exact Nat.succ_ne_self _, rfl, by rw [bC]; exact beyond _ (Nat.le_succ _), none, hc1, fun av hv _ => ?_⟩
      rw [show upd (fun _ => none) "script" (.ref a) "mask" = (none : Option AV) from rfl] at hv
      cases hv
  have ok : Ok C budget (callerA.deeper env) (fun _ => none) { heap := h1, gens := s1.gens, drawn := dr, toks := tk, os := s1.os } := by
    refine ⟨rep, by show callerA.depth + 1 + 2 * budget ≤ 980; decide, by show callerA.units + 3 + 20 * budget ≤ 9000; decide, .inl rfl, ⟨[env], rfl, ?_, fun _ _ _ _ => rfl⟩, fun outer q => ?_⟩
    · exact ⟨by rw [eK]; decide, ⟨env.locals, o, eF, by rw [bC, eL]; exact get_size _, by rw [eL]; exact ho, fun vs q => by rw [hd] at q; cases q⟩, trivial⟩
    · cases (show some [env] = some outer from q)
      rw [← hC]; exact Nat.le_of_eq (Nat.add_comm 1 budget)
  have hle : Le (ofL n_law [(0, AV.ref a)]) (upd (fun _ => none) "script" (.ref a)) := Le.args (xs := ["script"]) (r := n_law.tail) (vs := [.ref a]) (ρ := fun _ => none) (List.nodup_cons.mpr ⟨List.not_mem_nil, List.nodup_nil⟩) rfl
  have js := sSs (ns := n_law) g.cs (prims g) (prims g.on) (excRules g) (by decide) f_law (fun _ => False) env body _ _ _ _ eK hle hchk (hlaw a vs ns (by rw [bC]; exact hL) (intsV_of hI) (by omega))
  have jw := js (callerA.deeper env) _ ok Fm ⟨eF, [], rfl⟩
  rw [← hb] at jw
  rw [show C.prog = prog by rw [← hC]; rfl, show C.w = w by rw [← hC]; rfl] at jw
  refine wpAny_mono jw (fun f s2 ⟨af, ρ2, H2, rf, r2, F2', so, l, _, q⟩ => ?_) fun _ _ z => z.never
  subst q
  obtain ⟨cv, rfl, rv⟩ := rf
  cases rv
  exact ⟨rfl, fun b o q => r2.keep b o (by rw [bC]; exact q), r2.gens.trans (by rw [← hC]; rfl), r2.os.trans (by rw [← hC]; rfl)⟩
end Mine
end
section
open PySem PySem.W PyProof.Rows PySem.Calls
set_option maxRecDepth 100000
namespace Mine
section
variable {C : Cfg} {n : Nat} {X : AHeap → Prop} {H : AHeap} {V : AV → AHeap → Prop} {T : Bool → AHeap → Prop} {K : Prop} {Q : AHeap → Prop} {a : Addr}
theorem brT {b : Bool} {A B : Prop} (e : b = true) (h : A) : br b A B := by subst e; exact h
theorem brF {b : Bool} {A B : Prop} (e : b = false) (h : B) : br b A B := by subst e; exact h
theorem brC {b : Bool} {A B : Prop} (f : b = true → A) (g : b = false → B) : br b A B := match b, f, g with
  | true, f, _ => f rfl
  | false, _, g => g rfl
theorem brD {p : Prop} [Decidable p] {A B : Prop} (f : p → A) (g : ¬p → B) : br (decide p) A B := brC (fun e => f (of_decide_eq_true e)) fun e => g (of_decide_eq_false e)
theorem brN {p : Prop} [Decidable p] {A B : Prop} (f : ¬p → A) (g : p → B) : br (!decide p) A B := brC (fun e => f (by simpa using e)) fun e => g (by simpa using e)
theorem brY {p : Prop} [Decidable p] {A B : Prop} (h : p) (k : A) : br (decide p) A B := brT (decide_eq_true h) k
theorem brZ {p : Prop} [Decidable p] {A B : Prop} (h : ¬p) (k : B) : br (decide p) A B := brF (decide_eq_false h) k
theorem joinR {S : (Ls → AHeap → Prop) → Prop} {R : Ls → AHeap → Prop} (E : Ls) (J : AHeap → Prop) (h : ∀ K : Ls → AHeap → Prop, (∀ ρ1 H1, J H1 → ρ1 = E → K ρ1 H1) → S K) (k : ∀ H1, J H1 → R E H1) : ∃ K : Ls → AHeap → Prop, S K ∧ ∀ ρ1 H1, K ρ1 H1 → R ρ1 H1 :=
  ⟨fun ρ1 H1 => ρ1 = E ∧ J H1, h _ fun _ _ j e => ⟨e, j⟩, fun _ H1 ⟨e, j⟩ => by rw [e]; exact k H1 j⟩
theorem joinS {σ : Type} {S : (Ls → AHeap → Prop) → Prop} {R : Ls → AHeap → Prop} (E : σ → Ls) (J : σ → AHeap → Prop) (h : ∀ K : Ls → AHeap → Prop, (∀ s ρ1 H1, J s H1 → ρ1 = E s → K ρ1 H1) → S K) (k : ∀ s H1, J s H1 → R (E s) H1) : ∃ K : Ls → AHeap → Prop, S K ∧ ∀ ρ1 H1, K ρ1 H1 → R ρ1 H1 :=
  ⟨fun ρ1 H1 => ∃ s, ρ1 = E s ∧ J s H1, h _ fun s _ _ j e => ⟨s, e, j⟩, fun _ H1 ⟨s, e, j⟩ => by rw [e]; exact k s H1 j⟩
theorem xNew {o : AO} (h : ∀ a, H a = none → V (.ref a) (H.set a o)) : newAt o H V := h
theorem xUnp {l : List AV} {k : Nat} {W : List AV → Prop} (h : H a = some (.tup l) ∨ H a = some (.list l)) (e : l.length = k) (q : W l) : unpackOf H (.ref a) k W := ⟨a, l, rfl, h, e, q⟩
theorem xLen {l : List AV} (h : H a = some (.list l)) (hl : l.length ≤ 1000) (q : V (.int l.length) H) : kLen a H V := by unfold kLen; exact .inl ⟨l, h, hl, q⟩
theorem xTruth {l : List AV} (h : H a = some (.list l)) (hl : l.length ≤ 1000) (q : T (!l.isEmpty) H) : kTruth a H T := by unfold kTruth; exact ⟨l, h, hl, q⟩
theorem xNth {l : List AV} {i : Int} {v : AV} (h : H a = some (.list l)) (hl : l.length ≤ 1000) (h0 : 0 ≤ i) (hi : l[i.toNat]? = some v) (q : V v H) : kSub a i H V := by
  unfold kSub; exact .inl ⟨l, v, h, hl, by rw [nthOf, if_neg (by omega), if_pos h0]; exact hi, q⟩
theorem xLast {l : List AV} {v : AV} (h : H a = some (.list l)) (hl : l.length ≤ 1000) (hi : l.getLast? = some v) (q : V v H) : kSub a (-1) H V := by
  unfold kSub; exact .inl ⟨l, v, h, hl, hi, q⟩
theorem xSubD {l : List (Int × AV)} {ep : Nat} {k : Int} {v : AV} (h : H a = some (.dict l ep)) (e : l.lookup k = some v) (q : V v H) : kSub a k H V := by
  unfold kSub; exact .inr ⟨l, ep, v, h, e, q⟩
theorem xInD {l : List (Int × AV)} {ep : Nat} {k : Int} (h : H a = some (.dict l ep)) (q : T (l.lookup k).isSome H) : kIn k a H T := by
  unfold kIn; exact .inl ⟨l, ep, h, q⟩
theorem xHasL {m : BM} {l : List AV} (e : listsM m = true) (h : H a = some (.list l)) (k : K) : kHas m (.ref a) H K := by
  unfold kHas; exact ⟨⟨a, rfl, by rw [e]; exact ⟨l, h⟩⟩, k⟩
theorem xHasD {m : BM} {l : List (Int × AV)} {ep : Nat} (e : listsM m = false) (h : H a = some (.dict l ep)) (k : K) : kHas m (.ref a) H K := by
  unfold kHas; exact ⟨⟨a, rfl, by rw [e]; exact ⟨l, ep, h⟩⟩, k⟩
theorem xApp {l : List AV} {v : AV} (h : H a = some (.list l)) (hl : l.length ≤ 1000) (q : V .none (H.set a (.list (l ++ [v])))) : kAppend a v H V := by unfold kAppend; exact ⟨l, h, hl, q⟩
theorem xSetL {l : List AV} {i : Int} {v : AV} (h : H a = some (.list l)) (h0 : 0 ≤ i) (hi : i.toNat < l.length) (hl : l.length ≤ 1000) (q : Q (H.set a (.list (l.set i.toNat v)))) : kSetSub a i v H Q := by
  unfold kSetSub; exact .inl ⟨l, h, h0, hi, hl, q⟩
theorem xSetD {l : List (Int × AV)} {i : Int} {v : AV} {ep : Nat} (h : H a = some (.dict l ep)) (hl : l.length ≤ 1000) (q : ∀ ep, Q (H.set a (.dict (putD l i v) ep))) : kSetSub a i v H Q := by
  unfold kSetSub; exact .inr ⟨l, ep, h, hl, q⟩
end
section
variable {C : Cfg} {n : Nat} {Y : AHeap → Prop} {H1 : AHeap} {v : AV} {ρ : Ls} {Q : AF → Ls → AHeap → Prop} {l : List AV} {σ : Type}
noncomputable def NxS (E : σ → Ls) (P : σ → AHeap → Prop) (af : AF) (Q3 : AF → Ls → AHeap → Prop) : Prop := ∀ s ρ2 H2, P s H2 → pick ((E s).map Prod.fst) ρ2 = E s → Q3 af ρ2 H2
noncomputable def NxC (R : Ls) (P : AHeap → Prop) (af : AF) (Q3 : AF → Ls → AHeap → Prop) : Prop := ∀ ρ2 H2, P H2 → pick (R.map Prod.fst) ρ2 = R → Q3 af ρ2 H2
noncomputable def Rt (Q Q3 : AF → Ls → AHeap → Prop) : Prop := ∀ v ρ2 H2, Q (.ret v) ρ2 H2 → Q3 (.ret v) ρ2 H2
theorem for1 {b : PSs} {x : Nat} (E : σ → Ls) (J : Nat → σ → AHeap → Prop) (hl : itemsOf H1 v = some l) (s0 : σ) (e0 : pick ((E s0).map Prod.fst) ρ = E s0) (h0 : J 0 s0 H1) (src : ∀ i s H', J i s H' → srcSame H1 H' v)
    (turn : ∀ i s H' w, J i s H' → l[i]? = some w → ∀ Q3, NxS E (J (i + 1)) .next Q3 → NxS E (J (i + 1)) .cont Q3 → Rt Q Q3 → dSs C n Y b ((x, w) :: E s) H' Q3) (fin : ∀ s H', J l.length s H' → Q .next (E s) H') :
    ∃ l, itemsOf H1 v = some l ∧ ∃ I : Nat → Ls → AHeap → Prop, (∃ ns, I 0 (pick ns ρ) H1) ∧ (∀ i ρ' H', I i ρ' H' → srcSame H1 H' v) ∧
      (∀ i ρ' H' (w : AV), I i ρ' H' → l[i]? = some w → dSs C n Y b ((x, w) :: ρ') H' (turnEnd (fun ρ2 H2 => ∃ ns, I (i + 1) (pick ns ρ2) H2) Q)) ∧ (∀ ρ' H', I l.length ρ' H' → Q .next ρ' H') :=
  ⟨l, hl, fun i ρ H => ∃ s, ρ = E s ∧ J i s H, ⟨_, s0, e0, h0⟩, fun i _ H' ⟨s, _, j⟩ => src i s H' j, fun i _ H' w ⟨s, e, j⟩ hw => e ▸ turn i s H' w j hw _ (fun s _ _ j e => ⟨_, s, e, j⟩) (fun s _ _ j e => ⟨_, s, e, j⟩) (fun _ _ _ h => h), fun _ H' ⟨s, e, j⟩ => e ▸ fin s H' j⟩
theorem forC {b : PSs} {x : Nat} (R : Ls) (J : Nat → AHeap → Prop) (hl : itemsOf H1 v = some l) (e0 : pick (R.map Prod.fst) ρ = R) (h0 : J 0 H1) (src : ∀ i H', J i H' → srcSame H1 H' v)
    (turn : ∀ i H' w, J i H' → l[i]? = some w → ∀ Q3, NxC R (J (i + 1)) .next Q3 → Rt Q Q3 → dSs C n Y b ((x, w) :: R) H' Q3) (fin : ∀ H', J l.length H' → Q .next R H') :
    ∃ l, itemsOf H1 v = some l ∧ ∃ I : Nat → Ls → AHeap → Prop, (∃ ns, I 0 (pick ns ρ) H1) ∧ (∀ i ρ' H', I i ρ' H' → srcSame H1 H' v) ∧
      (∀ i ρ' H' (w : AV), I i ρ' H' → l[i]? = some w → dSs C n Y b ((x, w) :: ρ') H' (turnEnd (fun ρ2 H2 => ∃ ns, I (i + 1) (pick ns ρ2) H2) Q)) ∧ (∀ ρ' H', I l.length ρ' H' → Q .next ρ' H') :=
  ⟨l, hl, fun i ρ H => ρ = R ∧ J i H, ⟨_, e0, h0⟩, fun i _ H' ⟨_, j⟩ => src i H' j, fun i ρ' H' w h hw => by
    obtain ⟨rfl, j⟩ := h
    exact turn i H' w j hw _ (fun _ _ j e => ⟨_, e, j⟩) (fun _ _ _ h => h), fun _ H' ⟨e, j⟩ => e ▸ fin H' j⟩
theorem forT {b : PSs} {xs : List Nat} {k : Nat} (E : σ → Ls) (J : Nat → σ → AHeap → Prop) (hl : itemsOf H1 v = some l) (s0 : σ) (e0 : pick ((E s0).map Prod.fst) ρ = E s0) (h0 : J 0 s0 H1) (src : ∀ i s H', J i s H' → srcSame H1 H' v)
    (turn : ∀ i s H' w, J i s H' → l[i]? = some w → ∀ Q3, NxS E (J (i + 1)) .next Q3 → NxS E (J (i + 1)) .cont Q3 → Rt Q Q3 → unpackOf H' w k fun ws => dSs C n Y b (updL (E s) xs ws) H' Q3) (fin : ∀ s H', J l.length s H' → Q .next (E s) H') :
    ∃ l, itemsOf H1 v = some l ∧ ∃ I : Nat → Ls → AHeap → Prop, (∃ ns, I 0 (pick ns ρ) H1) ∧ (∀ i ρ' H', I i ρ' H' → srcSame H1 H' v) ∧
      (∀ i ρ' H' (w : AV), I i ρ' H' → l[i]? = some w → unpackOf H' w k fun ws => dSs C n Y b (updL ρ' xs ws) H' (turnEnd (fun ρ2 H2 => ∃ ns, I (i + 1) (pick ns ρ2) H2) Q)) ∧ (∀ ρ' H', I l.length ρ' H' → Q .next ρ' H') :=
  ⟨l, hl, fun i ρ H => ∃ s, ρ = E s ∧ J i s H, ⟨_, s0, e0, h0⟩, fun i _ H' ⟨s, _, j⟩ => src i s H' j, fun i _ H' w ⟨s, e, j⟩ hw => e ▸ turn i s H' w j hw _ (fun s _ _ j e => ⟨_, s, e, j⟩) (fun s _ _ j e => ⟨_, s, e, j⟩) (fun _ _ _ h => h), fun _ H' ⟨s, e, j⟩ => e ▸ fin s H' j⟩
theorem forTC {b : PSs} {xs : List Nat} {k : Nat} (R : Ls) (J : Nat → AHeap → Prop) (hl : itemsOf H1 v = some l) (e0 : pick (R.map Prod.fst) ρ = R) (h0 : J 0 H1) (src : ∀ i H', J i H' → srcSame H1 H' v)
    (turn : ∀ i H' w, J i H' → l[i]? = some w → ∀ Q3, NxC R (J (i + 1)) .next Q3 → Rt Q Q3 → unpackOf H' w k fun ws => dSs C n Y b (updL R xs ws) H' Q3) (fin : ∀ H', J l.length H' → Q .next R H') :
    ∃ l, itemsOf H1 v = some l ∧ ∃ I : Nat → Ls → AHeap → Prop, (∃ ns, I 0 (pick ns ρ) H1) ∧ (∀ i ρ' H', I i ρ' H' → srcSame H1 H' v) ∧
      (∀ i ρ' H' (w : AV), I i ρ' H' → l[i]? = some w → unpackOf H' w k fun ws => dSs C n Y b (updL ρ' xs ws) H' (turnEnd (fun ρ2 H2 => ∃ ns, I (i + 1) (pick ns ρ2) H2) Q)) ∧ (∀ ρ' H', I l.length ρ' H' → Q .next ρ' H') :=
  ⟨l, hl, fun i ρ H => ρ = R ∧ J i H, ⟨_, e0, h0⟩, fun i _ H' ⟨_, j⟩ => src i H' j, fun i ρ' H' w h hw => by
    obtain ⟨rfl, j⟩ := h
    exact turn i H' w j hw _ (fun _ _ j e => ⟨_, e, j⟩) (fun _ _ _ h => h), fun _ H' ⟨e, j⟩ => e ▸ fin H' j⟩
noncomputable def NxW (E : σ → Ls) (P : Nat → σ → AHeap → Prop) (m : Nat) (af : AF) (Q3 : AF → Ls → AHeap → Prop) : Prop := ∀ m' s ρ2 H2, m' < m → P m' s H2 → pick ((E s).map Prod.fst) ρ2 = E s → Q3 af ρ2 H2
noncomputable def NxV (R : Ls) (P : Nat → AHeap → Prop) (m : Nat) (af : AF) (Q3 : AF → Ls → AHeap → Prop) : Prop := ∀ m' ρ2 H2, m' < m → P m' H2 → pick (R.map Prod.fst) ρ2 = R → Q3 af ρ2 H2
theorem whileS {t : PE} {b : PSs} (E : σ → Ls) (J : Nat → σ → AHeap → Prop) (m0 : Nat) (s0 : σ) (e0 : pick ((E s0).map Prod.fst) ρ = E s0) (h0 : J m0 s0 H1)
    (turn : ∀ m s H', J m s H' → ∀ Q3, NxW E J m .next Q3 → ∀ Q4 : AHeap → Prop, (∀ H2, Q .next (E s) H2 → Q4 H2) → dT C n (fun _ => False) t (E s) H' fun c H2 => br c (dSs C n (fun _ => False) b (E s) H2 Q3) (Q4 H2)) :
    ∃ I : Nat → Ls → AHeap → Prop, (∃ ns m, I m (pick ns ρ) H1) ∧ ∀ m ρ' H', I m ρ' H' → dT C n (fun _ => False) t ρ' H' fun c H2 => br c (dSs C n (fun _ => False) b ρ' H2 (turnEnd (fun ρ3 H3 => ∃ ns m', m' < m ∧ I m' (pick ns ρ3) H3) Q)) (Q .next ρ' H2) :=
  ⟨fun m ρ H => ∃ s, ρ = E s ∧ J m s H, ⟨_, m0, s0, e0, h0⟩, fun m _ H' ⟨s, e, j⟩ => e ▸ turn m s H' j _ (fun m' s _ _ lt j e => ⟨_, m', lt, s, e, j⟩) (fun H2 => Q .next (E s) H2) fun _ h => h⟩
theorem whileC {t : PE} {b : PSs} (R : Ls) (J : Nat → AHeap → Prop) (m0 : Nat) (e0 : pick (R.map Prod.fst) ρ = R) (h0 : J m0 H1)
    (turn : ∀ m H', J m H' → ∀ Q3, NxV R J m .next Q3 → NxV R J m .cont Q3 → ∀ Q4 : AHeap → Prop, (∀ H2, Q .next R H2 → Q4 H2) → dT C n (fun _ => False) t R H' fun c H2 => br c (dSs C n (fun _ => False) b R H2 Q3) (Q4 H2)) :
    ∃ I : Nat → Ls → AHeap → Prop, (∃ ns m, I m (pick ns ρ) H1) ∧ ∀ m ρ' H', I m ρ' H' → dT C n (fun _ => False) t ρ' H' fun c H2 => br c (dSs C n (fun _ => False) b ρ' H2 (turnEnd (fun ρ3 H3 => ∃ ns m', m' < m ∧ I m' (pick ns ρ3) H3) Q)) (Q .next ρ' H2) :=
  ⟨fun m ρ H => ρ = R ∧ J m H, ⟨_, m0, e0, h0⟩, fun m _ H' h => by
    obtain ⟨rfl, j⟩ := h
    exact turn m H' j _ (fun m' _ _ lt j e => ⟨_, m', lt, e, j⟩) (fun m' _ _ lt j e => ⟨_, m', lt, e, j⟩) (fun H2 => Q .next _ H2) fun _ h => h⟩
end
noncomputable def nats (ks : List Nat) : List AV := ks.map fun j : Nat => AV.int (j : Int)
theorem nats_len (ks : List Nat) : (nats ks).length = ks.length := List.length_map ..
theorem nats_get {ks : List Nat} {i : Nat} {w : AV} (h : (nats ks)[i]? = some w) : ∃ j : Nat, ks[i]? = some j ∧ w = .int j := by
  rw [nats, List.getElem?_map] at h
  cases q : ks[i]? with
  | none => rw [q] at h; cases h
  | some j => rw [q] at h; cases h; exact ⟨j, rfl, rfl⟩
theorem take_succ {α : Type} {ks : List α} {i : Nat} {j : α} (h : ks[i]? = some j) : ks.take (i + 1) = ks.take i ++ [j] := by rw [List.take_add_one, h]; rfl
theorem take_all {α : Type} (ks : List α) : ks.take ks.length = ks := List.take_length
theorem nats_at {ks : List Nat} {i : Nat} {w : AV} (h : (nats ks)[i]? = some w) : ∃ j : Nat, ks[i]? = some j ∧ w = .int j ∧ j ∈ ks ∧ ks.take (i + 1) = ks.take i ++ [j] :=
  let ⟨j, h1, h2⟩ := nats_get h; ⟨j, h1, h2, List.mem_of_getElem? h1, take_succ h1⟩
section
variable {C : Cfg} {n : Nat} {H1 : AHeap} {v : AV} {ρ : Ls} {Q : AV → AHeap → Prop} {ks : List Nat} {l : List AV}
theorem lcompN {e : PE} {x : Nat} {c : PEs} (p : Nat → Bool) (f : Nat → AV) (hl : itemsOf H1 v = some l) (hk : l = nats ks) (hb : ks.length ≤ 1000)
    (turn : ∀ (i j : Nat), j ∈ ks → ks[i]? = some j → ∀ (Y : AV → AHeap → Prop) (N : AHeap → Prop), (p j = true → Y (f j) H1) → (p j = false → N H1) → dTA C n (fun _ => False) c ((x, .int j) :: ρ) H1 fun b H2 => br b (dE C n (fun _ => False) e ((x, .int j) :: ρ) H2 Y) (N H2))
    (fin : newAt (.list ((ks.filter p).map f)) H1 Q) :
    ∃ l, itemsOf H1 v = some l ∧ l.length ≤ 10000 ∧ ∃ I : Nat → List AV → AHeap → Prop, I 0 [] H1 ∧ (∀ i acc H', I i acc H' → srcSame H1 H' v) ∧
      (∀ i acc H' (w : AV), I i acc H' → l[i]? = some w → dTA C n (fun _ => False) c ((x, w) :: ρ) H' fun b H2 => br b (dE C n (fun _ => False) e ((x, w) :: ρ) H2 fun u H3 => I (i + 1) (acc ++ [u]) H3) (I (i + 1) acc H2)) ∧
      (∀ acc H', I l.length acc H' → newAt (.list acc) H' Q) := by
  subst hk
  refine ⟨_, hl, by rw [nats_len]; omega, fun i acc H => H = H1 ∧ acc = ((ks.take i).filter p).map f, ⟨rfl, rfl⟩, fun i acc H' h => ?_, fun i acc H' w h hw => ?_, fun acc H' h => ?_⟩
  · rw [h.1]; cases v <;> first | exact rfl | exact True.intro
  · obtain ⟨j, hj, rfl⟩ := nats_get hw
    rw [h.1, h.2]
    refine turn i j (List.mem_of_getElem? hj) hj (fun u H3 => H3 = H1 ∧ ((ks.take i).filter p).map f ++ [u] = ((ks.take (i + 1)).filter p).map f) (fun H3 => H3 = H1 ∧ ((ks.take i).filter p).map f = ((ks.take (i + 1)).filter p).map f) (fun hp => ⟨rfl, ?_⟩) fun hp => ⟨rfl, ?_⟩
    · rw [take_succ hj, List.filter_append, List.filter_cons_of_pos hp, List.map_append]; rfl
    · rw [take_succ hj, List.filter_append, List.filter_cons_of_neg (by rw [hp]; exact Bool.false_ne_true), List.filter_nil, List.append_nil]
  · rw [h.1, h.2, nats_len, take_all]; exact fin
end
noncomputable def Ext (H H' : AHeap) : Prop := ∀ a o, H a = some o → H' a = some o
theorem Ext.refl (H : AHeap) : Ext H H := fun _ _ h => h
theorem Ext.trans {H H1 H2 : AHeap} (x : Ext H H1) (y : Ext H1 H2) : Ext H H2 := fun a o h => y a o (x a o h)
theorem Ext.set {H H' : AHeap} (x : Ext H H') {a : Addr} (o : AO) (h : H a = Option.none) : Ext H (H'.set a o) := fun b ob hb => by
  rw [AHeap.set_ne]; exact x b ob hb
  intro q; rw [q, h] at hb; cases hb
theorem Ext.new {H : AHeap} {a : Addr} (o : AO) (h : H a = Option.none) : Ext H (H.set a o) := (Ext.refl H).set o h
theorem Ext.free {H H' : AHeap} (x : Ext H H') {a : Addr} (h : H' a = Option.none) : H a = Option.none := by
  cases q : H a with
  | none => rfl
  | some o => rw [x a o q] at h; cases h
noncomputable def WellAt (H : AHeap) (w an : Addr) (l : List Int) (p : Nat) : Prop :=
  w ≠ an ∧ H w = some (.list [.ref an, .int p]) ∧ H an = some (.list (l.map .int)) ∧ p ≤ l.length ∧ l ≠ []
noncomputable def But (H H' : AHeap) (L : List Addr) : Prop := ∀ a, a ∉ L → H' a = H a
theorem ints_at {l : List Int} {i : Nat} (h : i < l.length) : (l.map AV.int)[i]? = some (.int l[i]) := by rw [List.getElem?_map, List.getElem?_eq_getElem h]; rfl
theorem draw_body {C : Cfg} {n : Nat} {X : AHeap → Prop} {H : AHeap} {w an : Addr} {l : List Int} {p : Nat} {m : Int} {Q : AV → AHeap → Prop} (hw : WellAt H w an l p) (hl : l.length < 900) (hm : 0 < m)
    (q : ∀ l' x H', 0 ≤ x → x < m → l'.length ≤ l.length + 1 → WellAt H' w an l' (p + 1) → But H H' [w, an] → Q (.int x) H') :
    dSs C n X f_law_draw (envOf 0 [.ref w, .int m]) H (post Q) := by
  obtain ⟨hne, h1, h2, h3, h4⟩ := hw
  have hpos := List.length_pos_iff.mpr h4
  have hlen : (l.map AV.int).length ≤ 1000 := by rw [List.length_map]; omega
  refine xUnp (.inr h1) rfl ?_
  refine joinR [(0, .ref w), (1, .int m), (2, .ref an), (3, .int p)] (fun H1 => ∃ l' : List Int, p < l'.length ∧ l'.length ≤ l.length + 1 ∧ H1 w = some (.list [.ref an, .int p]) ∧ H1 an = some (.list (l'.map .int)) ∧ But H H1 [w, an]) (fun K nx => xLen h2 hlen (brD (fun e => ?_) fun e => ?_)) fun H1 ⟨l', hp, hb, g1, g2, hbut⟩ => ?_
  · refine xHasL rfl h2 (xLast h2 hlen (v := .int (l.getLast h4)) ?_ (And.intro (by decide) (And.intro ⟨by decide, by decide⟩ (xNth h2 hlen (by omega) (ints_at (by omega)) (And.intro (by decide) (xApp h2 hlen (nx _ _ ⟨l ++ [(l.getLast h4 * 5 + l[((p : Int) / 2).toNat]'(by omega) + p) % 251], ?_, ?_, ?_, ?_, ?_⟩ rfl)))))))
    · rw [List.getLast?_map, List.getLast?_eq_some_getLast h4]; rfl
    · rw [List.length_append]; show p < l.length + 1; omega
    · rw [List.length_append]; exact Nat.le_refl _
    · rw [AHeap.set_ne _ _ hne]; exact h1
    · rw [AHeap.set_self, List.map_append]; rfl
    · exact fun a ha => AHeap.set_ne _ _ fun z => ha (by rw [z]; exact .tail _ (.head _))
  · refine nx _ _ ⟨l, ?_, Nat.le_succ _, h1, h2, fun _ _ => rfl⟩ rfl
    rw [List.length_map] at e; omega
  · refine xSetL g1 (by decide) (by show 1 < 2; decide) (by show 2 ≤ 1000; decide) ?_
    have g3 : (H1.set w (.list [.ref an, .int (↑p + 1)])) an = some (.list (l'.map .int)) := by rw [AHeap.set_ne _ _ hne.symm]; exact g2
    refine xNth g3 (by rw [List.length_map]; omega) (by omega) (ints_at (by omega)) (And.intro hm ?_)
    exact q l' _ _ (Int.emod_nonneg _ (by omega)) (Int.emod_lt_of_pos _ hm) hb ⟨hne, AHeap.set_self _ _ _, g3, hp, fun z => by rw [z] at hp; cases hp⟩ fun a ha => by
      rw [AHeap.set_ne _ _ fun z => ha (by rw [z]; exact .head _)]; exact hbut a ha
end Mine
end
section
open PySem PySem.W PyProof.Rows PySem.Calls
set_option maxRecDepth 100000
namespace Mine
theorem lookup_map_same (l : List (Int × AV)) (k : Int) (v : AV) (j : Int) : (l.map fun p => if p.1 = k then (p.1, v) else p).lookup j = if j = k then (l.lookup j).map (fun _ => v) else l.lookup j := by
  induction l with
  | nil => by_cases q : j = k <;> simp [q]
  | cons p l ih =>
    obtain ⟨a, b⟩ := p
    by_cases ak : a = k
    · subst ak
      by_cases ja : j = a
      · subst ja; simp [List.lookup_cons]
      · have : (j == a) = false := by simp [ja]
        simp only [List.map_cons, if_true, List.lookup_cons, this, ih, if_neg ja]
    · by_cases ja : j = a
      · subst ja; simp [List.lookup_cons, ak]
      · have : (j == a) = false := by simp [ja]
        simp only [List.map_cons, if_neg ak, List.lookup_cons, this, ih]
theorem lookup_none_iff (l : List (Int × AV)) (j : Int) : l.lookup j = none ↔ j ∉ l.map (·.1) := by
  induction l with
  | nil => simp
  | cons p l ih =>
    obtain ⟨a, b⟩ := p
    by_cases ja : j = a
    · subst ja; simp [List.lookup_cons]
    · have : (j == a) = false := by simp [ja]
      simp only [List.lookup_cons, this, ih, List.map_cons, List.mem_cons, not_or, ja, not_false_eq_true, true_and]
theorem lookup_isSome_iff (l : List (Int × AV)) (j : Int) : (l.lookup j).isSome = true ↔ j ∈ l.map (·.1) := by
  rw [← Option.ne_none_iff_isSome, ne_eq, lookup_none_iff, Decidable.not_not]
theorem any_keys (l : List (Int × AV)) (k : Int) : (l.any fun p => p.1 = k) = decide (k ∈ l.map (·.1)) := by
  rw [Bool.eq_iff_iff]; simp [List.any_eq_true]
theorem lookup_putD (l : List (Int × AV)) (k j : Int) (v : AV) : (putD l k v).lookup j = if j = k then some v else l.lookup j := by
  unfold putD
  rw [any_keys]
  by_cases h : k ∈ l.map (·.1)
  · rw [decide_eq_true h, if_pos rfl, lookup_map_same]
    by_cases q : j = k
    · subst q
      have := (lookup_isSome_iff l j).mpr h
      obtain ⟨w, hw⟩ := Option.isSome_iff_exists.mp this
      simp [hw]
    · rw [if_neg q, if_neg q]
  · rw [decide_eq_false h, if_neg (by decide), List.lookup_append]
    by_cases q : j = k
    · subst q
      rw [(lookup_none_iff l j).mpr h]; simp [List.lookup_cons]
    · have : (j == k) = false := by simp [q]
      simp [List.lookup_cons, this, q]
theorem keys_putD (l : List (Int × AV)) (k : Int) (v : AV) : (putD l k v).map (·.1) = if k ∈ l.map (·.1) then l.map (·.1) else l.map (·.1) ++ [k] := by
  unfold putD
  rw [any_keys]
  by_cases h : k ∈ l.map (·.1)
  · rw [decide_eq_true h, if_pos rfl, if_pos h, List.map_map]
    refine List.map_congr_left fun p _ => ?_
    show (if p.1 = k then (p.1, v) else p).1 = p.1
    split <;> rfl
  · rw [decide_eq_false h, if_neg (by decide), if_neg h, List.map_append]; rfl
theorem keys_delD (l : List (Int × AV)) (k : Int) : (delD l k).map (·.1) = (l.map (·.1)).filter fun j => !(j == k) := by
  unfold delD; induction l with
  | nil => rfl
  | cons p l ih => by_cases q : p.1 = k <;> simp [q, ih]
theorem lookup_delD (l : List (Int × AV)) (k j : Int) : (delD l k).lookup j = if j = k then none else l.lookup j := by
  unfold delD; induction l with
  | nil => simp
  | cons p l ih =>
    obtain ⟨a, b⟩ := p
    by_cases ak : a = k
    · subst ak
      rw [List.filter_cons_of_neg (by simp), ih]
      by_cases ja : j = a
      · rw [if_pos ja, if_pos ja]
      · have : (j == a) = false := by simp [ja]
        rw [if_neg ja, if_neg ja, List.lookup_cons, this]
    · rw [List.filter_cons_of_pos (by simp [ak]), List.lookup_cons, List.lookup_cons, ih]
      by_cases ja : j = a
      · subst ja; simp [ak]
      · have : (j == a) = false := by simp [ja]
        rw [this]
noncomputable def KeysN (N : Nat) (l : List (Int × AV)) : Prop := (l.map (·.1)).Nodup ∧ ∀ k ∈ l.map (·.1), ∃ i : Nat, i < N ∧ k = (i : Int)
noncomputable def has (l : List (Int × AV)) (i : Nat) : Bool := (l.lookup (i : Int)).isSome
theorem has_iff (l : List (Int × AV)) (i : Nat) : has l i = true ↔ (i : Int) ∈ l.map (·.1) := lookup_isSome_iff l i
theorem KeysN.nil (N : Nat) : KeysN N [] := ⟨List.nodup_nil, fun _ h => by cases h⟩
theorem KeysN.put {N : Nat} {l : List (Int × AV)} (h : KeysN N l) {i : Nat} (hi : i < N) (v : AV) : KeysN N (putD l i v) := by
  rw [KeysN, keys_putD]
  by_cases q : (i : Int) ∈ l.map (·.1)
  · rw [if_pos q]; exact h
  · rw [if_neg q]
    refine ⟨List.nodup_append.mpr ⟨h.1, by simp, fun a ha b hb => ?_⟩, fun k hk => ?_⟩
    · rw [List.mem_singleton] at hb; intro e; exact q (by rw [← hb, ← e]; exact ha)
    · rcases List.mem_append.mp hk with hk | hk
      · exact h.2 k hk
      · exact ⟨i, hi, List.mem_singleton.mp hk⟩
theorem KeysN.del {N : Nat} {l : List (Int × AV)} (h : KeysN N l) (k : Int) : KeysN N (delD l k) := by
  rw [KeysN, keys_delD]
  exact ⟨List.Pairwise.filter _ h.1, fun j hj => h.2 j (List.mem_filter.mp hj).1⟩
theorem has_put (l : List (Int × AV)) (i j : Nat) (v : AV) : has (putD l i v) j = (decide (j = i) || has l j) := by
  unfold has; rw [lookup_putD]
  by_cases q : j = i
  · subst q; simp
  · rw [if_neg (by omega)]; simp [q]
theorem has_del (l : List (Int × AV)) (i j : Nat) : has (delD l i) j = (!decide (j = i) && has l j) := by
  unfold has; rw [lookup_delD]
  by_cases q : j = i
  · subst q; simp
  · rw [if_neg (by omega)]; simp [q]
noncomputable def cnt (N : Nat) (p : Nat → Bool) : Nat := (List.range N).countP p
theorem keys_perm {N : Nat} {l : List (Int × AV)} (h : KeysN N l) : (l.map (·.1)).Perm (((List.range N).filter (has l)).map fun i : Nat => (i : Int)) := by
  refine (List.perm_ext_iff_of_nodup h.1 ?_).mpr fun k => ?_
  · refine List.Pairwise.map _ (fun a b (q : a ≠ b) => by show (a : Int) ≠ b; omega) (List.Pairwise.filter _ List.nodup_range)
  · simp only [List.mem_map, List.mem_filter, List.mem_range]
    constructor
    · intro hk
      obtain ⟨i, hi, e⟩ := h.2 k (List.mem_map.mpr hk)
      exact ⟨i, ⟨hi, (has_iff l i).mpr (by rw [← e]; exact List.mem_map.mpr hk)⟩, e.symm⟩
    · rintro ⟨i, ⟨_, hh⟩, rfl⟩
      exact List.mem_map.mp ((has_iff l i).mp hh)
theorem KeysN.len {N : Nat} {l : List (Int × AV)} (h : KeysN N l) : l.length = cnt N (has l) := by
  have := (keys_perm h).length_eq
  rw [List.length_map, List.length_map] at this
  rw [this, cnt, List.countP_eq_length_filter]
theorem cnt_le (N : Nat) (p : Nat → Bool) : cnt N p ≤ N := by
  have := List.countP_le_length (p := p) (l := List.range N)
  rw [List.length_range] at this; exact this
theorem KeysN.le {N : Nat} {l : List (Int × AV)} (h : KeysN N l) : l.length ≤ N := by rw [h.len]; exact cnt_le N _
theorem cnt_congr {N : Nat} {p q : Nat → Bool} (h : ∀ i, i < N → p i = q i) : cnt N p = cnt N q := List.countP_congr fun i hi => by rw [h i (List.mem_range.mp hi)]
theorem cnt_mono {N : Nat} {p q : Nat → Bool} (h : ∀ i, i < N → p i = true → q i = true) : cnt N p ≤ cnt N q := List.countP_mono_left fun i hi => h i (List.mem_range.mp hi)
theorem keys_at {N : Nat} {l : List (Int × AV)} (h : KeysN N l) {i : Nat} {w : AV} (hi : (l.map fun p => AV.int p.1)[i]? = some w) : ∃ j : Nat, j < N ∧ w = .int j ∧ has l j = true ∧ (l.map (·.1))[i]? = some (j : Int) := by
  rw [List.getElem?_map] at hi
  cases hp : l[i]? with
  | none => rw [hp] at hi; cases hi
  | some p =>
    rw [hp] at hi; cases hi
    have hm : p.1 ∈ l.map (·.1) := List.mem_map.mpr ⟨p, List.mem_of_getElem? hp, rfl⟩
    obtain ⟨j, hj, e⟩ := h.2 _ hm
    exact ⟨j, hj, by show AV.int p.1 = _; rw [e], (has_iff l j).mpr (by rw [← e]; exact hm), by rw [List.getElem?_map, hp, ← e]; rfl⟩
end Mine
end
section
open PySem PySem.W PyProof.Rows PySem.Calls
set_option maxRecDepth 100000
namespace Mine
theorem fcallU {C : Cfg} (g : Ground C) {n : Nat} {X : AHeap → Prop} {f : Addr} {fd : FuncData} {ns xs : List Str} {ps : PSs} {args : List AV} {H : AHeap} {Q : AV → AHeap → Prop} (fa : FnAt C f fd ns xs ps) (hn : 4 ≤ n) (hl : args.length = xs.length)
    (d : dSs C (n - 1) X ps (envOf 0 args) H (post Q)) : FCall C n X (.ref f) args H Q := by
  obtain ⟨m, rfl⟩ : ∃ m, n = m + 1 := ⟨n - 1, by omega⟩
  exact (fcode g.cs (prims g) (prims g.on) (excRules g) (by omega) g.lim fa hl d).call
theorem call_draw {C : Cfg} (g : Ground C) {n : Nat} {X : AHeap → Prop} {H : AHeap} {w an : Addr} {l : List Int} {p : Nat} {m : Int} {Q : AV → AHeap → Prop} (hn : 4 ≤ n) (hw : WellAt H w an l p) (hl : l.length < 900) (hm : 0 < m)
    (q : ∀ l' x H', 0 ≤ x → x < m → l'.length ≤ l.length + 1 → WellAt H' w an l' (p + 1) → But H H' [w, an] → Q (.int x) H') : FCall C n X (.ref 194) [.ref w, .int m] H Q :=
  fcallU g (fn_law_draw g) hn rfl (draw_body hw hl hm q)
structure GA where
  (x d dn dx dc lc da : Addr)
  row : Nat → Addr
structure GS where
  adj : Nat → Nat → Bool
  cross : Nat → Bool
  cost : Nat → Int
  ali : Nat → Nat
  cps : List (Nat × Nat)
noncomputable def SetAt (H : AHeap) (N : Nat) (b : Addr) (p : Nat → Bool) : Prop := ∃ l ep, H b = some (.dict l ep) ∧ KeysN N l ∧ ∀ j, has l j = p j
noncomputable def CpAt (H : AHeap) (N : Nat) (v : AV) (p : Nat × Nat) : Prop := ∃ t w, v = .ref t ∧ H t = some (.tup [.int w, .int p.1, .int p.2]) ∧ p.1 < N ∧ p.2 < N
structure GAt (N : Nat) (a : GA) (st : GS) (H : AHeap) : Prop where
  x : H a.x = some (.inst 124 a.d)
  d : H a.d = some (.ns [("near", .ref a.dn), ("crosses", .ref a.dx), ("cost", .ref a.dc), ("copies", .ref a.lc), ("alias", .ref a.da)])
  near : ∃ ep, H a.dn = some (.dict ((List.range N).map fun i : Nat => ((i : Int), AV.ref (a.row i))) ep)
  rows : ∀ i, i < N → SetAt H N (a.row i) (st.adj i)
  cross : SetAt H N a.dx st.cross
  cost : ∃ l ep, H a.dc = some (.dict l ep) ∧ KeysN N l ∧ ∀ i : Nat, i < N → l.lookup (i : Int) = some (.int (st.cost i))
  ali : ∃ l ep, H a.da = some (.dict l ep) ∧ KeysN N l ∧ ∀ i : Nat, i < N → l.lookup (i : Int) = some (.int (st.ali i)) ∧ st.ali i < N
  cps : ∃ l, H a.lc = some (.list l) ∧ l.length ≤ 4 ∧ F2 (CpAt H N) l st.cps
theorem SetAt.ext {H H' : AHeap} {N : Nat} {b : Addr} {p : Nat → Bool} (h : SetAt H N b p) (x : Ext H H') : SetAt H' N b p := by
  obtain ⟨l, ep, h1, h2⟩ := h; exact ⟨l, ep, x _ _ h1, h2⟩
theorem F2.mono {α β : Type} {R S : α → β → Prop} {l : List α} {m : List β} (h : F2 R l m) (f : ∀ a b, R a b → S a b) : F2 S l m := by
  induction h with
  | nil => exact .nil
  | cons r _ ih => exact .cons (f _ _ r) ih
theorem GAt.ext {N : Nat} {a : GA} {st : GS} {H H' : AHeap} (h : GAt N a st H) (x : Ext H H') : GAt N a st H' where
  x := x _ _ h.x
  d := x _ _ h.d
  near := let ⟨ep, q⟩ := h.near; ⟨ep, x _ _ q⟩
  rows := fun i hi => (h.rows i hi).ext x
  cross := h.cross.ext x
  cost := let ⟨l, ep, q, r⟩ := h.cost; ⟨l, ep, x _ _ q, r⟩
  ali := let ⟨l, ep, q, r⟩ := h.ali; ⟨l, ep, x _ _ q, r⟩
  cps := let ⟨l, q, r, z⟩ := h.cps; ⟨l, x _ _ q, r, z.mono fun _ _ ⟨t, w, e, k, m⟩ => ⟨t, w, e, x _ _ k, m⟩⟩
theorem lookup_rows (row : Nat → Addr) {i N : Nat} (hi : i < N) : ((List.range N).map fun i : Nat => ((i : Int), AV.ref (row i))).lookup (i : Int) = some (.ref (row i)) := by
  induction N with
  | zero => omega
  | succ N ih =>
    rw [List.range_succ, List.map_append, List.lookup_append]
    by_cases q : i < N
    · rw [ih q]; rfl
    · have e : i = N := by omega
      subst e
      rw [(lookup_none_iff _ _).mpr]
      · rw [List.map_cons, List.lookup_cons, beq_self_eq_true]; rfl
      · rw [List.map_map, List.mem_map]
        rintro ⟨x, hx, e⟩
        have e : (x : Int) = i := e
        rw [List.mem_range] at hx; omega
section
variable {C : Cfg} {n : Nat} {X : AHeap → Prop} {N : Nat} {a : GA} {st : GS} {H : AHeap} {V : AV → AHeap → Prop} {T : Bool → AHeap → Prop}
theorem xAttr {x c d : Addr} {l : List (Str × AV)} {f : Str} {v : AV} (h1 : H x = some (.inst c d)) (h2 : H d = some (.ns l)) (h3 : okAttr c f = true) (h4 : l.lookup f = some v) (q : V v H) : kAttr x f H V := by
  unfold kAttr; exact ⟨c, d, l, v, h1, h2, h3, h4, q⟩
theorem xG {f : Str} {g : Value} {K : Value → Prop} (h : GlobIs C f g) (c : CalleeOk C g) (k : K g) : kGlob C f K := by unfold kGlob; exact ⟨g, h, c, k⟩
theorem xM {o : AV} {m : Str} {f : Value} {K : Value → Prop} (h : PGet C n o m H f) (c : CalleeOk C f) (k : K f) : kMeth C n o m H K := by unfold kMeth; exact ⟨f, h, c, k⟩
theorem xNear (G : GAt N a st H) (q : V (.ref a.dn) H) : kAttr a.x "near" H V := xAttr G.x G.d (by kernel_rfl) (by kernel_rfl) q
theorem xCross (G : GAt N a st H) (q : V (.ref a.dx) H) : kAttr a.x "crosses" H V := xAttr G.x G.d (by kernel_rfl) (by kernel_rfl) q
theorem xCost (G : GAt N a st H) (q : V (.ref a.dc) H) : kAttr a.x "cost" H V := xAttr G.x G.d (by kernel_rfl) (by kernel_rfl) q
theorem xCopies (G : GAt N a st H) (q : V (.ref a.lc) H) : kAttr a.x "copies" H V := xAttr G.x G.d (by kernel_rfl) (by kernel_rfl) q
theorem xAlias (G : GAt N a st H) (q : V (.ref a.da) H) : kAttr a.x "alias" H V := xAttr G.x G.d (by kernel_rfl) (by kernel_rfl) q
theorem xRow (G : GAt N a st H) {i : Nat} (hi : i < N) (q : V (.ref (a.row i)) H) : kSub a.dn (i : Int) H V := let ⟨_, e⟩ := G.near; xSubD e (lookup_rows _ hi) q
theorem xAl (G : GAt N a st H) {i : Nat} (hi : i < N) (q : V (.int (st.ali i)) H) : kSub a.da (i : Int) H V := let ⟨_, _, e, _, r⟩ := G.ali; xSubD e (r i hi).1 q
theorem xCo (G : GAt N a st H) {i : Nat} (hi : i < N) (q : V (.int (st.cost i)) H) : kSub a.dc (i : Int) H V := let ⟨_, _, e, _, r⟩ := G.cost; xSubD e (r i hi) q
theorem xIn {b : Addr} {p : Nat → Bool} (h : SetAt H N b p) {i : Nat} (q : T (p i) H) : kIn (i : Int) b H T := let ⟨_, _, e, _, r⟩ := h; xInD e (by rw [← r i] at q; exact q)
theorem xInRow (G : GAt N a st H) {i j : Nat} (hi : i < N) (q : T (st.adj i j) H) : kIn (j : Int) (a.row i) H T := xIn (G.rows i hi) q
theorem xInCr (G : GAt N a st H) {j : Nat} (q : T (st.cross j) H) : kIn (j : Int) a.dx H T := xIn G.cross q
theorem xLenD {l : List (Int × AV)} {ep : Nat} {b : Addr} (h : H b = some (.dict l ep)) (hl : l.length ≤ 1000) (q : V (.int l.length) H) : kLen b H V := by unfold kLen; exact .inr ⟨l, ep, h, hl, q⟩
theorem SetAt.card {b : Addr} {p : Nat → Bool} {l : List (Int × AV)} (k : KeysN N l) (r : ∀ j, has l j = p j) : l.length = cnt N p := by rw [k.len, cnt_congr fun i _ => r i]
theorem xLenS {b : Addr} {p : Nat → Bool} (h : SetAt H N b p) (hN : N ≤ 8) (q : V (.int (cnt N p)) H) : kLen b H V :=
  let ⟨_, _, e, k, r⟩ := h; xLenD e (by have := k.le; omega) (by rw [SetAt.card (b := b) k r]; exact q)
theorem SetAt.lt {b : Addr} {p : Nat → Bool} (h : SetAt H N b p) {i : Nat} (hi : p i = true) : i < N := by
  obtain ⟨l, ep, q, k, r⟩ := h
  rw [← r i, has_iff] at hi
  obtain ⟨j, hj, e⟩ := k.2 _ hi
  omega
end
structure LD (N : Nat) (al ldr rk : Nat → Nat) : Prop where
  lt : ∀ i, i < N → ldr i < N
  self : ∀ i, i < N → al i = i → ldr i = i
  step : ∀ i, i < N → al i ≠ i → ldr (al i) = ldr i ∧ rk (al i) < rk i
theorem call_leader {C : Cfg} (g : Ground C) {n : Nat} {X : AHeap → Prop} {N : Nat} {a : GA} {st : GS} {H : AHeap} {ldr rk : Nat → Nat} {i : Nat} {Q : AV → AHeap → Prop} (hn : 4 ≤ n) (G : GAt N a st H) (L : LD N st.ali ldr rk) (hi : i < N) (q : Q (.int (ldr i)) H) :
    FCall C n X (.ref 104) [.ref a.x, .int i] H Q := by
  refine fcallU g (fn_Graph_leader g) hn rfl ?_
  refine whileS (fun j : Nat => [(0, .ref a.x), (1, .int j)]) (fun m j H' => H' = H ∧ j < N ∧ ldr j = ldr i ∧ m = rk j) (rk i) i rfl ⟨rfl, hi, rfl, rfl⟩ ?_
  rintro _ j _ ⟨rfl, hj, e, rfl⟩ Q3 nx Q4 en
  refine xAlias G (xAl G hj (brN (fun ne => ?_) fun eq => ?_))
  · obtain ⟨s1, s2⟩ := L.step j hj fun z => ne (by rw [z])
    obtain ⟨l, ep, _, _, hl⟩ := G.ali
    exact xAlias G (xAl G hj (nx _ (st.ali j) _ _ s2 ⟨rfl, (hl j hj).2, by rw [s1, e], rfl⟩ rfl))
  · rw [← e, L.self j hj (by omega)] at q
    exact en _ q
end Mine
end
section
open PySem PySem.W PyProof.Rows PySem.Calls
set_option maxRecDepth 100000
namespace Mine
noncomputable def lst (N : Nat) (p : Nat → Bool) : List AV := ((List.range N).filter p).map fun j : Nat => AV.int (j : Int)
theorem lst_zero (p : Nat → Bool) : lst 0 p = [] := rfl
theorem lst_pos {i : Nat} {p : Nat → Bool} (h : p i = true) : lst (i + 1) p = lst i p ++ [.int i] := by
  simp only [lst, List.range_succ, List.filter_append, List.map_append, List.filter_cons, h, if_true, List.filter_nil, List.map_cons, List.map_nil]
theorem lst_neg {i : Nat} {p : Nat → Bool} (h : p i = false) : lst (i + 1) p = lst i p := by
  simp only [lst, List.range_succ, List.filter_append, List.filter_cons, h, List.filter_nil, List.append_nil, Bool.false_eq_true, if_false]
theorem lst_len (N : Nat) (p : Nat → Bool) : (lst N p).length = cnt N p := by
  rw [lst, List.length_map, cnt, List.countP_eq_length_filter]
theorem lst_at {N : Nat} {p : Nat → Bool} {i : Nat} {w : AV} (h : (lst N p)[i]? = some w) : ∃ j : Nat, j < N ∧ p j = true ∧ w = .int j := by
  have := List.mem_of_getElem? h
  obtain ⟨j, hj, e⟩ := List.mem_map.mp this
  obtain ⟨h1, h2⟩ := List.mem_filter.mp hj
  exact ⟨j, List.mem_range.mp h1, h2, e.symm⟩
theorem lst_congr {N : Nat} {p q : Nat → Bool} (h : ∀ i, i < N → p i = q i) : lst N p = lst N q := by
  rw [lst, lst, List.filter_congr fun i hi => h i (List.mem_range.mp hi)]
theorem lst_inj {N : Nat} {p q : Nat → Bool} (h : lst N p = lst N q) {i : Nat} (hi : i < N) : p i = q i := by
  have e : ∀ r : Nat → Bool, r i = true ↔ AV.int (i : Int) ∈ lst N r := fun r => by
    simp only [lst, List.mem_map, List.mem_filter, List.mem_range]
    refine ⟨fun hr => ⟨i, ⟨hi, hr⟩, rfl⟩, fun ⟨j, ⟨_, hj⟩, q⟩ => ?_⟩
    have : (j : Int) = i := by injection q
    rw [← show j = i by omega]; exact hj
  rw [Bool.eq_iff_iff, e p, e q, h]
theorem filter_all {α : Type} (l : List α) : l.filter (fun _ => true) = l := List.filter_eq_self.mpr fun _ _ => rfl
theorem rows_items (row : Nat → Addr) (N : Nat) : ((List.range N).map fun i : Nat => ((i : Int), AV.ref (row i))).map (fun p => AV.int p.1) = lst N fun _ => true := by
  rw [lst, filter_all, List.map_map]; rfl
theorem lst_all_at {N i : Nat} {w : AV} (h : (lst N fun _ => true)[i]? = some w) : i < N ∧ w = .int i := by
  rw [lst, filter_all, List.getElem?_map] at h
  by_cases q : i < N
  · rw [List.getElem?_range q] at h; injection h with h; exact ⟨q, h.symm⟩
  · rw [List.getElem?_eq_none (by simpa using q)] at h; cases h
theorem lst_all_len (N : Nat) : (lst N fun _ => true).length = N := by rw [lst, filter_all, List.length_map, List.length_range]
theorem lst_nats (N : Nat) : (lst N fun _ => true) = nats (List.range N) := by rw [lst, filter_all]; rfl
theorem GAt.items {N : Nat} {a : GA} {st : GS} {H : AHeap} (G : GAt N a st H) : itemsOf H (.ref a.dn) = some (lst N fun _ => true) := by
  obtain ⟨ep, q⟩ := G.near; simp only [itemsOf, q, rows_items]
theorem SetAt.items {N : Nat} {b : Addr} {p : Nat → Bool} {H : AHeap} (h : SetAt H N b p) : ∃ l, itemsOf H (.ref b) = some (l.map fun p => AV.int p.1) ∧ KeysN N l ∧ (∀ j, has l j = p j) := by
  obtain ⟨l, ep, q, r⟩ := h; exact ⟨l, by simp only [itemsOf, q], r⟩
section
variable {C : Cfg} {n : Nat} {X : AHeap → Prop} {N : Nat} {a : GA} {st : GS} {H : AHeap} {Q : AV → AHeap → Prop}
theorem GAt.getM (g : Ground C) (G : GAt N a st H) {m : Str} {fn : Addr} (h3 : ([("near", AV.ref a.dn), ("crosses", .ref a.dx), ("cost", .ref a.dc), ("copies", .ref a.lc), ("alias", .ref a.da)] : List (Str × AV)).lookup m = none)
    (hga : findIn (KH C.w.params) (.ref 124) "__getattribute__" = some (some (.builtin "object.__getattribute__"))) (hk : findIn (KH C.w.params) (.ref 124) "__getattr__" = some none) (hf : findIn (KH C.w.params) (.ref 124) m = some (some (.ref fn))) (ht : typeIn (KH C.w.params) (.ref fn) = some (.type "function")) :
    PGet C n (.ref a.x) m H (.ref fn) := get_meth g G.x G.d h3 hga hk hf ht
theorem GAt.mLeader (g : Ground C) (G : GAt N a st H) : PGet C n (.ref a.x) "leader" H (.ref 104) := G.getM g (by kernel_rfl) (by kernel_rfl) (by kernel_rfl) (by kernel_rfl) (by kernel_rfl)
theorem GAt.mLeaders (g : Ground C) (G : GAt N a st H) : PGet C n (.ref a.x) "leaders" H (.ref 109) := G.getM g (by kernel_rfl) (by kernel_rfl) (by kernel_rfl) (by kernel_rfl) (by kernel_rfl)
theorem GAt.mMembers (g : Ground C) (G : GAt N a st H) : PGet C n (.ref a.x) "members" H (.ref 114) := G.getM g (by kernel_rfl) (by kernel_rfl) (by kernel_rfl) (by kernel_rfl) (by kernel_rfl)
theorem GAt.mMerge (g : Ground C) (G : GAt N a st H) : PGet C n (.ref a.x) "merge" H (.ref 121) := G.getM g (by kernel_rfl) (by kernel_rfl) (by kernel_rfl) (by kernel_rfl) (by kernel_rfl)
theorem GAt.mAdd (g : Ground C) (G : GAt N a st H) : PGet C n (.ref a.x) "add" H (.ref 83) := G.getM g (by kernel_rfl) (by kernel_rfl) (by kernel_rfl) (by kernel_rfl) (by kernel_rfl)
theorem GAt.mTouch (g : Ground C) (G : GAt N a st H) : PGet C n (.ref a.x) "touch" H (.ref 90) := G.getM g (by kernel_rfl) (by kernel_rfl) (by kernel_rfl) (by kernel_rfl) (by kernel_rfl)
theorem GAt.mJoin (g : Ground C) (G : GAt N a st H) : PGet C n (.ref a.x) "join" H (.ref 97) := G.getM g (by kernel_rfl) (by kernel_rfl) (by kernel_rfl) (by kernel_rfl) (by kernel_rfl)
theorem GAt.nkeys {N : Nat} {a : GA} {st : GS} {H : AHeap} (G : GAt N a st H) : itemsOf H (.ref a.dn) = some (lst N fun _ => true) := G.items
theorem call_leaders (g : Ground C) (hn : 4 ≤ n) (hN : N ≤ 8) (G : GAt N a st H) (q : ∀ b H', Ext H H' → H b = none → H' b = some (.list (lst N fun i => st.ali i == i)) → Q (.ref b) H') :
    FCall C n X (.ref 109) [.ref a.x] H Q := by
  refine fcallU g (fn_Graph_leaders g) hn rfl (xNear G ?_)
  refine lcompN (fun i => st.ali i == i) (fun j => .int j) G.items (lst_nats N) (by rw [List.length_range]; omega) (fun i j hj _ Y N yes no => ?_) (xNew fun b hb => q b _ (Ext.new _ hb) hb (AHeap.set_self _ _ _))
  refine xAlias G (xAl G (List.mem_range.mp hj) (brD (fun e => ?_) fun e => ?_))
  · exact yes (by rw [beq_iff_eq]; omega)
  · exact no (by rw [beq_eq_false_iff_ne]; omega)
theorem call_members (g : Ground C) {ldr rk : Nat → Nat} {l : Nat} (hn : 8 ≤ n) (hN : N ≤ 8) (G : GAt N a st H) (L : LD N st.ali ldr rk) (q : ∀ b H', Ext H H' → H b = none → H' b = some (.list (lst N fun i => ldr i == l)) → Q (.ref b) H') :
    FCall C n X (.ref 114) [.ref a.x, .int l] H Q := by
  refine fcallU g (fn_Graph_members g) (by omega) rfl (xNear G ?_)
  refine lcompN (fun i => ldr i == l) (fun j => .int j) G.items (lst_nats N) (by rw [List.length_range]; omega) (fun i j hj _ Y N yes no => ?_) (xNew fun b hb => q b _ (Ext.new _ hb) hb (AHeap.set_self _ _ _))
  refine xM (G.mLeader g) (ce_Graph_leader g) (call_leader g (by omega) G L (List.mem_range.mp hj) (brD (fun e => ?_) fun e => ?_))
  · exact yes (by rw [beq_iff_eq]; omega)
  · exact no (by rw [beq_eq_false_iff_ne]; omega)
end
structure PA where
  (x d al kp : Addr)
structure PAt (a : PA) (al kp : List Int) (H : AHeap) : Prop where
  x : H a.x = some (.inst 58 a.d)
  d : H a.d = some (.ns [("all", .ref a.al), ("kept", .ref a.kp)])
  hal : H a.al = some (.list (al.map .int))
  hkp : H a.kp = some (.list (kp.map .int))
  la : al.length ≤ 6
  lk : kp.length ≤ 6
theorem PAt.ext {a : PA} {al kp : List Int} {H H' : AHeap} (h : PAt a al kp H) (x : Ext H H') : PAt a al kp H' := ⟨x _ _ h.x, x _ _ h.d, x _ _ h.hal, x _ _ h.hkp, h.la, h.lk⟩
section
variable {C : Cfg} {n : Nat} {X : AHeap → Prop} {N : Nat} {a : GA} {st : GS} {p : PA} {al kp : List Int} {H : AHeap} {V : AV → AHeap → Prop}
theorem xAll (P : PAt p al kp H) (q : V (.ref p.al) H) : kAttr p.x "all" H V := xAttr P.x P.d (by kernel_rfl) (by kernel_rfl) q
theorem xKept (P : PAt p al kp H) (q : V (.ref p.kp) H) : kAttr p.x "kept" H V := xAttr P.x P.d (by kernel_rfl) (by kernel_rfl) q
theorem PAt.mOf (g : Ground C) (h : PAt p al kp H) : PGet C n (.ref p.x) "of" H (.ref 55) := get_meth g h.x h.d (by kernel_rfl) (by kernel_rfl) (by kernel_rfl) (by kernel_rfl) (by kernel_rfl)
theorem xLenI {b : Addr} {l : List Int} (h : H b = some (.list (l.map .int))) (hl : l.length ≤ 1000) (q : V (.int l.length) H) : kLen b H V := xLen h (by rw [List.length_map]; exact hl) (by rw [List.length_map]; exact q)
theorem xLenAll (P : PAt p al kp H) (q : V (.int al.length) H) : kLen p.al H V := xLenI P.hal (by have := P.la; omega) q
theorem xLenKept (P : PAt p al kp H) (q : V (.int kp.length) H) : kLen p.kp H V := xLenI P.hkp (by have := P.lk; omega) q
theorem xLenOf (P : PAt p al kp H) {c : Bool} (q : V (.int ((if c then kp.length else al.length : Nat))) H) : kLen (if c then p.kp else p.al) H V := match c, q with
  | true, q => xLenKept P q
  | false, q => xLenAll P q
theorem call_of (g : Ground C) (hn : 4 ≤ n) (G : GAt N a st H) (P : PAt p al kp H) {i : Nat} (q : V (.ref (if st.cross i then p.kp else p.al)) H) :
    FCall C n X (.ref 55) [.ref p.x, .ref a.x, .int i] H V := by
  refine fcallU g (fn_Pools_of g) hn rfl (xCross G (xInCr G (brC (fun e => xKept P ?_) fun e => xAll P ?_)))
  · rw [e] at q; exact q
  · rw [e] at q; exact q
end
end Mine
end
section
open PySem PySem.W PyProof.Rows PySem.Calls
set_option maxRecDepth 100000
namespace Mine
theorem keys_nat {N : Nat} {l : List (Int × AV)} (k : KeysN N l) : ∃ ks : List Nat, (l.map fun p => AV.int p.1) = nats ks ∧ ks.Nodup ∧ (∀ j, j ∈ ks ↔ has l j = true) ∧ l.map (·.1) = ks.map fun j : Nat => (j : Int) := by
  have e : (l.map (·.1)) = (l.map fun p => p.1.toNat).map fun j : Nat => (j : Int) := by
    rw [List.map_map]
    refine List.map_congr_left fun p hp => ?_
    obtain ⟨i, _, q⟩ := k.2 p.1 (List.mem_map.mpr ⟨p, hp, rfl⟩)
    show p.1 = ((p.1.toNat : Nat) : Int); omega
  refine ⟨l.map fun p => p.1.toNat, ?_, ?_, fun j => ?_, e⟩
  · have := congrArg (List.map AV.int) e
    rw [List.map_map, List.map_map] at this
    exact this
  · have nd := k.1
    rw [e] at nd
    exact List.Pairwise.imp (fun {a b} h q => h (by rw [q])) (List.pairwise_map.mp nd)
  · rw [has_iff, e, List.mem_map]
    simp only [List.mem_map]
    exact ⟨fun ⟨p, hp, q⟩ => ⟨j, ⟨p, hp, q⟩, rfl⟩, fun ⟨i, ⟨p, hp, z⟩, q⟩ => ⟨p, hp, by omega⟩⟩
theorem SetAt.keys {H : AHeap} {N : Nat} {b : Addr} {p : Nat → Bool} (h : SetAt H N b p) : ∃ ks : List Nat, itemsOf H (.ref b) = some (nats ks) ∧ ks.Nodup ∧ ∀ j, j ∈ ks ↔ p j = true := by
  obtain ⟨l, ep, q, k, r⟩ := h
  obtain ⟨ks, e, nd, hm, _⟩ := keys_nat k
  exact ⟨ks, by simp only [itemsOf, q]; rw [e], nd, fun j => by rw [hm, r]⟩
theorem ks_perm {N : Nat} {ks : List Nat} {p : Nat → Bool} (nd : ks.Nodup) (hm : ∀ j, j ∈ ks ↔ p j = true) (lt : ∀ j, p j = true → j < N) : ks.Perm ((List.range N).filter p) := by
  refine (List.perm_ext_iff_of_nodup nd (List.Pairwise.filter _ List.nodup_range)).mpr fun j => ?_
  rw [hm, List.mem_filter, List.mem_range]
  exact ⟨fun h => ⟨lt j h, h⟩, fun h => h.2⟩
theorem ks_cnt {N : Nat} {ks : List Nat} {p : Nat → Bool} (nd : ks.Nodup) (hm : ∀ j, j ∈ ks ↔ p j = true) (lt : ∀ j, p j = true → j < N) (q : Nat → Bool) : ks.countP q = cnt N fun j => p j && q j := by
  rw [(ks_perm nd hm lt).countP_eq, List.countP_filter, cnt]
  exact List.countP_congr fun j _ => by rw [Bool.and_comm]
theorem ks_len {N : Nat} {ks : List Nat} {p : Nat → Bool} (nd : ks.Nodup) (hm : ∀ j, j ∈ ks ↔ p j = true) (lt : ∀ j, p j = true → j < N) : ks.length = cnt N p := by
  rw [(ks_perm nd hm lt).length_eq, cnt, List.countP_eq_length_filter]
theorem updD_keys {N : Nat} (l : List (Int × AV)) : ∀ l0 : List (Int × AV), KeysN N l0 → (∀ k ∈ l.map (·.1), ∃ i : Nat, i < N ∧ k = (i : Int)) → KeysN N (updD l0 l) ∧ ∀ j, has (updD l0 l) j = (has l0 j || has l j) := by
  induction l with
  | nil => intro l0 h _; exact ⟨h, fun j => by show has l0 j = (has l0 j || false); rw [Bool.or_false]⟩
  | cons p l ih =>
    intro l0 h hk
    obtain ⟨i, hi, e⟩ := hk p.1 (by simp)
    obtain ⟨a, b⟩ := p
    simp only at e; subst e
    obtain ⟨h1, h2⟩ := ih (putD l0 i b) (h.put hi b) fun k hk' => hk k (by simp at hk' ⊢; exact .inr hk')
    refine ⟨h1, fun j => ?_⟩
    show has (updD (putD l0 i b) l) j = _
    rw [h2, has_put]
    by_cases q : j = i
    · subst q; simp [has, List.lookup_cons]
    · have : ((j : Int) == (i : Int)) = false := by simp; omega
      simp [has, List.lookup_cons, this, q]
noncomputable def deg (N : Nat) (st : GS) (i : Nat) : Nat := cnt N (st.adj i)
noncomputable def room (st : GS) (K E i : Nat) : Nat := if st.cross i then K else E
noncomputable def sizeS (st : GS) (K E one other : Nat) : Nat := if st.cross one || st.cross other then K else E
noncomputable def hardS (N : Nat) (st : GS) (K E one other t : Nat) : Bool := decide ((room st K E t : Int) ≤ (deg N st t : Int) - (if st.adj one t && st.adj other t then 1 else 0))
noncomputable def safeB (N : Nat) (st : GS) (K E one other : Nat) : Bool := decide (deg N st one + deg N st other < sizeS st K E one other) || decide (cnt N (fun t => (st.adj one t || st.adj other t) && hardS N st K E one other t) < sizeS st K E one other)
section
variable {C : Cfg} {n : Nat} {X : AHeap → Prop} {N : Nat} {a : GA} {st : GS} {p : PA} {al kp : List Int} {H : AHeap} {V : AV → AHeap → Prop} {K : Prop}
theorem GAt.adj_lt (h : GAt N a st H) {i j : Nat} (hi : i < N) (e : st.adj i j = true) : j < N := (h.rows i hi).lt e
theorem xLenRow (G : GAt N a st H) (hN : N ≤ 8) {i : Nat} (hi : i < N) (q : V (.int (deg N st i)) H) : kLen (a.row i) H V := xLenS (G.rows i hi) hN q
theorem xHasS {m : BM} {b : Addr} {U : Nat → Bool} (e : listsM m = false) (h : SetAt H N b U) (k : K) : kHas m (.ref b) H K := let ⟨_, _, q, _⟩ := h; xHasD e q k
structure But1 (b : Addr) (H H' : AHeap) : Prop where
  to : ∀ c, c ≠ b → H' c = H c
  dom : H' b ≠ none
theorem But1.set (b : Addr) (H : AHeap) (o : AO) : But1 b H (H.set b o) := ⟨fun _ h => AHeap.set_ne _ _ h, by rw [AHeap.set_self]; exact Option.some_ne_none _⟩
theorem Ext.but {H' H0 : AHeap} {b : Addr} (x : Ext H0 H) (y : But1 b H H') (h : H0 b = none) : Ext H0 H' := fun c o hc => by
  rw [y.to]; exact x c o hc
  intro e; rw [e, h] at hc; cases hc
theorem xCopy {b : Addr} {U : Nat → Bool} (h : SetAt H N b U) (hN : N ≤ 8) (q : ∀ c H', H c = none → Ext H H' → SetAt H' N c U → V (.ref c) H') : kDict b H V := by
  obtain ⟨l, ep, h1, k, r⟩ := h
  have := k.le
  unfold kDict
  exact ⟨l, ep, h1, by omega, fun c ep hc => q c _ hc (Ext.new _ hc) ⟨l, ep, AHeap.set_self _ _ _, k, r⟩⟩
theorem xUpdate {b c : Addr} {U U' : Nat → Bool} (h : SetAt H N b U) (h' : SetAt H N c U') (hN : N ≤ 8) (ne : b ≠ c) (q : ∀ H', But1 b H H' → SetAt H' N b (fun j => U j || U' j) → V .none H') : kUpdate b c H V := by
  obtain ⟨l, ep, h1, k, r⟩ := h
  obtain ⟨l', ep', h1', k', r'⟩ := h'
  have := k.le; have := k'.le
  obtain ⟨k3, m3⟩ := updD_keys (N := N) l' l k k'.2
  unfold kUpdate
  exact ⟨l, ep, l', ep', h1, h1', ne, by omega, fun ep'' => q _ (But1.set _ _ _) ⟨_, ep'', AHeap.set_self _ _ _, k3, fun j => by rw [m3, r, r']⟩⟩
theorem hard_one {one other t : Nat} {K E i h : Nat} {ks : List Nat} (hi : ks[i]? = some t) (d : Int) (hd : d = (deg N st t : Int) - (if st.adj one t && st.adj other t then 1 else 0)) (hh : h = (ks.take i).countP (hardS N st K E one other)) (c : ((if st.cross t then K else E : Nat) : Int) ≤ d) :
    h + 1 = (ks.take (i + 1)).countP (hardS N st K E one other) := by
  rw [take_succ hi, List.countP_append, hh, List.countP_singleton, if_pos]
  rw [hd] at c; exact decide_eq_true c
theorem hard_not {one other t : Nat} {K E i h : Nat} {ks : List Nat} (hi : ks[i]? = some t) (d : Int) (hd : d = (deg N st t : Int) - (if st.adj one t && st.adj other t then 1 else 0)) (hh : h = (ks.take i).countP (hardS N st K E one other)) (c : ¬ ((if st.cross t then K else E : Nat) : Int) ≤ d) :
    h = (ks.take (i + 1)).countP (hardS N st K E one other) := by
  rw [take_succ hi, List.countP_append, hh, List.countP_singleton, if_neg (show ¬ hardS N st K E one other t = true from fun z => c (hd ▸ of_decide_eq_true z)), Nat.add_zero]
theorem call_is_safe (g : Ground C) (hn : 8 ≤ n) (hN : N ≤ 8) (G : GAt N a st H) (P : PAt p al kp H) {one other : Nat} (h1 : one < N) (h2 : other < N) (q : ∀ H', Ext H H' → V (.bool (safeB N st kp.length al.length one other)) H') :
    FCall C n X (.ref 135) [.ref a.x, .ref p.x, .int one, .int other] H V := by
  refine fcallU g (fn_is_safe g) (by omega) rfl ?_
  refine joinS (fun c : Bool => [(0, .ref a.x), (1, .ref p.x), (2, .int one), (3, .int other), (4, .bool c)]) (fun c H' => c = (st.cross one || st.cross other) ∧ H = H')
    (fun K nx => xCross G (xInCr G (brC (fun e => nx _ _ _ ⟨by rw [e]; rfl, rfl⟩ rfl) fun e => xCross G (xInCr G (nx _ _ _ ⟨by rw [e]; rfl, rfl⟩ rfl))))) ?_
  rintro c _ ⟨hc, rfl⟩
  refine joinS (fun s : Nat => [(0, .ref a.x), (1, .ref p.x), (2, .int one), (3, .int other), (5, .int s)]) (fun s H' => s = sizeS st kp.length al.length one other ∧ H = H')
    (fun K nx => brC (fun e => xKept P (xLenKept P (nx _ _ _ ⟨?_, rfl⟩ rfl))) fun e => xAll P (xLenAll P (nx _ _ _ ⟨?_, rfl⟩ rfl))) ?_
  · rw [sizeS, ← hc, if_pos e]
  · rw [sizeS, ← hc, if_neg (by rw [e]; exact Bool.false_ne_true)]
  rintro s _ ⟨hs, rfl⟩
  refine xNear G (xRow G h1 (xLenRow G hN h1 (xNear G (xRow G h2 (xLenRow G hN h2 (brD (fun e => ?_) fun e => ?_))))))
  · have := q H (.refl H)
    rw [safeB, ← hs, decide_eq_true (show deg N st one + deg N st other < s by omega), Bool.true_or] at this
    exact this
  refine xNear G (xRow G h1 (xCopy (G.rows one h1) hN fun b H1 hb x1 s1 => ?_))
  have G1 := G.ext x1
  refine xHasS rfl s1 (xNear G1 (xRow G1 h2 (xUpdate s1 (G1.rows other h2) hN ?_ fun H2 y s2 => ?_)))
  · obtain ⟨_, _, q2, _⟩ := G.rows other h2
    exact fun e => by rw [← e, hb] at q2; cases q2
  have x2 := x1.but y hb
  have G2 := G.ext x2
  have P2 := P.ext x2
  obtain ⟨ks, it, nd, hm⟩ := s2.keys
  refine for1 (fun h : Nat => [(0, .ref a.x), (1, .ref p.x), (2, .int one), (3, .int other), (5, .int s), (6, .int h)]) (fun i h H' => H2 = H' ∧ h = (ks.take i).countP (hardS N st kp.length al.length one other)) it 0 rfl ⟨rfl, rfl⟩ (fun _ _ _ j => by rw [j.1]; exact rfl) ?_ ?_
  · rintro i h _ w ⟨rfl, hh⟩ hw Q3 nx ct rt
    obtain ⟨t, ht, rfl, hmem, _⟩ := nats_at hw
    have htN := s2.lt ((hm t).mp hmem)
    refine xNear G2 (xRow G2 htN (xLenRow G2 hN htN ?_))
    refine joinS (fun d : Int => [(0, .ref a.x), (1, .ref p.x), (2, .int one), (3, .int other), (5, .int s), (6, .int h), (8, .int t), (9, .int d)]) (fun d H' => d = (deg N st t : Int) - (if st.adj one t && st.adj other t then 1 else 0) ∧ H2 = H')
      (fun K nx => xNear G2 (xRow G2 h1 (xInRow G2 h1 (brC (fun e1 => xNear G2 (xRow G2 h2 (xInRow G2 h2 (brC (fun e2 => nx _ _ _ ⟨?_, rfl⟩ rfl) fun e2 => nx _ _ _ ⟨?_, rfl⟩ rfl)))) fun e1 => nx _ _ _ ⟨?_, rfl⟩ rfl)))) ?_
    · rw [e1, e2]; rfl
    · rw [e1, e2]; exact (Int.sub_zero _).symm
    · rw [e1]; exact (Int.sub_zero _).symm
    rintro d _ ⟨hd, rfl⟩
    exact xM (P2.mOf g) (ce_Pools_of g) (call_of g (by omega) G2 P2 (xLenOf P2 (brD (fun c => nx (h + 1) _ _ ⟨rfl, hard_one ht d hd hh c⟩ rfl) fun c => nx h _ _ ⟨rfl, hard_not ht d hd hh c⟩ rfl)))
  · rintro h _ ⟨rfl, hh⟩
    have := q _ x2
    rw [nats_len, take_all, ks_cnt nd hm fun j hj => s2.lt hj] at hh
    rw [safeB, ← hs, ← hh, decide_eq_false (show ¬ deg N st one + deg N st other < s by omega), Bool.false_or] at this
    rw [show decide (h < s) = decide ((h : Int) < (s : Int)) from decide_eq_decide.mpr Int.ofNat_lt.symm] at this
    exact this
end
end Mine
end
section
open PySem PySem.W PyProof.Rows PySem.Calls
set_option maxRecDepth 100000
namespace Mine
structure GD (N : Nat) (a : GA) (tg : Addr → Nat) : Prop where
  dn : tg a.dn = 3
  dx : tg a.dx = 4
  dc : tg a.dc = 5
  da : tg a.da = 7
  row : ∀ i, i < N → tg (a.row i) = 10 + i
theorem apart {tg : Addr → Nat} {b c : Addr} {i j : Nat} (h : tg b = i) (h' : tg c = j) (ne : i ≠ j) : b ≠ c := fun e => ne (by rw [← h, ← h', e])
theorem ten {i j : Nat} (h : j < 10) : 10 + i ≠ j := by omega
theorem ten' {i j : Nat} (h : j < 10) : j ≠ 10 + i := by omega
theorem tens {i j : Nat} (h : i ≠ j) : 10 + i ≠ 10 + j := by omega
noncomputable def isDict : AO → Bool
  | .dict _ _ => true
  | _ => false
structure Fr (tg : Addr → Nat) (H H' : AHeap) : Prop where
  keep : ∀ b o, H b = some o → (100 ≤ tg b ∨ isDict o = false) → H' b = some o
  dom : ∀ b, H' b = none → H b = none
theorem Fr.refl (tg : Addr → Nat) (H : AHeap) : Fr tg H H := ⟨fun _ _ h _ => h, fun _ h => h⟩
theorem Fr.trans {tg tg' : Addr → Nat} {H H1 H2 : AHeap} (f : Fr tg H H1) (e : ∀ b o, H b = some o → tg' b = tg b) (f' : Fr tg' H1 H2) : Fr tg H H2 :=
  ⟨fun b o h k => f'.keep b o (f.keep b o h k) (by rw [e b o h]; exact k), fun b h => f.dom b (f'.dom b h)⟩
theorem Fr.ext {tg : Addr → Nat} {H H1 H2 : AHeap} (f : Fr tg H H1) (x : Ext H1 H2) : Fr tg H H2 := ⟨fun b o h k => x _ _ (f.keep b o h k), fun b h => f.dom b (x.free h)⟩
theorem But1.keep {H H' : AHeap} {b c : Addr} {l : List (Int × AV)} {ep : Nat} {o : AO} (x : But1 b H H') (hb : H b = some (.dict l ep)) (h : H c = some o) (k : isDict o = false) : H' c = some o := by
  rw [x.to c ?_]; exact h
  rintro rfl; rw [hb] at h; cases h; cases k
noncomputable def IsD (H : AHeap) (b : Addr) : Prop := ∃ l ep, H b = some (.dict l ep)
theorem Fr.but {tg : Addr → Nat} {H H1 H2 : AHeap} (f : Fr tg H H1) {b : Addr} (x : But1 b H1 H2) (hb : IsD H1 b) {m : Nat} (ht : tg b = m) (hm : m < 100) : Fr tg H H2 := by
  obtain ⟨l, ep, hb⟩ := hb
  refine ⟨fun c o h k => ?_, fun c h => f.dom c ?_⟩
  · have e := f.keep c o h k
    rw [x.to c ?_]; exact e
    rintro rfl
    rw [hb] at e; cases e
    rcases k with k | k
    · rw [ht] at k; exact absurd hm (Nat.not_lt.mpr k)
    · cases k
  · by_cases e : c = b
    · rw [e] at h; exact absurd h x.dom
    · rw [← x.to c e]; exact h
theorem ex_but {H H' : AHeap} {b c : Addr} {P : List (Int × AV) → Prop} (h : ∃ l ep, H c = some (.dict l ep) ∧ P l) (x : But1 b H H') (ne : c ≠ b) : ∃ l ep, H' c = some (.dict l ep) ∧ P l :=
  let ⟨l, ep, q, r⟩ := h; ⟨l, ep, by rw [x.to c ne]; exact q, r⟩
theorem SetAt.but {H H' : AHeap} {N : Nat} {b c : Addr} {p : Nat → Bool} (h : SetAt H N c p) (x : But1 b H H') (ne : c ≠ b) : SetAt H' N c p := ex_but (P := fun l => KeysN N l ∧ ∀ j, has l j = p j) h x ne
noncomputable def GS.row (st : GS) (i : Nat) (p : Nat → Bool) : GS := { st with adj := fun k => if k = i then p else st.adj k }
section
variable {N : Nat} {a : GA} {st : GS} {tg : Addr → Nat} {H H' : AHeap} {V : AV → AHeap → Prop} {R : AHeap → Prop} {b : Addr}
theorem GAt.isN (G : GAt N a st H) : IsD H a.dn := let ⟨_, q⟩ := G.near; ⟨_, _, q⟩
theorem GAt.isX (G : GAt N a st H) : IsD H a.dx := let ⟨_, _, q, _⟩ := G.cross; ⟨_, _, q⟩
theorem GAt.isC (G : GAt N a st H) : IsD H a.dc := let ⟨_, _, q, _⟩ := G.cost; ⟨_, _, q⟩
theorem GAt.isA (G : GAt N a st H) : IsD H a.da := let ⟨_, _, q, _⟩ := G.ali; ⟨_, _, q⟩
theorem GAt.isR (G : GAt N a st H) {i : Nat} (hi : i < N) : IsD H (a.row i) := let ⟨_, _, q, _⟩ := G.rows i hi; ⟨_, _, q⟩
theorem GAt.cps' (G : GAt N a st H) (x : But1 b H H') (hb : IsD H b) : ∃ l, H' a.lc = some (.list l) ∧ l.length ≤ 4 ∧ F2 (CpAt H' N) l st.cps :=
  let ⟨_, _, hb⟩ := hb; let ⟨l, q, r, z⟩ := G.cps; ⟨l, x.keep hb q rfl, r, z.mono fun _ _ ⟨t, w, e, k, m⟩ => ⟨t, w, e, x.keep hb k rfl, m⟩⟩
theorem GAt.x' (G : GAt N a st H) (x : But1 b H H') (hb : IsD H b) : H' a.x = some (.inst 124 a.d) := let ⟨_, _, hb⟩ := hb; x.keep hb G.x rfl
theorem GAt.d' (G : GAt N a st H) (x : But1 b H H') (hb : IsD H b) : H' a.d = some (.ns [("near", .ref a.dn), ("crosses", .ref a.dx), ("cost", .ref a.dc), ("copies", .ref a.lc), ("alias", .ref a.da)]) := let ⟨_, _, hb⟩ := hb; x.keep hb G.d rfl
theorem GAt.near' (G : GAt N a st H) (x : But1 b H H') (ne : a.dn ≠ b) : ∃ ep, H' a.dn = some (.dict ((List.range N).map fun i : Nat => ((i : Int), AV.ref (a.row i))) ep) := let ⟨ep, q⟩ := G.near; ⟨ep, by rw [x.to _ ne]; exact q⟩
theorem GAt.rows' (G : GAt N a st H) (D : GD N a tg) (x : But1 b H H') {m : Nat} (hb : tg b = m) (hm : m < 10) : ∀ i, i < N → SetAt H' N (a.row i) (st.adj i) := fun i hi => (G.rows i hi).but x (apart (D.row i hi) hb (ten hm))
theorem GAt.setRow (G : GAt N a st H) (D : GD N a tg) {i : Nat} (hi : i < N) {p : Nat → Bool} (x : But1 (a.row i) H H') (s : SetAt H' N (a.row i) p) : GAt N a (st.row i p) H' := by
  have ht := D.row i hi
  have hb := G.isR hi
  refine ⟨G.x' x hb, G.d' x hb, G.near' x (apart D.dn ht (ten' (by decide))), fun k hk => ?_, G.cross.but x (apart D.dx ht (ten' (by decide))), ex_but G.cost x (apart D.dc ht (ten' (by decide))), ex_but G.ali x (apart D.da ht (ten' (by decide))), G.cps' x hb⟩
  show SetAt H' N (a.row k) (if k = i then p else st.adj k)
  by_cases e : k = i
  · subst e; rw [if_pos rfl]; exact s
  · rw [if_neg e]; exact (G.rows k hk).but x (apart (D.row k hk) ht (tens e))
theorem xPop (G : GAt N a st H) (D : GD N a tg) (hN : N ≤ 8) {i k : Nat} (hi : i < N) (h : st.adj i k = true) (q : ∀ v H', GAt N a (st.row i fun j => !decide (j = k) && st.adj i j) H' → But1 (a.row i) H H' → V v H') : kDpop (a.row i) k H V := by
  obtain ⟨l, ep, hb, kn, hm⟩ := G.rows i hi
  have := kn.le
  rw [← hm, has] at h
  obtain ⟨v, hv⟩ := Option.isSome_iff_exists.mp h
  unfold kDpop
  exact ⟨l, ep, v, hb, by omega, hv, fun ep' => q _ _ (G.setRow D hi (But1.set _ _ _) ⟨_, ep', AHeap.set_self _ _ _, kn.del k, fun j => by rw [has_del, hm]⟩) (But1.set _ _ _)⟩
theorem xPutS {U : Nat → Bool} (h : SetAt H N b U) (hN : N ≤ 8) {k : Nat} {v : AV} (hk : k < N) (q : ∀ H', But1 b H H' → SetAt H' N b (fun j => decide (j = k) || U j) → R H') : kSetSub b k v H R := by
  obtain ⟨l, ep, hb, kn, hm⟩ := h
  have := kn.le
  exact xSetD hb (by omega) fun ep' => q _ (But1.set _ _ _) ⟨_, ep', AHeap.set_self _ _ _, kn.put hk v, fun j => by rw [has_put, hm]⟩
theorem xPutRow (G : GAt N a st H) (D : GD N a tg) (hN : N ≤ 8) {i k : Nat} {v : AV} (hi : i < N) (hk : k < N) (q : ∀ H', GAt N a (st.row i fun j => decide (j = k) || st.adj i j) H' → But1 (a.row i) H H' → R H') : kSetSub (a.row i) k v H R :=
  xPutS (G.rows i hi) hN hk fun H' x s => q H' (G.setRow D hi x s) x
theorem xPutCr (G : GAt N a st H) (D : GD N a tg) (hN : N ≤ 8) {k : Nat} {v : AV} (hk : k < N) (q : ∀ H', GAt N a { st with cross := fun j => decide (j = k) || st.cross j } H' → But1 a.dx H H' → R H') : kSetSub a.dx k v H R :=
  xPutS G.cross hN hk fun H' x s => q H' ⟨G.x' x G.isX, G.d' x G.isX, G.near' x (apart D.dn D.dx (by decide)), G.rows' D x D.dx (by decide), s, ex_but G.cost x (apart D.dc D.dx (by decide)), ex_but G.ali x (apart D.da D.dx (by decide)), G.cps' x G.isX⟩ x
theorem lookup_put_nat (l : List (Int × AV)) (k j : Nat) (v : AV) : (putD l k v).lookup (j : Int) = if j = k then some v else l.lookup (j : Int) := by
  rw [lookup_putD]; by_cases q : j = k
  · rw [if_pos q, if_pos (by omega)]
  · rw [if_neg q, if_neg (by omega)]
theorem xPutCo (G : GAt N a st H) (D : GD N a tg) (hN : N ≤ 8) {k : Nat} {v : Int} (hk : k < N) (q : ∀ H', GAt N a { st with cost := fun j => if j = k then v else st.cost j } H' → But1 a.dc H H' → R H') : kSetSub a.dc k (.int v) H R := by
  obtain ⟨l, ep, hb, kn, hm⟩ := G.cost
  have := kn.le
  refine xSetD hb (by omega) fun ep' => q _ ⟨G.x' (But1.set ..) G.isC, G.d' (But1.set ..) G.isC, G.near' (But1.set ..) (apart D.dn D.dc (by decide)), G.rows' D (But1.set ..) D.dc (by decide), G.cross.but (But1.set ..) (apart D.dx D.dc (by decide)),
    ⟨_, ep', AHeap.set_self _ _ _, kn.put hk _, fun j hj => ?_⟩, ex_but G.ali (But1.set ..) (apart D.da D.dc (by decide)), G.cps' (But1.set ..) G.isC⟩ (But1.set _ _ _)
  rw [lookup_put_nat]
  show _ = some (AV.int (if j = k then v else st.cost j))
  by_cases e : j = k
  · rw [if_pos e, if_pos e]
  · rw [if_neg e, if_neg e]; exact hm j hj
theorem xPutAl (G : GAt N a st H) (D : GD N a tg) (hN : N ≤ 8) {k v : Nat} (hk : k < N) (hv : v < N) (q : ∀ H', GAt N a { st with ali := fun j => if j = k then v else st.ali j } H' → But1 a.da H H' → R H') : kSetSub a.da k (.int v) H R := by
  obtain ⟨l, ep, hb, kn, hm⟩ := G.ali
  have := kn.le
  refine xSetD hb (by omega) fun ep' => q _ ⟨G.x' (But1.set ..) G.isA, G.d' (But1.set ..) G.isA, G.near' (But1.set ..) (apart D.dn D.da (by decide)), G.rows' D (But1.set ..) D.da (by decide), G.cross.but (But1.set ..) (apart D.dx D.da (by decide)),
    ex_but G.cost (But1.set ..) (apart D.dc D.da (by decide)), ⟨_, ep', AHeap.set_self _ _ _, kn.put hk _, fun j hj => ?_⟩, G.cps' (But1.set ..) G.isA⟩ (But1.set _ _ _)
  rw [lookup_put_nat]
  show _ = some (AV.int (if j = k then v else st.ali j : Nat)) ∧ (if j = k then v else st.ali j) < N
  by_cases e : j = k
  · rw [if_pos e, if_pos e]; exact ⟨rfl, hv⟩
  · rw [if_neg e, if_neg e]; exact hm j hj
theorem putD_rows (row : Nat → Addr) (b : Addr) {i N : Nat} (hi : i < N) : putD ((List.range N).map fun i : Nat => ((i : Int), AV.ref (row i))) i (.ref b) = (List.range N).map fun k : Nat => ((k : Int), AV.ref (if k = i then b else row k)) := by
  unfold putD
  rw [if_pos, List.map_map]
  · refine List.map_congr_left fun k _ => ?_
    show (if (k : Int) = i then ((k : Int), AV.ref b) else ((k : Int), AV.ref (row k))) = _
    by_cases q : k = i
    · rw [if_pos (by omega), if_pos q]
    · rw [if_neg (by omega), if_neg q]
  · rw [List.any_map, List.any_eq_true]
    exact ⟨i, List.mem_range.mpr hi, decide_eq_true rfl⟩
theorem GAt.nb (G : GAt N a st H) (hb : H b = none) {c : Addr} (h : IsD H c) : c ≠ b := fun e => by obtain ⟨_, _, h⟩ := h; rw [e, hb] at h; cases h
theorem xFresh (G : GAt N a st H) (D : GD N a tg) (hN : N ≤ 8) {i : Nat} (hi : i < N) {ep : Nat} (hb : H b = none)
    (q : ∀ H', GAt N { a with row := fun k => if k = i then b else a.row k } (st.row i fun _ => false) H' → GD N { a with row := fun k => if k = i then b else a.row k } (fun c => if c = b then 10 + i else tg c) → But1 a.dn (H.set b (.dict [] ep)) H' → R H') :
    kSetSub a.dn i (.ref b) (H.set b (.dict [] ep)) R := by
  have G1 := G.ext (Ext.new (.dict [] ep) hb)
  obtain ⟨ep1, h1⟩ := G1.near
  have dnb : a.dn ≠ b := G.nb hb G.isN
  refine xSetD h1 (by rw [List.length_map, List.length_range]; omega) fun ep' => q _ ⟨G1.x' (But1.set ..) G1.isN, G1.d' (But1.set ..) G1.isN, ⟨ep', ?_⟩, fun k hk => ?_, G1.cross.but (But1.set ..) (apart D.dx D.dn (by decide)), ex_but G1.cost (But1.set ..) (apart D.dc D.dn (by decide)),
    ex_but G1.ali (But1.set ..) (apart D.da D.dn (by decide)), G1.cps' (But1.set ..) G1.isN⟩ ⟨(if_neg dnb).trans D.dn, (if_neg (G.nb hb G.isX)).trans D.dx, (if_neg (G.nb hb G.isC)).trans D.dc, (if_neg (G.nb hb G.isA)).trans D.da, fun k hk => ?_⟩ (But1.set ..)
  · rw [AHeap.set_self, putD_rows a.row b hi]
  · show SetAt _ N (if k = i then b else a.row k) (if k = i then _ else _)
    by_cases e : k = i
    · rw [if_pos e, if_pos e]
      exact ⟨[], ep, by rw [AHeap.set_ne _ _ dnb.symm, AHeap.set_self], KeysN.nil N, fun j => rfl⟩
    · rw [if_neg e, if_neg e]
      exact (G1.rows k hk).but (But1.set ..) (apart (D.row k hk) D.dn (ten (by decide)))
  · show (if (if k = i then b else a.row k) = b then 10 + i else tg (if k = i then b else a.row k)) = 10 + k
    by_cases e : k = i
    · rw [if_pos e, if_pos rfl, e]
    · rw [if_neg e, if_neg (G.nb hb (G.isR hk))]; exact D.row k hk
end
end Mine
end
section
open PySem PySem.W PyProof.Rows PySem.Calls
set_option maxRecDepth 100000
namespace Mine
noncomputable def adjI (f : Nat → Nat → Bool) (A O : Nat) (T : Nat → Bool) (k j : Nat) : Bool :=
  if k = A then f A j || T j else if T k then (if j = O then false else if j = A then true else f k j) else f k j
noncomputable def mergeS (st : GS) (A O : Nat) : GS :=
  { adj := fun k j => if k = O then false else adjI st.adj A O (st.adj O) k j
    cross := fun j => if st.cross O then decide (j = A) || st.cross j else st.cross j
    cost := fun j => if j = A then st.cost A + st.cost O else st.cost j
    ali := fun j => if j = O then A else st.ali j
    cps := st.cps }
theorem GS.row_adj (st : GS) (i : Nat) (p : Nat → Bool) (k : Nat) : (st.row i p).adj k = if k = i then p else st.adj k := rfl
theorem GS.row3 (st : GS) {A t : Nat} (tA : t ≠ A) (P : Nat → Bool) : (((st.row t P).row t fun j => decide (j = A) || (st.row t P).adj t j).row A fun j => decide (j = t) || ((st.row t P).row t fun j => decide (j = A) || (st.row t P).adj t j).adj A j) =
    { st with adj := fun k j => if k = A then (decide (j = t) || st.adj A j) else if k = t then (decide (j = A) || P j) else st.adj k j } := by
  show GS.mk _ _ _ _ _ = GS.mk _ _ _ _ _
  congr 1
  funext k j
  rw [GS.row_adj, GS.row_adj, GS.row_adj, GS.row_adj, GS.row_adj, if_neg tA.symm, if_neg tA.symm, if_pos rfl]
  by_cases kA : k = A
  · rw [if_pos kA, if_pos kA]
  · rw [if_neg kA, if_neg kA]
    by_cases kt : k = t
    · rw [if_pos kt, if_pos kt]
    · rw [if_neg kt, if_neg kt, if_neg kt]
theorem nd_take {ks : List Nat} (nd : ks.Nodup) {i t : Nat} (h : ks.take (i + 1) = ks.take i ++ [t]) : t ∉ ks.take i := by
  have := nd.sublist (List.take_sublist (i + 1) ks)
  rw [h] at this
  intro hm
  exact (List.nodup_append.mp this).2.2 t hm t (List.mem_singleton.mpr rfl) rfl
theorem adjI_zero (f : Nat → Nat → Bool) (A O : Nat) {T : Nat → Bool} (h : ∀ j, T j = false) : adjI f A O T = f := by
  funext k j
  rw [adjI, h, h, Bool.or_false, if_neg Bool.false_ne_true]
  by_cases e : k = A
  · rw [if_pos e, e]
  · rw [if_neg e]
theorem adjI_succ {f : Nat → Nat → Bool} {A O t : Nat} {T T' : Nat → Bool} (ne : A ≠ O) (tA : t ≠ A) (tO : t ≠ O) (z : T t = false) (hT : ∀ j, T' j = (decide (j = t) || T j)) (k j : Nat) :
    (if k = A then (decide (j = t) || adjI f A O T A j) else if k = t then (decide (j = A) || (!decide (j = O) && adjI f A O T t j)) else adjI f A O T k j) = adjI f A O T' k j := by
  rw [adjI, adjI, adjI, adjI, hT, hT, if_pos rfl, if_neg tA, z, if_neg Bool.false_ne_true]
  by_cases kA : k = A
  · rw [if_pos kA, if_pos kA]; cases f A j <;> cases T j <;> cases decide (j = t) <;> rfl
  · rw [if_neg kA, if_neg kA, if_neg kA]
    by_cases kt : k = t
    · rw [if_pos kt, decide_eq_true kt, Bool.true_or, if_pos rfl, kt]
      by_cases jO : j = O
      · rw [if_pos jO, decide_eq_true jO, decide_eq_false fun e => ne (e.symm.trans jO)]; rfl
      · rw [if_neg jO, decide_eq_false jO]
        by_cases jA : j = A
        · rw [if_pos jA, decide_eq_true jA]; rfl
        · rw [if_neg jA, decide_eq_false jA]; rfl
    · rw [if_neg kt, decide_eq_false kt, Bool.false_or]
section
variable {C : Cfg} {n : Nat} {X : AHeap → Prop} {N : Nat} {a : GA} {st : GS} {tg : Addr → Nat} {H : AHeap} {V : AV → AHeap → Prop}
noncomputable def rowB (a : GA) (O : Nat) (b : Addr) : GA := { a with row := fun k => if k = O then b else a.row k }
theorem call_merge (g : Ground C) (hn : 4 ≤ n) (hN : N ≤ 8) (G : GAt N a st H) (D : GD N a tg) {A O : Nat} (hA : A < N) (hO : O < N) (ne : A ≠ O) (sym : ∀ i j, i < N → st.adj i j = true → st.adj j i = true) (irr : ∀ i, i < N → st.adj i i = false) (nj : st.adj A O = false)
    (q : ∀ a' tg' H', a'.x = a.x → a'.da = a.da → GAt N a' (mergeS st A O) H' → GD N a' tg' → (∀ b o, H b = some o → tg' b = tg b) → Fr tg H H' → V .none H') :
    FCall C n X (.ref 121) [.ref a.x, .int A, .int O] H V := by
  have nOA : st.adj O A = false := by
    cases e : st.adj O A
    · rfl
    · rw [sym O A hO e] at nj; cases nj
  obtain ⟨ks, it, nd, hm⟩ := (G.rows O hO).keys
  refine fcallU g (fn_Graph_merge g) (by omega) rfl (xNear G (xRow G hO ?_))
  refine forC [(0, .ref a.x), (1, .int A), (2, .int O)] (fun i H' => GAt N a { st with adj := adjI st.adj A O fun j => decide (j ∈ ks.take i) } H' ∧ H' (a.row O) = H (a.row O) ∧ Fr tg H H') it rfl ⟨?_, rfl, Fr.refl _ _⟩ (fun _ _ j => j.2.1) ?_ ?_
  · rw [adjI_zero (T := fun j => decide (j ∈ ks.take 0)) st.adj A O fun j => decide_eq_false List.not_mem_nil]; exact G
  · rintro i H1 w ⟨G1, hrow, fr⟩ hw Q3 nx rt
    obtain ⟨t, ht, rfl, hmem, htake⟩ := nats_at hw
    have hOt := (hm t).mp hmem
    have htN := (G.rows O hO).lt hOt
    have tO : t ≠ O := fun e => by rw [e, irr O hO] at hOt; cases hOt
    have tA : t ≠ A := fun e => by rw [e, nOA] at hOt; cases hOt
    have z := nd_take nd htake
    have z1 : (decide (t ∈ ks.take i)) = false := decide_eq_false z
    have hT : ∀ j, decide (j ∈ ks.take (i + 1)) = (decide (j = t) || decide (j ∈ ks.take i)) := fun j => by
      rw [htake, Bool.eq_iff_iff, Bool.or_eq_true, decide_eq_true_iff, decide_eq_true_iff, decide_eq_true_iff, List.mem_append, List.mem_singleton, Or.comm]
    have k1 : a.row O ≠ a.row t := apart (D.row O hO) (D.row t htN) (tens tO.symm)
    have m1 := D.row t htN
    refine xNear G1 (xRow G1 htN (xHasS rfl (G1.rows t htN) (xPop G1 D hN htN ?_ fun v H2 G2 x2 => xNear G2 (xRow G2 htN (xPutRow G2 D hN htN hA fun H3 G3 x3 => xNear G3 (xRow G3 hA (xPutRow G3 D hN hA htN fun H4 G4 x4 => nx _ _ ⟨?_, ?_, ?_⟩ rfl)))))))
    · show adjI st.adj A O (fun j => decide (j ∈ ks.take i)) t O = true
      rw [adjI, if_neg tA, z1, if_neg Bool.false_ne_true]; exact sym O t hO hOt
    · rw [GS.row3 _ tA] at G4
      rw [show (adjI st.adj A O fun j => decide (j ∈ ks.take (i + 1))) = _ from funext fun k => funext fun j => (adjI_succ (T := fun j => decide (j ∈ ks.take i)) (T' := fun j => decide (j ∈ ks.take (i + 1))) ne tA tO z1 hT k j).symm]
      exact G4
    · rw [x4.to _ (apart (D.row O hO) (D.row A hA) (tens ne.symm)), x3.to _ k1, x2.to _ k1, hrow]
    · exact ((fr.but x2 (G1.isR htN) m1 (by omega)).but x3 (G2.isR htN) m1 (by omega)).but x4 (G3.isR hA) (D.row A hA) (by omega)
  · rintro H1 ⟨G1, hrow, fr⟩ b ep hb
    rw [nats_len, take_all, show (fun j => decide (j ∈ ks)) = st.adj O from funext fun j => by rw [Bool.eq_iff_iff, decide_eq_true_iff, hm]] at G1
    have x1 : Ext H1 (H1.set b (.dict [] ep)) := Ext.new _ hb
    refine xNear (G1.ext x1) (xFresh G1 D hN hO hb fun H2 G2 D2 x2 => ?_)
    have G2 : GAt N (rowB a O b) _ H2 := G2
    have D2 : GD N (rowB a O b) _ := D2
    have f2 := (fr.ext x1).but x2 (G1.ext x1).isN D.dn (by decide)
    refine xCost (a := rowB a O b) G2 (xCo (a := rowB a O b) G2 hA (xCost (a := rowB a O b) G2 (xCo (a := rowB a O b) G2 hO (xCost (a := rowB a O b) G2 (xPutCo (a := rowB a O b) G2 D2 hN hA fun H3 G3 x3 => ?_)))))
    have f3 := f2.but x3 G2.isC D.dc (by decide)
    refine joinR [(0, .ref a.x), (1, .int A), (2, .int O)] (fun H4 => ∃ st4, GAt N (rowB a O b) st4 H4 ∧ Fr tg H H4 ∧ { st4 with ali := fun j => if j = O then A else st4.ali j } = mergeS st A O) (fun K nx => xCross (a := rowB a O b) G3 (xInCr (a := rowB a O b) G3 (brC (fun hc => ?_) fun hc => ?_))) ?_
    · refine xCross (a := rowB a O b) G3 (xPutCr (a := rowB a O b) G3 D2 hN hA fun H4 G4 x4 => nx _ _ ⟨_, G4, f3.but x4 G3.isX D.dx (by decide), ?_⟩ rfl)
      have hc : st.cross O = true := hc
      rw [mergeS, hc]
      show GS.mk _ _ _ _ _ = GS.mk _ _ _ _ _
      congr 1
      funext k j
      show (if k = O then fun _ => false else adjI st.adj A O (st.adj O) k) j = _
      by_cases kO : k = O
      · rw [if_pos kO, if_pos kO]
      · rw [if_neg kO, if_neg kO]
    · refine nx _ _ ⟨_, G3, f3, ?_⟩ rfl
      have hc : st.cross O = false := hc
      rw [mergeS, hc]
      show GS.mk _ _ _ _ _ = GS.mk _ _ _ _ _
      congr 1
      funext k j
      show (if k = O then fun _ => false else adjI st.adj A O (st.adj O) k) j = _
      by_cases kO : k = O
      · rw [if_pos kO, if_pos kO]
      · rw [if_neg kO, if_neg kO]
    · rintro H4 ⟨st4, G4, f4, e4⟩
      refine xAlias (a := rowB a O b) G4 (xPutAl (a := rowB a O b) G4 D2 hN hO hA fun H5 G5 x5 => ?_)
      rw [e4] at G5
      exact q (rowB a O b) _ H5 rfl rfl G5 D2 (fun c o h => if_neg (fun e => by rw [e, fr.dom b hb] at h; cases h)) (f4.but x5 G4.isA D.da (by decide))
end
end Mine
end
section
open PySem PySem.W PyProof.Rows PySem.Calls
set_option maxRecDepth 100000
namespace Mine
theorem LD.top {N : Nat} {al ldr rk : Nat → Nat} (L : LD N al ldr rk) (hal : ∀ i, i < N → al i < N) : ∀ k i, i < N → rk i ≤ k → al (ldr i) = ldr i := by
  intro k
  induction k with
  | zero =>
    intro i hi hk
    by_cases e : al i = i
    · rw [L.self i hi e, e]
    · have := (L.step i hi e).2; omega
  | succ k ih =>
    intro i hi hk
    by_cases e : al i = i
    · rw [L.self i hi e, e]
    · obtain ⟨h1, h2⟩ := L.step i hi e
      rw [← h1]; exact ih _ (hal i hi) (by omega)
noncomputable def joinL (ldr : Nat → Nat) (A O i : Nat) : Nat := if ldr i = O then A else ldr i
theorem LD.merge {N : Nat} {al ldr rk : Nat → Nat} (L : LD N al ldr rk) {A O : Nat} (hA : A < N) (ne : A ≠ O) (lA : ldr A = A) (lO : ldr O = O) (aO : al O = O) :
    LD N (fun j => if j = O then A else al j) (joinL ldr A O) (fun i => if ldr i = O then rk i + rk A + 1 else rk i) := by
  refine ⟨fun i hi => ?_, fun i hi e => ?_, fun i hi e => ?_⟩
  · unfold joinL; split
    · exact hA
    · exact L.lt i hi
  · by_cases iO : i = O
    · rw [if_pos iO] at e; omega
    · rw [if_neg iO] at e
      have := L.self i hi e
      rw [joinL, this, if_neg iO]
  · by_cases iO : i = O
    · subst iO
      rw [if_pos rfl] at e ⊢
      rw [joinL, joinL, lA, lO, if_neg ne, if_pos rfl, if_pos rfl]
      rw [if_neg ne]
      exact ⟨rfl, by omega⟩
    · rw [if_neg iO] at e ⊢
      obtain ⟨h1, h2⟩ := L.step i hi e
      rw [joinL, joinL, h1]
      refine ⟨rfl, ?_⟩
      split <;> omega
theorem cnt_lt {N : Nat} {p q : Nat → Bool} (h : ∀ i, i < N → p i = true → q i = true) {j : Nat} (hj : j < N) (pj : p j = false) (qj : q j = true) : cnt N p < cnt N q := by
  induction N with
  | zero => omega
  | succ N ih =>
    simp only [cnt, List.range_succ, List.countP_append, List.countP_cons, List.countP_nil] at ih ⊢
    by_cases e : j = N
    · subst e
      rw [pj, qj]
      have := cnt_mono (N := j) (p := p) (q := q) fun i hi => h i (by omega)
      simp only [cnt] at this
      simp; omega
    · have h1 := ih (fun i hi => h i (by omega)) (by omega)
      by_cases pN : p N = true
      · rw [pN, h N (by omega) pN]; omega
      · simp only [pN, Bool.false_eq_true, if_false]; omega
noncomputable def Stab (N : Nat) (fz : Nat → Bool) (K E : Nat) (st : GS) (ldr : Nat → Nat) (p : Nat × Nat) : Prop :=
  ldr p.1 = ldr p.2 ∨ st.adj (ldr p.1) (ldr p.2) = true ∨ fz (ldr p.1) = true ∨ fz (ldr p.2) = true ∨ safeB N st K E (ldr p.1) (ldr p.2) = false
structure WF (N : Nat) (st : GS) (ldr : Nat → Nat) : Prop where
  ld : ∃ rk, LD N st.ali ldr rk
  sym : ∀ i j, i < N → st.adj i j = true → st.adj j i = true
  irr : ∀ i, i < N → st.adj i i = false
theorem CpAt.fr {N : Nat} {v : AV} {p : Nat × Nat} {tg : Addr → Nat} {H H' : AHeap} (h : CpAt H N v p) (f : Fr tg H H') : CpAt H' N v p :=
  let ⟨t, w, e, k, m⟩ := h; ⟨t, w, e, f.keep _ _ k (.inr rfl), m⟩
theorem F2.mem_l {α β : Type} {R : α → β → Prop} {l : List α} {m : List β} (h : F2 R l m) {a : α} (ha : a ∈ l) : ∃ b, b ∈ m ∧ R a b := by
  induction h with
  | nil => cases ha
  | cons r _ ih =>
    rcases List.mem_cons.mp ha with rfl | ha
    · exact ⟨_, List.mem_cons_self .., r⟩
    · obtain ⟨b, hb, q⟩ := ih ha; exact ⟨b, List.mem_cons_of_mem _ hb, q⟩
theorem F2.mem_r {α β : Type} {R : α → β → Prop} {l : List α} {m : List β} (h : F2 R l m) {b : β} (hb : b ∈ m) : ∃ a, a ∈ l ∧ R a b := by
  induction h with
  | nil => cases hb
  | cons r _ ih =>
    rcases List.mem_cons.mp hb with rfl | hb
    · exact ⟨_, List.mem_cons_self .., r⟩
    · obtain ⟨a, ha, q⟩ := ih hb; exact ⟨a, List.mem_cons_of_mem _ ha, q⟩
theorem PAt.fr {p : PA} {al kp : List Int} {tg : Addr → Nat} {H H' : AHeap} (P : PAt p al kp H) (f : Fr tg H H') : PAt p al kp H' :=
  ⟨f.keep _ _ P.x (.inr rfl), f.keep _ _ P.d (.inr rfl), f.keep _ _ P.hal (.inr rfl), f.keep _ _ P.hkp (.inr rfl), P.la, P.lk⟩
theorem SetAt.fr {N : Nat} {b : Addr} {p : Nat → Bool} {tg : Addr → Nat} {H H' : AHeap} (s : SetAt H N b p) (f : Fr tg H H') (h : 100 ≤ tg b) : SetAt H' N b p :=
  let ⟨l, ep, q, r⟩ := s; ⟨l, ep, f.keep _ _ q (.inl h), r⟩
noncomputable def nl (N : Nat) (da : Addr) (H : AHeap) : Nat := match H da with
  | some (.dict l _) => cnt N fun i => decide (l.lookup (i : Int) = some (.int i))
  | _ => 0
theorem GAt.nl_eq {N : Nat} {a : GA} {st : GS} {H : AHeap} (G : GAt N a st H) : nl N a.da H = cnt N fun i => decide (st.ali i = i) := by
  obtain ⟨l, ep, q, _, r⟩ := G.ali
  simp only [nl, q]
  refine cnt_congr fun i hi => ?_
  rw [(r i hi).1, Bool.eq_iff_iff, decide_eq_true_iff, decide_eq_true_iff]
  constructor
  · intro h; injection h with h; injection h with h; omega
  · intro h; rw [h]
section
variable {C : Cfg} {n : Nat} {X : AHeap → Prop} {N : Nat} {a : GA} {st : GS} {tg : Addr → Nat} {p : PA} {al kp : List Int} {H : AHeap} {V : AV → AHeap → Prop}
structure CoI (N : Nat) (gx gda : Addr) (tg : Addr → Nat) (H0 : AHeap) (J : GS → (Nat → Nat) → Prop) (a1 : GA) (tg1 : Addr → Nat) (st1 : GS) (ldr1 : Nat → Nat) (H1 : AHeap) : Prop where
  J : J st1 ldr1
  G : GAt N a1 st1 H1
  D : GD N a1 tg1
  A : ∀ b o, H0 b = some o → tg1 b = tg b
  F : Fr tg H0 H1
  x : a1.x = gx
  da : a1.da = gda
inductive CoJ (N : Nat) (gx gda : Addr) (tg : Addr → Nat) (H0 : AHeap) (J : GS → (Nat → Nat) → Prop) (S : GS → (Nat → Nat) → Nat × Nat → Prop) (l : List AV) (m0 i : Nat) (ch : Bool) (H2 : AHeap) : Prop where
  | mk (a1 : GA) (tg1 : Addr → Nat) (st1 : GS) (ldr1 : Nat → Nat) (I : CoI N gx gda tg H0 J a1 tg1 st1 ldr1 H2) (le : nl N gda H2 ≤ m0) (lt : ch = true → nl N gda H2 < m0) (s : ch = false → ∀ x ∈ l.take i, ∀ c, CpAt H0 N x c → S st1 ldr1 c)
inductive CoW (N : Nat) (gx gda : Addr) (tg : Addr → Nat) (H0 : AHeap) (J : GS → (Nat → Nat) → Prop) (S : GS → (Nat → Nat) → Nat × Nat → Prop) (l : List AV) (m : Nat) (ch : Bool) (H2 : AHeap) : Prop where
  | mk (a1 : GA) (tg1 : Addr → Nat) (st1 : GS) (ldr1 : Nat → Nat) (I : CoI N gx gda tg H0 J a1 tg1 st1 ldr1 H2) (s : ch = false → ∀ x ∈ l, ∀ c, CpAt H0 N x c → S st1 ldr1 c) (e : m = 2 * nl N gda H2 + ch.toNat)
theorem xSortT {b : Addr} {l : List AV} (h : H b = some (.list l)) (hd : C.hd = false) (hlen : l.length ≤ 4) (hF : ∀ x ∈ l, ∃ t a b c, x = .ref t ∧ H t = some (.tup [.int a, .int b, .int c])) (q : ∀ l', l'.Perm l → newAt (.list l') H V) : kSorted C b H V := by
  unfold kSorted; exact ⟨l, .inl h, hd, by omega, .inr ⟨hlen, hF, q⟩⟩
theorem CpAt.same {t : Addr} {w : Int} {x y : Nat} {c : Nat × Nat} (k : H t = some (.tup [.int w, .int x, .int y])) (h : CpAt H N (.ref t) c) : c = (x, y) := by
  obtain ⟨t', w', e', k', _, _⟩ := h
  cases e'
  rw [k] at k'
  injection k' with k'; injection k' with k'
  injection k' with q1 q2; injection q2 with q2 q3; injection q3 with q3 _
  injection q2 with q2; injection q3 with q3
  exact Prod.ext (Int.ofNat_inj.mp q2).symm (Int.ofNat_inj.mp q3).symm
theorem merge_nl {st : GS} {A O : Nat} {a a4 : GA} {H H4 : AHeap} (G : GAt N a st H) (G4 : GAt N a4 (mergeS st A O) H4) (e : a4.da = a.da) (hO : O < N) (ne : A ≠ O) (aO : st.ali O = O) : nl N a.da H4 < nl N a.da H := by
  rw [← e, G4.nl_eq, e, G.nl_eq]
  refine cnt_lt (fun i hi h => decide_eq_true ?_) hO (decide_eq_false fun h => ne ((if_pos rfl).symm.trans h)) (decide_eq_true aO)
  have h : (if i = O then A else st.ali i) = i := of_decide_eq_true h
  by_cases e : i = O
  · rw [e]; exact aO
  · rwa [if_neg e] at h
theorem call_coalesce (g : Ground C) (hd : C.hd = false) (hn : 12 ≤ n) (hN : N ≤ 8) {J : GS → (Nat → Nat) → Prop} {ldr : Nat → Nat} {fz : Nat → Bool} {fa : Addr}
    (G : GAt N a st H) (D : GD N a tg) (P : PAt p al kp H) (F : SetAt H N fa fz) (tf : 100 ≤ tg fa)
    (J0 : J st ldr) (JW : ∀ st ldr, J st ldr → WF N st ldr)
    (JS : ∀ st' ldr' x y, J st' ldr' → (x, y) ∈ st.cps → x < N → y < N → ldr' x ≠ ldr' y → st'.adj (ldr' x) (ldr' y) = false → fz (ldr' x) = false → fz (ldr' y) = false → safeB N st' kp.length al.length (ldr' x) (ldr' y) = true → J (mergeS st' (ldr' x) (ldr' y)) (joinL ldr' (ldr' x) (ldr' y)))
    (q : ∀ a' tg' st' ldr' H', CoI N a.x a.da tg H J a' tg' st' ldr' H' → (∀ c ∈ st.cps, Stab N fz kp.length al.length st' ldr' c) → V .none H') :
    FCall C n X (.ref 142) [.ref a.x, .ref p.x, .ref fa] H V := by
  obtain ⟨l, hl, hlen, hF⟩ := G.cps
  have hlF : ∀ x ∈ l, ∃ t w b c, x = .ref t ∧ H t = some (.tup [.int w, .int b, .int c]) := fun x hx => by
    obtain ⟨p, _, t, w, e, k, _⟩ := hF.mem_l hx; exact ⟨t, w, p.1, p.2, e, k⟩
  refine fcallU g (fn_coalesce g) (by omega) rfl (xCopies G (xSortT hl hd hlen hlF fun l' perm => xNew fun b hb => ?_))
  have x1 := Ext.new (.list l') hb
  have w1 : (H.set b (.list l')) b = some (.list l') := AHeap.set_self _ _ _
  generalize H.set b (.list l') = H1 at x1 w1 ⊢
  have G1 := G.ext x1
  clear hl
  obtain ⟨gx, hgx⟩ : ∃ gx, a.x = gx := ⟨_, rfl⟩
  obtain ⟨gda, hgda⟩ : ∃ gda, a.da = gda := ⟨_, rfl⟩
  rw [hgx, hgda] at q
  rw [hgx]
  refine whileS (fun ch : Bool => [(0, .ref gx), (1, .ref p.x), (2, .ref fa), (3, .ref b), (4, .bool ch)]) (CoW N gx gda tg H1 J (Stab N fz kp.length al.length) l') _ true rfl
    ⟨a, tg, st, ldr, ⟨J0, G1, D, fun _ _ _ => rfl, Fr.refl _ _, hgx, hgda⟩, fun h => (nomatch h), rfl⟩ ?_
  rintro _ ch H' ⟨a1, tg1, st1, ldr1, I, stab, rfl⟩ Q3 nx Q4 en
  refine brC (fun hch => ?_) fun hch => ?_
  · subst hch
    have w2 := I.F.keep b _ w1 (.inr rfl)
    refine forT (fun ch : Bool => [(0, .ref gx), (1, .ref p.x), (2, .ref fa), (3, .ref b), (4, .bool ch)]) (CoJ N gx gda tg H1 J (Stab N fz kp.length al.length) l' (nl N gda H')) (show itemsOf H' (.ref b) = some l' by rw [itemsOf, w2]) false rfl
      ⟨a1, tg1, st1, ldr1, I, Nat.le_refl _, fun h => (nomatch h), fun _ x hx => (nomatch hx)⟩ ?_ ?_ ?_
    · rintro i ch H2 ⟨a2, tg2, st2, ldr2, I2, _⟩
      show H2 b = H' b
      rw [w2]; exact I2.F.keep b _ w1 (.inr rfl)
    · rintro i ch H2 w ⟨a2, tg2, st2, ldr2, ⟨J2, G2, D2, T2, f2, rfl, rfl⟩, m1, m2, s2⟩ hw Q3 nx ct rt
      obtain ⟨⟨dst, src⟩, hc, t, wt, e, k, hx, hy⟩ := hF.mem_l (perm.mem_iff.mp (List.mem_of_getElem? hw))
      subst e
      obtain ⟨⟨rk, L⟩, sym, irr⟩ := JW _ _ J2
      have hA := L.lt dst hx
      have hO := L.lt src hy
      have F2' := (F.ext x1).fr f2 tf
      have hal : ∀ i, i < N → st2.ali i < N := by obtain ⟨l, ep, _, _, r⟩ := G2.ali; exact fun i hi => (r i hi).2
      have aO := L.top hal _ src hy (Nat.le_refl _)
      have key : Stab N fz kp.length al.length st2 ldr2 (dst, src) → ∀ H3, Ext H2 H3 → CoJ N a2.x a2.da tg H1 J (Stab N fz kp.length al.length) l' (nl N a2.da H') (i + 1) ch H3 := by
        intro sb H3 x3
        have G3 := G2.ext x3
        have e3 : nl N a2.da H3 = nl N a2.da H2 := by rw [G3.nl_eq, G2.nl_eq]
        refine ⟨a2, tg2, st2, ldr2, ⟨J2, G3, D2, T2, f2.ext x3, rfl, rfl⟩, by rw [e3]; exact m1, fun h => by rw [e3]; exact m2 h, fun h x hx c hc => ?_⟩
        rw [take_succ hw, List.mem_append] at hx
        rcases hx with hx | hx
        · exact s2 h x hx c hc
        · rw [List.mem_singleton.mp hx] at hc
          rw [CpAt.same (x1 _ _ k) hc]; exact sb
      refine xUnp (.inl (f2.keep _ _ (x1 _ _ k) (.inr rfl))) rfl ?_
      refine xM (G2.mLeader g) (ce_Graph_leader g) (call_leader g (by omega) G2 L hx (xM (G2.mLeader g) (ce_Graph_leader g) (call_leader g (by omega) G2 L hy ?_)))
      refine brD (fun c1 => ct ch _ _ (key (.inl (Int.ofNat_inj.mp c1)) H2 (.refl _)) rfl) fun c1 => ?_
      have c1 : ldr2 dst ≠ ldr2 src := fun z => c1 (by rw [z])
      refine xNear G2 (xRow G2 hA (xInRow G2 hA (brC (fun c2 => ct ch _ _ (key (.inr (.inl c2)) H2 (.refl _)) rfl) fun c2 => ?_)))
      refine xIn F2' (brC (fun c3 => ct ch _ _ (key (.inr (.inr (.inl c3))) H2 (.refl _)) rfl) fun c3 => xIn F2' (brC (fun c4 => ct ch _ _ (key (.inr (.inr (.inr (.inl c4)))) H2 (.refl _)) rfl) fun c4 => ?_))
      refine xG (gl_is_safe g) (ce_is_safe g) (call_is_safe g (by omega) hN G2 ((P.ext x1).fr f2) hA hO fun H3 x3 => ?_)
      refine brC (fun c5 => ?_) fun c5 => nx ch _ _ (key (.inr (.inr (.inr (.inr c5)))) H3 x3) rfl
      have G3 := G2.ext x3
      refine xM (G3.mMerge g) (ce_Graph_merge g) (call_merge g (by omega) hN G3 D2 hA hO c1 sym irr c2 fun a4 tg4 H4 ex4 eda4 G4 D4 T4 f4 => nx true _ _ ?_ rfl)
      have T5 : ∀ b o, H2 b = some o → tg4 b = tg2 b := fun b o h => T4 b o (x3 b o h)
      have hT : ∀ b o, H1 b = some o → tg4 b = tg b := fun b o h => by
        cases hh : H2 b with
        | none => have := f2.dom b hh; rw [h] at this; cases this
        | some o' => rw [T5 b o' hh, T2 b o h]
      have lt := merge_nl G2 G4 eda4 hO c1 aO
      exact ⟨a4, tg4, _, _, ⟨JS _ _ _ _ J2 hc hx hy c1 c2 c3 c4 c5, G4, D4, hT, f2.trans T2 ((Fr.ext (Fr.refl tg2 H2) x3).trans (fun _ _ _ => rfl) f4), ex4, eda4⟩,
        Nat.le_trans (Nat.le_of_lt lt) m1, fun _ => Nat.lt_of_lt_of_le lt m1, fun h => (nomatch h)⟩
    · rintro ch H2 ⟨a2, tg2, st2, ldr2, I2, m1, m2, s2⟩
      rw [take_all] at s2
      refine nx _ ch _ _ ?_ ⟨a2, tg2, st2, ldr2, I2, s2, rfl⟩ rfl
      cases ch with
      | false => exact Nat.lt_succ_of_le (Nat.mul_le_mul_left 2 m1)
      | true => have := m2 rfl; show 2 * nl N gda H2 + 1 < 2 * nl N gda H' + 1; omega
  · obtain ⟨I1, I2, I3, I4, I5, I6, I7⟩ := I
    refine en _ (q a1 tg1 st1 ldr1 H' ⟨I1, I2, I3, fun b o h => I4 b o (x1 b o h), (Fr.ext (Fr.refl tg H) x1).trans (fun _ _ _ => rfl) I5, I6, I7⟩ fun c hc => ?_)
    obtain ⟨x, hx, hcp⟩ := hF.mem_r hc
    obtain ⟨t, w, e, k, m⟩ := hcp
    exact stab hch x (perm.mem_iff.mpr hx) c ⟨t, w, e, x1 _ _ k, m⟩
end
end Mine
end
section
open PySem PySem.W PyProof.Rows PySem.Calls
set_option maxRecDepth 100000
namespace Mine
theorem items_same {H H' : AHeap} {v : AV} {l : List AV} (h : itemsOf H v = some l) (x : Ext H H') : srcSame H H' v := by
  cases v with
  | ref a =>
    show H' a = H a
    cases q : H a with
    | none => rw [itemsOf, q] at h; cases h
    | some o => exact x _ _ q
  | _ => exact trivial
theorem items_list {H : AHeap} {b : Addr} {l : List AV} (h : H b = some (.list l)) : itemsOf H (.ref b) = some l := by rw [itemsOf, h]
theorem items_ext {H H' : AHeap} {v : AV} {l : List AV} (h : itemsOf H v = some l) (x : Ext H H') : itemsOf H' v = some l := by
  cases v with
  | ref a =>
    cases q : H a with
    | none => rw [itemsOf, q] at h; cases h
    | some o => rw [itemsOf, q] at h; rw [itemsOf, x _ _ q]; exact h
  | _ => cases h
theorem nats_snoc (l : List Nat) (j : Nat) : nats (l ++ [j]) = nats l ++ [.int j] := by rw [nats, List.map_append]; rfl
theorem nats_isI (l : List Nat) : (nats l).all isI = true := by
  rw [nats, List.all_map, List.all_eq_true]; intro x _; rfl
theorem nats_nil (l : List Nat) : nats l = [] ↔ l = [] := List.map_eq_nil_iff
theorem nats_inj {l m : List Nat} (h : nats l = nats m) : l = m := by
  refine (List.map_inj_right fun x y q => ?_).mp h
  injection q with q; omega
noncomputable def IntAt (H : AHeap) (N : Nat) (b : Addr) (f : Nat → Option Int) : Prop := ∃ l ep, H b = some (.dict l ep) ∧ KeysN N l ∧ ∀ j : Nat, l.lookup (j : Int) = (f j).map .int
theorem IntAt.ext {H H' : AHeap} {N : Nat} {b : Addr} {f : Nat → Option Int} (h : IntAt H N b f) (x : Ext H H') : IntAt H' N b f := by
  obtain ⟨l, ep, h1, h2⟩ := h; exact ⟨l, ep, x _ _ h1, h2⟩
theorem IntAt.lt {H : AHeap} {N : Nat} {b : Addr} {f : Nat → Option Int} (h : IntAt H N b f) {j : Nat} {v : Int} (e : f j = some v) : j < N := by
  obtain ⟨l, ep, h1, k, r⟩ := h
  have := r j
  rw [e] at this
  obtain ⟨i, hi, q⟩ := k.2 (j : Int) ((lookup_isSome_iff l _).mp (by rw [this]; rfl))
  omega
theorem lookup_in (l : List (Int × AV)) (ks : List Nat) {p : Nat → Bool} {f : Nat → AV} {i j : Nat} (hj : ks[i]? = some j) (h : ∀ k : Nat, l.lookup (k : Int) = if decide (k ∈ ks.take i) && p k then some (f k) else none) (hp : p j = true) (k : Nat) :
    (putD l (j : Int) (f j)).lookup (k : Int) = if decide (k ∈ ks.take (i + 1)) && p k then some (f k) else none := by
  rw [lookup_put_nat, h, take_succ hj]
  by_cases e : k = j
  · rw [if_pos e, e, hp, decide_eq_true (List.mem_append_right _ (List.mem_singleton.mpr rfl))]; rfl
  · rw [if_neg e]; congr 3; exact decide_eq_decide.mpr (by rw [List.mem_append, List.mem_singleton, or_iff_left e])
section
variable {C : Cfg} {n : Nat} {X : AHeap → Prop} {N : Nat} {a : GA} {st : GS} {H : AHeap} {V : AV → AHeap → Prop} {T : Bool → AHeap → Prop} {U : AHeap → Prop} {b : Addr}
theorem dcompN {W : List (Int × AV) → AHeap → Prop} {v : AV} {ρ : Ls} {ks : List Nat} {l : List AV} {k u : PE} {x : Nat} {c : PEs} (p : Nat → Bool) (f : Nat → AV) (hl : itemsOf H v = some l) (hk : l = nats ks) (hb : ks.length ≤ 1000) (hN : ∀ j ∈ ks, j < N)
    (turn : ∀ (j : Nat), j ∈ ks → ∀ (Y : AV → AV → AHeap → Prop) (No : AHeap → Prop), (p j = true → Y (.int j) (f j) H) → (p j = false → No H) →
      dTA C n (fun _ => False) c ((x, .int j) :: ρ) H fun b H2 => br b (dE C n (fun _ => False) k ((x, .int j) :: ρ) H2 fun kv H3 => dE C n (fun _ => False) u ((x, .int j) :: ρ) H3 fun uv H4 => Y kv uv H4) (No H2))
    (fin : ∀ acc, KeysN N acc → (∀ j : Nat, acc.lookup (j : Int) = if decide (j ∈ ks) && p j then some (f j) else none) → W acc H) :
    ∃ l, itemsOf H v = some l ∧ l.length ≤ 10000 ∧ ∃ I : Nat → List (Int × AV) → AHeap → Prop, I 0 [] H ∧ (∀ i acc H', I i acc H' → srcSame H H' v) ∧
      (∀ i acc H' (w : AV), I i acc H' → l[i]? = some w → dTA C n (fun _ => False) c ((x, w) :: ρ) H' fun b H2 => br b (dE C n (fun _ => False) k ((x, w) :: ρ) H2 fun kv H3 => dE C n (fun _ => False) u ((x, w) :: ρ) H3 fun uv H4 => int1 kv fun kk => I (i + 1) (putD acc kk uv) H4) (I (i + 1) acc H2)) ∧
      (∀ acc H', I l.length acc H' → W acc H') := by
  subst hk
  refine ⟨_, hl, by rw [nats_len]; omega, fun i acc H1 => H1 = H ∧ KeysN N acc ∧ ∀ j : Nat, acc.lookup (j : Int) = if decide (j ∈ ks.take i) && p j then some (f j) else none, ⟨rfl, KeysN.nil N, fun j => rfl⟩, fun i acc H' h => ?_, fun i acc H' w h hw => ?_, fun acc H' h => ?_⟩
  · rw [h.1]; cases v <;> first | exact rfl | exact True.intro
  · obtain ⟨j, hj, rfl⟩ := nats_get hw
    have hm := List.mem_of_getElem? hj
    obtain ⟨rfl, kn, hv⟩ := h
    refine turn j hm (fun kv uv H4 => int1 kv fun kk => H4 = _ ∧ KeysN N (putD acc kk uv) ∧ ∀ j : Nat, (putD acc kk uv).lookup (j : Int) = if decide (j ∈ ks.take (i + 1)) && p j then some (f j) else none) _ (fun hp => ⟨rfl, kn.put (hN j hm) _, lookup_in acc ks hj hv hp⟩) fun hp => ⟨rfl, kn, fun k => ?_⟩
    rw [hv, take_succ hj]
    by_cases e : k = j
    · rw [e, hp, Bool.and_false, Bool.and_false]
    · congr 3; exact decide_eq_decide.mpr (by rw [List.mem_append, List.mem_singleton, or_iff_left e])
  · obtain ⟨rfl, kn, hv⟩ := h
    rw [nats_len, take_all] at hv
    exact fin acc kn hv
theorem xSubI {f : Nat → Option Int} (h : IntAt H N b f) {j : Nat} {v : Int} (e : f j = some v) (q : V (.int v) H) : kSub b (j : Int) H V := let ⟨_, _, h1, _, r⟩ := h; xSubD h1 (by rw [r, e]; rfl) q
theorem xInI {f : Nat → Option Int} (h : IntAt H N b f) {j : Nat} (q : T (f j).isSome H) : kIn (j : Int) b H T := let ⟨_, _, h1, _, r⟩ := h; xInD h1 (by rw [r, Option.isSome_map]; exact q)
theorem xPutI {f : Nat → Option Int} (h : IntAt H N b f) (hN : N ≤ 8) {j : Nat} {v : Int} (hj : j < N) (q : ∀ H', But1 b H H' → IntAt H' N b (fun k => if k = j then some v else f k) → U H') : kSetSub b (j : Int) (.int v) H U := by
  obtain ⟨l, ep, h1, k, r⟩ := h
  have := k.le
  refine xSetD h1 (by omega) fun ep' => q _ (But1.set _ _ _) ⟨_, ep', AHeap.set_self _ _ _, k.put hj _, fun i => ?_⟩
  rw [lookup_put_nat]
  show _ = (if i = j then some v else f i).map AV.int
  by_cases e : i = j
  · rw [if_pos e, if_pos e]; rfl
  · rw [if_neg e, if_neg e]; exact r i
theorem xPopS {p : Nat → Bool} (h : SetAt H N b p) (hN : N ≤ 8) {j : Nat} (hj : p j = true) (q : ∀ v H', But1 b H H' → SetAt H' N b (fun k => !decide (k = j) && p k) → V v H') : kDpop b (j : Int) H V := by
  obtain ⟨l, ep, h1, k, r⟩ := h
  have := k.le
  rw [← r, has] at hj
  obtain ⟨v, hv⟩ := Option.isSome_iff_exists.mp hj
  unfold kDpop
  exact ⟨l, ep, v, h1, by omega, hv, fun ep' => q _ _ (But1.set _ _ _) ⟨_, ep', AHeap.set_self _ _ _, k.del _, fun i => by rw [has_del, r]⟩⟩
theorem IntAt.but {c : Addr} {f : Nat → Option Int} {H' : AHeap} (h : IntAt H N b f) (x : But1 c H H') (ne : b ≠ c) : IntAt H' N b f := ex_but (P := fun l => KeysN N l ∧ ∀ j : Nat, l.lookup (j : Int) = (f j).map .int) h x ne
theorem xTupLt {c : Addr} {x y : Bool} {i j : Int} (h : H b = some (.tup [.bool x, .int i])) (h' : H c = some (.tup [.bool y, .int j])) (q : T (decide ((x = false ∧ y = true) ∨ (x = y ∧ i < j))) H) : kTupLt b c H T := by
  unfold kTupLt; exact ⟨x, i, y, j, h, h', q⟩
theorem call_worth (g : Ground C) (hn : 4 ≤ n) (G : GAt N a st H) {i : Nat} {d : Int} (hi : i < N) (h0 : 0 ≤ d) (h1 : d ≤ 1000) (q : ∀ x : Int, V (.int x) H) :
    FCall C n X (.ref 149) [.ref a.x, .int d, .int i] H V :=
  fcallU g (fn_worth_of g) hn rfl (xCost G (xCo G hi (And.intro (by decide) (And.intro ⟨by omega, by omega⟩ (q _)))))
noncomputable def Best (H H' : AHeap) (ks : List Nat) (i : Nat) (s : AV × AV) : Prop := Ext H H' ∧ ((i = 0 ∧ s.1 = .none) ∨ ∃ b x y j, s = (.ref b, .int (j : Nat)) ∧ H' b = some (.tup [.bool x, .int y]) ∧ j ∈ ks)
theorem call_cheapest (g : Ground C) (hn : 8 ≤ n) (G : GAt N a st H) {fz : Nat → Bool} {fa da la : Addr} {f : Nat → Option Int} {ks : List Nat} (F : SetAt H N fa fz) (D : IntAt H N da f) (hks : itemsOf H (.ref la) = some (nats ks))
    (hd : ∀ j ∈ ks, j < N ∧ ∃ d, f j = some d ∧ 0 ≤ d ∧ d ≤ 1000) (q : ∀ j H', Ext H H' → j ∈ ks → V (.int j) H') (hne : ks ≠ []) :
    FCall C n X (.ref 156) [.ref a.x, .ref da, .ref la, .ref fa] H V := by
  refine fcallU g (fn_cheapest g) (by omega) rfl ?_
  refine for1 (fun s : AV × AV => [(0, .ref a.x), (1, .ref da), (3, .ref fa), (4, s.1), (5, s.2)]) (fun i s H' => Best H H' ks i s) hks (.none, .int (-1)) rfl ⟨.refl _, .inl ⟨rfl, rfl⟩⟩ (fun _ _ _ j => items_same hks j.1) ?_ ?_
  · rintro i ⟨s1, s2⟩ H' w ⟨x1, r4⟩ hw Q3 nx ct rt
    obtain ⟨j, hj, rfl, hmem, htake⟩ := nats_at hw
    obtain ⟨hjN, d, e, h0, h1⟩ := hd j hmem
    refine xIn (F.ext x1) (xG (gl_worth_of g) (ce_worth_of g) (xSubI (D.ext x1) e (call_worth g (by omega) (G.ext x1) hjN h0 h1 fun x => fun b hb => ?_)))
    have x3 : Ext H' (H'.set b (.tup [.bool (fz j), .int x])) := Ext.new _ hb
    have w3 : (H'.set b (.tup [.bool (fz j), .int x])) b = some (.tup [.bool (fz j), .int x]) := AHeap.set_self _ _ _
    rcases r4 with ⟨rfl, rfl⟩ | ⟨b', x', y', j', e', r5, r7⟩
    · exact nx (.ref b, .int j) _ _ ⟨x1.trans x3, .inr ⟨b, _, _, j, rfl, w3, hmem⟩⟩ rfl
    · cases e'
      exact xTupLt w3 (x3 _ _ r5) (brC (fun _ => nx (.ref b, .int j) _ _ ⟨x1.trans x3, .inr ⟨b, _, _, j, rfl, w3, hmem⟩⟩ rfl) fun _ => nx (.ref b', .int j') _ _ ⟨x1.trans x3, .inr ⟨b', _, _, j', rfl, x3 _ _ r5, r7⟩⟩ rfl)
  · rintro ⟨s1, s2⟩ H' ⟨x1, r4⟩
    rcases r4 with ⟨e, _⟩ | ⟨b', x', y', j', e', r5, r7⟩
    · rw [nats_len] at e; exact absurd (List.length_eq_zero_iff.mp e) hne
    · cases e'; exact q j' H' x1 r7
end
end Mine
end
section
open PySem PySem.W PyProof.Rows PySem.Calls
set_option maxRecDepth 100000
namespace Mine
theorem ints_get {l : List Int} {i : Nat} {w : AV} (h : (l.map AV.int)[i]? = some w) : ∃ c, l[i]? = some c ∧ w = .int c ∧ c ∈ l ∧ l.take (i + 1) = l.take i ++ [c] := by
  rw [List.getElem?_map] at h
  cases q : l[i]? with
  | none => rw [q] at h; cases h
  | some j => rw [q] at h; cases h; exact ⟨j, rfl, rfl, List.mem_of_getElem? q, take_succ q⟩
theorem ints_isI (l : List Int) : (l.map AV.int).all isI = true := by
  rw [List.all_map, List.all_eq_true]; intro x _; rfl
theorem ints_mem (l : List Int) (c : Int) : AV.int c ∈ l.map AV.int ↔ c ∈ l := by
  rw [List.mem_map]
  exact ⟨fun ⟨x, h, e⟩ => by injection e with e; rw [← e]; exact h, fun h => ⟨c, h, rfl⟩⟩
noncomputable def TkAt (H : AHeap) (b : Addr) (tk : Int → Bool) : Prop := ∃ l ep, H b = some (.dict l ep) ∧ ∀ c, (l.lookup c).isSome = tk c
section
variable {C : Cfg} {n : Nat} {X : AHeap → Prop} {N : Nat} {a : GA} {st : GS} {H : AHeap} {V : AV → AHeap → Prop} {T : Bool → AHeap → Prop} {x y : Addr}
theorem xInT {b : Addr} {tk : Int → Bool} (h : TkAt H b tk) {c : Int} (q : T (tk c) H) : kIn c b H T := let ⟨_, _, h1, r⟩ := h; xInD h1 (by rw [r]; exact q)
theorem xInL {b : Addr} {l : List Int} (h : H b = some (.list (l.map .int))) {c : Int} (q : T (decide (c ∈ l)) H) : kIn c b H T := by
  unfold kIn
  exact .inr ⟨_, h, ints_isI l, by rw [show decide (AV.int c ∈ l.map AV.int) = decide (c ∈ l) from decide_eq_decide.mpr (ints_mem l c)]; exact q⟩
theorem xEqN {l l' : List Nat} (h : H x = some (.list (nats l))) (h' : H y = some (.list (nats l'))) (k : l.length ≤ 1000) (k' : l'.length ≤ 1000) (q : T (decide (l = l')) H) : kEq x y H T := by
  unfold kEq
  exact .inl ⟨_, _, h, h', nats_isI l, nats_isI l', by rw [nats_len]; exact k, by rw [nats_len]; exact k', by rw [show decide (nats l = nats l') = decide (l = l') from decide_eq_decide.mpr ⟨nats_inj, fun e => by rw [e]⟩]; exact q⟩
theorem call_number (g : Ground C) (hn : 4 ≤ n) {wa ta la : Addr} {al wl : List Int} {tk : Int → Bool} (A : H la = some (.list (al.map .int))) (W : H wa = some (.list (wl.map .int))) (K : TkAt H ta tk)
    (q : ∀ r, (r ∈ al ∧ tk r = false) ∨ (r = -1 ∧ ∀ c ∈ al, tk c = true) → V (.int r) H) : FCall C n X (.ref 182) [.ref la, .ref ta, .ref wa] H V := by
  refine fcallU g (fn_number_for g) hn rfl ?_
  refine forC [(0, .ref la), (1, .ref ta)] (fun _ H' => H = H') (items_list W) rfl rfl (fun _ _ e => by rw [← e]; exact rfl) ?_ ?_
  · rintro i _ w rfl hw Q3 nx rt
    obtain ⟨c, hc, rfl, hmem, _⟩ := ints_get hw
    exact xInL A (brD (fun h1 => xInT K (brC (fun h2 => rt _ _ _ (q c (.inl ⟨h1, by rw [Bool.not_eq_true'] at h2; exact h2⟩))) fun _ => nx _ _ rfl rfl)) fun _ => nx _ _ rfl rfl)
  · rintro _ rfl
    refine forC [(1, .ref ta)] (fun i H' => H = H' ∧ ∀ c ∈ al.take i, tk c = true) (items_list A) rfl ⟨rfl, fun _ h => nomatch h⟩ (fun _ _ e => by rw [← e.1]; exact rfl) ?_ ?_
    · rintro i _ w ⟨rfl, r3⟩ hw Q3 nx rt
      obtain ⟨c, hc, rfl, hmem, htake⟩ := ints_get hw
      refine xInT K (brC (fun h2 => rt _ _ _ (q c (.inl ⟨hmem, by rw [Bool.not_eq_true'] at h2; exact h2⟩))) fun h2 => nx _ _ ⟨rfl, fun c' hc' => ?_⟩ rfl)
      rw [htake, List.mem_append, List.mem_singleton] at hc'
      rcases hc' with hc' | rfl
      · exact r3 c' hc'
      · rw [Bool.not_eq_false'] at h2; exact h2
    · rintro _ ⟨rfl, r3⟩
      exact q _ (.inr ⟨rfl, by rw [List.length_map, take_all] at r3; exact r3⟩)
theorem call_victim (g : Ground C) (hn : 12 ≤ n) (hN : N ≤ 8) (G : GAt N a st H) {fz : Nat → Bool} {fa : Addr} (F : SetAt H N fa fz) {r : Nat} (hr : r < N)
    (q1 : fz r = false → V (.int r) H) (q2 : fz r = true → ∀ j H', Ext H H' → st.adj r j = true → fz j = false → V (.int j) H')
    (qx : fz r = true → (∀ j, st.adj r j = true → fz j = true) → ∀ H', Ext H H' → C.hd = false ∧ X H') : FCall C n X (.ref 175) [.ref a.x, .int r, .ref fa] H V := by
  refine fcallU g (fn_victim_of g) (by omega) rfl (xIn F (brC (fun h => q1 (by rw [Bool.not_eq_true'] at h; exact h)) fun h => ?_))
  have h : fz r = true := by rw [Bool.not_eq_false'] at h; exact h
  obtain ⟨ks, it, nd, hm⟩ := (G.rows r hr).keys
  have hl := ks_len nd hm (fun j hj => (G.rows r hr).lt hj)
  have hl2 := cnt_le N (st.adj r)
  refine xNear G (xRow G hr (lcompN (fun j => !fz j) (fun j => .int j) it rfl (by omega) (fun i j _ _ Y N yes no => xIn F (brC yes no)) fun b hb => ?_))
  have x1 : Ext H (H.set b (.list (nats (ks.filter fun j => !fz j)))) := Ext.new _ hb
  have w1 : (H.set b (.list (nats (ks.filter fun j => !fz j)))) b = some (.list (nats (ks.filter fun j => !fz j))) := AHeap.set_self _ _ _
  have hsm : ∀ j, j ∈ ks.filter (fun j => !fz j) ↔ st.adj r j = true ∧ fz j = false := fun j => by rw [List.mem_filter, hm, Bool.not_eq_true']
  have hsl : (ks.filter (fun j => !fz j)).length ≤ 8 := by have := List.length_filter_le (fun j => !fz j) ks; omega
  show dSs _ _ _ _ _ (H.set b (.list (nats (ks.filter fun j => !fz j)))) _
  generalize H.set b (.list (nats (ks.filter fun j => !fz j))) = H1 at x1 w1 ⊢
  generalize ks.filter (fun j => !fz j) = sm at hsm hsl w1
  refine fun b2 hb2 => ?_
  have x2 : Ext H1 (H1.set b2 (.list [])) := Ext.new _ hb2
  refine xEqN (x2 _ _ w1) (l' := []) (AHeap.set_self _ _ _) (by omega) (by decide) (brD (fun e => ?_) fun e => ?_)
  · refine qx h (fun j hj => ?_) _ (x1.trans x2)
    cases q : fz j with
    | true => rfl
    | false => have := (hsm j).mpr ⟨hj, q⟩; rw [e] at this; cases this
  · have w2 := x2 _ _ w1
    have x3 := x1.trans x2
    show dSs _ _ _ _ _ (H1.set b2 (.list [])) _
    generalize H1.set b2 (.list []) = H2 at x2 w2 x3 ⊢
    have G2 := G.ext x3
    have hlt : ∀ j ∈ sm, j < N := fun j hj => (G.rows r hr).lt ((hsm j).mp hj).1
    refine dcompN (N := N) (fun _ => true) (fun j => .int (deg N st j)) (items_list w2) rfl (by omega) hlt (fun j hj Y No yes _ => ?_) fun acc k r3 b3 ep hb3 => ?_
    · exact xNear G2 (xRow G2 (hlt j hj) (xLenRow G2 hN (hlt j hj) (yes rfl)))
    have x4 : Ext H2 (H2.set b3 (.dict acc ep)) := Ext.new _ hb3
    refine xG (gl_cheapest g) (ce_cheapest g) (call_cheapest g (ks := sm) (f := fun j => if j ∈ sm then some (deg N st j : Int) else none) (by omega) (G2.ext x4) ((F.ext x3).ext x4) ⟨acc, ep, AHeap.set_self _ _ _, k, fun j => ?_⟩ (items_list (x4 _ _ w2)) (fun j hj => ?_) (fun j H' x5 hj => q2 h j H' ((x3.trans x4).trans x5) ((hsm j).mp hj).1 ((hsm j).mp hj).2) e)
    · rw [r3, Bool.and_true]
      show _ = (if j ∈ sm then some (deg N st j : Int) else none).map AV.int
      by_cases z : j ∈ sm
      · rw [if_pos z, if_pos (decide_eq_true z)]; rfl
      · rw [if_neg z, if_neg (fun q => z (of_decide_eq_true q))]; rfl
    · have : deg N st j ≤ N := cnt_le N (st.adj j)
      exact ⟨hlt j hj, _, if_pos hj, by omega, by omega⟩
end
end Mine
end
section
open PySem PySem.W PyProof.Rows PySem.Calls
set_option maxRecDepth 100000
namespace Mine
noncomputable def MatesAt (H : AHeap) (N : Nat) (m : Addr) (c : Nat) : Prop := ∃ l ep, H m = some (.dict l ep) ∧ KeysN N l ∧ ∀ j v, l.lookup j = some v → ∃ b ks, v = .ref b ∧ b ≠ m ∧ H b = some (.list (nats ks)) ∧ ks.length ≤ c ∧ ∀ k ∈ ks, k < N
theorem MatesAt.ext {H H' : AHeap} {N : Nat} {m : Addr} {c : Nat} (h : MatesAt H N m c) (x : Ext H H') : MatesAt H' N m c := by
  obtain ⟨l, ep, h1, k, h2⟩ := h
  exact ⟨l, ep, x _ _ h1, k, fun j v hv => by obtain ⟨b, ks, e, nb, hb, r⟩ := h2 j v hv; exact ⟨b, ks, e, nb, x _ _ hb, r⟩⟩
theorem MatesAt.mono {H : AHeap} {N : Nat} {m : Addr} {c d : Nat} (h : MatesAt H N m c) (x : c ≤ d) : MatesAt H N m d := by
  obtain ⟨l, ep, h1, k, h2⟩ := h
  exact ⟨l, ep, h1, k, fun j v hv => by obtain ⟨b, ks, e, nb, hb, r, s⟩ := h2 j v hv; exact ⟨b, ks, e, nb, hb, by omega, s⟩⟩
section
variable {C : Cfg} {n : Nat} {X : AHeap → Prop} {N : Nat} {a : GA} {st : GS} {H H0 : AHeap} {V : AV → AHeap → Prop} {U : AHeap → Prop}
theorem xGet {b : Addr} {k : Int} {d v : AV} {l : List (Int × AV)} {ep : Nat} (h : H b = some (.dict l ep)) (e : (l.lookup k).getD d = v) (q : V v H) : kGet b k d H V := by
  unfold kGet; exact ⟨l, ep, h, by rw [e]; exact q⟩
theorem xCat {x y : Addr} {l l' : List AV} (h : H x = some (.list l)) (h' : H y = some (.list l')) (hl : l.length + l'.length ≤ 1000) (q : newAt (.list (l ++ l')) H V) : kCat x y H V := by
  unfold kCat; exact ⟨l, l', h, h', hl, q⟩
theorem mate_get {m : Addr} {c : Nat} (M : MatesAt H N m c) (i : Nat) {b1 : Addr} (hb1 : H b1 = none) : ∃ l ep b ks, (H.set b1 (.list [])) m = some (.dict l ep) ∧ (l.lookup (i : Int)).getD (.ref b1) = .ref b ∧ (H.set b1 (.list [])) b = some (.list (nats ks)) ∧ ks.length ≤ c ∧ ∀ k ∈ ks, k < N := by
  obtain ⟨l, ep, h1, k, h2⟩ := M
  have x1 : Ext H (H.set b1 (.list [])) := Ext.new _ hb1
  refine ⟨l, ep, ?_⟩
  cases q : l.lookup (i : Int) with
  | none => exact ⟨b1, [], x1 _ _ h1, rfl, AHeap.set_self _ _ _, Nat.zero_le _, fun _ h => nomatch h⟩
  | some v =>
    obtain ⟨b, ks, e, nb, hb, r⟩ := h2 _ _ q
    exact ⟨b, ks, x1 _ _ h1, by rw [e]; rfl, x1 _ _ hb, r⟩
theorem mate_set {m : Addr} {c : Nat} (M : MatesAt H N m c) (hN : N ≤ 8) (x0 : Ext H0 H) (hm : H0 m = none) {i j : Nat} (hi : i < N) (hj : j < N) {ks : List Nat} (hl : ks.length ≤ c) (hks : ∀ k ∈ ks, k < N) {b3 : Addr} {H3 : AHeap} (y : Ext H H3) (hb3 : H3 b3 = none) (q : ∀ H', Ext H0 H' → MatesAt H' N m (c + 1) → U H') :
    kSetSub m i (.ref b3) (H3.set b3 (.list (nats ks ++ nats [j]))) U := by
  obtain ⟨l, ep, h1, k, h2⟩ := M
  have kl := k.le
  have x3 : Ext H3 (H3.set b3 (.list (nats ks ++ nats [j]))) := Ext.new _ hb3
  have w3 : (H3.set b3 (.list (nats ks ++ nats [j]))) b3 = some (.list (nats (ks ++ [j]))) := by rw [AHeap.set_self, nats_snoc]; rfl
  have n3 : b3 ≠ m := fun e => by have := y _ _ h1; rw [e] at hb3; rw [hb3] at this; cases this
  have z := y.trans x3
  refine xSetD (z _ _ h1) (by omega) fun ep' => q _ ((x0.trans z).set _ hm) ⟨_, ep', AHeap.set_self _ _ _, k.put hi _, fun j' v hv => ?_⟩
  rw [lookup_putD] at hv
  by_cases e' : j' = (i : Int)
  · rw [if_pos e'] at hv; cases hv
    refine ⟨b3, ks ++ [j], rfl, n3, by rw [AHeap.set_ne _ _ n3]; exact w3, by rw [List.length_append]; exact Nat.succ_le_succ hl, fun k' hk' => ?_⟩
    rcases List.mem_append.mp hk' with h | h
    · exact hks _ h
    · rw [List.mem_singleton.mp h]; exact hj
  · rw [if_neg e'] at hv
    obtain ⟨b', ks', e2, nb', hb', hl', hk'⟩ := h2 _ _ hv
    exact ⟨b', ks', e2, nb', by rw [AHeap.set_ne _ _ nb']; exact z _ _ hb', Nat.le_succ_of_le hl', hk'⟩
structure MtJ (N : Nat) (Hm : AHeap) (m : Addr) (i : Nat) (H : AHeap) : Prop where
  ex : Ext Hm H
  M : MatesAt H N m (2 * i)
theorem call_mates (g : Ground C) (hd : C.hd = false) (hn : 12 ≤ n) (hN : N ≤ 8) (G : GAt N a st H) {ldr rk : Nat → Nat} (L : LD N st.ali ldr rk) (q : ∀ m H', Ext H H' → H m = none → MatesAt H' N m 8 → V (.ref m) H') :
    FCall C n X (.ref 170) [.ref a.x] H V := by
  refine fcallU g (fn_mates_of g) (by omega) rfl fun m ep hm => ?_
  have x1 : Ext H (H.set m (.dict [] ep)) := Ext.new _ hm
  have M1 : MatesAt (H.set m (.dict [] ep)) N m 0 := ⟨[], ep, AHeap.set_self _ _ _, KeysN.nil N, fun j v hv => by cases hv⟩
  show dSs _ _ _ _ _ (H.set m (.dict [] ep)) _
  generalize H.set m (.dict [] ep) = H1 at x1 M1 ⊢
  have G1 := G.ext x1
  obtain ⟨l, hl, hlen, hF⟩ := G1.cps
  have hlF : ∀ x ∈ l, ∃ t w b c, x = .ref t ∧ H1 t = some (.tup [.int w, .int b, .int c]) := fun x hx => by
    obtain ⟨p, _, t, w, e, k, _⟩ := hF.mem_l hx; exact ⟨t, w, p.1, p.2, e, k⟩
  refine xCopies G1 (xSortT hl hd hlen hlF fun l' perm b hb => ?_)
  have x2 := Ext.new (.list l') hb
  have w2 : (H1.set b (.list l')) b = some (.list l') := AHeap.set_self _ _ _
  have M2 := M1.ext x2
  have x12 := x1.trans x2
  have hbm : b ≠ m := by obtain ⟨_, _, e, _⟩ := M1; intro z; rw [z, e] at hb; cases hb
  have hlen' := perm.length_eq
  generalize H1.set b (.list l') = H2 at x2 w2 M2 x12 ⊢
  obtain ⟨Hm, hHm⟩ : ∃ Hm : AHeap, Hm = fun c => if c = m then none else H2 c := ⟨_, rfl⟩
  have xm : Ext H Hm := fun c o h => by
    have : c ≠ m := fun e => by rw [e, hm] at h; cases h
    rw [hHm]; exact (if_neg this).trans (x12 c o h)
  have hmm : Hm m = none := by rw [hHm]; exact if_pos rfl
  have km : ∀ c o, c ≠ m → H2 c = some o → Hm c = some o := fun c o ne h => by rw [hHm]; exact (if_neg ne).trans h
  have xm2 : Ext Hm H2 := fun c o h => by
    by_cases e : c = m
    · rw [e, hmm] at h; cases h
    · rw [hHm] at h; exact (if_neg e).symm.trans h
  clear hHm
  refine forTC [(0, .ref a.x), (1, .ref m)] (MtJ N Hm m) (items_list w2) rfl ⟨xm2, M2⟩ (fun i H' h => ?_) (fun i H' w h hw Q3 nx rt => ?_) fun H' h => q m H' (xm.trans h.ex) hm (h.M.mono (by omega))
  · show H' b = H2 b; rw [w2]; exact h.ex b _ (km b _ hbm w2)
  · obtain ⟨y1, y2⟩ := h
    have hi : i < l'.length := (List.getElem?_eq_some_iff.mp hw).1
    obtain ⟨⟨dst, src⟩, hc, t, wt, e, k, hx, hy⟩ := hF.mem_l (perm.mem_iff.mp (List.mem_of_getElem? hw))
    subst e
    have htm : t ≠ m := by obtain ⟨_, _, e, _⟩ := M1; intro z; rw [z, e] at k; cases k
    have G' := G.ext (xm.trans y1)
    have hA := L.lt dst hx
    have hO := L.lt src hy
    have stay : MtJ N Hm m (i + 1) H' := ⟨y1, y2.mono (by omega)⟩
    refine xUnp (.inl (y1 _ _ (km t _ htm (x2 _ _ k)))) rfl ?_
    refine xM (G'.mLeader g) (ce_Graph_leader g) (call_leader g (by omega) G' L hx (xM (G'.mLeader g) (ce_Graph_leader g) (call_leader g (by omega) G' L hy ?_)))
    refine brC (fun _ => xNear G' (xRow G' hA (xInRow G' hA (brC (fun _ => ?_) fun _ => nx _ _ stay rfl)))) fun _ => nx _ _ stay rfl
    have h1 : ∃ l ep, H' m = some (.dict l ep) := let ⟨l, ep, h, _⟩ := y2; ⟨l, ep, h⟩
    obtain ⟨_, _, h1⟩ := h1
    refine xHasD rfl h1 fun b1 hb1 => ?_
    obtain ⟨_, _, b4, ks, v1, v2, v3, v4, v5⟩ := mate_get y2 (ldr dst) hb1
    refine xGet v1 v2 fun b2 hb2 => ?_
    have u1 := Ext.new (.list []) hb1
    have u2 := Ext.new (.list [.int (ldr src)]) hb2
    refine xCat (u2 _ _ v3) (AHeap.set_self _ _ _) (by rw [nats_len]; show _ + 1 ≤ 1000; omega) fun b3 hb3 => ?_
    refine mate_set y2 hN y1 hmm hA hO v4 v5 (u1.trans u2) hb3 fun H4 y4 M4 => ?_
    have h4 : ∃ l ep, H4 m = some (.dict l ep) := let ⟨l, ep, h, _⟩ := M4; ⟨l, ep, h⟩
    obtain ⟨_, _, h4⟩ := h4
    refine xHasD rfl h4 fun b1 hb1 => ?_
    obtain ⟨_, _, b4, ks, v1, v2, v3, v4, v5⟩ := mate_get M4 (ldr src) hb1
    refine xGet v1 v2 fun b2 hb2 => ?_
    have u1 := Ext.new (.list []) hb1
    have u2 := Ext.new (.list [.int (ldr dst)]) hb2
    refine xCat (u2 _ _ v3) (AHeap.set_self _ _ _) (by rw [nats_len]; show _ + 1 ≤ 1000; omega) fun b3 hb3 => ?_
    exact mate_set M4 hN y4 hmm hO hA v4 v5 (u1.trans u2) hb3 fun H5 y5 M5 => nx _ _ ⟨y5, M5⟩ rfl
end
end Mine
end
section
open PySem PySem.W PyProof.Rows PySem.Calls
set_option maxRecDepth 100000
namespace Mine
noncomputable def mask (H : AHeap) (L : List Addr) : AHeap := fun c => if c ∈ L then none else H c
theorem mask_none {H : AHeap} {L : List Addr} {c : Addr} (h : c ∈ L) : mask H L c = none := if_pos h
theorem mask_keep {H : AHeap} {L : List Addr} {c : Addr} (h : c ∉ L) : mask H L c = H c := if_neg h
theorem mask_ext (H : AHeap) (L : List Addr) : Ext (mask H L) H := fun c o h => by
  by_cases e : c ∈ L
  · rw [mask_none e] at h; cases h
  · rw [mask_keep e] at h; exact h
theorem ext_mask {H0 H : AHeap} {L : List Addr} (x : Ext H0 H) (h : ∀ c ∈ L, H0 c = none) : Ext H0 (mask H L) := fun c o hc => by
  rw [mask_keep]
  · exact x c o hc
  · intro e; rw [h c e] at hc; cases hc
theorem cnt_erase {N : Nat} (p : Nat → Bool) {h : Nat} (hh : h < N) : cnt N p = cnt N (fun i => p i && !decide (i = h)) + if p h then 1 else 0 := by
  induction N with
  | zero => omega
  | succ N ih =>
    simp only [cnt, List.range_succ, List.countP_append, List.countP_cons, List.countP_nil, Nat.zero_add] at ih ⊢
    by_cases e : h = N
    · subst e
      have : List.countP p (List.range h) = List.countP (fun i => p i && !decide (i = h)) (List.range h) := by
        refine List.countP_congr fun i hi => ?_
        rw [decide_eq_false (by have := List.mem_range.mp hi; omega)]; simp
      rw [this]; simp
    · rw [ih (by omega), decide_eq_false (show ¬ N = h by omega)]
      simp only [Bool.not_false, Bool.and_true]; omega
theorem cnt_pos {N : Nat} {p : Nat → Bool} {h : Nat} (hh : h < N) (ph : p h = true) : 0 < cnt N p := by
  rw [cnt_erase p hh, ph]; simp
theorem cnt_zero {N : Nat} {p : Nat → Bool} (h : cnt N p = 0) {i : Nat} (hi : i < N) : p i = false := by
  cases q : p i with
  | false => rfl
  | true => have := cnt_pos hi q; omega
noncomputable def Easy (N : Nat) (V : Nat → Bool) (adj : Nat → Nat → Bool) (rm : Nat → Nat) : Prop :=
  ∀ S : Nat → Bool, (∀ i, S i = true → V i = true ∧ i < N) → (∃ i, S i = true) → ∃ v, S v = true ∧ cnt N (fun j => adj v j && S j) < rm v
noncomputable def isL (st : GS) (i : Nat) : Bool := st.ali i == i
structure StI (N : Nat) (st : GS) (rm : Nat → Nat) (Lf : Nat → Bool) (lw s : List Nat) : Prop where
  lead : ∀ j, Lf j = true → isL st j = true ∧ j < N
  low : ∀ j ∈ lw, j < N
  full : ∀ j, Lf j = true → cnt N (fun i => st.adj j i && Lf i) < rm j → j ∈ lw
  nd : s.Nodup
  mem : ∀ j, j ∈ s ↔ (j < N ∧ isL st j = true ∧ Lf j = false)
  elow : Easy N (isL st) st.adj rm → ∀ v ∈ lw, Lf v = true → cnt N (fun i => st.adj v i && Lf i) < rm v
  eord : Easy N (isL st) st.adj rm → ∀ pre v pst, s = pre ++ v :: pst → cnt N (fun j => st.adj v j && (decide (j ∈ pst) || Lf j)) < rm v
section
variable {N : Nat} {st : GS} {rm : Nat → Nat} {Lf : Nat → Bool} {lw s : List Nat}
theorem StI.push (I : StI N st rm Lf [] s) {c : Nat} (hc : Lf c = true) : StI N st rm Lf [c] s where
  lead := I.lead
  low := fun j hj => by rw [List.mem_singleton.mp hj]; exact (I.lead c hc).2
  full := fun j h1 h2 => by have := I.full j h1 h2; cases this
  nd := I.nd
  mem := I.mem
  elow := fun E v _ _ => by
    obtain ⟨w, h1, h2⟩ := E Lf I.lead ⟨c, hc⟩
    have := I.full w h1 h2; cases this
  eord := I.eord
theorem StI.drop {h : Nat} (I : StI N st rm Lf (lw ++ [h]) s) (hf : Lf h = false) : StI N st rm Lf lw s where
  lead := I.lead
  low := fun j hj => I.low j (List.mem_append_left _ hj)
  full := fun j h1 h2 => by
    rcases List.mem_append.mp (I.full j h1 h2) with q | q
    · exact q
    · rw [List.mem_singleton.mp q, hf] at h1; cases h1
  nd := I.nd
  mem := I.mem
  elow := fun E v hv => I.elow E v (List.mem_append_left _ hv)
  eord := I.eord
theorem cnt_without {p q : Nat → Bool} {h : Nat} (hh : h < N) (qh : q h = true) : cnt N (fun i => p i && q i) = cnt N (fun i => p i && (!decide (i = h) && q i)) + if p h then 1 else 0 := by
  rw [cnt_erase (fun i => p i && q i) hh]
  simp only [qh, Bool.and_true]
  rw [cnt_congr fun i _ => (show (p i && q i && !decide (i = h)) = (p i && (!decide (i = h) && q i)) by cases p i <;> cases q i <;> simp)]
theorem StI.take {h : Nat} (I : StI N st rm Lf (lw ++ [h]) s) (hf : Lf h = true) (sym : ∀ i j, i < N → st.adj i j = true → st.adj j i = true) {ps : List Nat}
    (h1 : ∀ j ∈ ps, (!decide (j = h) && Lf j) = true ∧ cnt N (fun i => st.adj j i && (!decide (i = h) && Lf i)) < rm j)
    (h2 : ∀ j, (!decide (j = h) && Lf j) = true → st.adj h j = true → cnt N (fun i => st.adj j i && (!decide (i = h) && Lf i)) + 1 = rm j → j ∈ ps) :
    StI N st rm (fun k => !decide (k = h) && Lf k) (lw ++ ps) (s ++ [h]) := by
  have hN := (I.lead h hf).2
  have sub : ∀ j, (!decide (j = h) && Lf j) = true → Lf j = true := fun j q => by
    rw [Bool.and_eq_true] at q; exact q.2
  refine ⟨fun j q => I.lead j (sub j q), fun j hj => ?_, fun j q1 q2 => ?_, ?_, fun j => ?_, fun E v hv q => ?_, fun E pre v pst e => ?_⟩
  · rcases List.mem_append.mp hj with q | q
    · exact I.low j (List.mem_append_left _ q)
    · exact (I.lead j (sub j (h1 j q).1)).2
  · have hjN := (I.lead j (sub j q1)).2
    have jh : j ≠ h := fun e => by subst e; simp at q1
    have ce := cnt_without (N := N) (p := st.adj j) (q := Lf) hN hf
    by_cases z : cnt N (fun i => st.adj j i && Lf i) < rm j
    · rcases List.mem_append.mp (I.full j (sub j q1) z) with q | q
      · exact List.mem_append_left _ q
      · exact absurd (List.mem_singleton.mp q) jh
    · have a1 : st.adj j h = true := by
        cases w : st.adj j h with
        | true => rfl
        | false => rw [w] at ce; simp at ce; omega
      refine List.mem_append_right _ (h2 j q1 (sym j h hjN a1) ?_)
      rw [a1] at ce; simp only [if_true] at ce; omega
  · refine List.nodup_append.mpr ⟨I.nd, by simp, fun x hx y hy => ?_⟩
    rw [List.mem_singleton.mp hy]
    rintro rfl
    have := ((I.mem _).mp hx).2.2
    rw [hf] at this; cases this
  · rw [List.mem_append, List.mem_singleton, I.mem]
    by_cases e : j = h
    · subst e; simp [hf, I.lead j hf]
    · simp [e]
  · rcases List.mem_append.mp hv with z | z
    · have := I.elow E v (List.mem_append_left _ z) (sub v q)
      refine Nat.lt_of_le_of_lt (cnt_mono fun i _ r => ?_) this
      simp only [Bool.and_eq_true] at r ⊢; exact ⟨r.1, r.2.2⟩
    · exact (h1 v z).2
  · rcases List.eq_nil_or_concat pst with rfl | ⟨p', z, rfl⟩
    · have e' : s = pre ∧ h = v := by
        have := List.append_inj' e rfl
        exact ⟨this.1, by have := this.2; injection this⟩
      obtain ⟨rfl, rfl⟩ := e'
      have := I.elow E h (List.mem_append_right _ (List.mem_singleton.mpr rfl)) hf
      refine Nat.lt_of_le_of_lt (cnt_mono fun i _ r => ?_) this
      simp only [Bool.and_eq_true, List.not_mem_nil, decide_false, Bool.false_or] at r ⊢
      exact ⟨r.1, r.2.2⟩
    · rw [show pre ++ v :: p'.concat z = (pre ++ v :: p') ++ [z] by simp] at e
      have e2 := List.append_inj' e rfl
      have e3 : h = z := by have := e2.2; injection this
      subst e3
      have := I.eord E pre v p' e2.1
      refine Nat.lt_of_le_of_lt (cnt_mono fun i _ r => ?_) this
      simp only [Bool.and_eq_true, Bool.or_eq_true, decide_eq_true_eq, List.concat_eq_append, List.mem_append, List.mem_singleton] at r ⊢
      refine ⟨r.1, ?_⟩
      rcases r.2 with (q | q) | q
      · exact .inl q
      · rw [q]; exact .inr hf
      · exact .inr q.2
end
end Mine
end
section
open PySem PySem.W PyProof.Rows PySem.Calls
set_option maxRecDepth 100000
namespace Mine
theorem ifc {α : Type} {p q : Prop} [Decidable p] [Decidable q] {a b : α} (h : p ↔ q) : (if p then a else b) = if q then a else b := by
  by_cases e : p
  · rw [if_pos e, if_pos (h.mp e)]
  · rw [if_neg e, if_neg fun z => e (h.mpr z)]
noncomputable def NL (H : AHeap) (b : Addr) (l : List Nat) : Prop := H b = some (.list (nats l))
theorem NL.but {H H' : AHeap} {b c : Addr} {l : List Nat} (h : NL H b l) (x : But1 c H H') (ne : b ≠ c) : NL H' b l := (x.to _ ne).trans h
section
variable {N : Nat} {H : AHeap} {V : AV → AHeap → Prop} {T : Bool → AHeap → Prop} {K : Prop} {b : Addr} {l : List Nat} {j : Nat}
theorem xAppN (h : NL H b l) (hl : l.length ≤ 1000) (q : ∀ H', But1 b H H' → NL H' b (l ++ [j]) → V .none H') : kAppend b (.int j) H V :=
  xApp h (by rw [nats_len]; exact hl) (q _ (But1.set _ _ _) (by rw [NL, AHeap.set_self, nats_snoc]))
theorem xPopN (h : NL H b (l ++ [j])) (hl : l.length ≤ 900) (q : ∀ H', But1 b H H' → NL H' b l → V (.int j) H') : kLpop b H V := by
  unfold kLpop
  refine ⟨_, .int j, h, by rw [nats_len, List.length_append]; exact Nat.le_trans (Nat.succ_le_succ hl) (by decide), by rw [nats_snoc, List.getLast?_concat], q _ (But1.set _ _ _) ?_⟩
  rw [NL, AHeap.set_self, nats_snoc, List.dropLast_concat]
theorem xEqD {p : Nat → Bool} (h : SetAt H N b p) (hN : N ≤ 8) {e : Addr} {ep : Nat} (he : H e = some (.dict [] ep)) (q : T (decide (cnt N p = 0)) H) : kEq b e H T := by
  obtain ⟨l, ep1, q1, k, r⟩ := h
  have hl : l.length = cnt N p := SetAt.card (b := b) k r
  have := k.le
  unfold kEq
  refine .inr ⟨l, ep1, ep, q1, he, by omega, ?_⟩
  rw [show l.isEmpty = decide (cnt N p = 0) by rw [← hl]; cases l <;> rfl]
  exact q
end
structure SA where
  (d l s w : Addr)
structure SH (N : Nat) (m : SA) (Hm H : AHeap) (df : Nat → Option Int) (Lf : Nat → Bool) (s lw : List Nat) : Prop where
  ex : Ext Hm H
  D : IntAt H N m.d df
  L : SetAt H N m.l Lf
  S : NL H m.s s
  W : NL H m.w lw
  hd : Hm m.d = none
  hl : Hm m.l = none
  hs : Hm m.s = none
  hw : Hm m.w = none
  o1 : m.d ≠ m.l
  o2 : m.d ≠ m.s
  o3 : m.d ≠ m.w
  o4 : m.l ≠ m.s
  o5 : m.l ≠ m.w
  o6 : m.s ≠ m.w
section
variable {N : Nat} {m : SA} {Hm H H' : AHeap} {df : Nat → Option Int} {Lf : Nat → Bool} {s lw : List Nat} {U : AHeap → Prop} {V : AV → AHeap → Prop} {j : Nat}
theorem SH.ext (h : SH N m Hm H df Lf s lw) (x : Ext H H') : SH N m Hm H' df Lf s lw :=
  { h with ex := h.ex.trans x, D := h.D.ext x, L := h.L.ext x, S := x _ _ h.S, W := x _ _ h.W }
theorem SH.putD (h : SH N m Hm H df Lf s lw) (hN : N ≤ 8) {v : Int} (hj : j < N) (q : ∀ H', SH N m Hm H' (fun k => if k = j then some v else df k) Lf s lw → U H') : kSetSub m.d (j : Int) (.int v) H U :=
  xPutI h.D hN hj fun H' b D => q H' { h with ex := h.ex.but b h.hd, D := D, L := h.L.but b h.o1.symm, S := h.S.but b h.o2.symm, W := h.W.but b h.o3.symm }
theorem SH.putL (h : SH N m Hm H df Lf s lw) (hN : N ≤ 8) {v : AV} (hj : j < N) (q : ∀ H', SH N m Hm H' df (fun k => decide (k = j) || Lf k) s lw → U H') : kSetSub m.l (j : Int) v H U :=
  xPutS h.L hN hj fun H' b L => q H' { h with ex := h.ex.but b h.hl, D := h.D.but b h.o1, L := L, S := h.S.but b h.o4.symm, W := h.W.but b h.o5.symm }
theorem SH.popL (h : SH N m Hm H df Lf s lw) (hN : N ≤ 8) (hj : Lf j = true) (q : ∀ v H', SH N m Hm H' df (fun k => !decide (k = j) && Lf k) s lw → V v H') : kDpop m.l (j : Int) H V :=
  xPopS h.L hN hj fun v H' b L => q v H' { h with ex := h.ex.but b h.hl, D := h.D.but b h.o1, L := L, S := h.S.but b h.o4.symm, W := h.W.but b h.o5.symm }
theorem SH.appS (h : SH N m Hm H df Lf s lw) (hl : s.length ≤ 1000) (q : ∀ H', SH N m Hm H' df Lf (s ++ [j]) lw → V .none H') : kAppend m.s (.int j) H V :=
  xAppN h.S hl fun H' b S => q H' { h with ex := h.ex.but b h.hs, D := h.D.but b h.o2, L := h.L.but b h.o4, S := S, W := h.W.but b h.o6.symm }
theorem SH.appW (h : SH N m Hm H df Lf s lw) (hl : lw.length ≤ 1000) (q : ∀ H', SH N m Hm H' df Lf s (lw ++ [j]) → V .none H') : kAppend m.w (.int j) H V :=
  xAppN h.W hl fun H' b W => q H' { h with ex := h.ex.but b h.hw, D := h.D.but b h.o3, L := h.L.but b h.o5, S := h.S.but b h.o6, W := W }
theorem SH.popW (h : SH N m Hm H df Lf s (lw ++ [j])) (hl : lw.length ≤ 900) (q : ∀ H', SH N m Hm H' df Lf s lw → V (.int j) H') : kLpop m.w H V :=
  xPopN h.W hl fun H' b W => q H' { h with ex := h.ex.but b h.hw, D := h.D.but b h.o3, L := h.L.but b h.o5, S := h.S.but b h.o6, W := W }
end
structure TkI (N : Nat) (st : GS) (rm : Nat → Nat) (L : Nat → Bool) (ks : List Nat) (i : Nat) (df : Nat → Option Int) (ps : List Nat) : Prop where
  hd : ∀ j, L j = true → df j = some (((cnt N fun i => st.adj j i && L i : Nat) : Int) + (if j ∈ ks ∧ j ∉ ks.take i then 1 else 0))
  len : ps.length ≤ i
  sub : ∀ j ∈ ps, L j = true ∧ cnt N (fun i => st.adj j i && L i) < rm j
  all : ∀ j, L j = true → j ∈ ks.take i → cnt N (fun i => st.adj j i && L i) + 1 = rm j → j ∈ ps
section
variable {N : Nat} {st : GS} {rm : Nat → Nat} {L : Nat → Bool} {ks : List Nat} {i j : Nat} {df : Nat → Option Int} {ps : List Nat}
theorem mem_take_succ {k : Nat} (hj : ks[i]? = some j) (ne : k ≠ j) : k ∈ ks.take (i + 1) ↔ k ∈ ks.take i := by rw [take_succ hj, List.mem_append, List.mem_singleton, or_iff_left ne]
theorem TkI.skip (I : TkI N st rm L ks i df ps) (hj : ks[i]? = some j) (h : L j = false) : TkI N st rm L ks (i + 1) df ps := by
  have ne : ∀ k, L k = true → k ≠ j := fun k hk e => by rw [e, h] at hk; cases hk
  refine ⟨fun k hk => ?_, Nat.le_succ_of_le I.len, I.sub, fun k hk hm => I.all k hk ((mem_take_succ hj (ne k hk)).mp hm)⟩
  rw [I.hd k hk, ifc (and_congr_right fun _ => not_congr (mem_take_succ hj (ne k hk)))]
theorem TkI.at (I : TkI N st rm L ks i df ps) (nd : ks.Nodup) (hj : ks[i]? = some j) (h : L j = true) : df j = some (((cnt N fun i => st.adj j i && L i : Nat) : Int) + 1) := by
  rw [I.hd j h, if_pos ⟨List.mem_of_getElem? hj, nd_take nd (take_succ hj)⟩]
theorem TkI.put (I : TkI N st rm L ks i df ps) (hj : ks[i]? = some j) {k : Nat} (hk : L k = true) :
    (fun k => if k = j then some (((cnt N fun i => st.adj j i && L i : Nat) : Int) + 1 - 1) else df k) k = some (((cnt N fun i => st.adj k i && L i : Nat) : Int) + (if k ∈ ks ∧ k ∉ ks.take (i + 1) then 1 else 0)) := by
  show (if k = j then _ else _) = _
  by_cases e : k = j
  · rw [if_pos e, e, if_neg fun z => z.2 (by rw [take_succ hj]; exact List.mem_append_right _ (List.mem_singleton.mpr rfl)), Int.add_sub_cancel, Int.add_zero]
  · rw [if_neg e, I.hd k hk, ifc (and_congr_right fun _ => not_congr (mem_take_succ hj e))]
theorem TkI.low (I : TkI N st rm L ks i df ps) (hj : ks[i]? = some j) (h : L j = true) (hr : ((cnt N fun i => st.adj j i && L i : Nat) : Int) + 1 - 1 = (rm j : Int) - 1) :
    TkI N st rm L ks (i + 1) (fun k => if k = j then some (((cnt N fun i => st.adj j i && L i : Nat) : Int) + 1 - 1) else df k) (ps ++ [j]) := by
  refine ⟨fun k hk => I.put hj hk, by rw [List.length_append]; exact Nat.succ_le_succ I.len, fun k hk => ?_, fun k hk hm hc => ?_⟩
  · rcases List.mem_append.mp hk with z | z
    · exact I.sub k z
    · rw [List.mem_singleton.mp z]; exact ⟨h, by omega⟩
  · rw [take_succ hj] at hm
    rcases List.mem_append.mp hm with z | z
    · exact List.mem_append_left _ (I.all k hk z hc)
    · exact List.mem_append_right _ z
theorem TkI.not (I : TkI N st rm L ks i df ps) (hj : ks[i]? = some j) (hr : ¬ ((cnt N fun i => st.adj j i && L i : Nat) : Int) + 1 - 1 = (rm j : Int) - 1) :
    TkI N st rm L ks (i + 1) (fun k => if k = j then some (((cnt N fun i => st.adj j i && L i : Nat) : Int) + 1 - 1) else df k) ps := by
  refine ⟨fun k hk => I.put hj hk, Nat.le_succ_of_le I.len, I.sub, fun k hk hm hc => ?_⟩
  by_cases e : k = j
  · rw [e] at hc; exact absurd (by omega) hr
  · exact I.all k hk ((mem_take_succ hj e).mp hm) hc
end
end Mine
end
section
open PySem PySem.W PyProof.Rows PySem.Calls
set_option maxRecDepth 100000
namespace Mine
section
variable {C : Cfg} {n : Nat} {X : AHeap → Prop} {N : Nat} {a : GA} {st : GS} {H H0 : AHeap} {V : AV → AHeap → Prop} {al kp : List Int} {p : PA} {m : SA}
theorem nd_len {s : List Nat} (nd : s.Nodup) (h : ∀ j ∈ s, j < N) : s.length ≤ N := by
  rw [ks_len (p := fun j => decide (j ∈ s)) nd (fun j => (decide_eq_true_iff).symm) fun j hj => h j (of_decide_eq_true hj)]; exact cnt_le _ _
noncomputable def SA.list (m : SA) : List Addr := [m.d, m.l, m.s, m.w]
theorem SH.mask {df : Nat → Option Int} {Lf : Nat → Bool} {s lw : List Nat} (h : SH N m H0 H df Lf s lw) : SH N m (mask H m.list) H df Lf s lw :=
  { h with ex := mask_ext H m.list, hd := mask_none (.head _), hl := mask_none (.tail _ (.head _)), hs := mask_none (.tail _ (.tail _ (.head _))), hw := mask_none (.tail _ (.tail _ (.tail _ (.head _)))) }
theorem SH.none {df : Nat → Option Int} {Lf : Nat → Bool} {s lw : List Nat} (h : SH N m H0 H df Lf s lw) : ∀ c ∈ m.list, H0 c = Option.none := fun c hc => by
  rcases List.mem_cons.mp hc with rfl | hc
  · exact h.hd
  rcases List.mem_cons.mp hc with rfl | hc
  · exact h.hl
  rcases List.mem_cons.mp hc with rfl | hc
  · exact h.hs
  rw [List.mem_singleton.mp hc]; exact h.hw
theorem ne_new {b c : Addr} {o : AO} (h : H b = some o) (h' : H c = none) : b ≠ c := fun e => by rw [e, h'] at h; cases h
theorem SH.new {dA lA sA wA : Addr} {e1 e2 : Nat} (h1 : H dA = Option.none) (h2 : (H.set dA (.dict [] e1)) lA = Option.none) (h3 : ((H.set dA (.dict [] e1)).set lA (.dict [] e2)) sA = Option.none)
    (h4 : (((H.set dA (.dict [] e1)).set lA (.dict [] e2)).set sA (.list [])) wA = Option.none) : SH N ⟨dA, lA, sA, wA⟩ H ((((H.set dA (.dict [] e1)).set lA (.dict [] e2)).set sA (.list [])).set wA (.list [])) (fun _ => Option.none) (fun _ => false) [] [] := by
  have x1 := Ext.new (.dict [] e1) h1
  have x2 := Ext.new (.dict [] e2) h2
  have x3 := Ext.new (.list []) h3
  have x4 := Ext.new (.list []) h4
  have w1 : (H.set dA (.dict [] e1)) dA = some (.dict [] e1) := AHeap.set_self _ _ _
  have w2 : ((H.set dA (.dict [] e1)).set lA (.dict [] e2)) lA = some (.dict [] e2) := AHeap.set_self _ _ _
  have w3 : (((H.set dA (.dict [] e1)).set lA (.dict [] e2)).set sA (.list [])) sA = some (.list []) := AHeap.set_self _ _ _
  have u1 := x2 _ _ w1
  have u2 := x3 _ _ w2
  have v1 := x3 _ _ u1
  exact ⟨((x1.trans x2).trans x3).trans x4, ⟨[], e1, x4 _ _ v1, KeysN.nil N, fun _ => rfl⟩, ⟨[], e2, x4 _ _ u2, KeysN.nil N, fun _ => rfl⟩, x4 _ _ w3, AHeap.set_self _ _ _, h1, x1.free h2, (x1.trans x2).free h3, ((x1.trans x2).trans x3).free h4,
    ne_new w1 h2, ne_new u1 h3, ne_new v1 h4, ne_new w2 h3, ne_new u2 h4, ne_new w3 h4⟩
noncomputable def fdf (N : Nat) (st : GS) (ks : List Nat) (i : Nat) : Nat → Option Int := fun k => if k ∈ ks.take i then some (deg N st k : Int) else none
noncomputable def flf (ks : List Nat) (i : Nat) : Nat → Bool := fun k => decide (k ∈ ks.take i)
noncomputable def flw (N : Nat) (st : GS) (rm : Nat → Nat) (ks : List Nat) (i : Nat) : List Nat := (ks.take i).filter fun j => decide (deg N st j < rm j)
theorem fdf_succ {ks : List Nat} {i j : Nat} (hj : ks[i]? = some j) : (fun k => if k = j then some (deg N st j : Int) else fdf N st ks i k) = fdf N st ks (i + 1) := by
  funext k
  show (if k = j then _ else (if k ∈ ks.take i then _ else _)) = if k ∈ ks.take (i + 1) then _ else _
  by_cases e : k = j
  · rw [if_pos e, if_pos (by rw [take_succ hj, e]; exact List.mem_append_right _ (List.mem_singleton.mpr rfl)), e]
  · rw [if_neg e]; exact ifc (mem_take_succ hj e).symm
theorem flf_succ {ks : List Nat} {i j : Nat} (hj : ks[i]? = some j) : (fun k => decide (k = j) || flf ks i k) = flf ks (i + 1) := by
  funext k
  rw [flf, flf, take_succ hj, Bool.eq_iff_iff, Bool.or_eq_true, decide_eq_true_iff, decide_eq_true_iff, decide_eq_true_iff, List.mem_append, List.mem_singleton, Or.comm]
theorem flw_yes {rm : Nat → Nat} {ks : List Nat} {i j : Nat} (hj : ks[i]? = some j) (h : deg N st j < rm j) : flw N st rm ks i ++ [j] = flw N st rm ks (i + 1) := by
  rw [flw, flw, take_succ hj, List.filter_append, List.filter_cons_of_pos (p := fun j => decide (deg N st j < rm j)) (decide_eq_true h)]; rfl
theorem flw_no {rm : Nat → Nat} {ks : List Nat} {i j : Nat} (hj : ks[i]? = some j) (h : ¬ deg N st j < rm j) : flw N st rm ks i = flw N st rm ks (i + 1) := by
  rw [flw, flw, take_succ hj, List.filter_append, List.filter_cons_of_neg (p := fun j => decide (deg N st j < rm j)) (fun z => h (of_decide_eq_true z)), List.filter_nil, List.append_nil]
inductive StJ (N : Nat) (st : GS) (m : SA) (Hm : AHeap) (rm : Nat → Nat) (k : Nat) (H' : AHeap) : Prop where
  | mk (Lf : Nat → Bool) (lw s : List Nat) (df : Nat → Option Int) (sh : SH N m Hm H' df Lf s lw) (hdf : ∀ j, Lf j = true → df j = some ((cnt N fun i => st.adj j i && Lf i : Nat) : Int)) (I : StI N st rm Lf lw s) (bd : lw.length + cnt N Lf * (N + 1) ≤ 100) (e : k = cnt N Lf * (N + 2) + lw.length)
inductive StK (N : Nat) (st : GS) (m : SA) (Hm : AHeap) (rm : Nat → Nat) (df : Nat → Option Int) (Lf : Nat → Bool) (lw s : List Nat) (H' : AHeap) : Prop where
  | mk (lw1 : List Nat) (sh : SH N m Hm H' df Lf s lw1) (I : StI N st rm Lf lw1 s) (ne : lw1 ≠ []) (o : lw1 = lw ∨ (lw = [] ∧ ∃ c, lw1 = [c] ∧ Lf c = true))
inductive StT (N : Nat) (st : GS) (m : SA) (Hm : AHeap) (rm : Nat → Nat) (Lf : Nat → Bool) (l0 s ks : List Nat) (i : Nat) (H' : AHeap) : Prop where
  | mk (df : Nat → Option Int) (ps : List Nat) (sh : SH N m Hm H' df Lf s (l0 ++ ps)) (T : TkI N st rm Lf ks i df ps)
theorem stJ_first {Hm : AHeap} {rm : Nat → Nat} {ks : List Nat} (hN : N ≤ 8) (nd : ks.Nodup) (hmem : ∀ j, j ∈ ks ↔ j < N ∧ isL st j = true) (cl : ∀ i j, i < N → st.adj i j = true → isL st j = true)
    (sh : SH N m Hm H (fdf N st ks ks.length) (flf ks ks.length) [] (flw N st rm ks ks.length)) : StJ N st m Hm rm (cnt N (flf ks ks.length) * (N + 2) + (flw N st rm ks ks.length).length) H := by
  have hdg : ∀ j, j < N → deg N st j = cnt N (fun i => st.adj j i && flf ks ks.length i) := fun j hj => by
    refine cnt_congr fun i hi => ?_
    rw [flf, take_all]
    cases z : st.adj j i with
    | false => rfl
    | true => exact (decide_eq_true ((hmem i).mpr ⟨hi, cl j i hj z⟩)).symm
  have hf : ∀ j, flf ks ks.length j = true → j < N ∧ isL st j = true := fun j hj => by
    rw [flf, take_all] at hj; exact (hmem j).mp (of_decide_eq_true hj)
  refine ⟨_, _, [], _, sh, fun j hj => ?_, ⟨fun j hj => (hf j hj).symm, fun j hj => ?_, fun j hj hd => ?_, List.nodup_nil, fun j => ?_, fun E v hv _ => ?_, fun E pre v pst e => ?_⟩, ?_, rfl⟩
  · rw [← hdg j (hf j hj).1]; exact if_pos (of_decide_eq_true hj)
  · rw [flw, take_all] at hj; exact ((hmem j).mp (List.mem_filter.mp hj).1).1
  · exact List.mem_filter.mpr ⟨of_decide_eq_true hj, decide_eq_true (by rw [hdg j (hf j hj).1]; exact hd)⟩
  · refine ⟨fun h => (nomatch h), fun ⟨h1, h2, h3⟩ => ?_⟩
    rw [flf, take_all, decide_eq_true ((hmem j).mpr ⟨h1, h2⟩)] at h3; cases h3
  · have h1 := List.mem_filter.mp hv
    rw [take_all] at h1
    rw [← hdg v ((hmem v).mp h1.1).1]; exact of_decide_eq_true h1.2
  · cases pre <;> cases e
  · have h1 : (flw N st rm ks ks.length).length ≤ 8 := by
      rw [flw, take_all]
      exact Nat.le_trans (List.length_filter_le ..) (Nat.le_trans (nd_len nd fun j hj => ((hmem j).mp hj).1) hN)
    have := Nat.mul_le_mul (Nat.le_trans (cnt_le N (flf ks ks.length)) hN) (show N + 1 ≤ 9 by omega)
    omega
noncomputable def stR (gx px fa : Addr) (m : SA) : Ls := [(0, .ref gx), (1, .ref px), (2, .ref fa), (3, .ref m.d), (4, .ref m.l), (5, .ref m.s), (6, .ref m.w)]
theorem stJ_pick {Hm H' : AHeap} {rm : Nat → Nat} {Lf : Nat → Bool} {lw lw1 s : List Nat} (or1 : lw1 = lw ∨ (lw = [] ∧ ∃ c, lw1 = [c] ∧ Lf c = true)) (ne : lw1 ≠ []) : ∃ l0 h, lw1 = l0 ++ [h] ∧ l0.length ≤ lw.length ∧ (l0.length + 1 = lw.length ∨ l0.length = 0 ∧ Lf h = true) := by
  refine ⟨lw1.dropLast, lw1.getLast ne, (List.dropLast_concat_getLast ne).symm, ?_⟩
  rcases or1 with rfl | ⟨_, c, rfl, hc⟩
  · have := List.length_pos_iff.mpr ne
    rw [List.length_dropLast]
    exact ⟨by omega, .inl (by omega)⟩
  · exact ⟨Nat.zero_le _, .inr ⟨rfl, hc⟩⟩
theorem call_stacked (g : Ground C) (hn : 16 ≤ n) (hN : N ≤ 8) (G : GAt N a st H) (P : PAt p al kp H) {ldr : Nat → Nat} (W : WF N st ldr) {fz : Nat → Bool} {fa : Addr} (F : SetAt H N fa fz) (cl : ∀ i j, i < N → st.adj i j = true → isL st j = true)
    (q : ∀ b s H', Ext H H' → NL H' b s → H b = none → s.Nodup → (∀ j, j ∈ s ↔ j < N ∧ isL st j = true) →
      (Easy N (isL st) st.adj (room st kp.length al.length) → ∀ pre v pst, s = pre ++ v :: pst → cnt N (fun j => st.adj v j && decide (j ∈ pst)) < room st kp.length al.length v) → V (.ref b) H') :
    FCall C n X (.ref 163) [.ref a.x, .ref p.x, .ref fa] H V := by
  refine fcallU g (fn_stacked g) (by omega) rfl fun dA ep1 h1 lA ep2 h2 sA h3 wA h4 => ?_
  have sh := SH.new (N := N) h1 h2 h3 h4
  show dSs _ _ _ _ _ ((((H.set dA (.dict [] ep1)).set lA (.dict [] ep2)).set sA (.list [])).set wA (.list [])) _
  generalize (((H.set dA (.dict [] ep1)).set lA (.dict [] ep2)).set sA (.list [])).set wA (.list []) = H4 at sh ⊢
  have G4 := G.ext sh.ex
  refine xM (G4.mLeaders g) (ce_Graph_leaders g) (call_leaders g (by omega) hN G4 fun bl H5 x5 hbl h5 => ?_)
  generalize hm : (⟨dA, lA, sA, wA⟩ : SA) = m at sh
  obtain ⟨ks, hks⟩ : ∃ ks, (List.range N).filter (fun i => st.ali i == i) = ks := ⟨_, rfl⟩
  have nd : ks.Nodup := by rw [← hks]; exact List.Pairwise.filter _ List.nodup_range
  have hmem : ∀ j, j ∈ ks ↔ j < N ∧ isL st j = true := fun j => by rw [← hks, List.mem_filter, List.mem_range]; rfl
  have kl : ks.length ≤ N := nd_len nd fun j hj => ((hmem j).mp hj).1
  have h5 : H5 bl = some (.list (nats ks)) := by rw [← hks]; exact h5
  have f4 := sh.none
  have sh5 := (sh.ext x5).mask
  have xm := ext_mask (sh.ext x5).ex f4
  have nl : bl ∉ m.list := fun hc => by
    rcases List.mem_cons.mp hc with rfl | hc
    · obtain ⟨_, _, z, _⟩ := sh.D; rw [z] at hbl; cases hbl
    rcases List.mem_cons.mp hc with rfl | hc
    · obtain ⟨_, _, z, _⟩ := sh.L; rw [z] at hbl; cases hbl
    rcases List.mem_cons.mp hc with rfl | hc
    · rw [show H4 m.s = _ from sh.S] at hbl; cases hbl
    rw [List.mem_singleton.mp hc, show H4 m.w = _ from sh.W] at hbl; cases hbl
  have h5m : mask H5 m.list bl = some (.list (nats ks)) := (mask_keep nl).trans h5
  generalize mask H5 m.list = Hm at xm sh5 h5m
  have Gm := G.ext xm
  have Pm := P.ext xm
  have Fm := F.ext xm
  have rm := room st kp.length al.length
  refine forC (stR a.x p.x fa m) (fun i H' => SH N m Hm H' (fdf N st ks i) (flf ks i) [] (flw N st (room st kp.length al.length) ks i)) (items_list h5) (by rw [← hm]; rfl) sh5 (fun i H' j => ?_) ?_ ?_
  · show H' bl = H5 bl
    rw [j.ex _ _ h5m, h5]
  · rintro i H' w sh hw Q3 nx rt
    obtain ⟨j, hj, rfl, hjm, htake⟩ := nats_at hw
    obtain ⟨hjN, hjL⟩ := (hmem j).mp hjm
    have G' := Gm.ext sh.ex
    refine xNear G' (xRow G' hjN (xLenRow G' hN hjN (sh.putD hN hjN fun H6 s6 => s6.putL hN hjN fun H7 s7 => ?_)))
    rw [fdf_succ hj, flf_succ hj] at s7
    have P7 := Pm.ext s7.ex
    refine xSubI s7.D (v := deg N st j) (if_pos (by rw [htake]; exact List.mem_append_right _ (List.mem_singleton.mpr rfl))) (xM (P7.mOf g) (ce_Pools_of g) (call_of g (by omega) (Gm.ext s7.ex) P7 (xLenOf P7 (brD (fun hr => ?_) fun hr => ?_))))
    · refine xHasL rfl s7.W (s7.appW (Nat.le_trans (List.length_filter_le ..) (by have := List.length_take_le' i ks; omega)) fun H8 s8 => nx _ _ ?_ rfl)
      rw [flw_yes hj (Int.ofNat_lt.mp hr)] at s8; exact s8
    · refine nx _ _ ?_ rfl
      rw [flw_no hj fun z => hr (Int.ofNat_lt.mpr z)] at s7; exact s7
  · rintro H' sh
    rw [nats_len] at sh
    refine whileC (stR a.x p.x fa m) (StJ N st m Hm (room st kp.length al.length)) _ rfl (stJ_first hN nd hmem cl sh) ?_
    rintro _ H' ⟨Lf, lw, s, df, sh, hdf, I, bd, rfl⟩ Q3 nx ct Q4 en e ep he
    have s6 := sh.ext (Ext.new (.dict [] ep) he)
    refine xEqD s6.L hN (AHeap.set_self _ _ _) (brN (fun c0 => ?_) fun c0 => ?_)
    · show dSs _ _ _ _ _ (H'.set e (.dict [] ep)) _
      generalize H'.set e (.dict [] ep) = H6 at s6
      have hlw : lw.length ≤ 100 := by omega
      refine joinR (stR a.x p.x fa m) (StK N st m Hm (room st kp.length al.length) df Lf lw s) (fun K mt e he => ?_) ?_
      · have s7 := s6.ext (Ext.new (.list []) he)
        refine xEqN s7.W (l' := []) (AHeap.set_self _ _ _) (by omega) (by decide) (brD (fun hlw => ?_) fun hlw => mt _ _ ⟨lw, s7, I, hlw, .inl rfl⟩ rfl)
        obtain ⟨ks2, it2, nd2, hm2⟩ := s7.L.keys
        refine xHasL rfl s7.W (xG (gl_cheapest g) (ce_cheapest g) (call_cheapest g (by omega) (Gm.ext s7.ex) (Fm.ext s7.ex) s7.D it2 (fun j hj => ?_) (fun c H8 y8 hc => ?_) ?_))
        · have z := (hm2 j).mp hj
          refine ⟨(I.lead j z).2, _, hdf j z, by omega, ?_⟩
          have := cnt_le N (fun i => st.adj j i && Lf i); omega
        · refine (s7.ext y8).appW (by omega) fun H9 s9 => mt _ _ ⟨_, s9, ?_, by rw [hlw]; exact List.cons_ne_nil _ _, .inr ⟨hlw, c, by rw [hlw]; rfl, (hm2 c).mp hc⟩⟩ rfl
          rw [hlw] at I ⊢
          exact I.push ((hm2 c).mp hc)
        · intro e0
          refine c0 ?_
          rw [cnt_congr (q := fun _ => false) fun i _ => ?_]
          · exact List.countP_eq_zero.mpr fun _ _ => Bool.false_ne_true
          · cases z : Lf i with
            | false => rfl
            | true => have := (hm2 i).mpr z; rw [e0] at this; cases this
      · rintro H7 ⟨lw1, s7, I7, ne, or1⟩
        obtain ⟨l0, h, rfl, hl0, hl1⟩ := stJ_pick (Hm := Hm) (H' := H') (rm := room st kp.length al.length) (s := s) or1 ne
        refine xHasL rfl s7.W (s7.popW (by omega) fun H8 s8 => xIn s8.L (brC (fun hL => ?_) fun hL => ?_))
        · rw [Bool.not_eq_true'] at hL
          have hl2 : l0.length + 1 = lw.length := hl1.resolve_right fun z => by rw [z.2] at hL; cases hL
          exact ct _ _ _ (by omega) ⟨Lf, l0, s, df, s8, hdf, I7.drop hL, by omega, rfl⟩ rfl
        · rw [Bool.not_eq_false'] at hL
          have hhN := (I7.lead h hL).2
          refine xHasD rfl s8.L.choose_spec.choose_spec.1 (s8.popL hN hL fun v H9 s9 => xHasL rfl s9.S (s9.appS (by have := nd_len I.nd (fun j hj => ((I.mem j).mp hj).1); omega) fun H10 s10 => ?_))
          obtain ⟨ks, it, nd, hm⟩ := (Gm.rows h hhN).keys
          have klen : ks.length ≤ N := nd_len nd fun j hj => (Gm.rows h hhN).lt ((hm j).mp hj)
          have cw := fun p => cnt_without (N := N) (p := p) (q := Lf) hhN hL
          have c1 := cw fun _ => true
          have c1 : cnt N Lf = cnt N (fun k => !decide (k = h) && Lf k) + 1 := c1
          have G10 := Gm.ext s10.ex
          refine xNear G10 (xRow G10 hhN ?_)
          refine forC (stR a.x p.x fa m) (StT N st m Hm (room st kp.length al.length) (fun k => !decide (k = h) && Lf k) l0 (s ++ [h]) ks) (items_ext it s10.ex) rfl
            ⟨df, [], by rw [List.append_nil]; exact s10, ⟨fun j hj => ?_, Nat.le_refl _, fun _ z => (nomatch z), fun _ _ z => (nomatch z)⟩⟩ ?_ ?_ ?_
          · have hj : Lf j = true := (Bool.and_eq_true_iff.mp hj).2
            rw [hdf j hj, cw (st.adj j)]
            by_cases z : st.adj j h = true
            · rw [if_pos z, if_pos ⟨(hm j).mpr (W.sym j h (I.lead j hj).2 z), fun z => nomatch z⟩]; rfl
            · rw [if_neg z, if_neg fun y => z (W.sym h j hhN ((hm j).mp y.1))]; rfl
          · rintro i H2 ⟨df', ps, s2, _⟩
            obtain ⟨_, _, z, _⟩ := Gm.rows h hhN
            show H2 (a.row h) = H10 (a.row h)
            rw [s2.ex _ _ z, s10.ex _ _ z]
          · rintro i H2 w ⟨df', ps, s2, T⟩ hw Q5 nx rt
            obtain ⟨j, hj, rfl, hmem, htake⟩ := nats_at hw
            have hjN := (Gm.rows h hhN).lt ((hm j).mp hmem)
            have hil : i < ks.length := (List.getElem?_eq_some_iff.mp hj).1
            have hps := T.len
            refine xIn s2.L (brC (fun hLj => ?_) fun hLj => nx _ _ ⟨df', ps, s2, T.skip hj hLj⟩ rfl)
            refine xSubI s2.D (T.at nd hj hLj) (s2.putD hN hjN fun H3 s3 => xSubI s3.D (if_pos rfl) ?_)
            have P3 := Pm.ext s3.ex
            refine xM (P3.mOf g) (ce_Pools_of g) (call_of g (by omega) (Gm.ext s3.ex) P3 (xLenOf P3 (brD (fun hr => ?_) fun hr => nx _ _ ⟨_, ps, s3, T.not hj hr⟩ rfl)))
            refine xHasL rfl s3.W (s3.appW (by rw [List.length_append]; omega) fun H4 s4 => nx _ _ ⟨_, ps ++ [j], by rw [← List.append_assoc]; exact s4, T.low hj hLj hr⟩ rfl)
          · rintro H2 ⟨df', ps, s2, T⟩
            rw [nats_len] at T
            have hps := T.len
            have T4 := T.all
            rw [take_all] at T4
            rw [c1, Nat.succ_mul] at bd
            refine nx _ _ _ ?_ ⟨_, l0 ++ ps, s ++ [h], df', s2, fun j hj => ?_, I7.take hL W.sym T.sub fun j z1 z2 z3 => T4 j z1 ((hm j).mpr z2) z3, ?_, rfl⟩ rfl
            · rw [c1, List.length_append, Nat.succ_mul]; omega
            · rw [T.hd j hj, if_neg fun z => z.2 (by rw [take_all]; exact z.1), Int.add_zero]
            · rw [List.length_append]; omega
    · have hLf : ∀ j, Lf j = false := fun j => by
        cases z : Lf j with
        | false => rfl
        | true => have := cnt_pos (I.lead j z).2 z; omega
      refine en _ (q m.s s _ (xm.trans s6.ex) s6.S (f4 _ (.tail _ (.tail _ (.head _)))) I.nd (fun j => by rw [I.mem, hLf, eq_self, and_true]) fun E pre v pst e => ?_)
      refine Nat.lt_of_le_of_lt (cnt_mono fun i _ r => ?_) (I.eord E pre v pst e)
      rw [Bool.and_eq_true] at r ⊢
      exact ⟨r.1, by rw [r.2]; rfl⟩
end
end Mine
end
section
open PySem PySem.W PyProof.Rows PySem.Calls
set_option maxRecDepth 100000
namespace Mine
theorem pigeon {N : Nat} {l : List Int} {col : Nat → Option Int} (nd : l.Nodup) : ∀ {p : Nat → Bool}, (∀ c ∈ l, ∃ j, j < N ∧ p j = true ∧ col j = some c) → l.length ≤ cnt N p := by
  induction l with
  | nil => intro p _; exact Nat.zero_le _
  | cons c l ih =>
    intro p h
    obtain ⟨j, hj, pj, cj⟩ := h c (List.mem_cons_self ..)
    rw [cnt_erase p hj, pj]
    rw [List.nodup_cons] at nd
    have := ih nd.2 (p := fun i => p i && !decide (i = j)) fun c' hc' => by
      obtain ⟨j', hj', pj', cj'⟩ := h c' (List.mem_cons_of_mem _ hc')
      refine ⟨j', hj', ?_, cj'⟩
      have : j' ≠ j := fun e => by rw [e, cj] at cj'; injection cj' with e2; rw [e2] at nd; exact nd.1 hc'
      simp [pj', this]
    simp only [List.length_cons, if_true]; omega
noncomputable def roomL (st : GS) (al kp : List Int) (i : Nat) : List Int := if st.cross i then kp else al
theorem roomL_len (st : GS) (al kp : List Int) (i : Nat) : (roomL st al kp i).length = room st kp.length al.length i := by
  simp only [roomL, room]; split <;> rfl
structure ColI (N : Nat) (st : GS) (fz : Nat → Bool) (al kp : List Int) (dn : Nat → Bool) (col : Nat → Option Int) (lost : Nat → Bool) : Prop where
  sub : ∀ i c, col i = some c → dn i = true
  dnL : ∀ i, dn i = true → i < N ∧ isL st i = true
  c1 : ∀ i c, col i = some c → c ∈ roomL st al kp i ∧ ∀ j, st.adj i j = true → col j ≠ some c
  c2 : ∀ i, dn i = true → col i = none → (∀ c ∈ roomL st al kp i, ∃ j, st.adj i j = true ∧ col j = some c) ∧ (fz i = true ∨ lost i = true)
  c3 : ∀ i, lost i = true → i < N ∧ isL st i = true ∧ fz i = false ∧ ((dn i = true ∧ col i = none) ∨ ∃ j, st.adj i j = true ∧ fz j = true ∧ dn j = true ∧ col j = none)
  c4 : Easy N (isL st) st.adj (room st kp.length al.length) → ∀ i, lost i = false
section
variable {N : Nat} {st : GS} {fz : Nat → Bool} {al kp : List Int} {dn : Nat → Bool} {col : Nat → Option Int} {lost : Nat → Bool}
theorem ColI.none_of (I : ColI N st fz al kp dn col lost) {i : Nat} (h : dn i = false) : col i = none := by
  cases q : col i with
  | none => rfl
  | some c => rw [I.sub i c q] at h; cases h
theorem ColI.put (I : ColI N st fz al kp dn col lost) {ldr : Nat → Nat} (W : WF N st ldr) {r : Nat} {c : Int} (hr : r < N) (hL : isL st r = true) (hd : dn r = false) (hc : c ∈ roomL st al kp r) (ht : ∀ j, st.adj r j = true → col j ≠ some c) :
    ColI N st fz al kp (fun k => decide (k = r) || dn k) (fun k => if k = r then some c else col k) lost := by
  have hcr := I.none_of hd
  have irr := W.irr r hr
  refine ⟨fun i c' h => ?_, fun i h => ?_, fun i c' h => ?_, fun i h1 h2 => ?_, fun i h => ?_, I.c4⟩
  · by_cases e : i = r
    · simp [e]
    · simp only [if_neg e] at h; simp [I.sub i c' h]
  · by_cases e : i = r
    · rw [e]; exact ⟨hr, hL⟩
    · simp [e] at h; exact I.dnL i h
  · by_cases e : i = r
    · subst e
      simp only [if_true] at h; cases h
      refine ⟨hc, fun j hj => ?_⟩
      have : j ≠ i := fun e => by rw [e, irr] at hj; cases hj
      simp only [if_neg this]; exact ht j hj
    · simp only [if_neg e] at h
      refine ⟨(I.c1 i c' h).1, fun j hj => ?_⟩
      by_cases e2 : j = r
      · subst e2
        simp only [if_true]
        intro e3; cases e3
        exact ht i (W.sym i j (I.dnL i (I.sub i _ h)).1 hj) h
      · simp only [if_neg e2]; exact (I.c1 i c' h).2 j hj
  · by_cases e : i = r
    · simp only [if_pos e] at h2; cases h2
    · simp only [if_neg e] at h2
      simp [e] at h1
      obtain ⟨q1, q2⟩ := I.c2 i h1 h2
      refine ⟨fun c' hc' => ?_, q2⟩
      obtain ⟨j, hj, hcj⟩ := q1 c' hc'
      refine ⟨j, hj, ?_⟩
      have : j ≠ r := fun e => by rw [e, hcr] at hcj; cases hcj
      simp only [if_neg this]; exact hcj
  · obtain ⟨q1, q2, q3, q4⟩ := I.c3 i h
    refine ⟨q1, q2, q3, ?_⟩
    rcases q4 with ⟨z1, z2⟩ | ⟨j, z1, z2, z3, z4⟩
    · have : i ≠ r := fun e => by rw [e, hd] at z1; cases z1
      left; simp only [if_neg this]; exact ⟨by simp [z1], z2⟩
    · have : j ≠ r := fun e => by rw [e, hd] at z3; cases z3
      right; exact ⟨j, z1, z2, by simp [z3], by simp only [if_neg this]; exact z4⟩
theorem ColI.lose (I : ColI N st fz al kp dn col lost) {ldr : Nat → Nat} (W : WF N st ldr) (cl : ∀ i j, i < N → st.adj i j = true → isL st j = true) {r v : Nat} (hr : r < N) (hL : isL st r = true) (hd : dn r = false)
    (hf : ∀ c ∈ roomL st al kp r, ∃ j, st.adj r j = true ∧ col j = some c) (nd : (roomL st al kp r).Nodup) (hE : Easy N (isL st) st.adj (room st kp.length al.length) → cnt N (fun j => st.adj r j && dn j) < room st kp.length al.length r)
    (hv : (fz r = false ∧ v = r) ∨ (fz r = true ∧ st.adj r v = true ∧ fz v = false)) (hvN : v < N) :
    ColI N st fz al kp (fun k => decide (k = r) || dn k) col (fun k => decide (k = v) || lost k) := by
  have hcr := I.none_of hd
  refine ⟨fun i c' h => by simp [I.sub i c' h], fun i h => ?_, I.c1, fun i h1 h2 => ?_, fun i h => ?_, fun E => ?_⟩
  · by_cases e : i = r
    · rw [e]; exact ⟨hr, hL⟩
    · simp [e] at h; exact I.dnL i h
  · by_cases e : i = r
    · subst e
      refine ⟨hf, ?_⟩
      rcases hv with ⟨_, e⟩ | ⟨e, _⟩
      · right; simp [e]
      · left; exact e
    · simp [e] at h1
      obtain ⟨q1, q2⟩ := I.c2 i h1 h2
      refine ⟨q1, ?_⟩
      rcases q2 with q | q
      · exact .inl q
      · right; simp [q]
  · by_cases e : i = v
    · subst e
      rcases hv with ⟨e1, rfl⟩ | ⟨e1, e2, e3⟩
      · exact ⟨hr, hL, e1, .inl ⟨by simp, hcr⟩⟩
      · exact ⟨hvN, cl r i hr e2, e3, .inr ⟨r, W.sym r i hr e2, e1, by simp, hcr⟩⟩
    · simp [e] at h
      obtain ⟨q1, q2, q3, q4⟩ := I.c3 i h
      refine ⟨q1, q2, q3, ?_⟩
      rcases q4 with ⟨z1, z2⟩ | ⟨j, z1, z2, z3, z4⟩
      · left; exact ⟨by simp [z1], z2⟩
      · right; exact ⟨j, z1, z2, by simp [z3], z4⟩
  · have h1 := hE E
    have h2 := pigeon (N := N) (p := fun j => st.adj r j && dn j) nd fun c hc => by
      obtain ⟨j, q1, q2⟩ := hf c hc
      exact ⟨j, (I.dnL j (I.sub j c q2)).1, by simp [q1, I.sub j c q2], q2⟩
    rw [roomL_len] at h2; omega
noncomputable def Stuck (N : Nat) (st : GS) (fz : Nat → Bool) (K E : Nat) : Prop := ∃ i, i < N ∧ isL st i = true ∧ fz i = true ∧ room st K E i ≤ deg N st i ∧ ∀ j, st.adj i j = true → fz j = true
theorem ColI.stuck (I : ColI N st fz al kp dn col lost) {r : Nat} (hr : r < N) (hL : isL st r = true) (hz : fz r = true)
    (hf : ∀ c ∈ roomL st al kp r, ∃ j, st.adj r j = true ∧ col j = some c) (nd : (roomL st al kp r).Nodup) (ha : ∀ j, st.adj r j = true → fz j = true) : Stuck N st fz kp.length al.length := by
  refine ⟨r, hr, hL, hz, ?_, ha⟩
  have h2 := pigeon (N := N) (p := fun j => st.adj r j) nd fun c hc => by
    obtain ⟨j, q1, q2⟩ := hf c hc
    exact ⟨j, (I.dnL j (I.sub j c q2)).1, q1, q2⟩
  rw [roomL_len] at h2; exact h2
end
end Mine
end
section
open PySem PySem.W PyProof.Rows PySem.Calls
set_option maxRecDepth 100000
namespace Mine
structure CH (N : Nat) (cA lA : Addr) (Hm H : AHeap) (col : Nat → Option Int) (lost : Nat → Bool) : Prop where
  ex : Ext Hm H
  D : IntAt H N cA col
  S : SetAt H N lA lost
  hc : Hm cA = none
  hl : Hm lA = none
  ne : cA ≠ lA
section
variable {C : Cfg} {n : Nat} {X : AHeap → Prop} {N : Nat} {a : GA} {st : GS} {H H' Hm : AHeap} {V : AV → AHeap → Prop} {U : AHeap → Prop} {al kp : List Int} {p : PA} {cA lA : Addr} {col : Nat → Option Int} {lost : Nat → Bool}
theorem CH.ext (h : CH N cA lA Hm H col lost) (x : Ext H H') : CH N cA lA Hm H' col lost := { h with ex := h.ex.trans x, D := h.D.ext x, S := h.S.ext x }
theorem CH.putC (h : CH N cA lA Hm H col lost) (hN : N ≤ 8) {j : Nat} {v : Int} (hj : j < N) (q : ∀ H', CH N cA lA Hm H' (fun k => if k = j then some v else col k) lost → U H') : kSetSub cA (j : Int) (.int v) H U :=
  xPutI h.D hN hj fun H' b D => q H' { h with ex := h.ex.but b h.hc, D := D, S := h.S.but b h.ne.symm }
theorem CH.putL (h : CH N cA lA Hm H col lost) (hN : N ≤ 8) {j : Nat} {v : AV} (hj : j < N) (q : ∀ H', CH N cA lA Hm H' col (fun k => decide (k = j) || lost k) → U H') : kSetSub lA (j : Int) v H U :=
  xPutS h.S hN hj fun H' b S => q H' { h with ex := h.ex.but b h.hl, D := h.D.but b h.ne, S := S }
noncomputable def TkN (H : AHeap) (b : Addr) (tk : Int → Bool) (k : Nat) : Prop := ∃ l ep, H b = some (.dict l ep) ∧ (∀ c, (l.lookup c).isSome = tk c) ∧ l.length ≤ k
theorem TkN.ext {b : Addr} {tk : Int → Bool} {k : Nat} (h : TkN H b tk k) (x : Ext H H') : TkN H' b tk k := let ⟨l, ep, z, y⟩ := h; ⟨l, ep, x _ _ z, y⟩
theorem putD_len (l : List (Int × AV)) (k : Int) (v : AV) : (putD l k v).length ≤ l.length + 1 := by
  unfold putD; split
  · rw [List.length_map]; exact Nat.le_succ _
  · rw [List.length_append]; exact Nat.le_refl _
theorem xPutT {b : Addr} {tk : Int → Bool} {k : Nat} {c : Int} {v : AV} (h : TkN H b tk k) (hk : k ≤ 1000) (q : ∀ H', But1 b H H' → TkN H' b (fun i => decide (i = c) || tk i) (k + 1) → U H') : kSetSub b c v H U := by
  obtain ⟨l, ep, h1, r, hl⟩ := h
  refine xSetD h1 (Nat.le_trans hl hk) fun ep' => q _ (But1.set _ _ _) ⟨_, ep', AHeap.set_self _ _ _, fun i => ?_, Nat.le_trans (putD_len ..) (Nat.succ_le_succ hl)⟩
  rw [lookup_putD]
  show _ = (decide (i = c) || tk i)
  by_cases e : i = c
  · rw [if_pos e, decide_eq_true e]; rfl
  · rw [if_neg e, decide_eq_false e, r]; rfl
theorem xGetI {b : Addr} {f : Nat → Option Int} (h : IntAt H N b f) {j : Nat} {d : Int} (q : V (.int ((f j).getD d)) H) : kGet b (j : Int) (.int d) H V := by
  obtain ⟨l, ep, h1, k, r⟩ := h
  refine xGet h1 ?_ q
  rw [r]; cases f j <;> rfl
theorem xRevN {b : Addr} {l : List Nat} (h : NL H b l) (hl : l.length ≤ 1000) (q : newAt (.list (nats l.reverse)) H V) : kRev b H V := by
  unfold kRev; exact ⟨_, h, by rw [nats_len]; exact hl, by rw [nats, ← List.map_reverse]; exact q⟩
theorem MatesAt.mask {m : Addr} {c : Nat} (h : MatesAt H N m c) {L : List Addr} (hm : m ∉ L) (hL : ∀ b ∈ L, IsD H b) : MatesAt (mask H L) N m c := by
  obtain ⟨l, ep, h1, k, h2⟩ := h
  refine ⟨l, ep, by rw [mask_keep hm]; exact h1, k, fun j v hv => ?_⟩
  obtain ⟨b, ks, e, nb, hb, r⟩ := h2 j v hv
  refine ⟨b, ks, e, nb, ?_, r⟩
  rw [mask_keep]
  · exact hb
  · intro hc; obtain ⟨_, _, z⟩ := hL b hc; rw [hb] at z; cases z
theorem CH.new {e1 e2 : Nat} (h1 : H cA = none) (h2 : (H.set cA (.dict [] e1)) lA = none) : CH N cA lA H ((H.set cA (.dict [] e1)).set lA (.dict [] e2)) (fun _ => none) (fun _ => false) := by
  have x1 := Ext.new (.dict [] e1) h1
  have x2 := Ext.new (.dict [] e2) h2
  have w1 : (H.set cA (.dict [] e1)) cA = some (.dict [] e1) := AHeap.set_self _ _ _
  exact ⟨x1.trans x2, ⟨[], e1, x2 _ _ w1, KeysN.nil N, fun _ => rfl⟩, ⟨[], e2, AHeap.set_self _ _ _, KeysN.nil N, fun _ => rfl⟩, h1, x1.free h2, ne_new w1 h2⟩
theorem two_mem {b c d : Addr} {P : Addr → Prop} (hb : P b) (hc : P c) (h : d ∈ [b, c]) : P d := by
  rcases List.mem_cons.mp h with rfl | h
  · exact hb
  · rw [List.mem_singleton.mp h]; exact hc
theorem rev_split {s : List Nat} {i r : Nat} (h : s.reverse[i]? = some r) : s = (s.reverse.drop (i + 1)).reverse ++ r :: (s.reverse.take i).reverse := by
  have e := List.take_append_drop (i + 1) s.reverse
  rw [take_succ h] at e
  have e := congrArg List.reverse e
  rw [List.reverse_reverse, List.reverse_append, List.reverse_append, List.reverse_singleton] at e
  exact e.symm
theorem done_succ {l : List Nat} {i r : Nat} (h : l[i]? = some r) : (fun k => decide (k = r) || decide (k ∈ l.take i)) = fun k => decide (k ∈ l.take (i + 1)) := flf_succ h
theorem any_succ {col : Nat → Option Int} {ks : List Nat} {i j : Nat} (h : ks[i]? = some j) (c : Int) : (ks.take (i + 1)).any (fun j => decide (col j = some c)) = (decide (col j = some c) || (ks.take i).any fun j => decide (col j = some c)) := by
  rw [take_succ h, List.any_append, Bool.or_comm]; congr 1; exact Bool.or_false _
theorem any_none {col : Nat → Option Int} {ks : List Nat} {i j : Nat} (h : ks[i]? = some j) (e : col j = none) (c : Int) : (ks.take i).any (fun j => decide (col j = some c)) = (ks.take (i + 1)).any fun j => decide (col j = some c) := by
  rw [any_succ h, e]; rfl
inductive CoC (N : Nat) (st : GS) (fz : Nat → Bool) (al kp : List Int) (cA lA : Addr) (Hm : AHeap) (l : List Nat) (i : Nat) (H : AHeap) : Prop where
  | mk (col : Nat → Option Int) (lost : Nat → Bool) (c : CH N cA lA Hm H col lost) (I : ColI N st fz al kp (fun j => decide (j ∈ l.take i)) col lost)
structure CoT (H' : AHeap) (tA : Addr) (col : Nat → Option Int) (ks : List Nat) (i : Nat) (H : AHeap) : Prop where
  ex : Ext H' H
  T : TkN H tA (fun c => (ks.take i).any fun j => decide (col j = some c)) i
theorem call_coloured (g : Ground C) (hd : C.hd = false) (hn : 20 ≤ n) (hN : N ≤ 8) (G : GAt N a st H) (P : PAt p al kp H) {ldr : Nat → Nat} (W : WF N st ldr) {fz : Nat → Bool} {fa : Addr} (F : SetAt H N fa fz) (cl : ∀ i j, i < N → st.adj i j = true → isL st j = true)
    (nda : al.Nodup) (ndk : kp.Nodup) (pos : ∀ i, ∀ c ∈ roomL st al kp i, 0 ≤ c)
    (q : ∀ t cA lA H' col lost, Ext H H' → H' t = some (.tup [.ref cA, .ref lA]) → IntAt H' N cA col → SetAt H' N lA lost → ColI N st fz al kp (fun j => decide (j < N) && isL st j) col lost → V (.ref t) H')
    (qx : ∀ H', Ext H H' → Stuck N st fz kp.length al.length → X H') :
    FCall C n X (.ref 187) [.ref a.x, .ref p.x, .ref fa] H V := by
  refine fcallU g (fn_coloured g) (by omega) rfl fun cA ep1 h1 lA ep2 h2 => ?_
  have ch := CH.new (N := N) (e1 := ep1) (e2 := ep2) h1 h2
  show dSs _ _ _ _ _ ((H.set cA (.dict [] ep1)).set lA (.dict [] ep2)) _
  generalize (H.set cA (.dict [] ep1)).set lA (.dict [] ep2) = H2 at ch ⊢
  obtain ⟨rk, L⟩ := W.ld
  refine xG (gl_mates_of g) (ce_mates_of g) (call_mates g hd (by omega) hN (G.ext ch.ex) L fun mA H3 x3 hmA M3 => ?_)
  have c3 := ch.ext x3
  refine xG (gl_stacked g) (ce_stacked g) (call_stacked g (by omega) hN (G.ext c3.ex) (P.ext c3.ex) W (F.ext c3.ex) cl fun sA s H4 x4 S4 hs4 snd smem sE => ?_)
  have slen := nd_len (N := N) snd fun j hj => ((smem j).mp hj).1
  refine xRevN S4 (by omega) fun bA hb => ?_
  have x5 : Ext H4 (H4.set bA (.list (nats s.reverse))) := Ext.new _ hb
  have w5 : NL (H4.set bA (.list (nats s.reverse))) bA s.reverse := AHeap.set_self _ _ _
  generalize H4.set bA (.list (nats s.reverse)) = H5 at *
  have c5 := (c3.ext x4).ext x5
  have isc : IsD H5 cA := let ⟨_, _, z, _⟩ := c5.D; ⟨_, _, z⟩
  have isl : IsD H5 lA := let ⟨_, _, z, _⟩ := c5.S; ⟨_, _, z⟩
  have nb : bA ∉ [cA, lA] := fun h => by
    obtain ⟨_, _, z⟩ : IsD H5 bA := two_mem isc isl h
    rw [show H5 bA = _ from w5] at z; cases z
  have nm : mA ∉ [cA, lA] := fun h => by
    obtain ⟨_, _, z⟩ : IsD H2 mA := two_mem (let ⟨_, _, z, _⟩ := ch.D; ⟨_, _, z⟩) (let ⟨_, _, z, _⟩ := ch.S; ⟨_, _, z⟩) h
    rw [hmA] at z; cases z
  have xm : Ext H (mask H5 [cA, lA]) := ext_mask c5.ex fun c hc => two_mem (P := fun c => H c = none) ch.hc ch.hl hc
  have cm : CH N cA lA (mask H5 [cA, lA]) H5 _ _ := { c5 with ex := mask_ext H5 [cA, lA], hc := mask_none (.head _), hl := mask_none (.tail _ (.head _)) }
  have wm : NL (mask H5 [cA, lA]) bA s.reverse := (mask_keep nb).trans w5
  have Mm : MatesAt (mask H5 [cA, lA]) N mA 8 := ((M3.ext x4).ext x5).mask nm fun b hb => two_mem isc isl hb
  generalize mask H5 [cA, lA] = Hm at xm cm wm Mm
  have Gm := G.ext xm
  have Pm := P.ext xm
  have Fm := F.ext xm
  refine forC [(0, .ref a.x), (1, .ref p.x), (2, .ref fa), (3, .ref cA), (4, .ref lA), (5, .ref mA)] (CoC N st fz al kp cA lA Hm s.reverse) (items_list w5) rfl
    ⟨_, _, cm, ⟨fun _ _ h => (nomatch h), fun _ h => (nomatch of_decide_eq_true h), fun _ _ h => (nomatch h), fun _ h => (nomatch of_decide_eq_true h), fun _ h => (nomatch h), fun _ _ => rfl⟩⟩ ?_ ?_ ?_
  · rintro i H' ⟨_, _, c, _⟩
    show H' bA = H5 bA
    rw [c.ex _ _ wm, show H5 bA = _ from w5]
  · rintro i H' w ⟨col, lost, c, I⟩ hw Q3 nx rt
    obtain ⟨r, hr, rfl, hrm, htake⟩ := nats_at hw
    obtain ⟨hrN, hrL⟩ := (smem r).mp (List.mem_reverse.mp hrm)
    have hdn : (fun j => decide (j ∈ s.reverse.take i)) r = false := decide_eq_false (nd_take ((List.reverse_perm s).nodup_iff.mpr snd) htake)
    refine fun tA ep hb => ?_
    have y6 : Ext H' (H'.set tA (.dict [] ep)) := Ext.new _ hb
    have T6 : TkN (H'.set tA (.dict [] ep)) tA (fun _ => false) 0 := ⟨[], ep, AHeap.set_self _ _ _, fun c => rfl, Nat.le_refl _⟩
    show dSs _ _ _ _ _ (H'.set tA (.dict [] ep)) _
    generalize H'.set tA (.dict [] ep) = H6 at y6 T6 ⊢
    have G6 := Gm.ext (c.ex.trans y6)
    obtain ⟨ks, it, nd, hm⟩ := (G6.rows r hrN).keys
    have klen : ks.length ≤ N := nd_len nd fun j hj => (G6.rows r hrN).lt ((hm j).mp hj)
    refine xNear G6 (xRow G6 hrN ?_)
    refine forC [(0, .ref a.x), (1, .ref p.x), (2, .ref fa), (3, .ref cA), (4, .ref lA), (5, .ref mA), (6, .int r), (7, .ref tA)] (CoT H' tA col ks) it rfl ⟨y6, T6⟩ ?_ ?_ ?_
    · rintro i2 H2 ⟨y2, _⟩
      obtain ⟨_, _, z, _⟩ := Gm.rows r hrN
      show H2 (a.row r) = H6 (a.row r)
      rw [y2 _ _ (c.ex _ _ z), y6 _ _ (c.ex _ _ z)]
    · rintro i2 H2 w2 ⟨y2, T2⟩ hw2 Q5 nx rt
      obtain ⟨j, hj, rfl, hjm, htk⟩ := nats_at hw2
      have hi2 : i2 < ks.length := (List.getElem?_eq_some_iff.mp hj).1
      have D2 := c.D.ext y2
      refine xInI D2 (brC (fun h => ?_) fun h => nx _ _ ⟨y2, ?_⟩ rfl)
      · obtain ⟨v, hv⟩ := Option.isSome_iff_exists.mp h
        refine xSubI D2 hv (xPutT T2 (by omega) fun H3 b3 T3 => nx _ _ ⟨y2.but b3 hb, ?_⟩ rfl)
        rw [show (fun c => (ks.take (i2 + 1)).any fun j => decide (col j = some c)) = fun i => decide (i = v) || (ks.take i2).any fun j => decide (col j = some i) from funext fun i => ?_]
        · exact T3
        · rw [any_succ hj, hv]; congr 1; exact decide_eq_decide.mpr ⟨fun e => by injection e with e; exact e.symm, fun e => by rw [e]⟩
      · obtain ⟨l, ep, z1, z2, z3⟩ := T2
        exact ⟨l, ep, z1, fun i => (z2 i).trans (any_none hj (Option.not_isSome_iff_eq_none.mp (by rw [h]; exact Bool.false_ne_true)) i), Nat.le_succ_of_le z3⟩
    · rintro H7 ⟨y7, T7⟩
      rw [nats_len, take_all] at T7
      obtain ⟨_, _, h1, _⟩ := Mm.ext (c.ex.trans y7)
      refine xHasD rfl h1 fun b1 hb1 => ?_
      obtain ⟨_, _, b, ms, v1, v2, v3, v4, v5⟩ := mate_get (Mm.ext (c.ex.trans y7)) r hb1
      have x8 := Ext.new (.list []) hb1
      refine xGet v1 v2 ?_
      have c8 := (c.ext y7).ext x8
      refine lcompN (fun _ => true) (fun j => .int ((col j).getD (-1))) (items_list v3) rfl (by omega) (fun i j _ _ Y N yes _ => ?_) fun bw hbw => ?_
      · obtain ⟨_, _, z, _⟩ := c8.D
        exact xHasD rfl z (xGetI c8.D (yes rfl))
      have x9 := Ext.new (.list ((ms.filter fun _ => true).map fun j => AV.int ((col j).getD (-1)))) hbw
      have w9 : ((H7.set b1 (.list [])).set bw (.list ((ms.filter fun _ => true).map fun j => AV.int ((col j).getD (-1))))) bw = some (.list ((ms.map fun j => (col j).getD (-1)).map .int)) := by
        rw [AHeap.set_self, filter_all, List.map_map]; rfl
      show dSs _ _ _ _ _ ((H7.set b1 (.list [])).set bw (.list ((ms.filter fun _ => true).map fun j => AV.int ((col j).getD (-1))))) _
      have c9 := c8.ext x9
      have T9 := (T7.ext x8).ext x9
      generalize (H7.set b1 (.list [])).set bw (.list ((ms.filter fun _ => true).map fun j => AV.int ((col j).getD (-1)))) = H9 at w9 c9 T9 ⊢
      have P9 := Pm.ext c9.ex
      have G9 := Gm.ext c9.ex
      have A9 : H9 (if st.cross r = true then p.kp else p.al) = some (.list ((roomL st al kp r).map .int)) := by
        rw [roomL]; cases st.cross r
        · exact P9.hal
        · exact P9.hkp
      have T9 : TkAt H9 tA (fun c => ks.any fun j => decide (col j = some c)) := let ⟨l, ep, z, zz, _⟩ := T9; ⟨l, ep, z, zz⟩
      refine xG (gl_number_for g) (ce_number_for g) (xM (P9.mOf g) (ce_Pools_of g) (call_of g (by omega) G9 P9 (call_number g (by omega) A9 w9 T9 fun num hnum => ?_)))
      rcases hnum with ⟨hn1, hn2⟩ | ⟨rfl, hn2⟩
      · refine brZ (fun z => absurd (pos r num hn1) (by omega)) (c9.putC hN hrN fun H10 c10 => nx _ _ ⟨_, _, c10, ?_⟩ rfl)
        rw [← done_succ hr]
        exact I.put W hrN hrL hdn hn1 fun j hj hc => by
          rw [List.any_eq_false] at hn2
          exact hn2 j ((hm j).mpr hj) (decide_eq_true hc)
      · have hnr : (roomL st al kp r).Nodup := by rw [roomL]; split <;> assumption
        have hEr : Easy N (isL st) st.adj (room st kp.length al.length) → cnt N (fun j => st.adj r j && decide (j ∈ s.reverse.take i)) < room st kp.length al.length r := fun E => by
          refine Nat.lt_of_le_of_lt (cnt_mono fun i _ r => ?_) (sE E _ _ _ (rev_split hr))
          rw [Bool.and_eq_true, decide_eq_true_iff] at r ⊢
          exact ⟨r.1, List.mem_reverse.mpr r.2⟩
        have hf : ∀ c ∈ roomL st al kp r, ∃ j, st.adj r j = true ∧ col j = some c := fun c hc => by
          obtain ⟨j, z1, z2⟩ := List.any_eq_true.mp (hn2 c hc)
          exact ⟨j, (hm j).mp z1, of_decide_eq_true z2⟩
        have key : ∀ v H10, v < N → CH N cA lA Hm H10 col (fun k => decide (k = v) || lost k) → ((fz r = false ∧ v = r) ∨ (fz r = true ∧ st.adj r v = true ∧ fz v = false)) → CoC N st fz al kp cA lA Hm s.reverse (i + 1) H10 := fun v H10 hv c10 hc => by
          refine ⟨_, _, c10, ?_⟩
          rw [← done_succ hr]
          exact I.lose W cl hrN hrL hdn hf hnr hEr hc hv
        refine xG (gl_victim_of g) (ce_victim_of g) (call_victim g (by omega) hN G9 (Fm.ext c9.ex) hrN (fun hz => ?_) (fun hz j H10 x10 hj hzj => ?_) (fun hz ha H10 x10 => ⟨hd, qx _ ((xm.trans c9.ex).trans x10) (I.stuck hrN hrL hz hf hnr ha)⟩))
        · exact c9.putL hN hrN fun H11 c11 => nx _ _ (key r H11 hrN c11 (.inl ⟨hz, rfl⟩)) rfl
        · have hjN := (Gm.rows r hrN).lt hj
          exact (c9.ext x10).putL hN hjN fun H11 c11 => nx _ _ (key j H11 hjN c11 (.inr ⟨hz, hj, hzj⟩)) rfl
  · rintro H' ⟨col, lost, c, I⟩ t ht
    rw [nats_len, take_all] at I
    have x := Ext.new (.tup [.ref cA, .ref lA]) ht
    refine q t cA lA _ col lost ((xm.trans c.ex).trans x) (AHeap.set_self _ _ _) (c.D.ext x) (c.S.ext x) ?_
    rw [show (fun j => decide (j < N) && isL st j) = fun j => decide (j ∈ s.reverse) from funext fun j => ?_]
    · exact I
    · rw [Bool.eq_iff_iff, Bool.and_eq_true, decide_eq_true_iff, decide_eq_true_iff, List.mem_reverse, smem]
end
end Mine
end
section
open PySem PySem.W PyProof.Rows PySem.Calls
set_option maxRecDepth 100000
namespace Mine
structure NAt (N : Nat) (b : Addr) (row : Nat → Addr) (V : Nat → Bool) (adj : Nat → Nat → Bool) (H : AHeap) : Prop where
  dict : ∃ l ep, H b = some (.dict l ep) ∧ KeysN N l ∧ ∀ j : Nat, l.lookup (j : Int) = if V j then some (.ref (row j)) else none
  rows : ∀ j, V j = true → SetAt H N (row j) (adj j)
theorem NAt.ext {N : Nat} {b : Addr} {row : Nat → Addr} {V : Nat → Bool} {adj : Nat → Nat → Bool} {H H' : AHeap} (h : NAt N b row V adj H) (x : Ext H H') : NAt N b row V adj H' :=
  ⟨let ⟨l, ep, q, r⟩ := h.dict; ⟨l, ep, x _ _ q, r⟩, fun j hj => (h.rows j hj).ext x⟩
theorem NAt.set {N : Nat} {b : Addr} {row : Nat → Addr} {V : Nat → Bool} {adj : Nat → Nat → Bool} {H : AHeap} (h : NAt N b row V adj H) : SetAt H N b V := by
  obtain ⟨l, ep, q, k, r⟩ := h.dict
  refine ⟨l, ep, q, k, fun j => ?_⟩
  rw [has, r]; cases V j <;> rfl
section
variable {C : Cfg} {n : Nat} {X : AHeap → Prop} {N : Nat} {H H' Hm : AHeap} {Q : AV → AHeap → Prop} {U : AHeap → Prop} {b : Addr} {row : Nat → Addr} {V : Nat → Bool} {adj : Nat → Nat → Bool}
theorem xNRow (h : NAt N b row V adj H) {j : Nat} (hj : V j = true) (q : Q (.ref (row j)) H) : kSub b (j : Int) H Q := let ⟨_, _, e, _, r⟩ := h.dict; xSubD e (by rw [r, if_pos hj]) q
theorem xKeysL (h : SetAt H N b V) (hd : C.hd = false) (hN : N ≤ 8) (q : ∀ c ks H', H c = none → Ext H H' → NL H' c ks → ks.Nodup → (∀ j, j ∈ ks ↔ V j = true) → Q (.ref c) H') : kList C b H Q := by
  obtain ⟨l, ep, h1, k, r⟩ := h
  have := k.le
  obtain ⟨ks, e, nd, hm, _⟩ := keys_nat k
  unfold kList
  refine .inr ⟨l, ep, h1, hd, by omega, fun c hc => q c ks _ hc (Ext.new _ hc) ?_ nd fun j => by rw [hm, r]⟩
  rw [NL, AHeap.set_self, e]
theorem xLenN {c : Addr} {ks : List Nat} (h : NL H c ks) (hl : ks.length ≤ 1000) (q : Q (.int ks.length) H) : kLen c H Q := xLen h (by rw [nats_len]; exact hl) (by rw [nats_len]; exact q)
theorem Easy.drop {Lf : Nat → Bool} {rm : Nat → Nat} {v : Nat} (hv : Lf v = true) (hd : cnt N (fun j => adj v j && Lf j) < rm v) : Easy N Lf adj rm ↔ Easy N (fun k => !decide (k = v) && Lf k) adj rm := by
  constructor
  · intro E S hS hne
    exact E S (fun i hi => ⟨(Bool.and_eq_true_iff.mp (hS i hi).1).2, (hS i hi).2⟩) hne
  · intro E S hS hne
    cases q : S v with
    | true => exact ⟨v, q, Nat.lt_of_le_of_lt (cnt_mono fun i _ h => by rw [Bool.and_eq_true] at h ⊢; exact ⟨h.1, (hS i h.2).1⟩) hd⟩
    | false =>
      refine E S (fun i hi => ⟨?_, (hS i hi).2⟩) hne
      show (!decide (i = v) && Lf i) = true
      rw [(hS i hi).1, decide_eq_false fun e => by rw [e, q] at hi; cases hi]; rfl
noncomputable def rmOf (cr : Nat → Bool) (K E i : Nat) : Nat := if cr i then K else E
theorem rmOf_t {cr : Nat → Bool} {K E i : Nat} (h : cr i = true) : rmOf cr K E i = K := by rw [rmOf, if_pos h]
theorem rmOf_f {cr : Nat → Bool} {K E i : Nat} (h : cr i = false) : rmOf cr K E i = E := by rw [rmOf, if_neg (by rw [h]; exact Bool.false_ne_true)]
structure EaI (N : Nat) (V : Nat → Bool) (adj : Nat → Nat → Bool) (rm : Nat → Nat) (lA : Addr) (Hm H : AHeap) (Lf : Nat → Bool) : Prop where
  ex : Ext Hm H
  hm : Hm lA = none
  L : SetAt H N lA Lf
  he : Easy N V adj rm ↔ Easy N Lf adj rm
  hs : ∀ j, Lf j = true → V j = true
theorem EaI.ext {rm : Nat → Nat} {lA : Addr} {Lf : Nat → Bool} (h : EaI N V adj rm lA Hm H Lf) (x : Ext H H') : EaI N V adj rm lA Hm H' Lf := { h with ex := h.ex.trans x, L := h.L.ext x }
theorem EaI.drop {rm : Nat → Nat} {lA : Addr} {Lf : Nat → Bool} {j : Nat} (h : EaI N V adj rm lA Hm H Lf) (hj : Lf j = true) (hlt : cnt N (fun k => adj j k && Lf k) < rm j) (b : But1 lA H H') (L : SetAt H' N lA fun k => !decide (k = j) && Lf k) : EaI N V adj rm lA Hm H' fun k => !decide (k = j) && Lf k :=
  { ex := h.ex.but b h.hm, hm := h.hm, L := L, he := h.he.trans (Easy.drop hj hlt), hs := fun k hk => h.hs k (Bool.and_eq_true_iff.mp hk).2 }
theorem EaI.mask {rm : Nat → Nat} {lA : Addr} {Lf : Nat → Bool} (h : EaI N V adj rm lA Hm H Lf) : EaI N V adj rm lA (Mine.mask H [lA]) H Lf := { h with ex := mask_ext H [lA], hm := mask_none (.head _) }
theorem cnt_none {p : Nat → Bool} (h : ¬ ∃ i, p i = true) : cnt N p = 0 := List.countP_eq_zero.mpr fun i _ q => h ⟨i, q⟩
theorem EaI.done {rm : Nat → Nat} {lA : Addr} {Lf : Nat → Bool} (h : EaI N V adj rm lA Hm H Lf) (hd : ∀ v, Lf v = true → rm v ≤ cnt N (fun j => adj v j && Lf j)) : cnt N Lf = 0 ↔ Easy N V adj rm := by
  rw [h.he]
  refine ⟨fun c0 S hS ⟨i, hi⟩ => ?_, fun E => cnt_none fun ne => ?_⟩
  · have := cnt_pos (hS i hi).2 (hS i hi).1; omega
  · obtain ⟨v, hv, hlt⟩ := E Lf (fun i hi => ⟨hi, h.L.lt hi⟩) ne
    exact absurd hlt (Nat.not_lt.mpr (hd v hv))
inductive EaW (N : Nat) (V : Nat → Bool) (adj : Nat → Nat → Bool) (rm : Nat → Nat) (lA : Addr) (Hm : AHeap) (m : Nat) (d : Bool) (H : AHeap) : Prop where
  | mk (Lf : Nat → Bool) (I : EaI N V adj rm lA Hm H Lf) (hd : d = true → ∀ v, Lf v = true → rm v ≤ cnt N (fun j => adj v j && Lf j)) (e : m = 2 * cnt N Lf + (!d).toNat)
inductive EaR (N : Nat) (V : Nat → Bool) (adj : Nat → Nat → Bool) (rm : Nat → Nat) (lA : Addr) (Hk : AHeap) (ks : List Nat) (Lf : Nat → Bool) (i : Nat) (d : Bool) (H : AHeap) : Prop where
  | mk (Lg : Nat → Bool) (I : EaI N V adj rm lA Hk H Lg) (hr : ∀ j ∈ ks, j ∉ ks.take i → Lg j = true) (hd : d = true → Lg = Lf ∧ ∀ j ∈ ks.take i, rm j ≤ cnt N (fun k => adj j k && Lf k)) (le : cnt N Lg ≤ cnt N Lf) (lt : d = false → cnt N Lg < cnt N Lf)
theorem not_take {α : Type} {ks : List α} {i : Nat} {j k : α} (hj : ks[i]? = some j) (h : k ∉ ks.take (i + 1)) : k ≠ j ∧ k ∉ ks.take i := by
  rw [take_succ hj, List.mem_append, List.mem_singleton, not_or] at h; exact ⟨h.2, h.1⟩
theorem in_take {α : Type} {ks : List α} {i : Nat} {j k : α} (hj : ks[i]? = some j) (h : k ∈ ks.take (i + 1)) : k ∈ ks.take i ∨ k = j := by
  rw [take_succ hj, List.mem_append, List.mem_singleton] at h; exact h
theorem call_easy (g : Ground C) (hd : C.hd = false) (hn : 4 ≤ n) (hN : N ≤ 8) (B : NAt N b row V adj H) {cr : Nat → Bool} {xa : Addr} (Cr : SetAt H N xa cr) {K E : Nat}
    (q : ∀ r H', Ext H H' → (r = true ↔ Easy N V adj (rmOf cr K E)) → Q (.bool r) H') : FCall C n X (.ref 199) [.ref b, .ref xa, .int K, .int E] H Q := by
  refine fcallU g (fn_law_easy g) (by omega) rfl (xCopy B.set hN fun lA H1 hl x1 L1 => ?_)
  have xm := ext_mask (L := [lA]) x1 (fun c hc => by rw [List.mem_singleton.mp hc]; exact hl)
  have I0 : EaI N V adj (rmOf cr K E) lA H H1 V := ⟨x1, hl, L1, Iff.rfl, fun _ h => h⟩
  have I1 := I0.mask
  generalize mask H1 [lA] = Hm at xm I1
  refine whileS (fun d : Bool => [(0, .ref b), (1, .ref xa), (2, .int K), (3, .int E), (4, .ref lA), (5, .bool d)]) (EaW N V adj (rmOf cr K E) lA Hm) _ false rfl ⟨V, I1, fun h => (nomatch h), rfl⟩ ?_
  rintro _ d H' ⟨Lf, I, hdn, rfl⟩ Q3 nx Q4 en
  refine brC (fun h => ?_) fun h => en _ fun e ep he => ?_
  · obtain rfl : d = false := by cases d; rfl; cases h
    refine xKeysL I.L hd hN fun bL ks H2 hbL x2 S2 nd hm => ?_
    have I2 := I.ext x2
    have nbl : bL ≠ lA := fun e => by obtain ⟨_, _, z, _⟩ := I.L; rw [e, z] at hbL; cases hbL
    have xk : Ext Hm (mask H2 [lA]) := ext_mask I2.ex fun c hc => by rw [List.mem_singleton.mp hc]; exact I.hm
    have bk : NL (mask H2 [lA]) bL ks := (mask_keep (by rw [List.mem_singleton]; exact nbl)).trans S2
    have Ik := I2.mask
    generalize mask H2 [lA] = Hk at xk bk Ik
    have Bk := (B.ext xm).ext xk
    have Ck := (Cr.ext xm).ext xk
    refine for1 (fun d : Bool => [(0, .ref b), (1, .ref xa), (2, .int K), (3, .int E), (4, .ref lA), (5, .bool d)]) (EaR N V adj (rmOf cr K E) lA Hk ks Lf) (items_list S2) true rfl ⟨Lf, Ik, fun j hj _ => (hm j).mp hj, fun _ => ⟨rfl, fun _ h => (nomatch h)⟩, Nat.le_refl _, fun h => (nomatch h)⟩ ?_ ?_ ?_
    · rintro i d H' ⟨_, I, _⟩
      show H' bL = H2 bL
      rw [I.ex _ _ bk, show H2 bL = _ from S2]
    · rintro i d H3 w ⟨Lg, I3, hr3, hd3, hc3, hl3⟩ hw Q5 nx ct rt
      obtain ⟨j, hj, rfl, hjm, htake⟩ := nats_at hw
      have hgj := hr3 j hjm (nd_take nd htake)
      have hVj := I3.hs j hgj
      have B3 := Bk.ext I3.ex
      obtain ⟨kr, itr, ndr, hmr⟩ := (B3.rows j hVj).keys
      have klr := ks_len ndr hmr fun k hk => (B3.rows j hVj).lt hk
      have kle := cnt_le N (adj j)
      refine xNRow B3 hVj (lcompN Lg (fun j => .int j) itr rfl (by omega) (fun _ _ _ _ Y N yes no => xIn I3.L (brC yes no)) fun b4 hb4 => ?_)
      have x4 : Ext H3 (H3.set b4 (.list (nats (kr.filter Lg)))) := Ext.new _ hb4
      have w4 : NL (H3.set b4 (.list (nats (kr.filter Lg)))) b4 (kr.filter Lg) := AHeap.set_self _ _ _
      show dSs _ _ _ _ _ (H3.set b4 (.list (nats (kr.filter Lg)))) _
      generalize H3.set b4 (.list (nats (kr.filter Lg))) = H4 at x4 w4 ⊢
      have hlen : (kr.filter Lg).length = cnt N (fun k => adj j k && Lg k) := by
        rw [← List.countP_eq_length_filter]; exact ks_cnt ndr hmr (fun k hk => (B3.rows j hVj).lt hk) Lg
      have I4 := I3.ext x4
      have t1 : cnt N (fun k => adj j k && Lg k) < rmOf cr K E j → ∀ H5, But1 lA H4 H5 → SetAt H5 N lA (fun k => !decide (k = j) && Lg k) → EaR N V adj (rmOf cr K E) lA Hk ks Lf (i + 1) false H5 := fun hlt H5 b5 L5 => by
        have hc : cnt N Lg = cnt N (fun k => !decide (k = j) && Lg k) + 1 := cnt_without (N := N) (p := fun _ => true) (q := Lg) (I4.L.lt hgj) hgj
        refine ⟨_, I4.drop hgj hlt b5 L5, fun k hk hnk => ?_, fun h => (nomatch h), by omega, fun _ => by omega⟩
        obtain ⟨z1, z2⟩ := not_take hj hnk
        rw [hr3 k hk z2, decide_eq_false z1]; rfl
      have t2 : ¬ cnt N (fun k => adj j k && Lg k) < rmOf cr K E j → EaR N V adj (rmOf cr K E) lA Hk ks Lf (i + 1) d H4 := fun hlt => by
        refine ⟨Lg, I4, fun k hk hnk => hr3 k hk (not_take hj hnk).2, fun h => ?_, hc3, hl3⟩
        obtain ⟨rfl, z⟩ := hd3 h
        refine ⟨rfl, fun k hk => ?_⟩
        rcases in_take hj hk with hk | rfl
        · exact z k hk
        · exact Nat.not_lt.mp hlt
      have pop : cnt N (fun k => adj j k && Lg k) < rmOf cr K E j → ∀ {Y : AV → AHeap → Prop}, (∀ v H5, EaR N V adj (rmOf cr K E) lA Hk ks Lf (i + 1) false H5 → Y v H5) → kHas .dpop (.ref lA) H4 (kDpop lA (j : Int) H4 Y) := fun hlt Y y => by
        obtain ⟨_, _, z, _⟩ := I4.L
        exact xHasD rfl z (xPopS I4.L hN hgj fun v H5 b5 L5 => y v H5 (t1 hlt H5 b5 L5))
      have hl8 : (kr.filter Lg).length ≤ 1000 := Nat.le_trans (List.length_filter_le ..) (by omega)
      rw [← hlen] at t2 pop
      refine xLenN w4 hl8 (xIn (Ck.ext I4.ex) (brC (fun e => ?_) fun e => ?_))
      · rw [rmOf_t e] at t2 pop
        exact brD (fun h => pop (Int.ofNat_lt.mp h) fun v H5 r => nx false _ _ r rfl) fun h => nx d _ _ (t2 fun z => h (Int.ofNat_lt.mpr z)) rfl
      · rw [rmOf_f e] at t2 pop
        exact brD (fun h => pop (Int.ofNat_lt.mp h) fun v H5 r => nx false _ _ r rfl) fun h => nx d _ _ (t2 fun z => h (Int.ofNat_lt.mpr z)) rfl
    · rintro d H3 ⟨Lg, I3, hr3, hd3, hc3, hl3⟩
      rw [nats_len, take_all] at hd3
      refine nx _ d _ _ ?_ ⟨Lg, { I3 with ex := xk.trans I3.ex, hm := I.hm }, fun h v hv => ?_, rfl⟩ rfl
      · cases d with
        | true => show 2 * _ + 0 < 2 * _ + 1; omega
        | false => have := hl3 rfl; show 2 * _ + 1 < 2 * _ + 1; omega
      · obtain ⟨rfl, h2⟩ := hd3 h
        exact h2 v ((hm v).mpr hv)
  · obtain rfl : d = true := by cases d; cases h; rfl
    have I6 := I.ext (Ext.new (.dict [] ep) he)
    exact xEqD I6.L hN (AHeap.set_self _ _ _) (q _ _ (xm.trans I6.ex) (by rw [decide_eq_true_iff]; exact I6.done (hdn rfl)))
end
end Mine
end
section
open PySem PySem.W PyProof.Rows PySem.Calls
set_option maxRecDepth 100000
namespace Mine
theorem countP_yes {ks : List Nat} {i t : Nat} {p : Nat → Bool} (hj : ks[i]? = some t) (h : p t = true) : (ks.take i).countP p + 1 = (ks.take (i + 1)).countP p := by
  rw [take_succ hj, List.countP_append, List.countP_singleton, if_pos h]
theorem countP_no {ks : List Nat} {i t : Nat} {p : Nat → Bool} (hj : ks[i]? = some t) (h : p t = false) : (ks.take i).countP p = (ks.take (i + 1)).countP p := by
  rw [take_succ hj, List.countP_append, List.countP_singleton, if_neg (by rw [h]; exact Bool.false_ne_true), Nat.add_zero]
theorem brS {c a : Bool} {A M : Prop} (hA : c = true → A) (e1 : a = true → c = true) (m : a = false → (c = true → A) → M) : br a A M := brC (fun e => hA (e1 e)) (fun e => m e hA)
section
variable {C : Cfg} {n : Nat} {X : AHeap → Prop} {N : Nat} {H : AHeap} {Q : AV → AHeap → Prop} {b : Addr} {row : Nat → Addr} {V : Nat → Bool} {adj : Nat → Nat → Bool}
noncomputable def hardL (N : Nat) (adj : Nat → Nat → Bool) (rm : Nat → Nat) (one other t : Nat) : Bool := (adj one t || adj other t) && decide (rm t ≤ cnt N fun c => adj t c && (!decide (c = other) || !adj t one))
noncomputable def unsafeB (N : Nat) (V : Nat → Bool) (adj : Nat → Nat → Bool) (cr : Nat → Bool) (K E one other : Nat) : Bool :=
  decide ((if cr one || cr other then K else E) ≤ cnt N fun t => V t && hardL N adj (rmOf cr K E) one other t)
theorem call_unsafe (g : Ground C) (hn : 4 ≤ n) (hN : N ≤ 8) (B : NAt N b row V adj H) {cr : Nat → Bool} {xa : Addr} (Cr : SetAt H N xa cr) {K E one other : Nat} (h1 : V one = true) (h2 : V other = true)
    (q : ∀ H', Ext H H' → Q (.bool (unsafeB N V adj cr K E one other)) H') : FCall C n X (.ref 221) [.ref b, .ref xa, .int one, .int other, .int K, .int E] H Q := by
  obtain ⟨ks, it, nd, hm⟩ := B.set.keys
  refine fcallU g (fn_law_is_unsafe g) (by omega) rfl ?_
  refine for1 (fun h : Nat => [(0, .ref b), (1, .ref xa), (2, .int one), (3, .int other), (4, .int K), (5, .int E), (6, .int h)]) (fun i h H' => Ext H H' ∧ h = (ks.take i).countP (hardL N adj (rmOf cr K E) one other)) it 0 rfl ⟨.refl _, rfl⟩ (fun _ _ _ j => items_same it j.1) ?_ ?_
  · rintro i h H' w ⟨x, rfl⟩ hw Q3 nx ct rt
    obtain ⟨t, ht, rfl, htm, htake⟩ := nats_at hw
    have hVt := (hm t).mp htm
    have B1 := B.ext x
    refine xNRow B1 h1 (xIn (B1.rows one h1) (brS (c := adj one t || adj other t) (fun ha => ?_) (fun e => by rw [e]; rfl) fun e1 hA => xNRow B1 h2 (xIn (B1.rows other h2) (brC (fun e2 => hA (by rw [e2, Bool.or_true])) fun e2 => nx _ _ _ ⟨x, countP_no ht ?_⟩ rfl))))
    · obtain ⟨kr, itr, ndr, hmr⟩ := (B1.rows t hVt).keys
      have klr := ks_len ndr hmr fun k hk => (B1.rows t hVt).lt hk
      have kle := cnt_le N (adj t)
      refine xNRow B1 hVt (lcompN (fun c => !decide (c = other) || !adj t one) (fun j => .int j) itr rfl (by omega) (fun _ k _ _ Y N yes no => brN (fun ne => yes ?_) fun eq => xNRow B1 hVt (xIn (B1.rows t hVt) (brC (fun h => yes ?_) fun h => no ?_))) fun b4 hb4 => ?_)
      · rw [decide_eq_false fun e => ne (by rw [e])]; rfl
      · rw [h, Bool.or_true]
      · rw [h, decide_eq_true (Int.ofNat_inj.mp eq)]; rfl
      have x4 : Ext H' (H'.set b4 (.list (nats (kr.filter fun c => !decide (c = other) || !adj t one)))) := Ext.new _ hb4
      have w4 : NL (H'.set b4 (.list (nats (kr.filter fun c => !decide (c = other) || !adj t one)))) b4 (kr.filter fun c => !decide (c = other) || !adj t one) := AHeap.set_self _ _ _
      have hlen : (kr.filter fun c => !decide (c = other) || !adj t one).length = cnt N (fun c => adj t c && (!decide (c = other) || !adj t one)) := by
        rw [← List.countP_eq_length_filter]; exact ks_cnt ndr hmr (fun k hk => (B1.rows t hVt).lt hk) _
      have hl8 : (kr.filter fun c => !decide (c = other) || !adj t one).length ≤ 1000 := Nat.le_trans (List.length_filter_le ..) (by omega)
      have x04 := x.trans x4
      have yes : rmOf cr K E t ≤ (kr.filter fun c => !decide (c = other) || !adj t one).length → hardL N adj (rmOf cr K E) one other t = true := fun h => by rw [hardL, ha, ← hlen, decide_eq_true h]; rfl
      have no : ¬ rmOf cr K E t ≤ (kr.filter fun c => !decide (c = other) || !adj t one).length → hardL N adj (rmOf cr K E) one other t = false := fun h => by rw [hardL, ← hlen, decide_eq_false h, Bool.and_false]
      refine xLenN w4 hl8 (xIn (Cr.ext x04) (brC (fun e => ?_) fun e => ?_))
      · rw [rmOf_t e] at yes no
        exact brD (fun h => nx _ _ _ ⟨x04, countP_yes ht (yes (Int.ofNat_le.mp h))⟩ rfl) fun h => nx _ _ _ ⟨x04, countP_no ht (no fun z => h (Int.ofNat_le.mpr z))⟩ rfl
      · rw [rmOf_f e] at yes no
        exact brD (fun h => nx _ _ _ ⟨x04, countP_yes ht (yes (Int.ofNat_le.mp h))⟩ rfl) fun h => nx _ _ _ ⟨x04, countP_no ht (no fun z => h (Int.ofNat_le.mpr z))⟩ rfl
    · rw [hardL, e1, e2]; rfl
  · rintro h H' ⟨x, rfl⟩
    rw [nats_len, take_all, ks_cnt nd hm fun j hj => B.set.lt hj]
    have fin : ∀ m, m = (if cr one || cr other then K else E) → Q (.bool (decide ((m : Int) ≤ (cnt N fun t => V t && hardL N adj (rmOf cr K E) one other t : Nat)))) H' := fun m e => by
      have := q H' x
      rw [unsafeB, ← e] at this
      rw [show decide ((m : Int) ≤ (cnt N fun t => V t && hardL N adj (rmOf cr K E) one other t : Nat)) = decide (m ≤ cnt N fun t => V t && hardL N adj (rmOf cr K E) one other t) from decide_eq_decide.mpr Int.ofNat_le]
      exact this
    have Cx := Cr.ext x
    refine xIn Cx (brC (fun e1 => fin K (by rw [e1]; rfl)) fun e1 => xIn Cx (brC (fun e2 => fin K (by rw [e2, Bool.or_true]; rfl)) fun e2 => fin E (by rw [e1, e2]; rfl)))
end
end Mine
end
section
open PySem PySem.W PyProof.Rows PySem.Calls
set_option maxRecDepth 100000
namespace Mine
section
variable {C : Cfg} {n : Nat} {X : AHeap → Prop} {N : Nat} {H : AHeap} {Q : AV → AHeap → Prop} {b : Addr} {row : Nat → Addr} {V : Nat → Bool} {adj : Nat → Nat → Bool}
noncomputable def StuckAt (N : Nat) (adj : Nat → Nat → Bool) (fz cr : Nat → Bool) (K E j : Nat) : Prop := fz j = true ∧ rmOf cr K E j ≤ cnt N (adj j) ∧ ∀ k, adj j k = true → fz k = true
theorem call_stuck (g : Ground C) (hn : 4 ≤ n) (hN : N ≤ 8) (B : NAt N b row V adj H) {cr fz : Nat → Bool} {xa fa : Addr} (Cr : SetAt H N xa cr) (F : SetAt H N fa fz) {K E : Nat} (hs : ∃ i, V i = true ∧ StuckAt N adj fz cr K E i)
    (q : ∀ H', Ext H H' → Q (.bool true) H') : FCall C n X (.ref 226) [.ref b, .ref xa, .ref fa, .int K, .int E] H Q := by
  obtain ⟨ks, it, nd, hm⟩ := B.set.keys
  refine fcallU g (fn_law_is_stuck g) (by omega) rfl ?_
  refine forC [(0, .ref b), (1, .ref xa), (2, .ref fa), (3, .int K), (4, .int E)] (fun i H' => Ext H H' ∧ ∀ j ∈ ks.take i, ¬ StuckAt N adj fz cr K E j) it rfl ⟨.refl _, fun _ h => (nomatch h)⟩ (fun _ _ j => items_same it j.1) ?_ ?_
  · rintro i H' w ⟨x, r6⟩ hw Q3 nx rt
    obtain ⟨t, ht, rfl, htm, htake⟩ := nats_at hw
    have hVt := (hm t).mp htm
    have B1 := B.ext x
    have F1 := F.ext x
    have next : ¬ StuckAt N adj fz cr K E t → ∀ H3, Ext H H3 → Ext H H3 ∧ ∀ j ∈ ks.take (i + 1), ¬ StuckAt N adj fz cr K E j := fun hn H3 x3 => ⟨x3, fun j hj => by
      rcases in_take ht hj with hj | rfl
      · exact r6 j hj
      · exact hn⟩
    have no : ¬ rmOf cr K E t ≤ cnt N (adj t) → ¬ StuckAt N adj fz cr K E t := fun h z => h z.2.1
    obtain ⟨kr, itr, ndr, hmr⟩ := (B1.rows t hVt).keys
    have klr := ks_len ndr hmr fun k hk => (B1.rows t hVt).lt hk
    have kle := cnt_le N (adj t)
    refine xIn F1 (brC (fun hz => xNRow B1 hVt (xLenS (B1.rows t hVt) hN (xIn (Cr.ext x) (brC (fun e => ?_) fun e => ?_)))) fun hz => nx _ _ (next (fun h => by rw [h.1] at hz; cases hz) H' x) rfl)
    all_goals
      first | rw [rmOf_t e] at no | rw [rmOf_f e] at no
      refine brD (fun h => xNRow B1 hVt (lcompN (fun c => !fz c) (fun j => .int j) itr rfl (by omega) (fun _ _ _ _ Y N yes no => xIn F1 (brC yes no)) fun b4 hb4 => fun e he => ?_)) fun h => nx _ _ (next (no fun z => h (Int.ofNat_le.mpr z)) H' x) rfl
      have x4 : Ext H' (H'.set b4 (.list (nats (kr.filter fun c => !fz c)))) := Ext.new _ hb4
      have w4 : NL (H'.set b4 (.list (nats (kr.filter fun c => !fz c)))) b4 (kr.filter fun c => !fz c) := AHeap.set_self _ _ _
      have x5 := Ext.new (.list []) he
      have x05 := x.trans (x4.trans x5)
      refine xEqN (x5 _ _ w4) (l' := []) (AHeap.set_self _ _ _) (Nat.le_trans (List.length_filter_le ..) (by omega)) (by decide) (brD (fun hf => rt _ _ _ (q _ x05)) fun hf => nx _ _ (next (fun h => hf (List.filter_eq_nil_iff.mpr fun k hk => ?_)) _ x05) rfl)
      rw [h.2.2 k ((hmr k).mp hk)]; exact Bool.false_ne_true
  · rintro H' ⟨x, r6⟩
    rw [nats_len, take_all] at r6
    obtain ⟨i, hi, hst⟩ := hs
    exact absurd hst (r6 i ((hm i).mpr hi))
end
end Mine
end
section
open PySem PySem.W PyProof.Rows PySem.Calls
set_option maxRecDepth 100000
namespace Mine
noncomputable def IL (H : AHeap) (b : Addr) (l : List Int) : Prop := H b = some (.list (l.map .int))
section
variable {C : Cfg} {n : Nat} {X : AHeap → Prop} {N : Nat} {H : AHeap} {Q : AV → AHeap → Prop} {b : Addr} {row : Nat → Addr} {V : Nat → Bool} {adj : Nat → Nat → Bool}
theorem IntAt.keys {b : Addr} {f : Nat → Option Int} (h : IntAt H N b f) : ∃ ks : List Nat, itemsOf H (.ref b) = some (nats ks) ∧ ks.Nodup ∧ ∀ j, j ∈ ks ↔ (f j).isSome = true := by
  obtain ⟨l, ep, q, k, r⟩ := h
  obtain ⟨ks, e, nd, hm, _⟩ := keys_nat k
  exact ⟨ks, by rw [itemsOf, q]; exact congrArg some e, nd, fun j => by rw [hm, has, r, Option.isSome_map]⟩
theorem lcomp0 {v : AV} {ρ : Ls} {l : List AV} {e : PE} {x : Nat} {c : PEs} (hl : itemsOf H v = some l) (hb : l.length ≤ 1000)
    (turn : ∀ w, w ∈ l → ∀ (Y : AV → AHeap → Prop) (N : AHeap → Prop), N H → dTA C n (fun _ => False) c ((x, w) :: ρ) H fun b H2 => br b (dE C n (fun _ => False) e ((x, w) :: ρ) H2 Y) (N H2)) (fin : newAt (.list (nats [])) H Q) :
    ∃ l, itemsOf H v = some l ∧ l.length ≤ 10000 ∧ ∃ I : Nat → List AV → AHeap → Prop, I 0 [] H ∧ (∀ i acc H', I i acc H' → srcSame H H' v) ∧
      (∀ i acc H' (w : AV), I i acc H' → l[i]? = some w → dTA C n (fun _ => False) c ((x, w) :: ρ) H' fun b H2 => br b (dE C n (fun _ => False) e ((x, w) :: ρ) H2 fun u H3 => I (i + 1) (acc ++ [u]) H3) (I (i + 1) acc H2)) ∧
      (∀ acc H', I l.length acc H' → newAt (.list acc) H' Q) := by
  refine ⟨_, hl, by omega, fun i acc H1 => H1 = H ∧ acc = [], ⟨rfl, rfl⟩, fun i acc H' h => ?_, fun i acc H' w h hw => ?_, fun acc H' h => ?_⟩
  · rw [h.1]; cases v <;> first | exact rfl | exact True.intro
  · rw [h.1, h.2]; exact turn w (List.mem_of_getElem? hw) _ _ ⟨rfl, rfl⟩
  · rw [h.1, h.2]; exact fin
theorem getD_some {f : Nat → Option Int} {k : Nat} (h : (f k).isSome = true) : f k = some ((f k).getD 0) := by
  cases q : f k with
  | none => rw [q] at h; cases h
  | some c => rfl
noncomputable def rmL (cr : Nat → Bool) (tp sv : List Int) (i : Nat) : List Int := if cr i then sv else tp ++ sv
theorem call_is_coloured (g : Ground C) (hn : 4 ≤ n) (hN : N ≤ 8) (B : NAt N b row V adj H) {cr fz lost : Nat → Bool} {col : Nat → Option Int} {xa fa cA lA ta sa : Addr} {tp sv : List Int} (Cr : SetAt H N xa cr) (F : SetAt H N fa fz) (Co : IntAt H N cA col) (Lo : SetAt H N lA lost) (T : IL H ta tp) (S : IL H sa sv) (lt : tp.length ≤ 3) (ls : sv.length ≤ 3)
    (p1 : ∀ i c, V i = true → col i = some c → c ∈ rmL cr tp sv i ∧ ∀ j, adj i j = true → col j ≠ some c)
    (p2 : ∀ i, V i = true → col i = none → (∀ c ∈ rmL cr tp sv i, ∃ j, adj i j = true ∧ col j = some c) ∧ (fz i = true ∨ lost i = true))
    (p3 : ∀ i, lost i = true → V i = true ∧ fz i = false ∧ (col i = none ∨ ∃ j, adj i j = true ∧ fz j = true ∧ col j = none))
    (p4 : ∀ i c, col i = some c → V i = true)
    (q : ∀ H', Ext H H' → Q (.bool true) H') : FCall C n X (.ref 231) [.ref b, .ref xa, .ref fa, .ref cA, .ref lA, .ref ta, .ref sa] H Q := by
  obtain ⟨ks, it, nd, hm⟩ := B.set.keys
  refine fcallU g (fn_law_is_coloured g) (by omega) rfl ?_
  refine forC (envOf 0 [.ref b, .ref xa, .ref fa, .ref cA, .ref lA, .ref ta, .ref sa]) (fun _ H' => Ext H H') it rfl (.refl _) (fun _ _ j => items_same it j) ?_ ?_
  · rintro i H' w x hw Q3 nx rt
    obtain ⟨t, ht, rfl, htm, htake⟩ := nats_at hw
    have hVt := (hm t).mp htm
    refine joinS (fun rA : Addr => envOf 0 [.ref b, .ref xa, .ref fa, .ref cA, .ref lA, .ref ta, .ref sa, .int t, .ref rA]) (fun rA H5 => Ext H H5 ∧ IL H5 rA (rmL cr tp sv t)) (fun K mt => xIn (Cr.ext x) (brC (fun e => ?_) fun e => xCat (x _ _ T) (x _ _ S) (by rw [List.length_map, List.length_map]; omega) fun rA hrA => ?_)) ?_
    · refine mt sa _ _ ⟨x, ?_⟩ rfl
      rw [IL, rmL, if_pos e]; exact x _ _ S
    · refine mt rA _ _ ⟨x.trans (Ext.new _ hrA), ?_⟩ rfl
      rw [IL, rmL, if_neg (by rw [e]; exact Bool.false_ne_true), AHeap.set_self, List.map_append]
    rintro rA H5 ⟨x5, hrA⟩
    have B5 := B.ext x5
    have Co5 := Co.ext x5
    obtain ⟨kr, itr, ndr, hmr⟩ := (B5.rows t hVt).keys
    have klr := ks_len ndr hmr fun k hk => (B5.rows t hVt).lt hk
    have kle := cnt_le N (adj t)
    refine xNRow B5 hVt (lcompN (fun k => (col k).isSome) (fun k => .int ((col k).getD 0)) itr rfl (by omega) (fun _ _ _ _ Y N yes no => xInI Co5 (brC (fun h => xSubI Co5 (getD_some h) (yes h)) no)) fun b4 hb4 => ?_)
    obtain ⟨ar, har⟩ : ∃ ar, ar = (kr.filter fun k => (col k).isSome).map fun k => (col k).getD 0 := ⟨_, rfl⟩
    rw [show ((kr.filter fun k => (col k).isSome).map fun k => AV.int ((col k).getD 0)) = ar.map .int by rw [har, List.map_map]; rfl]
    have ham : ∀ c, c ∈ ar ↔ ∃ j, adj t j = true ∧ col j = some c := fun c => by
      rw [har, List.mem_map]
      refine ⟨fun ⟨j, h1, h2⟩ => ?_, fun ⟨j, h1, h2⟩ => ⟨j, List.mem_filter.mpr ⟨(hmr j).mpr h1, by rw [h2]; rfl⟩, by rw [h2]; rfl⟩⟩
      obtain ⟨h3, h4⟩ := List.mem_filter.mp h1
      exact ⟨j, (hmr j).mp h3, by rw [← h2]; exact getD_some h4⟩
    have x6 : Ext H5 (H5.set b4 (.list (ar.map .int))) := Ext.new _ hb4
    have A6 : IL (H5.set b4 (.list (ar.map .int))) b4 ar := AHeap.set_self _ _ _
    show dSs _ _ _ _ _ (H5.set b4 (.list (ar.map .int))) _
    generalize H5.set b4 (.list (ar.map .int)) = H6 at x6 A6 ⊢
    have R6 : IL H6 rA (rmL cr tp sv t) := x6 _ _ hrA
    have x06 := x5.trans x6
    have Co6 := Co.ext x06
    refine xInI Co6 (brC (fun hs => ?_) fun hs => ?_)
    · have hc := getD_some hs
      obtain ⟨h1, h2⟩ := p1 t _ hVt hc
      exact xSubI Co6 hc (xInL R6 (brF (by rw [decide_eq_true h1]; rfl) (xSubI Co6 hc (xInL A6 (brF (decide_eq_false fun h => by obtain ⟨j, z1, z2⟩ := (ham _).mp h; exact h2 j z1 z2) (nx _ _ x06 rfl))))))
    · have hc : col t = none := Option.not_isSome_iff_eq_none.mp (by rw [hs]; exact Bool.false_ne_true)
      obtain ⟨h1, h2⟩ := p2 t hVt hc
      have hrl : (rmL cr tp sv t).length ≤ 6 := by
        rw [rmL]; split
        · omega
        · rw [List.length_append]; omega
      refine lcomp0 (items_list R6) (by rw [List.length_map]; omega) (fun w hw Y N no => ?_) fun b7 hb7 => fun e he => ?_
      · obtain ⟨c, hcm, rfl⟩ := List.mem_map.mp hw
        exact xInL A6 (brF (by rw [decide_eq_true ((ham c).mpr (h1 c hcm))]; rfl) no)
      have x7 := Ext.new (.list (nats [])) hb7
      have x8 := Ext.new (.list []) he
      have x08 := (x06.trans x7).trans x8
      refine xEqN (l := []) (l' := []) (x8 _ _ (AHeap.set_self _ _ _)) (AHeap.set_self _ _ _) (by decide) (by decide) ?_
      refine xIn (F.ext x08) (brC (fun h3 => xIn (Lo.ext x08) (brF ?_ (nx _ _ x08 rfl))) fun _ => nx _ _ x08 rfl)
      rw [Bool.not_eq_true'] at h3
      rw [h2.resolve_left fun z => by rw [h3] at z; cases z]; rfl
  · rintro H1 x
    obtain ⟨kl, itl, ndl, hml⟩ := Lo.keys
    refine forC [(0, .ref b), (2, .ref fa), (3, .ref cA)] (fun _ H' => Ext H H') (items_ext itl x) rfl x (fun _ H' j => ?_) ?_ ?_
    · obtain ⟨_, _, z, _⟩ := Lo
      show H' lA = H1 lA
      rw [j _ _ z, x _ _ z]
    · rintro i H' w x hw Q3 nx rt
      obtain ⟨t, ht, rfl, htm, htake⟩ := nats_at hw
      obtain ⟨h1, h2, h3⟩ := p3 t ((hml t).mp htm)
      have B5 := B.ext x
      have Co5 := Co.ext x
      have F5 := F.ext x
      refine xIn B5.set (brF (by rw [h1]; rfl) (xIn F5 (brF h2 (xInI Co5 (brC (fun hs => ?_) fun _ => nx _ _ x rfl)))))
      obtain ⟨j, hj1, hj2, hj3⟩ := h3.resolve_left fun z => by rw [z] at hs; cases hs
      obtain ⟨kr, itr, ndr, hmr⟩ := (B5.rows t h1).keys
      have klr := ks_len ndr hmr fun k hk => (B5.rows t h1).lt hk
      have kle := cnt_le N (adj t)
      refine xNRow B5 h1 (lcompN (fun k => fz k && !(col k).isSome) (fun k => .int k) itr rfl (by omega) (fun _ k _ _ Y N yes no => xIn F5 (brC (fun e1 => xInI Co5 (brC (fun e2 => yes ?_) fun e2 => no ?_)) fun e1 => no ?_)) fun b4 hb4 => fun e he => ?_)
      · rw [e1, e2]; rfl
      · rw [e2, Bool.and_false]
      · rw [e1, Bool.false_and]
      have x4 := Ext.new (.list (nats (kr.filter fun k => fz k && !(col k).isSome))) hb4
      have x5 := Ext.new (.list []) he
      refine xEqN (x5 _ _ (AHeap.set_self _ _ _)) (l' := []) (AHeap.set_self _ _ _) (Nat.le_trans (List.length_filter_le ..) (by omega)) (by decide) (brZ (fun e => ?_) (nx _ _ (x.trans (x4.trans x5)) rfl))
      have : j ∈ kr.filter fun k => fz k && !(col k).isSome := List.mem_filter.mpr ⟨(hmr j).mpr hj1, by rw [hj2, hj3]; rfl⟩
      rw [e] at this; cases this
    · rintro H' x
      have B5 := B.ext x
      obtain ⟨kc, itc, ndc, hmc⟩ := (Co.ext x).keys
      have klr := nd_len (N := N) ndc fun j hj => Co.lt (getD_some ((hmc j).mp hj))
      refine lcomp0 itc (by rw [nats_len]; omega) (fun w hw Y N no => ?_) fun b4 hb4 => fun e he => ?_
      · obtain ⟨k, hkm, rfl⟩ := List.mem_map.mp hw
        exact xIn B5.set (brF (by rw [p4 k _ (getD_some ((hmc k).mp hkm))]; rfl) no)
      have x4 := Ext.new (.list (nats [])) hb4
      have x5 := Ext.new (.list []) he
      exact xEqN (l := []) (l' := []) (x5 _ _ (AHeap.set_self _ _ _)) (AHeap.set_self _ _ _) (by decide) (by decide) (q _ (x.trans (x4.trans x5)))
end
end Mine
end
section
open PySem PySem.W PyProof.Rows PySem.Calls
set_option maxRecDepth 100000
namespace Mine
theorem isI_getI {l : List AV} (h : l.all isI = true) : l = (l.map getI).map .int := by
  induction l with
  | nil => rfl
  | cons v l ih =>
    rw [List.all_cons, Bool.and_eq_true] at h
    rw [List.map_cons, List.map_cons, ← ih h.2]
    cases v with
    | int i => rfl
    | _ => cases h.1
theorem sorted_eq {N : Nat} {l : List AV} {fs : List Nat} {p : Nat → Bool} (hp : l.Perm (nats fs)) (hs : (l.map getI).Pairwise (· ≤ ·)) (nd : fs.Nodup) (hm : ∀ j, j ∈ fs ↔ j < N ∧ p j = true) : l = lst N p := by
  have hi : l.all isI = true := by
    rw [List.all_eq_true]
    intro v hv
    obtain ⟨j, _, e⟩ := List.mem_map.mp (hp.mem_iff.mp hv)
    rw [← e]; rfl
  have hi2 := nats_isI ((List.range N).filter p)
  have pm : fs.Perm ((List.range N).filter p) := by
    refine (List.perm_ext_iff_of_nodup nd (List.Pairwise.filter _ List.nodup_range)).mpr fun j => ?_
    rw [hm, List.mem_filter, List.mem_range]
  have e : l.map getI = (nats ((List.range N).filter p)).map getI := by
    refine List.Perm.eq_of_pairwise (le := (· ≤ ·)) (fun a b _ _ h1 h2 => by omega) hs ?_ (((hp.trans (pm.map _))).map getI)
    rw [nats, List.map_map]
    refine List.Pairwise.map _ (fun a b (h : a < b) => ?_) (List.Pairwise.filter _ List.pairwise_lt_range)
    show (a : Int) ≤ b; omega
  show l = nats ((List.range N).filter p)
  rw [isI_getI hi, e, ← isI_getI hi2]
noncomputable def TwAt (H : AHeap) (N : Nat) (v : AV) (p : Nat × Nat) : Prop := ∃ t, v = .ref t ∧ H t = some (.tup [.int p.1, .int p.2]) ∧ p.1 < N ∧ p.2 < N
theorem TwAt.ext {H H' : AHeap} {N : Nat} {v : AV} {p : Nat × Nat} (h : TwAt H N v p) (x : Ext H H') : TwAt H' N v p := let ⟨t, e, k, m⟩ := h; ⟨t, e, x _ _ k, m⟩
noncomputable def TwsAt (H : AHeap) (N : Nat) (b : Addr) (tws : List (Nat × Nat)) : Prop := ∃ l, H b = some (.list l) ∧ l.length ≤ 4 ∧ F2 (TwAt H N) l tws
theorem TwsAt.ext {H H' : AHeap} {N : Nat} {b : Addr} {tws : List (Nat × Nat)} (h : TwsAt H N b tws) (x : Ext H H') : TwsAt H' N b tws :=
  let ⟨l, q, r, z⟩ := h; ⟨l, x _ _ q, r, z.mono fun _ _ t => t.ext x⟩
inductive Conn (tws : List (Nat × Nat)) (hd : Nat → Nat) (head : Nat) : Nat → Prop where
  | refl : Conn tws hd head head
  | step {i j : Nat} : Conn tws hd head i → ((i, j) ∈ tws ∨ (j, i) ∈ tws) → hd j = head → Conn tws hd head j
section
variable {C : Cfg} {n : Nat} {X : AHeap → Prop} {N : Nat} {H H' Hm : AHeap} {Q : AV → AHeap → Prop} {T : Bool → AHeap → Prop}
theorem xSubN {b : Addr} {hd : Nat → Nat} (h : NL H b ((List.range N).map hd)) (hN : N ≤ 8) {j : Nat} (hj : j < N) (q : Q (.int (hd j)) H) : kSub b (j : Int) H Q :=
  xNth h (by rw [nats_len, List.length_map, List.length_range]; omega) (by omega) (by rw [Int.toNat_natCast, nats, List.getElem?_map, List.getElem?_map, List.getElem?_range hj]; rfl) q
theorem xInN {b : Addr} {l : List Nat} (h : NL H b l) {j : Nat} (q : T (decide (j ∈ l)) H) : kIn (j : Int) b H T := by
  unfold kIn
  refine .inr ⟨_, h, nats_isI l, ?_⟩
  rw [show decide (AV.int (j : Int) ∈ nats l) = decide (j ∈ l) from decide_eq_decide.mpr ?_]
  · exact q
  · rw [nats, List.mem_map]
    exact ⟨fun ⟨k, hk, e⟩ => by injection e with e; rw [← Int.ofNat_inj.mp e]; exact hk, fun hj => ⟨j, hj, rfl⟩⟩
theorem xSortI {b : Addr} {l : List AV} (s : sortsOf H b l) (hd : C.hd = false) (hi : l.all isI = true) (hl : l.length ≤ 60) (q : ∀ l', l'.Perm l → (l'.map getI).Pairwise (· ≤ ·) → newAt (.list l') H Q) : kSorted C b H Q := by
  unfold kSorted; exact ⟨l, s, hd, hl, .inl ⟨hi, q⟩⟩
structure GH (N : Nat) (fA wA : Addr) (Hm H : AHeap) (fs ws : List Nat) : Prop where
  ex : Ext Hm H
  F : NL H fA fs
  W : NL H wA ws
  hf : Hm fA = none
  hw : Hm wA = none
  ne : fA ≠ wA
variable {fA wA : Addr} {fs ws : List Nat}
theorem GH.ext (h : GH N fA wA Hm H fs ws) (x : Ext H H') : GH N fA wA Hm H' fs ws := { h with ex := h.ex.trans x, F := x _ _ h.F, W := x _ _ h.W }
theorem GH.pop {j : Nat} (h : GH N fA wA Hm H fs (ws ++ [j])) (hl : ws.length ≤ 900) (q : ∀ H', GH N fA wA Hm H' fs ws → Q (.int j) H') : kLpop wA H Q :=
  xPopN h.W hl fun H' b W => q H' { h with ex := h.ex.but b h.hw, F := h.F.but b h.ne, W := W }
theorem GH.mask (h : GH N fA wA Hm H fs ws) : GH N fA wA (mask H [fA, wA]) H fs ws := { h with ex := mask_ext H _, hf := mask_none (.head _), hw := mask_none (.tail _ (.head _)) }
theorem GH.under (h : GH N fA wA Hm H fs ws) : Ext Hm (Mine.mask H [fA, wA]) := ext_mask h.ex fun c hc => two_mem (P := fun c => Hm c = none) h.hf h.hw hc
theorem GH.keep (h : GH N fA wA Hm H fs ws) (x : Ext H H') {c : Addr} (hc : H c = none) : Mine.mask H' [fA, wA] c = H' c := mask_keep fun m => by
  rcases List.mem_cons.mp m with rfl | m
  · rw [show H c = _ from h.F] at hc; cases hc
  · rw [List.mem_singleton.mp m, show H wA = _ from h.W] at hc; cases hc
structure GrI (N : Nat) (hd : Nat → Nat) (head : Nat) (edge : Nat → Nat → Prop) (pend : Nat → Bool) (fs ws : List Nat) : Prop where
  nd : fs.Nodup
  mem : ∀ x ∈ fs, x < N ∧ hd x = head
  sub : ∀ x ∈ ws, x ∈ fs
  hmem : head ∈ fs
  cls : ∀ x ∈ fs, x ∉ ws → pend x = false → ∀ y, edge x y → hd y = head → y ∈ fs
theorem GrI.push {hd : Nat → Nat} {head : Nat} {edge : Nat → Nat → Prop} {pend : Nat → Bool} {fs ws : List Nat} (I : GrI N hd head edge pend fs ws) {m : Nat} (hm : m < N) (h1 : hd m = head) (h2 : m ∉ fs) : GrI N hd head edge pend (fs ++ [m]) (ws ++ [m]) := by
  refine ⟨List.nodup_append.mpr ⟨I.nd, by simp, fun x hx y hy => ?_⟩, fun x hx => ?_, fun x hx => ?_, List.mem_append_left _ I.hmem, fun x hx hnw hp y he hy => ?_⟩
  · rw [List.mem_singleton.mp hy]; intro e; exact h2 (e ▸ hx)
  · rcases List.mem_append.mp hx with h | h
    · exact I.mem x h
    · rw [List.mem_singleton.mp h]; exact ⟨hm, h1⟩
  · rcases List.mem_append.mp hx with h | h
    · exact List.mem_append_left _ (I.sub x h)
    · exact List.mem_append_right _ h
  · rw [List.mem_append, not_or] at hnw
    rcases List.mem_append.mp hx with h | h
    · exact List.mem_append_left _ (I.cls x h hnw.1 hp y he hy)
    · exact absurd h hnw.2
theorem le8 {k N m : Nat} (h : k ≤ N) (hN : N ≤ 8) (hm : 8 ≤ m) : k ≤ m := Nat.le_trans h (Nat.le_trans hN hm)
theorem gr_ws {w x N m : Nat} (h : w + x ≤ 2 * N + 1) (hN : N ≤ 8) (hm : 17 ≤ m) : w ≤ m := by omega
theorem gr_ws1 {w x N m : Nat} (h : w + 1 + x ≤ 2 * N + 1) (hN : N ≤ 8) (hm : 17 ≤ m) : w ≤ m := by omega
theorem gr_lt {a w x : Nat} (h : a ≤ w + x) : a < w + 1 + x := by omega
theorem gr_le {a w x b : Nat} (h : a ≤ w + x) (h' : w + 1 + x ≤ b) : a ≤ b := by omega
theorem gr_grow {w f N b : Nat} (h : w + 2 * (N - f) ≤ b) (hf : f + 1 ≤ N) : w + 1 + 2 * (N - (f + 1)) ≤ b := by omega
inductive GrW (N : Nat) (hd : Nat → Nat) (head : Nat) (edge : Nat → Nat → Prop) (fA wA : Addr) (Hm : AHeap) (m : Nat) (H : AHeap) : Prop where
  | mk (fs ws : List Nat) (G : GH N fA wA Hm H fs ws) (I : GrI N hd head edge (fun _ => false) fs ws) (bd : ws.length + 2 * (N - fs.length) ≤ 2 * N + 1) (e : m = ws.length + 2 * (N - fs.length))
inductive GrP (N : Nat) (hd : Nat → Nat) (head : Nat) (edge : Nat → Nat → Prop) (fA wA : Addr) (Hm : AHeap) (here bd : Nat) (P : List Nat → Prop) (H : AHeap) : Prop where
  | mk (fs ws : List Nat) (G : GH N fA wA Hm H fs ws) (I : GrI N hd head edge (fun x => decide (x = here)) fs ws) (le : ws.length + 2 * (N - fs.length) ≤ bd) (hh : here ∈ fs) (p : P fs)
noncomputable def Led (hd : Nat → Nat) (head here : Nat) (ps : List (Nat × Nat)) (fs : List Nat) : Prop := ∀ p ∈ ps, p.1 = here → hd p.2 = head → p.2 ∈ fs
theorem GrI.here {hd : Nat → Nat} {head here : Nat} {edge : Nat → Nat → Prop} {fs ws : List Nat} (I : GrI N hd head edge (fun _ => false) fs (ws ++ [here])) : GrI N hd head edge (fun x => decide (x = here)) fs ws :=
  ⟨I.nd, I.mem, fun x hx => I.sub x (List.mem_append_left _ hx), I.hmem, fun x hx hnw hp => I.cls x hx (fun hc => by
    rcases List.mem_append.mp hc with h | h
    · exact hnw h
    · rw [List.mem_singleton.mp h, decide_eq_true rfl] at hp; cases hp) rfl⟩
theorem call_group (g : Ground C) (hdl : C.hd = false) (hn : 4 ≤ n) (hN : N ≤ 8) {ha wa : Addr} {hd : Nat → Nat} {tws : List (Nat × Nat)} {head : Nat} (A : NL H ha ((List.range N).map hd)) (T : TwsAt H N wa tws) (hh : head < N) (hhd : hd head = head)
    (conn : ∀ i, i < N → hd i = head → Conn tws hd head i) (q : ∀ b H', Ext H H' → H b = none → H' b = some (.list (lst N fun i => hd i == head)) → Q (.ref b) H') : FCall C n X (.ref 211) [.int head, .ref ha, .ref wa] H Q := by
  refine fcallU g (fn_law_group g) (by omega) rfl fun fA h1 => fun wA h2 => ?_
  have x1 : Ext H (H.set fA (.list [.int head])) := Ext.new _ h1
  have w1 : NL (H.set fA (.list [.int head])) fA [head] := AHeap.set_self _ _ _
  have x2 := Ext.new (.list [.int head]) h2
  have G2 : GH N fA wA H ((H.set fA (.list [.int head])).set wA (.list [.int head])) [head] [head] := ⟨x1.trans x2, x2 _ _ w1, AHeap.set_self _ _ _, h1, x1.free h2, ne_new w1 h2⟩
  show dSs _ _ _ _ _ ((H.set fA (.list [.int head])).set wA (.list [.int head])) _
  generalize (H.set fA (.list [.int head])).set wA (.list [.int head]) = H2 at G2 ⊢
  obtain ⟨l, hl, hll, hF⟩ := T
  refine whileC [(0, .int head), (1, .ref ha), (2, .ref wa), (3, .ref fA), (4, .ref wA)] (GrW N hd head (fun x y => (x, y) ∈ tws ∨ (y, x) ∈ tws) fA wA H) _ rfl
    ⟨[head], [head], G2, ⟨List.nodup_cons.mpr ⟨List.not_mem_nil, List.nodup_nil⟩, fun x hx => by rw [List.mem_singleton.mp hx]; exact ⟨hh, hhd⟩, fun x hx => hx, .head _, fun x hx hx' => absurd hx hx'⟩, by show 1 + 2 * (N - 1) ≤ _; omega, rfl⟩ ?_
  rintro _ H' ⟨fs, ws, G', I, bd, rfl⟩ Q3 nx ct Q4 en e he
  have hlen := nd_len I.nd fun j hj => (I.mem j hj).1
  have G6 := G'.ext (Ext.new (.list []) he)
  refine xEqN G6.W (l' := []) (AHeap.set_self _ _ _) (gr_ws bd hN (by decide)) (by decide) (brN (fun hw => ?_) fun hw => en _ ?_)
  · show dSs _ _ _ _ _ (H'.set e (.list [])) _
    generalize H'.set e (.list []) = H6 at G6 ⊢
    obtain ⟨w0, here, rfl⟩ : ∃ l0 h, ws = l0 ++ [h] := ⟨ws.dropLast, ws.getLast hw, (List.dropLast_concat_getLast hw).symm⟩
    have hlen2 : (w0 ++ [here]).length = w0.length + 1 := List.length_append
    rw [hlen2] at bd nx
    refine xHasL rfl G6.W (G6.pop (gr_ws1 bd hN (by decide)) fun H7 G7 => ?_)
    refine forTC [(0, .int head), (1, .ref ha), (2, .ref wa), (3, .ref fA), (4, .ref wA), (5, .int here)] (fun i H' => GrP N hd head (fun x y => (x, y) ∈ tws ∨ (y, x) ∈ tws) fA wA H here (w0.length + 2 * (N - fs.length)) (fun fs' => Led hd head here (tws.take i) fs' ∧ Led hd head here ((tws.take i).map Prod.swap) fs') H') (items_list (G7.ex _ _ hl)) rfl
      ⟨fs, w0, G7, I.here, Nat.le_refl _, I.sub here (List.mem_append_right _ (List.mem_singleton.mpr rfl)), fun _ h => (nomatch h), fun _ h => (nomatch h)⟩ ?_ ?_ ?_
    · rintro i H8 ⟨_, _, G8, _⟩
      show H8 wa = H7 wa
      rw [G8.ex _ _ hl, G7.ex _ _ hl]
    · rintro i H8 w ⟨fs8, ws8, G8, I8, bd8, hh8, pr8, pr9⟩ hw2 Q5 nx rt
      obtain ⟨⟨ox, oy⟩, hmem, t, rfl, ht, hox, hoy⟩ := hF.get hw2
      refine xUnp (.inl (G8.ex _ _ ht)) rfl fun t1 ht1 => fun t2 ht2 => fun bL hbL => ?_
      have x9 := Ext.new (.tup [.int ox, .int oy]) ht1
      have x10 := Ext.new (.tup [.int oy, .int ox]) ht2
      have x11 := Ext.new (.list [.ref t1, .ref t2]) hbL
      have xx := (x9.trans x10).trans x11
      have G11 := G8.ext xx
      have k1 := (G8.keep xx ht1).trans (x11 _ _ (x10 _ _ (AHeap.set_self _ _ _)))
      have k2 := (G8.keep xx (x9.free ht2)).trans (x11 _ _ (AHeap.set_self _ _ _))
      have k3 := (G8.keep xx ((x9.trans x10).free hbL)).trans (AHeap.set_self _ _ _)
      have w11 := AHeap.set_self ((H8.set t1 (.tup [.int ox, .int oy])).set t2 (.tup [.int oy, .int ox])) bL (.list [.ref t1, .ref t2])
      generalize ((H8.set t1 (.tup [.int ox, .int oy])).set t2 (.tup [.int oy, .int ox])).set bL (.list [.ref t1, .ref t2]) = H11 at G11 k1 k2 k3 w11 ⊢
      have xk := G11.under
      have Gk := G11.mask
      generalize mask H11 [fA, wA] = Hk at xk Gk k1 k2 k3
      have pairs : ∀ {k : Nat} {w : AV}, ([.ref t1, .ref t2] : List AV)[k]? = some w → ∃ (t : Addr) (p : Nat × Nat), w = .ref t ∧ Hk t = some (.tup [.int (p.1 : Nat), .int (p.2 : Nat)]) ∧ p.1 < N ∧ p.2 < N ∧ [(ox, oy), (oy, ox)][k]? = some p := fun {k w} h => by
        match k, h with
        | 0, h => cases h; exact ⟨t1, (ox, oy), rfl, k1, hox, hoy, rfl⟩
        | 1, h => cases h; exact ⟨t2, (oy, ox), rfl, k2, hoy, hox, rfl⟩
        | k + 2, h => cases h
      refine forTC [(0, .int head), (1, .ref ha), (2, .ref wa), (3, .ref fA), (4, .ref wA), (5, .int here)] (fun k H' => GrP N hd head (fun x y => (x, y) ∈ tws ∨ (y, x) ∈ tws) fA wA Hk here (w0.length + 2 * (N - fs.length)) (fun fs' => (∀ x ∈ fs8, x ∈ fs') ∧ Led hd head here ([(ox, oy), (oy, ox)].take k) fs') H') (items_list w11) rfl
        ⟨fs8, ws8, Gk, I8, bd8, hh8, fun x hx => hx, fun _ h => (nomatch h)⟩ ?_ ?_ ?_
      · rintro k H12 ⟨_, _, G12, _⟩
        show H12 bL = H11 bL
        rw [G12.ex _ _ k3, w11]
      · rintro k H12 w ⟨fs', ws', G12, I12, bd12, hh12, sb12, p1⟩ hw3 Q6 nx rt
        obtain ⟨t, ⟨ci, mi⟩, rfl, ht, hci, hmi, hp⟩ := pairs hw3
        have hfl := nd_len I12.nd fun j hj => (I12.mem j hj).1
        have stay : (ci = here → hd mi = head → mi ∈ fs') → ∀ p ∈ [(ox, oy), (oy, ox)].take (k + 1), p.1 = here → hd p.2 = head → p.2 ∈ fs' := fun h p hm => by
          rcases in_take hp hm with hm | rfl
          · exact p1 p hm
          · exact h
        refine xUnp (.inl (G12.ex _ _ ht)) rfl (brD (fun c1 => ?_) fun c1 => nx _ _ ⟨fs', ws', G12, I12, bd12, hh12, ⟨sb12, stay fun z => (c1 (by rw [z])).elim⟩⟩ rfl)
        refine xSubN (G12.ex _ _ (xk _ _ A)) hN hmi (brD (fun c2 => ?_) fun c2 => nx _ _ ⟨fs', ws', G12, I12, bd12, hh12, ⟨sb12, stay fun _ z => (c2 (by rw [z])).elim⟩⟩ rfl)
        refine xInN G12.F (brN (fun c3 => ?_) fun c3 => nx _ _ ⟨fs', ws', G12, I12, bd12, hh12, ⟨sb12, stay fun _ _ => c3⟩⟩ rfl)
        have I14 := I12.push hmi (Int.ofNat_inj.mp c2) c3
        have hfl2 := nd_len I14.nd fun j hj => (I14.mem j hj).1
        rw [List.length_append] at hfl2
        have hfl2 : fs'.length + 1 ≤ N := hfl2
        refine xHasL rfl G12.F (xAppN G12.F (le8 hfl hN (by decide)) fun H13 b13 F13 => xHasL rfl (G12.W.but b13 G12.ne.symm) (xAppN (G12.W.but b13 G12.ne.symm) (gr_ws (gr_le bd12 bd) hN (by decide)) fun H14 b14 W14 => nx _ _ ⟨fs' ++ [mi], ws' ++ [mi], { G12 with ex := (G12.ex.but b13 G12.hf).but b14 G12.hw, F := F13.but b14 G12.ne, W := W14 }, I14, ?_, List.mem_append_left _ hh12, fun x hx => List.mem_append_left _ (sb12 x hx), fun p hm => ?_⟩ rfl))
        · rw [List.length_append, List.length_append]; show ws'.length + 1 + 2 * (N - (fs'.length + 1)) ≤ _; exact gr_grow bd12 hfl2
        · rcases in_take hp hm with hm | rfl
          · exact fun a b => List.mem_append_left _ (p1 p hm a b)
          · exact fun _ _ => List.mem_append_right _ (List.mem_singleton.mpr rfl)
      · rintro H12 ⟨fs', ws', G12, I12, bd12, hh12, sb12, p1⟩
        refine nx _ _ ⟨fs', ws', { G12 with ex := xk.trans G12.ex, hf := G7.hf, hw := G7.hw }, I12, bd12, hh12, fun p hm => ?_, fun p hm => ?_⟩ rfl
        · rcases in_take hmem hm with hm | rfl
          · exact fun a b => sb12 _ (pr8 p hm a b)
          · exact p1 _ (.head _)
        · rw [take_succ hmem, List.map_append] at hm
          rcases List.mem_append.mp hm with hm | hm
          · exact fun a b => sb12 _ (pr9 p hm a b)
          · rw [List.mem_singleton.mp hm]; exact p1 (oy, ox) (.tail _ (.head _))
    · rintro H12 ⟨fs', ws', G12, I12, bd12, hh12, pr1, pr2⟩
      rw [hF.length, take_all] at pr1 pr2
      refine nx _ _ _ (gr_lt bd12) ⟨fs', ws', G12, ⟨I12.nd, I12.mem, I12.sub, I12.hmem, fun x hx hnw _ y he hy => ?_⟩, gr_le bd12 bd, rfl⟩ rfl
      by_cases e : x = here
      · rcases he with he | he
        · exact pr1 _ he e hy
        · exact pr2 (x, y) (List.mem_map.mpr ⟨_, he, rfl⟩) e hy
      · exact I12.cls x hx hnw (decide_eq_false e) y he hy
  · have hfs : ∀ j, j ∈ fs ↔ j < N ∧ (hd j == head) = true := fun j => by
      refine ⟨fun h => ⟨(I.mem j h).1, by rw [(I.mem j h).2, beq_self_eq_true]⟩, fun h => ?_⟩
      have hc := conn j h.1 (eq_of_beq h.2)
      clear h
      induction hc with
      | refl => exact I.hmem
      | step _ he2 hd2 ih => exact I.cls _ ih (by rw [hw]; exact List.not_mem_nil) rfl _ he2 hd2
    refine xSortI (.inl G6.F) hdl (nats_isI _) (by rw [nats_len]; exact le8 hlen hN (by decide)) fun l' hp hs b hb => ?_
    refine q b _ (G6.ex.trans (Ext.new _ hb)) (G6.ex.free hb) ?_
    rw [AHeap.set_self, sorted_eq hp hs I.nd hfs]
end
end Mine
end
section
open PySem PySem.W PyProof.Rows PySem.Calls
set_option maxRecDepth 100000
namespace Mine
section
variable {C : Cfg} {n : Nat} {X : AHeap → Prop} {N : Nat} {H : AHeap} {Q : AV → AHeap → Prop} {R : Bool → AHeap → Prop} {U : AHeap → Prop} {b : Addr} {row : Nat → Addr} {V : Nat → Bool} {adj : Nat → Nat → Bool}
theorem lst_le (p : Nat → Bool) {m : Nat} (hN : N ≤ 8) (hm : 8 ≤ m) : ((List.range N).filter p).length ≤ m := Nat.le_trans (List.length_filter_le ..) (by rw [List.length_range]; exact Nat.le_trans hN hm)
theorem xEqSame {a b : Addr} {p : Nat → Bool} (hN : N ≤ 8) (ha : H a = some (.list (lst N p))) (hb : H b = some (.list (lst N p))) (q : R true H) : kEq a b H R :=
  xEqN ha hb (lst_le p hN (by decide)) (lst_le p hN (by decide)) (by rw [decide_eq_true rfl]; exact q)
theorem xSortS {p : Nat → Bool} (h : SetAt H N b p) (hd : C.hd = false) (hN : N ≤ 8) (q : ∀ c H', H c = none → Ext H H' → H' c = some (.list (lst N p)) → Q (.ref c) H') : kSorted C b H Q := by
  have h' := h
  obtain ⟨l, ep, h1, k, r⟩ := h
  obtain ⟨ks, e, nd, hm, _⟩ := keys_nat k
  refine xSortI (.inr ⟨l, ep, h1, rfl⟩) hd (by rw [e]; exact nats_isI _) (by rw [List.length_map]; exact le8 k.le hN (by decide)) fun l' hp hs c hc => ?_
  rw [e] at hp
  have := sorted_eq (N := N) (p := p) hp hs nd fun j => by
    rw [hm, r]; exact ⟨fun z => ⟨h'.lt z, z⟩, fun z => z.2⟩
  rw [this]
  exact q c _ hc (Ext.new _ hc) (AHeap.set_self _ _ _)
theorem xNPut (h : NAt N b row V adj H) (hN : N ≤ 8) (hr : ∀ k, V k = true → row k ≠ b) {i : Nat} (hi : i < N) {rA : Addr} {ep : Nat} (hb : H rA = none)
    (q : ∀ H', But1 b (H.set rA (.dict [] ep)) H' → NAt N b (fun k => if k = i then rA else row k) (fun k => decide (k = i) || V k) (fun k => if k = i then fun _ => false else adj k) H' → U H') : kSetSub b i (.ref rA) (H.set rA (.dict [] ep)) U := by
  obtain ⟨l, ep0, h1, k, r⟩ := h.dict
  have x1 : Ext H (H.set rA (.dict [] ep)) := Ext.new _ hb
  have nb : rA ≠ b := fun e => by rw [e, h1] at hb; cases hb
  have w1 : (H.set rA (.dict [] ep)) rA = some (.dict [] ep) := AHeap.set_self _ _ _
  generalize H.set rA (.dict [] ep) = H1 at *
  refine xSetD (x1 _ _ h1) (le8 k.le hN (by decide)) fun ep' => q _ (But1.set _ _ _) ⟨⟨_, ep', AHeap.set_self _ _ _, k.put hi _, fun j => ?_⟩, fun j hj => ?_⟩
  · rw [lookup_put_nat, r]
    show _ = if (decide (j = i) || V j) = true then some (AV.ref (if j = i then rA else row j)) else none
    by_cases e : j = i
    · rw [if_pos e, if_pos e, decide_eq_true e]; rfl
    · rw [if_neg e, if_neg e, decide_eq_false e]; rfl
  · show SetAt _ N (if j = i then rA else row j) (if j = i then _ else _)
    by_cases e : j = i
    · rw [if_pos e, if_pos e]
      exact ⟨[], ep, by rw [AHeap.set_ne _ _ nb]; exact w1, KeysN.nil N, fun j => rfl⟩
    · rw [if_neg e, if_neg e]
      have hj : V j = true := by
        have hj : (decide (j = i) || V j) = true := hj
        rw [decide_eq_false e] at hj; exact hj
      exact ((h.rows j hj).ext x1).but (But1.set _ _ _) (hr j hj)
theorem NAt.setRow (h : NAt N b row V adj H) {i : Nat} (hi : V i = true) (hr : ∀ k, V k = true → k ≠ i → row k ≠ row i) (hb : row i ≠ b) {H' : AHeap} (x : But1 (row i) H H') {p : Nat → Bool} (s : SetAt H' N (row i) p) : NAt N b row V (fun k => if k = i then p else adj k) H' := by
  obtain ⟨l, ep0, h1, k, r⟩ := h.dict
  refine ⟨⟨l, ep0, by rw [x.to _ hb.symm]; exact h1, k, r⟩, fun j hj => ?_⟩
  show SetAt _ N (row j) (if j = i then p else adj j)
  by_cases e : j = i
  · rw [if_pos e, e]; exact s
  · rw [if_neg e]; exact (h.rows j hj).but x (hr j hj e)
theorem xSubIL {c : Nat → Int} (h : IL H b ((List.range N).map c)) (hN : N ≤ 8) {j : Nat} (hj : j < N) (q : Q (.int (c j)) H) : kSub b (j : Int) H Q :=
  xNth h (by rw [List.length_map, List.length_map, List.length_range]; exact Nat.le_trans hN (by decide)) (Int.natCast_nonneg _) (by rw [Int.toNat_natCast, List.getElem?_map, List.getElem?_map, List.getElem?_range hj]; rfl) q
theorem xSumI {l : List Int} (h : IL H b l) (hd : C.hd = false) (hl : l.length ≤ 1000) (q : Q (.int l.sum) H) : kSum C b H Q := by
  unfold kSum
  refine ⟨_, h, hd, ints_isI l, by rw [List.length_map]; exact hl, ?_⟩
  rw [show (l.map AV.int).map getI = l by rw [List.map_map]; exact List.map_id l]; exact q
theorem xLenIL {c : Nat → Int} (h : IL H b ((List.range N).map c)) (hN : N ≤ 8) (q : Q (.int N) H) : kLen b H Q :=
  xLenI h (by rw [List.length_map, List.length_range]; exact Nat.le_trans hN (by decide)) (by rw [List.length_map, List.length_range]; exact q)
theorem xRange (hN : N ≤ 8) (q : ∀ c H', H c = none → Ext H H' → itemsOf H' (.ref c) = some (nats (List.range N)) → Q (.ref c) H') : kRange (N : Int) H Q := by
  unfold kRange
  refine ⟨Int.natCast_nonneg _, by omega, fun c hc => q c _ hc (Ext.new _ hc) ?_⟩
  rw [itemsOf, AHeap.set_self, Int.toNat_natCast]; rfl
theorem SetAt.mask {c : Addr} {p : Nat → Bool} {L : List Addr} (s : SetAt H N c p) (h : c ∉ L) : SetAt (mask H L) N c p := by
  obtain ⟨l, ep, q, r⟩ := s; exact ⟨l, ep, (mask_keep h).trans q, r⟩
theorem two_not {b c d : Addr} (hb : d ≠ b) (hc : d ≠ c) : d ∉ [b, c] := fun h => by
  rcases List.mem_cons.mp h with h | h
  · exact hb h
  · exact hc (List.mem_singleton.mp h)
end
end Mine
end
section
open PySem PySem.W PyProof.Rows PySem.Calls
set_option maxRecDepth 100000
namespace Mine
structure JoinOk (N : Nat) (st : GS) (ldr : Nat → Nat) (A : Nat → Nat → Bool) (cost : Nat → Int) (cx fz : Nat → Bool) (tws : List (Nat × Nat)) : Prop where
  ld : ∃ rk, LD N st.ali ldr rk
  lead : ∀ i, i < N → (isL st i = true ↔ ldr i = i)
  conn : ∀ h i, h < N → ldr h = h → i < N → ldr i = h → Conn tws ldr h i
  froz : ∀ h i, h < N → ldr h = h → i < N → ldr i = h → fz i = true → cnt N (fun j => ldr j == h) ≤ 1
  apart : ∀ i j, i < N → A i j = true → ldr i ≠ ldr j
  adj : ∀ h x, h < N → ldr h = h → (st.adj h x = true ↔ ∃ c o, c < N ∧ ldr c = h ∧ A c o = true ∧ ldr o = x)
  cross : ∀ h, h < N → ldr h = h → (st.cross h = true ↔ ∃ c, c < N ∧ ldr c = h ∧ cx c = true)
  cost : ∀ h, h < N → ldr h = h → st.cost h = (((List.range N).filter fun i => ldr i == h).map cost).sum
section
variable {N : Nat} {st : GS}
theorem leaders_lst {ldr : Nat → Nat} (J : ∀ i, i < N → (isL st i = true ↔ ldr i = i)) : lst N (fun i => st.ali i == i) = lst N fun i => ldr i == i := lst_congr fun i hi => by
  have := J i hi
  rw [isL] at this
  rw [Bool.eq_iff_iff, this, beq_iff_eq]
inductive JnP (N : Nat) (rA xA : Addr) (Hk : AHeap) (P : (Nat → Bool) → Prop) (pX : Nat → Bool) (H : AHeap) : Prop where
  | mk (p : Nat → Bool) (ex : Ext Hk H) (R : SetAt H N rA p) (hp : P p) (X : SetAt H N xA pX)
inductive JnO (N : Nat) (st : GS) (ks : List Nat) (bA xA : Addr) (Hm : AHeap) (i : Nat) (H : AHeap) : Prop where
  | mk (row : Nat → Addr) (ex : Ext Hm H) (B : NAt N bA row (fun k => decide (k ∈ ks.take i)) st.adj H) (hr : ∀ k ∈ ks.take i, row k ≠ bA ∧ row k ≠ xA) (X : SetAt H N xA fun k => decide (k ∈ ks.take i) && st.cross k)
noncomputable def pC (A : Nat → Nat → Bool) (ldr : Nat → Nat) (gs : List Nat) (p : Nat → Bool) : Prop := ∀ x, p x = true ↔ ∃ c, c ∈ gs ∧ ∃ o, A c o = true ∧ ldr o = x
noncomputable def pN (ldr : Nat → Nat) (p : Nat → Bool) (kr : List Nat) (p' : Nat → Bool) : Prop := ∀ x, p' x = true ↔ (p x = true ∨ ∃ o, o ∈ kr ∧ ldr o = x)
noncomputable def pX (cx : Nat → Bool) (h : Nat) (pc : Nat → Bool) (gs : List Nat) (k : Nat) : Bool := (decide (k = h) && gs.any cx) || pc k
theorem pN_put {ldr : Nat → Nat} {p p' : Nat → Bool} {kr : List Nat} {j o : Nat} (ho : kr[j]? = some o) (h : pN ldr p (kr.take j) p') : pN ldr p (kr.take (j + 1)) fun k => decide (k = ldr o) || p' k := fun x => by
  rw [take_succ ho, Bool.or_eq_true, decide_eq_true_iff, h x]
  refine ⟨fun z => ?_, fun z => ?_⟩
  · rcases z with rfl | z | ⟨o', h1, h2⟩
    · exact .inr ⟨o, List.mem_append_right _ (.head _), rfl⟩
    · exact .inl z
    · exact .inr ⟨o', List.mem_append_left _ h1, h2⟩
  · rcases z with z | ⟨o', h1, h2⟩
    · exact .inr (.inl z)
    · rcases List.mem_append.mp h1 with h1 | h1
      · exact .inr (.inr ⟨o', h1, h2⟩)
      · rw [List.mem_singleton.mp h1] at h2; exact .inl h2.symm
theorem pC_next {A : Nat → Nat → Bool} {ldr : Nat → Nat} {gs kr : List Nat} {i c : Nat} {p p' : Nat → Bool} (hc : gs[i]? = some c) (hm : ∀ o, o ∈ kr ↔ A c o = true) (h : pC A ldr (gs.take i) p) (h' : pN ldr p kr p') : pC A ldr (gs.take (i + 1)) p' := fun x => by
  rw [h' x, h x, take_succ hc]
  refine ⟨fun z => ?_, fun ⟨c', h1, o, h2, h3⟩ => ?_⟩
  · rcases z with ⟨c', h1, h2⟩ | ⟨o, h1, h2⟩
    · exact ⟨c', List.mem_append_left _ h1, h2⟩
    · exact ⟨c, List.mem_append_right _ (.head _), o, (hm o).mp h1, h2⟩
  · rcases List.mem_append.mp h1 with h1 | h1
    · exact .inl ⟨c', h1, o, h2, h3⟩
    · rw [List.mem_singleton.mp h1] at h2; exact .inr ⟨o, (hm o).mpr h2, h3⟩
theorem pX_no {cx : Nat → Bool} {h : Nat} {pc : Nat → Bool} {gs : List Nat} {i c : Nat} (hc : gs[i]? = some c) (e : cx c = false) : pX cx h pc (gs.take i) = pX cx h pc (gs.take (i + 1)) := by
  funext k; rw [pX, pX, take_succ hc, List.any_append, List.any_cons, e, List.any_nil, Bool.or_false, Bool.or_false]
theorem pX_yes {cx : Nat → Bool} {h : Nat} {pc : Nat → Bool} {gs : List Nat} {i c : Nat} (hc : gs[i]? = some c) (e : cx c = true) : (fun k => decide (k = h) || pX cx h pc (gs.take i) k) = pX cx h pc (gs.take (i + 1)) := by
  funext k
  rw [pX, pX, take_succ hc, List.any_append, List.any_cons, e, Bool.true_or, Bool.or_true, Bool.and_true]
  cases decide (k = h) <;> rfl
theorem JoinOk.rowIs {ldr : Nat → Nat} {A : Nat → Nat → Bool} {cost : Nat → Int} {cx fz : Nat → Bool} {tws : List (Nat × Nat)} (J : JoinOk N st ldr A cost cx fz tws) {h : Nat} (hh : h < N) (hl : ldr h = h) {gs : List Nat} (hg : ∀ j, j ∈ gs ↔ j < N ∧ ldr j = h) {p : Nat → Bool} (hp : pC A ldr gs p) : p = st.adj h := by
  funext x
  rw [Bool.eq_iff_iff, hp, J.adj h x hh hl]
  exact ⟨fun ⟨c, h1, o, h2, h3⟩ => ⟨c, o, ((hg c).mp h1).1, ((hg c).mp h1).2, h2, h3⟩, fun ⟨c, o, h1, h2, h3, h4⟩ => ⟨c, (hg c).mpr ⟨h1, h2⟩, o, h3, h4⟩⟩
theorem JoinOk.crossIs {ldr : Nat → Nat} {A : Nat → Nat → Bool} {cost : Nat → Int} {cx fz : Nat → Bool} {tws : List (Nat × Nat)} (J : JoinOk N st ldr A cost cx fz tws) {h : Nat} (hh : h < N) (hl : ldr h = h) {gs : List Nat} (hg : ∀ j, j ∈ gs ↔ j < N ∧ ldr j = h) : gs.any cx = st.cross h := by
  rw [Bool.eq_iff_iff, J.cross h hh hl, List.any_eq_true]
  exact ⟨fun ⟨c, h1, h2⟩ => ⟨c, ((hg c).mp h1).1, ((hg c).mp h1).2, h2⟩, fun ⟨c, h1, h2, h3⟩ => ⟨c, (hg c).mpr ⟨h1, h2⟩, h3⟩⟩
theorem pX_next {ks : List Nat} {i h : Nat} {cr : Nat → Bool} (hh : ks[i]? = some h) (hn : h ∉ ks.take i) : (fun k => (decide (k = h) && cr h) || (decide (k ∈ ks.take i) && cr k)) = fun k => decide (k ∈ ks.take (i + 1)) && cr k := by
  funext k
  by_cases e : k = h
  · rw [e, decide_eq_true rfl, decide_eq_false hn, decide_eq_true (show h ∈ ks.take (i + 1) by rw [take_succ hh]; exact List.mem_append_right _ (.head _))]; cases cr h <;> rfl
  · rw [decide_eq_false e, decide_eq_decide.mpr (mem_take_succ hh e)]; rfl
end
end Mine
end
section
open PySem PySem.W PyProof.Rows PySem.Calls
set_option maxRecDepth 100000
namespace Mine
section
variable {C : Cfg} {n : Nat} {X : AHeap → Prop} {N : Nat} {H : AHeap} {Q : AV → AHeap → Prop} {a : GA} {st : GS}
noncomputable def jnR (gx na ca cxa wa fa hA bA xA : Addr) (N : Nat) (r : Ls) : Ls := (0, .ref gx) :: (1, .ref na) :: (2, .ref ca) :: (3, .ref cxa) :: (4, .ref wa) :: (5, .ref fa) :: (6, .int N) :: (7, .ref hA) :: (9, .ref bA) :: (10, .ref xA) :: r
theorem call_joined (g : Ground C) (hd : C.hd = false) (hn : 12 ≤ n) (hN : N ≤ 8) (G : GAt N a st H) {A : Nat → Nat → Bool} {ldr : Nat → Nat} {cost : Nat → Int} {cx fz : Nat → Bool} {tws : List (Nat × Nat)} (J : JoinOk N st ldr A cost cx fz tws) {na ca cxa wa fa : Addr} {nrow : Nat → Addr}
    (Na : NAt N na nrow (fun j => decide (j < N)) A H) (Ca : IL H ca ((List.range N).map cost)) (Cx : SetAt H N cxa cx) (T : TwsAt H N wa tws) (F : SetAt H N fa fz)
    (q : ∀ t hA bA xA row H', Ext H H' → H' t = some (.tup [.ref hA, .ref bA, .ref xA]) → NL H' hA ((List.range N).map ldr) → NAt N bA row (fun h => decide (h < N) && isL st h) st.adj H' → SetAt H' N xA (fun h => decide (h < N) && isL st h && st.cross h) → Q (.ref t) H') :
    FCall C n X (.ref 216) [.ref a.x, .ref na, .ref ca, .ref cxa, .ref wa, .ref fa] H Q := by
  obtain ⟨rk, L⟩ := J.ld
  have hn4 : 4 ≤ n - 1 := by omega
  have hn8 : 8 ≤ n - 1 := by omega
  have lr : (List.range N).length ≤ 1000 := by rw [List.length_range]; exact Nat.le_trans hN (by decide)
  refine fcallU g (fn_law_joined g) (by omega) rfl (xLenIL Ca hN (xRange hN fun c1 H1 hc1 x1 it1 => ?_))
  refine lcompN (fun _ => true) (fun j => .int (ldr j)) it1 rfl lr (fun i j hj _ Y No yes no => xM ((G.ext x1).mLeader g) (ce_Graph_leader g) (call_leader g hn4 (G.ext x1) L (List.mem_range.mp hj) (yes rfl))) fun hA hhA => ?_
  have x2 := x1.trans (Ext.new (.list (((List.range N).filter fun _ => true).map fun j => AV.int (ldr j))) hhA)
  have Hd : NL (H1.set hA (.list (((List.range N).filter fun _ => true).map fun j => AV.int (ldr j)))) hA ((List.range N).map ldr) := by rw [NL, AHeap.set_self, filter_all, nats, List.map_map]; rfl
  show dSs _ _ _ _ _ (H1.set hA (.list (((List.range N).filter fun _ => true).map fun j => AV.int (ldr j)))) _
  generalize H1.set hA (.list (((List.range N).filter fun _ => true).map fun j => AV.int (ldr j))) = H2 at x2 Hd ⊢
  have G2 := G.ext x2
  refine xM (G2.mLeaders g) (ce_Graph_leaders g) (call_leaders g hn4 hN G2 fun bl H3 x3 _ h3 => xRange hN fun c4 H4 hc4 x4 it4 => ?_)
  have x34 := x3.trans x4
  refine lcompN (fun i => ldr i == i) (fun j => .int j) it4 rfl lr (fun i j hj _ Y No yes no => xSubN (x34 _ _ Hd) hN (List.mem_range.mp hj) (brD (fun e => yes (beq_iff_eq.mpr (Int.ofNat_inj.mp e))) fun e => no (beq_eq_false_iff_ne.mpr fun z => e (by rw [z])))) fun b5 hb5 => ?_
  have x5 := Ext.new (.list (((List.range N).filter fun i => ldr i == i).map fun j : Nat => AV.int j)) hb5
  rw [leaders_lst J.lead] at h3
  refine xEqSame hN (x5 _ _ (x4 _ _ h3)) (AHeap.set_self _ _ _) fun bA ep1 h1 xA ep2 h2 => ?_
  have x25 := x34.trans x5
  have ch := CH.new (N := N) (e1 := ep1) (e2 := ep2) h1 h2
  have x05 := x2.trans x25
  show dSs _ _ _ _ _ (((H4.set b5 (.list (((List.range N).filter fun i => ldr i == i).map fun j : Nat => AV.int j))).set bA (.dict [] ep1)).set xA (.dict [] ep2)) _
  generalize ((H4.set b5 (.list (((List.range N).filter fun i => ldr i == i).map fun j : Nat => AV.int j))).set bA (.dict [] ep1)).set xA (.dict [] ep2) = H7 at ch ⊢
  generalize H4.set b5 (.list (((List.range N).filter fun i => ldr i == i).map fun j : Nat => AV.int j)) = H5 at x5 x25 x05 ch
  have G7 := G.ext (x05.trans ch.ex)
  refine xM (G7.mLeaders g) (ce_Graph_leaders g) (call_leaders g hn4 hN G7 fun bl8 H8 x8 hbl8 h8 => ?_)
  have c8 := ch.ext x8
  have isb : IsD H7 bA := let ⟨_, _, z, _⟩ := ch.D; ⟨_, _, z⟩
  have isx : IsD H7 xA := let ⟨_, _, z, _⟩ := ch.S; ⟨_, _, z⟩
  have nb : bl8 ∉ [bA, xA] := fun h => by
    obtain ⟨_, _, z⟩ : IsD H7 bl8 := two_mem isb isx h
    rw [hbl8] at z; cases z
  have xm5 : Ext H5 (mask H8 [bA, xA]) := ext_mask c8.ex fun c hc => two_mem (P := fun c => H5 c = none) ch.hc ch.hl hc
  have xm8 := mask_ext H8 [bA, xA]
  have mb : mask H8 [bA, xA] bA = none := mask_none (.head _)
  have mx : mask H8 [bA, xA] xA = none := mask_none (.tail _ (.head _))
  obtain ⟨ks, hks⟩ : ∃ ks, (List.range N).filter (fun i => st.ali i == i) = ks := ⟨_, rfl⟩
  have nd : ks.Nodup := by rw [← hks]; exact List.Pairwise.filter _ List.nodup_range
  have hkm : ∀ j, j ∈ ks ↔ j < N ∧ isL st j = true := fun j => by rw [← hks, List.mem_filter, List.mem_range]; rfl
  have h8 : H8 bl8 = some (.list (nats ks)) := by rw [← hks]; exact h8
  have h8m : mask H8 [bA, xA] bl8 = some (.list (nats ks)) := (mask_keep nb).trans h8
  generalize mask H8 [bA, xA] = Hm at xm5 xm8 mb mx h8m
  have xm := x05.trans xm5
  have HdX : NL Hm hA ((List.range N).map ldr) := xm5 _ _ (x25 _ _ Hd)
  have Nm := Na.ext xm
  have Cm := Cx.ext xm
  have Fm := F.ext xm
  have Tm := T.ext xm
  have Gm := G.ext xm
  have Cam : IL Hm ca _ := xm _ _ Ca
  have nbx := ch.ne
  refine forC (jnR a.x na ca cxa wa fa hA bA xA N []) (JnO N st ks bA xA Hm) (items_list h8) rfl ⟨fun _ => 0, xm8, ?_, fun _ h => (nomatch h), c8.S⟩ (fun i H' j => ?_) ?_ ?_
  · obtain ⟨l, ep, z1, z2, z3⟩ := c8.D
    exact ⟨⟨l, ep, z1, z2, fun j => z3 j⟩, fun j hj => nomatch (of_decide_eq_true hj)⟩
  · obtain ⟨_, y, _⟩ := j
    show H' bl8 = H8 bl8; rw [y _ _ h8m, h8]
  · rintro i0 H' w ⟨row, y, Nb, hrw, Xp⟩ hw Q3 nx rt
    obtain ⟨h, hh, rfl, hhm, htake⟩ := nats_at hw
    obtain ⟨hhN, hhL⟩ := (hkm h).mp hhm
    have hl : ldr h = h := (J.lead h hhN).mp hhL
    have hnt := nd_take nd htake
    refine xRange hN fun c9 H9 hc9 x9 it9 => ?_
    have y9 := y.trans x9
    refine lcompN (fun i => ldr i == h) (fun j => .int j) it9 rfl lr (fun i j hj _ Y No yes no => xSubN (y9 _ _ HdX) hN (List.mem_range.mp hj) (brD (fun e => yes (beq_iff_eq.mpr (Int.ofNat_inj.mp e))) fun e => no (beq_eq_false_iff_ne.mpr fun z => e (by rw [z])))) fun gA hgA => ?_
    have x10 : Ext H9 (H9.set gA (.list (lst N fun i => ldr i == h))) := Ext.new _ hgA
    have w10 : (H9.set gA (.list (lst N fun i => ldr i == h))) gA = some (.list (lst N fun i => ldr i == h)) := AHeap.set_self _ _ _
    show dSs _ _ _ _ _ (H9.set gA (.list (lst N fun i => ldr i == h))) _
    generalize H9.set gA (.list (lst N fun i => ldr i == h)) = H10 at x10 w10 ⊢
    have y10 := y9.trans x10
    refine xG (gl_law_group g) (ce_law_group g) (call_group g hd hn4 hN (y10 _ _ HdX) (Tm.ext y10) hhN hl (fun i hi hil => J.conn h i hhN hl hi hil) fun b11 H11 x11 _ h11 => xEqSame hN (x11 _ _ w10) h11 ?_)
    have G11 := Gm.ext (y10.trans x11)
    refine xM (G11.mMembers g) (ce_Graph_members g) (call_members g hn8 hN G11 L fun b12 H12 x12 _ h12 => xEqSame hN h12 (x12 _ _ (x11 _ _ w10)) fun rA ep3 hrA => ?_)
    have w12 := x12 _ _ (x11 _ _ w10)
    have y12 := (y10.trans x11).trans x12
    have xy12 : Ext H' H12 := ((x9.trans x10).trans x11).trans x12
    have Nb12 := Nb.ext xy12
    have Xp12 := Xp.ext xy12
    have nrx : rA ≠ xA := fun e => by obtain ⟨_, _, z, _⟩ := Xp12; rw [e, z] at hrA; cases hrA
    have nrb : rA ≠ bA := fun e => by obtain ⟨_, _, z, _⟩ := Nb12.dict; rw [e, z] at hrA; cases hrA
    have nrr : ∀ k ∈ ks.take i0, row k ≠ rA := fun k hk e => by obtain ⟨_, _, z, _⟩ := Nb12.rows k (decide_eq_true hk); rw [e, hrA] at z; cases z
    have ngx : gA ≠ xA := fun e => by obtain ⟨_, _, z, _⟩ := Xp12; rw [e, z] at w12; cases w12
    have ngb : gA ≠ bA := fun e => by obtain ⟨_, _, z, _⟩ := Nb12.dict; rw [e, z] at w12; cases w12
    have x13 := Ext.new (.dict [] ep3) hrA
    refine xNPut Nb12 hN (fun k hk => (hrw k (of_decide_eq_true hk)).1) hhN hrA fun H13 b13 N13 => ?_
    have X13 := (Xp12.ext x13).but b13 nbx.symm
    have y13 : Ext Hm H13 := (y12.trans x13).but b13 mb
    have w13 := (b13.to _ ngb).trans (x13 _ _ w12)
    have xk : Ext Hm (mask H13 [rA, xA]) := ext_mask y13 fun c hc => two_mem (P := fun c => Hm c = none) (y12.free hrA) mx hc
    have xk13 := mask_ext H13 [rA, xA]
    have mrk : mask H13 [rA, xA] rA = none := mask_none (.head _)
    have mxk : mask H13 [rA, xA] xA = none := mask_none (.tail _ (.head _))
    obtain ⟨bl, bep, hbd, kn, hlook⟩ := N13.dict
    have hbk := (mask_keep (two_not nrb.symm nbx)).trans hbd
    have hgk := (mask_keep (two_not (ne_new w12 hrA) ngx)).trans w13
    have hrk : ∀ k ∈ ks.take i0, k ≠ h → SetAt (mask H13 [rA, xA]) N (row k) (st.adj k) := fun k hk hkh => by
      have : SetAt H13 N (if k = h then rA else row k) (if k = h then fun _ => false else st.adj k) := N13.rows k (by rw [decide_eq_true hk, Bool.or_true])
      rw [if_neg hkh, if_neg hkh] at this
      exact this.mask (two_not (nrr k hk) (hrw k hk).2)
    have Ra : SetAt H13 N rA fun _ => false := by
      have : SetAt H13 N (if h = h then rA else row h) (if h = h then fun _ => false else st.adj h) := N13.rows h (by rw [decide_eq_true rfl]; rfl)
      rw [if_pos rfl, if_pos rfl] at this; exact this
    generalize mask H13 [rA, xA] = Hk at xk xk13 mrk mxk hbk hgk hrk
    have hlh : bl.lookup (h : Int) = some (.ref rA) := by rw [hlook, decide_eq_true (rfl : h = h), Bool.true_or, if_pos rfl, if_pos rfl]
    obtain ⟨gs, hgs⟩ : ∃ gs, (List.range N).filter (fun i => ldr i == h) = gs := ⟨_, rfl⟩
    have hgm : ∀ j, j ∈ gs ↔ j < N ∧ ldr j = h := fun j => by rw [← hgs, List.mem_filter, List.mem_range, beq_iff_eq]
    have hgl : gs.length = cnt N (fun j => ldr j == h) := by rw [← hgs, cnt, List.countP_eq_length_filter]
    have hgle : gs.length ≤ N := by rw [hgl]; exact cnt_le _ _
    have hgk : Hk gA = some (.list (nats gs)) := by rw [← hgs]; exact hgk
    have Nk := Nm.ext xk
    refine forC (jnR a.x na ca cxa wa fa hA bA xA N [(11, .int h), (12, .ref gA)]) (fun i H' => JnP N rA xA Hk (pC A ldr (gs.take i)) (pX cx h (fun k => decide (k ∈ ks.take i0) && st.cross k) (gs.take i)) H') (items_list (xk13 _ _ hgk)) rfl ⟨_, xk13, Ra, fun x => ⟨fun z => (nomatch z), fun ⟨_, z, _⟩ => (nomatch z)⟩, ?_⟩ (fun i H' j => ?_) ?_ ?_
    · rw [show pX cx h (fun k => decide (k ∈ ks.take i0) && st.cross k) (gs.take 0) = fun k => decide (k ∈ ks.take i0) && st.cross k from funext fun k => by rw [pX, List.take_zero, List.any_nil, Bool.and_false]; rfl]
      exact X13
    · obtain ⟨_, y, _⟩ := j
      show H' gA = H13 gA; rw [y _ _ hgk, xk13 _ _ hgk]
    · rintro i H2 w ⟨p, y2, Rp, hp, Xp2⟩ hw Q5 nx5 rt5
      obtain ⟨c, hc, rfl, hcm, _⟩ := nats_at hw
      obtain ⟨hcN, hcl⟩ := (hgm c).mp hcm
      have g2 : NL H2 gA gs := y2 _ _ hgk
      have hVc : decide (c < N) = true := decide_eq_true hcN
      obtain ⟨kr, itr, ndr, hmr⟩ := (Nk.rows c hVc).keys
      refine joinR (envOf 0 [.ref a.x, .ref na, .ref ca, .ref cxa, .ref wa, .ref fa, .int N, .ref hA, .int c, .ref bA, .ref xA, .int h, .ref gA]) (fun H3 => H2 = H3) (fun K mt => xLenN g2 (le8 hgle hN (by decide)) (brD (fun h1 => xIn (Fm.ext (xk.trans y2)) (brF ?_ (mt _ _ rfl rfl))) fun _ => mt _ _ rfl rfl)) ?_
      · cases e : fz c with
        | false => rfl
        | true => have := J.froz h c hhN hl hcN hcl e; rw [← hgl] at this; exact absurd (Int.ofNat_lt.mp h1) (Nat.not_lt.mpr this)
      · rintro _ rfl
        refine xNRow (Nk.ext y2) hVc ?_
        refine forC (jnR a.x na ca cxa wa fa hA bA xA N [(8, .int c), (11, .int h), (12, .ref gA)]) (fun j H' => JnP N rA xA Hk (pN ldr p (kr.take j)) (pX cx h (fun k => decide (k ∈ ks.take i0) && st.cross k) (gs.take i)) H') (items_ext itr y2) rfl ⟨p, y2, Rp, fun x => ⟨.inl, fun z => z.resolve_right fun ⟨_, z, _⟩ => (nomatch z)⟩, Xp2⟩ (fun j H' z => ?_) ?_ ?_
        · obtain ⟨_, y', _⟩ := z
          obtain ⟨_, _, z, _⟩ := Nk.rows c hVc
          show H' (nrow c) = H2 (nrow c); rw [y' _ _ z, y2 _ _ z]
        · rintro j H4 w ⟨p', y4, R4, hp4, X4⟩ hw4 Q6 nx6 rt6
          obtain ⟨o, ho, rfl, hom, _⟩ := nats_at hw4
          have hco := (hmr o).mp hom
          have hoN := (Nk.rows c hVc).lt hco
          have hog : o ∉ gs := fun e => J.apart c o hcN hco (by rw [hcl, ((hgm o).mp e).2])
          exact xInN (y4 _ _ hgk) (brZ hog (xSubD (y4 _ _ hbk) hlh (xSubN (y4 _ _ (xk _ _ HdX)) hN hoN (xPutS R4 hN (L.lt o hoN) fun H5 b5 R5 => nx6 _ _ ⟨_, y4.but b5 mrk, R5, pN_put ho hp4, X4.but b5 nrx.symm⟩ rfl))))
        · rintro H4 ⟨p', y4, R4, hp4, X4⟩
          rw [nats_len, take_all] at hp4
          have hp5 := pC_next hc hmr hp hp4
          refine xIn (Cm.ext (xk.trans y4)) (brC (fun hcx => xPutS X4 hN hhN fun H5 b5 X5 => nx5 _ _ ⟨p', y4.but b5 mxk, R4.but b5 nrx, hp5, ?_⟩ rfl) fun hcx => nx5 _ _ ⟨p', y4, R4, hp5, ?_⟩ rfl)
          · rw [← pX_yes hc hcx]; exact X5
          · rw [← pX_no hc hcx]; exact X4
    · rintro H14 ⟨p, y14, R14, hp, X14⟩
      rw [nats_len, take_all] at hp X14
      rw [J.rowIs hhN hl hgm hp] at R14
      rw [show pX cx h (fun k => decide (k ∈ ks.take i0) && st.cross k) gs = fun k => decide (k ∈ ks.take (i0 + 1)) && st.cross k by rw [← pX_next hh hnt, ← J.crossIs hhN hl hgm]; rfl] at X14
      have hVh : decide (h ∈ ks.take (i0 + 1)) = true := decide_eq_true (by rw [htake]; exact List.mem_append_right _ (.head _))
      have N14 : NAt N bA (fun k => if k = h then rA else row k) (fun k => decide (k ∈ ks.take (i0 + 1))) st.adj H14 := by
        refine ⟨⟨bl, bep, y14 _ _ hbk, kn, fun j => ?_⟩, fun j hj => ?_⟩
        · rw [hlook]
          refine ifc ?_
          rw [Bool.or_eq_true, decide_eq_true_iff, decide_eq_true_iff, decide_eq_true_iff, htake, List.mem_append, List.mem_singleton, Or.comm]
        · show SetAt H14 N (if j = h then rA else row j) (st.adj j)
          by_cases e : j = h
          · rw [if_pos e, e]; exact R14
          · rw [if_neg e]
            exact (hrk j ((mem_take_succ hh e).mp (of_decide_eq_true hj)) e).ext y14
      have ym := xk.trans y14
      have G14 := Gm.ext ym
      refine xNear G14 (xRow G14 hhN (xSortS (G14.rows h hhN) hd hN fun c15 H15 _ x15 h15 => xNRow (N14.ext x15) hVh (xSortS ((N14.ext x15).rows h hVh) hd hN fun c16 H16 _ x16 h16 => xEqSame hN (x16 _ _ h15) h16 ?_)))
      have x146 := x15.trans x16
      have G16 := G14.ext x146
      refine xCross G16 (xInCr G16 (xIn (X14.ext x146) (brF ?_ ?_)))
      · rw [hVh]; cases st.cross h <;> rfl
      have x016 := y14.trans x146
      refine xCost G16 (xCo G16 hhN (lcompN (fun _ => true) (fun c => .int (cost c)) (items_list (x016 _ _ hgk)) rfl (le8 hgle hN (by decide)) (fun _ c hcm _ Y No yes _ => xSubIL ((ym.trans x146) _ _ Cam) hN ((hgm c).mp hcm).1 (yes rfl)) fun b17 hb17 => ?_))
      have x17 := Ext.new (.list ((gs.filter fun _ => true).map fun c => AV.int (cost c))) hb17
      have w17 : IL (H16.set b17 (.list ((gs.filter fun _ => true).map fun c => AV.int (cost c)))) b17 (gs.map cost) := by rw [IL, AHeap.set_self, filter_all, List.map_map]; rfl
      refine xSumI w17 hd (by rw [List.length_map]; exact le8 hgle hN (by decide)) (brF ?_ (nx _ _ ⟨_, (xk.trans x016).trans x17, (N14.ext x146).ext x17, fun k hk => ?_, (X14.ext x146).ext x17⟩ rfl))
      · rw [J.cost h hhN hl, hgs, decide_eq_true rfl]; rfl
      · show (if k = h then rA else row k) ≠ bA ∧ (if k = h then rA else row k) ≠ xA
        by_cases e : k = h
        · rw [if_pos e]; exact ⟨nrb, nrx⟩
        · rw [if_neg e]; exact hrw k ((mem_take_succ hh e).mp hk)
  · rintro H' ⟨row, y, Nb, hrw, Xp⟩ t ht
    rw [nats_len, take_all] at Nb Xp
    have x := Ext.new (.tup [.ref hA, .ref bA, .ref xA]) ht
    have e1 : (fun k => decide (k ∈ ks)) = fun h => decide (h < N) && isL st h := by
      funext k; rw [Bool.eq_iff_iff, Bool.and_eq_true, decide_eq_true_iff, decide_eq_true_iff, hkm]
    have e2 : (fun k => decide (k ∈ ks) && st.cross k) = fun h => decide (h < N) && isL st h && st.cross h := by
      funext k; rw [congrFun e1 k]
    rw [e1] at Nb
    rw [e2] at Xp
    exact q t hA bA xA row _ ((xm.trans y).trans x) (AHeap.set_self _ _ _) (x _ _ (y _ _ HdX)) (Nb.ext x) (Xp.ext x)
end
end Mine
end
section
open PySem PySem.W PyProof.Rows PySem.Calls
set_option maxRecDepth 100000
namespace Mine
theorem r110 {j m : Nat} (h : m < 110) : 110 + j ≠ m := by omega
theorem r110r {i j : Nat} (h : i ≠ j) : 110 + i ≠ 110 + j := by omega
theorem lt_of_tag {tg : Addr → Nat} {c : Addr} {i m : Nat} (h : tg c = i) (k : i < m) : tg c < m := by rw [h]; exact k
theorem ge_of_tag {tg : Addr → Nat} {c : Addr} {i m : Nat} (h : tg c = i) (k : m ≤ i) : ¬ tg c < m := by rw [h]; exact Nat.not_lt.mpr k
noncomputable def isMut : AO → Bool
  | .dict _ _ => true
  | .list _ => true
  | _ => false
structure Off (P : Addr → Prop) (H H' : AHeap) : Prop where
  keep : ∀ c o, H c = some o → (¬ P c ∨ isMut o = false) → H' c = some o
  dom : ∀ c, H' c = none → H c = none
theorem Off.ext {P : Addr → Prop} {H H' : AHeap} (x : Ext H H') : Off P H H' := ⟨fun c o h _ => x _ _ h, fun c h => x.free h⟩
theorem Off.one {H H' : AHeap} {b : Addr} (x : But1 b H H') {o : AO} (h : H b = some o) (hm : isMut o = true) : Off (fun c => c = b) H H' := by
  refine ⟨fun c o' hc k => ?_, fun c hc => ?_⟩
  · by_cases e : c = b
    · subst e; rw [h] at hc; cases hc
      rcases k with k | k
      · exact absurd rfl k
      · rw [hm] at k; cases k
    · rw [x.to c e]; exact hc
  · by_cases e : c = b
    · subst e; exact absurd hc x.dom
    · rw [← x.to c e]; exact hc
theorem Off.mono {P P' : Addr → Prop} {H H' : AHeap} (x : Off P H H') (h : ∀ c, P c → P' c) : Off P' H H' := ⟨fun c o hc k => x.keep c o hc (k.imp (fun k z => k (h c z)) id), x.dom⟩
theorem Fr.off {tg : Addr → Nat} {H H' : AHeap} (f : Fr tg H H') : Off (fun c => tg c < 100) H H' :=
  ⟨fun c o h k => f.keep c o h (k.imp Nat.not_lt.mp (fun k => by cases o <;> first | rfl | cases k)), f.dom⟩
theorem WellAt.off {P : Addr → Prop} {H H' : AHeap} {w an : Addr} {l : List Int} {p : Nat} (h : WellAt H w an l p) (x : Off P H H') (h1 : ¬ P w) (h2 : ¬ P an) : WellAt H' w an l p :=
  ⟨h.1, x.keep _ _ h.2.1 (.inl h1), x.keep _ _ h.2.2.1 (.inl h2), h.2.2.2⟩
theorem IL.off {P : Addr → Prop} {H H' : AHeap} {b : Addr} {l : List Int} (h : IL H b l) (x : Off P H H') (h1 : ¬ P b) : IL H' b l := x.keep _ _ h (.inl h1)
theorem SetAt.off {P : Addr → Prop} {N : Nat} {H H' : AHeap} {b : Addr} {p : Nat → Bool} (h : SetAt H N b p) (x : Off P H H') (h1 : ¬ P b) : SetAt H' N b p :=
  let ⟨l, ep, q, r⟩ := h; ⟨l, ep, x.keep _ _ q (.inl h1), r⟩
theorem NAt.off {P : Addr → Prop} {N : Nat} {H H' : AHeap} {b : Addr} {row : Nat → Addr} {V : Nat → Bool} {adj : Nat → Nat → Bool} (h : NAt N b row V adj H) (x : Off P H H') (h1 : ¬ P b) (h2 : ∀ j, V j = true → ¬ P (row j)) : NAt N b row V adj H' :=
  ⟨let ⟨l, ep, q, r⟩ := h.dict; ⟨l, ep, x.keep _ _ q (.inl h1), r⟩, fun j hj => (h.rows j hj).off x (h2 j hj)⟩
theorem TwsAt.off {P : Addr → Prop} {N : Nat} {H H' : AHeap} {b : Addr} {tws : List (Nat × Nat)} (h : TwsAt H N b tws) (x : Off P H H') (h1 : ¬ P b) : TwsAt H' N b tws :=
  let ⟨l, q, r, z⟩ := h; ⟨l, x.keep _ _ q (.inl h1), r, z.mono fun _ _ ⟨t, e, k, m⟩ => ⟨t, e, x.keep _ _ k (.inr rfl), m⟩⟩
theorem GAt.off {P : Addr → Prop} {N : Nat} {a : GA} {st : GS} {tg : Addr → Nat} {H H' : AHeap} (G : GAt N a st H) (D : GD N a tg) (tl : tg a.lc = 6) (hN : N ≤ 8) (x : Off P H H') (hP : ∀ c, P c → 100 ≤ tg c) : GAt N a st H' := by
  have np : ∀ {c k}, tg c = k → k < 100 → ¬ P c := fun h k z => Nat.lt_irrefl _ (Nat.lt_of_lt_of_le (lt_of_tag h k) (hP _ z))
  refine ⟨x.keep _ _ G.x (.inr rfl), x.keep _ _ G.d (.inr rfl), ?_, fun i hi => (G.rows i hi).off x (np (D.row i hi) (by omega)), G.cross.off x (np D.dx (by decide)), ?_, ?_, ?_⟩
  · obtain ⟨ep, q⟩ := G.near; exact ⟨ep, x.keep _ _ q (.inl (np D.dn (by decide)))⟩
  · obtain ⟨l, ep, q, r⟩ := G.cost; exact ⟨l, ep, x.keep _ _ q (.inl (np D.dc (by decide))), r⟩
  · obtain ⟨l, ep, q, r⟩ := G.ali; exact ⟨l, ep, x.keep _ _ q (.inl (np D.da (by decide))), r⟩
  · obtain ⟨l, q, r, z⟩ := G.cps; exact ⟨l, x.keep _ _ q (.inl (np tl (by decide))), r, z.mono fun _ _ ⟨t, w, e, k, m⟩ => ⟨t, w, e, x.keep _ _ k (.inr rfl), m⟩⟩
structure LA where
  (na ca wa w an : Addr)
  row : Nat → Addr
structure Dr (kg kn kc : Nat) (a : GA) (st : GS) (m : LA) (tg : Addr → Nat) (tws : List (Nat × Nat)) (l : List Int) (p : Nat) (H : AHeap) : Prop where
  G : GAt kg a st H
  D : GD kg a tg
  tlc : tg a.lc = 6
  N : NAt kg m.na m.row (fun j => decide (j < kn)) st.adj H
  tna : tg m.na = 100
  trow : ∀ j, j < kn → tg (m.row j) = 110 + j
  C : IL H m.ca ((List.range kc).map st.cost)
  tca : tg m.ca = 101
  T : TwsAt H kg m.wa tws
  twa : tg m.wa = 102
  W : WellAt H m.w m.an l p
  tw : tg m.w = 103
  tan : tg m.an = 104
section
variable {C : Cfg} {n : Nat} {X : AHeap → Prop} {kg kn kc : Nat} {a : GA} {st : GS} {m : LA} {tg : Addr → Nat} {tws : List (Nat × Nat)} {l : List Int} {p : Nat} {H H' : AHeap} {Q : AV → AHeap → Prop} {U : AHeap → Prop}
theorem Dr.ext (d : Dr kg kn kc a st m tg tws l p H) (x : Ext H H') : Dr kg kn kc a st m tg tws l p H' :=
  ⟨d.G.ext x, d.D, d.tlc, d.N.ext x, d.tna, d.trow, x _ _ d.C, d.tca, d.T.ext x, d.twa, ⟨d.W.1, x _ _ d.W.2.1, x _ _ d.W.2.2.1, d.W.2.2.2⟩, d.tw, d.tan⟩
noncomputable def OffT (tg : Addr → Nat) (H H' : AHeap) : Prop := Off (fun c => tg c < 140) H H'
noncomputable def Agree (tg tg' : Addr → Nat) (H : AHeap) : Prop := ∀ c o, H c = some o → tg' c = tg c
theorem OffT.trans {tg tg' : Addr → Nat} {H H1 H2 : AHeap} (f : OffT tg H H1) (e : Agree tg tg' H) (f' : OffT tg' H1 H2) : OffT tg H H2 :=
  ⟨fun b o h k => f'.keep b o (f.keep b o h k) (by rw [e b o h]; exact k), fun b h => f.dom b (f'.dom b h)⟩
theorem Agree.trans {tg tg1 tg2 : Addr → Nat} {H H1 : AHeap} (e : Agree tg tg1 H) (f : ∀ c, H1 c = none → H c = none) (e' : Agree tg1 tg2 H1) : Agree tg tg2 H := fun c o h => by
  cases q : H1 c with
  | none => rw [f c q] at h; cases h
  | some o' => rw [e' c o' q, e c o h]
theorem Agree.refl (tg : Addr → Nat) (H : AHeap) : Agree tg tg H := fun _ _ _ => rfl
theorem Dr.draw (g : Ground C) (hn : 4 ≤ n) (hk : kg ≤ 8) (d : Dr kg kn kc a st m tg tws l p H) (hl : l.length < 900) {s : Int} (hs : 0 < s)
    (q : ∀ l' x H', 0 ≤ x → x < s → l'.length ≤ l.length + 1 → Dr kg kn kc a st m tg tws l' (p + 1) H' → OffT tg H H' → Q (.int x) H') : FCall C n X (.ref 194) [.ref m.w, .int s] H Q := by
  refine call_draw g hn d.W hl hs fun l' x H' h1 h2 h3 w' hb => ?_
  obtain ⟨nw, w1, w2, _, _⟩ := d.W
  have off : Off (fun c => c = m.w ∨ c = m.an) H H' := by
    refine ⟨fun c o hc k => ?_, fun c hc => ?_⟩
    · by_cases e1 : c = m.w
      · rw [e1, w1] at hc; cases hc
        rcases k with k | k
        · exact absurd (.inl e1) k
        · cases k
      · by_cases e2 : c = m.an
        · rw [e2, w2] at hc; cases hc
          rcases k with k | k
          · exact absurd (.inr e2) k
          · cases k
        · rw [hb c (two_not e1 e2)]; exact hc
    · by_cases e1 : c = m.w
      · rw [e1, w'.2.1] at hc; cases hc
      · by_cases e2 : c = m.an
        · rw [e2, w'.2.2.1] at hc; cases hc
        · rw [← hb c (two_not e1 e2)]; exact hc
  have hP : ∀ c, (c = m.w ∨ c = m.an) → 100 ≤ tg c := fun c h => by
    rcases h with rfl | rfl
    · rw [d.tw]; decide
    · rw [d.tan]; decide
  have np : ∀ {c k}, tg c = k → k ≠ 103 → k ≠ 104 → ¬ (c = m.w ∨ c = m.an) := fun h k1 k2 z => by
    rcases z with rfl | rfl
    · exact k1 (h.symm.trans d.tw)
    · exact k2 (h.symm.trans d.tan)
  refine q l' x H' h1 h2 h3 ⟨d.G.off d.D d.tlc hk off hP, d.D, d.tlc, d.N.off off (np d.tna (by decide) (by decide)) fun j hj => ?_, d.tna, d.trow, d.C.off off (np d.tca (by decide) (by decide)), d.tca, d.T.off off (np d.twa (by decide) (by decide)), d.twa, w', d.tw, d.tan⟩ (off.mono fun c h => ?_)
  · exact np (d.trow j (of_decide_eq_true hj)) (r110 (by decide)) (r110 (by decide))
  · rcases h with rfl | rfl
    · rw [d.tw]; decide
    · rw [d.tan]; decide
theorem GAt.congr {N : Nat} {st' : GS} (G : GAt N a st H) (h1 : ∀ i, i < N → st'.adj i = st.adj i) (h2 : st'.cross = st.cross) (h3 : ∀ i, i < N → st'.cost i = st.cost i) (h4 : ∀ i, i < N → st'.ali i = st.ali i) (h5 : st'.cps = st.cps) : GAt N a st' H :=
  ⟨G.x, G.d, G.near, fun i hi => by rw [h1 i hi]; exact G.rows i hi, by rw [h2]; exact G.cross, let ⟨l, ep, q, k, r⟩ := G.cost; ⟨l, ep, q, k, fun i hi => by rw [h3 i hi]; exact r i hi⟩,
    let ⟨l, ep, q, k, r⟩ := G.ali; ⟨l, ep, q, k, fun i hi => by rw [h4 i hi]; exact r i hi⟩, by rw [h5]; exact G.cps⟩
theorem xAppI {b : Addr} {l : List Int} {v : Int} (h : IL H b l) (hl : l.length ≤ 1000) (q : ∀ H', But1 b H H' → IL H' b (l ++ [v]) → Q .none H') : kAppend b (.int v) H Q :=
  xApp h (by rw [List.length_map]; exact hl) (q _ (But1.set _ _ _) (by rw [IL, AHeap.set_self, List.map_append]; rfl))
theorem Dr.cost (d : Dr kg kn kg a st m tg tws l p H) (hk : kg ≤ 8) {v : Int} (q : ∀ H', Dr kg kn (kg + 1) a { st with cost := fun j => if j = kg then v else st.cost j } m tg tws l p H' → OffT tg H H' → Q .none H') : kAppend m.ca (.int v) H Q := by
  refine xAppI d.C (by rw [List.length_map, List.length_range]; exact Nat.le_trans hk (by decide)) fun H' b C' => ?_
  have off := Off.one b d.C rfl
  have np : ∀ {c k}, tg c = k → k ≠ 101 → ¬ (c = m.ca) := fun h k1 z => apart h d.tca k1 z
  refine q H' ⟨(d.G.off d.D d.tlc hk off fun c h => by rw [h, d.tca]; decide).congr (fun _ _ => rfl) rfl (fun i hi => if_neg (Nat.ne_of_lt hi)) (fun _ _ => rfl) rfl, d.D, d.tlc, d.N.off off (np d.tna (by decide)) fun j hj => np (d.trow j (of_decide_eq_true hj)) (r110 (by decide)), d.tna, d.trow, ?_, d.tca, d.T.off off (np d.twa (by decide)), d.twa,
    d.W.off off (np d.tw (by decide)) (np d.tan (by decide)), d.tw, d.tan⟩ (off.mono fun c h => by rw [h, d.tca]; decide)
  have : (List.range (kg + 1)).map (fun j => if j = kg then v else st.cost j) = (List.range kg).map st.cost ++ [v] := by
    rw [List.range_succ, List.map_append]
    congr 1
    · exact List.map_congr_left fun i hi => if_neg (Nat.ne_of_lt (List.mem_range.mp hi))
    · rw [List.map_cons, if_pos rfl]; rfl
  show IL H' m.ca ((List.range (kg + 1)).map fun j => if j = kg then v else st.cost j)
  rw [this]; exact C'
end
end Mine
end
section
open PySem PySem.W PyProof.Rows PySem.Calls
set_option maxRecDepth 100000
namespace Mine
theorem KeysN.monoN {k k' : Nat} {l : List (Int × AV)} (h : KeysN k l) (hk : k ≤ k') : KeysN k' l := ⟨h.1, fun j hj => let ⟨i, hi, e⟩ := h.2 j hj; ⟨i, by omega, e⟩⟩
theorem SetAt.monoN {k k' : Nat} {H : AHeap} {b : Addr} {p : Nat → Bool} (s : SetAt H k b p) (hk : k ≤ k') : SetAt H k' b p := let ⟨l, ep, q, r, z⟩ := s; ⟨l, ep, q, r.monoN hk, z⟩
theorem NAt.monoN {k k' : Nat} {H : AHeap} {b : Addr} {row : Nat → Addr} {V : Nat → Bool} {adj : Nat → Nat → Bool} (h : NAt k b row V adj H) (hk : k ≤ k') : NAt k' b row V adj H :=
  ⟨let ⟨l, ep, q, r, z⟩ := h.dict; ⟨l, ep, q, r.monoN hk, z⟩, fun j hj => (h.rows j hj).monoN hk⟩
theorem TwsAt.monoN {k k' : Nat} {H : AHeap} {b : Addr} {tws : List (Nat × Nat)} (h : TwsAt H k b tws) (hk : k ≤ k') : TwsAt H k' b tws :=
  let ⟨l, q, r, z⟩ := h; ⟨l, q, r, z.mono fun _ _ ⟨t, e, w, m1, m2⟩ => ⟨t, e, w, by omega, by omega⟩⟩
theorem putD_rows_new (row : Nat → Addr) (b : Addr) (k : Nat) : putD ((List.range k).map fun i : Nat => ((i : Int), AV.ref (row i))) k (.ref b) = (List.range (k + 1)).map fun i : Nat => ((i : Int), AV.ref (if i = k then b else row i)) := by
  unfold putD
  rw [if_neg]
  · rw [List.range_succ, List.map_append]
    congr 1
    · exact List.map_congr_left fun i hi => by rw [if_neg (Nat.ne_of_lt (List.mem_range.mp hi))]
    · rw [List.map_cons, if_pos rfl]; rfl
  · rw [List.any_map, List.any_eq_true]
    rintro ⟨i, hi, e⟩
    exact absurd (Int.ofNat_inj.mp (of_decide_eq_true e)) (Nat.ne_of_lt (List.mem_range.mp hi))
theorem lookup_rows_none (row : Nat → Addr) (k : Nat) : ((List.range k).map fun i : Nat => ((i : Int), AV.ref (row i))).lookup (k : Int) = none := by
  rw [lookup_none_iff, List.map_map, List.mem_map]
  rintro ⟨i, hi, e⟩
  exact absurd (Int.ofNat_inj.mp e) (Nat.ne_of_lt (List.mem_range.mp hi))
structure GX (a : GA) (H : AHeap) : Prop where
  x : H a.x = some (.inst 124 a.d)
  d : H a.d = some (.ns [("near", .ref a.dn), ("crosses", .ref a.dx), ("cost", .ref a.dc), ("copies", .ref a.lc), ("alias", .ref a.da)])
section
variable {C : Cfg} {n : Nat} {X : AHeap → Prop} {k : Nat} {a : GA} {st : GS} {tg : Addr → Nat} {H H' : AHeap} {Q : AV → AHeap → Prop}
theorem xGNear (h : GX a H) (q : Q (.ref a.dn) H) : kAttr a.x "near" H Q := xAttr h.x h.d (by kernel_rfl) (by kernel_rfl) q
theorem xGCost (h : GX a H) (q : Q (.ref a.dc) H) : kAttr a.x "cost" H Q := xAttr h.x h.d (by kernel_rfl) (by kernel_rfl) q
theorem xGAlias (h : GX a H) (q : Q (.ref a.da) H) : kAttr a.x "alias" H Q := xAttr h.x h.d (by kernel_rfl) (by kernel_rfl) q
theorem GX.but {b : Addr} (h : GX a H) (x : But1 b H H') (hb : IsD H b) : GX a H' := let ⟨_, _, hb⟩ := hb; ⟨x.keep hb h.x rfl, x.keep hb h.d rfl⟩
noncomputable def newS (st : GS) (k : Nat) (w : Int) : GS := { st with adj := fun i => if i = k then fun _ => false else st.adj i, ali := fun i => if i = k then k else st.ali i, cost := fun i => if i = k then w else st.cost i }
theorem call_add (g : Ground C) (hn : 4 ≤ n) (hk : k < 8) (G : GAt k a st H) (D : GD k a tg)
    (q : ∀ a' tg' H', a'.x = a.x → a'.lc = a.lc → GAt (k + 1) a' (newS st k 0) H' → GD (k + 1) a' tg' → Agree tg tg' H → Fr tg H H' → Q .none H') : FCall C n X (.ref 83) [.ref a.x, .int k] H Q := by
  obtain ⟨ep0, qn⟩ := G.near
  obtain ⟨lc, epc, qc, kc, rc⟩ := G.cost
  obtain ⟨la, epa, qa, ka, ra⟩ := G.ali
  have hk8 := Nat.le_of_lt hk
  refine fcallU g (fn_Graph_add g) (by omega) rfl (xNear G (xInD qn (brT (by rw [lookup_rows_none]; rfl) fun b ep hb => ?_)))
  have nb : ∀ {c}, IsD H c → c ≠ b := G.nb hb
  have nb' : ∀ c o, H c = some o → c ≠ b := fun c o h e => by rw [e, hb] at h; cases h
  have x1 : Ext H (H.set b (.dict [] ep)) := Ext.new _ hb
  have w1 : (H.set b (.dict [] ep)) b = some (.dict [] ep) := AHeap.set_self _ _ _
  show eAttr (.ref a.x) "near" (H.set b (.dict [] ep)) _
  generalize H.set b (.dict [] ep) = H1 at x1 w1 ⊢
  have X1 : GX a H1 := ⟨x1 _ _ G.x, x1 _ _ G.d⟩
  refine xGNear X1 (xSetD (x1 _ _ qn) (by rw [List.length_map, List.length_range]; exact Nat.le_trans hk8 (by decide)) fun ep2 => ?_)
  have b2 := But1.set a.dn H1 (.dict (putD ((List.range k).map fun i : Nat => ((i : Int), AV.ref (a.row i))) k (.ref b)) ep2)
  have w2 := AHeap.set_self H1 a.dn (.dict (putD ((List.range k).map fun i : Nat => ((i : Int), AV.ref (a.row i))) k (.ref b)) ep2)
  show dSs _ _ _ _ _ (H1.set a.dn (.dict (putD ((List.range k).map fun i : Nat => ((i : Int), AV.ref (a.row i))) k (.ref b)) ep2)) _
  generalize H1.set a.dn (.dict (putD ((List.range k).map fun i : Nat => ((i : Int), AV.ref (a.row i))) k (.ref b)) ep2) = H2 at b2 w2 ⊢
  rw [putD_rows_new] at w2
  have i1 : IsD H1 a.dn := ⟨_, _, x1 _ _ qn⟩
  have X2 := X1.but b2 i1
  have qc2 := (b2.to _ (apart D.dc D.dn (by decide))).trans (x1 _ _ qc)
  have qa2 := (b2.to _ (apart D.da D.dn (by decide))).trans (x1 _ _ qa)
  refine xGCost X2 (xSetD qc2 (le8 kc.le hk8 (by decide)) fun ep3 => ?_)
  have b3 := But1.set a.dc H2 (.dict (putD lc k (.int 0)) ep3)
  have w3 := AHeap.set_self H2 a.dc (.dict (putD lc k (.int 0)) ep3)
  show dSs _ _ _ _ _ (H2.set a.dc (.dict (putD lc k (.int 0)) ep3)) _
  generalize H2.set a.dc (.dict (putD lc k (.int 0)) ep3) = H3 at b3 w3 ⊢
  have i2 : IsD H2 a.dc := ⟨_, _, qc2⟩
  have X3 := X2.but b3 i2
  have qa3 := (b3.to _ (apart D.da D.dc (by decide))).trans qa2
  refine xGAlias X3 (xSetD qa3 (le8 ka.le hk8 (by decide)) fun ep4 => ?_)
  have b4 := But1.set a.da H3 (.dict (putD la k (.int k)) ep4)
  have w4 := AHeap.set_self H3 a.da (.dict (putD la k (.int k)) ep4)
  show Q .none (H3.set a.da (.dict (putD la k (.int k)) ep4))
  generalize H3.set a.da (.dict (putD la k (.int k)) ep4) = H4 at b4 w4 ⊢
  have i3 : IsD H3 a.da := ⟨_, _, qa3⟩
  have X4 := X3.but b4 i3
  have ndn := nb G.isN
  have ndc := nb G.isC
  have nda := nb G.isA
  have thr : ∀ {c i}, tg c = i → i ≠ 3 → i ≠ 5 → i ≠ 7 → H4 c = H1 c := fun h h1 h2 h3 => by
    rw [b4.to _ (apart h D.da h3), b3.to _ (apart h D.dc h2), b2.to _ (apart h D.dn h1)]
  have hb4 : H4 b = some (.dict [] ep) := by rw [b4.to _ nda.symm, b3.to _ ndc.symm, b2.to _ ndn.symm]; exact w1
  have keep : ∀ c o, H c = some o → isDict o = false → H4 c = some o := fun c o h ho => b4.keep qa3 (b3.keep qc2 (b2.keep (x1 _ _ qn) (x1 _ _ h) ho) ho) ho
  have lk : ∀ {i}, i < k + 1 → i ≠ k → i < k := fun h e => Nat.lt_of_le_of_ne (Nat.le_of_lt_succ h) e
  have G4 : GAt (k + 1) { a with row := fun i => if i = k then b else a.row i } (newS st k 0) H4 := by
    refine { x := X4.x, d := X4.d, near := ⟨ep2, ?_⟩, rows := fun i hi => ?_, cross := ?_, cost := ?_, ali := ?_, cps := ?_ }
    · show H4 a.dn = _
      rw [b4.to _ (apart D.dn D.da (by decide)), b3.to _ (apart D.dn D.dc (by decide))]; exact w2
    · show SetAt H4 (k + 1) (if i = k then b else a.row i) (if i = k then fun _ => false else st.adj i)
      by_cases e : i = k
      · rw [if_pos e, if_pos e]
        exact ⟨[], ep, hb4, KeysN.nil _, fun j => rfl⟩
      · rw [if_neg e, if_neg e]
        obtain ⟨l, ep', z, r⟩ := (G.rows i (lk hi e)).monoN (Nat.le_succ k)
        exact ⟨l, ep', by rw [thr (D.row i (lk hi e)) (ten (by decide)) (ten (by decide)) (ten (by decide))]; exact x1 _ _ z, r⟩
    · obtain ⟨l, ep', z, r⟩ := G.cross.monoN (Nat.le_succ k)
      exact ⟨l, ep', by rw [thr D.dx (by decide) (by decide) (by decide)]; exact x1 _ _ z, r⟩
    · refine ⟨putD lc k (.int 0), ep3, (b4.to _ (apart D.dc D.da (by decide))).trans w3, (kc.monoN (Nat.le_succ k)).put (Nat.lt_succ_self k) _, fun i hi => ?_⟩
      rw [lookup_put_nat]
      show _ = some (AV.int (if i = k then 0 else st.cost i))
      by_cases e : i = k
      · rw [if_pos e, if_pos e]
      · rw [if_neg e, if_neg e]; exact rc i (lk hi e)
    · refine ⟨putD la k (.int k), ep4, w4, (ka.monoN (Nat.le_succ k)).put (Nat.lt_succ_self k) _, fun i hi => ?_⟩
      rw [lookup_put_nat]
      show _ = some (AV.int (if i = k then k else st.ali i : Nat)) ∧ (if i = k then k else st.ali i) < k + 1
      by_cases e : i = k
      · rw [if_pos e, if_pos e]; exact ⟨rfl, Nat.lt_succ_self k⟩
      · rw [if_neg e, if_neg e]; exact ⟨(ra i (lk hi e)).1, Nat.lt_succ_of_lt (ra i (lk hi e)).2⟩
    · obtain ⟨l, z, h1, h2⟩ := G.cps
      exact ⟨l, keep _ _ z rfl, h1, h2.mono fun _ _ ⟨t, w, e, k', m1, m2⟩ => ⟨t, w, e, keep _ _ k' rfl, Nat.lt_succ_of_lt m1, Nat.lt_succ_of_lt m2⟩⟩
  have D4 : GD (k + 1) { a with row := fun i => if i = k then b else a.row i } (fun c => if c = b then 10 + k else tg c) := by
    refine ⟨(if_neg ndn).trans D.dn, (if_neg (nb G.isX)).trans D.dx, (if_neg ndc).trans D.dc, (if_neg nda).trans D.da, fun i hi => ?_⟩
    show (if (if i = k then b else a.row i) = b then 10 + k else tg (if i = k then b else a.row i)) = 10 + i
    by_cases e : i = k
    · rw [if_pos e, if_pos rfl, e]
    · rw [if_neg e, if_neg (nb (G.isR (lk hi e)))]; exact D.row i (lk hi e)
  exact q { a with row := fun i => if i = k then b else a.row i } (fun c => if c = b then 10 + k else tg c) H4 rfl rfl G4 D4 (fun c o h => if_neg (nb' c o h)) ((((Fr.refl tg H).ext x1).but b2 i1 D.dn (by decide)).but b3 i2 D.dc (by decide) |>.but b4 i3 D.da (by decide))
theorem call_touch (g : Ground C) (hn : 8 ≤ n) (hk : k < 8) (G : GAt k a st H) (D : GD k a tg) {w : Int}
    (q : ∀ a' tg' H', a'.x = a.x → a'.lc = a.lc → GAt (k + 1) a' (newS st k w) H' → GD (k + 1) a' tg' → Agree tg tg' H → Fr tg H H' → Q .none H') : FCall C n X (.ref 90) [.ref a.x, .int k, .int w] H Q := by
  refine fcallU g (fn_Graph_touch g) (by omega) rfl (xM (G.mAdd g) (ce_Graph_add g) (call_add g (by omega) hk G D fun a1 tg1 H1 e1 e2 G1 D1 A1 F1 => ?_))
  rw [← e1]
  refine xCost G1 (xCo G1 (Nat.lt_succ_self k) (xCost G1 (xPutCo G1 D1 hk (Nat.lt_succ_self k) fun H2 G2 b2 => ?_)))
  refine q a1 tg1 H2 e1 e2 (G2.congr (fun _ _ => rfl) rfl (fun i hi => ?_) (fun _ _ => rfl) rfl) D1 A1 (F1.trans A1 ((Fr.refl tg1 H1).but b2 G1.isC D1.dc (by decide)))
  show (if i = k then w else st.cost i) = if i = k then (if k = k then 0 else st.cost k) + w else (if i = k then 0 else st.cost i)
  by_cases e : i = k
  · rw [if_pos e, if_pos e, if_pos rfl, Int.zero_add]
  · rw [if_neg e, if_neg e, if_neg e]
noncomputable def linkS (st : GS) (i o : Nat) : GS := { st with adj := fun x y => (decide (x = i) && decide (y = o)) || (decide (x = o) && decide (y = i)) || st.adj x y }
theorem link_row (st : GS) {i o : Nat} (ne : i ≠ o) (x : Nat) : (if x = o then fun y => decide (y = i) || st.adj o y else if x = i then fun y => decide (y = o) || st.adj i y else st.adj x) = (linkS st i o).adj x := by
  funext y
  show _ = ((decide (x = i) && decide (y = o)) || (decide (x = o) && decide (y = i)) || st.adj x y)
  by_cases e2 : x = o
  · subst e2; rw [if_pos rfl, decide_eq_true (rfl : x = x), decide_eq_false ne.symm]; rfl
  · rw [if_neg e2, decide_eq_false e2]
    by_cases e1 : x = i
    · rw [if_pos e1, decide_eq_true e1, e1, Bool.true_and, Bool.false_and, Bool.or_false]
    · rw [if_neg e1, decide_eq_false e1]; rfl
theorem call_join (g : Ground C) (hn : 4 ≤ n) {N i o : Nat} (hN : N ≤ 8) (G : GAt N a st H) (D : GD N a tg) (hi : i < N) (ho : o < N) (ne : i ≠ o)
    (q : ∀ H', GAt N a (linkS st i o) H' → Fr tg H H' → Q .none H') : FCall C n X (.ref 97) [.ref a.x, .int i, .int o] H Q := by
  refine fcallU g (fn_Graph_join g) (by omega) rfl (brT (by rw [decide_eq_false fun e => ne (Int.ofNat_inj.mp e)]; rfl) (xNear G (xRow G hi (xPutRow G D hN hi ho fun H1 G1 b1 => xNear G1 (xRow G1 ho (xPutRow G1 D hN ho hi fun H2 G2 b2 => ?_))))))
  refine q H2 (G2.congr (fun x hx => ?_) rfl (fun _ _ => rfl) (fun _ _ => rfl) rfl) (((Fr.refl tg H).but b1 (G.isR hi) (D.row i hi) (by omega)).but b2 (G1.isR ho) (D.row o ho) (by omega))
  rw [← link_row st ne]
  show _ = if x = o then fun y => decide (y = i) || (if o = i then fun y => decide (y = o) || st.adj i y else st.adj o) y else if x = i then _ else st.adj x
  rw [if_neg ne.symm]
end
end Mine
end
section
open PySem PySem.W PyProof.Rows PySem.Calls
set_option maxRecDepth 100000
namespace Mine
theorem pow2 {o : Nat} (h : o ≤ 8) : 0 < (2 : Int) ^ o ∧ (2 : Int) ^ o ≤ 256 := by
  have : ∀ o ∈ List.range 9, 0 < (2 : Int) ^ o ∧ (2 : Int) ^ o ≤ 256 := by decide
  exact this o (List.mem_range.mpr (Nat.lt_succ_of_le h))
structure Pu (k : Nat) (st : GS) : Prop where
  sym : ∀ i j, st.adj i j = st.adj j i
  irr : ∀ i, st.adj i i = false
  lt : ∀ i j, st.adj i j = true → i < k ∧ j < k
  ali : ∀ i, i < k → st.ali i = i
  cost : ∀ i, i < k → 1 ≤ st.cost i ∧ st.cost i ≤ 9
  cross : st.cross = fun _ => false
  cps : st.cps = []
theorem Pu.link {k i o : Nat} {st : GS} (h : Pu k st) (hi : i < k) (ho : o < k) (ne : i ≠ o) : Pu k (linkS st i o) where
  sym := fun x y => by
    show ((decide (x = i) && decide (y = o)) || (decide (x = o) && decide (y = i)) || st.adj x y) = ((decide (y = i) && decide (x = o)) || (decide (y = o) && decide (x = i)) || st.adj y x)
    rw [h.sym x y, Bool.and_comm (decide (y = i)), Bool.and_comm (decide (y = o)), Bool.or_comm (decide (x = o) && decide (y = i))]
  irr := fun x => by
    show ((decide (x = i) && decide (x = o)) || (decide (x = o) && decide (x = i)) || st.adj x x) = false
    rw [h.irr, Bool.and_comm (decide (x = o)), Bool.or_self, Bool.or_false]
    by_cases e : x = i
    · rw [decide_eq_false fun z => ne (e.symm.trans z), Bool.and_false]
    · rw [decide_eq_false e]; rfl
  lt := fun x y e => by
    have e : ((decide (x = i) && decide (y = o)) || (decide (x = o) && decide (y = i)) || st.adj x y) = true := e
    rw [Bool.or_eq_true, Bool.or_eq_true, Bool.and_eq_true, Bool.and_eq_true, decide_eq_true_iff, decide_eq_true_iff, decide_eq_true_iff, decide_eq_true_iff] at e
    rcases e with (⟨rfl, rfl⟩ | ⟨rfl, rfl⟩) | e
    · exact ⟨hi, ho⟩
    · exact ⟨ho, hi⟩
    · exact h.lt x y e
  ali := h.ali
  cost := h.cost
  cross := h.cross
  cps := h.cps
section
variable {kg kn kc k : Nat} {a a3 : GA} {st : GS} {m : LA} {tg tg3 : Addr → Nat} {tws : List (Nat × Nat)} {l : List Int} {p : Nat} {H H' H1 H2 H3 H4 : AHeap}
theorem NAt.congr {N : Nat} {b : Addr} {row : Nat → Addr} {V : Nat → Bool} {adj adj' : Nat → Nat → Bool} (h : NAt N b row V adj H) (e : ∀ j, V j = true → adj' j = adj j) : NAt N b row V adj' H :=
  ⟨h.dict, fun j hj => by rw [e j hj]; exact h.rows j hj⟩
theorem Dr.nrow (d : Dr kg kn kc a st m tg tws l p H) {x y : Nat} (hx : x < kn) (hy : y < kn) (e : x ≠ y) : m.row x ≠ m.row y := apart (d.trow x hx) (d.trow y hy) (r110r e)
theorem Dr.nna (d : Dr kg kn kc a st m tg tws l p H) {x : Nat} (hx : x < kn) : m.row x ≠ m.na := apart (d.trow x hx) d.tna (r110 (by decide))
theorem Dr.N1 (d : Dr kg kn kc a st m tg tws l p H) (f : Fr tg H H1) : NAt kg m.na m.row (fun j => decide (j < kn)) st.adj H1 :=
  d.N.off f.off (ge_of_tag d.tna (by decide)) fun j hj => ge_of_tag (d.trow j (of_decide_eq_true hj)) (Nat.le_trans (by decide) (Nat.le_add_right 110 j))
theorem Dr.linked (hk : kg ≤ 8) (d : Dr kg kg kc a st m tg tws l p H) {i o : Nat} (hi : i < kg) (ho : o < kg) (ne : i ≠ o) (G1 : GAt kg a (linkS st i o) H1) (f1 : Fr tg H H1) (b2 : But1 (m.row i) H1 H2) (s2 : SetAt H2 kg (m.row i) fun k => decide (k = o) || st.adj i k)
    (b3 : But1 (m.row o) H2 H3) (s3 : SetAt H3 kg (m.row o) fun k => decide (k = i) || st.adj o k) : Dr kg kg kc a (linkS st i o) m tg tws l p H3 ∧ OffT tg H H3 := by
  have N1 := d.N1 f1
  have o1 := f1.off
  have vi : decide (i < kg) = true := decide_eq_true hi
  have vo : decide (o < kg) = true := decide_eq_true ho
  have N2 := N1.setRow vi (fun k hk' e => d.nrow (of_decide_eq_true hk') hi e) (d.nna hi) b2 s2
  have N3 := N2.setRow vo (fun k hk' e => d.nrow (of_decide_eq_true hk') ho e) (d.nna ho) b3 s3
  obtain ⟨_, _, z1, _⟩ := N1.rows i vi
  obtain ⟨_, _, z2, _⟩ := N2.rows o vo
  have o2 := Off.one b2 z1 rfl
  have o3 := Off.one b3 z2 rfl
  have n2 : ∀ {c k}, tg c = k → k < 110 → ¬ (c = m.row i) := fun h1 h2 => apart h1 (d.trow i hi) (r110 h2).symm
  have n3 : ∀ {c k}, tg c = k → k < 110 → ¬ (c = m.row o) := fun h1 h2 => apart h1 (d.trow o ho) (r110 h2).symm
  have g2 : ∀ c, c = m.row i → 100 ≤ tg c := fun c e => by rw [e, d.trow i hi]; exact Nat.le_trans (by decide) (Nat.le_add_right 110 i)
  have g3 : ∀ c, c = m.row o → 100 ≤ tg c := fun c e => by rw [e, d.trow o ho]; exact Nat.le_trans (by decide) (Nat.le_add_right 110 o)
  have j2 : ∀ c, c = m.row i → tg c < 140 := fun c e => by rw [e, d.trow i hi]; omega
  have j3 : ∀ c, c = m.row o → tg c < 140 := fun c e => by rw [e, d.trow o ho]; omega
  refine ⟨⟨(G1.off d.D d.tlc hk o2 g2).off d.D d.tlc hk o3 g3, d.D, d.tlc, N3.congr fun j hj => (link_row st ne j).symm, d.tna, d.trow, ?_, d.tca, ?_, d.twa, ?_, d.tw, d.tan⟩,
    OffT.trans (OffT.trans (H1 := H1) (o1.mono fun c h => Nat.lt_trans h (by decide)) (Agree.refl _ _) (o2.mono j2)) (Agree.refl _ _) (o3.mono j3)⟩
  · exact ((d.C.off o1 (ge_of_tag d.tca (by decide))).off o2 (n2 d.tca (by decide))).off o3 (n3 d.tca (by decide))
  · exact ((d.T.off o1 (ge_of_tag d.twa (by decide))).off o2 (n2 d.twa (by decide))).off o3 (n3 d.twa (by decide))
  · exact ((d.W.off o1 (ge_of_tag d.tw (by decide)) (ge_of_tag d.tan (by decide))).off o2 (n2 d.tw (by decide)) (n2 d.tan (by decide))).off o3 (n3 d.tw (by decide)) (n3 d.tan (by decide))
noncomputable def LA.put (m : LA) (k : Nat) (b : Addr) : LA := { m with row := fun j => if j = k then b else m.row j }
noncomputable def cellS (st : GS) (k : Nat) (w : Int) : GS := { st with cost := fun j => if j = k then w else st.cost j, ali := fun i => if i = k then k else st.ali i }
theorem Pu.new {st : GS} (h : Pu k st) {w : Int} (hc : 1 ≤ w ∧ w ≤ 9) : Pu (k + 1) (cellS st k w) where
  sym := h.sym
  irr := h.irr
  lt := fun i j e => ⟨Nat.lt_succ_of_lt (h.lt i j e).1, Nat.lt_succ_of_lt (h.lt i j e).2⟩
  ali := fun i hi => by
    show (if i = k then k else st.ali i) = i
    by_cases e : i = k
    · rw [if_pos e, e]
    · rw [if_neg e]; exact h.ali i (Nat.lt_of_le_of_ne (Nat.le_of_lt_succ hi) e)
  cost := fun i hi => by
    show 1 ≤ (if i = k then w else st.cost i) ∧ (if i = k then w else st.cost i) ≤ 9
    by_cases e : i = k
    · rw [if_pos e]; exact hc
    · rw [if_neg e]; exact h.cost i (Nat.lt_of_le_of_ne (Nat.le_of_lt_succ hi) e)
  cross := h.cross
  cps := h.cps
theorem Dr.celled {w : Int} (hk : k < 8) (d : Dr k k (k + 1) a { st with cost := fun j => if j = k then w else st.cost j } m tg [] l p H2) (hp : Pu k st) (elc : a3.lc = a.lc) (G3 : GAt (k + 1) a3 (newS { st with cost := fun j => if j = k then w else st.cost j } k w) H3) (D3 : GD (k + 1) a3 tg3) (A3 : Agree tg tg3 H2) (f3 : Fr tg H2 H3)
    {b : Addr} {ep : Nat} (hb : H3 b = none) (b4 : But1 m.na (H3.set b (.dict [] ep)) H4) (N4 : NAt (k + 1) m.na (fun j => if j = k then b else m.row j) (fun j => decide (j = k) || decide (j < k)) (fun j => if j = k then fun _ => false else st.adj j) H4) :
    ∃ tg4, Dr (k + 1) (k + 1) (k + 1) a3 (cellS st k w) (m.put k b) tg4 [] l p H4 ∧ OffT tg H2 H4 ∧ Agree tg tg4 H2 := by
  have o3 := f3.off
  have N3 := (d.N1 f3).monoN (Nat.le_succ k)
  have C3 := d.C.off o3 (ge_of_tag d.tca (by decide))
  have T3 := (d.T.off o3 (ge_of_tag d.twa (by decide))).monoN (Nat.le_succ k)
  have W3 := d.W.off o3 (ge_of_tag d.tw (by decide)) (ge_of_tag d.tan (by decide))
  have hadj : ∀ j, st.adj k j = false := fun j => by
    cases e : st.adj k j with
    | false => rfl
    | true => exact absurd (hp.lt k j e).1 (Nat.lt_irrefl k)
  have lk : ∀ {i}, i < k + 1 → i ≠ k → i < k := fun h e => Nat.lt_of_le_of_ne (Nat.le_of_lt_succ h) e
  have G3' : GAt (k + 1) a3 (cellS st k w) H3 := G3.congr (fun i hi => by
      show st.adj i = if i = k then fun _ => false else st.adj i
      by_cases e : i = k
      · rw [if_pos e, e]; funext j; exact hadj j
      · rw [if_neg e]) rfl (fun i hi => by
      show (if i = k then w else st.cost i) = if i = k then w else (if i = k then w else st.cost i)
      by_cases e : i = k
      · rw [if_pos e, if_pos e]
      · rw [if_neg e, if_neg e]) (fun _ _ => rfl) rfl
  have exa : ∀ {c : Addr} {o : AO} {i : Nat}, H2 c = some o → tg c = i → tg3 c = i := fun h e => (A3 _ _ h).trans e
  have x4 : Ext H3 (H3.set b (.dict [] ep)) := Ext.new _ hb
  have nb : ∀ {c o}, H3 c = some o → c ≠ b := fun h e => by rw [e, hb] at h; cases h
  obtain ⟨_, _, zna, _⟩ := N3.dict
  obtain ⟨_, _, zn2, _⟩ := d.N.dict
  have o4 := Off.one b4 (x4 _ _ zna) rfl
  have e4 : ∀ {c o i}, H3 c = some o → tg3 c = i → (if c = b then 110 + k else tg3 c) = i := fun h e => (if_neg (nb h)).trans e
  have tna3 : tg3 m.na = 100 := exa zn2 d.tna
  have q4 : ∀ {c i}, tg3 c = i → i ≠ 100 → ¬ (c = m.na) := fun h1 h2 => apart h1 tna3 h2
  have tca3 := exa d.C d.tca
  have twa3 : tg3 m.wa = 102 := by obtain ⟨_, z, _⟩ := d.T; exact exa z d.twa
  have tw3 := exa d.W.2.1 d.tw
  have tan3 := exa d.W.2.2.1 d.tan
  have tlc3 : tg3 a3.lc = 6 := by rw [elc]; obtain ⟨_, z, _⟩ := d.G.cps; exact exa z d.tlc
  have D4 : GD (k + 1) a3 (fun c => if c = b then 110 + k else tg3 c) :=
    ⟨let ⟨_, _, z⟩ := G3'.isN; e4 z D3.dn, let ⟨_, _, z⟩ := G3'.isX; e4 z D3.dx, let ⟨_, _, z⟩ := G3'.isC; e4 z D3.dc, let ⟨_, _, z⟩ := G3'.isA; e4 z D3.da, fun i hi => let ⟨_, _, z⟩ := G3'.isR hi; e4 z (D3.row i hi)⟩
  refine ⟨fun c => if c = b then 110 + k else tg3 c, { G := (G3'.ext x4).off D3 tlc3 hk o4 fun c e => by rw [e, tna3]; decide, D := D4, tlc := let ⟨_, z, _⟩ := G3'.cps; e4 z tlc3, N := ⟨?_, fun j hj => ?_⟩, tna := e4 zna tna3, trow := fun j hj => ?_, C := IL.off (x4 _ _ C3) o4 (q4 tca3 (by decide)), tca := e4 C3 tca3, T := (T3.ext x4).off o4 (q4 twa3 (by decide)), twa := let ⟨_, z, _⟩ := T3; e4 z twa3, W := ?_, tw := e4 W3.2.1 tw3, tan := e4 W3.2.2.1 tan3 }, ?_, ?_⟩
  · obtain ⟨l, ep', z, zz, r⟩ := N4.dict
    refine ⟨l, ep', z, zz, fun j => ?_⟩
    rw [r]
    refine ifc ?_
    rw [Bool.or_eq_true, decide_eq_true_iff, decide_eq_true_iff, decide_eq_true_iff, Nat.lt_succ_iff_lt_or_eq, Or.comm]
  · have hj := of_decide_eq_true hj
    show SetAt H4 (k + 1) (if j = k then b else m.row j) (st.adj j)
    have := N4.rows j (by rw [Bool.or_eq_true, decide_eq_true_iff, decide_eq_true_iff]; exact (Nat.lt_succ_iff_lt_or_eq.mp hj).symm)
    have : SetAt H4 (k + 1) (if j = k then b else m.row j) (if j = k then fun _ => false else st.adj j) := this
    by_cases e : j = k
    · rw [if_pos e, if_pos e] at this
      rw [if_pos e, e, show st.adj k = fun _ => false from funext hadj]; exact this
    · rw [if_neg e, if_neg e] at this
      rw [if_neg e]; exact this
  · show (if (if j = k then b else m.row j) = b then 110 + k else tg3 (if j = k then b else m.row j)) = 110 + j
    by_cases e : j = k
    · rw [if_pos e, if_pos rfl, e]
    · rw [if_neg e]
      obtain ⟨_, _, z, _⟩ := N3.rows j (decide_eq_true (lk hj e))
      obtain ⟨_, _, z2, _⟩ := d.N.rows j (decide_eq_true (lk hj e))
      exact e4 z (exa z2 (d.trow j (lk hj e)))
  · exact WellAt.off ⟨W3.1, x4 _ _ W3.2.1, x4 _ _ W3.2.2.1, W3.2.2.2⟩ o4 (q4 tw3 (by decide)) (q4 tan3 (by decide))
  · refine OffT.trans (H1 := H3) (o3.mono fun c h => Nat.lt_trans h (by decide)) A3 ⟨fun c o h k => o4.keep c o (x4 _ _ h) (k.imp (fun k e => k ?_) id), fun c h => x4.free (o4.dom c h)⟩
    show tg3 c < 140
    rw [e, tna3]; decide
  · exact A3.trans o3.dom fun c o h => if_neg (nb h)
end
end Mine
end
section
open PySem PySem.W PyProof.Rows PySem.Calls
set_option maxRecDepth 100000
namespace Mine
section
variable {N : Nat} {a : GA} {st st' : GS} {m : LA} {tg : Addr → Nat} {tws tws' : List (Nat × Nat)} {l : List Int} {p : Nat} {H H' : AHeap} {Q : AV → AHeap → Prop} {U : AHeap → Prop}
theorem Dr.step (d : Dr N N N a st m tg tws l p H) {b : Addr} {o : AO} {i : Nat} (x : But1 b H H') (h : H b = some o) (hm : isMut o = true) (hb : tg b = i) (c0 : 100 ≠ i) (c1 : 101 ≠ i) (c3 : 103 ≠ i) (c4 : 104 ≠ i) (ci : i < 110) (ea : st'.adj = st.adj) (ec : st'.cost = st.cost)
    (G : Off (fun c => c = b) H H' → GAt N a st' H') (T : Off (fun c => c = b) H H' → TwsAt H' N m.wa tws') : Dr N N N a st' m tg tws' l p H' ∧ OffT tg H H' := by
  have off := Off.one x h hm
  have np : ∀ {c k}, tg c = k → k ≠ i → ¬ (c = b) := fun h1 h2 => apart h1 hb h2
  exact ⟨⟨G off, d.D, d.tlc, by rw [ea]; exact d.N.off off (np d.tna c0) fun j hj => np (d.trow j (of_decide_eq_true hj)) (r110 ci), d.tna, d.trow, by rw [ec]; exact d.C.off off (np d.tca c1), d.tca, T off, d.twa, d.W.off off (np d.tw c3) (np d.tan c4), d.tw, d.tan⟩,
    off.mono fun c e => by rw [e, hb]; exact Nat.lt_trans ci (by decide)⟩
theorem Dr.cross (d : Dr N N N a st m tg tws l p H) (hN : N ≤ 8) {k : Nat} {v : AV} (hk : k < N) (q : ∀ H', Dr N N N a { st with cross := fun j => decide (j = k) || st.cross j } m tg tws l p H' → OffT tg H H' → U H') : kSetSub a.dx k v H U := by
  obtain ⟨_, _, z, _⟩ := d.G.cross
  refine xPutCr d.G d.D hN hk fun H' G' b => ?_
  have := d.step (st' := { st with cross := fun j => decide (j = k) || st.cross j }) (tws' := tws) b z rfl d.D.dx (by decide) (by decide) (by decide) (by decide) (by decide) rfl rfl (fun _ => G') fun off => d.T.off off (apart d.twa d.D.dx (by decide))
  exact q H' this.1 this.2
theorem Dr.twin (d : Dr N N N a st m tg tws l p H) (hN : N ≤ 8) {t : Addr} {x y : Nat} (ht : H t = some (.tup [.int x, .int y])) (hx : x < N) (hy : y < N) (hl : tws.length < 4) (q : ∀ H', Dr N N N a st m tg (tws ++ [(x, y)]) l p H' → OffT tg H H' → Q .none H') : kAppend m.wa (.ref t) H Q := by
  obtain ⟨tl, z, z1, z2⟩ := d.T
  have zl := z2.length
  refine xApp z (Nat.le_trans z1 (by decide)) ?_
  have := d.step (st' := st) (tws' := tws ++ [(x, y)]) (But1.set m.wa H (.list (tl ++ [.ref t]))) z rfl d.twa (by decide) (by decide) (by decide) (by decide) (by decide) rfl rfl (fun off => d.G.off d.D d.tlc hN off fun c e => by rw [e, d.twa]; decide)
    fun off => ⟨_, AHeap.set_self _ _ _, by rw [List.length_append, zl]; exact hl, F2.snoc (z2.mono fun _ _ ⟨t, e, k, m⟩ => ⟨t, e, off.keep _ _ k (.inr rfl), m⟩) ⟨t, rfl, off.keep _ _ ht (.inr rfl), hx, hy⟩⟩
  exact q _ this.1 this.2
theorem Dr.copy (d : Dr N N N a st m tg tws l p H) (hN : N ≤ 8) {t : Addr} {w : Int} {x y : Nat} (ht : H t = some (.tup [.int w, .int x, .int y])) (hx : x < N) (hy : y < N) (hl : st.cps.length < 4) (q : ∀ H', Dr N N N a { st with cps := st.cps ++ [(x, y)] } m tg tws l p H' → OffT tg H H' → Q .none H') : kAppend a.lc (.ref t) H Q := by
  obtain ⟨tl, z, z1, z2⟩ := d.G.cps
  have zl := z2.length
  have np : ∀ {c k}, tg c = k → k ≠ 6 → ¬ (c = a.lc) := fun h1 h2 => apart h1 d.tlc h2
  refine xApp z (Nat.le_trans z1 (by decide)) ?_
  have := d.step (st' := { st with cps := st.cps ++ [(x, y)] }) (tws' := tws) (But1.set a.lc H (.list (tl ++ [.ref t]))) z rfl d.tlc (by decide) (by decide) (by decide) (by decide) (by decide) rfl rfl (fun off =>
    ⟨off.keep _ _ d.G.x (.inr rfl), off.keep _ _ d.G.d (.inr rfl), let ⟨ep, q⟩ := d.G.near; ⟨ep, off.keep _ _ q (.inl (np d.D.dn (by decide)))⟩, fun i hi => (d.G.rows i hi).off off (np (d.D.row i hi) (ten (by decide))), d.G.cross.off off (np d.D.dx (by decide)),
      let ⟨l, ep, q, r⟩ := d.G.cost; ⟨l, ep, off.keep _ _ q (.inl (np d.D.dc (by decide))), r⟩, let ⟨l, ep, q, r⟩ := d.G.ali; ⟨l, ep, off.keep _ _ q (.inl (np d.D.da (by decide))), r⟩,
      ⟨_, AHeap.set_self _ _ _, by rw [List.length_append, zl]; exact hl, F2.snoc (z2.mono fun _ _ ⟨t, w, e, k, m⟩ => ⟨t, w, e, off.keep _ _ k (.inr rfl), m⟩) ⟨t, w, rfl, off.keep _ _ ht (.inr rfl), hx, hy⟩⟩⟩) fun off => d.T.off off (np d.twa (by decide))
  exact q _ this.1 this.2
end
end Mine
end
section
open PySem PySem.W PyProof.Rows PySem.Calls
set_option maxRecDepth 100000
namespace Mine
structure PuD (N : Nat) (st : GS) (tws : List (Nat × Nat)) : Prop where
  sym : ∀ i j, st.adj i j = st.adj j i
  irr : ∀ i, st.adj i i = false
  lt : ∀ i j, st.adj i j = true → i < N ∧ j < N
  ali : ∀ i, i < N → st.ali i = i
  cost : ∀ i, i < N → 1 ≤ st.cost i ∧ st.cost i ≤ 9
  crlt : ∀ i, st.cross i = true → i < N
  cps : st.cps = tws
  twlt : ∀ c ∈ tws, c.1 < N ∧ c.2 < N
section
variable {C : Cfg} {n : Nat} {X : AHeap → Prop} {N : Nat} {a : GA} {st : GS} {m : LA} {tg : Addr → Nat} {tws : List (Nat × Nat)} {l : List Int} {p : Nat} {H H' : AHeap} {Q : AV → AHeap → Prop} {T : Bool → AHeap → Prop}
theorem Dr.retag {tg' : Addr → Nat} (d : Dr N N N a st m tg tws l p H) (A : Agree tg tg' H) : Dr N N N a st m tg' tws l p H :=
  have e : ∀ {c o i}, H c = some o → tg c = i → tg' c = i := fun h e => (A _ _ h).trans e
  { d with
    D := ⟨let ⟨_, _, z⟩ := d.G.isN; e z d.D.dn, let ⟨_, _, z⟩ := d.G.isX; e z d.D.dx, let ⟨_, _, z⟩ := d.G.isC; e z d.D.dc, let ⟨_, _, z⟩ := d.G.isA; e z d.D.da, fun i hi => let ⟨_, _, z⟩ := d.G.isR hi; e z (d.D.row i hi)⟩
    tlc := let ⟨_, z, _⟩ := d.G.cps; e z d.tlc
    tna := let ⟨_, _, z, _⟩ := d.N.dict; e z d.tna
    trow := fun j hj => let ⟨_, _, z, _⟩ := d.N.rows j (decide_eq_true hj); e z (d.trow j hj)
    tca := e d.C d.tca
    twa := let ⟨_, z, _⟩ := d.T; e z d.twa
    tw := e d.W.2.1 d.tw
    tan := e d.W.2.2.1 d.tan }
theorem SetAt.offT {b : Addr} {q : Nat → Bool} (s : SetAt H N b q) (o : OffT tg H H') {i : Nat} (hb : tg b = i) (h : 140 ≤ i) : SetAt H' N b q := s.off o (ge_of_tag hb h)
theorem xRng (hN : N ≤ 8) (q : ∀ c H', Ext H H' → H' c = some (.rng N) → Q (.ref c) H') : kRange (N : Int) H Q := by
  unfold kRange
  exact ⟨Int.natCast_nonneg _, by omega, fun c hc => q c _ (Ext.new _ hc) (by rw [AHeap.set_self, Int.toNat_natCast])⟩
theorem items_rng {c : Addr} (h : H c = some (.rng N)) : itemsOf H (.ref c) = some (nats (List.range N)) := by rw [itemsOf, h]; rfl
theorem range_get {N i j : Nat} (h : (List.range N)[i]? = some j) : j = i ∧ i < N := by
  have hi : i < N := by have := (List.getElem?_eq_some_iff.mp h).1; rw [List.length_range] at this; exact this
  rw [List.getElem?_range hi] at h; cases h; exact ⟨rfl, hi⟩
theorem rng_at {N i : Nat} {w : AV} (h : (nats (List.range N))[i]? = some w) : i < N ∧ w = .int i := by
  obtain ⟨j, hj, rfl⟩ := nats_get h
  obtain ⟨rfl, h⟩ := range_get hj; exact ⟨h, rfl⟩
theorem rng_len (N : Nat) : (nats (List.range N)).length = N := by rw [nats_len, List.length_range]
theorem tw20 {i m : Nat} (h : i ≤ m) (hm : m ≤ 8) : (i : Int) ≤ 20 := by omega
theorem pw {i : Nat} (h : i ≤ 8) : 0 < (2 : Int) ^ i ∧ (2 : Int) ^ i ≤ 1000000 := ⟨(pow2 h).1, Int.le_trans (pow2 h).2 (by decide)⟩
theorem dA {a L k : Nat} (h : a ≤ L + 2 * k) (hl : L < 600) (hk : k ≤ 8) : a < 700 := by omega
theorem dB {a b m : Nat} (h : b ≤ a + 1) (ha : a < m) : b < m + 1 := Nat.lt_of_le_of_lt h (Nat.succ_lt_succ ha)
theorem dC {a b c L k : Nat} (h : a ≤ L + 2 * k) (h1 : b ≤ a + 1) (h2 : c ≤ b + 1) : c ≤ L + 2 * (k + 1) := by omega
theorem dD {a L i : Nat} (h : a ≤ L + 3 * i) (hL : L < 702) (hi : i < 5) : a < 720 := by omega
theorem dE3 {a b c d L i : Nat} (h : a ≤ L + 3 * i) (h1 : b ≤ a + 1) (h2 : c ≤ b + 1) (h3 : d ≤ c + 1) : d ≤ L + 3 * (i + 1) := by omega
theorem dF {a b c d L N i : Nat} (h : a ≤ b + 3 * i) (h1 : b ≤ c + 1) (h2 : c ≤ d + 1) (h3 : d ≤ L + 2 * N) (hN : N ≤ 8) (hi : i < 5) : a ≤ L + 40 := by omega
theorem lt9 {a m : Nat} (h : a < m) (hm : m ≤ 900) : a < 900 := Nat.lt_of_lt_of_le h hm
theorem twN {t i x : Nat} (e : t = i) (h : i < x) (hx : x < 5) : t < 4 := by omega
theorem cost9 {x : Int} (h0 : 0 ≤ x) (h1 : x < 9) : 1 ≤ 1 + x ∧ 1 + x ≤ 9 := by omega
inductive DrO (k : Nat) (a3 : GA) (m4 : LA) (tg4 : Addr → Nat) (l : List Int) (p : Nat) (H6 H : AHeap) : Prop where
  | mk (st : GS) (d : Dr k k k a3 st m4 tg4 [] l p H) (hp : Pu k st) (o : OffT tg4 H6 H)
inductive DrC (gx w an na ca wa : Addr) (tg3 : Addr → Nat) (L : Nat) (H4 : AHeap) (i : Nat) (H : AHeap) : Prop where
  | mk (a : GA) (st : GS) (m : LA) (tg : Addr → Nat) (l : List Int) (p : Nat) (d : Dr i i i a st m tg [] l p H) (hp : Pu i st) (hl : l.length ≤ L + 2 * i) (o : OffT tg3 H4 H) (A : Agree tg3 tg H4) (ex : a.x = gx) (e1 : m.na = na) (e2 : m.ca = ca) (e3 : m.wa = wa) (e4 : m.w = w) (e5 : m.an = an)
inductive DrT (N : Nat) (a : GA) (st : GS) (m : LA) (tg : Addr → Nat) (L : Nat) (H11 : AHeap) (i : Nat) (H : AHeap) : Prop where
  | mk (tws : List (Nat × Nat)) (l : List Int) (p : Nat) (d : Dr N N N a { st with cps := tws } m tg tws l p H) (e : tws.length = i) (lt : ∀ c ∈ tws, c.1 < N ∧ c.2 < N) (hl : l.length ≤ L + 3 * i) (o : OffT tg H11 H)
structure DrX (N : Nat) (a : GA) (st : GS) (m : LA) (tg : Addr → Nat) (l : List Int) (p : Nat) (H8 : AHeap) (ks : List Nat) (i : Nat) (H : AHeap) : Prop where
  d : Dr N N N a { st with cross := fun j => decide (j ∈ ks.take i) } m tg [] l p H
  o : OffT tg H8 H
theorem Dr.start {w an : Addr} (G : GAt 0 a st H) (D : GD 0 a tg) (tlc : tg a.lc = 6) (W : WellAt H w an l p) (tw : tg w = 103) (tan : tg an = 104) {na ca wa : Addr} {ep : Nat} (h1 : H na = none) (h2 : (H.set na (.dict [] ep)) ca = none) (h3 : ((H.set na (.dict [] ep)).set ca (.list [])) wa = none) :
    ∃ tg3, Dr 0 0 0 a st ⟨na, ca, wa, w, an, fun _ => 0⟩ tg3 [] l p (((H.set na (.dict [] ep)).set ca (.list [])).set wa (.list [])) ∧ Agree tg tg3 H ∧ Ext H (((H.set na (.dict [] ep)).set ca (.list [])).set wa (.list [])) := by
  have x1 := Ext.new (.dict [] ep) h1
  have x2 := Ext.new (.list []) h2
  have x3 := Ext.new (.list []) h3
  have w1 : (H.set na (.dict [] ep)) na = some (.dict [] ep) := AHeap.set_self _ _ _
  have w2 : ((H.set na (.dict [] ep)).set ca (.list [])) ca = some (.list []) := AHeap.set_self _ _ _
  have w3 : (((H.set na (.dict [] ep)).set ca (.list [])).set wa (.list [])) wa = some (.list []) := AHeap.set_self _ _ _
  generalize (H.set na (.dict [] ep)).set ca (.list []) = H2 at *
  generalize H.set na (.dict [] ep) = H1 at *
  have x03 := (x1.trans x2).trans x3
  have A3 : ∀ {c o i}, H c = some o → tg c = i → (if c = wa then 102 else if c = ca then 101 else if c = na then 100 else tg c) = i := fun h e => by
    rw [if_neg (ne_new (x2 _ _ (x1 _ _ h)) h3), if_neg (ne_new (x1 _ _ h) h2), if_neg (ne_new h h1)]; exact e
  refine ⟨fun c => if c = wa then 102 else if c = ca then 101 else if c = na then 100 else tg c, { G := G.ext x03, D := ⟨let ⟨_, _, z⟩ := G.isN; A3 z D.dn, let ⟨_, _, z⟩ := G.isX; A3 z D.dx, let ⟨_, _, z⟩ := G.isC; A3 z D.dc, let ⟨_, _, z⟩ := G.isA; A3 z D.da, fun i hi => absurd hi (Nat.not_lt_zero i)⟩, tlc := let ⟨_, z, _⟩ := G.cps; A3 z tlc, N := ⟨⟨[], ep, x3 _ _ (x2 _ _ w1), KeysN.nil 0, fun j => rfl⟩, fun j hj => absurd (of_decide_eq_true hj) (Nat.not_lt_zero j)⟩, tna := ?_, trow := fun j hj => absurd hj (Nat.not_lt_zero j), C := x3 _ _ w2, tca := ?_, T := ⟨[], w3, Nat.zero_le _, .nil⟩, twa := if_pos rfl, W := ⟨W.1, x03 _ _ W.2.1, x03 _ _ W.2.2.1, W.2.2.2⟩, tw := A3 W.2.1 tw, tan := A3 W.2.2.1 tan }, fun c o h => A3 h rfl, x03⟩
  · show (if na = wa then 102 else if na = ca then 101 else if na = na then 100 else tg na) = 100
    rw [if_neg (ne_new (x2 _ _ w1) h3), if_neg (ne_new w1 h2), if_pos rfl]
  · show (if ca = wa then 102 else if ca = ca then 101 else if ca = na then 100 else tg ca) = 101
    rw [if_neg (ne_new w2 h3), if_pos rfl]
theorem call_drawn (g : Ground C) (hn : 16 ≤ n) (hN : N ≤ 8) (hN2 : 2 ≤ N) {w an : Addr} (G : GAt 0 a st H) (D : GD 0 a tg) (tlc : tg a.lc = 6) (hx : st.cross = fun _ => false) (hc : st.cps = []) (hadj : ∀ i j, st.adj i j = false) (W : WellAt H w an l p) (tw : tg w = 103) (tan : tg an = 104) (hl : l.length < 600)
    (q : ∀ t a' st' m' xA tws tg' l' p' H', H' t = some (.tup [.ref m'.na, .ref m'.ca, .ref xA, .ref m'.wa]) → a'.x = a.x → m'.w = w → m'.an = an → Dr N N N a' st' m' tg' tws l' p' H' → SetAt H' N xA st'.cross → tg' xA = 150 → PuD N st' tws → l'.length ≤ l.length + 40 → OffT tg H H' → Agree tg tg' H → Q (.ref t) H') :
    FCall C n X (.ref 204) [.ref w, .ref a.x, .int N] H Q := by
  have hn8 : 8 ≤ n - 1 := by omega
  have hn4 : 4 ≤ n - 1 := by omega
  have hN0 : (0 : Int) < N := by omega
  refine fcallU g (fn_law_drawn g) (by omega) rfl fun na ep1 h1 => fun ca h2 => fun wa h3 => ?_
  obtain ⟨tg3, d3, A3, x3⟩ := Dr.start G D tlc W tw tan h1 h2 h3
  show dSs _ _ _ _ _ (((H.set na (.dict [] ep1)).set ca (.list [])).set wa (.list [])) _
  generalize ((H.set na (.dict [] ep1)).set ca (.list [])).set wa (.list []) = H3 at d3 x3 ⊢
  have o3 : OffT tg H H3 := Off.ext x3
  have p3 : Pu 0 st := ⟨fun i j => by rw [hadj, hadj], fun i => hadj i i, fun i j e => (by rw [hadj] at e; cases e), fun i hi => absurd hi (Nat.not_lt_zero i), fun i hi => absurd hi (Nat.not_lt_zero i), hx, hc⟩
  obtain ⟨gx, hgx⟩ : ∃ gx, a.x = gx := ⟨_, rfl⟩
  rw [hgx] at q ⊢
  refine xRng hN fun c4 H4 x4 w4 => ?_
  refine forC [(0, .ref w), (1, .ref gx), (2, .int N), (3, .ref na), (4, .ref ca), (5, .ref wa)] (DrC gx w an na ca wa tg3 l.length H4) (items_rng w4) rfl ⟨a, st, _, tg3, l, p, d3.ext x4, p3, Nat.le_refl _, Off.ext (Ext.refl _), Agree.refl _ _, hgx, rfl, rfl, rfl, rfl, rfl⟩ (fun i H' j => ?_) ?_ ?_
  · obtain ⟨_, _, _, _, _, _, _, _, _, o, _⟩ := j
    show H' c4 = H4 c4; rw [w4]; exact o.keep _ _ w4 (.inr rfl)
  · rintro k H' wv ⟨a', st', m, tg', l', p', d, hp, hl', o', A', rfl, rfl, rfl, rfl, rfl, rfl⟩ hw Q3 nx rt
    obtain ⟨hk, rfl⟩ := rng_at hw
    have hk8 : k < 8 := Nat.lt_of_lt_of_le hk hN
    have hl6 := dA hl' hl (Nat.le_of_lt hk8)
    refine xHasL rfl d.C (xG (gl_law_draw g) (ce_law_draw g) (d.draw g hn4 (Nat.le_of_lt hk8) (lt9 hl6 (by decide)) (by decide) fun l1 x H1 hx0 hx1 hl1 d1 f1 => d1.cost (Nat.le_of_lt hk8) fun H2 d2 f2 => ?_))
    have G2 := d2.G
    refine xM (G2.mTouch g) (ce_Graph_touch g) (xSubIL d2.C hk8 (Nat.lt_succ_self k) ?_)
    show FCall _ _ _ _ [.ref a'.x, .int k, .int (if k = k then 1 + x else st'.cost k)] H2 _
    rw [if_pos rfl]
    refine call_touch g hn8 hk8 d2.G d2.D fun a3 tg3' H3 ex3 elc3 G3 D3 A3 f3 => fun b ep hb => ?_
    refine xNPut ((d2.N1 f3).monoN (Nat.le_succ k)) hk8 (fun j hj => d2.nna (of_decide_eq_true hj)) (Nat.lt_succ_self k) hb fun H4 b4 N4 => ?_
    obtain ⟨tg4, d4, o4, A4⟩ := d2.celled hk8 hp elc3 G3 D3 A3 f3 hb b4 N4
    have hp4 : Pu (k + 1) (cellS st' k (1 + x)) := hp.new (cost9 hx0 hx1)
    have o24 : OffT tg' H' H4 := (f1.trans (Agree.refl _ _) f2).trans (Agree.refl _ _) o4
    have A24 : Agree tg' tg4 H' := (Agree.refl tg' H').trans (f1.trans (Agree.refl _ _) f2).dom A4
    refine xG (gl_law_draw g) (ce_law_draw g) (And.intro ⟨rfl, Int.natCast_nonneg _, tw20 (Nat.le_of_lt hk8) (Nat.le_refl 8)⟩ (d4.draw g hn4 hk8 (lt9 (dB hl1 hl6) (by decide)) (pow2 (Nat.le_of_lt hk8)).1 fun l5 mask H5 hm0 hm1 hl5 d5 f5 => xRng (Nat.le_of_lt hk8) fun c6 H6 x6 w6 => ?_))
    rw [← ex3]
    refine forC [(0, .ref m.w), (1, .ref a3.x), (2, .int N), (3, .ref m.na), (4, .ref m.ca), (5, .ref m.wa), (6, .int k), (7, .int mask)] (fun _ H' => DrO (k + 1) a3 (m.put k b) tg4 l5 (p' + 1 + 1) H6 H') (items_rng w6) rfl ⟨_, d5.ext x6, hp4, Off.ext (Ext.refl _)⟩ (fun i H' j => ?_) ?_ ?_
    · obtain ⟨_, _, _, o⟩ := j
      show H' c6 = H6 c6; rw [w6]; exact o.keep _ _ w6 (.inr rfl)
    · rintro i H7 wv ⟨st7, d7, hp7, o7⟩ hw Q4 nx rt
      obtain ⟨hi, rfl⟩ := rng_at hw
      have hi8 := Nat.lt_trans hi hk8
      have hik : k ≠ i := Nat.ne_of_gt hi
      have hiS := Nat.lt_succ_of_lt hi
      have hkS := Nat.lt_succ_self k
      refine And.intro ⟨rfl, Int.natCast_nonneg _, tw20 (Nat.le_of_lt hi8) (Nat.le_refl 8)⟩ (And.intro (pw (Nat.le_of_lt hi8)) (And.intro (by decide) (brD (fun h => ?_) fun h => nx _ _ ⟨st7, d7, hp7, o7⟩ rfl)))
      refine xM (d7.G.mJoin g) (ce_Graph_join g) (call_join g hn4 hk8 d7.G d7.D hkS hiS hik fun H8 G8 f8 => ?_)
      have N8 := d7.N1 f8
      have vk : decide (k < k + 1) = true := decide_eq_true hkS
      have vi : decide (i < k + 1) = true := decide_eq_true hiS
      refine xNRow N8 vk (xPutS (N8.rows k vk) hk8 hiS fun H9 b9 s9 => ?_)
      have N9 := N8.setRow vk (fun k' hk' e => d7.nrow (of_decide_eq_true hk') hkS e) (d7.nna hkS) b9 s9
      refine xNRow N9 vi (xPutS (N9.rows i vi) hk8 hkS fun H10 b10 s10 => ?_)
      have s10 : SetAt H10 (k + 1) ((m.put k b).row i) fun j => decide (j = k) || (if i = k then fun j => decide (j = i) || st7.adj k j else st7.adj i) j := s10
      rw [if_neg hik.symm] at s10
      obtain ⟨d10, o10⟩ := d7.linked hk8 hkS hiS hik G8 f8 b9 s9 b10 s10
      exact nx _ _ ⟨_, d10, hp7.link hkS hiS hik, o7.trans (Agree.refl _ _) o10⟩ rfl
    · rintro H7 ⟨st7, d7, hp7, o7⟩
      have of : OffT tg' H' H7 := ((o24.trans A24 f5).trans A24 (Off.ext x6)).trans A24 o7
      exact nx _ _ ⟨a3, st7, _, tg4, l5, _, d7, hp7, dC hl' hl1 hl5, o'.trans A' of, A'.trans o'.dom A24, ex3, rfl, rfl, rfl, rfl, rfl⟩ (by rw [ex3]; rfl)
  · rintro H5 ⟨a5, st5, m, tg5, l5, p5, d5, hp5, hl5, o5, A5, rfl, rfl, rfl, rfl, rfl, rfl⟩
    rw [rng_len] at d5 hp5 hl5
    have hm5 := dA hl5 hl hN
    have o05 : OffT tg H H5 := (o3.trans A3 (Off.ext x4)).trans A3 o5
    have A05 : Agree tg tg5 H := A3.trans (fun c h => o3.dom c (x4.free h)) A5
    refine xG (gl_law_draw g) (ce_law_draw g) (And.intro ⟨rfl, Int.natCast_nonneg _, tw20 (Nat.le_refl N) hN⟩ (d5.draw g hn4 hN (lt9 hm5 (by decide)) (pow2 hN).1 fun l6 mask H6 hm0 hm1 hl6 d6 f6 => xRng hN fun c7 H7 x7 w7 => ?_))
    have d7 := d6.ext x7
    have o07 : OffT tg H H7 := (o05.trans A05 f6).trans A05 (Off.ext x7)
    refine dcompN (N := N) (fun j => decide (mask / 2 ^ j % 2 = 1)) (fun _ => .bool true) (items_rng w7) rfl (by rw [List.length_range]; exact Nat.le_trans hN (by decide)) (fun j hj => List.mem_range.mp hj) (fun j hj Y No yes no => ?_) fun acc k hv xA ep8 hxA => ?_
    · have hj8 := Nat.lt_of_lt_of_le (List.mem_range.mp hj) hN
      exact And.intro ⟨rfl, Int.natCast_nonneg _, tw20 (Nat.le_of_lt hj8) (Nat.le_refl 8)⟩ (And.intro (pw (Nat.le_of_lt hj8)) (And.intro (by decide) (brD (fun h => yes (decide_eq_true h)) fun h => no (decide_eq_false h))))
    obtain ⟨cx, hcx⟩ : ∃ cx : Nat → Bool, cx = fun j => decide (j ∈ List.range N) && decide (mask / 2 ^ j % 2 = 1) := ⟨_, rfl⟩
    have x8 : Ext H7 (H7.set xA (.dict acc ep8)) := Ext.new _ hxA
    have s8 : SetAt (H7.set xA (.dict acc ep8)) N xA cx := ⟨acc, ep8, AHeap.set_self _ _ _, k, fun j => by
      rw [has, hv, hcx]
      show (if (decide (j ∈ List.range N) && decide (mask / 2 ^ j % 2 = 1)) = true then some (AV.bool true) else none).isSome = (decide (j ∈ List.range N) && decide (mask / 2 ^ j % 2 = 1))
      cases decide (j ∈ List.range N) && decide (mask / 2 ^ j % 2 = 1) <;> rfl⟩
    show dSs _ _ _ _ _ (H7.set xA (.dict acc ep8)) _
    generalize H7.set xA (.dict acc ep8) = H8 at x8 s8 ⊢
    have A8 : Agree tg5 (fun c => if c = xA then 150 else tg5 c) H7 := fun c o h => if_neg fun e => by rw [e, hxA] at h; cases h
    have txA : (fun c => if c = xA then 150 else tg5 c) xA = 150 := if_pos rfl
    generalize (fun c => if c = xA then 150 else tg5 c) = tg8 at A8 txA
    have d8 := (d7.retag A8).ext x8
    have A08 : Agree tg tg8 H := A05.trans (fun c h => o07.dom c h) A8
    have o08 : OffT tg H H8 := o07.trans A05 (Off.ext x8)
    obtain ⟨ks, it8, nd, hkm⟩ := s8.keys
    have hkl : ∀ j ∈ ks, j < N := fun j hj => s8.lt ((hkm j).mp hj)
    refine forC [(0, .ref m.w), (1, .ref a5.x), (2, .int N), (3, .ref m.na), (4, .ref m.ca), (5, .ref m.wa), (9, .ref xA)] (DrX N a5 st5 m tg8 l6 (p5 + 1) H8 ks) it8 rfl ⟨{ d8 with G := d8.G.congr (fun _ _ => rfl) (by rw [hp5.cross]; rfl) (fun _ _ => rfl) (fun _ _ => rfl) rfl }, Off.ext (Ext.refl _)⟩ (fun i H' j => ?_) ?_ ?_
    · obtain ⟨_, _, z, _⟩ := s8
      show H' xA = H8 xA; rw [z]; exact j.o.keep _ _ z (.inl (ge_of_tag txA (by decide)))
    · rintro i H9 wv ⟨d9, o9⟩ hw Q3 nx rt
      obtain ⟨j, hj, rfl, hjm, _⟩ := nats_at hw
      exact xCross d9.G (d9.cross hN (hkl j hjm) fun H10 d10 o10 => nx _ _ ⟨{ d10 with G := d10.G.congr (fun _ _ => rfl) (flf_succ hj).symm (fun _ _ => rfl) (fun _ _ => rfl) rfl }, o9.trans (Agree.refl _ _) o10⟩ rfl)
    · rintro H9 ⟨d9, o9⟩
      rw [nats_len, take_all, show (fun j => decide (j ∈ ks)) = cx from funext fun j => by rw [Bool.eq_iff_iff, decide_eq_true_iff, hkm]] at d9
      have s9 := s8.offT o9 txA (by decide)
      have o09 := o08.trans A08 o9
      refine xG (gl_law_draw g) (ce_law_draw g) (d9.draw g hn4 hN (lt9 (dB hl6 hm5) (by decide)) (by decide) fun l10 x H10 hx0 hx1 hl10 d10 f10 => ?_)
      obtain ⟨x, rfl⟩ := Int.eq_ofNat_of_zero_le hx0
      have hm10 := dB hl10 (dB hl6 hm5)
      have hx5 : x < 5 := Int.ofNat_lt.mp hx1
      refine xRng (Nat.le_of_lt (Nat.lt_trans hx5 (by decide))) fun c11 H11 x11 w11 => ?_
      have s11 := (s9.offT f10 txA (by decide)).ext x11
      have o011 := (o09.trans A08 f10).trans A08 (Off.ext x11)
      have d11 := d10.ext x11
      refine forC [(0, .ref m.w), (1, .ref a5.x), (2, .int N), (3, .ref m.na), (4, .ref m.ca), (5, .ref m.wa), (9, .ref xA)] (DrT N a5 { st5 with cross := cx } m tg8 l10.length H11) (items_rng w11) rfl ⟨[], l10, _, { d11 with G := d11.G.congr (fun _ _ => rfl) rfl (fun _ _ => rfl) (fun _ _ => rfl) hp5.cps.symm }, rfl, fun _ h => (nomatch h), Nat.le_refl _, Off.ext (Ext.refl _)⟩ (fun i H' j => ?_) ?_ ?_
      · obtain ⟨_, _, _, _, _, _, _, o⟩ := j
        show H' c11 = H11 c11; rw [w11]; exact o.keep _ _ w11 (.inr rfl)
      · rintro i H12 wv ⟨tws, l', p', d12, hlt, htw, hl', o12⟩ hw Q3 nx rt
        obtain ⟨hik, rfl⟩ := rng_at hw
        have ht4 := twN hlt hik hx5
        have hl3 := dD hl' hm10 (Nat.lt_trans hik hx5)
        refine xG (gl_law_draw g) (ce_law_draw g) (d12.draw g hn4 hN (lt9 hl3 (by decide)) hN0 fun l13 one H13 h10 h11 hl13 d13 f13 => xG (gl_law_draw g) (ce_law_draw g) (d13.draw g hn4 hN (lt9 (dB hl13 hl3) (by decide)) hN0 fun l14 oth H14 h20 h21 hl14 d14 f14 => ?_))
        obtain ⟨one, rfl⟩ := Int.eq_ofNat_of_zero_le h10
        obtain ⟨oth, rfl⟩ := Int.eq_ofNat_of_zero_le h20
        have h11 := Int.ofNat_lt.mp h11
        have h21 := Int.ofNat_lt.mp h21
        obtain ⟨_, z14, _⟩ := d14.T
        refine xHasL rfl z14 fun t15 ht15 => ?_
        have x15 := Ext.new (.tup [.int one, .int oth]) ht15
        refine (d14.ext x15).twin hN (AHeap.set_self _ _ _) h11 h21 ht4 fun H16 d16 f16 => ?_
        obtain ⟨_, z16, _⟩ := d16.G.cps
        refine xCopies d16.G (xHasL rfl z16 (xG (gl_law_draw g) (ce_law_draw g) (d16.draw g hn4 hN (lt9 (dB hl14 (dB hl13 hl3)) (by decide)) (by decide) fun l17 wt H17 h30 h31 hl17 d17 f17 => fun t18 ht18 => ?_)))
        have x18 := Ext.new (.tup [.int (-1 - wt), .int one, .int oth]) ht18
        refine (d17.ext x18).copy hN (AHeap.set_self _ _ _) h11 h21 ht4 fun H19 d19 f19 => nx _ _ ⟨tws ++ [(one, oth)], l17, _, d19, by rw [List.length_append, hlt]; rfl, fun c hc => ?_, dE3 hl' hl13 hl14 hl17, ?_⟩ rfl
        · rcases List.mem_append.mp hc with h | h
          · exact htw c h
          · rw [List.mem_singleton.mp h]; exact ⟨h11, h21⟩
        · have AA := Agree.refl tg8
          exact o12.trans (AA _) ((((((f13.trans (AA _) f14).trans (AA _) (Off.ext x15)).trans (AA _) f16).trans (AA _) f17).trans (AA _) (Off.ext x18)).trans (AA _) f19)
      · rintro H12 ⟨tws, l', p', d12, hlt, htw, hl', o12⟩ t ht
        rw [rng_len] at hlt hl'
        have xt := Ext.new (.tup [.ref m.na, .ref m.ca, .ref xA, .ref m.wa]) ht
        exact q t a5 _ m xA tws tg8 l' p' _ (AHeap.set_self _ _ _) rfl rfl rfl (d12.ext xt) ((s11.offT o12 txA (by decide)).ext xt) txA ⟨hp5.sym, hp5.irr, hp5.lt, hp5.ali, hp5.cost, fun i hi => s11.lt hi, rfl, htw⟩ (dF hl' hl10 hl6 hl5 hN hx5) ((o011.trans A08 o12).trans A08 (Off.ext xt)) A08
end
end Mine
end
section
open PySem PySem.W PyProof.Rows PySem.Calls
set_option maxRecDepth 100000
namespace Mine
structure PInv (N : Nat) (A : Nat → Nat → Bool) (c0 : Nat → Int) (cx fz : Nat → Bool) (tws : List (Nat × Nat)) (K E : Nat) (st : GS) (ldr : Nat → Nat) : Prop where
  ld : ∃ rk, LD N st.ali ldr rk
  idem : ∀ i, i < N → ldr (ldr i) = ldr i
  lead : ∀ i, i < N → (isL st i = true ↔ ldr i = i)
  adj : ∀ h x, st.adj h x = true ↔ ∃ c k, A c k = true ∧ ldr c = h ∧ ldr k = x
  apart : ∀ i j, A i j = true → ldr i ≠ ldr j
  froz : ∀ i j, i < N → j < N → ldr i = ldr j → fz i = true → i = j
  conn : ∀ h i, h < N → ldr h = h → i < N → ldr i = h → Conn tws ldr h i
  cost : ∀ h, h < N → ldr h = h → st.cost h = (((List.range N).filter fun i => ldr i == h).map c0).sum
  cross : ∀ h, h < N → ldr h = h → (st.cross h = true ↔ ∃ c, c < N ∧ ldr c = h ∧ cx c = true)
  easy : Easy N (fun _ => true) A (rmOf cx K E) → Easy N (isL st) st.adj (room st K E)
structure Drawn (N : Nat) (A : Nat → Nat → Bool) (tws : List (Nat × Nat)) : Prop where
  sym : ∀ i j, A i j = A j i
  irr : ∀ i, A i i = false
  lt : ∀ i j, A i j = true → i < N ∧ j < N
  tw : ∀ c ∈ tws, c.1 < N ∧ c.2 < N
section
variable {N : Nat} {A : Nat → Nat → Bool} {c0 : Nat → Int} {cx fz : Nat → Bool} {tws : List (Nat × Nat)} {K E : Nat} {st : GS} {ldr : Nat → Nat}
theorem PInv.sym (P : PInv N A c0 cx fz tws K E st ldr) (D : Drawn N A tws) (i j : Nat) (h : st.adj i j = true) : st.adj j i = true := by
  obtain ⟨c, k, h1, h2, h3⟩ := (P.adj i j).mp h
  exact (P.adj j i).mpr ⟨k, c, by rw [D.sym]; exact h1, h3, h2⟩
theorem PInv.symB (P : PInv N A c0 cx fz tws K E st ldr) (D : Drawn N A tws) (i j : Nat) : st.adj i j = st.adj j i := by
  rw [Bool.eq_iff_iff]; exact ⟨P.sym D i j, P.sym D j i⟩
theorem PInv.irr (P : PInv N A c0 cx fz tws K E st ldr) (i : Nat) : st.adj i i = false := by
  cases h : st.adj i i with
  | false => rfl
  | true =>
    obtain ⟨c, k, h1, h2, h3⟩ := (P.adj i i).mp h
    exact absurd (h2.trans h3.symm) (P.apart c k h1)
theorem PInv.ltld (P : PInv N A c0 cx fz tws K E st ldr) {i : Nat} (hi : i < N) : ldr i < N := by obtain ⟨rk, L⟩ := P.ld; exact L.lt i hi
theorem PInv.lead_r (P : PInv N A c0 cx fz tws K E st ldr) (D : Drawn N A tws) {i j : Nat} (h : st.adj i j = true) : j < N ∧ ldr j = j ∧ isL st j = true := by
  obtain ⟨c, k, h1, h2, h3⟩ := (P.adj i j).mp h
  have hk := (D.lt c k h1).2
  have e1 : ldr j = j := by rw [← h3]; exact P.idem k hk
  have e2 : j < N := by rw [← h3]; exact P.ltld hk
  exact ⟨e2, e1, (P.lead j e2).mpr e1⟩
theorem PInv.lead_l (P : PInv N A c0 cx fz tws K E st ldr) (D : Drawn N A tws) {i j : Nat} (h : st.adj i j = true) : i < N ∧ ldr i = i ∧ isL st i = true := P.lead_r D (P.sym D i j h)
theorem PInv.wf (P : PInv N A c0 cx fz tws K E st ldr) (D : Drawn N A tws) : WF N st ldr := ⟨P.ld, fun i j _ h => P.sym D i j h, fun i _ => P.irr i⟩
theorem PInv.join (P : PInv N A c0 cx fz tws K E st ldr) (D : Drawn N A tws) : JoinOk N st ldr A c0 cx fz tws where
  ld := P.ld
  lead := P.lead
  conn := P.conn
  froz := fun h i hh hl hi hil hz => by
    rw [cnt_congr (q := fun j => decide (j = i)) fun j hj => by
      rw [Bool.eq_iff_iff, beq_iff_eq, decide_eq_true_iff]
      exact ⟨fun e => (P.froz i j hi hj (by rw [hil, e]) hz).symm, fun e => by rw [e]; exact hil⟩]
    rw [cnt_erase _ hi]
    rw [cnt_congr (q := fun _ => false) fun j _ => by cases decide (j = i) <;> rfl]
    simp [cnt]
  apart := fun i j _ h => P.apart i j h
  adj := fun h x hh hl => by
    rw [P.adj]
    exact ⟨fun ⟨c, k, h1, h2, h3⟩ => ⟨c, k, (D.lt c k h1).1, h2, h1, h3⟩, fun ⟨c, k, _, h2, h1, h3⟩ => ⟨c, k, h1, h2, h3⟩⟩
  cross := P.cross
  cost := P.cost
theorem Conn.mem {hd : Nat → Nat} {h i : Nat} (c : Conn tws hd h i) (hh : hd h = h) : hd i = h := by
  cases c with
  | refl => exact hh
  | step _ _ e => exact e
theorem Conn.mono {hd hd' : Nat → Nat} {h i : Nat} (c : Conn tws hd h i) (e : ∀ j, hd j = h → hd' j = h) : Conn tws hd' h i := by
  induction c with
  | refl => exact .refl
  | step _ he hj ih => exact .step ih he (e _ hj)
theorem Conn.back {hd hd' : Nat → Nat} {a o i : Nat} (c : Conn tws hd o i) (ho : hd o = o) (e : ∀ j, hd j = o → hd' j = a) (r : Conn tws hd' a i) : Conn tws hd' a o := by
  induction c with
  | refl => exact r
  | step c1 he hj ih =>
    exact ih (.step r he.symm (e _ (c1.mem ho)))
theorem Conn.forth {hd hd' : Nat → Nat} {a o i : Nat} (c : Conn tws hd o i) (e : ∀ j, hd j = o → hd' j = a) (r : Conn tws hd' a o) : Conn tws hd' a i := by
  induction c with
  | refl => exact r
  | step _ he hj ih => exact .step ih he (e _ hj)
theorem sum_or (l : List Nat) (p q : Nat → Bool) (c : Nat → Int) (h : ∀ i, p i = true → q i = false) : ((l.filter fun i => p i || q i).map c).sum = ((l.filter p).map c).sum + ((l.filter q).map c).sum := by
  induction l with
  | nil => rfl
  | cons i l ih =>
    cases hp : p i
    · cases hq : q i
      · simp [hp, hq, ih]
      · simp [hp, hq, ih]; omega
    · have hq := h i hp
      simp [hp, hq, ih]; omega
end
end Mine
end
section
open PySem PySem.W PyProof.Rows PySem.Calls
set_option maxRecDepth 100000
namespace Mine
section
variable {N : Nat} {A : Nat → Nat → Bool} {c0 : Nat → Int} {cx fz : Nat → Bool} {tws : List (Nat × Nat)} {K E : Nat} {st : GS} {ldr : Nat → Nat}
theorem merge_adj (P : PInv N A c0 cx fz tws K E st ldr) (D : Drawn N A tws) {a o : Nat} (ne : a ≠ o) (na : st.adj a o = false) (h x : Nat) :
    (mergeS st a o).adj h x = true ↔ ∃ c k, A c k = true ∧ joinL ldr a o c = h ∧ joinL ldr a o k = x := by
  have noa : st.adj o a = false := by rw [P.symB D]; exact na
  have noo := P.irr o
  have naa := P.irr a
  show (if h = o then false else adjI st.adj a o (st.adj o) h x) = true ↔ _
  constructor
  · intro H
    by_cases ho : h = o
    · rw [if_pos ho] at H; cases H
    rw [if_neg ho] at H
    unfold adjI at H
    by_cases ha : h = a
    · rw [if_pos ha, Bool.or_eq_true] at H
      have xo : x ≠ o := fun e => by rw [e, na, noo] at H; rcases H with H | H <;> cases H
      rcases H with H | H
      · obtain ⟨c, k, h1, h2, h3⟩ := (P.adj a x).mp H
        exact ⟨c, k, h1, by rw [joinL, h2, if_neg ne, ha], by rw [joinL, h3, if_neg xo]⟩
      · obtain ⟨c, k, h1, h2, h3⟩ := (P.adj o x).mp H
        exact ⟨c, k, h1, by rw [joinL, h2, if_pos rfl, ha], by rw [joinL, h3, if_neg xo]⟩
    · rw [if_neg ha] at H
      by_cases hoh : st.adj o h = true
      · rw [if_pos hoh] at H
        by_cases xo : x = o
        · rw [if_pos xo] at H; cases H
        rw [if_neg xo] at H
        by_cases xa : x = a
        · obtain ⟨c, k, h1, h2, h3⟩ := (P.adj h o).mp (P.sym D o h hoh)
          exact ⟨c, k, h1, by rw [joinL, h2, if_neg ho], by rw [joinL, h3, if_pos rfl, xa]⟩
        · rw [if_neg xa] at H
          obtain ⟨c, k, h1, h2, h3⟩ := (P.adj h x).mp H
          exact ⟨c, k, h1, by rw [joinL, h2, if_neg ho], by rw [joinL, h3, if_neg xo]⟩
      · rw [if_neg hoh] at H
        have xo : x ≠ o := fun e => by rw [e] at H; exact hoh (P.sym D h o H)
        obtain ⟨c, k, h1, h2, h3⟩ := (P.adj h x).mp H
        exact ⟨c, k, h1, by rw [joinL, h2, if_neg ho], by rw [joinL, h3, if_neg xo]⟩
  · rintro ⟨c, k, h1, h2, h3⟩
    unfold joinL at h2 h3
    by_cases co : ldr c = o
    · rw [if_pos co] at h2
      by_cases ko : ldr k = o
      · exact absurd (co.trans ko.symm) (P.apart c k h1)
      · rw [if_neg ko] at h3
        have : st.adj o x = true := (P.adj o x).mpr ⟨c, k, h1, co, h3⟩
        rw [if_neg fun e => ne (h2.trans e)]; unfold adjI; rw [if_pos h2.symm, this, Bool.or_true]
    · rw [if_neg co] at h2
      by_cases ko : ldr k = o
      · rw [if_pos ko] at h3
        have hh : st.adj h o = true := (P.adj h o).mpr ⟨c, k, h1, h2, ko⟩
        have ha : h ≠ a := fun e => by rw [e, na] at hh; cases hh
        have hh' := P.sym D h o hh
        rw [if_neg fun e => co (h2.trans e)]; unfold adjI
        rw [if_neg ha, if_pos hh', if_neg fun e => ne (h3.trans e), if_pos h3.symm]
      · rw [if_neg ko] at h3
        have hh : st.adj h x = true := (P.adj h x).mpr ⟨c, k, h1, h2, h3⟩
        rw [if_neg fun e => co (h2.trans e)]; unfold adjI
        by_cases ha : h = a
        · rw [if_pos ha, ← ha, hh, Bool.true_or]
        · rw [if_neg ha]
          split
          · rw [if_neg fun e => ko (h3.trans e)]
            split
            · rfl
            · exact hh
          · exact hh
theorem merge_lead (P : PInv N A c0 cx fz tws K E st ldr) {a o : Nat} (ha : a < N) (ne : a ≠ o) (la : ldr a = a) (i : Nat) (hi : i < N) : isL (mergeS st a o) i = true ↔ joinL ldr a o i = i := by
  have hl := P.lead i hi
  simp only [isL, beq_iff_eq] at hl ⊢
  show (if i = o then a else st.ali i) = i ↔ _
  unfold joinL
  by_cases e : i = o
  · rw [if_pos e]
    have : ldr i = o ∨ ldr i ≠ o := Decidable.em _
    rcases this with h | h
    · rw [if_pos h]
    · rw [if_neg h]
      exact ⟨fun z => absurd (z.trans e) ne, fun z => absurd (z.trans e) h⟩
  · rw [if_neg e, hl]
    by_cases h : ldr i = o
    · rw [if_pos h]
      exact ⟨fun z => absurd (z.symm.trans h) e, fun z => absurd ((la.symm.trans (congrArg ldr z)).trans h) ne⟩
    · rw [if_neg h]
theorem cnt_or_le (p q : Nat → Bool) : cnt N (fun j => p j || q j) ≤ cnt N p + cnt N q := by
  induction N with
  | zero => simp [cnt]
  | succ N ih =>
    simp only [cnt, List.range_succ, List.countP_append, List.countP_cons, List.countP_nil, Nat.zero_add] at ih ⊢
    cases p N <;> cases q N <;> simp <;> omega
theorem merge_deg (P : PInv N A c0 cx fz tws K E st ldr) (D : Drawn N A tws) {a o : Nat} (ha : a < N) (ho : o < N) (ne : a ≠ o) (na : st.adj a o = false) {t : Nat} (ta : t ≠ a) (to : t ≠ o) :
    cnt N ((mergeS st a o).adj t) + (if st.adj a t && st.adj o t then 1 else 0) = cnt N (st.adj t) := by
  have e0 : (mergeS st a o).adj t = fun j => if st.adj o t then (if j = o then false else if j = a then true else st.adj t j) else st.adj t j := by
    funext j
    show (if t = o then false else adjI st.adj a o (st.adj o) t j) = _
    rw [if_neg to, adjI, if_neg ta]
  rw [e0]
  cases hot : st.adj o t with
  | false => simp
  | true =>
    have hto := P.sym D o t hot
    rw [cnt_erase (st.adj t) ho, hto]
    simp only [if_true, Bool.and_true]
    have e1 : cnt N (fun j => if j = o then false else if j = a then true else st.adj t j) = cnt N (fun j => (st.adj t j && !decide (j = o)) && !decide (j = a)) + 1 := by
      rw [cnt_erase (fun j => if j = o then false else if j = a then true else st.adj t j) ha]
      simp only [if_neg ne, if_true]
      congr 1
      refine cnt_congr fun j _ => ?_
      by_cases j1 : j = o
      · simp [j1]
      · by_cases j2 : j = a <;> simp [j1, j2]
    rw [e1, cnt_erase (fun j => st.adj t j && !decide (j = o)) ha]
    simp only [ne, decide_false, Bool.not_false, Bool.and_true, P.symB D a t]
    cases st.adj t a <;> simp
theorem merge_easy (P : PInv N A c0 cx fz tws K E st ldr) (D : Drawn N A tws) {a o : Nat} (ha : a < N) (ho : o < N) (ne : a ≠ o) (na : st.adj a o = false) (la : ldr a = a) (sf : safeB N st K E a o = true)
    (Ez : Easy N (isL st) st.adj (room st K E)) : Easy N (isL (mergeS st a o)) (mergeS st a o).adj (room (mergeS st a o) K E) := by
  intro S hS hne
  have hSo : S o = false := by
    cases h : S o with
    | false => rfl
    | true =>
      have := (hS o h).1
      simp only [isL, beq_iff_eq] at this
      have e : (mergeS st a o).ali o = a := if_pos rfl
      rw [e] at this; exact absurd this ne
  have hSl : ∀ i, S i = true → isL st i = true ∧ i < N := fun i hi => by
    have io : i ≠ o := fun e => by rw [e, hSo] at hi; cases hi
    obtain ⟨h1, h2⟩ := hS i hi
    refine ⟨?_, h2⟩
    simp only [isL, beq_iff_eq] at h1 ⊢
    have e : (mergeS st a o).ali i = st.ali i := if_neg io
    rwa [e] at h1
  have rmt : ∀ t, t ≠ a → room (mergeS st a o) K E t = room st K E t := fun t ht => by
    have : (mergeS st a o).cross t = st.cross t := by
      show (if st.cross o then decide (t = a) || st.cross t else st.cross t) = _
      rw [decide_eq_false ht, Bool.false_or]; split <;> rfl
    simp only [room, this]
  cases hSa : S a with
  | false =>
    obtain ⟨v, hv, hlt⟩ := Ez S hSl hne
    have va : v ≠ a := fun e => by rw [e, hSa] at hv; cases hv
    have vo : v ≠ o := fun e => by rw [e, hSo] at hv; cases hv
    refine ⟨v, hv, ?_⟩
    rw [rmt v va]
    refine Nat.lt_of_le_of_lt (Nat.le_of_eq (cnt_congr fun j _ => ?_)) hlt
    cases hj : S j with
    | false => simp
    | true =>
      have ja : j ≠ a := fun e => by rw [e, hSa] at hj; cases hj
      have jo : j ≠ o := fun e => by rw [e, hSo] at hj; cases hj
      congr 1
      show (if v = o then false else adjI st.adj a o (st.adj o) v j) = _
      rw [if_neg vo, adjI, if_neg va, if_neg jo, if_neg ja]
      split <;> rfl
  | true =>
    refine Classical.byContradiction fun hcon => ?_
    have hall : ∀ v, S v = true → room (mergeS st a o) K E v ≤ cnt N (fun j => (mergeS st a o).adj v j && S j) := fun v hv => by
      refine Nat.le_of_not_lt fun h => hcon ⟨v, hv, h⟩
    have hA : ∀ j, (mergeS st a o).adj a j = (st.adj a j || st.adj o j) := fun j => by
      show (if a = o then false else adjI st.adj a o (st.adj o) a j) = _
      rw [if_neg ne, adjI, if_pos rfl]
    have h1 := hall a hSa
    have hsz : room (mergeS st a o) K E a = sizeS st K E a o := by
      have : (mergeS st a o).cross a = (st.cross a || st.cross o) := by
        show (if st.cross o then decide (a = a) || st.cross a else st.cross a) = _
        cases st.cross o <;> cases st.cross a <;> simp
      simp only [room, sizeS, this]
    rw [hsz] at h1
    simp only [safeB, Bool.or_eq_true, decide_eq_true_eq] at sf
    rcases sf with sf | sf
    · have : cnt N (fun j => (mergeS st a o).adj a j && S j) ≤ deg N st a + deg N st o := by
        refine Nat.le_trans (cnt_mono (q := fun j => st.adj a j || st.adj o j) fun j _ h => ?_) (cnt_or_le _ _)
        rw [hA, Bool.and_eq_true] at h; exact h.1
      omega
    · have : cnt N (fun j => (mergeS st a o).adj a j && S j) ≤ cnt N (fun t => (st.adj a t || st.adj o t) && hardS N st K E a o t) := by
        refine cnt_mono fun t ht h => ?_
        rw [Bool.and_eq_true, hA] at h
        have ta : t ≠ a := fun e => by
          rw [e, P.irr a, P.symB D o a, na] at h; simp at h
        have to : t ≠ o := fun e => by rw [e, hSo] at h; cases h.2
        rw [Bool.and_eq_true]
        refine ⟨h.1, decide_eq_true ?_⟩
        have h2 := hall t h.2
        rw [rmt t ta] at h2
        have h3 : cnt N (fun j => (mergeS st a o).adj t j && S j) ≤ cnt N ((mergeS st a o).adj t) := cnt_mono fun j _ h => by rw [Bool.and_eq_true] at h; exact h.1
        have h4 := merge_deg P D ha ho ne na ta to
        simp only [deg]
        split at h4
        · next e => rw [if_pos e]; omega
        · next e => rw [if_neg e]; omega
      omega
end
end Mine
end
section
open PySem PySem.W PyProof.Rows PySem.Calls
set_option maxRecDepth 100000
namespace Mine
section
variable {N : Nat} {A : Nat → Nat → Bool} {c0 : Nat → Int} {cx fz : Nat → Bool} {tws : List (Nat × Nat)} {K E : Nat} {st : GS} {ldr : Nat → Nat}
theorem PInv.merge (P : PInv N A c0 cx fz tws K E st ldr) (D : Drawn N A tws) {x y : Nat} (hxy : (x, y) ∈ tws) (hx : x < N) (hy : y < N) (ne : ldr x ≠ ldr y) (na : st.adj (ldr x) (ldr y) = false) (fa : fz (ldr x) = false) (fo : fz (ldr y) = false) (sf : safeB N st K E (ldr x) (ldr y) = true) :
    PInv N A c0 cx fz tws K E (mergeS st (ldr x) (ldr y)) (joinL ldr (ldr x) (ldr y)) := by
  have ha := P.ltld hx
  have ho := P.ltld hy
  have la := P.idem x hx
  have lo := P.idem y hy
  generalize hea : ldr x = a at *
  generalize heo : ldr y = o at *
  have j1 : ∀ i, ldr i = o → joinL ldr a o i = a := fun i h => by rw [joinL, if_pos h]
  have j2 : ∀ i, ldr i ≠ o → joinL ldr a o i = ldr i := fun i h => by rw [joinL, if_neg h]
  have jo : ∀ i, joinL ldr a o i ≠ o := fun i => by
    rw [joinL]; split
    · exact ne
    · assumption
  have jl : ∀ h, h < N → joinL ldr a o h = h → ldr h = h ∧ h ≠ o := fun h hh e => by
    have ho' : h ≠ o := fun z => by have := jo h; rw [e] at this; exact this z
    by_cases z : ldr h = o
    · rw [j1 h z] at e; subst e; rw [la] at z; exact absurd z ho'
    · rw [j2 h z] at e; exact ⟨e, ho'⟩
  refine { ld := ?_, idem := fun i hi => ?_, lead := merge_lead P ha ne la, adj := merge_adj P D ne na, apart := fun i j h => ?_, froz := fun i j hi hj e hz => ?_, conn := fun h i hh hl hi hil => ?_, cost := fun h hh hl => ?_, cross := fun h hh hl => ?_, easy := fun e => merge_easy P D ha ho ne na la sf (P.easy e) }
  · obtain ⟨rk, L⟩ := P.ld
    refine ⟨_, L.merge ha ne la lo ?_⟩
    have := (P.lead o ho).mpr lo
    simp only [isL, beq_iff_eq] at this; exact this
  · by_cases e : ldr i = o
    · rw [j1 i e, j2 a (by rw [la]; exact ne), la]
    · rw [j2 i e, j2 (ldr i) (by rw [P.idem i hi]; exact e), P.idem i hi]
  · have hap := P.apart i j h
    intro e
    by_cases ei : ldr i = o
    · by_cases ej : ldr j = o
      · exact hap (ei.trans ej.symm)
      · rw [j1 i ei, j2 j ej] at e
        have : st.adj o a = true := (P.adj o a).mpr ⟨i, j, h, ei, e.symm⟩
        rw [P.symB D, na] at this; cases this
    · by_cases ej : ldr j = o
      · rw [j2 i ei, j1 j ej] at e
        have : st.adj a o = true := (P.adj a o).mpr ⟨i, j, h, e, ej⟩
        rw [na] at this; cases this
      · rw [j2 i ei, j2 j ej] at e; exact hap e
  · have key : ∀ h, h < N → ldr h = h → ldr i = h → fz h = false → False := fun h hh hl hil hzh => by
      have := P.froz i h hi hh (by rw [hil, hl]) hz
      rw [this, hzh] at hz; cases hz
    by_cases ei : ldr i = o
    · exact (key o ho lo ei fo).elim
    · by_cases ej : ldr j = o
      · rw [j2 i ei, j1 j ej] at e; exact (key a ha la e fa).elim
      · rw [j2 i ei, j2 j ej] at e; exact P.froz i j hi hj e hz
  · obtain ⟨hl1, hl2⟩ := jl h hh hl
    have mono : ∀ j, ldr j = h → joinL ldr a o j = h := fun j e => by rw [j2 j (by rw [e]; exact hl2), e]
    by_cases ei : ldr i = o
    · rw [j1 i ei] at hil
      subst hil
      have c1 : Conn tws (joinL ldr a o) a x := (P.conn a x hh la hx hea).mono mono
      have c2 : Conn tws (joinL ldr a o) a y := .step c1 (.inl hxy) (j1 y heo)
      have c3 := (P.conn o y ho lo hy heo).back (a := a) lo j1 c2
      exact (P.conn o i ho lo hi ei).forth j1 c3
    · rw [j2 i ei] at hil
      exact (P.conn h i hh hl1 hi hil).mono mono
  · obtain ⟨hl1, hl2⟩ := jl h hh hl
    show (if h = a then st.cost a + st.cost o else st.cost h) = _
    by_cases e : h = a
    · rw [if_pos e, P.cost a ha la, P.cost o ho lo, ← sum_or]
      · congr 2
        refine List.filter_congr fun i _ => ?_
        rw [e, joinL]
        by_cases ei : ldr i = o
        · simp [ei]
        · simp [ei]
      · intro i hi
        simp only [beq_iff_eq] at hi
        rw [hi]; simp [ne]
    · rw [if_neg e, P.cost h hh hl1]
      congr 2
      refine List.filter_congr fun i _ => ?_
      rw [joinL]
      by_cases ei : ldr i = o
      · rw [if_pos ei, ei, Bool.eq_iff_iff, beq_iff_eq, beq_iff_eq]; exact ⟨fun z => absurd z.symm hl2, fun z => absurd z.symm e⟩
      · rw [if_neg ei]
  · obtain ⟨hl1, hl2⟩ := jl h hh hl
    have ec : (mergeS st a o).cross h = (st.cross o && decide (h = a) || st.cross h) := by
      show (if st.cross o then decide (h = a) || st.cross h else st.cross h) = _
      cases st.cross o <;> simp
    rw [ec, Bool.or_eq_true, Bool.and_eq_true, decide_eq_true_eq, P.cross h hh hl1, P.cross o ho lo]
    constructor
    · rintro (⟨⟨c, h1, h2, h3⟩, h4⟩ | ⟨c, h1, h2, h3⟩)
      · exact ⟨c, h1, by rw [j1 c h2, h4], h3⟩
      · exact ⟨c, h1, by rw [j2 c (by rw [h2]; exact hl2), h2], h3⟩
    · rintro ⟨c, h1, h2, h3⟩
      by_cases ei : ldr c = o
      · rw [j1 c ei] at h2; exact .inl ⟨⟨c, h1, ei, h3⟩, h2.symm⟩
      · rw [j2 c ei] at h2; exact .inr ⟨c, h1, h2, h3⟩
theorem sum_one {N h : Nat} (hh : h < N) (c : Nat → Int) : (((List.range N).filter fun i => i == h).map c).sum = c h := by
  induction N with
  | zero => omega
  | succ N ih =>
    rw [List.range_succ, List.filter_append, List.map_append, List.sum_append]
    by_cases e : h = N
    · subst e
      have : (List.range h).filter (fun i => i == h) = [] := List.filter_eq_nil_iff.mpr fun i hi => by
        have := List.mem_range.mp hi; simp; omega
      rw [this]; simp
    · rw [ih (by omega)]
      have : (N == h) = false := by simp; omega
      simp [this]
theorem PInv.init {st : GS} (D : Drawn N st.adj tws) (hal : ∀ i, i < N → st.ali i = i) (hcl : ∀ i, st.cross i = true → i < N) : PInv N st.adj st.cost st.cross fz tws K E st id where
  ld := ⟨fun _ => 0, ⟨fun i hi => hi, fun i _ _ => rfl, fun i hi e => absurd (hal i hi) e⟩⟩
  idem := fun _ _ => rfl
  lead := fun i hi => by simp only [isL, beq_iff_eq, hal i hi, id]
  adj := fun h x => ⟨fun e => ⟨h, x, e, rfl, rfl⟩, fun ⟨c, k, e, h1, h2⟩ => by simp only [id] at h1 h2; rw [← h1, ← h2]; exact e⟩
  apart := fun i j h e => by simp only [id] at e; rw [e, D.irr] at h; cases h
  froz := fun i j _ _ e _ => e
  conn := fun h i _ _ _ e => by simp only [id] at e; rw [e]; exact .refl
  cost := fun h hh _ => (sum_one hh st.cost).symm
  cross := fun h hh _ => ⟨fun e => ⟨h, hh, rfl, e⟩, fun ⟨c, _, e, z⟩ => by simp only [id] at e; rw [← e]; exact z⟩
  easy := fun Ez => by
    intro S hS hne
    exact Ez S (fun i hi => ⟨rfl, (hS i hi).2⟩) hne
theorem unsafe_of (P : PInv N A c0 cx fz tws K E st ldr) (D : Drawn N A tws) {a o : Nat} (ha : a < N) (ho : o < N) (la : ldr a = a) (lo : ldr o = o) (sf : safeB N st K E a o = false) :
    unsafeB N (fun h => decide (h < N) && isL st h) st.adj (fun h => decide (h < N) && isL st h && st.cross h) K E a o = true := by
  simp only [safeB, Bool.or_eq_false_iff, decide_eq_false_iff_not] at sf
  have va : (decide (a < N) && isL st a) = true := by simp [ha, (P.lead a ha).mpr la]
  have vo : (decide (o < N) && isL st o) = true := by simp [ho, (P.lead o ho).mpr lo]
  refine decide_eq_true ?_
  simp only [va, vo, Bool.true_and]
  refine Nat.le_trans (Nat.le_of_not_lt sf.2) (cnt_mono fun t ht h => ?_)
  rw [Bool.and_eq_true] at h
  have vt : (decide (t < N) && isL st t) = true := by
    rcases Bool.or_eq_true_iff.mp h.1 with h | h
    · have := P.lead_r D h; simp [ht, this.2.2]
    · have := P.lead_r D h; simp [ht, this.2.2]
  rw [vt, Bool.true_and, hardL, h.1, Bool.true_and]
  refine decide_eq_true ?_
  have hh := of_decide_eq_true h.2
  have rm : rmOf (fun h => decide (h < N) && isL st h && st.cross h) K E t = room st K E t := by
    simp only [rmOf, room, vt, Bool.true_and]
  rw [rm]
  simp only [deg] at hh
  rw [P.symB D a t, P.symB D o t] at hh
  cases h1 : st.adj t a with
  | false =>
    rw [h1] at hh
    simp only [Bool.false_and, Bool.false_eq_true, if_false] at hh
    rw [cnt_congr (q := st.adj t) fun c _ => by simp]
    omega
  | true =>
    rw [h1, Bool.true_and] at hh
    cases h2 : st.adj t o with
    | false =>
      rw [h2] at hh
      simp only [Bool.false_eq_true, if_false] at hh
      rw [cnt_congr (q := st.adj t) fun c _ => by
        by_cases e : c = o
        · rw [e, h2]; rfl
        · simp [e]]
      omega
    | true =>
      rw [h2] at hh
      simp only [if_true] at hh
      rw [cnt_erase (st.adj t) ho, h2] at hh
      simp only [if_true] at hh
      rw [cnt_congr (q := fun c => st.adj t c && !decide (c = o)) fun c _ => by simp]
      omega
end
end Mine
end
section
open PySem PySem.W PyProof.Rows PySem.Calls
set_option maxRecDepth 100000
namespace Mine
structure Mk (c : Addr) (H : AHeap) (x d : Addr) (l : List (Str × AV)) (H' : AHeap) : Prop where
  ix : H' x = some (.inst c d)
  id : H' d = some (.ns l)
  ne : x ≠ d
  hd : H d = none
  ex : Ext H H'
noncomputable def Kd (d : Addr) (H H' : AHeap) : Prop := ∀ e o, e ≠ d → H e = some o → H' e = some o
theorem Kd.trans {d : Addr} {H H1 H2 : AHeap} (k : Kd d H H1) (k' : Kd d H1 H2) : Kd d H H2 := fun e o n h => k' e o n (k e o n h)
theorem Ext.kd {H H' : AHeap} (x : Ext H H') (d : Addr) : Kd d H H' := fun e o _ h => x e o h
section
variable {C : Cfg} {n : Nat} {X : AHeap → Prop} {H H' : AHeap} {Q : AV → AHeap → Prop} {U : AHeap → Prop} {c x d : Addr} {l : List (Str × AV)}
theorem gl_Graph (g : Ground C) : GlobIs C "Graph" (.ref 124) := globK g (by kernel_rfl)
theorem ce_Graph (g : Ground C) : CalleeOk C (.ref 124) := calleeK g (by kernel_rfl)
theorem gl_Pools (g : Ground C) : GlobIs C "Pools" (.ref 58) := globK g (by kernel_rfl)
theorem ce_Pools (g : Ground C) : CalleeOk C (.ref 58) := calleeK g (by kernel_rfl)
theorem Mk.new (hx : H x = none) (hd : H d = none) (ne : x ≠ d) : Mk c H x d [] ((H.set d (.ns [])).set x (.inst c d)) :=
  ⟨AHeap.set_self _ _ _, by rw [AHeap.set_ne _ _ ne.symm, AHeap.set_self], ne, hd, (Ext.new _ hd).set _ hx⟩
theorem Mk.ext (M : Mk c H x d l H') {H2 : AHeap} (y : Ext H' H2) : Mk c H x d l H2 := ⟨y _ _ M.ix, y _ _ M.id, M.ne, M.hd, M.ex.trans y⟩
theorem Mk.nd (M : Mk c H x d l H') {b : Addr} (h : H' b = none) : b ≠ d := (ne_new M.id h).symm
theorem xField {f : Str} {v : AV} (M : Mk c H x d l H') (k : okAttr c f = true) (h4 : l.lookup f = none) (h5 : l.length ≤ 20) (q : ∀ H2, Mk c H x d (l ++ [(f, v)]) H2 → Kd d H' H2 → U H2) : kSetAttr x f v H' U := by
  have kd : Kd d H' (H'.set d (.ns (l ++ [(f, v)]))) := fun e o ne h => by rw [AHeap.set_ne _ _ ne]; exact h
  unfold kSetAttr
  refine ⟨c, d, l, M.ix, M.id, k, h4, h5, q _ ⟨kd _ _ M.ne M.ix, AHeap.set_self _ _ _, M.ne, M.hd, fun e o h => kd e o ?_ (M.ex _ _ h)⟩ kd⟩
  exact fun z => by rw [z, M.hd] at h; cases h
theorem call_Graph (g : Ground C) (hn : 8 ≤ n) (tg : Addr → Nat) (q : ∀ a st tg' H', Ext H H' → GAt 0 a st H' → GD 0 a tg' → tg' a.lc = 6 → st.cross = (fun _ => false) → st.cps = [] → (∀ i j, st.adj i j = false) → Agree tg tg' H → Q (.ref a.x) H') :
    FCall C n X (.ref 124) [] H Q := by
  obtain ⟨m, rfl⟩ : ∃ m, n = m + 1 + 1 := ⟨n - 2, by omega⟩
  refine make_inst g (fI := 76) (by kernel_rfl) (by kernel_rfl) (by kernel_rfl) fun x d hx hd nxd => ?_
  have M0 := Mk.new (c := 124) hx hd nxd
  generalize (H.set d (.ns [])).set x (.inst 124 d) = H0 at M0
  refine fcode g.cs (prims g) (prims g.on) (excRules g) (by omega) g.lim (fn_Graph_init g) rfl fun dn ep1 h1 => xField (M0.ext (Ext.new _ h1)) (by kernel_rfl) rfl (by decide) fun H2 M2 k1 => fun dx ep2 h2 => xField (M2.ext (Ext.new _ h2)) (by kernel_rfl) (by kernel_rfl) (by show 1 ≤ 20; decide) fun H4 M4 k2 => fun dc ep3 h3 =>
    xField (M4.ext (Ext.new _ h3)) (by kernel_rfl) (by kernel_rfl) (by show 2 ≤ 20; decide) fun H6 M6 k3 => fun lc h4 => xField (M6.ext (Ext.new _ h4)) (by kernel_rfl) (by kernel_rfl) (by show 3 ≤ 20; decide) fun H8 M8 k4 => fun da ep5 h5 => xField (M8.ext (Ext.new _ h5)) (by kernel_rfl) (by kernel_rfl) (by show 4 ≤ 20; decide) fun H10 M10 k5 => ⟨rfl, ?_⟩
  have e2 := ((Ext.new (.dict [] ep2) h2).kd d).trans k2
  have e3 := ((Ext.new (.dict [] ep3) h3).kd d).trans k3
  have e4 := ((Ext.new (.list []) h4).kd d).trans k4
  have e5 := ((Ext.new (.dict [] ep5) h5).kd d).trans k5
  have v1 := k1 dn _ (M0.nd h1) (AHeap.set_self _ _ _)
  have v2 := k2 dx _ (M2.nd h2) (AHeap.set_self _ _ _)
  have v3 := k3 dc _ (M4.nd h3) (AHeap.set_self _ _ _)
  have v4 := k4 lc _ (M6.nd h4) (AHeap.set_self _ _ _)
  have v5 := k5 da _ (M8.nd h5) (AHeap.set_self _ _ _)
  have v14 := e2 _ _ (M0.nd h1) v1
  have v16 := e3 _ _ (M0.nd h1) v14
  have v18 := e4 _ _ (M0.nd h1) v16
  have v26 := e3 _ _ (M2.nd h2) v2
  have v28 := e4 _ _ (M2.nd h2) v26
  have v38 := e4 _ _ (M4.nd h3) v3
  have fr : ∀ {e b o} {Hk : AHeap} {l}, H e = some o → Mk 124 H x d l Hk → Hk b = none → e ≠ b := fun h M hb => ne_new (M.ex _ _ h) hb
  have n21 := (ne_new v1 h2).symm
  have n31 := (ne_new v14 h3).symm
  have n32 := (ne_new v2 h3).symm
  have n41 := (ne_new v16 h4).symm
  have n42 := (ne_new v26 h4).symm
  have n43 := (ne_new v3 h4).symm
  refine q ⟨x, d, dn, dx, dc, lc, da, fun _ => 0⟩ ⟨fun _ _ => false, fun _ => false, fun _ => 0, fun i => i, []⟩
    (fun e => if e = dn then 3 else if e = dx then 4 else if e = dc then 5 else if e = lc then 6 else if e = da then 7 else tg e) H10 M10.ex ?_ ?_ ?_ rfl rfl (fun _ _ => rfl) fun e o h => ?_
  · exact { x := M10.ix, d := M10.id, near := ⟨ep1, e5 _ _ (M0.nd h1) v18⟩, rows := fun i hi => absurd hi (Nat.not_lt_zero i), cross := ⟨[], ep2, e5 _ _ (M2.nd h2) v28, KeysN.nil 0, fun _ => rfl⟩, cost := ⟨[], ep3, e5 _ _ (M4.nd h3) v38, KeysN.nil 0, fun i hi => absurd hi (Nat.not_lt_zero i)⟩,
            ali := ⟨[], ep5, v5, KeysN.nil 0, fun i hi => absurd hi (Nat.not_lt_zero i)⟩, cps := ⟨[], e5 _ _ (M6.nd h4) v4, Nat.zero_le _, .nil⟩ }
  · exact ⟨if_pos rfl, (if_neg n21).trans (if_pos rfl), (if_neg n31).trans ((if_neg n32).trans (if_pos rfl)), (if_neg (ne_new v18 h5).symm).trans ((if_neg (ne_new v28 h5).symm).trans ((if_neg (ne_new v38 h5).symm).trans ((if_neg (ne_new v4 h5).symm).trans (if_pos rfl)))), fun i hi => absurd hi (Nat.not_lt_zero i)⟩
  · exact (if_neg n41).trans ((if_neg n42).trans ((if_neg n43).trans (if_pos rfl)))
  · exact (if_neg (fr h M0 h1)).trans ((if_neg (fr h M2 h2)).trans ((if_neg (fr h M4 h3)).trans ((if_neg (fr h M6 h4)).trans (if_neg (fr h M8 h5)))))
theorem xListI {b : Addr} {l : List Int} (h : IL H b l) (hl : l.length ≤ 1000) (q : ∀ c H', H c = none → Ext H H' → IL H' c l → Q (.ref c) H') : kList C b H Q := by
  unfold kList
  exact .inl ⟨_, h, by rw [List.length_map]; exact hl, fun c hc => q c _ hc (Ext.new _ hc) (AHeap.set_self _ _ _)⟩
theorem call_Pools (g : Ground C) (hn : 8 ≤ n) {ta sa : Addr} {tp sv : List Int} (T : IL H ta tp) (S : IL H sa sv) (lt : tp.length ≤ 3) (ls : sv.length ≤ 3) (q : ∀ p H', Ext H H' → PAt p (tp ++ sv) sv H' → Q (.ref p.x) H') :
    FCall C n X (.ref 58) [.ref ta, .ref sa] H Q := by
  obtain ⟨m, rfl⟩ : ∃ m, n = m + 1 + 1 := ⟨n - 2, by omega⟩
  have l1 : tp.length ≤ 1000 := Nat.le_trans lt (by decide)
  have l2 : sv.length ≤ 1000 := Nat.le_trans ls (by decide)
  have l3 : tp.length + sv.length ≤ 6 := Nat.add_le_add lt ls
  refine make_inst g (fI := 48) (by kernel_rfl) (by kernel_rfl) (by kernel_rfl) fun x d hx hd nxd => ?_
  have M0 := Mk.new (c := 58) hx hd nxd
  generalize (H.set d (.ns [])).set x (.inst 58 d) = H0 at M0
  refine fcode g.cs (prims g) (prims g.on) (excRules g) (by omega) g.lim (fn_Pools_init g) rfl (xListI (M0.ex _ _ T) l1 fun b1 H1 hb1 y1 I1 => xListI (y1 _ _ (M0.ex _ _ S)) l2 fun b2 H2 hb2 y2 I2 => xCat (y2 _ _ I1) I2 (by rw [List.length_map, List.length_map]; exact Nat.le_trans l3 (by decide)) fun b3 hb3 => ?_)
  have y3 := Ext.new (.list (tp.map .int ++ sv.map .int)) hb3
  have M2 := M0.ext (y1.trans y2)
  refine xField (M2.ext y3) (by kernel_rfl) rfl (by decide) fun H4 M4 k4 => xListI (M4.ex _ _ S) l2 fun b5 H5 hb5 y5 I5 => xField (M4.ext y5) (by kernel_rfl) (by kernel_rfl) (by show 1 ≤ 20; decide) fun H6 M6 k6 => ⟨rfl, ?_⟩
  refine q ⟨x, d, b3, b5⟩ H6 M6.ex ⟨M6.ix, M6.id, k6 _ _ (M2.nd hb3) (y5 _ _ (k4 _ _ (M2.nd hb3) ?_)), k6 _ _ (M4.nd hb5) I5, by rw [List.length_append]; exact l3, Nat.le_trans ls (by decide)⟩
  rw [List.map_append]; exact AHeap.set_self _ _ _
end
end Mine
end
section
open PySem PySem.W PyProof.Rows PySem.Calls
set_option maxRecDepth 100000
namespace Mine
noncomputable def yes : AF → Ls → AHeap → Prop := fun af _ _ => af = .ret (.bool true)
noncomputable def tailS : Nat → PSs → PSs
  | 0, s => s
  | k + 1, s => match s with
    | .nil => .nil
    | .cons _ r => tailS k r
    | .join _ _ r => tailS k r
section
variable {C : Cfg} {n : Nat} {X : AHeap → Prop} {H : AHeap} {N : Nat} {A : Nat → Nat → Bool} {c0 : Nat → Int} {cx fz : Nat → Bool} {tws : List (Nat × Nat)} {st : GS} {ldr : Nat → Nat} {a : GA}
theorem Easy.congr {V V' : Nat → Bool} {rm rm' : Nat → Nat} (h : ∀ i, i < N → V i = V' i) (hr : ∀ i, i < N → V i = true → rm i = rm' i) (E : Easy N V A rm) : Easy N V' A rm' := fun S hS hne => by
  obtain ⟨v, hv, hlt⟩ := E S (fun i hi => ⟨(h i (hS i hi).2).trans (hS i hi).1, (hS i hi).2⟩) hne
  have hN := (hS v hv).2
  exact ⟨v, hv, by rw [← hr v hN ((h v hN).trans (hS v hv).1)]; exact hlt⟩
theorem lead_in {i : Nat} (h : i < N) : (decide (i < N) && isL st i) = isL st i := by rw [decide_eq_true h]; rfl
theorem rm_in {K E i : Nat} (h : i < N) (hl : isL st i = true) : rmOf (fun h => decide (h < N) && isL st h && st.cross h) K E i = room st K E i := by
  show (if decide (i < N) && isL st i && st.cross i then K else E) = if st.cross i then K else E
  rw [lead_in h, hl, Bool.true_and]
theorem easy_leaders {K E : Nat} : Easy N (fun h => decide (h < N) && isL st h) st.adj (rmOf (fun h => decide (h < N) && isL st h && st.cross h) K E) ↔ Easy N (isL st) st.adj (room st K E) :=
  ⟨Easy.congr (fun _ h => lead_in h) fun i h hl => rm_in h ((lead_in h).symm.trans hl), Easy.congr (fun _ h => (lead_in h).symm) fun i h hl => (rm_in h hl).symm⟩
theorem easy_all {rm : Nat → Nat} : Easy N (fun j => decide (j < N)) A rm ↔ Easy N (fun _ => true) A rm :=
  ⟨Easy.congr (fun _ h => decide_eq_true h) fun _ _ _ => rfl, Easy.congr (fun _ h => (decide_eq_true h).symm) fun _ _ _ => rfl⟩
theorem law2 (g : Ground C) (hd : C.hd = false) (htot : C.tot ≤ n + 1) (hn : 24 ≤ n) (hN : N ≤ 8) {tp sv : List Int} {na ca xA wA fa ta sa gx : Addr} {nrow : Nat → Addr} {ev mask : Int}
    (G : GAt N a st H) (P : PInv N A c0 cx fz tws sv.length (tp ++ sv).length st ldr) (D : Drawn N A tws)
    (Na : NAt N na nrow (fun j => decide (j < N)) A H) (Ca : IL H ca ((List.range N).map c0)) (Cx : SetAt H N xA cx) (T : TwsAt H N wA tws) (F : SetAt H N fa fz) (Ta : IL H ta tp) (Sa : IL H sa sv) (lt : tp.length ≤ 3) (ls : sv.length ≤ 3)
    (nda : (tp ++ sv).Nodup) (ndk : sv.Nodup) (pos : ∀ c ∈ tp ++ sv, 0 ≤ c) (stab : ∀ c ∈ tws, Stab N fz sv.length (tp ++ sv).length st ldr c) (hev : ev = ((tp ++ sv).length : Nat)) (hgx : a.x = gx) :
    dSs C n X (tailS 10 f_law) [(14, .ref fa), (3, .int N), (4, .ref ta), (5, .ref sa), (6, .int sv.length), (7, .int ev), (8, .ref gx), (9, .ref na), (10, .ref ca), (11, .ref xA), (12, .ref wA), (13, .int mask)] H yes := by
  subst hev hgx
  have hn4 : 4 ≤ n := by omega
  have hn8 : 8 ≤ n := by omega
  refine xG (gl_law_joined g) (ce_law_joined g) (call_joined g hd (by omega) hN G (P.join D) Na Ca Cx T F fun t hA bA xB row H1 x1 ht Hd Nb Xb => ?_)
  refine xUnp (.inl ht) rfl ?_
  obtain ⟨tl, htl, htl2, hF⟩ := T.ext x1
  have F1 := F.ext x1
  refine forTC [(4, .ref ta), (5, .ref sa), (6, .int sv.length), (7, .int (tp ++ sv).length), (8, .ref a.x), (9, .ref na), (11, .ref xA), (14, .ref fa), (17, .ref hA), (18, .ref bA), (19, .ref xB)] (fun _ H' => Ext H1 H') (items_list htl) rfl (.refl _) (fun _ H' y => ?_) ?_ ?_
  · show H' wA = H1 wA; rw [y _ _ htl, htl]
  · rintro i H' w y hw Q3 nx rt
    obtain ⟨⟨ox, oy⟩, hmem, tt, rfl, htt, hox, hoy⟩ := hF.mem_l (List.mem_of_getElem? hw)
    have Nb' := Nb.ext y
    have F' := F1.ext y
    have hA1 := P.ltld hox
    have hO1 := P.ltld hoy
    have va : (decide (ldr ox < N) && isL st (ldr ox)) = true := by rw [lead_in hA1]; exact (P.lead _ hA1).mpr (P.idem ox hox)
    have vo : (decide (ldr oy < N) && isL st (ldr oy)) = true := by rw [lead_in hO1]; exact (P.lead _ hO1).mpr (P.idem oy hoy)
    have no : ∀ {b : Bool}, (!b) = true → b ≠ true := fun h z => by rw [z] at h; cases h
    refine xUnp (.inl (y _ _ htt)) rfl (xSubN (y _ _ Hd) hN hox (xSubN (y _ _ Hd) hN hoy (brN (fun c1 => xNRow Nb' va (xIn (Nb'.rows _ va) (brC (fun c2 => xIn F' (brC (fun c3 => xIn F' (brC (fun c4 => ?_) fun _ => nx _ _ y rfl)) fun _ => nx _ _ y rfl)) fun _ => nx _ _ y rfl))) fun _ => nx _ _ y rfl)))
    have sf : safeB N st sv.length (tp ++ sv).length (ldr ox) (ldr oy) = false := by
      rcases stab _ hmem with h | h | h | h | h
      · exact absurd (by rw [show ldr ox = ldr oy from h]) c1
      · exact absurd h (no c2)
      · exact absurd h (no c3)
      · exact absurd h (no c4)
      · exact h
    have uns := unsafe_of P D hA1 hO1 (P.idem ox hox) (P.idem oy hoy) sf
    exact xG (gl_law_is_unsafe g) (ce_law_is_unsafe g) (call_unsafe g hn4 hN Nb' (Xb.ext y) va vo fun H3 y3 => brF (by rw [uns]; rfl) (nx _ _ (y.trans y3) rfl))
  · rintro H2 y
    refine xG (gl_law_easy g) (ce_law_easy g) (call_easy g hd hn4 hN (Nb.ext y) (Xb.ext y) fun ez H3 x3 hez => ?_)
    have x03 := (x1.trans y).trans x3
    rw [easy_leaders] at hez
    refine joinR [(4, .ref ta), (5, .ref sa), (6, .int sv.length), (7, .int (tp ++ sv).length), (8, .ref a.x), (14, .ref fa), (18, .ref bA), (19, .ref xB), (22, .bool ez)] (fun H4 => Ext H3 H4) (fun K mt => xG (gl_law_easy g) (ce_law_easy g) (call_easy g hd hn4 hN (Na.ext x03) (Cx.ext x03) fun ez2 H4 x4 hez2 => brC (fun h => brF ?_ (mt _ _ x4 rfl)) fun _ => mt _ _ x4 rfl)) fun H4 x4 => ?_
    · rw [easy_all] at hez2
      rw [hez.mpr (P.easy (hez2.mp h))]; rfl
    have x04 := x03.trans x4
    have x14 := (y.trans x3).trans x4
    refine And.intro ⟨hd, htot⟩ (xG (gl_coloured g) (ce_coloured g) (xG (gl_Pools g) (ce_Pools g) (call_Pools g hn8 (show IL H4 ta tp from x04 _ _ Ta) (show IL H4 sa sv from x04 _ _ Sa) lt ls fun p H5 x5 Pp => ?_)))
    have x05 := x04.trans x5
    have x15 := x14.trans x5
    have F5 := F.ext x05
    refine call_coloured g hd (by omega) hN (G.ext x05) Pp (P.wf D) F5 (fun i j _ h => (P.lead_r D h).2.2) nda ndk (fun i c hc => pos c ?_) (fun t6 cA lA H6 col lost x6 ht6 Co Lo I => xUnp (.inl ht6) rfl ?_) fun H6 x6 hst => ?_
    · rw [roomL] at hc
      split at hc
      · exact List.mem_append_right _ hc
      · exact hc
    · have x06 := x05.trans x6
      have x16 := x15.trans x6
      refine joinR [(4, .ref ta), (5, .ref sa), (14, .ref fa), (18, .ref bA), (19, .ref xB), (23, .ref cA), (24, .ref lA)] (fun H7 => Ext H6 H7) (fun K mt => brC (fun h => fun e ep he => xEqD (Lo.ext (Ext.new _ he)) hN (AHeap.set_self _ _ _) (brF ?_ (mt _ _ (Ext.new _ he) rfl))) fun _ => mt _ _ (.refl _) rfl) fun H7 x7 => ?_
      · rw [decide_eq_true (cnt_none fun ⟨i, q⟩ => by rw [I.c4 (hez.mp h) i] at q; cases q)]; rfl
      have x07 := x06.trans x7
      have rr : ∀ i, (decide (i < N) && isL st i) = true → rmL (fun h => decide (h < N) && isL st h && st.cross h) tp sv i = roomL st (tp ++ sv) sv i := fun i h => by
        show (if decide (i < N) && isL st i && st.cross i then sv else tp ++ sv) = if st.cross i then sv else tp ++ sv
        rw [h, Bool.true_and]
      refine xG (gl_law_is_coloured g) (ce_law_is_coloured g) (call_is_coloured g hn4 hN ((Nb.ext x16).ext x7) ((Xb.ext x16).ext x7) (F.ext x07) (Co.ext x7) (Lo.ext x7) (x07 _ _ Ta) (x07 _ _ Sa) lt ls (fun i c hi hc => ?_) (fun i hi hc => ?_) (fun i hi => ?_) (fun i c hc => I.sub i c hc) fun H8 x8 => rfl)
      · rw [rr i hi]; exact I.c1 i c hc
      · rw [rr i hi]; exact I.c2 i hi hc
      · obtain ⟨h1, h2, h3, h4⟩ := I.c3 i hi
        refine ⟨(lead_in h1).trans h2, h3, ?_⟩
        rcases h4 with h4 | ⟨j, z1, z2, z3, z4⟩
        · exact .inl h4.2
        · exact .inr ⟨j, z1, z2, z4⟩
    · have x16 := x15.trans x6
      obtain ⟨i, h1, h2, h3, h4, h5⟩ := hst
      exact xG (gl_law_is_stuck g.on) (ce_law_is_stuck g.on) (call_stuck g.on hn4 hN (Nb.ext x16) (Xb.ext x16) (F5.ext x6) ⟨i, (lead_in h1).trans h2, h3, by rw [rm_in h1 h2]; exact h4, h5⟩ fun H7 _ => rfl)
end
end Mine
end
section
open PySem PySem.W PyProof.Rows PySem.Calls
set_option maxRecDepth 100000
namespace Mine
section
variable {C : Cfg} {n : Nat} {X : AHeap → Prop} {H : AHeap}
theorem law1 (g : Ground C) (hd : C.hd = false) (htot : C.tot ≤ n + 1) (hn : 24 ≤ n) {N : Nat} (hN : N ≤ 8) {a : GA} {st : GS} {m : LA} {tg : Addr → Nat} {tws : List (Nat × Nat)} {l : List Int} {p : Nat} {tp sv : List Int} {xA ta sa gx : Addr} {ev mask : Int}
    (d : Dr N N N a st m tg tws l p H) (pu : PuD N st tws) (Cx : SetAt H N xA st.cross) (tx : tg xA = 150) (Ta : IL H ta tp) (Sa : IL H sa sv) (lt : tp.length ≤ 3) (ls : sv.length ≤ 3)
    (nda : (tp ++ sv).Nodup) (ndk : sv.Nodup) (pos : ∀ c ∈ tp ++ sv, 0 ≤ c) (hev : ev = ((tp ++ sv).length : Nat)) (hgx : a.x = gx) :
    dSs C n X (tailS 8 f_law) [(3, .int N), (4, .ref ta), (5, .ref sa), (6, .int sv.length), (7, .int ev), (8, .ref gx), (9, .ref m.na), (10, .ref m.ca), (11, .ref xA), (12, .ref m.wa), (13, .int mask)] H yes := by
  subst hgx
  refine xRng hN fun c7 H7 x7 w7 => ?_
  refine dcompN (N := N) (fun j => decide (mask / 2 ^ j % 2 = 1)) (fun _ => .bool true) (items_rng w7) rfl (by rw [List.length_range]; exact Nat.le_trans hN (by decide)) (fun j hj => List.mem_range.mp hj) (fun j hj Y No yes no => ?_) fun acc k hv fa ep8 hfa => ?_
  · have hj8 := Nat.lt_of_lt_of_le (List.mem_range.mp hj) hN
    exact And.intro ⟨rfl, Int.natCast_nonneg _, tw20 (Nat.le_of_lt hj8) (Nat.le_refl 8)⟩ (And.intro (pw (Nat.le_of_lt hj8)) (And.intro (by decide) (brD (fun h => yes (decide_eq_true h)) fun h => no (decide_eq_false h))))
  obtain ⟨fz, hfz⟩ : ∃ fz : Nat → Bool, fz = fun j => decide (j ∈ List.range N) && decide (mask / 2 ^ j % 2 = 1) := ⟨_, rfl⟩
  have x8 : Ext H7 (H7.set fa (.dict acc ep8)) := Ext.new _ hfa
  have s8 : SetAt (H7.set fa (.dict acc ep8)) N fa fz := ⟨acc, ep8, AHeap.set_self _ _ _, k, fun j => by
    rw [has, hv, hfz]
    show (if (decide (j ∈ List.range N) && decide (mask / 2 ^ j % 2 = 1)) = true then some (AV.bool true) else none).isSome = (decide (j ∈ List.range N) && decide (mask / 2 ^ j % 2 = 1))
    cases decide (j ∈ List.range N) && decide (mask / 2 ^ j % 2 = 1) <;> rfl⟩
  have A8 : Agree tg (fun c => if c = fa then 150 else tg c) H7 := fun c o h => if_neg fun e => by rw [e, hfa] at h; cases h
  have tfa : (fun c => if c = fa then 150 else tg c) fa = 150 := if_pos rfl
  show dSs _ _ _ _ _ (H7.set fa (.dict acc ep8)) _
  generalize (fun c => if c = fa then 150 else tg c) = tg8 at A8 tfa
  generalize H7.set fa (.dict acc ep8) = H8 at x8 s8 ⊢
  have d8 := ((d.ext x7).retag A8).ext x8
  have tx8 : tg8 xA = 150 := by obtain ⟨_, _, z, _⟩ := Cx.ext x7; rw [A8 _ _ z]; exact tx
  have x08 := x7.trans x8
  refine xG (gl_coalesce g) (ce_coalesce g) (xG (gl_Pools g) (ce_Pools g) (call_Pools g (by omega) (x08 _ _ Ta) (x08 _ _ Sa) lt ls fun pp H1 x1 P1 => ?_))
  have DD : Drawn N st.adj tws := ⟨pu.sym, pu.irr, pu.lt, pu.twlt⟩
  have d1 := d8.ext x1
  have F1 := s8.ext x1
  have tf : 100 ≤ tg8 fa := by rw [tfa]; decide
  have tx1 : 100 ≤ tg8 xA := by rw [tx8]; decide
  refine call_coalesce (J := PInv N st.adj st.cost st.cross fz tws sv.length (tp ++ sv).length) (ldr := id) g hd (by omega) hN d1.G d1.D P1 F1 tf (PInv.init DD pu.ali pu.crlt) (fun st' ldr' P' => P'.wf DD) (fun st' ldr' x y P' hxy hx hy ne na fa' fo' sf => P'.merge DD (by rw [pu.cps] at hxy; exact hxy) hx hy ne na fa' fo' sf) fun a' tg' st' ldr' H2 ⟨P', G2, D2, A2, f2, ex2, _⟩ stab => ?_
  rw [pu.cps] at stab
  exact law2 g hd htot hn hN G2 P' DD (d1.N1 f2) (f2.keep _ _ d1.C (.inr rfl)) (((Cx.ext x08).ext x1).fr f2 tx1) (d1.T.off f2.off (ge_of_tag d1.twa (by decide))) (F1.fr f2 tf) (f2.keep _ _ (x1 _ _ (x08 _ _ Ta)) (.inr rfl)) (f2.keep _ _ (x1 _ _ (x08 _ _ Sa)) (.inr rfl)) lt ls nda ndk pos stab hev ex2
end
end Mine
end
section
open PySem PySem.W PyProof.Rows PySem.Calls
set_option maxRecDepth 100000
namespace Mine
theorem rooms_ok {k k2 : Nat} (h1 : k < 4) (h2 : k2 < 4) : (([28, 29, 30] : List Int).take k ++ ([9, 18, 19] : List Int).take k2).Nodup ∧ (([9, 18, 19] : List Int).take k2).Nodup ∧ ∀ c ∈ ([28, 29, 30] : List Int).take k ++ ([9, 18, 19] : List Int).take k2, 0 ≤ c := by
  have : ∀ k ∈ List.range 4, ∀ k2 ∈ List.range 4, (([28, 29, 30] : List Int).take k ++ ([9, 18, 19] : List Int).take k2).Nodup ∧ (([9, 18, 19] : List Int).take k2).Nodup ∧ ∀ c ∈ ([28, 29, 30] : List Int).take k ++ ([9, 18, 19] : List Int).take k2, 0 ≤ c := by decide
  exact this k (List.mem_range.mpr h1) k2 (List.mem_range.mpr h2)
section
variable {C : Cfg} {n : Nat} {X : AHeap → Prop} {H : AHeap} {Q : AV → AHeap → Prop}
theorem WellAt.ext {H' : AHeap} {w an : Addr} {l : List Int} {p : Nat} (h : WellAt H w an l p) (x : Ext H H') : WellAt H' w an l p := ⟨h.1, x _ _ h.2.1, x _ _ h.2.2.1, h.2.2.2⟩
theorem IL.but2 {H' : AHeap} {w an b : Addr} {l : List Int} (h : IL H b l) (x : But H H' [w, an]) (h1 : b ≠ w) (h2 : b ≠ an) : IL H' b l := (x b (two_not h1 h2)).trans h
theorem xSlice {b : Addr} {l : List Int} {k : Nat} (h : IL H b l) (h1 : k ≤ 1000) (hl : l.length ≤ 1000) (q : ∀ c H', H c = none → Ext H H' → IL H' c (l.take k) → Q (.ref c) H') : kSlHi C b k H Q := by
  unfold kSlHi
  exact ⟨Int.natCast_nonneg _, by omega, .inl ⟨_, h, by rw [List.length_map]; exact hl, fun c hc => q c _ hc (Ext.new _ hc) (by rw [IL, AHeap.set_self, Int.toNat_natCast, List.map_take])⟩⟩
theorem WellAt.nw {w an b : Addr} {l : List Int} {p : Nat} (W : WellAt H w an l p) (h : H b = none) : b ≠ w ∧ b ≠ an := ⟨(ne_new W.2.1 h).symm, (ne_new W.2.2.1 h).symm⟩
theorem law0 (g : Ground C) (hd : C.hd = false) (htot : C.tot ≤ n + 1) (hn : 24 ≤ n) {N : Nat} (hN : N ≤ 8) (hN2 : 2 ≤ N) {w an ta sa : Addr} {l : List Int} {p : Nat} {tp sv : List Int} {nv : Int}
    (W : WellAt H w an l p) (hl : l.length < 100) (Ta : IL H ta tp) (Sa : IL H sa sv) (t1 : ta ≠ w ∧ ta ≠ an) (t3 : sa ≠ w ∧ sa ≠ an) (lt : tp.length ≤ 3) (ls : sv.length ≤ 3)
    (nda : (tp ++ sv).Nodup) (ndk : sv.Nodup) (pos : ∀ c ∈ tp ++ sv, 0 ≤ c) (hnv : nv = (N : Nat)) :
    dSs C n X (tailS 4 f_law) [(5, .ref sa), (4, .ref ta), (3, .int nv), (1, .ref w)] H yes := by
  subst hnv
  have hn4 : 4 ≤ n := by omega
  have l1 : tp.length ≤ 1000 := Nat.le_trans lt (by decide)
  have l2 : sv.length ≤ 1000 := Nat.le_trans ls (by decide)
  have hkE : ((tp.length : Int) + (sv.length : Int)) = ((tp ++ sv).length : Nat) := by rw [List.length_append]; rfl
  refine xLenI Sa l2 (xLenI Ta l1 (xLenI Sa l2 (xG (gl_Graph g) (ce_Graph g) (call_Graph g (by omega) (fun c => if c = w then 103 else if c = an then 104 else 150) fun a st tg1 H1 x1 G1 D1 tlc hx hc hadj A1 => ?_))))
  have tw : tg1 w = 103 := by rw [A1 _ _ W.2.1]; exact if_pos rfl
  have tan : tg1 an = 104 := by rw [A1 _ _ W.2.2.1]; exact (if_neg W.1.symm).trans (if_pos rfl)
  have tta : tg1 ta = 150 := by rw [A1 _ _ Ta]; exact (if_neg t1.1).trans (if_neg t1.2)
  have tsa : tg1 sa = 150 := by rw [A1 _ _ Sa]; exact (if_neg t3.1).trans (if_neg t3.2)
  refine xG (gl_law_drawn g) (ce_law_drawn g) (call_drawn g (by omega) hN hN2 G1 D1 tlc hx hc hadj (W.ext x1) tw tan (by omega) fun t a' st' m' xA tws tg' l' p' H2 ht ex ew ean d Cx tx pu hl' o2 A2 => xUnp (.inl ht) rfl ?_)
  have Ta2 : IL H2 ta tp := o2.keep _ _ (x1 _ _ Ta) (.inl (ge_of_tag tta (by decide)))
  have Sa2 : IL H2 sa sv := o2.keep _ _ (x1 _ _ Sa) (.inl (ge_of_tag tsa (by decide)))
  have tta2 : tg' ta = 150 := by rw [A2 _ _ (x1 _ _ Ta)]; exact tta
  have tsa2 : tg' sa = 150 := by rw [A2 _ _ (x1 _ _ Sa)]; exact tsa
  have l9 : l'.length + 2 < 900 := by omega
  rw [← ew]
  refine joinS (fun mask : Int => [(3, .int N), (4, .ref ta), (5, .ref sa), (6, .int sv.length), (7, .int ((tp.length : Int) + (sv.length : Int))), (8, .ref a.x), (9, .ref m'.na), (10, .ref m'.ca), (11, .ref xA), (12, .ref m'.wa), (13, .int mask)]) (fun _ H3 => (∃ l3 p3, Dr N N N a' st' m' tg' tws l3 p3 H3) ∧ OffT tg' H2 H3) (fun K mt => ?_) fun mask H3 ⟨⟨l3, p3, d3⟩, o3⟩ => ?_
  · refine xG (gl_law_draw g) (ce_law_draw g) (d.draw g hn4 hN (by omega) (by decide) fun l3 x H3 hx0 hx1 hl3 d3 o3 => brD (fun hx => ?_) fun hx => mt 0 _ _ ⟨⟨_, _, d3⟩, o3⟩ rfl)
    exact xG (gl_law_draw g) (ce_law_draw g) (And.intro ⟨rfl, Int.natCast_nonneg _, tw20 (Nat.le_refl N) hN⟩ (d3.draw g hn4 hN (by omega) (pow2 hN).1 fun l4 mask H4 hm0 hm1 hl4 d4 o4 => mt mask _ _ ⟨⟨_, _, d4⟩, o3.trans (Agree.refl _ _) o4⟩ rfl))
  · exact law1 g hd htot hn hN d3 pu (Cx.offT o3 tx (by decide)) tx (o3.keep _ _ Ta2 (.inl (ge_of_tag tta2 (by decide)))) (o3.keep _ _ Sa2 (.inl (ge_of_tag tsa2 (by decide)))) lt ls nda ndk pos hkE ex
end
end Mine
end
section
open PySem PySem.W PyProof.Rows PySem.Calls
set_option maxRecDepth 100000
namespace Mine
theorem lcompM {C : Cfg} {n : Nat} {H1 : AHeap} {v : AV} {ρ : Ls} {Q : AV → AHeap → Prop} {l : List AV} {e : PE} {x : Nat} {c : PEs} (f : AV → AV) (hl : itemsOf H1 v = some l) (hb : l.length ≤ 1000)
    (turn : ∀ w, w ∈ l → ∀ (Y : AV → AHeap → Prop) (N : AHeap → Prop), Y (f w) H1 → dTA C n (fun _ => False) c ((x, w) :: ρ) H1 fun b H2 => br b (dE C n (fun _ => False) e ((x, w) :: ρ) H2 Y) (N H2)) (fin : newAt (.list (l.map f)) H1 Q) :
    ∃ l, itemsOf H1 v = some l ∧ l.length ≤ 10000 ∧ ∃ I : Nat → List AV → AHeap → Prop, I 0 [] H1 ∧ (∀ i acc H', I i acc H' → srcSame H1 H' v) ∧
      (∀ i acc H' (w : AV), I i acc H' → l[i]? = some w → dTA C n (fun _ => False) c ((x, w) :: ρ) H' fun b H2 => br b (dE C n (fun _ => False) e ((x, w) :: ρ) H2 fun u H3 => I (i + 1) (acc ++ [u]) H3) (I (i + 1) acc H2)) ∧
      (∀ acc H', I l.length acc H' → newAt (.list acc) H' Q) := by
  refine ⟨_, hl, by omega, fun i acc H => H = H1 ∧ acc = (l.take i).map f, ⟨rfl, rfl⟩, fun i acc H' h => ?_, fun i acc H' w h hw => ?_, fun acc H' h => ?_⟩
  · rw [h.1]; cases v <;> first | exact rfl | exact True.intro
  · rw [h.1, h.2]
    refine turn w (List.mem_of_getElem? hw) (fun u H3 => H3 = H1 ∧ (l.take i).map f ++ [u] = (l.take (i + 1)).map f) _ ⟨rfl, ?_⟩
    rw [take_succ hw, List.map_append]; rfl
  · rw [h.1, h.2, take_all]; exact fin
theorem well_new {an w : Addr} {l : List Int} {H : AHeap} (I : IL H an l) (h1 : l ≠ []) (hw : H w = none) : WellAt (H.set w (.list [.ref an, .int 0])) w an l 0 :=
  have ne := (ne_new I hw).symm
  ⟨ne, AHeap.set_self _ _ _, by rw [AHeap.set_ne _ _ ne.symm]; exact I, Nat.zero_le _, h1⟩
theorem room3 {l : List Int} (h : l.length = 3) {k : Nat} (hk : k < 4) : (l.take k).length ≤ 3 := by rw [List.length_take, h]; exact Nat.min_le_right _ _
theorem lawOk {C : Cfg} (g : Ground C) (hd : C.hd = false) (htot : C.tot = budget + 1) : LawOk C budget := by
  intro a vs ns hL hI hlen
  show dSs C budget (fun _ => False) f_law [(0, .ref a)] (fun _ => none) yes
  have hb : budget = 60 := rfl
  generalize budget = n at hb htot ⊢
  have hn4 : 4 ≤ n := by omega
  refine joinS (fun w : Addr => [(1, .ref w)]) (fun w H => ∃ an l, WellAt H w an l 0 ∧ l.length ≤ 60) (fun K mt => ?_) fun w H ⟨an, l, W, hl⟩ => ?_
  · show kSlHi C a 60 (fun _ => none) _
    unfold kSlHi
    refine ⟨by decide, by decide, .inr ⟨rfl, vs, ns, hL, hI, by omega, fun b hbb => ?_⟩⟩
    have I1 : IL (AHeap.set (fun _ => none) b (.list ((ns.take (Int.toNat 60)).map .int))) b (ns.take (Int.toNat 60)) := AHeap.set_self _ _ _
    show ∃ l, itemsOf (AHeap.set (fun _ => none) b (.list ((ns.take (Int.toNat 60)).map .int))) _ = some l ∧ _
    have hml : (ns.take (Int.toNat 60)).length ≤ 60 := List.length_take_le _ _
    generalize AHeap.set (fun _ => none) b (.list ((ns.take (Int.toNat 60)).map .int)) = H1 at I1 ⊢
    generalize ns.take (Int.toNat 60) = ms at I1 hml
    refine lcompM (fun v => .int (getI v % 2147483647)) (items_list I1) (by rw [List.length_map]; exact Nat.le_trans hml (by decide)) (fun w hw Y N yes => ?_) fun c hc => ?_
    · obtain ⟨x, _, rfl⟩ := List.mem_map.mp hw
      exact And.intro (by decide) yes
    have I2 : IL (H1.set c (.list ((ms.map .int).map fun v => .int (getI v % 2147483647)))) c (ms.map fun x => x % 2147483647) := by rw [IL, AHeap.set_self, List.map_map, List.map_map]; rfl
    have hkl : (ms.map fun x => x % 2147483647).length ≤ 60 := by rw [List.length_map]; exact hml
    show eTruth (.ref c) (H1.set c (.list ((ms.map .int).map fun v => .int (getI v % 2147483647)))) _
    generalize H1.set c (.list ((ms.map .int).map fun v => .int (getI v % 2147483647))) = H2 at I2 ⊢
    generalize (ms.map fun x => x % 2147483647) = ks at I2 hkl
    refine xTruth I2 (by rw [List.length_map]; exact Nat.le_trans hkl (by decide)) ?_
    cases ks with
    | nil => exact fun an han => fun w hw => mt w _ _ ⟨an, [3], well_new (AHeap.set_self _ _ _) (List.cons_ne_nil _ _) hw, by decide⟩ rfl
    | cons k0 kr => exact fun w hw => mt w _ _ ⟨c, k0 :: kr, well_new I2 (List.cons_ne_nil _ _) hw, hkl⟩ rfl
  · refine xG (gl_law_draw g) (ce_law_draw g) (call_draw g hn4 W (by omega) (by decide) fun l1 x H1 hx0 hx1 hl1 W1 _ => fun b2 hb2 => ?_)
    obtain ⟨k, rfl⟩ := Int.eq_ofNat_of_zero_le hx0
    have hk := Int.ofNat_lt.mp hx1
    have x2 : Ext H1 (H1.set b2 (.list [.int 28, .int 29, .int 30])) := Ext.new _ hb2
    have I2 : IL (H1.set b2 (.list [.int 28, .int 29, .int 30])) b2 [28, 29, 30] := AHeap.set_self _ _ _
    have n2 := W1.nw hb2
    refine xG (gl_law_draw g) (ce_law_draw g) (call_draw g hn4 (W1.ext x2) (by omega) (by decide) fun l3 x3 H3 h30 h31 hl3 W3 b3 => ?_)
    obtain ⟨k3, rfl⟩ := Int.eq_ofNat_of_zero_le h30
    have hk3 := Int.ofNat_lt.mp h31
    refine xSlice (I2.but2 b3 n2.1 n2.2) (by omega) (by show 3 ≤ 1000; decide) fun ta H4 hta x4 Ta => fun b5 hb5 => ?_
    have W4 := W3.ext x4
    have nt := W3.nw hta
    have x5 : Ext H4 (H4.set b5 (.list [.int 9, .int 18, .int 19])) := Ext.new _ hb5
    have I5 : IL (H4.set b5 (.list [.int 9, .int 18, .int 19])) b5 [9, 18, 19] := AHeap.set_self _ _ _
    have n5 := W4.nw hb5
    refine xG (gl_law_draw g) (ce_law_draw g) (call_draw g hn4 (W4.ext x5) (by omega) (by decide) fun l6 x6 H6 h60 h61 hl6 W6 b6 => ?_)
    obtain ⟨k6, rfl⟩ := Int.eq_ofNat_of_zero_le h60
    have hk6 := Int.ofNat_lt.mp h61
    have Ta6 : IL H6 ta _ := IL.but2 (x5 _ _ Ta) b6 nt.1 nt.2
    refine xSlice (I5.but2 b6 n5.1 n5.2) (by omega) (by show 3 ≤ 1000; decide) fun sa H7 hsa x7 Sa => ?_
    obtain ⟨o1, o2, o3⟩ := rooms_ok hk3 hk6
    exact law0 g hd (by omega) (by omega) (N := 2 + k) (by omega) (by omega) (W6.ext x7) (by omega) (x7 _ _ Ta6) Sa nt (W6.nw hsa) (room3 rfl hk3) (room3 rfl hk6) o1 o2 o3 rfl
end Mine
end
section
open PySem PySem.W PyProof.Rows
set_option maxRecDepth 100000
namespace Mine
theorem said : PySem.Challenge.rw_nm0012_01.wellSaid = true := by decide +kernel
end Mine
set_option maxHeartbeats 8000000 in
theorem Mine.joined (lawOk : ∀ {C : Mine.Cfg}, Mine.Ground C → C.hd = false → C.tot = Mine.budget + 1 → Mine.LawOk C Mine.budget) : PySem.Challenge.rw_nm0012_01.Holds := by
  refine holds_law Mine.said fun said => ?_
  refine holds_open (q := Mine.VW0) (loose := []) (Xt := fun s => xlAt Mine.VW0 [] s && recOk (RowW.records Mine.RW0) s) (XP := XL Mine.VW0 []) (Yf := Hook.obs (kHook Mine.KF Mine.KAs fun _ => by kernel_rfl)) (Ya := Hook.val (kHook Mine.KF Mine.KAs fun _ => by kernel_rfl)) (YP := Hook.says (kHook Mine.KF Mine.KAs fun _ => by kernel_rfl)) (N := 3144)
    Mine.left (Hook.of _) (Hook.keeps _) (fun s e => xl_of s (Bool.and_eq_true_iff.mp e).1) XL.keeps (by rfl) (by rfl) (by rfl) (fun s e => recFacts_of (Bool.and_eq_true_iff.mp e).2) (by rfl) said (by decide +kernel) ⟨rfl, rfl, rfl, rfl, rfl, by decide +kernel⟩ ?hw ?hc
  case hw => exact ⟨[WData.list []], by decide +kernel, by decide +kernel⟩
  generalize Mine.VW0 = q
  w_strict (k_go0; (all_goals try k_fold); refine wpAny_mono (Mine.law_join (lawOk (Mine.Ground.mk (by assumption) ⟨_, _, _, _, topRead_of (by assumption)⟩ rfl) rfl rfl) (by assumption) (by assumption) (by assumption) (by assumption) (by assumption) (by omega) rfl rfl rfl rfl rfl (by kernel_rfl) (by kernel_rfl) (by kernel_rfl) (by kernel_rfl) (by kernel_rfl) (by assumption) (by assumption) (by kernel_rfl) (by kernel_rfl)) (fun f s' z => ?post) (fun _ _ z => z.elim); obtain ⟨rfl, zk, zg, zo⟩ := z; exact ⟨.inl ⟨.bool true, .bool true, [], rfl, fun _ => rfl, .bool true, (by kernel_rfl), unshared_nil⟩, zk, zo, zg.trans (by assumption)⟩)
end
theorem PySem.Challenge.cw_nm0012_01_holds : PySem.Challenge.rw_nm0012_01.Holds :=
  Mine.joined fun g h1 h2 => Mine.lawOk g h1 h2
