import PyProof.Rows.All
import Wide.All
import OpenK.AllK
import Wide.FinOn
import PySem.Challenge.RW_nz0012_01
set_option Elab.async false
set_option linter.unusedVariables false
section
open PySem PySem.W PyProof.Rows
namespace Mine

/-! ## frozen part, steps, frames -/
abbrev Fz := Addr → Option Obj
def Sub (g : Fz) (h : Heap) : Prop := ∀ b o, g b = some o → h.get? b = some o
def Le (g g' : Fz) : Prop := ∀ b o, g b = some o → g' b = some o
theorem Le.refl (g : Fz) : Le g g := fun _ _ e => e
theorem Le.trans {a b c : Fz} (x : Le a b) (y : Le b c) : Le a c := fun p o e => y p o (x p o e)
theorem Le.sub {g g' : Fz} {h : Heap} (x : Le g g') (y : Sub g' h) : Sub g h := fun p o e => y p o (x p o e)
theorem Sub.keeps {g : Fz} {h h' : Heap} (x : Sub g h) (k : ∀ b o, h.get? b = some o → h'.get? b = some o) : Sub g h' := fun b o e => k b o (x b o e)
theorem Sub.same {g : Fz} {h h' : Heap} {a : Addr} (x : Sub g h) (hs : Heap.SameBut a h h') (ha : g a = none) : Sub g h' :=
  fun b o e => (hs.2 b (fun q => by rw [q, ha] at e; cases e)).trans (x b o e)
theorem Sub.none {g : Fz} {h : Heap} (x : Sub g h) {a : Addr} (ha : h.objs.size ≤ a) : g a = none := by
  cases e : g a with
  | none => rfl
  | some o => exact absurd (Heap.lt_size (x a o e)) (Nat.not_lt.mpr ha)

structure Ev (wr : List Addr) (g : Fz) (s : Shared) (g' : Fz) (s' : Shared) : Prop where
  only : ∃ h t, s' = { s with heap := h, toks := t }
  gg : Le g g'
  gh : Sub g' s'.heap
  hid : ∀ x o, s.heap.get? x = some o → g x = none → g' x = none
  keep : ∀ b o, b ∉ wr → s.heap.get? b = some o → s'.heap.get? b = some o
  alive : ∀ b o, s.heap.get? b = some o → ∃ o', s'.heap.get? b = some o'

theorem Ev.refl {wr : List Addr} {g : Fz} {s : Shared} (S : Sub g s.heap) : Ev wr g s g s :=
  ⟨⟨_, _, rfl⟩, Le.refl g, S, fun _ _ _ e => e, fun _ _ _ e => e, fun _ o e => ⟨o, e⟩⟩
theorem Ev.trans {wr wr' : List Addr} {g₀ g₁ g₂ : Fz} {s₀ s₁ s₂ : Shared} (x : Ev wr g₀ s₀ g₁ s₁) (y : Ev wr' g₁ s₁ g₂ s₂) (hw : ∀ b ∈ wr', b ∈ wr ∨ s₀.heap.get? b = none) :
    Ev wr g₀ s₀ g₂ s₂ := by
  obtain ⟨⟨h₁, t₁, rfl⟩, a1, a2, a3, a4, a5⟩ := x
  obtain ⟨⟨h₂, t₂, rfl⟩, b1, b2, b3, b4, b5⟩ := y
  refine ⟨⟨h₂, t₂, rfl⟩, a1.trans b1, b2, fun x o hx e => ?_, fun b o hb e => b4 b o (fun hm => ?_) (a4 b o hb e), fun b o e => ?_⟩
  · obtain ⟨o', h'⟩ := a5 x o hx
    exact b3 x o' h' (a3 x o hx e)
  · rcases hw b hm with h | h
    · exact hb h
    · rw [h] at e; cases e
  · obtain ⟨o', h'⟩ := a5 b o e
    exact b5 b o' h'
theorem Ev.toks {wr : List Addr} {g g' : Fz} {s s' : Shared} {t : Nat} (x : Ev wr g s g' s') : Ev wr g s g' { s' with toks := t } := by
  obtain ⟨⟨h₁, t₁, rfl⟩, a1, a2, a3, a4, a5⟩ := x
  exact ⟨⟨_, _, rfl⟩, a1, a2, a3, a4, a5⟩
theorem Ev.wider {wr wr' : List Addr} {g g' : Fz} {s s' : Shared} (x : Ev wr g s g' s') (hw : ∀ b ∈ wr, b ∈ wr' ∨ s.heap.get? b = none) : Ev wr' g s g' s' := by
  refine ⟨x.only, x.gg, x.gh, x.hid, fun b o hb e => x.keep b o (fun hm => ?_) e, x.alive⟩
  rcases hw b hm with h | h
  · exact hb h
  · rw [h] at e; cases e
/-- only new objects -/
theorem Ev.grow {wr : List Addr} {g : Fz} {s : Shared} {h' : Heap} {t : Nat} (S : Sub g s.heap) (k : ∀ b o, s.heap.get? b = some o → h'.get? b = some o) : Ev wr g s g { s with heap := h', toks := t } :=
  ⟨⟨_, _, rfl⟩, Le.refl g, S.keeps k, fun _ _ _ e => e, fun b o _ e => k b o e, fun b o e => ⟨o, k b o e⟩⟩

/-- a frame: its names, its cells, the objects that may turn -/
structure Tx (env : Env) (C : Heap → Prop) (g : Fz) (m k : Str → Option Value) (mu : List (Addr × Obj)) (s : Shared) : Prop where
  sub : Sub g s.heap
  up : ∀ h, Sub g h → C h
  ns : s.heap.Ns env.locals m
  hid : g env.locals = none
  cell : ∀ x c, env.cells.lookup x = some c → s.heap.IsCell c (k x) ∧ g c = none
  capart : ∀ x y c, env.cells.lookup x = some c → env.cells.lookup y = some c → x = y
  mus : ∀ p ∈ mu, s.heap.get? p.1 = some p.2 ∧ g p.1 = none ∧ p.1 ≠ env.locals ∧ ∀ x c, env.cells.lookup x = some c → p.1 ≠ c
  nd : (mu.map (·.1)).Nodup

structure Sx (wr : List Addr) (g₀ : Fz) (s₀ : Shared) (env : Env) (C : Heap → Prop) (g : Fz) (m k : Str → Option Value) (mu : List (Addr × Obj)) (s : Shared) : Prop where
  ev : Ev wr g₀ s₀ g s
  tx : Tx env C g m k mu s
  mw : ∀ p ∈ mu, p.1 ∈ wr ∨ s₀.heap.get? p.1 = none

/-- the frame's own places may be written -/
structure Fw (wr : List Addr) (s₀ : Shared) (env : Env) : Prop where
  loc : env.locals ∈ wr ∨ s₀.heap.get? env.locals = none
  cel : ∀ x c, env.cells.lookup x = some c → c ∈ wr ∨ s₀.heap.get? c = none

theorem mem_mid {α : Type} {l₁ l₂ : List α} {x p : α} (hp : p ∈ l₁ ++ l₂) : p ∈ l₁ ++ x :: l₂ := by
  rcases List.mem_append.mp hp with h | h
  · exact List.mem_append_left _ h
  · exact List.mem_append_right _ (List.mem_cons_of_mem _ h)
section
variable {wr wr' : List Addr} {g₀ g g' : Fz} {s₀ s s' : Shared} {env : Env} {C C' : Heap → Prop} {m k : Str → Option Value} {mu : List (Addr × Obj)}

theorem Tx.start (T : Tx env C g m k mu s) (hw : ∀ p ∈ mu, p.1 ∈ wr) : Sx wr g s env C g m k mu s := ⟨Ev.refl T.sub, T, fun p hp => .inl (hw p hp)⟩
theorem Sx.now (X : Sx wr g₀ s₀ env C g m k mu s) : C s.heap := X.tx.up _ X.tx.sub
theorem Sx.sub (X : Sx wr g₀ s₀ env C g m k mu s) : Sub g s.heap := X.tx.sub
theorem Tx.weaken (T : Tx env C g m k mu s) (h : ∀ h, C h → C' h) : Tx env C' g m k mu s := { T with up := fun hp S => h _ (T.up hp S) }
theorem Sx.weaken (X : Sx wr g₀ s₀ env C g m k mu s) (h : ∀ h, C h → C' h) : Sx wr g₀ s₀ env C' g m k mu s := ⟨X.ev, X.tx.weaken h, X.mw⟩
theorem Tx.cell_ne (T : Tx env C g m k mu s) {x : Str} {c : Addr} (hc : env.cells.lookup x = some c) : c ≠ env.locals := by
  obtain ⟨⟨o, ho, hd⟩, _⟩ := T.cell x c hc
  obtain ⟨o', es, ep, ho', hd', _⟩ := T.ns
  rintro rfl
  rw [ho] at ho'; cases ho'
  rw [hd] at hd'; cases hd'

/-- another step that keeps the frame -/
theorem Tx.keep (T : Tx env C g m k mu s) (e : Ev wr' g s g' s') (hL : env.locals ∉ wr') (hc : ∀ x c, env.cells.lookup x = some c → c ∉ wr') (hm : ∀ p ∈ mu, p.1 ∉ wr') : Tx env C g' m k mu s' where
  sub := e.gh
  up := fun h S => T.up h (e.gg.sub S)
  ns := let ⟨o, es, ep, ho, r⟩ := T.ns; ⟨o, es, ep, e.keep _ _ hL ho, r⟩
  hid := let ⟨o, _, _, ho, _⟩ := T.ns; e.hid _ o ho T.hid
  cell := fun x c hx => let ⟨⟨o, ho, hd⟩, hg⟩ := T.cell x c hx; ⟨⟨o, e.keep _ _ (hc x c hx) ho, hd⟩, e.hid _ _ ho hg⟩
  capart := T.capart
  mus := fun p hp => let ⟨h1, h2, h3⟩ := T.mus p hp; ⟨e.keep _ _ (hm p hp) h1, e.hid _ _ h1 h2, h3⟩
  nd := T.nd
theorem Sx.keep (X : Sx wr g₀ s₀ env C g m k mu s) (e : Ev [] g s g' s') : Sx wr g₀ s₀ env C g' m k mu s' :=
  ⟨X.ev.trans e (fun _ h => nomatch h), X.tx.keep e (fun h => nomatch h) (fun _ _ _ h => nomatch h) (fun _ _ h => nomatch h), X.mw⟩
theorem Sx.grow {h' : Heap} {t : Nat} (X : Sx wr g₀ s₀ env C g m k mu s) (hk : ∀ b o, s.heap.get? b = some o → h'.get? b = some o) : Sx wr g₀ s₀ env C g m k mu { s with heap := h', toks := t } :=
  X.keep (Ev.grow X.sub hk)
theorem Sx.toks (X : Sx wr g₀ s₀ env C g m k mu s) (t : Nat) : Sx wr g₀ s₀ env C g m k mu { s with toks := t } := X.grow fun _ _ e => e
theorem Sx.fresh (X : Sx wr g₀ s₀ env C g m k mu s) : s₀.heap.get? s.heap.objs.size = none := by
  cases e : s₀.heap.get? s.heap.objs.size with
  | none => rfl
  | some o =>
    obtain ⟨o', h'⟩ := X.ev.alive _ o e
    exact absurd (Heap.lt_size h') (Nat.lt_irrefl _)
theorem Sx.pushMu (X : Sx wr g₀ s₀ env C g m k mu s) (o : Obj) (t : Nat) (hf : o.isFreed = false := by rfl) : Sx wr g₀ s₀ env C g m k ((s.heap.objs.size, o) :: mu) { s with heap := s.heap.push o, toks := t } := by
  have Y := X.grow (t := t) fun b o' e => Heap.get?_push_of_some o e
  have lt : ∀ {a : Addr} {o' : Obj}, s.heap.get? a = some o' → a < s.heap.objs.size := fun e => Heap.lt_size e
  refine ⟨Y.ev, { Y.tx with mus := fun p hp => ?_, nd := ?_ }, fun p hp => ?_⟩
  · rcases List.mem_cons.mp hp with rfl | hp
    · refine ⟨Heap.get?_push_size _ hf, X.sub.none (Nat.le_refl _), Nat.ne_of_gt X.tx.ns.lt, fun x c hc => ?_⟩
      obtain ⟨⟨o', ho, _⟩, _⟩ := X.tx.cell x c hc
      exact Nat.ne_of_gt (lt ho)
    · exact Y.tx.mus p hp
  · rw [List.map_cons, List.nodup_cons]
    refine ⟨fun hm => ?_, X.tx.nd⟩
    obtain ⟨p, hp, e⟩ := List.mem_map.mp hm
    have := lt (X.tx.mus p hp).1
    rw [e] at this
    exact Nat.lt_irrefl _ this
  · rcases List.mem_cons.mp hp with rfl | hp
    · exact .inr X.fresh
    · exact X.mw p hp

/-- an object that is written no more joins the frozen part -/
theorem Sx.freeze {a : Addr} {o : Obj} {mu₁ mu₂ : List (Addr × Obj)} (X : Sx wr g₀ s₀ env C g m k (mu₁ ++ (a, o) :: mu₂) s) (ha : s₀.heap.get? a = none) :
    ∃ g', Sx wr g₀ s₀ env (fun h => C h ∧ h.get? a = some o) g' m k (mu₁ ++ mu₂) s := by
  have ne : ∀ {b : Addr} {o' : Obj}, g b = some o' → b ≠ a := fun e q => by
    have := (X.tx.mus (a, o) (by simp)).2.1
    rw [q, this] at e; cases e
  have nd := X.tx.nd
  rw [List.map_append, List.map_cons, List.nodup_append] at nd
  obtain ⟨n1, n2, n3⟩ := nd
  rw [List.nodup_cons] at n2
  have off : ∀ p ∈ mu₁ ++ mu₂, p.1 ≠ a := fun p hp q => by
    rcases List.mem_append.mp hp with h | h
    · exact n3 _ (List.mem_map_of_mem h) _ List.mem_cons_self q
    · exact n2.1 (List.mem_map.mpr ⟨p, h, q⟩)
  have le : Le g (fun b => if b = a then some o else g b) := fun b o' e => (if_neg (ne e)).trans e
  have hoa := (X.tx.mus (a, o) (by simp)).1
  have sub : Sub (fun b => if b = a then some o else g b) s.heap := fun b o' e => by
    dsimp only at e
    by_cases q : b = a
    · rw [if_pos q] at e; cases e; rw [q]; exact hoa
    · rw [if_neg q] at e; exact X.sub b o' e
  have hidden : ∀ {x : Addr}, x ≠ a → g x = none → (if x = a then some o else g x) = none := fun q e => by rw [if_neg q]; exact e
  refine ⟨_, ⟨⟨X.ev.only, X.ev.gg.trans le, sub, fun x o' hx e => hidden (fun q => by rw [q, ha] at hx; cases hx) (X.ev.hid x o' hx e), X.ev.keep, X.ev.alive⟩,
    { sub := sub, up := fun h S => ⟨X.tx.up h (le.sub S), S a o (if_pos rfl)⟩, ns := X.tx.ns, hid := ?_, cell := fun x c hc => ?_, capart := X.tx.capart, mus := fun p hp => ?_, nd := ?_ }, fun p hp => X.mw p (mem_mid hp)⟩⟩
  · exact hidden (Ne.symm (X.tx.mus (a, o) (by simp)).2.2.1) X.tx.hid
  · exact ⟨(X.tx.cell x c hc).1, hidden (Ne.symm ((X.tx.mus (a, o) (by simp)).2.2.2 x c hc)) (X.tx.cell x c hc).2⟩
  · have hp' : p ∈ mu₁ ++ (a, o) :: mu₂ := mem_mid hp
    obtain ⟨h1, h2, h3⟩ := X.tx.mus p hp'
    exact ⟨h1, hidden (off p hp) h2, h3⟩
  · rw [List.map_append, List.nodup_append]
    exact ⟨n1, n2.2, fun x hx y hy => n3 x hx y (List.mem_cons_of_mem _ hy)⟩
theorem Sx.freeze1 {a : Addr} {o : Obj} (X : Sx wr g₀ s₀ env C g m k ((a, o) :: mu) s) (ha : s₀.heap.get? a = none) :
    ∃ g', Sx wr g₀ s₀ env (fun h => C h ∧ h.get? a = some o) g' m k mu s := X.freeze (mu₁ := []) ha

/-- an object is forgotten -/
theorem Sx.drop {mu₁ mu₂ : List (Addr × Obj)} {p : Addr × Obj} (X : Sx wr g₀ s₀ env C g m k (mu₁ ++ p :: mu₂) s) : Sx wr g₀ s₀ env C g m k (mu₁ ++ mu₂) s := by
  refine ⟨X.ev, { X.tx with mus := fun q hq => X.tx.mus q (mem_mid hq), nd := ?_ }, fun q hq => X.mw q (mem_mid hq)⟩
  · have nd := X.tx.nd
    rw [List.map_append, List.map_cons, List.nodup_append] at nd
    obtain ⟨n1, n2, n3⟩ := nd
    rw [List.nodup_cons] at n2
    rw [List.map_append, List.nodup_append]
    exact ⟨n1, n2.2, fun x hx y hy => n3 x hx y (List.mem_cons_of_mem _ hy)⟩
theorem Sx.drop1 {p : Addr × Obj} (X : Sx wr g₀ s₀ env C g m k (p :: mu) s) : Sx wr g₀ s₀ env C g m k mu s := X.drop (mu₁ := [])
theorem Sx.pushFz (X : Sx wr g₀ s₀ env C g m k mu s) (o : Obj) (t : Nat) (hf : o.isFreed = false := by rfl) :
    ∃ g', Sx wr g₀ s₀ env (fun h => C h ∧ h.get? s.heap.objs.size = some o) g' m k mu { s with heap := s.heap.push o, toks := t } := (X.pushMu o t hf).freeze1 X.fresh

/-- a written object -/
theorem Ev.upd {a : Addr} {h' : Heap} {o' : Obj} {t : Nat} (S : Sub g s.heap) (hs : Heap.SameBut a s.heap h') (ho : h'.get? a = some o') (ha : g a = none) : Ev [a] g s g { s with heap := h', toks := t } :=
  ⟨⟨_, _, rfl⟩, Le.refl g, S.same hs ha, fun _ _ _ e => e, fun b o hb e => (hs.2 b (fun q => hb (List.mem_singleton.mpr q))).trans e, fun b o e => by
    by_cases q : b = a
    · exact ⟨o', q ▸ ho⟩
    · exact ⟨o, (hs.2 b q).trans e⟩⟩
theorem Sx.setMu {a : Addr} {o o' : Obj} {mu₁ mu₂ : List (Addr × Obj)} {h' : Heap} {t : Nat} (X : Sx wr g₀ s₀ env C g m k (mu₁ ++ (a, o) :: mu₂) s) (hs : Heap.SameBut a s.heap h') (ho : h'.get? a = some o') :
    Sx wr g₀ s₀ env C g m k (mu₁ ++ (a, o') :: mu₂) { s with heap := h', toks := t } := by
  have hw : a ∈ wr ∨ s₀.heap.get? a = none := X.mw (a, o) (by simp)
  obtain ⟨-, ga, aL, ac⟩ := X.tx.mus (a, o) (by simp)
  have e : Ev [a] g s g { s with heap := h', toks := t } := Ev.upd X.sub hs ho ga
  have nd := X.tx.nd
  rw [List.map_append, List.map_cons, List.nodup_append] at nd
  obtain ⟨n1, n2, n3⟩ := nd
  rw [List.nodup_cons] at n2
  have Y : Tx env C g m k (mu₁ ++ mu₂) { s with heap := h', toks := t } := X.drop.tx.keep e (by simpa using Ne.symm aL) (fun x c hc => by simpa using Ne.symm (ac x c hc)) fun p hp => by
    simp only [List.mem_singleton]
    intro q
    rcases List.mem_append.mp hp with h | h
    · exact n3 _ (List.mem_map_of_mem h) _ List.mem_cons_self q
    · exact n2.1 (List.mem_map.mpr ⟨p, h, q⟩)
  refine ⟨X.ev.trans e (fun b hb => by rw [List.mem_singleton.mp hb]; exact hw), { Y with mus := fun p hp => ?_, nd := ?_ }, fun p hp => ?_⟩
  · rcases List.mem_append.mp hp with h | h
    · exact Y.mus p (List.mem_append_left _ h)
    · rcases List.mem_cons.mp h with rfl | h
      · exact ⟨ho, ga, aL, ac⟩
      · exact Y.mus p (List.mem_append_right _ h)
  · have := X.tx.nd
    rwa [List.map_append, List.map_cons] at this ⊢
  · rcases List.mem_append.mp hp with h | h
    · exact X.mw p (List.mem_append_left _ h)
    · rcases List.mem_cons.mp h with rfl | h
      · exact hw
      · exact X.mw p (List.mem_append_right _ (List.mem_cons_of_mem _ h))
theorem Sx.setMu1 {a : Addr} {o o' : Obj} {h' : Heap} {t : Nat} (X : Sx wr g₀ s₀ env C g m k ((a, o) :: mu) s) (hs : Heap.SameBut a s.heap h') (ho : h'.get? a = some o') :
    Sx wr g₀ s₀ env C g m k ((a, o') :: mu) { s with heap := h', toks := t } := X.setMu (mu₁ := []) hs ho

def upd (m : Str → Option Value) (x : Str) (v : Value) : Str → Option Value := fun y => if y = x then some v else m y
theorem upd_same {x : Str} {v : Value} : upd m x v x = some v := if_pos rfl
theorem upd_ne {x y : Str} {v : Value} (h : y ≠ x) : upd m x v y = m y := if_neg h
theorem upd_get {x y : Str} {v : Value} {r : Option Value} (h : (y == x) = false) (e : m y = r) : upd m x v y = r := (upd_ne (by simpa using h)).trans e

theorem Sx.setL {x : Str} {v : Value} {h' : Heap} {t : Nat} (X : Sx wr g₀ s₀ env C g m k mu s) (hn : h'.Ns env.locals (upd m x v)) (hs : Heap.SameBut env.locals s.heap h')
    (hw : env.locals ∈ wr ∨ s₀.heap.get? env.locals = none) : Sx wr g₀ s₀ env C g (upd m x v) k mu { s with heap := h', toks := t } := by
  have e : Ev [env.locals] g s g { s with heap := h', toks := t } := let ⟨_, _, _, ho, _⟩ := hn; Ev.upd X.sub hs ho X.tx.hid
  refine ⟨X.ev.trans e (fun b hb => by rw [List.mem_singleton.mp hb]; exact hw), ⟨e.gh, X.tx.up, hn, X.tx.hid, fun y c hc => ?_, X.tx.capart, fun p hp => ?_, X.tx.nd⟩, X.mw⟩
  · obtain ⟨⟨o, ho, hd⟩, hg⟩ := X.tx.cell y c hc
    exact ⟨⟨o, (hs.2 c (X.tx.cell_ne hc)).trans ho, hd⟩, hg⟩
  · obtain ⟨h1, h2, h3, h4⟩ := X.tx.mus p hp
    exact ⟨(hs.2 _ h3).trans h1, h2, h3, h4⟩
theorem Sx.setC {x : Str} {c : Addr} {v : Value} {h' : Heap} {t : Nat} (X : Sx wr g₀ s₀ env C g m k mu s) (hc : env.cells.lookup x = some c) (hv : h'.IsCell c (some v)) (hs : Heap.SameBut c s.heap h')
    (hw : c ∈ wr ∨ s₀.heap.get? c = none) : Sx wr g₀ s₀ env C g m (upd k x v) mu { s with heap := h', toks := t } := by
  obtain ⟨hc1, hc2⟩ := X.tx.cell x c hc
  have e : Ev [c] g s g { s with heap := h', toks := t } := let ⟨_, ho, _⟩ := hv; Ev.upd X.sub hs ho hc2
  refine ⟨X.ev.trans e (fun b hb => by rw [List.mem_singleton.mp hb]; exact hw), ⟨e.gh, X.tx.up, ?_, X.tx.hid, fun y c' hc' => ?_, X.tx.capart, fun p hp => ?_, X.tx.nd⟩, X.mw⟩
  · obtain ⟨o, es, ep, ho, r⟩ := X.tx.ns
    exact ⟨o, es, ep, (hs.2 _ (Ne.symm (X.tx.cell_ne hc))).trans ho, r⟩
  · by_cases q : y = x
    · subst q
      rw [hc] at hc'; cases hc'
      exact ⟨by rw [upd_same]; exact hv, hc2⟩
    · obtain ⟨⟨o, ho, hd⟩, hg⟩ := X.tx.cell y c' hc'
      exact ⟨⟨o, (hs.2 c' (fun e => q (X.tx.capart _ _ _ hc' (e ▸ hc)))).trans ho, by rw [upd_ne q]; exact hd⟩, hg⟩
  · obtain ⟨h1, h2, h3, h4⟩ := X.tx.mus p hp
    exact ⟨(hs.2 _ (h4 x c hc)).trans h1, h2, h3, h4⟩
end
end Mine
end
section
open PySem PySem.W PyProof.Rows
namespace Mine
theorem opq {α : Type} {M : Model} {A : Around} {E : Value → Shared → Prop} {t : Sem α} {Q : α → Shared → Prop} {s : Shared} (h : ∀ Q' : α → Shared → Prop, (∀ a s', Q a s' → Q' a s') → wpAny M A t Q' E s) : wpAny M A t Q E s := h Q fun _ _ x => x
theorem Sx.opq {wr : List Addr} {g₀ g : Fz} {s₀ s : Shared} {env : Env} {C : Heap → Prop} {m k : Str → Option Value} {mu : List (Addr × Obj)} (X : Sx wr g₀ s₀ env C g m k mu s) : ∃ C' : Heap → Prop, (∀ h, C' h → C h) ∧ Sx wr g₀ s₀ env C' g m k mu s := ⟨C, fun _ c => c, X⟩
end Mine
end
section
open PySem PySem.W PyProof.Rows
namespace Mine

abbrev NE : Value → Shared → Prop := fun _ _ => False

/-- what stands at the top -/
structure Gl (K : Frag) (mg mb : Str → Option Value) (h : Heap) : Prop where
  inK : K.In h
  g : h.Ns mainGlobals mg
  b : h.Ns builtinsNs mb
  nolimit : h.NoLimit
  blt : ∀ x : Str, x ≠ "__name__" → mb x = bootBuiltins x

structure AOk (n : Nat) (A : Around) : Prop where
  hh : A.handled = none
  dep : A.depth + n < 900
  un : A.units + 100 * n < 5000
  gu : A.guards = some []
theorem AOk.room {n : Nat} {A : Around} (a : AOk n A) : A.depth < recursionLimit := by
  have := a.dep
  have e : recursionLimit = 1000 := rfl
  omega
theorem AOk.units {n : Nat} {A : Around} (a : AOk n A) {k : Nat} (hk : k < 4000) : A.units + k < cLine := by
  have := a.un
  have e : cLine = 9900 := rfl
  omega
theorem AOk.deeper {n : Nat} {A : Around} {env : Env} (a : AOk (n + 1) A) : AOk n (A.deeper env) :=
  ⟨a.hh, by show A.depth + 1 + n < 900; have := a.dep; omega, by show A.units + 3 + 100 * n < 5000; have := a.un; omega, a.gu⟩
theorem AOk.less {n : Nat} {A : Around} (a : AOk (n + 1) A) : AOk n A := ⟨a.hh, by have := a.dep; omega, by have := a.un; omega, a.gu⟩
theorem AOk.in1 {n : Nat} {A : Around} (a : AOk (n + 1) A) : AOk n A.in1 := ⟨a.hh, by show A.depth + n < 900; have := a.dep; omega, by show A.units + 1 + 100 * n < 5000; have := a.un; omega, a.gu⟩

section
variable {prog : Program} {w : World} {M : Model} {A : Around} {E : Value → Shared → Prop}
variable {wr wr' : List Addr} {g₀ g g' : Fz} {s₀ s s' : Shared} {env : Env} {C C' : Heap → Prop} {m k : Str → Option Value} {mu : List (Addr × Obj)}
variable {K : Frag} {mg mb : Str → Option Value}

theorem eta (s : Shared) : ({ s with heap := s.heap, toks := s.toks } : Shared) = s := rfl

theorem us {x : Str} {v : Value} : upd m x v x = some v := upd_same
theorem ug {x y : Str} {v : Value} {r : Option Value} (e : m y = r) (h : (y == x) = false := by kernel_rfl!) : upd m x v y = r := upd_get h e
/-! names -/
theorem x_local {x : Str} {pos : Pos} {v : Value} {Q : Value → Shared → Prop} (X : Sx wr g₀ s₀ env C g m k mu s) (hv : m x = some v) (h : Q v s)
    (hk : env.scope.kind = .function := by kernel_rfl!) (hx : env.kindOf x = some .local := by kernel_rfl!) (hd : (x == ("__debug__" : Str)) = false := by kernel_rfl!) :
    wpAny M A (eval (.Name x pos) env) Q E s := wpAny_Name (wpAny_loadName_local hk hx X.tx.ns hv h) hd
theorem x_cell {x : Str} {pos : Pos} {v : Value} {Q : Value → Shared → Prop} (X : Sx wr g₀ s₀ env C g m k mu s) (hv : k x = some v) (h : Q v s)
    (hk : env.scope.kind = .function := by kernel_rfl!) (hx : env.kindOf x = some .cell := by kernel_rfl!) (hc : (env.cells.lookup x).isSome = true := by kernel_rfl!) (hd : (x == ("__debug__" : Str)) = false := by kernel_rfl!) :
    wpAny M A (eval (.Name x pos) env) Q E s := by
  obtain ⟨c, hc⟩ := Option.isSome_iff_exists.mp hc
  have := (X.tx.cell x c hc).1
  rw [hv] at this
  exact wpAny_Name (wpAny_loadName_cell hk hx hc this h) hd
theorem x_free {x : Str} {pos : Pos} {v : Value} {Q : Value → Shared → Prop} (X : Sx wr g₀ s₀ env C g m k mu s) (hv : k x = some v) (h : Q v s)
    (hk : env.scope.kind = .function := by kernel_rfl!) (hx : env.kindOf x = some .free := by kernel_rfl!) (hc : (env.cells.lookup x).isSome = true := by kernel_rfl!) (hd : (x == ("__debug__" : Str)) = false := by kernel_rfl!)
    (hn : (x == ("__classdict__" : Str)) = false := by kernel_rfl!) :
    wpAny M A (eval (.Name x pos) env) Q E s := by
  obtain ⟨c, hc⟩ := Option.isSome_iff_exists.mp hc
  have := (X.tx.cell x c hc).1
  rw [hv] at this
  exact wpAny_Name (wpAny_loadName_free hk hx hc this h hn) hd
theorem x_glob {x : Str} {pos : Pos} {v : Value} {Q : Value → Shared → Prop} (G : Gl K mg mb s.heap) (e : nsIn K mainGlobals x = some (some v)) (h : Q v s)
    (hk : env.scope.kind = .function := by kernel_rfl!) (hx : env.kindOf x = some .globalImplicit := by kernel_rfl!) (hg : env.globals = mainGlobals := by rfl) (hd : (x == ("__debug__" : Str)) = false := by kernel_rfl!) :
    wpAny M A (eval (.Name x pos) env) Q E s := Calls.Name_function_global hk hx (Calls.loadGlobal_global (by rw [hg]; exact G.g) (mg_of G.inK G.g e) h) hd
theorem x_blt {x : Str} {pos : Pos} {v : Value} {Q : Value → Shared → Prop} (G : Gl K mg mb s.heap) (e : nsIn K mainGlobals x = some none) (hv : bootBuiltins x = some v) (h : Q v s)
    (hn : (x == ("__name__" : Str)) = false := by kernel_rfl!)
    (hk : env.scope.kind = .function := by kernel_rfl!) (hx : env.kindOf x = some .globalImplicit := by kernel_rfl!) (hg : env.globals = mainGlobals := by rfl) (hb : env.builtins = builtinsNs := by rfl) (hd : (x == ("__debug__" : Str)) = false := by kernel_rfl!) :
    wpAny M A (eval (.Name x pos) env) Q E s :=
  Calls.Name_function_global hk hx (Calls.loadGlobal_builtin (by rw [hg]; exact G.g) (mg_none_of G.inK G.g e) (by rw [hb]; exact G.b) ((G.blt x (by simpa using hn)).trans hv) h) hd

/-! constants -/
theorem x_int {i : Int} {n : Nat} {pos : Pos} {Q : Value → Shared → Prop} (X : Sx wr g₀ s₀ env C g m k mu s) (h : ∀ t s', Sx wr g₀ s₀ env C g m k mu s' → Q (.int i t) s') :
    wpAny M A (eval (.Constant (.int i) n pos) env) Q E s := wpAny_Constant_int (h _ _ (X.toks _))
theorem x_str {i : Str} {n : Nat} {pos : Pos} {Q : Value → Shared → Prop} (X : Sx wr g₀ s₀ env C g m k mu s) (h : ∀ t s', Sx wr g₀ s₀ env C g m k mu s' → Q (.str i t) s') :
    wpAny M A (eval (.Constant (.str i) n pos) env) Q E s := Calls.Constant_str (h _ _ (X.toks _))

/-! stores -/
theorem st_local {x : Str} {v : Value} {Q : Unit → Shared → Prop} (X : Sx wr g₀ s₀ env C g m k mu s) (W : Fw wr s₀ env)
    (h : ∀ s', Sx wr g₀ s₀ env C g (upd m x v) k mu s' → Q () s') (hk : env.scope.kind = .function := by kernel_rfl!) (hx : env.kindOf x = some .local := by kernel_rfl!) :
    wpAny M A (storeName env x v) Q E s :=
  wpAny_storeName_local hx X.tx.ns (fun h' hn hs => h _ (X.setL hn hs W.loc)) (by rw [hk]; rfl)
theorem st_cell {x : Str} {v : Value} {Q : Unit → Shared → Prop} (X : Sx wr g₀ s₀ env C g m k mu s) (W : Fw wr s₀ env)
    (h : ∀ s', Sx wr g₀ s₀ env C g m (upd k x v) mu s' → Q () s') (hk : env.scope.kind = .function := by kernel_rfl!) (hx : env.kindOf x = some .cell := by kernel_rfl!) (hc : (env.cells.lookup x).isSome = true := by kernel_rfl!) :
    wpAny M A (storeName env x v) Q E s := by
  obtain ⟨c, hc⟩ := Option.isSome_iff_exists.mp hc
  exact wpAny_storeName_cell hk hx hc (X.tx.cell x c hc).1 fun h' hv hs => h _ (X.setC hc hv hs (W.cel x c hc))

/-! ints -/
theorem x_add {a b : Int} {t u : Tok} {Q : Value → Shared → Prop} (X : Sx wr g₀ s₀ env C g m k mu s) (h : ∀ t s', Sx wr g₀ s₀ env C g m k mu s' → Q (.int (a + b) t) s') :
    wpAny (model prog w) A (binaryOp .Add (.int a t) (.int b u)) Q E s := add_int (h _ _ (X.toks _))

/-! arguments, calls -/
theorem args2 {e : Expr} {rest : List Expr} {pos : Pos} {Q : List Value → Shared → Prop}
    (h : wpAny M A (eval e env) (fun v s₁ => wpAny M A (spliced (backTo pos (starEach rest env))) (fun vs s₂ => Q (v :: vs) s₂) E s₁) E s)
    (he : starEach (e :: rest) env = (false, eval e env) :: starEach rest env := by rfl) : wpAny M A (spliced (backTo pos (starEach (e :: rest) env))) Q E s := args_cons h he
theorem args0 {pos : Pos} {Q : List Value → Shared → Prop} (h : Q [] s) : wpAny M A (spliced (backTo pos (starEach [] env))) Q E s := args_nil h

theorem x_enter {R : Result → Shared → Prop} {a : Addr} {fd : FuncData} {body : List Stmt} {vals : List Value} {n : Nat}
    (mu : List (Addr × Obj)) (S : Sub g s.heap) (up : ∀ h, Sub g h → C h) (G : Gl K mg mb s.heap) (hA : AOk (n + 1) A)
    (hmu : ∀ p ∈ mu, s.heap.get? p.1 = some p.2 ∧ g p.1 = none) (hnd : (mu.map (·.1)).Nodup)
    (ho : K.lookup a = some ⟨.type "function", none, .func fd, #[]⟩) (hcd : codeIn K fd.code fd.qualname = true)
    (hbody : fd.body = .stmts body) (hbind : bindArgs fd ⟨vals, []⟩ = pure ((fd.params.args.map (·.arg)).zip vals)) (hclo : fd.closure = [])
    (hkind : (((fd.params.args.map (·.arg)).zip vals).all fun y => fd.scope.names.lookup y.1 == some .local || fd.scope.names.lookup y.1 == some .cell) = true)
    (hco : fd.scope.isCoroutine = false) (hgen : fd.scope.isGenerator = false) (hk : fd.scope.kind = .function)
    (h : ∀ L s₁, s.heap.objs.size = L → Sx (mu.map (·.1)) g s (callEnvC fd L a) C g (bindL (callEnvC fd L a).kindOf ((fd.params.args.map (·.arg)).zip vals) fun _ => none) (bindC (callEnvC fd L a).kindOf ((fd.params.args.map (·.arg)).zip vals) fun _ => none) mu s₁ → Fw (mu.map (·.1)) s (callEnvC fd L a) →
      wpAny (model prog w) (A.deeper (callEnvC fd L a)) (execs body (callEnvC fd L a)) (fun f s' => R (.ok (.ret (match f with | .ret v => v | _ => .none))) s') NE s₁) :
    codeAny (model prog w) A (.call (.ref a) ⟨vals, []⟩) R s := by
  refine codeAny_call_cells hA.room (G.inK _ _ ho) rfl G.nolimit (codeRec_of G.inK hcd) hbody hbind hclo (kindsX hkind _) (fun s₁ x => ?_) hco hgen hk
  obtain ⟨h₁, tk, rfl, hk₁⟩ := x.done
  have hns := x.toInCall.ns
  have hnL : g s.heap.objs.size = none := S.none (Nat.le_refl _)
  have nw : ∀ {a : Addr}, s.heap.objs.size ≤ a → s.heap.get? a = none := fun ha => Heap.get?_none_of_le ha
  have ev : Ev (mu.map (·.1)) g s g { s with heap := h₁, toks := tk } := Ev.grow S hk₁
  refine wpAny_mono (h s.heap.objs.size { s with heap := h₁, toks := tk } rfl ⟨ev, ⟨S.keeps hk₁, up, hns, hnL, fun y c hc => ⟨x.cell y c hc, ?_⟩, fun y z c h1 h2 => ?_, fun p hp => ?_, hnd⟩, fun p hp => .inl (List.mem_map_of_mem hp)⟩
    ⟨.inr (nw (Nat.le_refl _)), fun y c hc => .inr (nw (Nat.le_of_lt (x.above y c (mem_of_lookup hc))))⟩) (fun _ _ z => z) fun _ _ z => z.elim
  · exact S.none (Nat.le_of_lt (x.above y c (mem_of_lookup hc)))
  · exact name_of_addr x.apart (mem_of_lookup h1) (mem_of_lookup h2)
  · obtain ⟨h1, h2⟩ := hmu p hp
    exact ⟨hk₁ _ _ h1, h2, Nat.ne_of_lt (Heap.lt_size h1), fun y c hc => Nat.ne_of_lt (Nat.lt_trans (Heap.lt_size h1) (x.above y c (mem_of_lookup hc)))⟩
end
end Mine
end
section
open PySem PySem.W PyProof.Rows
namespace Mine

/-! ## all objects but some, as a ledger: the library's rules over Fr, News are taken so -/
def rest (h : Heap) (xs : List Addr) : List (Addr × Obj) := (List.range h.objs.size).filterMap fun a => if a ∈ xs then none else (h.get? a).map (a, ·)
theorem mem_rest {h : Heap} {xs : List Addr} {a : Addr} {o : Obj} : (a, o) ∈ rest h xs ↔ h.get? a = some o ∧ a ∉ xs := by
  unfold rest
  rw [List.mem_filterMap]
  constructor
  · rintro ⟨b, _, e⟩
    by_cases q : b ∈ xs
    · rw [if_pos q] at e; cases e
    · rw [if_neg q] at e
      obtain ⟨o', h1, h2⟩ := Option.map_eq_some_iff.mp e
      cases h2
      exact ⟨h1, q⟩
  · rintro ⟨e, q⟩
    exact ⟨a, List.mem_range.mpr (Heap.lt_size e), by rw [if_neg q, e]; rfl⟩
theorem get_empty (b : Addr) : ({} : Heap).get? b = none := by simp [Heap.get?]

section
variable {prog : Program} {w : World} {M : Model} {A : Around} {E : Value → Shared → Prop}
variable {wr wr' : List Addr} {g₀ g g' : Fz} {s₀ s s' : Shared} {env : Env} {C C' : Heap → Prop} {m k : Str → Option Value} {mu : List (Addr × Obj)}
variable {K : Frag} {mg mb : Str → Option Value}

theorem Sx.fr (X : Sx wr g₀ s₀ env C g m k mu s) : Fr {} env.locals s.heap m := ⟨X.tx.ns, (fun b o e => by rw [get_empty] at e; cases e), Nat.zero_le _⟩
theorem Sx.news (_ : Sx wr g₀ s₀ env C g m k mu s) : News {} env.locals s.heap (rest s.heap [env.locals]) := fun p hp => by
  obtain ⟨h1, h2⟩ := mem_rest.mp hp
  exact ⟨h1, fun q => h2 (by simp [q]), get_empty _⟩
/-- back from a rule that made one object -/
theorem Sx.backNew {h' : Heap} {t : Nat} {D : Addr} {o : Obj} (X : Sx wr g₀ s₀ env C g m k mu s) (hw : env.locals ∈ wr ∨ s₀.heap.get? env.locals = none)
    (F : Fr {} env.locals h' m) (N : News {} env.locals h' ((D, o) :: rest s.heap [env.locals])) (l : ∀ p ∈ rest s.heap [env.locals], p.1 < D) :
    Sx wr g₀ s₀ env C g m k ((D, o) :: mu) { s with heap := h', toks := t } := by
  have kp : ∀ b o, b ≠ env.locals → s.heap.get? b = some o → h'.get? b = some o := fun b o hb e => (N (b, o) (List.mem_cons_of_mem _ (mem_rest.mpr ⟨e, by simpa using hb⟩))).1
  obtain ⟨hD, hDL, -⟩ := N (D, o) List.mem_cons_self
  have fresh : s.heap.get? D = none := by
    cases e : s.heap.get? D with
    | none => rfl
    | some o' => exact absurd (l (D, o') (mem_rest.mpr ⟨e, by simpa using hDL⟩)) (Nat.lt_irrefl _)
  have gD : g D = none := by
    cases e : g D with
    | none => rfl
    | some o' => have := X.sub D o' e; rw [fresh] at this; cases this
  have e : Ev [env.locals] g s g { s with heap := h', toks := t } :=
    ⟨⟨_, _, rfl⟩, Le.refl g, fun b o' eb => kp b o' (fun q => by rw [q, X.tx.hid] at eb; cases eb) (X.sub b o' eb), fun _ _ _ q => q, fun b o' hb eb => kp b o' (by simpa using hb) eb, fun b o' eb => by
      by_cases q : b = env.locals
      · obtain ⟨oL, _, _, hL, _⟩ := F.ns; exact ⟨oL, q ▸ hL⟩
      · exact ⟨o', kp b o' q eb⟩⟩
  refine ⟨X.ev.trans e (fun b hb => by rw [List.mem_singleton.mp hb]; exact hw), ⟨e.gh, X.tx.up, F.ns, X.tx.hid, fun x c hc => ?_, X.tx.capart, fun p hp => ?_, ?_⟩, fun p hp => ?_⟩
  · obtain ⟨⟨o', ho, hd⟩, hg⟩ := X.tx.cell x c hc
    exact ⟨⟨o', kp c o' (X.tx.cell_ne hc) ho, hd⟩, hg⟩
  · rcases List.mem_cons.mp hp with rfl | hp
    · refine ⟨hD, gD, hDL, fun x c hc q => ?_⟩
      obtain ⟨⟨o', ho, _⟩, _⟩ := X.tx.cell x c hc
      have q' : D = c := q
      rw [← q', fresh] at ho; cases ho
    · obtain ⟨h1, h2, h3, h4⟩ := X.tx.mus p hp
      exact ⟨kp _ _ h3 h1, h2, h3, h4⟩
  · rw [List.map_cons, List.nodup_cons]
    refine ⟨fun hm => ?_, X.tx.nd⟩
    obtain ⟨p, hp, q⟩ := List.mem_map.mp hm
    have := (X.tx.mus p hp).1
    have q' : p.1 = D := q
    rw [q', fresh] at this; cases this
  · rcases List.mem_cons.mp hp with rfl | hp
    · right
      cases e0 : s₀.heap.get? D with
      | none => rfl
      | some o' =>
        obtain ⟨o'', h''⟩ := X.ev.alive D o' e0
        rw [fresh] at h''; cases h''
    · exact X.mw p hp

/-! ## data -/
def Rd (h : Heap) (v : Value) (d : PyData) : Prop := ∃ as, Reads h v d as
def RdL (h : Heap) (vs : List Value) (ds : List PyData) : Prop := ∃ as, ReadsAll h vs ds as
theorem Rd.keeps {h h' : Heap} {v : Value} {d : PyData} (x : Rd h v d) (hk : ∀ b o, h.get? b = some o → h'.get? b = some o) : Rd h' v d := let ⟨as, r⟩ := x; ⟨as, Reads.keeps hk r⟩
theorem Rd.int {h : Heap} {i : Int} {t : Tok} : Rd h (.int i t) (.int i) := ⟨_, .int i t⟩
theorem Rd.bool {h : Heap} {b : Bool} : Rd h (.bool b) (.bool b) := ⟨_, .bool b⟩
theorem RdL.nil {h : Heap} : RdL h [] [] := ⟨_, .nil⟩
theorem RdL.cons {h : Heap} {v : Value} {vs : List Value} {d : PyData} {ds : List PyData} (x : Rd h v d) (y : RdL h vs ds) : RdL h (v :: vs) (d :: ds) := let ⟨_, r⟩ := x; let ⟨_, q⟩ := y; ⟨_, .cons r q⟩
theorem RdL.inv {h : Heap} {vs : List Value} {d : PyData} {ds : List PyData} (x : RdL h vs (d :: ds)) : ∃ v r, vs = v :: r ∧ Rd h v d ∧ RdL h r ds := by
  obtain ⟨as, q⟩ := x
  cases q with | cons a b => exact ⟨_, _, rfl, ⟨_, a⟩, ⟨_, b⟩⟩
theorem RdL.inv0 {h : Heap} {vs : List Value} (x : RdL h vs []) : vs = [] := by
  obtain ⟨as, q⟩ := x
  cases q; rfl
theorem RdL.inv' {h : Heap} {v : Value} {vs : List Value} {ds : List PyData} (x : RdL h (v :: vs) ds) : ∃ d r, ds = d :: r ∧ Rd h v d ∧ RdL h vs r := by
  obtain ⟨as, q⟩ := x
  cases q with | cons a b => exact ⟨_, _, rfl, ⟨_, a⟩, ⟨_, b⟩⟩
theorem RdL.inv0' {h : Heap} {ds : List PyData} (x : RdL h [] ds) : ds = [] := by
  obtain ⟨as, q⟩ := x
  cases q; rfl
theorem RdL.length {h : Heap} : ∀ {vs : List Value} {ds : List PyData}, RdL h vs ds → vs.length = ds.length
  | [], ds, x => by rw [x.inv0']; rfl
  | v :: vs, ds, x => by obtain ⟨d, r, rfl, _, y⟩ := x.inv'; simp [y.length]
theorem RdL.append {h : Heap} : ∀ {vs ws : List Value} {ds es : List PyData}, RdL h vs ds → RdL h ws es → RdL h (vs ++ ws) (ds ++ es)
  | [], ws, ds, es, x, y => by rw [x.inv0']; exact y
  | v :: vs, ws, ds, es, x, y => by obtain ⟨d, r, rfl, a, b⟩ := x.inv'; exact RdL.cons a (b.append y)
theorem RdL.snoc {h : Heap} {vs : List Value} {v : Value} {ds : List PyData} {d : PyData} (x : RdL h vs ds) (y : Rd h v d) : RdL h (vs ++ [v]) (ds ++ [d]) := x.append (.cons y .nil)
theorem RdL.get {h : Heap} : ∀ {vs : List Value} {ds : List PyData}, RdL h vs ds → ∀ {i : Nat} {v : Value}, vs[i]? = some v → ∃ d, ds[i]? = some d ∧ Rd h v d
  | [], _, _, i, v, e => by simp at e
  | u :: vs, ds, x, i, v, e => by
    obtain ⟨d, r, rfl, a, b⟩ := x.inv'
    cases i with
    | zero => simp at e; subst e; exact ⟨d, rfl, a⟩
    | succ i => simp at e; simpa using b.get e
theorem RdL.at {h : Heap} {vs : List Value} {ds : List PyData} (x : RdL h vs ds) {i : Nat} {d : PyData} (e : ds[i]? = some d) : ∃ v, vs[i]? = some v ∧ Rd h v d := by
  have hi : i < ds.length := (List.getElem?_eq_some_iff.mp e).1
  have hv : i < vs.length := by rw [x.length]; exact hi
  obtain ⟨d', e', r⟩ := x.get (List.getElem?_eq_getElem hv)
  rw [e] at e'; cases e'
  exact ⟨_, List.getElem?_eq_getElem hv, r⟩
theorem RdL.reverse {h : Heap} : ∀ {vs : List Value} {ds : List PyData}, RdL h vs ds → RdL h vs.reverse ds.reverse
  | [], ds, x => by rw [x.inv0']; exact .nil
  | v :: vs, ds, x => by obtain ⟨d, r, rfl, a, b⟩ := x.inv'; rw [List.reverse_cons, List.reverse_cons]; exact b.reverse.snoc a
theorem RdL.drop {h : Heap} : ∀ {vs : List Value} {ds : List PyData}, RdL h vs ds → ∀ n, RdL h (vs.drop n) (ds.drop n)
  | [], ds, x, n => by rw [x.inv0']; simpa using RdL.nil
  | v :: vs, ds, x, n => by
    obtain ⟨d, r, rfl, a, b⟩ := x.inv'
    cases n with
    | zero => exact .cons a b
    | succ n => simpa using b.drop n
theorem RdL.take {h : Heap} : ∀ {vs : List Value} {ds : List PyData}, RdL h vs ds → ∀ n, RdL h (vs.take n) (ds.take n)
  | [], ds, x, n => by rw [x.inv0']; simpa using RdL.nil
  | v :: vs, ds, x, n => by
    obtain ⟨d, r, rfl, a, b⟩ := x.inv'
    cases n with
    | zero => simpa using RdL.nil
    | succ n => simpa using RdL.cons a (b.take n)
theorem RdL.set {h : Heap} : ∀ {vs : List Value} {ds : List PyData}, RdL h vs ds → ∀ {n : Nat} {v : Value} {d : PyData}, Rd h v d → RdL h (vs.set n v) (ds.set n d)
  | [], ds, x, n, v, d, _ => by rw [x.inv0']; simpa using RdL.nil
  | u :: vs, ds, x, n, v, d, y => by
    obtain ⟨e, r, rfl, a, b⟩ := x.inv'
    cases n with
    | zero => simpa using RdL.cons y b
    | succ n => simpa using RdL.cons a (b.set y)
theorem Rd.keepsL {h h' : Heap} (hk : ∀ b o, h.get? b = some o → h'.get? b = some o) {vs : List Value} {ds : List PyData} (x : RdL h vs ds) : RdL h' vs ds := let ⟨as, r⟩ := x; ⟨as, ReadsAll.keeps hk r⟩

abbrev lst (ys : List Value) (n : Nat) : Obj := { cls := .type "list", data := .seq ys.toArray n }
abbrev tup (ys : List Value) : Obj := { cls := .type "tuple", data := .seq ys.toArray }
def LstO (o : Obj) (ys : List Value) : Prop := o.cls = .type "list" ∧ ∃ n, o.data = .seq ys.toArray n
theorem LstO.lst {ys : List Value} {n : Nat} : LstO (lst ys n) ys := ⟨rfl, n, rfl⟩
theorem LstO.isList {h : Heap} {a : Addr} {o : Obj} {ys : List Value} (x : LstO o ys) (e : h.get? a = some o) : h.IsList a ys.toArray := let ⟨c, n, d⟩ := x; ⟨o, e, c, n, d⟩
theorem LstO.rd {h : Heap} {a : Addr} {o : Obj} {ys : List Value} {ds : List PyData} (x : LstO o ys) (e : h.get? a = some o) (r : RdL h ys ds) : Rd h (.ref a) (.list ds) := by
  obtain ⟨c, n, d⟩ := x
  obtain ⟨as, r⟩ := r
  exact ⟨_, .list e c d (by simpa using r)⟩
theorem rd_tup {h : Heap} {a : Addr} {ys : List Value} {ds : List PyData} (e : h.get? a = some (tup ys)) (r : RdL h ys ds) : Rd h (.ref a) (.tuple ds) := by
  obtain ⟨as, r⟩ := r
  exact ⟨_, .tuple e rfl rfl (by simpa using r)⟩
theorem Rd.list_inv {h : Heap} {v : Value} {ds : List PyData} (x : Rd h v (.list ds)) : ∃ a vs, v = .ref a ∧ h.IsList a vs.toArray ∧ RdL h vs ds := by
  obtain ⟨as, r⟩ := x
  cases r with
  | list h1 h2 h3 h4 => exact ⟨_, _, rfl, ⟨_, h1, h2, _, by rw [h3]⟩, ⟨_, h4⟩⟩
theorem Rd.tuple_inv {h : Heap} {v : Value} {ds : List PyData} (x : Rd h v (.tuple ds)) : ∃ a vs, v = .ref a ∧ IsTup h a vs.toArray ∧ RdL h vs ds := by
  obtain ⟨as, r⟩ := x
  cases r with
  | tuple h1 h2 h3 h4 => exact ⟨_, _, rfl, ⟨_, h1, h2, _, by rw [h3]⟩, ⟨_, h4⟩⟩
theorem Rd.int_inv {h : Heap} {v : Value} {i : Int} (x : Rd h v (.int i)) : ∃ t, v = .int i t := by
  obtain ⟨as, r⟩ := x
  cases r; exact ⟨_, rfl⟩
theorem Rd.bool_inv {h : Heap} {v : Value} {b : Bool} (x : Rd h v (.bool b)) : v = .bool b := by
  obtain ⟨as, r⟩ := x
  cases r; rfl

/-! the frozen part as a heap: what is read off it once holds ever after -/
theorem real {g : Fz} {h : Heap} (S : Sub g h) : ∃ hg : Heap, Sub g hg ∧ ∀ h', Sub g h' → ∀ b o, hg.get? b = some o → h'.get? b = some o := by
  have key : ∀ b o, ({ objs := ((List.range h.objs.size).map fun a => (g a).getD { cls := .none, data := .freed }).toArray } : Heap).get? b = some o ↔ g b = some o := by
    intro b o
    rw [Heap.get?_some_iff]
    constructor
    · rintro ⟨e, nf⟩
      have e' : ((List.range h.objs.size).map fun a => (g a).getD { cls := .none, data := .freed })[b]? = some o := by simpa using e
      rw [List.getElem?_map] at e'
      by_cases hb : b < h.objs.size
      · rw [List.getElem?_range hb] at e'
        cases hg : g b with
        | none => rw [Option.map_some, hg, Option.getD_none] at e'; cases e'; cases nf
        | some o' => rw [Option.map_some, hg, Option.getD_some] at e'; exact e'
      · rw [List.getElem?_eq_none (by simpa using hb)] at e'; cases e'
    · intro e
      have hb := S b o e
      refine ⟨?_, (Heap.get?_some_iff.mp hb).2⟩
      show (((List.range h.objs.size).map fun a => (g a).getD { cls := .none, data := .freed }).toArray)[b]? = some o
      rw [List.getElem?_toArray, List.getElem?_map, List.getElem?_range (Heap.lt_size hb), Option.map_some, e, Option.getD_some]
  exact ⟨_, fun b o e => (key b o).mpr e, fun h' S' b o e => S' b o ((key b o).mp e)⟩
theorem Sx.pin {α : Type} {F : α → Heap → Prop} (X : Sx wr g₀ s₀ env C g m k mu s) (ex : ∀ h, C h → ∃ x, F x h) (mono : ∀ x h h', F x h → (∀ b o, h.get? b = some o → h'.get? b = some o) → F x h') :
    ∃ x, Sx wr g₀ s₀ env (fun h => C h ∧ F x h) g m k mu s := by
  obtain ⟨hg, S, hk⟩ := real X.sub
  obtain ⟨x, hx⟩ := ex hg (X.tx.up hg S)
  exact ⟨x, X.ev, { X.tx with up := fun h S' => ⟨X.tx.up h S', mono x hg h hx (hk h S')⟩ }, X.mw⟩
theorem IsList.keep {h h' : Heap} {a : Addr} {its : Array Value} (x : h.IsList a its) (k : ∀ b o, h.get? b = some o → h'.get? b = some o) : h'.IsList a its := let ⟨o, e, r⟩ := x; ⟨o, k _ _ e, r⟩
theorem Sx.pinTup {v : Value} {ds : List PyData} (X : Sx wr g₀ s₀ env C g m k mu s) (hr : ∀ h, C h → Rd h v (.tuple ds)) :
    ∃ a vs, v = .ref a ∧ Sx wr g₀ s₀ env (fun h => C h ∧ IsTup h a vs.toArray ∧ RdL h vs ds) g m k mu s := by
  obtain ⟨a, -, e, -⟩ := (hr _ X.now).tuple_inv
  obtain ⟨vs, Y⟩ := X.pin (F := fun vs h => IsTup h a (List.toArray vs) ∧ RdL h vs ds) (fun h c => by
    obtain ⟨a', vs, e', h1, h2⟩ := (hr h c).tuple_inv
    rw [e] at e'; cases e'
    exact ⟨vs, h1, h2⟩) fun x h h' y k => ⟨y.1.keeps k, Rd.keepsL k y.2⟩
  exact ⟨a, vs, e, Y⟩
theorem Sx.pinList {v : Value} {ds : List PyData} (X : Sx wr g₀ s₀ env C g m k mu s) (hr : ∀ h, C h → Rd h v (.list ds)) :
    ∃ a vs, v = .ref a ∧ Sx wr g₀ s₀ env (fun h => C h ∧ h.IsList a vs.toArray ∧ RdL h vs ds) g m k mu s := by
  obtain ⟨a, -, e, -⟩ := (hr _ X.now).list_inv
  obtain ⟨vs, Y⟩ := X.pin (F := fun vs h => h.IsList a (List.toArray vs) ∧ RdL h vs ds) (fun h c => by
    obtain ⟨a', vs, e', h1, h2⟩ := (hr h c).list_inv
    rw [e] at e'; cases e'
    exact ⟨vs, h1, h2⟩) fun x h h' y k => ⟨IsList.keep y.1 k, Rd.keepsL k y.2⟩
  exact ⟨a, vs, e, Y⟩
end
end Mine
end
section
open PySem PySem.W PyProof.Rows
namespace Mine
section
variable {prog : Program} {w : World} {M : Model} {A : Around} {E : Value → Shared → Prop}
variable {wr wr' : List Addr} {g₀ g g' : Fz} {s₀ s s' : Shared} {env : Env} {C C' : Heap → Prop} {m k : Str → Option Value} {mu : List (Addr × Obj)}
variable {K : Frag} {mg mb : Str → Option Value}

theorem x_sub {a b : Int} {t u : Tok} {Q : Value → Shared → Prop} (X : Sx wr g₀ s₀ env C g m k mu s) (h : ∀ t s', Sx wr g₀ s₀ env C g m k mu s' → Q (.int (a - b) t) s') :
    wpAny (model prog w) A (binaryOp .Sub (.int a t) (.int b u)) Q E s := sub_int (h _ _ (X.toks _))
theorem x_neg {a : Int} {t : Tok} {Q : Value → Shared → Prop} (X : Sx wr g₀ s₀ env C g m k mu s) (h : ∀ t s', Sx wr g₀ s₀ env C g m k mu s' → Q (.int (-a) t) s') :
    wpAny (model prog w) A (unaryOp .USub (.int a t)) Q E s := neg_int (h _ _ (X.toks _))
theorem x_mul {a b : Int} {t u : Tok} {Q : Value → Shared → Prop} (X : Sx wr g₀ s₀ env C g m k mu s) (hb : IntMulOk a b) (h : ∀ t s', Sx wr g₀ s₀ env C g m k mu s' → Q (.int (a * b) t) s') :
    wpAny (model prog w) A (binaryOp .Mult (.int a t) (.int b u)) Q E s := mul_int (h _ _ (X.toks _)) hb
theorem x_mod {a b : Int} {t u : Tok} {Q : Value → Shared → Prop} (X : Sx wr g₀ s₀ env C g m k mu s) (hb : b ≠ 0) (h : ∀ t s', Sx wr g₀ s₀ env C g m k mu s' → Q (.int (Int.fmod a b) t) s') :
    wpAny (model prog w) A (binaryOp .Mod (.int a t) (.int b u)) Q E s := mod_int' hb (h _ _ (X.toks _))
theorem x_fdiv {a b : Int} {t u : Tok} {Q : Value → Shared → Prop} (X : Sx wr g₀ s₀ env C g m k mu s) (hb : b ≠ 0) (hp : Builtin.divisionGoesByPylong a b = false) (h : ∀ t s', Sx wr g₀ s₀ env C g m k mu s' → Q (.int (Int.fdiv a b) t) s') :
    wpAny (model prog w) A (binaryOp .FloorDiv (.int a t) (.int b u)) Q E s := floordiv_int hb (h _ _ (X.toks _)) (.inl hp)

/-! new objects -/
theorem x_list {vs : List Value} {Q : Value → Shared → Prop} (X : Sx wr g₀ s₀ env C g m k mu s) (hz : vs.length ≤ sizeLine) (h : ∀ a s', s₀.heap.get? a = none → Sx wr g₀ s₀ env C g m k ((a, lst vs 0) :: mu) s' → Q (.ref a) s') :
    wpAny M A (newList vs) Q E s := wpAny_newObj_type (h _ _ X.fresh (X.pushMu _ s.toks)) (by show vs.toArray.size ≤ sizeLine; rw [List.size_toArray]; exact hz)
theorem x_tuple {vs : List Value} {ds : List PyData} {Q : Value → Shared → Prop} (X : Sx wr g₀ s₀ env C g m k mu s) (hz : vs.length ≤ sizeLine) (hd : ∀ h, C h → RdL h vs ds)
    (h : ∀ a g' s', Sx wr g₀ s₀ env (fun h => C h ∧ Rd h (.ref a) (.tuple ds)) g' m k mu s' → Q (.ref a) s') :
    wpAny M A (newTuple vs) Q E s := wpAny_newObj_type (by
      obtain ⟨g', Y⟩ := X.pushFz (tup vs) s.toks
      exact h _ _ _ (Y.weaken fun h e => ⟨e.1, rd_tup e.2 (hd h e.1)⟩)) (by show vs.toArray.size ≤ sizeLine; rw [List.size_toArray]; exact hz)
theorem x_tupleI {vs : List Value} {Q : Value → Shared → Prop} (X : Sx wr g₀ s₀ env C g m k mu s) (hz : vs.length ≤ sizeLine)
    (h : ∀ a g' s', Sx wr g₀ s₀ env (fun h => C h ∧ IsTup h a vs.toArray) g' m k mu s' → Q (.ref a) s') :
    wpAny M A (newTuple vs) Q E s := wpAny_newObj_type (by
      obtain ⟨g', Y⟩ := X.pushFz (tup vs) s.toks
      exact h _ _ _ (Y.weaken fun h e => ⟨e.1, ⟨_, e.2, rfl, _, rfl⟩⟩)) (by show vs.toArray.size ≤ sizeLine; rw [List.size_toArray]; exact hz)

/-! items -/
theorem x_item_list {l : Addr} {vs : List Value} {i : Int} {t : Tok} {v : Value} {value slice : Expr} {Q : Value → Shared → Prop} (hl : s.heap.IsList l vs.toArray) (h0 : 0 ≤ i) (h1 : i < 2 ^ 63) (hx : vs[i.toNat]? = some v) (h : Q v s)
    (hs : subscripted slice false (.ref l) (.int i t) = operate [.ref l, .int i t] (getItem (.ref l) (.int i t)) := by with_unfolding_all rfl) :
    wpAny (model prog w) A (subscriptTail value slice (.ref l) (.int i t)) Q E s :=
  tail_any hl.typeIs slot_list_getitem.lookup (wpAny_getItem_list hl h0 h1 (by simpa using hx) h) hs
theorem seqIdx {i : Int} {n : Nat} (h0 : 0 ≤ i) (h1 : i.toNat < n) : seqIndex? i n = some i.toNat := by
  unfold seqIndex?
  have e : ¬ i < 0 := by omega
  have e2 : i < (n : Int) := by omega
  simp [e, h0, e2]
theorem x_item_tup {l : Addr} {vs : List Value} {i : Int} {t : Tok} {v : Value} {value slice : Expr} {Q : Value → Shared → Prop} (hl : IsTup s.heap l vs.toArray) (h0 : 0 ≤ i) (h1 : i < 2 ^ 63) (hx : vs[i.toNat]? = some v) (h : Q v s)
    (hs : subscripted slice false (.ref l) (.int i t) = operate [.ref l, .int i t] (getItem (.ref l) (.int i t)) := by with_unfolding_all rfl) :
    wpAny (model prog w) A (subscriptTail value slice (.ref l) (.int i t)) Q E s :=
  tail_any hl.typeIs slot_tuple_getitem.lookup (getItem_tuple hl (by omega) h1 (seqIdx h0 (by rw [List.size_toArray]; exact (List.getElem?_eq_some_iff.mp hx).1)) (by simpa using hx) h) hs
theorem x_item_listD {o : Value} {ds : List PyData} {d : PyData} {i : Int} {t : Tok} {value slice : Expr} {Q : Value → Shared → Prop} (r : Rd s.heap o (.list ds)) (h0 : 0 ≤ i) (h1 : i < 2 ^ 63) (hx : ds[i.toNat]? = some d) (h : ∀ v, Rd s.heap v d → Q v s)
    (hs : ∀ l, subscripted slice false (.ref l) (.int i t) = operate [.ref l, .int i t] (getItem (.ref l) (.int i t)) := by intro _; with_unfolding_all rfl) :
    wpAny (model prog w) A (subscriptTail value slice o (.int i t)) Q E s := by
  obtain ⟨a, vs, rfl, hl, rl⟩ := r.list_inv
  obtain ⟨v, hv, rv⟩ := rl.at hx
  exact x_item_list hl h0 h1 hv (h v rv) (hs a)
theorem x_item_tupD {o : Value} {ds : List PyData} {d : PyData} {i : Int} {t : Tok} {value slice : Expr} {Q : Value → Shared → Prop} (r : Rd s.heap o (.tuple ds)) (h0 : 0 ≤ i) (h1 : i < 2 ^ 63) (hx : ds[i.toNat]? = some d) (h : ∀ v, Rd s.heap v d → Q v s)
    (hs : ∀ l, subscripted slice false (.ref l) (.int i t) = operate [.ref l, .int i t] (getItem (.ref l) (.int i t)) := by intro _; with_unfolding_all rfl) :
    wpAny (model prog w) A (subscriptTail value slice o (.int i t)) Q E s := by
  obtain ⟨a, vs, rfl, hl, rl⟩ := r.tuple_inv
  obtain ⟨v, hv, rv⟩ := rl.at hx
  exact x_item_tup hl h0 h1 hv (h v rv) (hs a)

/-! an item set, an item added: the list is the first or the second that may be written -/
theorem x_set_list {l : Addr} {o : Obj} {vs : List Value} {i : Int} {t : Tok} {v : Value} {mu₁ mu₂ : List (Addr × Obj)} {Q : Unit → Shared → Prop} (X : Sx wr g₀ s₀ env C g m k (mu₁ ++ (l, o) :: mu₂) s) (ho : LstO o vs) (h0 : 0 ≤ i) (h1 : i < vs.length) (h2 : i < 2 ^ 63)
    (h : ∀ o' s', LstO o' (vs.set i.toNat v) → Sx wr g₀ s₀ env C g m k (mu₁ ++ (l, o') :: mu₂) s' → Q () s') : wpAny (model prog w) A (setItem (.ref l) (.int i t) v) Q E s := by
  have e := (X.tx.mus (l, o) (by simp)).1
  refine wpAny_setItem_list (ho.isList e) h0 h2 (by rw [List.size_toArray]; exact h1) fun h' hl hs => ?_
  obtain ⟨o', e', c, n, d⟩ := hl
  exact h o' _ ⟨c, n, by rw [d]; simp⟩ (X.setMu (t := s.toks) hs e')
theorem x_append {l : Addr} {n : Nat} {vs : List Value} {v : Value} {mu₁ mu₂ : List (Addr × Obj)} {Q : Value → Shared → Prop} (X : Sx wr g₀ s₀ env C g m k (mu₁ ++ (l, lst vs n) :: mu₂) s) (hz : vs.length ≤ sizeLine)
    (h : ∀ s', Sx wr g₀ s₀ env C g m k (mu₁ ++ (l, lst (vs ++ [v]) (n + 1)) :: mu₂) s' → Q .none s') : wpAny (model prog w) A (call (.builtin "list.append") [.ref l, v]) Q E s := by
  have e := (X.tx.mus (l, lst vs n) (by simp)).1
  refine append_at e (fun h' hs e' => h _ (X.setMu (t := s.toks) hs ?_)) (by rw [List.size_toArray]; exact hz)
  rw [e']
  simp
theorem x_reverse {l : Addr} {n : Nat} {vs : List Value} {mu₁ mu₂ : List (Addr × Obj)} {Q : Value → Shared → Prop} (X : Sx wr g₀ s₀ env C g m k (mu₁ ++ (l, lst vs n) :: mu₂) s) (hz : vs.length ≤ sizeLine)
    (h : ∀ s', Sx wr g₀ s₀ env C g m k (mu₁ ++ (l, lst vs.reverse n) :: mu₂) s' → Q .none s') : wpAny (model prog w) A (call (.builtin "list.reverse") [.ref l]) Q E s := by
  have e := (X.tx.mus (l, lst vs n) (by simp)).1
  refine call_meets PySem.F.slot_list_reverse ⟨_, e, rfl⟩ PySem.F.entry_list_reverse (PySem.F.args_list_reverse_1 _) (PySem.AutoSeq1.list_reverse_list_0 l vs.toArray n (by simpa using hz)) ⟨e, ?_⟩
  refine h _ (X.setMu (t := s.toks) (Heap.SameBut.update ..) ?_)
  rw [Heap.get?_update_self _ e (by rfl)]
  simp [Obj.mapSeq]
end
end Mine
namespace Mine
section
variable {prog : Program} {w : World} {M : Model} {A : Around} {E : Value → Shared → Prop}
variable {wr wr' : List Addr} {g₀ g g' : Fz} {s₀ s s' : Shared} {env : Env} {C C' : Heap → Prop} {m k : Str → Option Value} {mu : List (Addr × Obj)}
variable {K : Frag} {mg mb : Str → Option Value}
theorem strKey {prog : Program} {w : World} {x : Str} {t : Tok} : (PySem.strKind prog w).is x (.str x t) = true := by simp [PySem.strKind, Value.isStrOf]
theorem x_item_dict {d : Addr} {o : Obj} {kvs : List (Str × Value)} {key : Str} {t : Tok} {v : Value} {value slice : Expr} {Q : Value → Shared → Prop} (X : Sx wr g₀ s₀ env C g m k mu s) (hm : (d, o) ∈ mu) (ho : o.IsDictOf (PySem.strKind prog w) kvs)
    (hv : valueAt kvs key = some v) (h : ∀ s', Sx wr g₀ s₀ env C g m k mu s' → Q v s')
    (hs : subscripted slice false (.ref d) (.str key t) = operate [.ref d, .str key t] (getItem (.ref d) (.str key t)) := by with_unfolding_all rfl) :
    wpAny (model prog w) A (subscriptTail value slice (.ref d) (.str key t)) Q E s := by
  have hd : s.heap.DictOf (PySem.strKind prog w) d kvs := Heap.dictOf_iff.mpr ⟨o, (X.tx.mus _ hm).1, ho⟩
  exact tail_any hd.typeIs slot_dict_getitem.lookup (wpAny_getItem_of strKey hd.mapOf hv (h _ (X.toks _))) hs
theorem x_set_dict {d : Addr} {o : Obj} {kvs : List (Str × Value)} {key : Str} {t : Tok} {v : Value} {mu₁ mu₂ : List (Addr × Obj)} {Q : Unit → Shared → Prop} (X : Sx wr g₀ s₀ env C g m k (mu₁ ++ (d, o) :: mu₂) s) (ho : o.IsDictOf (PySem.strKind prog w) kvs)
    (hz : kvs.length ≤ sizeLine) (h : ∀ o' s', o'.IsDictOf (PySem.strKind prog w) (stored kvs key v) → Sx wr g₀ s₀ env C g m k (mu₁ ++ (d, o') :: mu₂) s' → Q () s') :
    wpAny (model prog w) A (setItem (.ref d) (.str key t) v) Q E s := by
  have hd : s.heap.DictOf (PySem.strKind prog w) d kvs := Heap.dictOf_iff.mpr ⟨o, (X.tx.mus (d, o) (by simp)).1, ho⟩
  refine wpAny_setItem_pairs (hsz := hz) strKey hd fun h' hd' hs => ?_
  obtain ⟨o', e', ho'⟩ := Heap.dictOf_iff.mp hd'
  exact h o' _ ho' (X.setMu hs e')
theorem x_unpack {t : Addr} {vs : List Value} {n : Nat} {Q : List Value → Shared → Prop} (X : Sx wr g₀ s₀ env C g m k mu s) (hh : A.handled = none) (ht : IsTup s.heap t vs.toArray) (hn : n = vs.length)
    (h : ∀ s', Sx wr g₀ s₀ env C g m k mu s' → Q vs s') : wpAny (model prog w) A (unpackItems (.ref t) n none) Q E s := by
  have e : n = vs.toArray.size := by rw [List.size_toArray]; exact hn
  rw [e]
  refine unpackItems_tuple hh ht fun h' he => ?_
  have := h _ (X.grow (h' := h') (t := s.toks) fun b o e => he b o (Nat.ne_of_lt (Heap.lt_size e)) e)
  simpa using this
/-- a call of len -/
theorem x_len {l : Addr} {vs : List Value} {Q : Value → Shared → Prop} (X : Sx wr g₀ s₀ env C g m k mu s) (hl : s.heap.IsList l vs.toArray) (hz : vs.length ≤ 1000)
    (h : ∀ t s', Sx wr g₀ s₀ env C g m k mu s' → Q (.int vs.length t) s') : wpAny (model prog w) A (call (.builtin "len") [.ref l]) Q E s := by
  refine kun_lenL hl (k := vs.length) (by rw [List.size_toArray]) (by omega) (h _ _ (X.toks _))
theorem x_item_tupF {o : Value} {ds : List PyData} {d : PyData} {i : Int} {t : Tok} {value slice : Expr} {Q : Value → Shared → Prop} (X : Sx wr g₀ s₀ env C g m k mu s) (hr : ∀ h, C h → Rd h o (.tuple ds)) (h0 : 0 ≤ i) (h1 : i < 2 ^ 63) (hx : ds[i.toNat]? = some d)
    (h : ∀ v, Sx wr g₀ s₀ env (fun h => C h ∧ Rd h v d) g m k mu s → Q v s)
    (hs : ∀ l, subscripted slice false (.ref l) (.int i t) = operate [.ref l, .int i t] (getItem (.ref l) (.int i t)) := by intro _; with_unfolding_all rfl) :
    wpAny (model prog w) A (subscriptTail value slice o (.int i t)) Q E s := by
  obtain ⟨a, vs, rfl, Y⟩ := X.pinTup hr
  obtain ⟨v, hv, -⟩ := Y.now.2.2.at hx
  exact x_item_tup Y.now.2.1 h0 h1 hv (h v (Y.weaken fun h c => ⟨c.1, by obtain ⟨v', hv', r⟩ := c.2.2.at hx; rw [hv] at hv'; cases hv'; exact r⟩)) (hs a)
theorem x_item_listF {o : Value} {ds : List PyData} {d : PyData} {i : Int} {t : Tok} {value slice : Expr} {Q : Value → Shared → Prop} (X : Sx wr g₀ s₀ env C g m k mu s) (hr : ∀ h, C h → Rd h o (.list ds)) (h0 : 0 ≤ i) (h1 : i < 2 ^ 63) (hx : ds[i.toNat]? = some d)
    (h : ∀ v, Sx wr g₀ s₀ env (fun h => C h ∧ Rd h v d) g m k mu s → Q v s)
    (hs : ∀ l, subscripted slice false (.ref l) (.int i t) = operate [.ref l, .int i t] (getItem (.ref l) (.int i t)) := by intro _; with_unfolding_all rfl) :
    wpAny (model prog w) A (subscriptTail value slice o (.int i t)) Q E s := by
  obtain ⟨a, vs, rfl, Y⟩ := X.pinList hr
  obtain ⟨v, hv, -⟩ := Y.now.2.2.at hx
  exact x_item_list Y.now.2.1 h0 h1 hv (h v (Y.weaken fun h c => ⟨c.1, by obtain ⟨v', hv', r⟩ := c.2.2.at hx; rw [hv] at hv'; cases hv'; exact r⟩)) (hs a)
end
end Mine
end
section
open PySem PySem.W PyProof.Rows
namespace Mine

/-- an iterator: n items, the i-th is P i; Pos i: i items are taken; Cit: what it reads -/
structure It (prog : Program) (w : World) (A : Around) (Cit : Heap → Prop) (I : Addr) (n : Nat) (P : Nat → Value → Prop) (Pos : Nat → Heap → Prop) : Prop where
  item : ∀ i (s : Shared) (Q : Option Value → Shared → Prop) (E : Value → Shared → Prop), i < n → Pos i s.heap → Cit s.heap →
    (∀ v h' tk, P i v → Pos (i + 1) h' → (∀ b o, b ≠ I → s.heap.get? b = some o → h'.get? b = some o) → Q (some v) { s with heap := h', toks := tk }) → wpAny (model prog w) A (pyNext (.ref I)) Q E s
  done : ∀ (s : Shared) (Q : Option Value → Shared → Prop) (E : Value → Shared → Prop), Pos n s.heap → Cit s.heap →
    (∀ h' tk, (∀ b o, b ≠ I → s.heap.get? b = some o → h'.get? b = some o) → Q none { s with heap := h', toks := tk }) → wpAny (model prog w) A (pyNext (.ref I)) Q E s
  self : ∀ i (s : Shared) (Q : Value → Shared → Prop) (E : Value → Shared → Prop), Pos i s.heap → Cit s.heap → Q (.ref I) s → wpAny (model prog w) A (pyIter (.ref I)) Q E s
  frame : ∀ i h h', Pos i h → (∀ o, h.get? I = some o → h'.get? I = some o) → Pos i h'
  has : ∀ i h, Pos i h → ∃ o, h.get? I = some o

section
variable {prog : Program} {w : World} {M : Model} {A : Around} {E : Value → Shared → Prop}
variable {wr wr' : List Addr} {g₀ g g' : Fz} {s₀ s s' : Shared} {env : Env} {C C' : Heap → Prop} {m k : Str → Option Value} {mu : List (Addr × Obj)}
variable {K : Frag} {mg mb : Str → Option Value}

theorem kb1 {I : Addr} {h h' : Heap} (hk : ∀ b o, b ∉ [I] → h.get? b = some o → h'.get? b = some o) : ∀ b o, b ≠ I → h.get? b = some o → h'.get? b = some o := fun b o hb e => hk b o (by simpa using hb) e
theorem It.list (hh : A.handled = none) (I l : Addr) (hne : l ≠ I) (items : Array Value) :
    It prog w A (fun h => h.IsList l items) I items.size (fun i v => items[i]? = some v) (fun i h => h.IsListIter I l i) where
  item := fun i s Q E hi p c hQ => (Walks.list hh I l hne items).item i s Q E hi ⟨p, c⟩ fun v h' tk a b d => hQ v h' tk a b.1 (kb1 d)
  done := fun s Q E p c hQ => (Walks.list hh I l hne items).done s Q E ⟨p, c⟩ fun h' tk d => hQ h' tk (kb1 d)
  self := fun i s Q E p c hQ => (Walks.list hh I l hne items).self i s Q E ⟨p, c⟩ hQ
  frame := fun i h h' p k => let ⟨o, e, r⟩ := p; ⟨o, k o e, r⟩
  has := fun i h p => let ⟨o, e, _⟩ := p; ⟨o, e⟩
theorem It.rev (hh : A.handled = none) (I l : Addr) (hne : l ≠ I) (items : Array Value) :
    It prog w A (fun h => h.IsList l items) I items.size (fun i v => items[items.size - 1 - i]? = some v) (fun i h => i ≤ items.size ∧ h.IsRevIter I l ((items.size : Int) - 1 - i)) where
  item := fun i s Q E hi p c hQ => (Walks.listRev hh I l hne items).item i s Q E hi ⟨p.1, p.2, c⟩ fun v h' tk a b d => hQ v h' tk a ⟨b.1, b.2.1⟩ (kb1 d)
  done := fun s Q E p c hQ => (Walks.listRev hh I l hne items).done s Q E ⟨p.1, p.2, c⟩ fun h' tk d => hQ h' tk (kb1 d)
  self := fun i s Q E p c hQ => (Walks.listRev hh I l hne items).self i s Q E ⟨p.1, p.2, c⟩ hQ
  frame := fun i h h' p k => let ⟨q, o, e, r⟩ := p; ⟨q, o, k o e, r⟩
  has := fun i h p => let ⟨_, o, e, _⟩ := p; ⟨o, e⟩
theorem It.tuple (hh : A.handled = none) (I l : Addr) (hne : l ≠ I) (items : Array Value) :
    It prog w A (fun h => h.IsTuple l items) I items.size (fun i v => items[i]? = some v) (fun i h => h.IsTupleIter I l i) where
  item := fun i s Q E hi p c hQ => (Walks.tuple hh I l hne items).item i s Q E hi ⟨p, c⟩ fun v h' tk a b d => hQ v h' tk a b.1 (kb1 d)
  done := fun s Q E p c hQ => (Walks.tuple hh I l hne items).done s Q E ⟨p, c⟩ fun h' tk d => hQ h' tk (kb1 d)
  self := fun i s Q E p c hQ => (Walks.tuple hh I l hne items).self i s Q E ⟨p, c⟩ hQ
  frame := fun i h h' p k => let ⟨o, e, r⟩ := p; ⟨o, k o e, r⟩
  has := fun i h p => let ⟨o, e, _⟩ := p; ⟨o, e⟩
theorem It.range (hh : A.handled = none) (I : Addr) (a : Int) (n : Nat) :
    It prog w A (fun _ => True) I n (fun i v => ∃ t, v = .int (a + (i : Int)) t) (fun i h => IsRangeIter h I (a + (i : Nat) * 1) ((n : Int) - (i : Nat)) 1) where
  item := fun i s Q E hi p c hQ => (Walks.range hh I a 1 n).item i s Q E hi p fun v h' tk q b d => hQ v h' tk (by obtain ⟨t, rfl⟩ := q; exact ⟨t, by rw [Int.mul_one]⟩) b (kb1 d)
  done := fun s Q E p c hQ => (Walks.range hh I a 1 n).done s Q E p fun h' tk d => hQ h' tk (kb1 d)
  self := fun i s Q E p c hQ => (Walks.range hh I a 1 n).self i s Q E p hQ
  frame := fun i h h' p k => k _ p
  has := fun i h p => ⟨_, p⟩

/-! getting an iterator -/
theorem x_iter_list {l : Addr} {items : Array Value} {Q : Value → Shared → Prop} (X : Sx wr g₀ s₀ env C g m k mu s) (hh : A.handled = none) (hl : s.heap.IsList l items)
    (h : ∀ I o s', It prog w A (fun h => h.IsList l items) I items.size (fun i v => items[i]? = some v) (fun i h => h.IsListIter I l i) → s'.heap.IsListIter I l 0 → s₀.heap.get? I = none → Sx wr g₀ s₀ env C g m k ((I, o) :: mu) s' → Q (.ref I) s') :
    wpAny (model prog w) A (pyIter (.ref l)) Q E s := by
  have ne : l ≠ s.heap.objs.size := by obtain ⟨o, e, _⟩ := hl; exact Nat.ne_of_lt (Heap.lt_size e)
  exact wpAny_pyIter_list hl (h _ _ _ (It.list hh _ l ne items) ⟨_, Heap.get?_push_size _ rfl, rfl, rfl⟩ X.fresh (X.pushMu _ s.toks))
theorem x_iter_tup {l : Addr} {items : Array Value} {Q : Value → Shared → Prop} (X : Sx wr g₀ s₀ env C g m k mu s) (hh : A.handled = none) (hl : IsTup s.heap l items)
    (h : ∀ I o s', It prog w A (fun h => h.IsTuple l items) I items.size (fun i v => items[i]? = some v) (fun i h => h.IsTupleIter I l i) → s'.heap.IsTupleIter I l 0 → s₀.heap.get? I = none → Sx wr g₀ s₀ env C g m k ((I, o) :: mu) s' → Q (.ref I) s') :
    wpAny (model prog w) A (pyIter (.ref l)) Q E s := by
  have ne : l ≠ s.heap.objs.size := by obtain ⟨o, e, _⟩ := hl; exact Nat.ne_of_lt (Heap.lt_size e)
  exact wpAny_pyIter_tuple hl (h _ _ _ (It.tuple hh _ l ne items) ⟨_, Heap.get?_push_size _ rfl, rfl, rfl⟩ X.fresh (X.pushMu _ s.toks))
theorem x_iter_range {r : Addr} {a b : Int} {t u v : Tok} {n : Nat} {Q : Value → Shared → Prop} (X : Sx wr g₀ s₀ env C g m k mu s) (hh : A.handled = none) (hr : IsRange s.heap r a b 1 t u v) (hn : Builtin.Range.rangeSize a b 1 = n) (hs : Builtin.Range.small a b 1 = true)
    (h : ∀ I o s', It prog w A (fun _ => True) I n (fun i v => ∃ t, v = .int (a + (i : Int)) t) (fun i h => IsRangeIter h I (a + (i : Nat) * 1) ((n : Int) - (i : Nat)) 1) → IsRangeIter s'.heap I (a + (0 : Nat) * 1) ((n : Int) - (0 : Nat)) 1 → s₀.heap.get? I = none → Sx wr g₀ s₀ env C g m k ((I, o) :: mu) s' → Q (.ref I) s') :
    wpAny (model prog w) A (pyIter (.ref r)) Q E s := by
  refine wpAny_pyIter_range hr hs (h _ _ _ (It.range hh _ a n) ?_ X.fresh (X.pushMu _ s.toks))
  rw [hn]
  simpa [IsRangeIter, rawInt] using Heap.get?_push_size s.heap (o := { cls := Value.type "range_iterator", data := Data.fields #[rawInt a, rawInt n, rawInt 1] }) rfl
/-- range(n) with 0 ≤ n small, range(a, b) -/
def Rng (h : Heap) (r : Addr) (a b : Int) : Prop := ∃ t u v, IsRange h r a b 1 t u v
theorem x_range1 {n : Nat} {t : Tok} {Q : Value → Shared → Prop} (X : Sx wr g₀ s₀ env C g m k mu s)
    (h : ∀ r g' s', Sx wr g₀ s₀ env (fun h => C h ∧ Rng h r 0 n) g' m k mu s' → Q (.ref r) s') : wpAny (model prog w) A (call (.type "range") [.int n t]) Q E s := by
  refine call_range_1 ?_
  obtain ⟨g', Y⟩ := X.pushFz { cls := .type "range", data := .fields #[.int 0 s.toks, .int n t, .int 1 (s.toks + 1)] } (s.toks + 1 + 1)
  exact h _ _ _ (Y.weaken fun h e => ⟨e.1, _, _, _, e.2⟩)
theorem x_range2 {a b : Int} {t u : Tok} {Q : Value → Shared → Prop} (X : Sx wr g₀ s₀ env C g m k mu s)
    (h : ∀ r g' s', Sx wr g₀ s₀ env (fun h => C h ∧ Rng h r a b) g' m k mu s' → Q (.ref r) s') : wpAny (model prog w) A (call (.type "range") [.int a t, .int b u]) Q E s := by
  refine call_range_2 ?_
  obtain ⟨g', Y⟩ := X.pushFz { cls := .type "range", data := .fields #[.int a t, .int b u, .int 1 s.toks] } (s.toks + 1)
  exact h _ _ _ (Y.weaken fun h e => ⟨e.1, _, _, _, e.2⟩)
theorem x_iter_rng {r : Addr} {a b : Int} {n : Nat} {Q : Value → Shared → Prop} (X : Sx wr g₀ s₀ env C g m k mu s) (hh : A.handled = none) (hr : Rng s.heap r a b) (hb : b = a + n ∧ 0 ≤ a ∧ b ≤ 1000)
    (h : ∀ I o s', It prog w A (fun _ => True) I n (fun i v => ∃ t, v = .int (a + (i : Int)) t) (fun i h => IsRangeIter h I (a + (i : Nat) * 1) ((n : Int) - (i : Nat)) 1) → IsRangeIter s'.heap I (a + (0 : Nat) * 1) ((n : Int) - (0 : Nat)) 1 → s₀.heap.get? I = none → Sx wr g₀ s₀ env C g m k ((I, o) :: mu) s' → Q (.ref I) s') :
    wpAny (model prog w) A (pyIter (.ref r)) Q E s := by
  obtain ⟨t, u, v, hr⟩ := hr
  exact x_iter_range X hh hr (by rw [rangeSize_one]; split <;> omega) (small_one (by omega) (by omega) (by omega) (by omega)) h

/-- an object is forgotten, whatever became of it -/
theorem Sx.lose {I : Addr} {o : Obj} {h' : Heap} {t : Nat} (X : Sx wr g₀ s₀ env C g m k ((I, o) :: mu) s) (hI : s₀.heap.get? I = none) (hk : ∀ b o, b ≠ I → s.heap.get? b = some o → h'.get? b = some o) :
    Sx wr g₀ s₀ env C g m k mu { s with heap := h', toks := t } := by
  obtain ⟨-, gI, IL, Ic⟩ := X.tx.mus (I, o) List.mem_cons_self
  have Y := X.drop1
  have Inm : ∀ p ∈ mu, p.1 ≠ I := fun p hp q => by
    have := X.tx.nd
    rw [List.map_cons, List.nodup_cons] at this
    exact this.1 (List.mem_map.mpr ⟨p, hp, q⟩)
  have sub : Sub g h' := fun b o' e => hk b o' (fun q => by rw [q, gI] at e; cases e) (X.sub b o' e)
  have ne : ∀ {b : Addr} {o' : Obj}, s₀.heap.get? b = some o' → b ≠ I := fun e q => by rw [q, hI] at e; cases e
  obtain ⟨⟨h₁, t₁, rfl⟩, a1, a2, a3, a4, a5⟩ := Y.ev
  refine ⟨⟨⟨_, _, rfl⟩, a1, sub, a3, fun b o' hb e => hk b o' (ne e) (a4 b o' hb e), fun b o' e => ?_⟩, ⟨sub, Y.tx.up, ?_, Y.tx.hid, fun x c hc => ?_, Y.tx.capart, fun p hp => ?_, Y.tx.nd⟩, Y.mw⟩
  · obtain ⟨o'', e''⟩ := a5 b o' e
    exact ⟨o'', hk b o'' (ne e) e''⟩
  · obtain ⟨oL, es, ep, ho, r⟩ := Y.tx.ns
    exact ⟨oL, es, ep, hk _ _ (Ne.symm IL) ho, r⟩
  · obtain ⟨⟨o', ho, hd⟩, hg⟩ := Y.tx.cell x c hc
    exact ⟨⟨o', hk _ _ (Ne.symm (Ic x c hc)) ho, hd⟩, hg⟩
  · obtain ⟨h1, h2, h3⟩ := Y.tx.mus p hp
    exact ⟨hk _ _ (Inm p hp) h1, h2, h3⟩

theorem cells_ok {fd : FuncData} {L a : Addr} (h : decide ((cellsFrom 0 fd.scope.names []).map (·.1)).Nodup = true) : ∀ x ∈ (callEnvC fd L a).cells, (callEnvC fd L a).cells.lookup x.1 = some x.2 := fun x hx =>
  lookup_of_mem_nodup (by
    have := of_decide_eq_true h
    rw [cellsFrom_names fd.scope.names 0 (L + 1) [] [] rfl] at this
    exact this) hx
/-! the loop -/
def frameAddrs (env : Env) : List Addr := env.locals :: env.cells.map (·.2)
theorem mem_cells {x : Str} {c : Addr} (h : env.cells.lookup x = some c) : c ∈ env.cells.map (·.2) := List.mem_map.mpr ⟨_, mem_of_lookup h, rfl⟩
theorem fw_loop {adr : List Addr} : Fw (frameAddrs env ++ adr) s env := ⟨.inl (by simp [frameAddrs]), fun x c h => .inl (List.mem_append_left _ (List.mem_cons_of_mem _ (mem_cells h)))⟩

/-- what a turn comes to -/
def TurnPost (wb : List Addr) (g₁ : Fz) (s₁ : Shared) (env : Env) (C : Heap → Prop) (adr : List Addr) (J : (Str → Option Value) → (Str → Option Value) → List (Addr × Obj) → (Heap → Prop) → Prop)
    (JR : Value → (Str → Option Value) → (Str → Option Value) → List (Addr × Obj) → (Heap → Prop) → Prop) (f : Flow) (s₃ : Shared) : Prop :=
  match f with
  | .next | .cont => ∃ g₃ m₃ k₃ mu₃ F₃, Sx wb g₁ s₁ env (fun h => C h ∧ F₃ h) g₃ m₃ k₃ mu₃ s₃ ∧ J m₃ k₃ mu₃ F₃ ∧ mu₃.map (·.1) = adr
  | .ret v => ∃ g₃ m₃ k₃ mu₃ F₃, Sx wb g₁ s₁ env (fun h => C h ∧ F₃ h) g₃ m₃ k₃ mu₃ s₃ ∧ JR v m₃ k₃ mu₃ F₃ ∧ mu₃.map (·.1) = adr
  | .brk => False

theorem x_loop {I : Addr} {oI : Obj} {n : Nat} {P : Nat → Value → Prop} {Pos : Nat → Heap → Prop} {Cit : Heap → Prop} {target : Expr} {body : List Stmt} {R : Flow → Shared → Prop} {F₀ : Heap → Prop}
    (J : Nat → (Str → Option Value) → (Str → Option Value) → List (Addr × Obj) → (Heap → Prop) → Prop)
    (JR : Value → (Str → Option Value) → (Str → Option Value) → List (Addr × Obj) → (Heap → Prop) → Prop)
    (X : Sx wr g₀ s₀ env C g m k ((I, oI) :: mu) s) (hI0 : s₀.heap.get? I = none) (W : Fw wr s₀ env) (it : It prog w A Cit I n P Pos) (p0 : Pos 0 s.heap) (hC : ∀ h, C h → Cit h) (hF : ∀ h, C h → F₀ h) (h0 : J 0 m k mu F₀)
    (hcl : ∀ x ∈ env.cells, env.cells.lookup x.1 = some x.2)
    (turn : ∀ i v m₁ k₁ mu₁ F₁ g₁ s₁, i < n → P i v → J i m₁ k₁ mu₁ F₁ → mu₁.map (·.1) = mu.map (·.1) → Sx (frameAddrs env ++ mu.map (·.1)) g₁ s₁ env (fun h => C h ∧ F₁ h) g₁ m₁ k₁ mu₁ s₁ →
      wpAny (model prog w) A (assign target env v) (fun _ s₂ => wpAny (model prog w) A (execs body env) (TurnPost (frameAddrs env ++ mu.map (·.1)) g₁ s₁ env C (mu.map (·.1)) (J (i + 1)) JR) NE s₂) NE s₁)
    (done : ∀ m' k' mu' F' g' s', J n m' k' mu' F' → mu'.map (·.1) = mu.map (·.1) → Sx wr g₀ s₀ env (fun h => C h ∧ F' h) g' m' k' mu' s' → R .next s')
    (ret : ∀ v m' k' mu' F' g' s', JR v m' k' mu' F' → mu'.map (·.1) = mu.map (·.1) → Sx wr g₀ s₀ env (fun h => C h ∧ F' h) g' m' k' mu' s' → R (.ret v) s')
    (ht : ∀ v, letOwnedTupleGo target (.ref I) v = pure () := by intro _; rfl) :
    codeAny (model prog w) A (.forLoop target (.ref I) body [] env) (fun r s' => match r with | .ok f => R f s' | .error e => cameBackBy (model prog w) A env E e s') s := by
  obtain ⟨-, -, IL, Ic⟩ := X.tx.mus (I, oI) List.mem_cons_self
  have Inm : I ∉ mu.map (·.1) := by have := X.tx.nd; rw [List.map_cons, List.nodup_cons] at this; exact this.1
  have Iw := X.mw (I, oI) List.mem_cons_self
  have muw : ∀ a ∈ mu.map (·.1), a ∈ wr ∨ s₀.heap.get? a = none := fun a ha => by
    obtain ⟨p, hp, rfl⟩ := List.mem_map.mp ha
    exact X.mw p (List.mem_cons_of_mem _ hp)
  have Inb : I ∉ frameAddrs env ++ mu.map (·.1) := fun hm => by
    rcases List.mem_append.mp hm with h | h
    · rcases List.mem_cons.mp h with h | h
      · exact IL h
      · obtain ⟨x, hx, e⟩ := List.mem_map.mp h
        exact Ic x.1 x.2 (hcl x hx) e.symm
    · exact Inm h
  have hwb : ∀ b ∈ frameAddrs env ++ mu.map (·.1), b ∈ wr ∨ s₀.heap.get? b = none := fun b hb => by
    rcases List.mem_append.mp hb with h | h
    · rcases List.mem_cons.mp h with h | h
      · rw [h]; exact W.loc
      · obtain ⟨x, hx, e⟩ := List.mem_map.mp h
        exact W.cel x.1 b (e ▸ hcl x hx)
    · exact muw b h
  -- a turn's state from the whole, and back
  have split : ∀ {m₁ k₁ : Str → Option Value} {mu₁ : List (Addr × Obj)} {C₁ : Heap → Prop} {g₁ : Fz} {s₁ : Shared} {o₁ : Obj} {h' : Heap} {tk : Nat}, Sx wr g₀ s₀ env C₁ g₁ m₁ k₁ ((I, o₁) :: mu₁) s₁ → (∀ b o, b ≠ I → s₁.heap.get? b = some o → h'.get? b = some o) →
      (∃ o', h'.get? I = some o') → mu₁.map (·.1) = mu.map (·.1) → ∃ o', Sx wr g₀ s₀ env C₁ g₁ m₁ k₁ ((I, o') :: mu₁) { s₁ with heap := h', toks := tk } := by
    intro m₁ k₁ mu₁ C₁ g₁ s₁ o₁ h' tk X₁ hk ⟨o', ho'⟩ hmu
    obtain ⟨-, gI, -, -⟩ := X₁.tx.mus (I, o₁) List.mem_cons_self
    have e : Ev [I] g₁ s₁ g₁ { s₁ with heap := h', toks := tk } := ⟨⟨_, _, rfl⟩, Le.refl _, fun b o eb => hk b o (fun q => by rw [q, gI] at eb; cases eb) (X₁.sub b o eb), fun _ _ _ q => q, fun b o hb eb => hk b o (by simpa using hb) eb, fun b o eb => by
      by_cases q : b = I
      · exact ⟨o', q ▸ ho'⟩
      · exact ⟨o, hk b o q eb⟩⟩
    have Y : Tx env C₁ g₁ m₁ k₁ mu₁ { s₁ with heap := h', toks := tk } := X₁.drop1.tx.keep e (by simpa using Ne.symm IL) (fun x c hc => by simpa using Ne.symm (Ic x c hc)) fun p hp q => Inm (by
      have : p.1 = I := by simpa using q
      rw [← hmu, ← this]; exact List.mem_map_of_mem hp)
    refine ⟨o', X₁.ev.trans e (fun b hb => by rw [List.mem_singleton.mp hb]; exact Iw), { Y with mus := fun p hp => ?_, nd := X₁.tx.nd }, fun p hp => ?_⟩
    · rcases List.mem_cons.mp hp with rfl | hp
      · exact ⟨ho', gI, IL, Ic⟩
      · exact Y.mus p hp
    · rcases List.mem_cons.mp hp with rfl | hp
      · exact Iw
      · exact X₁.mw p (List.mem_cons_of_mem _ hp)
  have join : ∀ {m₁ k₁ m₃ k₃ : Str → Option Value} {mu₁ mu₃ : List (Addr × Obj)} {C₁ C₃ : Heap → Prop} {g₁ g₃ : Fz} {s₁ s₃ : Shared} {o₁ : Obj}, Sx wr g₀ s₀ env C₁ g₁ m₁ k₁ ((I, o₁) :: mu₁) s₁ → Sx (frameAddrs env ++ mu.map (·.1)) g₁ s₁ env C₃ g₃ m₃ k₃ mu₃ s₃ → mu₃.map (·.1) = mu.map (·.1) →
      Sx wr g₀ s₀ env C₃ g₃ m₃ k₃ ((I, o₁) :: mu₃) s₃ ∧ s₃.heap.get? I = s₁.heap.get? I := by
    intro m₁ k₁ m₃ k₃ mu₁ mu₃ C₁ C₃ g₁ g₃ s₁ s₃ o₁ X₁ Y hmu
    obtain ⟨hI, gI, -, -⟩ := X₁.tx.mus (I, o₁) List.mem_cons_self
    have hI3 := Y.ev.keep I o₁ Inb hI
    refine ⟨⟨X₁.ev.trans Y.ev hwb, { Y.tx with mus := fun p hp => ?_, nd := ?_ }, fun p hp => ?_⟩, hI3.trans hI.symm⟩
    · rcases List.mem_cons.mp hp with rfl | hp
      · exact ⟨hI3, Y.ev.hid I o₁ hI gI, IL, Ic⟩
      · exact Y.tx.mus p hp
    · rw [List.map_cons, List.nodup_cons, hmu]
      exact ⟨Inm, hmu ▸ Y.tx.nd⟩
    · rcases List.mem_cons.mp hp with rfl | hp
      · exact Iw
      · exact muw _ (hmu ▸ List.mem_map_of_mem hp)
  refine codeAny_forLoop (fun q s' => ∃ i m₁ k₁ mu₁ F₁ g₁ o₁, q = n + 1 - i ∧ i ≤ n ∧ J i m₁ k₁ mu₁ F₁ ∧ mu₁.map (·.1) = mu.map (·.1) ∧ Pos i s'.heap ∧ Sx wr g₀ s₀ env (fun h => C h ∧ F₁ h) g₁ m₁ k₁ ((I, o₁) :: mu₁) s') ?_ (n + 1)
    ⟨0, m, k, mu, F₀, g, oI, rfl, Nat.zero_le _, h0, rfl, p0, X.weaken fun h c => ⟨c, hF h c⟩⟩ ht
  rintro q s' ⟨i, m₁, k₁, mu₁, F₁, g₁, o₁, rfl, hi, hJ, hmu, hp, X₁⟩
  by_cases hlt : i < n
  · refine it.item i s' _ _ hlt hp (hC _ X₁.now.1) fun v h' tk hv hp' hk => ?_
    obtain ⟨o', X₂⟩ := split (tk := tk) X₁ hk (it.has _ _ hp') hmu
    refine wpAny_mono (turn i v m₁ k₁ mu₁ F₁ g₁ _ hlt hv hJ hmu (X₂.drop1.tx.start fun p hp => List.mem_append_right _ (hmu ▸ List.mem_map_of_mem hp))) (fun _ s₂ h₂ => ?_) fun _ _ e => e.elim
    refine wpAny_mono h₂ (fun f s₃ h₃ => ?_) fun _ _ e => e.elim
    have fin : ∀ {s₃ : Shared}, (∃ g₃ m₃ k₃ mu₃ F₃, Sx (frameAddrs env ++ mu.map (·.1)) g₁ { s' with heap := h', toks := tk } env (fun h => C h ∧ F₃ h) g₃ m₃ k₃ mu₃ s₃ ∧ J (i + 1) m₃ k₃ mu₃ F₃ ∧ mu₃.map (·.1) = mu.map (·.1)) →
        ∃ m, m < n + 1 - i ∧ ∃ i m₁ k₁ mu₁ F₁ g₁ o₁, m = n + 1 - i ∧ i ≤ n ∧ J i m₁ k₁ mu₁ F₁ ∧ mu₁.map (·.1) = mu.map (·.1) ∧ Pos i s₃.heap ∧ Sx wr g₀ s₀ env (fun h => C h ∧ F₁ h) g₁ m₁ k₁ ((I, o₁) :: mu₁) s₃ := by
      rintro s₃ ⟨g₃, m₃, k₃, mu₃, F₃, Y, hJ', hmu'⟩
      obtain ⟨Z, eI⟩ := join X₂ Y hmu'
      exact ⟨n + 1 - (i + 1), by omega, i + 1, m₃, k₃, mu₃, F₃, g₃, o', rfl, hlt, hJ', hmu', it.frame _ _ _ hp' fun o e => eI.trans e, Z⟩
    cases f with
    | next => exact fin h₃
    | cont => exact fin h₃
    | brk => exact h₃.elim
    | ret v =>
      obtain ⟨g₃, m₃, k₃, mu₃, F₃, Y, hJ', hmu'⟩ := h₃
      exact ret v _ _ _ _ _ _ hJ' hmu' (join X₂ Y hmu').1.drop1
  · obtain rfl : i = n := Nat.le_antisymm hi (Nat.not_lt.mp hlt)
    refine it.done s' _ _ hp (hC _ X₁.now.1) fun h' tk hk => ?_
    refine wpAny_execs_nil ?_
    exact done _ _ _ _ _ _ hJ hmu (X₁.lose hI0 hk)
end
end Mine
end
section
open PySem PySem.W PyProof.Rows
namespace Mine
section
variable {prog : Program} {w : World} {M : Model} {A : Around} {E : Value → Shared → Prop}
variable {wr wr' : List Addr} {g₀ g g' : Fz} {s₀ s s' : Shared} {env : Env} {C C' : Heap → Prop} {m k : Str → Option Value} {mu : List (Addr × Obj)}

/-- the object at a turned, all others are kept -/
theorem Sx.setAny {a : Addr} {o o' : Obj} {mu₁ mu₂ : List (Addr × Obj)} {h' : Heap} {t : Nat} (X : Sx wr g₀ s₀ env C g m k (mu₁ ++ (a, o) :: mu₂) s) (hk : ∀ b o, b ≠ a → s.heap.get? b = some o → h'.get? b = some o) (ho : h'.get? a = some o') :
    Sx wr g₀ s₀ env C g m k (mu₁ ++ (a, o') :: mu₂) { s with heap := h', toks := t } := by
  have hw : a ∈ wr ∨ s₀.heap.get? a = none := X.mw (a, o) (by simp)
  obtain ⟨-, ga, aL, ac⟩ := X.tx.mus (a, o) (by simp)
  have e : Ev [a] g s g { s with heap := h', toks := t } := ⟨⟨_, _, rfl⟩, Le.refl _, fun b o eb => hk b o (fun q => by rw [q, ga] at eb; cases eb) (X.sub b o eb), fun _ _ _ q => q, fun b o hb eb => hk b o (by simpa using hb) eb, fun b o eb => by
    by_cases q : b = a
    · exact ⟨o', q ▸ ho⟩
    · exact ⟨o, hk b o q eb⟩⟩
  have nd := X.tx.nd
  rw [List.map_append, List.map_cons, List.nodup_append] at nd
  obtain ⟨n1, n2, n3⟩ := nd
  rw [List.nodup_cons] at n2
  have Y : Tx env C g m k (mu₁ ++ mu₂) { s with heap := h', toks := t } := X.drop.tx.keep e (by simpa using Ne.symm aL) (fun x c hc => by simpa using Ne.symm (ac x c hc)) fun p hp => by
    simp only [List.mem_singleton]
    intro q
    rcases List.mem_append.mp hp with h | h
    · exact n3 _ (List.mem_map_of_mem h) _ List.mem_cons_self q
    · exact n2.1 (List.mem_map.mpr ⟨p, h, q⟩)
  refine ⟨X.ev.trans e (fun b hb => by rw [List.mem_singleton.mp hb]; exact hw), { Y with mus := fun p hp => ?_, nd := ?_ }, fun p hp => ?_⟩
  · rcases List.mem_append.mp hp with h | h
    · exact Y.mus p (List.mem_append_left _ h)
    · rcases List.mem_cons.mp h with rfl | h
      · exact ⟨ho, ga, aL, ac⟩
      · exact Y.mus p (List.mem_append_right _ h)
  · have := X.tx.nd
    rwa [List.map_append, List.map_cons] at this ⊢
  · rcases List.mem_append.mp hp with h | h
    · exact X.mw p (List.mem_append_left _ h)
    · rcases List.mem_cons.mp h with rfl | h
      · exact hw
      · exact X.mw p (List.mem_append_right _ (List.mem_cons_of_mem _ h))
theorem Sx.perm {mu' : List (Addr × Obj)} (X : Sx wr g₀ s₀ env C g m k mu s) (p : mu.Perm mu') : Sx wr g₀ s₀ env C g m k mu' s :=
  ⟨X.ev, { X.tx with mus := fun q hq => X.tx.mus q (p.mem_iff.mpr hq), nd := ((p.map (·.1)).nodup_iff).mp X.tx.nd }, fun q hq => X.mw q (p.mem_iff.mpr hq)⟩

/-- into a comprehension's own names, and back -/
theorem Sx.into {scope : Scope} {cl : List (Str × Addr)} {L₁ : Addr} {oL : Obj} {mL : Str → Option Value} {ex : List (Addr × Obj)} (X : Sx wr g₀ s₀ env C g m k ((L₁, oL) :: (ex ++ mu)) s) (hn : s.heap.Ns L₁ mL)
    (hcl : ∀ y c, cl.lookup y = some c → env.cells.lookup y = some c) : Sx (L₁ :: mu.map (·.1)) g s (compEnvC scope cl L₁ env) C g mL k mu s := by
  obtain ⟨-, gL, -, Lc⟩ := X.tx.mus (L₁, oL) List.mem_cons_self
  have nd := X.tx.nd
  rw [List.map_cons, List.nodup_cons, List.map_append] at nd
  refine Tx.start ⟨X.sub, X.tx.up, hn, gL, fun y c hc => X.tx.cell y c (hcl y c hc), fun y z c h1 h2 => X.tx.capart y z c (hcl _ _ h1) (hcl _ _ h2), fun p hp => ?_, (List.nodup_append.mp nd.2).2.1⟩ fun p hp => List.mem_cons_of_mem _ (List.mem_map_of_mem hp)
  obtain ⟨h1, h2, -, h4⟩ := X.tx.mus p (List.mem_cons_of_mem _ (List.mem_append_right _ hp))
  exact ⟨h1, h2, fun q => nd.1 (List.mem_append_right _ (List.mem_map.mpr ⟨p, hp, q⟩)), fun y c hc => h4 y c (hcl y c hc)⟩
theorem Sx.outof {scope : Scope} {cl : List (Str × Addr)} {L₁ : Addr} {oL : Obj} {mL : Str → Option Value} {ex mu₃ : List (Addr × Obj)} {C₃ : Heap → Prop} {g₃ : Fz} {s₃ : Shared} (X : Sx wr g₀ s₀ env C g m k ((L₁, oL) :: (ex ++ mu)) s)
    (Y : Sx (L₁ :: mu.map (·.1)) g s (compEnvC scope cl L₁ env) C₃ g₃ mL k mu₃ s₃) (hmu : mu₃.map (·.1) = mu.map (·.1)) :
    ∃ oL', Sx wr g₀ s₀ env C₃ g₃ m k ((L₁, oL') :: (ex ++ mu₃)) s₃ ∧ s₃.heap.Ns L₁ mL := by
  have nd := X.tx.nd
  rw [List.map_cons, List.nodup_cons, List.map_append] at nd
  obtain ⟨n1, n2⟩ := nd
  obtain ⟨n3, n4, n5⟩ := List.nodup_append.mp n2
  obtain ⟨-, gL, LL, Lc⟩ := X.tx.mus (L₁, oL) List.mem_cons_self
  have hns : s₃.heap.Ns L₁ mL := Y.tx.ns
  obtain ⟨oL', es, ep, hoL, hd, hr⟩ := id hns
  -- what the step does not write
  have off : ∀ b, b ≠ L₁ → b ∉ mu.map (·.1) → b ∉ L₁ :: mu.map (·.1) := fun b h1 h2 hm => by
    rcases List.mem_cons.mp hm with h | h
    · exact h1 h
    · exact h2 h
  have Loff : env.locals ∉ L₁ :: mu.map (·.1) := off _ (Ne.symm LL) fun hm => by
    obtain ⟨p, hp, q⟩ := List.mem_map.mp hm
    exact (X.tx.mus p (List.mem_cons_of_mem _ (List.mem_append_right _ hp))).2.2.1 q
  have Coff : ∀ x c, env.cells.lookup x = some c → c ∉ L₁ :: mu.map (·.1) := fun x c hc => off _ (Ne.symm (Lc x c hc)) fun hm => by
    obtain ⟨p, hp, q⟩ := List.mem_map.mp hm
    exact (X.tx.mus p (List.mem_cons_of_mem _ (List.mem_append_right _ hp))).2.2.2 x c hc q
  have wri : ∀ b ∈ L₁ :: mu.map (·.1), b ∈ wr ∨ s₀.heap.get? b = none := fun b hb => by
    rcases List.mem_cons.mp hb with h | h
    · rw [h]; exact X.mw (L₁, oL) List.mem_cons_self
    · obtain ⟨p, hp, q⟩ := List.mem_map.mp h
      exact q ▸ X.mw p (List.mem_cons_of_mem _ (List.mem_append_right _ hp))
  have Zx : Tx env C g m k ex s := { X.tx with mus := fun p hp => X.tx.mus p (List.mem_cons_of_mem _ (List.mem_append_left _ hp)), nd := n3 }
  have Z : Tx env C g₃ m k ex s₃ := Zx.keep Y.ev Loff Coff fun p hp => off _ (fun q => n1 (List.mem_append_left _ (List.mem_map.mpr ⟨p, hp, q⟩))) fun hm => n5 _ (List.mem_map_of_mem hp) _ hm rfl
  refine ⟨oL', ⟨X.ev.trans Y.ev wri, { Z with up := Y.tx.up, mus := fun p hp => ?_, nd := ?_ }, fun p hp => ?_⟩, hns⟩
  · rcases List.mem_cons.mp hp with rfl | hp
    · exact ⟨hoL, Y.tx.hid, LL, Lc⟩
    · rcases List.mem_append.mp hp with hp | hp
      · exact Z.mus p hp
      · have hm : p.1 ∈ mu.map (·.1) := hmu ▸ List.mem_map_of_mem hp
        obtain ⟨q, hq, e⟩ := List.mem_map.mp hm
        obtain ⟨-, -, a3, a4⟩ := X.tx.mus q (List.mem_cons_of_mem _ (List.mem_append_right _ hq))
        obtain ⟨b1, b2, -, -⟩ := Y.tx.mus p hp
        exact ⟨b1, b2, e ▸ a3, fun x c hc => e ▸ a4 x c hc⟩
  · rw [List.map_cons, List.map_append, hmu, List.nodup_cons]
    exact ⟨n1, n2⟩
  · rcases List.mem_cons.mp hp with rfl | hp
    · exact X.mw (L₁, oL) List.mem_cons_self
    · rcases List.mem_append.mp hp with hp | hp
      · exact X.mw p (List.mem_cons_of_mem _ (List.mem_append_left _ hp))
      · exact wri _ (List.mem_cons_of_mem _ (hmu ▸ List.mem_map_of_mem hp))

inductive ClOk (env : Env) : List (Str × Addr) → Prop
  | nil : ClOk env []
  | cons {y : Str} {c : Addr} {r : List (Str × Addr)} (h : env.cells.lookup y = some c) (t : ClOk env r) : ClOk env ((y, c) :: r)
theorem ClOk.mem {cl : List (Str × Addr)} (x : ClOk env cl) : ∀ p ∈ cl, env.cells.lookup p.1 = some p.2 := by
  induction x with
  | nil => intro p hp; cases hp
  | cons h _ ih => intro p hp; rcases List.mem_cons.mp hp with rfl | hp; exact h; exact ih p hp
theorem ClOk.look {cl : List (Str × Addr)} (x : ClOk env cl) : ∀ y c, cl.lookup y = some c → env.cells.lookup y = some c := fun _ _ h => x.mem _ (mem_of_lookup h)

/-- what is left of a comprehension when its first iterator stands -/
def CompGoal (prog : Program) (w : World) (A : Around) (env : Env) (e : Expr) (scope : Scope) (cl : List (Str × Addr)) (use : Option (Value → Sem Unit)) (Q : Value → Shared → Prop) (itv : Value) (s₂ : Shared) : Prop :=
  wpAny (model prog w) A (newList []) (fun acc s₃ => wpAny (model prog w) A (newFunctionEnv scope env.globals cl [] env.qual none .none (some env)) (fun cenv s₄ =>
    codeAny (model prog w) A (.compStart e 0 itv acc { cenv with scope := relabel scope env }) (compPost (model prog w) A NE use Q acc cenv.locals) s₄) NE s₃) NE s₂

theorem x_comp {elt iter : Expr} {x : Str} {px : Pos} {ifs : List Expr} {gs : List Comprehension} {scope : Scope} {cl : List (Str × Addr)} {pos : Pos} {Q : Value → Shared → Prop} (hclos : closureFor scope env = pure cl)
    (h : wpAny (model prog w) A (eval iter env) (fun xv s₁ => wpAny (model prog w) A (pyIter xv) (CompGoal prog w A env (.ListComp elt (⟨.Name x px, iter, ifs, 0⟩ :: gs) scope pos) scope cl none Q) NE s₁) NE s)
    (hkind : scope.kind = .function := by kernel_rfl!) (hnames : ∀ y ∈ scope.names, y.2 = .local → scope.names.lookup y.1 = some .local := by decide +kernel) (hs : ∀ x, foldedSetIterable iter env x = pure x := by intro _; rfl) :
    wpAny (model prog w) A (eval (.ListComp elt (⟨.Name x px, iter, ifs, 0⟩ :: gs) scope pos) env) Q NE s := by
  rw [eval_ListComp]
  exact wpAny_comprehension_free (use := none) rfl hs hclos hkind hnames h

/-- a new list, new names: the loop may begin -/
theorem comp_open {e : Expr} {scope : Scope} {cl : List (Str × Addr)} {use : Option (Value → Sem Unit)} {Q : Value → Shared → Prop} {I : Addr} (X : Sx wr g₀ s₀ env C g m k mu s)
    (hcell : ∀ y ∈ scope.names, y.2 ≠ .cell) (hkind : scope.kind = .function)
    (h : ∀ D L₁ oL s', s₀.heap.get? L₁ = none → s₀.heap.get? D = none → s'.heap.Ns L₁ (fun _ => none) → Sx wr g₀ s₀ env C g m k ((L₁, oL) :: (D, lst [] 0) :: mu) s' →
      codeAny (model prog w) A (.compStart e 0 (.ref I) (.ref D) (compEnvC scope cl L₁ env)) (compPost (model prog w) A NE use Q (.ref D) L₁) s') :
    CompGoal prog w A env e scope cl use Q (.ref I) s := by
  unfold CompGoal
  refine wpAny_newObj_type ?_ (by simp [sizeOk])
  have X₃ := X.pushMu (lst [] 0) s.toks
  have fD := X.fresh
  have key : ∀ s₃ D, Sx wr g₀ s₀ env C g m k ((D, lst [] 0) :: mu) s₃ → s₀.heap.get? D = none → wpAny (model prog w) A (newFunctionEnv scope env.globals cl [] env.qual none .none (some env)) (fun cenv s₄ =>
      codeAny (model prog w) A (.compStart e 0 (.ref I) (.ref D) { cenv with scope := relabel scope env }) (compPost (model prog w) A NE use Q (.ref D) cenv.locals) s₄) NE s₃ := by
    intro s₃ D X₃ fD
    refine wpAny_newFunctionEnv hcell (by intro y hy; simp at hy) (fun h₁ hns₁ hsb₁ => ?_) hkind
    have fL := X₃.fresh
    have X₄ := X₃.pushMu { cls := .type "dict", data := .dict #[] } s₃.toks
    obtain ⟨oL, es, ep, hoL, hd, hr⟩ := id hns₁
    have X₅ := X₄.setAny (mu₁ := []) (h' := h₁) (o' := oL) (t := s₃.toks + 0) (fun b o hb eb => (hsb₁.2 b hb).trans eb) hoL
    exact h D _ oL _ fL fD hns₁ X₅
  exact key _ _ X₃ fD

theorem tests_eq {ifs : List Expr} {cenv : Env} {Q : Bool → Shared → Prop} {t : Sem Bool} (h : wpAny (model prog w) A t Q E s)
    (he : t = (forIn ifs true fun c r => if r = true then do let ok ← isTrue c cenv (eval c cenv); pure (ForInStep.yield ok) else pure (ForInStep.yield r))) :
    wpAny (model prog w) A (forIn ifs true fun c r => if r = true then do let ok ← isTrue c cenv (eval c cenv); pure (ForInStep.yield ok) else pure (ForInStep.yield r)) Q E s := he ▸ h

/-- a comprehension with one for -/
theorem comp_run {elt iter : Expr} {x : Str} {px : Pos} {ifs : List Expr} {scope : Scope} {cl : List (Str × Addr)} {pos : Pos} {use : Option (Value → Sem Unit)} {Q : Value → Shared → Prop} {I : Addr} {oI : Obj} {n : Nat} {P : Nat → Value → Prop} {Pos : Nat → Heap → Prop} {Cit : Heap → Prop}
    (F : Nat → List Value → List (Addr × Obj) → Heap → Prop) (X : Sx wr g₀ s₀ env C g m k ((I, oI) :: mu) s) (hI0 : s₀.heap.get? I = none) (it : It prog w A Cit I n P Pos) (p0 : Pos 0 s.heap) (hC : ∀ h, C h → Cit h)
    (hcl : ClOk env cl) (hF0 : ∀ h, C h → F 0 [] mu h) (hn : n ≤ 10000)
    (step : ∀ i v ys mu₁ g₁ s₁ L₁ m₁, i < n → ys.length ≤ i → P i v → mu₁.map (·.1) = mu.map (·.1) → m₁ x = some v → Sx (L₁ :: mu.map (·.1)) g₁ s₁ (compEnvC scope cl L₁ env) (fun h => C h ∧ F i ys mu₁ h) g₁ m₁ k mu₁ s₁ →
      wpAny (model prog w) A (forIn ifs true fun c r => if r = true then do let ok ← isTrue c (compEnvC scope cl L₁ env) (eval c (compEnvC scope cl L₁ env)); pure (ForInStep.yield ok) else pure (ForInStep.yield r)) (fun ok s₂ =>
        if ok = true then wpAny (model prog w) A (eval elt (compEnvC scope cl L₁ env)) (fun y s₃ => ∃ g₃ mu₃, Sx (L₁ :: mu.map (·.1)) g₁ s₁ (compEnvC scope cl L₁ env) (fun h => C h ∧ F (i + 1) (ys ++ [y]) mu₃ h) g₃ m₁ k mu₃ s₃ ∧ mu₃.map (·.1) = mu.map (·.1)) NE s₂
        else ∃ g₃ mu₃, Sx (L₁ :: mu.map (·.1)) g₁ s₁ (compEnvC scope cl L₁ env) (fun h => C h ∧ F (i + 1) ys mu₃ h) g₃ m₁ k mu₃ s₂ ∧ mu₃.map (·.1) = mu.map (·.1)) NE s₁)
    (done : ∀ D nn ys mu' g' s' L₁ oL mL, s₀.heap.get? D = none → s₀.heap.get? L₁ = none → ys.length ≤ n → mu'.map (·.1) = mu.map (·.1) → s'.heap.Ns L₁ mL → Sx wr g₀ s₀ env (fun h => C h ∧ F n ys mu' h) g' m k ((L₁, oL) :: (D, lst ys nn) :: mu') s' →
      compPost (model prog w) A NE use Q (.ref D) L₁ (.ok .next) s')
    (hcell : ∀ y ∈ scope.names, y.2 ≠ .cell := by decide +kernel) (hkind : scope.kind = .function := by kernel_rfl!) (hx : scope.names.lookup x = some .local := by kernel_rfl!) :
    CompGoal prog w A env (.ListComp elt [⟨.Name x px, iter, ifs, 0⟩] scope pos) scope cl use Q (.ref I) s := by
  refine comp_open X hcell hkind fun D L₁ oL s' fL fD hns X₁ => ?_
  have sw : ∀ {mu₁ : List (Addr × Obj)} {a b c : Addr × Obj}, (a :: b :: c :: mu₁).Perm (c :: a :: b :: mu₁) := fun {mu₁ a b c} => (List.Perm.cons a (List.Perm.swap c b mu₁)).trans (List.Perm.swap c a _)
  have X₂ := X₁.perm sw
  have p1 : Pos 0 s'.heap := it.frame _ _ _ p0 fun o e => by
    have a1 := (X.tx.mus (I, oI) List.mem_cons_self).1
    have a2 := (X₂.tx.mus (I, oI) List.mem_cons_self).1
    have q : o = oI := Option.some.inj (e.symm.trans a1)
    rw [q]; exact a2
  have loop : codeAny (model prog w) A (.compLoop (.ListComp elt [⟨.Name x px, iter, ifs, 0⟩] scope pos) 0 (.ref I) (.ref D) (compEnvC scope cl L₁ env)) (compPost (model prog w) A NE use Q (.ref D) L₁) s' := by
    refine codeAny_compLoop_tests (fun q s₁ => ∃ i ys mu₁ g₁ o₁ oL nn mL, q = n + 1 - i ∧ i ≤ n ∧ ys.length ≤ i ∧ mu₁.map (·.1) = mu.map (·.1) ∧ Pos i s₁.heap ∧ s₁.heap.Ns L₁ mL ∧ Sx wr g₀ s₀ env (fun h => C h ∧ F i ys mu₁ h) g₁ m k ((I, o₁) :: (L₁, oL) :: (D, lst ys nn) :: mu₁) s₁) ?_ (n + 1)
      ⟨0, [], mu, g, oI, oL, 0, _, rfl, Nat.zero_le _, Nat.le_refl _, rfl, p1, hns, X₂.weaken fun h c => ⟨c, hF0 h c⟩⟩
    rintro q s₁ ⟨i, ys, mu₁, g₁, o₁, oL, nn, mL, rfl, hi, hys, hmu, hp, hnsL, X₃⟩
    by_cases hlt : i < n
    · refine it.item i s₁ _ _ hlt hp (hC _ X₃.now.1) fun v h' tk hv hp' hk => ?_
      obtain ⟨o', ho'⟩ := it.has _ _ hp'
      have X₄ := X₃.setAny (mu₁ := []) (t := tk) hk ho'
      have ILne : L₁ ≠ I := by
        have nd := X₃.tx.nd
        simp only [List.map_cons, List.nodup_cons, List.mem_cons, not_or] at nd
        exact Ne.symm nd.1.1
      have hns' : h'.Ns L₁ mL := by obtain ⟨oo, es, ep, e1, r⟩ := hnsL; exact ⟨oo, es, ep, hk _ _ ILne e1, r⟩
      refine wpAny_assign_Name (wpAny_storeName_local (env := compEnvC scope cl L₁ env) (s := { s₁ with heap := h', toks := tk }) (lookup_relabel_local hx) hns' (fun h₂ hn₂ hs₂ => ?_) (by simp [compEnvC, relabel, hkind]))
      obtain ⟨oL₂, es₂, ep₂, e₂, r₂⟩ := id hn₂
      have X₅ := X₄.setAny (mu₁ := [(I, o')]) (h' := h₂) (o' := oL₂) (t := tk + 1) (fun b o hb eb => (hs₂.2 b hb).trans eb) e₂
      have hp₂ : Pos (i + 1) h₂ := it.frame _ _ _ hp' fun o e => (hs₂.2 I (Ne.symm ILne)).trans e
      have X₆ : Sx wr g₀ s₀ env (fun h => C h ∧ F i ys mu₁ h) g₁ m k ((L₁, oL₂) :: ([(I, o'), (D, lst ys nn)] ++ mu₁)) { s₁ with heap := h₂, toks := tk + 1 } := X₅.perm (List.Perm.swap _ _ _)
      have Y := X₆.into (scope := scope) (cl := cl) (mL := upd mL x v) hn₂ hcl.look
      rw [hmu] at Y
      have fin : ∀ {s₅ g₃ mu₃ ys' nn' C₃}, (∃ oL', Sx wr g₀ s₀ env C₃ g₃ m k ((L₁, oL') :: ([(I, o'), (D, lst ys' nn')] ++ mu₃)) s₅ ∧ s₅.heap.Ns L₁ (upd mL x v)) → C₃ = (fun h => C h ∧ F (i + 1) ys' mu₃ h) → ys'.length ≤ i + 1 → mu₃.map (·.1) = mu.map (·.1) →
          ∃ m', m' < n + 1 - i ∧ ∃ i ys mu₁ g₁ o₁ oL nn mL, m' = n + 1 - i ∧ i ≤ n ∧ ys.length ≤ i ∧ mu₁.map (·.1) = mu.map (·.1) ∧ Pos i s₅.heap ∧ s₅.heap.Ns L₁ mL ∧ Sx wr g₀ s₀ env (fun h => C h ∧ F i ys mu₁ h) g₁ m k ((I, o₁) :: (L₁, oL) :: (D, lst ys nn) :: mu₁) s₅ := by
        rintro s₅ g₃ mu₃ ys' nn' C₃ ⟨oL', Z, hz⟩ rfl hl hmu₃
        refine ⟨n + 1 - (i + 1), by omega, i + 1, ys', mu₃, g₃, o', oL', nn', _, rfl, hlt, hl, hmu₃, it.frame _ _ _ hp₂ fun o e => ?_, hz, Z.perm (List.Perm.swap _ _ _)⟩
        have a1 : h₂.get? I = some o' := (X₆.tx.mus (I, o') (by simp)).1
        have a2 := (Z.tx.mus (I, o') (by simp)).1
        have q : o = o' := Option.some.inj (e.symm.trans a1)
        rw [q]; exact a2
      refine wpAny_mono (step i v ys mu₁ g₁ _ L₁ _ hlt hys hv hmu upd_same Y) (fun ok s₂ h₂' => ?_) fun _ _ e => e.elim
      cases ok with
      | true =>
        simp only [if_true] at h₂' ⊢
        refine wpAny_mono h₂' (fun y s₃ h₃ => ?_) fun _ _ e => e.elim
        obtain ⟨g₃, mu₃, Y₃, hmu₃⟩ := h₃
        obtain ⟨oL₃, Z, hz⟩ := X₆.outof (by rw [hmu]; exact Y₃) (hmu₃.trans hmu.symm)
        have Z' : Sx wr g₀ s₀ env (fun h => C h ∧ F (i + 1) (ys ++ [y]) mu₃ h) g₃ m k ([(L₁, oL₃), (I, o')] ++ (D, lst ys nn) :: mu₃) s₃ := Z
        have eD := (Z'.tx.mus (D, lst ys nn) (by simp)).1
        have LDne : L₁ ≠ D := by
          have nd := Z'.tx.nd
          simp only [List.cons_append, List.nil_append, List.map_cons, List.nodup_cons, List.mem_cons, not_or] at nd
          exact nd.1.2.1
        refine append_at eD (fun h₅ hs₅ e₅ => ?_) (by rw [List.size_toArray, sizeLine_eq]; omega)
        have Z'' := Z'.setMu (t := s₃.toks) (o' := lst (ys ++ [y]) (nn + 1)) hs₅ (by rw [e₅]; simp)
        exact fin ⟨oL₃, Z'', by obtain ⟨oo, es, ep, e1, r⟩ := hz; exact ⟨oo, es, ep, (hs₅.2 _ LDne).trans e1, r⟩⟩ rfl (by simp; omega) hmu₃
      | false =>
        simp only [Bool.false_eq_true, if_false] at h₂' ⊢
        obtain ⟨g₃, mu₃, Y₃, hmu₃⟩ := h₂'
        exact fin (X₆.outof (by rw [hmu]; exact Y₃) (hmu₃.trans hmu.symm)) rfl (by omega) hmu₃
    · obtain rfl : i = n := Nat.le_antisymm hi (Nat.not_lt.mp hlt)
      refine it.done s₁ _ _ hp (hC _ X₃.now.1) fun h' tk hk => ?_
      have ILne : L₁ ≠ I := by
        have nd := X₃.tx.nd
        simp only [List.map_cons, List.nodup_cons, List.mem_cons, not_or] at nd
        exact Ne.symm nd.1.1
      exact done D nn ys mu₁ g₁ _ L₁ oL mL fD fL hys hmu (by obtain ⟨oo, es, ep, e1, r⟩ := hnsL; exact ⟨oo, es, ep, hk _ _ ILne e1, r⟩) (X₃.lose (t := tk) hI0 hk)
  exact codeAny_compStart_list loop (it.self 0 _ _ _ p1 (hC _ X₂.now) loop)

/-- the end of a comprehension whose value is used in place -/
theorem comp_end {Q : Value → Shared → Prop} {D L₁ : Addr} {oL : Obj} {mL : Str → Option Value} (X : Sx wr g₀ s₀ env C g m k ((L₁, oL) :: mu) s) (fL : s₀.heap.get? L₁ = none) (hn : s.heap.Ns L₁ mL)
    (h : ∀ s', Sx wr g₀ s₀ env C g m k mu s' → Q (.ref D) s') : compPost (model prog w) A NE none Q (.ref D) L₁ (.ok .next) s :=
  ⟨mL, hn, fun h' hs => h _ (X.lose (t := s.toks) fL fun b o hb e => (hs.2 b hb).trans e)⟩
end
end Mine
end
section
open PySem PySem.W PyProof.Rows
namespace Mine
theorem turn_two0 (elt t0 i0 t1 i1 : Expr) (scope : Scope) (pos : Pos) (it acc : Value) (env : Env) :
    compTurn (.ListComp elt [⟨t0, i0, [], 0⟩, ⟨t1, i1, [], 0⟩] scope pos) 0 it acc env = (standAt i0.pos >>= fun _ => pyNext it >>= fun r => match r with
      | none => pure (.done .next)
      | some v => letOwnedTupleGo t0 it v >>= fun _ => assign t0 env v >>= fun _ =>
        eval i1 env >>= fun x => standAt i1.pos >>= fun _ => foldedSetIterable i1 env x >>= fun x => holding [x] (pyIter x) >>= fun it1 => runOwn (.compStart (.ListComp elt [⟨t0, i0, [], 0⟩, ⟨t1, i1, [], 0⟩] scope pos) 1 it1 acc env) env >>= fun _ =>
          again (.compLoop (.ListComp elt [⟨t0, i0, [], 0⟩, ⟨t1, i1, [], 0⟩] scope pos) 0 it acc env)) := by rfl
theorem turn_two1 (elt t0 i0 t1 i1 : Expr) (scope : Scope) (pos : Pos) (it acc : Value) (env : Env) :
    compTurn (.ListComp elt [⟨t0, i0, [], 0⟩, ⟨t1, i1, [], 0⟩] scope pos) 1 it acc env = (standAt i1.pos >>= fun _ => pyNext it >>= fun r => match r with
      | none => pure (.done .next)
      | some v => letOwnedTupleGo t1 it v >>= fun _ => assign t1 env v >>= fun _ =>
        (eval elt env >>= fun x => call (.builtin "list.append") [acc, x] >>= fun _ => pure ()) >>= fun _ =>
          again (.compLoop (.ListComp elt [⟨t0, i0, [], 0⟩, ⟨t1, i1, [], 0⟩] scope pos) 1 it acc env)) := by rfl
section
variable {prog : Program} {w : World} {M : Model} {A : Around} {E : Value → Shared → Prop}
variable {wr wr' : List Addr} {g₀ g g' : Fz} {s₀ s s' : Shared} {env : Env} {C C' : Heap → Prop} {m k : Str → Option Value} {mu : List (Addr × Obj)}
theorem ns_keep {h h' : Heap} {L : Addr} {mL : Str → Option Value} (x : h.Ns L mL) (e : ∀ o, h.get? L = some o → h'.get? L = some o) : h'.Ns L mL := let ⟨oo, es, ep, e1, r⟩ := x; ⟨oo, es, ep, e _ e1, r⟩

/-- a comprehension with two fors over two lists that stand -/
theorem comp_run2 {elt i0 i1 : Expr} {x0 x1 : Str} {px0 px1 : Pos} {scope : Scope} {cl : List (Str × Addr)} {pos : Pos} {use : Option (Value → Sem Unit)} {Q : Value → Shared → Prop} {I a0 a1 : Addr} {oI : Obj} {ws ls : List Value}
    (F : Nat → List Value → Heap → Prop) (hh : A.handled = none) (X : Sx wr g₀ s₀ env C g m k ((I, oI) :: mu) s) (hI0 : s₀.heap.get? I = none)
    (it : It prog w A (fun h => h.IsList a0 ws.toArray) I ws.toArray.size (fun i v => ws.toArray[i]? = some v) (fun i h => h.IsListIter I a0 i)) (p0 : s.heap.IsListIter I a0 0)
    (hl0 : ∀ h, C h → h.IsList a0 ws.toArray) (hl1 : ∀ h, C h → h.IsList a1 ls.toArray)
    (hcl : ClOk env cl) (hF0 : ∀ h, C h → F 0 [] h) (hn : ws.length * ls.length ≤ 10000)
    (ev1 : ∀ L₁ m₁ g₁ s₁ wr' g₀' s₀' C₁ mu₁ (Q' E' : Value → Shared → Prop), Sx wr' g₀' s₀' (compEnvC scope cl L₁ env) C₁ g₁ m₁ k mu₁ s₁ → Q' (.ref a1) s₁ → wpAny (model prog w) A (eval i1 (compEnvC scope cl L₁ env)) Q' E' s₁)
    (step : ∀ i j v v₁ ys g₁ s₁ L₁ m₁, ws[i]? = some v → ls[j]? = some v₁ → m₁ x0 = some v → m₁ x1 = some v₁ → Sx (L₁ :: mu.map (·.1)) g₁ s₁ (compEnvC scope cl L₁ env) (fun h => C h ∧ F (i * ls.length + j) ys h) g₁ m₁ k mu s₁ →
      wpAny (model prog w) A (eval elt (compEnvC scope cl L₁ env)) (fun y s₃ => ∃ g₃, Sx (L₁ :: mu.map (·.1)) g₁ s₁ (compEnvC scope cl L₁ env) (fun h => C h ∧ F (i * ls.length + j + 1) (ys ++ [y]) h) g₃ m₁ k mu s₃) NE s₁)
    (done : ∀ D nn ys g' s' L₁ oL mL, s₀.heap.get? D = none → s₀.heap.get? L₁ = none → ys.length ≤ ws.length * ls.length → s'.heap.Ns L₁ mL → Sx wr g₀ s₀ env (fun h => C h ∧ F (ws.length * ls.length) ys h) g' m k ((L₁, oL) :: (D, lst ys nn) :: mu) s' →
      compPost (model prog w) A NE use Q (.ref D) L₁ (.ok .next) s')
    (hs1 : ∀ L₁ x, foldedSetIterable i1 (compEnvC scope cl L₁ env) x = pure x := by intro _ _; rfl) (hne : (x0 == x1) = false := by kernel_rfl!)
    (hcell : ∀ y ∈ scope.names, y.2 ≠ .cell := by decide +kernel) (hkind : scope.kind = .function := by kernel_rfl!) (hx0 : scope.names.lookup x0 = some .local := by kernel_rfl!) (hx1 : scope.names.lookup x1 = some .local := by kernel_rfl!) :
    CompGoal prog w A env (.ListComp elt [⟨.Name x0 px0, i0, [], 0⟩, ⟨.Name x1 px1, i1, [], 0⟩] scope pos) scope cl use Q (.ref I) s := by
  refine comp_open X hcell hkind fun D L₁ oL s' fL fD hns X₁ => ?_
  have X₂ : Sx wr g₀ s₀ env C g m k ((I, oI) :: (L₁, oL) :: (D, lst [] 0) :: mu) s' := X₁.perm ((List.Perm.cons _ (List.Perm.swap _ _ _)).trans (List.Perm.swap _ _ _))
  have same : ∀ {p : Addr × Obj} {mu₁ mu₂ : List (Addr × Obj)} {wr₁ wr₂ g₁ g₂ s₁ s₂ env₁ env₂ C₁ C₂ m₁ m₂ k₁ k₂ g₃ g₄ s₃ s₄}, Sx wr₁ g₁ s₁ env₁ C₁ g₃ m₁ k₁ mu₁ s₃ → Sx wr₂ g₂ s₂ env₂ C₂ g₄ m₂ k₂ mu₂ s₄ → p ∈ mu₁ → p ∈ mu₂ → ∀ o, s₃.heap.get? p.1 = some o → s₄.heap.get? p.1 = some o := by
    intro p mu₁ mu₂ _ _ _ _ _ _ _ _ _ _ _ _ _ _ _ _ _ _ Y Z h1 h2 o e
    have q : o = p.2 := Option.some.inj (e.symm.trans (Y.tx.mus p h1).1)
    rw [q]; exact (Z.tx.mus p h2).1
  have it0 : ∀ {i : Nat} {h h' : Heap}, h.IsListIter I a0 i → (∀ o, h.get? I = some o → h'.get? I = some o) → h'.IsListIter I a0 i := fun x e => it.frame _ _ _ x e
  have p1 : s'.heap.IsListIter I a0 0 := it0 p0 (same X X₂ (p := (I, oI)) (by simp) (by simp))
  -- the inner loop, from the i-th turn of the outer one
  have inner : ∀ (i : Nat) (v : Value) (ys : List Value) (o₁ oL oI : Obj) (nn : Nat) (mL : Str → Option Value) (g₁ : Fz) (s₁ : Shared) (I₁ : Addr) (R : Result → Shared → Prop), ws[i]? = some v → mL x0 = some v → s₀.heap.get? I₁ = none → ys.length = i * ls.length →
      It prog w A (fun h => h.IsList a1 ls.toArray) I₁ ls.toArray.size (fun i v => ls.toArray[i]? = some v) (fun i h => h.IsListIter I₁ a1 i) → s₁.heap.IsListIter I₁ a1 0 → s₁.heap.Ns L₁ mL → s₁.heap.IsListIter I a0 (i + 1) →
      Sx wr g₀ s₀ env (fun h => C h ∧ F (i * ls.length) ys h) g₁ m k ((I₁, o₁) :: (I, oI) :: (L₁, oL) :: (D, lst ys nn) :: mu) s₁ →
      (∀ ys' oL' nn' mL' g' s₂, ys'.length = (i + 1) * ls.length → s₂.heap.Ns L₁ mL' → s₂.heap.IsListIter I a0 (i + 1) → Sx wr g₀ s₀ env (fun h => C h ∧ F ((i + 1) * ls.length) ys' h) g' m k ((I, oI) :: (L₁, oL') :: (D, lst ys' nn') :: mu) s₂ → R (.ok .next) s₂) →
      codeAny (model prog w) A (.compStart (.ListComp elt [⟨.Name x0 px0, i0, [], 0⟩, ⟨.Name x1 px1, i1, [], 0⟩] scope pos) 1 (.ref I₁) (.ref D) (compEnvC scope cl L₁ env)) R s₁ := by
    intro i v ys o₁ oL oI nn mL g₁ s₁ I₁ R hv hmv fI₁ hys it1 q0 hnsL hpI X₃ fin
    have hil : i < ws.length := (List.getElem?_eq_some_iff.mp hv).1
    have hbound : (i + 1) * ls.length ≤ 10000 := Nat.le_trans (Nat.mul_le_mul_right _ hil) hn
    have loop1 : codeAny (model prog w) A (.compLoop (.ListComp elt [⟨.Name x0 px0, i0, [], 0⟩, ⟨.Name x1 px1, i1, [], 0⟩] scope pos) 1 (.ref I₁) (.ref D) (compEnvC scope cl L₁ env)) R s₁ := by
      refine codeAny_loop rfl (fun q s₂ => ∃ j ys o₁ oL nn mL g₂, q = ls.length + 1 - j ∧ j ≤ ls.length ∧ ys.length = i * ls.length + j ∧ mL x0 = some v ∧ s₂.heap.IsListIter I₁ a1 j ∧ s₂.heap.Ns L₁ mL ∧ s₂.heap.IsListIter I a0 (i + 1) ∧
          Sx wr g₀ s₀ env (fun h => C h ∧ F (i * ls.length + j) ys h) g₂ m k ((I₁, o₁) :: (I, oI) :: (L₁, oL) :: (D, lst ys nn) :: mu) s₂) ?_ (ls.length + 1) ⟨0, ys, o₁, oL, nn, mL, g₁, rfl, Nat.zero_le _, hys, hmv, q0, hnsL, hpI, X₃⟩
      rintro q s₂ ⟨j, ys, o₁, oL, nn, mL, g₂, rfl, hj, hys, hmv, qj, hnsL, hpI, X₃⟩
      show wpAny _ A ((compTurn (.ListComp elt [⟨.Name x0 px0, i0, [], 0⟩, ⟨.Name x1 px1, i1, [], 0⟩] scope pos) 1 (.ref I₁) (.ref D) (compEnvC scope cl L₁ env)).onRaise (fun x => do noteFrame x (compEnvC scope cl L₁ env); theTreesLotGoes x)) _ _ s₂
      refine wpAny_noted ?_
      rw [turn_two1]
      refine wpAny_bind (wpAny_standAt (wpAny_bind ?_))
      have nd := X₃.tx.nd
      simp only [List.map_cons, List.nodup_cons, List.mem_cons, not_or] at nd
      by_cases hlt : j < ls.length
      · refine it1.item j s₂ _ _ (by simpa using hlt) qj (hl1 _ X₃.now.1) fun v₁ h' tk hv₁ qj' hk => ?_
        obtain ⟨o', ho'⟩ := it1.has _ _ qj'
        have X₄ := X₃.setAny (mu₁ := []) (t := tk) hk ho'
        refine wpAny_bind (wpAny_of_eq (show letOwnedTupleGo (.Name x1 px1) (.ref I₁) v₁ = pure () from rfl) ?_)
        have hns' : h'.Ns L₁ mL := ns_keep hnsL fun o e => hk _ o (Ne.symm nd.1.2.1) e
        have hpI' : h'.IsListIter I a0 (i + 1) := it0 hpI fun o e => hk _ o (Ne.symm nd.1.1) e
        refine wpAny_bind (wpAny_assign_Name (wpAny_storeName_local (env := compEnvC scope cl L₁ env) (s := { s₂ with heap := h', toks := tk }) (lookup_relabel_local hx1) hns' (fun h₂ hn₂ hs₂ => ?_) (by simp [compEnvC, relabel, hkind])))
        obtain ⟨oL₂, es₂, ep₂, e₂, r₂⟩ := id hn₂
        have X₅ := X₄.setAny (mu₁ := [(I₁, o'), (I, oI)]) (h' := h₂) (o' := oL₂) (t := tk + 1) (fun b o hb eb => (hs₂.2 b hb).trans eb) e₂
        have qj₂ : h₂.IsListIter I₁ a1 (j + 1) := it1.frame _ _ _ qj' fun o e => (hs₂.2 I₁ nd.1.2.1).trans e
        have hpI₂ : h₂.IsListIter I a0 (i + 1) := it0 hpI' fun o e => (hs₂.2 I nd.2.1.1).trans e
        have X₆ : Sx wr g₀ s₀ env (fun h => C h ∧ F (i * ls.length + j) ys h) g₂ m k ((L₁, oL₂) :: ([(I₁, o'), (I, oI), (D, lst ys nn)] ++ mu)) { s₂ with heap := h₂, toks := tk + 1 } :=
          X₅.perm ((List.Perm.cons _ (List.Perm.swap _ _ _)).trans (List.Perm.swap _ _ _))
        have Y := X₆.into (scope := scope) (cl := cl) (mL := upd mL x1 v₁) hn₂ hcl.look
        refine wpAny_bind (wpAny_bind (wpAny_mono (step i j v v₁ ys g₂ _ L₁ _ hv (by simpa using hv₁) (upd_get hne hmv) upd_same Y) (fun y s₃ h₃ => ?_) fun _ _ e => e.elim))
        obtain ⟨g₃, Y₃⟩ := h₃
        obtain ⟨oL₃, Z, hz⟩ := X₆.outof Y₃ rfl
        have Z' : Sx wr g₀ s₀ env (fun h => C h ∧ F (i * ls.length + j + 1) (ys ++ [y]) h) g₃ m k ([(L₁, oL₃), (I₁, o'), (I, oI)] ++ (D, lst ys nn) :: mu) s₃ := Z
        have eD := (Z'.tx.mus (D, lst ys nn) (by simp)).1
        have hysl : ys.length ≤ 10000 := by
          rw [hys]
          have : i * ls.length + j ≤ (i + 1) * ls.length := by rw [Nat.succ_mul]; omega
          omega
        refine wpAny_bind (append_at eD (fun h₅ hs₅ e₅ => ?_) (by rw [List.size_toArray, sizeLine_eq]; omega))
        have Z'' := Z'.setMu (t := s₃.toks) (o' := lst (ys ++ [y]) (nn + 1)) hs₅ (by rw [e₅]; simp)
        have q₃ : s₃.heap.IsListIter I₁ a1 (j + 1) := it1.frame _ _ _ qj₂ (same X₆ Z' (p := (I₁, o')) (by simp) (by simp))
        have qI₃ : s₃.heap.IsListIter I a0 (i + 1) := it0 hpI₂ (same X₆ Z' (p := (I, oI)) (by simp) (by simp))
        refine wpAny_pure (wpAny_pure ⟨rfl, ls.length + 1 - (j + 1), by omega, j + 1, ys ++ [y], o', oL₃, nn + 1, _, g₃, rfl, hlt, by simp [hys]; omega, upd_get hne hmv, it1.frame _ _ _ q₃ fun o e => (hs₅.2 _ nd.1.2.2.1).trans e, ns_keep hz fun o e => (hs₅.2 _ nd.2.2.1.1).trans e, it0 qI₃ fun o e => (hs₅.2 _ nd.2.1.2.1).trans e, ?_⟩)
        exact Z''.perm (show ([(L₁, oL₃), (I₁, o'), (I, oI)] ++ (D, lst (ys ++ [y]) (nn + 1)) :: mu).Perm _ from (List.Perm.swap _ _ _).trans (List.Perm.cons _ (List.Perm.swap _ _ _)))
      · obtain rfl : j = ls.length := Nat.le_antisymm hj (Nat.not_lt.mp hlt)
        refine it1.done s₂ _ _ (by simpa using qj) (hl1 _ X₃.now.1) fun h' tk hk => wpAny_pure ?_
        have hs := X₃.lose (t := tk) fI₁ hk
        rw [← Nat.succ_mul] at hys hs
        exact fin ys oL nn mL g₂ _ hys (ns_keep hnsL fun o e => hk _ o (Ne.symm nd.1.2.1) e) (it0 hpI fun o e => hk _ o (Ne.symm nd.1.1) e) hs
    refine codeAny_of_tree ?_
    show wpAny _ _ ((compStart (.ListComp elt [⟨.Name x0 px0, i0, [], 0⟩, ⟨.Name x1 px1, i1, [], 0⟩] scope pos) 1 (.ref I₁) (.ref D) (compEnvC scope cl L₁ env)).onRaise (fun x => do noteFrame x (compEnvC scope cl L₁ env); standAt theWindowsPlace)) _ _ s₁
    refine wpAny_notedAt ?_
    unfold compStart
    show wpAny _ _ (ask >>= _) _ _ s₁
    refine wpAny_bind (wpAny_askSetting (wpAny_ite ?_))
    split
    · first
        | exact wpAny_bind (wpAny_pure (wpAny_pure (And.intro rfl loop1)))
        | exact wpAny_pure (And.intro rfl loop1)
    · refine wpAny_bind (wpAny_rule ?_)
      show wpAny _ _ (standAt i1.pos >>= _) _ _ s₁
      exact wpAny_bind (wpAny_standAt (wpAny_bind (it1.self 0 _ _ _ q0 (hl1 _ X₃.now.1) (wpAny_pure (And.intro rfl loop1)))))
  have loop : codeAny (model prog w) A (.compLoop (.ListComp elt [⟨.Name x0 px0, i0, [], 0⟩, ⟨.Name x1 px1, i1, [], 0⟩] scope pos) 0 (.ref I) (.ref D) (compEnvC scope cl L₁ env)) (compPost (model prog w) A NE use Q (.ref D) L₁) s' := by
    refine codeAny_loop rfl (fun q s₁ => ∃ i ys oI oL nn mL g₁, q = ws.length + 1 - i ∧ i ≤ ws.length ∧ ys.length = i * ls.length ∧ s₁.heap.IsListIter I a0 i ∧ s₁.heap.Ns L₁ mL ∧ Sx wr g₀ s₀ env (fun h => C h ∧ F (i * ls.length) ys h) g₁ m k ((I, oI) :: (L₁, oL) :: (D, lst ys nn) :: mu) s₁) ?_ (ws.length + 1)
      ⟨0, [], oI, oL, 0, _, g, rfl, Nat.zero_le _, by simp, p1, hns, X₂.weaken fun h c => ⟨c, by rw [Nat.zero_mul]; exact hF0 h c⟩⟩
    rintro q s₁ ⟨i, ys, oI, oL, nn, mL, g₁, rfl, hi, hys, hp, hnsL, X₃⟩
    show wpAny _ A ((compTurn (.ListComp elt [⟨.Name x0 px0, i0, [], 0⟩, ⟨.Name x1 px1, i1, [], 0⟩] scope pos) 0 (.ref I) (.ref D) (compEnvC scope cl L₁ env)).onRaise (fun x => do noteFrame x (compEnvC scope cl L₁ env); theTreesLotGoes x)) _ _ s₁
    refine wpAny_noted ?_
    rw [turn_two0]
    refine wpAny_bind (wpAny_standAt (wpAny_bind ?_))
    have nd := X₃.tx.nd
    simp only [List.map_cons, List.nodup_cons, List.mem_cons, not_or] at nd
    by_cases hlt : i < ws.length
    · refine it.item i s₁ _ _ (by simpa using hlt) hp (hl0 _ X₃.now.1) fun v h' tk hv hp' hk => ?_
      have hv' : ws[i]? = some v := by simpa using hv
      obtain ⟨o', ho'⟩ := it.has _ _ hp'
      have X₄ := X₃.setAny (mu₁ := []) (t := tk) hk ho'
      refine wpAny_bind (wpAny_of_eq (show letOwnedTupleGo (.Name x0 px0) (.ref I) v = pure () from rfl) ?_)
      have hns' : h'.Ns L₁ mL := ns_keep hnsL fun o e => hk _ o (Ne.symm nd.1.1) e
      refine wpAny_bind (wpAny_assign_Name (wpAny_storeName_local (env := compEnvC scope cl L₁ env) (s := { s₁ with heap := h', toks := tk }) (lookup_relabel_local hx0) hns' (fun h₂ hn₂ hs₂ => ?_) (by simp [compEnvC, relabel, hkind])))
      obtain ⟨oL₂, es₂, ep₂, e₂, r₂⟩ := id hn₂
      have X₅ := X₄.setAny (mu₁ := [(I, o')]) (h' := h₂) (o' := oL₂) (t := tk + 1) (fun b o hb eb => (hs₂.2 b hb).trans eb) e₂
      have hp₂ : h₂.IsListIter I a0 (i + 1) := it0 hp' fun o e => (hs₂.2 I nd.1.1).trans e
      have X₆ : Sx wr g₀ s₀ env (fun h => C h ∧ F (i * ls.length) ys h) g₁ m k ((L₁, oL₂) :: ([(I, o'), (D, lst ys nn)] ++ mu)) { s₁ with heap := h₂, toks := tk + 1 } := X₅.perm (List.Perm.swap _ _ _)
      refine wpAny_bind (ev1 L₁ _ _ _ _ _ _ _ _ _ _ (X₆.into (scope := scope) (cl := cl) (mL := upd mL x0 v) hn₂ hcl.look) ?_)
      refine wpAny_bind (wpAny_standAt (wpAny_bind (wpAny_of_eq (hs1 L₁ _) (wpAny_bind (wpAny_holding ?_)))))
      refine x_iter_list X₅ hh (hl1 _ X₅.now.1) fun I₁ o₁ s₄ it1 q0 fI₁ X₇ => ?_
      refine wpAny_bind (wpAny_runOwn ?_)
      refine inner i v ys o₁ oL₂ o' nn (upd mL x0 v) g₁ s₄ I₁ _ hv' upd_same fI₁ hys it1 q0 (ns_keep hn₂ (same X₅ X₇ (p := (L₁, oL₂)) (by simp) (by simp))) (it0 hp₂ (same X₅ X₇ (p := (I, o')) (by simp) (by simp))) X₇ ?_
      intro ys' oL' nn' mL' g' s₂ hys' hns₂ hpI X₈
      exact wpAny_pure ⟨rfl, ws.length + 1 - (i + 1), by omega, i + 1, ys', o', oL', nn', mL', g', rfl, hlt, hys', hpI, hns₂, X₈⟩
    · obtain rfl : i = ws.length := Nat.le_antisymm hi (Nat.not_lt.mp hlt)
      refine it.done s₁ _ _ (by simpa using hp) (hl0 _ X₃.now.1) fun h' tk hk => wpAny_pure ?_
      exact done D nn ys g₁ _ L₁ oL mL fD fL (Nat.le_of_eq hys) (ns_keep hnsL fun o e => hk _ o (Ne.symm nd.1.1) e) (X₃.lose (t := tk) hI0 hk)
  exact codeAny_compStart_list loop (it.self 0 _ _ _ p1 (hl0 _ X₂.now) loop)
end
end Mine
end
section
open PySem PySem.W PyProof.Rows
namespace Mine
section
variable {prog : Program} {w : World} {M : Model} {A : Around} {E : Value → Shared → Prop}
variable {wr wr' : List Addr} {g₀ g g' : Fz} {s₀ s s' : Shared} {env : Env} {C C' : Heap → Prop} {m k : Str → Option Value} {mu : List (Addr × Obj)}
theorem Sx.backFresh {h' : Heap} {D : Addr} {o : Obj} (X : Sx wr g₀ s₀ env C g m k mu s)
    (N : News {} env.locals h' ((D, o) :: rest s.heap [env.locals])) (l : ∀ p ∈ rest s.heap [env.locals], p.1 < D) : s₀.heap.get? D = none := by
  obtain ⟨hD, hDL, -⟩ := N (D, o) List.mem_cons_self
  cases e0 : s₀.heap.get? D with
  | none => rfl
  | some o' =>
    obtain ⟨o'', h''⟩ := X.ev.alive D o' e0
    exact absurd (l (D, o'') (mem_rest.mpr ⟨h'', by simpa using hDL⟩)) (Nat.lt_irrefl _)
/-- a new object of the library's rule, frozen at once -/
theorem Sx.backFz {h' : Heap} {t : Nat} {D : Addr} {o : Obj} (X : Sx wr g₀ s₀ env C g m k mu s) (hw : env.locals ∈ wr ∨ s₀.heap.get? env.locals = none)
    (F : Fr {} env.locals h' m) (N : News {} env.locals h' ((D, o) :: rest s.heap [env.locals])) (l : ∀ p ∈ rest s.heap [env.locals], p.1 < D) :
    ∃ g', Sx wr g₀ s₀ env (fun h => C h ∧ h.get? D = some o) g' m k mu { s with heap := h', toks := t } := (X.backNew hw F N l).freeze1 (X.backFresh N l)

theorem x_tup_add {v₁ v₂ : Value} {ds₁ ds₂ : List PyData} {Q : Value → Shared → Prop} (X : Sx wr g₀ s₀ env C g m k mu s) (hw : env.locals ∈ wr ∨ s₀.heap.get? env.locals = none)
    (h1 : ∀ h, C h → Rd h v₁ (.tuple ds₁)) (h2 : ∀ h, C h → Rd h v₂ (.tuple ds₂)) (h2n : ds₂ ≠ []) (hz : ds₁.length + ds₂.length ≤ 1000)
    (h : ∀ v g' s', Sx wr g₀ s₀ env (fun h => C h ∧ Rd h v (.tuple (ds₁ ++ ds₂))) g' m k mu s' → Q v s') : wpAny (model prog w) A (binaryOp .Add v₁ v₂) Q E s := by
  obtain ⟨a, vs, rfl, Y⟩ := X.pinTup h1
  obtain ⟨b, ws, rfl, Z⟩ := Y.pinTup fun h c => h2 h c.1
  have n1 := Z.now.1.2.2.length
  have n2 := Z.now.2.2.length
  have wsn : ws ≠ [] := fun q => h2n (List.length_eq_zero_iff.mp (by rw [← n2, q]; rfl))
  by_cases e : vs = []
  · have e1 : ds₁ = [] := List.length_eq_zero_iff.mp (by rw [← n1, e]; rfl)
    subst e1
    exact kde_addT0 Z.fr Z.news Z.now.1.2.1 Z.now.2.1 (by simp [e]) (by simp; omega) (h _ _ _ (X.weaken fun h c => ⟨c, h2 h c⟩))
  · refine kde_addT Z.fr Z.news Z.now.1.2.1 Z.now.2.1 (by simpa using e) (by simpa using wsn) (by simp; omega) (zs := vs ++ ws) (by simp) fun D h' F N l => ?_
    obtain ⟨g', V⟩ := Z.backFz (t := s.toks) hw F N l
    exact h _ _ _ (V.weaken fun h c => ⟨c.1.1.1, rd_tup c.2 (c.1.1.2.2.append c.1.2.2)⟩)

/-! an assignment whose value is a comprehension -/
theorem x_assign_comp {elt iter : Expr} {x y : Str} {px py : Pos} {ifs : List Expr} {gs : List Comprehension} {scope : Scope} {cl : List (Str × Addr)} {pos spos : Pos} {Q : Flow → Shared → Prop} (hclos : closureFor scope env = pure cl)
    (hsw : swapsWith (.ListComp elt (⟨.Name x px, iter, ifs, 0⟩ :: gs) scope pos) (some (.Name y py)) spos.line env = pure true)
    (h : wpAny (model prog w) A (eval iter env) (fun xv s₁ => wpAny (model prog w) A (pyIter xv) (CompGoal prog w A env (.ListComp elt (⟨.Name x px, iter, ifs, 0⟩ :: gs) scope pos) scope cl (some (assign (.Name y py) env)) (fun _ s' => Q .next s')) NE s₁) NE s)
    (hkind : scope.kind = .function := by kernel_rfl!) (hnames : ∀ y ∈ scope.names, y.2 = .local → scope.names.lookup y.1 = some .local := by decide +kernel) (hs : ∀ x, foldedSetIterable iter env x = pure x := by intro _; rfl) :
    wpAny (model prog w) A (exec (.Assign [.Name y py] (.ListComp elt (⟨.Name x px, iter, ifs, 0⟩ :: gs) scope pos) spos) env) Q NE s := by
  rw [exec_Assign_Name_used _ _ _ _ hsw]
  refine wpAny_bind (wpAny_standAt (wpAny_bind ?_))
  show wpAny _ A (do let _ ← comprehension (.ListComp elt (⟨.Name x px, iter, ifs, 0⟩ :: gs) scope pos) scope env _ (newList []) false (eval iter env) (some (assign (.Name y py) env))) _ _ s
  exact wpAny_bind (wpAny_mono (wpAny_comprehension_free (use := some (assign (.Name y py) env)) (Q := fun _ s' => Q .next s') rfl hs hclos hkind hnames h) (fun _ s' hq => wpAny_pure (wpAny_pure hq)) fun _ _ e => e)
theorem comp_end_assign {Q : Value → Shared → Prop} {D L₁ : Addr} {oL : Obj} {mL : Str → Option Value} {y : Str} {py : Pos} (X : Sx wr g₀ s₀ env C g m k ((L₁, oL) :: mu) s) (W : Fw wr s₀ env) (fL : s₀.heap.get? L₁ = none) (hn : s.heap.Ns L₁ mL)
    (h : ∀ s', Sx wr g₀ s₀ env C g (upd m y (.ref D)) k mu s' → Q .none s') (hk : env.scope.kind = .function := by kernel_rfl!) (hy : env.kindOf y = some .local := by kernel_rfl!) :
    compPost (model prog w) A NE (some (assign (.Name y py) env)) Q (.ref D) L₁ (.ok .next) s := by
  show wpAny _ A (assign (.Name y py) env (.ref D)) _ NE s
  refine wpAny_assign_Name (st_local X W (fun s' X' => ?_) hk hy)
  have e1 := (X.tx.mus (L₁, oL) List.mem_cons_self).1
  have e2 := (X'.tx.mus (L₁, oL) List.mem_cons_self).1
  refine ⟨mL, ns_keep hn fun o e => ?_, fun h' hs => h _ (X'.lose (t := s'.toks) fL fun b o hb e => (hs.2 b hb).trans e)⟩
  have q : o = oL := Option.some.inj (e.symm.trans e1)
  rw [q]; exact e2

theorem x_mul_list {l : Addr} {vs : List Value} {x : Int} {u : Tok} {Q : Value → Shared → Prop} (X : Sx wr g₀ s₀ env C g m k mu s) (hw : env.locals ∈ wr ∨ s₀.heap.get? env.locals = none) (hl : s.heap.IsList l vs.toArray)
    (h0 : 0 ≤ x) (h1 : x < 2 ^ 63) (hz : vs.length * x.toNat ≤ 256) (h : ∀ D s', s₀.heap.get? D = none → Sx wr g₀ s₀ env C g m k ((D, lst (List.replicate x.toNat vs).flatten 0) :: mu) s' → Q (.ref D) s') :
    wpAny (model prog w) A (binaryOp .Mult (.ref l) (.int x u)) Q E s :=
  KMa.mul X.fr X.news hl (by omega) h1 hz rfl fun D h' F N p => h D _ (X.backFresh N p) (X.backNew (t := s.toks) hw F N p)
theorem x_meth {l : Addr} {vs : List Value} {n : Nat} {name : Str} {id : String} {pl : Sem Bool} {Q : Value × List Value → Shared → Prop} (X : Sx wr g₀ s₀ env C g m k mu s) (hm : (l, lst vs n) ∈ mu) (slot : Slot "list" name id) (hty : typeOf (.builtin id) = pure (.type "method_descriptor"))
    (h : Q (.builtin id, [.ref l]) s) : wpAny (model prog w) A (getMethod (.ref l) name pl) Q E s :=
  getMethod_builtin ⟨_, (X.tx.mus _ hm).1, rfl⟩ PySem.F.plainAttrs_list slot hty (fun a e => by cases e; exact ⟨_, (X.tx.mus _ hm).1, rfl⟩) h
end
end Mine
end
section
open PySem PySem.W PyProof.Rows
set_option maxRecDepth 100000
set_option maxHeartbeats 8000000
namespace Mine
-- the head in one kernel check behind the library's start-up: no state is written out but the walk's part
theorem left_of_boot {p q : Program} {loose : List Str} {Xt : Shared → Bool} {α : Type} {Yf : Shared → α} {Ya : World → α} {N : Nat}
    (e : opening p = plainProg p.main.scope.names) (hN : Nat.ble 600 N = true) (f : ∀ s, fenceModules? p s = some s)
    (size : ∀ w : World, ((boot_heap w.params).isNs mainGlobals, (boot_heap w.params).objs.size, (boot_heap w.params).nsMap mainGlobals "__annotations__") = (true, 11, some (.ref 6)))
    (c : ∀ w : World, (fun os => (topRun treeTable p w 11 (some (.ref 6)) N ⟨boot_heap w.params, #[], boot_drawn, boot_toks, os⟩ (topStub p)).map fun s =>
      ((staticsOk (importedModules p.main.body) (boot_heap w.params) s.heap && namesBound p s.heap && gensDone s && laidKept (boot_heap w.params) s.heap), openSeen q loose (importedModules p.main.body) Xt true s, Yf s)) = fun _ => some (true, openGood q loose, Ya w)) :
    LeftO p q loose Xt Yf Ya N := fun w => by
  obtain ⟨⟨h, gs, d, k, os⟩, e1, e2⟩ := Option.map_eq_some_iff.mp (boot_open e hN f w)
  obtain ⟨rfl, rfl, rfl, rfl⟩ : h = boot_heap w.params ∧ gs = Array.mk [] ∧ d = boot_drawn ∧ k = boot_toks := by
    simpa only [Prod.mk.injEq] using e2
  obtain ⟨z1, z2, z3⟩ : _ ∧ _ ∧ _ := by simpa only [Prod.mk.injEq] using size w
  obtain ⟨s, hs, hl⟩ := Option.map_eq_some_iff.mp (congrFun (c w) os)
  obtain ⟨l1, l2, l3⟩ : _ ∧ _ ∧ _ := by simpa only [Prod.mk.injEq] using hl
  have t : topFrom treeTable p w N ⟨boot_heap w.params, #[], boot_drawn, boot_toks, os⟩ = some s := by
    unfold topFrom
    dsimp only
    rw [z1, z2, z3]
    show ((topRun treeTable p w 11 (some (.ref 6)) N ⟨boot_heap w.params, #[], boot_drawn, boot_toks, os⟩ (topStub p)).bind _) = _
    rw [hs]
    show (match staticsOk (importedModules p.main.body) (boot_heap w.params) s.heap && namesBound p s.heap && gensDone s && laidKept (boot_heap w.params) s.heap with | true => _ | false => _) = _
    rw [l1]
  unfold openEnds
  rw [e1]
  show (topFrom treeTable p w N _).map _ = _
  rw [t]
  exact congrArg some (Prod.ext l2 l3)
noncomputable def vq : Program := view PySem.Challenge.rw_nz0012_01.row.toRowW.prog [0, 2, 4, 6, 7, 8, 9, 10, 11, 12]
set_option hygiene false in
local macro_rules | `(tactic| o_head $H) => `(tactic| (
  refine holds_open (q := vq) (loose := []) (Xt := fun s => xlAt vq [] s && recOk (RowW.records PySem.Challenge.rw_nz0012_01.row.toRowW) s) (XP := XL vq []) (Yf := Hook.obs $H) (Ya := Hook.val $H) (YP := Hook.says $H) (N := 2592) ?hl (Hook.of $H) (Hook.keeps $H) (fun s e => xl_of s (Bool.and_eq_true_iff.mp e).1) XL.keeps (by rfl) (by rfl) (by rfl) (fun s e => recFacts_of (Bool.and_eq_true_iff.mp e).2) (by rfl) (by first | assumption | decide +kernel) (by decide +kernel) ⟨rfl, rfl, rfl, rfl, rfl, by decide +kernel⟩ ?hw ?hc
  case hl =>
    refine left_of_boot (by kernel_rfl) (by kernel_rfl) (fun s => by kernel_rfl) (fun w => by kernel_rfl) fun w => ?_
    rw [PySem.W.Fast.te14082659384304107361, PySem.W.Fast.te14364793385576792824, PySem.W.Fast.te4187177175401517315]
    kernel_rfl))
open_top hd for PySem.Challenge.rw_nz0012_01
end Mine
end
section
open PySem PySem.W PyProof.Rows
set_option maxRecDepth 100000
set_option maxHeartbeats 4000000
namespace Mine
noncomputable abbrev KK (P : Params) : Frag := hd.heap_39 P
def IsFn (a : Addr) (fd : FuncData) : Prop := ∀ P, (KK P).lookup a = some ⟨.type "function", none, .func fd, #[]⟩
noncomputable def draw' : {fd : FuncData // IsFn 171 fd} := ⟨_, fun P => by with_unfolding_all rfl⟩
noncomputable def drawFd : FuncData := draw'.1
theorem draw_look : IsFn 171 drawFd := draw'.2
theorem draw_cd (P : Params) : codeIn (KK P) drawFd.code drawFd.qualname = true := by kernel_rfl!
noncomputable def src' : {fd : FuncData // IsFn 176 fd} := ⟨_, fun P => by with_unfolding_all rfl⟩
noncomputable def srcFd : FuncData := src'.1
theorem src_look : IsFn 176 srcFd := src'.2
theorem src_cd (P : Params) : codeIn (KK P) srcFd.code srcFd.qualname = true := by kernel_rfl!
noncomputable def words' : {fd : FuncData // IsFn 181 fd} := ⟨_, fun P => by with_unfolding_all rfl⟩
noncomputable def wordsFd : FuncData := words'.1
theorem words_look : IsFn 181 wordsFd := words'.2
theorem words_cd (P : Params) : codeIn (KK P) wordsFd.code wordsFd.qualname = true := by kernel_rfl!
noncomputable def fend' : {fd : FuncData // IsFn 188 fd} := ⟨_, fun P => by with_unfolding_all rfl⟩
noncomputable def fendFd : FuncData := fend'.1
theorem fend_look : IsFn 188 fendFd := fend'.2
theorem fend_cd (P : Params) : codeIn (KK P) fendFd.code fendFd.qualname = true := by kernel_rfl!
noncomputable def mach' : {fd : FuncData // IsFn 193 fd} := ⟨_, fun P => by with_unfolding_all rfl⟩
noncomputable def machFd : FuncData := mach'.1
theorem mach_look : IsFn 193 machFd := mach'.2
theorem mach_cd (P : Params) : codeIn (KK P) machFd.code machFd.qualname = true := by kernel_rfl!
noncomputable def lay' : {fd : FuncData // IsFn 198 fd} := ⟨_, fun P => by with_unfolding_all rfl⟩
noncomputable def layFd : FuncData := lay'.1
theorem lay_look : IsFn 198 layFd := lay'.2
theorem lay_cd (P : Params) : codeIn (KK P) layFd.code layFd.qualname = true := by kernel_rfl!
noncomputable def pinit' : {fd : FuncData // IsFn 35 fd} := ⟨_, fun P => by with_unfolding_all rfl⟩
noncomputable def pinitFd : FuncData := pinit'.1
theorem pinit_look : IsFn 35 pinitFd := pinit'.2
theorem pinit_cd (P : Params) : codeIn (KK P) pinitFd.code pinitFd.qualname = true := by kernel_rfl!
noncomputable def rinit' : {fd : FuncData // IsFn 79 fd} := ⟨_, fun P => by with_unfolding_all rfl⟩
noncomputable def rinitFd : FuncData := rinit'.1
theorem rinit_look : IsFn 79 rinitFd := rinit'.2
theorem rinit_cd (P : Params) : codeIn (KK P) rinitFd.code rinitFd.qualname = true := by kernel_rfl!
noncomputable def reach' : {fd : FuncData // IsFn 98 fd} := ⟨_, fun P => by with_unfolding_all rfl⟩
noncomputable def reachFd : FuncData := reach'.1
theorem reach_look : IsFn 98 reachFd := reach'.2
theorem reach_cd (P : Params) : codeIn (KK P) reachFd.code reachFd.qualname = true := by kernel_rfl!
noncomputable def alive' : {fd : FuncData // IsFn 103 fd} := ⟨_, fun P => by with_unfolding_all rfl⟩
noncomputable def aliveFd : FuncData := alive'.1
theorem alive_look : IsFn 103 aliveFd := alive'.2
theorem alive_cd (P : Params) : codeIn (KK P) aliveFd.code aliveFd.qualname = true := by kernel_rfl!
noncomputable def supp' : {fd : FuncData // IsFn 138 fd} := ⟨_, fun P => by with_unfolding_all rfl⟩
noncomputable def suppFd : FuncData := supp'.1
theorem supp_look : IsFn 138 suppFd := supp'.2
theorem supp_cd (P : Params) : codeIn (KK P) suppFd.code suppFd.qualname = true := by kernel_rfl!
end Mine
end
section
open PySem PySem.W PyProof.Rows
set_option maxRecDepth 100000
set_option maxHeartbeats 4000000
namespace Mine
section
variable {prog : Program} {w : World} {A : Around} {E : Value → Shared → Prop} {mg mb : Str → Option Value}
theorem log_small {a b : Nat} (h : a < 2 ^ b) : a.log2 < b + 1 := by
  by_cases h0 : a = 0
  · subst h0; simp
  · exact Nat.lt_succ_of_lt ((Nat.log2_lt h0).mpr h)
theorem bits_small {a : Int} (h : a.natAbs < 2 ^ 60) : Builtin.Int.intBits a ≤ 64 := by
  unfold Builtin.Int.intBits
  have := log_small h
  split <;> omega
/-- the dict that draws count in -/
def srcO (prog : Program) (w : World) (cl : Addr) (k : Nat) (o : Obj) : Prop :=
  ∃ t, o.IsDictOf (PySem.strKind prog w) [(Str.ofString "cells", .ref cl), (Str.ofString "spot", .int k t)]
def CellsAt (h : Heap) (cl : Addr) (cs : List Int) : Prop := Rd h (.ref cl) (.list (cs.map .int)) ∧ cs ≠ [] ∧ cs.length ≤ 100 ∧ ∀ c ∈ cs, 0 ≤ c ∧ c < 10000000
theorem ref_call {a : Addr} {vals : List Value} {Q : Value → Shared → Prop} {M : Model} {s : Shared} (h : codeAny M A (.call (.ref a) ⟨vals, []⟩) (fun r s' => match r with | .ok (.ret v) => Q v s' | .ok _ => False | .error e => E e s') s) :
    wpAny M A (call (.ref a) vals) Q E s := wpAny_call h

local macro_rules | `(tactic| walk_at "mm") => `(tactic| (repeat (first | with_reducible exact upd_same | (refine upd_get (by kernel_rfl!) ?_) | assumption)))
set_option pp.maxSteps 3000
set_option pp.deepTerms false
set_option pp.deepTerms.threshold 4
theorem draw_spec {n : Nat} (hA : AOk (n + 1) A) {g : Fz} {s : Shared} {D cl : Addr} {cs : List Int} {o : Obj} {k : Nat} {many : Int} {t : Tok} {Q : Value → Shared → Prop}
    (S : Sub g s.heap) (up : ∀ h, Sub g h → Gl (KK w.params) mg mb h ∧ CellsAt h cl cs) (hD : s.heap.get? D = some o) (gD : g D = none) (ho : srcO prog w cl k o)
    (hm : 0 < many) (hk : k ≤ 1000)
    (h : ∀ r t' o' g' s', 0 ≤ r → r < many → Ev [D] g s g' s' → s'.heap.get? D = some o' → srcO prog w cl (k + 1) o' → Q (.int r t') s') :
    wpAny (model prog w) A (call (.ref 171) [.ref D, .int many t]) Q NE s := by
  have G := (up _ S).1
  refine wpAny_call (x_enter (fd := drawFd) [(D, o)] S up G hA (by simp [hD, gD]) (by simp) (draw_look _) (draw_cd _) rfl (by kernel_rfl!) (by kernel_rfl!) (by kernel_rfl!) (by kernel_rfl!) (by kernel_rfl!) (by kernel_rfl!) fun L s₁ hL X W => ?_)
  have e1 : (bindL (callEnvC drawFd L 171).kindOf ((drawFd.params.args.map (·.arg)).zip [Value.ref D, Value.int many t]) fun _ => none) "src" = some (.ref D) := by kernel_rfl!
  have e2 : (bindL (callEnvC drawFd L 171).kindOf ((drawFd.params.args.map (·.arg)).zip [Value.ref D, Value.int many t]) fun _ => none) "many" = some (.int many t) := by kernel_rfl!
  generalize (bindL (callEnvC drawFd L 171).kindOf ((drawFd.params.args.map (·.arg)).zip [Value.ref D, Value.int many t]) fun _ => none) = m at X e1 e2
  generalize (bindC (callEnvC drawFd L 171).kindOf ((drawFd.params.args.map (·.arg)).zip [Value.ref D, Value.int many t]) fun _ => none) = kc at X
  refine wpAny_execs_cons ?_
  refine Assign_Tuple_swapped ?_ (by with_unfolding_all rfl) (by with_unfolding_all rfl)
  refine Tuple_ (args2 (Subscript_ ?_))
  refine x_local X e1 (x_str X fun t1 s2 X => ?_)
  obtain ⟨tk, ho⟩ := ho
  refine x_item_dict X (List.mem_singleton.mpr rfl) ho (v := .ref cl) (by kernel_rfl!) fun s3 X => ?_
  refine args2 (Subscript_ ?_)
  refine x_local X e1 (x_str X fun t2 s4 X => ?_)
  refine x_item_dict X (List.mem_singleton.mpr rfl) ho (v := .int k tk) (by kernel_rfl!) fun s5 X => ?_
  refine args0 ?_
  refine x_tupleI X (by simp [sizeLine_eq]) fun a g1 s6 X => ?_
  refine x_unpack X hA.hh X.now.2 rfl fun s7 X => ?_
  refine assignInOrder_cons (bindName_ (st_local X W fun s8 X => assignInOrder_cons (bindName_ (st_local X W fun s9 X => assignInOrder_nil ?_))))
  dsimp only
  refine wpAny_execs_cons (wpAny_Assign_Subscript ?_ (by with_unfolding_all rfl))
  refine wpAny_BinOp (x_local X (by walk_at "mm") (x_int X fun t3 s10 X => x_add X fun t4 s11 X => ?_))
  refine x_local X (by walk_at "mm") (x_str X fun t5 s12 X => ?_)
  refine x_set_dict (mu₁ := []) X ho (by simp [sizeLine_eq]) fun o2 s13 ho2 X => ?_
  dsimp only
  refine wpAny_execs_cons (wpAny_Return_some ?_)
  obtain ⟨⟨G, hcl, hne, hlen, hcs⟩, -⟩ := X.now
  obtain ⟨a0, vs, e0, hl, rl⟩ := hcl.list_inv
  cases e0
  have hvl : vs.length = cs.length := by rw [rl.length]; simp
  have hpos : 0 < cs.length := List.length_pos_iff.mpr hne
  have hkm : Int.fmod (k : Int) (cs.length : Int) = ((k % cs.length : Nat) : Int) := by rw [Int.fmod_eq_emod_of_nonneg _ (by omega)]; rfl
  have hkl : k % cs.length < cs.length := Nat.mod_lt _ hpos
  refine wpAny_BinOp (wpAny_BinOp (Subscript_ (x_local X (by walk_at "mm") (wpAny_BinOp (x_local X (by walk_at "mm") (Call_ ?_))))))
  refine x_blt X.now.1.1 (v := .builtin "len") (by kernel_rfl!) (by kernel_rfl!) ?_
  refine PyProof.Rows.callWith_builtin1 (args2 (x_local X (by walk_at "mm") (args0 ?_)))
  refine x_len X hl (by omega) fun t6 s14 X => ?_
  rw [hvl]
  refine x_mod X (by omega) fun t7 s15 X => ?_
  rw [hkm]
  obtain ⟨c, hc⟩ : ∃ c, cs[k % cs.length]? = some c := ⟨_, List.getElem?_eq_getElem hkl⟩
  refine x_item_listD (X.now.1.2.1) (by omega) (by omega) (d := .int c) (by rw [Int.toNat_natCast, List.getElem?_map, hc]; rfl) fun v rv => ?_
  obtain ⟨t8, rfl⟩ := rv.int_inv
  have hc0 := hcs c (List.mem_of_getElem? hc)
  have hdiv : (k : Int).fdiv (cs.length : Int) = ((k / cs.length : Nat) : Int) := by rw [Int.fdiv_eq_ediv_of_nonneg _ (by omega)]; rfl
  have hdl : k / cs.length ≤ k := Nat.div_le_self _ _
  generalize k / cs.length = q at hdiv hdl
  refine wpAny_BinOp (wpAny_BinOp (x_local X (by walk_at "mm") (Call_ ?_)))
  refine x_blt X.now.1.1 (v := .builtin "len") (by kernel_rfl!) (by kernel_rfl!) ?_
  refine PyProof.Rows.callWith_builtin1 (args2 (x_local X (by walk_at "mm") (args0 ?_)))
  obtain ⟨a0', vs', e0', hl', rl'⟩ := X.now.1.2.1.list_inv
  cases e0'
  have hvl' : vs'.length = cs.length := by rw [rl'.length]; simp
  refine x_len X hl' (by omega) fun t9 s16 X => ?_
  rw [hvl']
  refine x_fdiv X (by omega) (PyProof.noPylong_of_log2 ?_) fun t10 s17 X => ?_
  · have := log_small (a := (cs.length : Int).natAbs) (b := 7) (Nat.lt_of_le_of_lt hlen (by decide))
    omega
  rw [hdiv]
  refine wpAny_BinOp (wpAny_BinOp (x_int X fun t11 s18 X => x_local X (by walk_at "mm") (x_mul X (.of_left (bits_small (by decide))) fun t12 s19 X => ?_)))
  refine x_int X fun t13 s20 X => x_add X fun t14 s21 X => ?_
  refine x_mul X (.of_left (bits_small (by omega))) fun t15 s22 X => ?_
  refine x_add X fun t16 s23 X => ?_
  refine x_local X (by walk_at "mm") (x_mod X (by omega) fun t17 s24 X => ?_)
  have hnn : (0 : Int) ≤ (q : Int) * (2 * (k : Int) + 1) := Int.mul_nonneg (Int.natCast_nonneg _) (by omega)
  refine h _ _ o2 _ _ ?_ ?_ X.ev (X.tx.mus _ (List.mem_singleton.mpr rfl)).1 ⟨_, ho2⟩
  · rw [Int.fmod_eq_emod_of_nonneg _ (by omega)]; exact Int.emod_nonneg _ (by omega)
  · rw [Int.fmod_eq_emod_of_nonneg _ (by omega)]; exact Int.emod_lt_of_pos _ hm
end
end Mine
end
section
open PySem PySem.W PyProof.Rows
set_option maxRecDepth 100000
set_option maxHeartbeats 4000000
local macro_rules | `(tactic| walk_at "mm") => `(tactic| (repeat (first | with_reducible exact upd_same | (refine upd_get (by kernel_rfl!) ?_) | assumption)))
namespace Mine
def dInts (l : List Int) : List PyData := l.map PyData.int
def rowsD (R : List (List Int)) : PyData := .tuple (R.map fun r => .tuple (dInts r))
/-- the table: S states, T letters -/
structure Mach (S T : Nat) (R : List (List Int)) : Prop where
  rows : R.length = S
  row : ∀ r ∈ R, r.length = T ∧ ∀ x ∈ r, 0 ≤ x ∧ x ≤ S
  hS : 1 ≤ S ∧ S ≤ 3
  hT : 1 ≤ T ∧ T ≤ 3
def cellR (R : List (List Int)) (st a : Int) : Int := ((R[(st - 1).toNat]?.getD [])[(a - 1).toNat]?).getD 0
def stepR (R : List (List Int)) (st a : Int) : Int := if 0 < st then cellR R st a else 0
def endR (R : List (List Int)) (st : Int) (word : List Int) : Int := word.foldl (stepR R) st
theorem endR_snoc {R : List (List Int)} {st a : Int} {l : List Int} : endR R st (l ++ [a]) = stepR R (endR R st l) a := by simp [endR, List.foldl_append]
theorem Mach.at {S T : Nat} {R : List (List Int)} (M : Mach S T R) {st a : Int} (h1 : 1 ≤ st) (h2 : st ≤ S) (h3 : 1 ≤ a) (h4 : a ≤ T) :
    ∃ r, R[(st - 1).toNat]? = some r ∧ r[(a - 1).toNat]? = some (cellR R st a) ∧ 0 ≤ cellR R st a ∧ cellR R st a ≤ S := by
  have hi : (st - 1).toNat < R.length := by rw [M.rows]; omega
  have hr := List.getElem?_eq_getElem hi
  have hm := M.row _ (List.getElem_mem hi)
  have hj : (a - 1).toNat < (R[(st - 1).toNat]'hi).length := by rw [hm.1]; omega
  have hc := List.getElem?_eq_getElem hj
  have e : cellR R st a = (R[(st - 1).toNat]'hi)[(a - 1).toNat]'hj := by unfold cellR; rw [hr, Option.getD_some, hc, Option.getD_some]
  have hx := hm.2 _ (List.getElem_mem hj)
  exact ⟨_, hr, by rw [e]; exact hc, by rw [e]; exact hx.1, by rw [e]; exact hx.2⟩
theorem Mach.step {S T : Nat} {R : List (List Int)} (M : Mach S T R) {st a : Int} (h1 : 0 ≤ st) (h2 : st ≤ S) (h3 : 1 ≤ a) (h4 : a ≤ T) : 0 ≤ stepR R st a ∧ stepR R st a ≤ S := by
  unfold stepR
  split
  · obtain ⟨r, _, _, a1, a2⟩ := M.at (st := st) (by omega) h2 h3 h4; exact ⟨a1, a2⟩
  · exact ⟨Int.le_refl _, by omega⟩
section
variable {prog : Program} {w : World} {A : Around} {E : Value → Shared → Prop} {mg mb : Str → Option Value}
theorem end_spec {n S T : Nat} (hA : AOk (n + 1) A) {g : Fz} {s : Shared} {R : List (List Int)} {word : List Int} {st : Int} {t : Tok} {vR vW : Value} {Q : Value → Shared → Prop}
    (Sb : Sub g s.heap) (up : ∀ h, Sub g h → Gl (KK w.params) mg mb h ∧ Rd h vR (rowsD R) ∧ Rd h vW (.tuple (dInts word)))
    (M : Mach S T R) (h0 : 0 ≤ st) (h1 : st ≤ S) (hw : ∀ a ∈ word, 1 ≤ a ∧ a ≤ T)
    (h : ∀ t' g' s', Ev [] g s g' s' → 0 ≤ endR R st word → endR R st word ≤ S → Q (.int (endR R st word) t') s') :
    wpAny (model prog w) A (call (.ref 188) [vR, .int st t, vW]) Q NE s := by
  have G := (up _ Sb).1
  refine wpAny_call (x_enter (fd := fendFd) [] Sb up G hA (fun p hp => nomatch hp) List.nodup_nil (fend_look _) (fend_cd _) rfl (by kernel_rfl!) (by kernel_rfl!) (by kernel_rfl!) (by kernel_rfl!) (by kernel_rfl!) (by kernel_rfl!) fun L s₁ hL X W => ?_)
  have e1 : (bindL (callEnvC fendFd L 188).kindOf ((fendFd.params.args.map (·.arg)).zip [vR, .int st t, vW]) fun _ => none) "rows" = some vR := by kernel_rfl!
  have e2 : (bindL (callEnvC fendFd L 188).kindOf ((fendFd.params.args.map (·.arg)).zip [vR, .int st t, vW]) fun _ => none) "state" = some (.int st t) := by kernel_rfl!
  have e3 : (bindL (callEnvC fendFd L 188).kindOf ((fendFd.params.args.map (·.arg)).zip [vR, .int st t, vW]) fun _ => none) "word" = some vW := by kernel_rfl!
  generalize (bindL (callEnvC fendFd L 188).kindOf ((fendFd.params.args.map (·.arg)).zip [vR, .int st t, vW]) fun _ => none) = m at X e1 e2 e3
  generalize (bindC (callEnvC fendFd L 188).kindOf ((fendFd.params.args.map (·.arg)).zip [vR, .int st t, vW]) fun _ => none) = kc at X
  refine wpAny_execs_cons (wpAny_For ?_)
  obtain ⟨wa, ws, rfl, X⟩ := X.pinTup (v := vW) (ds := dInts word) (fun h c => c.2.2)
  refine x_local X e3 ?_
  have rws := X.now.2.2
  have hlen : ws.length = word.length := by rw [rws.length]; simp [dInts]
  have bound : ∀ i, 0 ≤ endR R st (word.take i) ∧ endR R st (word.take i) ≤ S := by
    intro i
    induction i with
    | zero => exact ⟨h0, h1⟩
    | succ i ih =>
      by_cases hi : i < word.length
      · have e : word.take (i + 1) = word.take i ++ [word[i]] := by rw [List.take_add_one, List.getElem?_eq_getElem hi]; rfl
        have hx := hw _ (List.getElem_mem hi)
        rw [e, endR, List.foldl_append]
        exact M.step ih.1 ih.2 hx.1 hx.2
      · rw [List.take_of_length_le (by omega)] at ih ⊢; exact ih
  refine x_iter_tup X hA.hh X.now.2.1 fun I oI s2 it p0 hI X => ?_
  refine x_loop (F₀ := fun _ => True) (fun i m₁ k₁ mu₁ F₁ => (∃ t', m₁ "state" = some (.int (endR R st (word.take i)) t')) ∧ m₁ "rows" = some vR) (fun _ _ _ _ _ => False) X hI W it p0 (fun h c => c.2.1) (fun _ _ => trivial) ⟨⟨t, e2⟩, e1⟩ (cells_ok (by kernel_rfl!)) ?_ ?_ ?_
  · intro i v m₁ k₁ mu₁ F₁ g₁ s₁ hi hv hJ hmu X
    obtain ⟨⟨t', es⟩, er⟩ := hJ
    have hv' : ws[i]? = some v := by simpa using hv
    obtain ⟨d, hd, rv⟩ := rws.get hv'
    have hi' : i < word.length := by rw [← hlen]; exact (List.getElem?_eq_some_iff.mp hv').1
    have hd' : d = .int word[i] := by
      unfold dInts at hd
      rw [List.getElem?_map, List.getElem?_eq_getElem hi'] at hd
      exact (Option.some.inj hd).symm
    subst hd'
    obtain ⟨tv, rfl⟩ := rv.int_inv
    have hx := hw _ (List.getElem_mem hi')
    have hb := bound i
    have e : word.take (i + 1) = word.take i ++ [word[i]] := by rw [List.take_add_one, List.getElem?_eq_getElem hi']; rfl
    have W := fw_loop (s := s₁) (env := callEnvC fendFd L 188) (adr := [])
    refine wpAny_assign_Name (st_local X W fun s3 X => ?_)
    refine wpAny_execs_cons (wpAny_Assign_Name (IfExp_ (wpAny_isTrue_Compare1 (x_local X (ug es) (x_int X fun t1 s4 X => gt_int (wpAny_truthy_bool ?_))))))
    split
    · rename_i hpos
      have hpos : 0 < endR R st (word.take i) := of_decide_eq_true hpos
      obtain ⟨r, hr, hc, -⟩ := M.at (st := endR R st (word.take i)) (a := word[i]) (by omega) hb.2 hx.1 hx.2
      refine Subscript_ (Subscript_ (x_local X (ug er) (wpAny_BinOp (x_local X (ug es) (x_int X fun t2 s5 X => x_sub X fun t3 s6 X => ?_)))))
      refine x_item_tupF X (fun h c => c.1.1.2.1) (by omega) (by have := M.hS; omega) (d := .tuple (dInts r)) (by rw [List.getElem?_map, hr]; rfl) fun v1 X => ?_
      refine wpAny_BinOp (x_local X us (x_int X fun t4 s7 X => x_sub X fun t5 s8 X => ?_))
      refine x_item_tupD X.now.2 (by omega) (by have := M.hT; omega) (d := .int (cellR R (endR R st (word.take i)) word[i])) (by unfold dInts; rw [List.getElem?_map, hc]; rfl) fun v2 rv2 => ?_
      obtain ⟨t6, rfl⟩ := rv2.int_inv
      refine st_local X W fun s9 X => wpAny_execs_nil ⟨_, _, _, _, _, X.weaken fun h c => c.1, ⟨⟨t6, ?_⟩, ug (ug er)⟩, hmu⟩
      rw [e, endR_snoc, stepR, if_pos hpos]
      exact us
    · rename_i hpos
      have hpos : ¬ 0 < endR R st (word.take i) := fun q => hpos (decide_eq_true q)
      refine x_int X fun t2 s5 X => ?_
      refine st_local X W fun s9 X => wpAny_execs_nil ⟨_, _, _, _, _, X, ⟨⟨t2, ?_⟩, ug (ug er)⟩, hmu⟩
      rw [e, endR_snoc, stepR, if_neg hpos]
      exact us
  · intro m' k' mu' F' g' s' hJ hmu X
    obtain ⟨⟨t', es⟩, -⟩ := hJ
    rw [List.size_toArray, hlen, List.take_length] at es
    have hb := bound word.length
    rw [List.take_length] at hb
    refine wpAny_execs_cons (wpAny_Return_some (x_local X es ?_))
    exact h t' _ _ X.ev hb.1 hb.2
  · intro v m' k' mu' F' g' s' hJ
    exact hJ.elim
end
end Mine
end
section
open PySem PySem.W PyProof.Rows
set_option maxRecDepth 100000
set_option maxHeartbeats 4000000
namespace Mine
/-- the object of Regular -/
def RuleAt (h : Heap) (x : Addr) (S st : Int) (vR vF : Value) : Prop := ∃ dx es n t1 t2, h.get? x = some (instObj 162 dx) ∧ h.get? dx = some (dictOf es n) ∧
  getL "states" es = some (some (.int S t1)) ∧ getL "rows" es = some (some vR) ∧ getL "start" es = some (some (.int st t2)) ∧ getL "finals" es = some (some vF) ∧
  getL "reached_of" es = some none ∧ getL "alive_of" es = some none ∧ getL "has_support" es = some none ∧ handedIn vR = true ∧ handedIn vF = true
section
variable {prog : Program} {w : World} {M : Model} {A : Around} {E : Value → Shared → Prop}
variable {wr wr' : List Addr} {g₀ g g' : Fz} {s₀ s s' : Shared} {env : Env} {C C' : Heap → Prop} {m k : Str → Option Value} {mu : List (Addr × Obj)}
variable {mg mb : Str → Option Value}
theorem x_attr {x : Addr} {dx : Addr} {es : List DictEntry} {n : Nat} {name : Str} {v : Value} {expr : Bool} {Q : Value → Shared → Prop} (X : Sx wr g₀ s₀ env C g m k mu s) (G : Gl (KK w.params) mg mb s.heap)
    (h1 : s.heap.get? x = some (instObj 162 dx)) (h2 : s.heap.get? dx = some (dictOf es n)) (hl : getL name es = some (some v)) (hv : handedIn v = true) (h : ∀ s', Sx wr g₀ s₀ env C g m k mu s' → Q v s')
    (hg : plainGet (KK w.params) 162 name = true := by kernel_rfl!) (ha : findIn (KK w.params) (.ref 162) name = some none := by kernel_rfl!) (hh : hasDictIn (KK w.params) 162 = true := by kernel_rfl!)
    (hn : noGet (KK w.params) none = true := by kernel_rfl!) :
    wpAny (model prog w) A (getAttr (.ref x) name expr) Q E s :=
  get_value G.inK (od := some (dictOf es n)) ⟨h1, rfl, rfl, h2⟩ (plainGet_of hg).1 (findObj_own hh ha hn hl) hv (h _ (X.toks _))
theorem x_states {x : Addr} {S st : Int} {vR vF : Value} {expr : Bool} {Q : Value → Shared → Prop} (X : Sx wr g₀ s₀ env C g m k mu s) (G : Gl (KK w.params) mg mb s.heap) (r : RuleAt s.heap x S st vR vF)
    (h : ∀ t s', Sx wr g₀ s₀ env C g m k mu s' → Q (.int S t) s') : wpAny (model prog w) A (getAttr (.ref x) "states" expr) Q E s := by
  obtain ⟨dx, es, n, t1, t2, h1, h2, a1, a2, a3, a4, b1, b2, b3, c1, c2⟩ := r
  exact x_attr X G h1 h2 a1 rfl (h _)
theorem x_rows {x : Addr} {S st : Int} {vR vF : Value} {expr : Bool} {Q : Value → Shared → Prop} (X : Sx wr g₀ s₀ env C g m k mu s) (G : Gl (KK w.params) mg mb s.heap) (r : RuleAt s.heap x S st vR vF)
    (h : ∀ s', Sx wr g₀ s₀ env C g m k mu s' → Q vR s') : wpAny (model prog w) A (getAttr (.ref x) "rows" expr) Q E s := by
  obtain ⟨dx, es, n, t1, t2, h1, h2, a1, a2, a3, a4, b1, b2, b3, c1, c2⟩ := r
  exact x_attr X G h1 h2 a2 c1 h
theorem x_start {x : Addr} {S st : Int} {vR vF : Value} {expr : Bool} {Q : Value → Shared → Prop} (X : Sx wr g₀ s₀ env C g m k mu s) (G : Gl (KK w.params) mg mb s.heap) (r : RuleAt s.heap x S st vR vF)
    (h : ∀ t s', Sx wr g₀ s₀ env C g m k mu s' → Q (.int st t) s') : wpAny (model prog w) A (getAttr (.ref x) "start" expr) Q E s := by
  obtain ⟨dx, es, n, t1, t2, h1, h2, a1, a2, a3, a4, b1, b2, b3, c1, c2⟩ := r
  exact x_attr X G h1 h2 a3 rfl (h _)
theorem x_finals {x : Addr} {S st : Int} {vR vF : Value} {expr : Bool} {Q : Value → Shared → Prop} (X : Sx wr g₀ s₀ env C g m k mu s) (G : Gl (KK w.params) mg mb s.heap) (r : RuleAt s.heap x S st vR vF)
    (h : ∀ s', Sx wr g₀ s₀ env C g m k mu s' → Q vF s') : wpAny (model prog w) A (getAttr (.ref x) "finals" expr) Q E s := by
  obtain ⟨dx, es, n, t1, t2, h1, h2, a1, a2, a3, a4, b1, b2, b3, c1, c2⟩ := r
  exact x_attr X G h1 h2 a4 c2 h

def dBools (l : List Bool) : List PyData := l.map PyData.bool
def tabD (re : List (List Bool)) : PyData := .list (re.map fun l => .list (dBools l))
def suppAt (R : List (List Int)) (rl ll : List Bool) (a : Int) (j : Nat) : Bool := rl.getD (j + 1) false && ll.getD (cellR R ((j : Int) + 1) a).toNat false
theorem supp_spec {n S T : Nat} (hA : AOk (n + 1) A) {g : Fz} {s : Shared} {R : List (List Int)} {re al : List (List Bool)} {rl ll : List Bool} {x : Addr} {st : Int} {spot : Nat} {a : Int} {t u : Tok} {vR vF vre val : Value} {Q : Value → Shared → Prop}
    (Sb : Sub g s.heap) (up : ∀ h, Sub g h → Gl (KK w.params) mg mb h ∧ RuleAt h x S st vR vF ∧ Rd h vR (rowsD R) ∧ Rd h vre (tabD re) ∧ Rd h val (tabD al))
    (M : Mach S T R) (h1 : re[spot]? = some rl) (h2 : al[spot + 1]? = some ll) (l1 : rl.length = S + 1) (l2 : ll.length = S + 1) (ha : 1 ≤ a ∧ a ≤ T) (hsp : spot ≤ 1000)
    (h : ∀ g' s', Ev [] g s g' s' → Q (.bool ((List.range S).any (suppAt R rl ll a))) s') :
    wpAny (model prog w) A (call (.ref 138) [.ref x, vre, val, .int spot t, .int a u]) Q NE s := by
  have G := (up _ Sb).1
  refine wpAny_call (x_enter (fd := suppFd) [] Sb up G hA (fun p hp => nomatch hp) List.nodup_nil (supp_look _) (supp_cd _) rfl (by kernel_rfl!) (by kernel_rfl!) (by kernel_rfl!) (by kernel_rfl!) (by kernel_rfl!) (by kernel_rfl!) fun L s₁ hL X W => ?_)
  have e1 : (bindL (callEnvC suppFd L 138).kindOf ((suppFd.params.args.map (·.arg)).zip [.ref x, vre, val, .int spot t, .int a u]) fun _ => none) "self" = some (.ref x) := by kernel_rfl!
  have e2 : (bindL (callEnvC suppFd L 138).kindOf ((suppFd.params.args.map (·.arg)).zip [.ref x, vre, val, .int spot t, .int a u]) fun _ => none) "reached" = some vre := by kernel_rfl!
  have e3 : (bindL (callEnvC suppFd L 138).kindOf ((suppFd.params.args.map (·.arg)).zip [.ref x, vre, val, .int spot t, .int a u]) fun _ => none) "alive" = some val := by kernel_rfl!
  have e4 : (bindL (callEnvC suppFd L 138).kindOf ((suppFd.params.args.map (·.arg)).zip [.ref x, vre, val, .int spot t, .int a u]) fun _ => none) "spot" = some (.int spot t) := by kernel_rfl!
  have e5 : (bindL (callEnvC suppFd L 138).kindOf ((suppFd.params.args.map (·.arg)).zip [.ref x, vre, val, .int spot t, .int a u]) fun _ => none) "a" = some (.int a u) := by kernel_rfl!
  generalize (bindL (callEnvC suppFd L 138).kindOf ((suppFd.params.args.map (·.arg)).zip [.ref x, vre, val, .int spot t, .int a u]) fun _ => none) = m at X e1 e2 e3 e4 e5
  generalize (bindC (callEnvC suppFd L 138).kindOf ((suppFd.params.args.map (·.arg)).zip [.ref x, vre, val, .int spot t, .int a u]) fun _ => none) = kc at X
  have hS := M.hS
  refine wpAny_execs_cons (wpAny_For (Call_ (x_blt X.now.1 (v := .type "range") (by kernel_rfl!) (by kernel_rfl!) (PyProof.Rows.callWith_type1 (args2 (x_int X fun t1 s2 X => args2 (wpAny_BinOp (Attribute_Name_ (x_local X e1 ?_))))))))) 
  refine x_states X X.now.1 X.now.2.1 fun t2 s3 X => x_int X fun t3 s4 X => x_add X fun t4 s5 X => args0 ?_
  refine x_range2 X fun r g1 s6 X => ?_
  refine x_iter_rng (n := S) X hA.hh X.now.2 (by omega) fun I oI s7 it p0 hI X => ?_
  refine x_loop (F₀ := fun _ => True) (fun i m₁ k₁ mu₁ F₁ => (∀ j, j < i → suppAt R rl ll a j = false) ∧ m₁ "self" = some (.ref x) ∧ m₁ "reached" = some vre ∧ m₁ "alive" = some val ∧ m₁ "spot" = some (.int spot t) ∧ m₁ "a" = some (.int a u))
    (fun v _ _ _ _ => v = .bool true ∧ ∃ j, j < S ∧ suppAt R rl ll a j = true) X hI W it p0 (fun _ _ => trivial) (fun _ _ => trivial) ⟨fun j hj => absurd hj (Nat.not_lt_zero j), e1, e2, e3, e4, e5⟩ (cells_ok (by kernel_rfl!)) ?_ ?_ ?_
  · intro i v m₁ k₁ mu₁ F₁ g₁ s₁ hi hv hJ hmu X
    obtain ⟨hj, e1, e2, e3, e4, e5⟩ := hJ
    obtain ⟨tv, rfl⟩ := hv
    have W := fw_loop (s := s₁) (env := callEnvC suppFd L 138) (adr := [])
    obtain ⟨b1, hb1⟩ : ∃ b, rl[i + 1]? = some b := ⟨_, List.getElem?_eq_getElem (by omega)⟩
    obtain ⟨rw', hrw, hcell, hc0, hc1⟩ := M.at (st := (i : Int) + 1) (a := a) (by omega) (by omega) ha.1 ha.2
    obtain ⟨b2, hb2⟩ : ∃ b, ll[(cellR R ((i : Int) + 1) a).toNat]? = some b := ⟨_, List.getElem?_eq_getElem (by omega)⟩
    have hsup : suppAt R rl ll a i = (b1 && b2) := by unfold suppAt; rw [List.getD_eq_getElem?_getD, List.getD_eq_getElem?_getD, hb1, hb2]; rfl
    refine wpAny_assign_Name (st_local X W fun s3 X => ?_)
    refine wpAny_execs_cons (wpAny_If (isTrue_and (isTrue_plain (Subscript_ (Subscript_ (x_local X (ug e2) (x_local X (ug e4) ?_)))))))
    refine x_item_listF X (fun h c => c.1.1.2.2.2.1) (by omega) (by omega) (d := .list (dBools rl)) (by rw [Int.toNat_natCast, List.getElem?_map, h1]; rfl) fun v1 X => ?_
    refine x_local X us ?_
    refine x_item_listF X (fun h c => c.2) (by omega) (by omega) (d := .bool b1) (by unfold dBools; rw [List.getElem?_map, show (1 + (i : Int)).toNat = i + 1 by omega, hb1]; rfl) fun v2 X => ?_
    obtain rfl := X.now.2.bool_inv
    refine wpAny_truthy_bool ?_
    have hnext : suppAt R rl ll a i = false → ∀ j, j < i + 1 → suppAt R rl ll a j = false := by
      intro hs j hj'
      rcases Nat.lt_or_ge j i with q | q
      · exact hj j q
      · obtain rfl : j = i := by omega
        exact hs
    cases b1 with
    | false =>
      exact wpAny_execs_nil (wpAny_execs_nil ⟨_, _, _, _, _, X.weaken fun h c => c.1.1, ⟨hnext (by rw [hsup]; rfl), ug e1, ug e2, ug e3, ug e4, ug e5⟩, hmu⟩)
    | true =>
      refine isTrue_and (isTrue_plain (Subscript_ (Subscript_ (x_local X (ug e3) (wpAny_BinOp (x_local X (ug e4) (x_int X fun t5 s5 X => x_add X fun t6 s6 X => ?_)))))))
      refine x_item_listF X (fun h c => c.1.1.1.1.2.2.2.2) (by omega) (by omega) (d := .list (dBools ll)) (by rw [show ((spot : Int) + 1).toNat = spot + 1 by omega, List.getElem?_map, h2]; rfl) fun v3 X => ?_
      refine Subscript_ (Subscript_ (Attribute_Name_ (x_local X (ug e1) ?_)))
      refine x_rows X X.now.1.1.1.1.1.1 X.now.1.1.1.1.1.2.1 fun s7 X => ?_
      refine wpAny_BinOp (x_local X us (x_int X fun t8 s8 X => x_sub X fun t9 s9 X => ?_))
      have e1' : (1 + (i : Int) - 1).toNat = i := by omega
      have e2' : ((i : Int) + 1 - 1).toNat = i := by omega
      rw [e2'] at hrw
      refine x_item_tupF X (fun h c => c.1.1.1.1.1.2.2.1) (by omega) (by omega) (d := .tuple (dInts rw')) (by rw [e1', List.getElem?_map, hrw]; rfl) fun v4 X => ?_
      refine wpAny_BinOp (x_local X (ug e5) (x_int X fun t10 s10 X => x_sub X fun t11 s11 X => ?_))
      refine x_item_tupF X (fun h c => c.2) (by omega) (by have := M.hT; omega) (d := .int (cellR R ((i : Int) + 1) a)) (by unfold dInts; rw [List.getElem?_map, hcell]; rfl) fun v5 X => ?_
      obtain ⟨t12, rfl⟩ := X.now.2.int_inv
      refine x_item_listF X (fun h c => c.1.1.2) hc0 (by omega) (d := .bool b2) (by unfold dBools; rw [List.getElem?_map, hb2]; rfl) fun v6 X => ?_
      obtain rfl := X.now.2.bool_inv
      refine wpAny_truthy_bool ?_
      cases b2 with
      | false =>
        exact wpAny_execs_nil (wpAny_execs_nil ⟨_, _, _, _, _, X.weaken fun h c => c.1.1.1.1.1.1, ⟨hnext (by rw [hsup]; rfl), ug e1, ug e2, ug e3, ug e4, ug e5⟩, hmu⟩)
      | true =>
        refine isTrue_and_nil ?_
        refine wpAny_execs_cons (wpAny_Return_some (Constant_bool ?_))
        exact ⟨_, _, _, _, _, X.weaken fun h c => c.1.1.1.1.1.1, ⟨rfl, i, hi, by rw [hsup]; rfl⟩, hmu⟩
  · intro m' k' mu' F' g' s' hJ hmu X
    refine wpAny_execs_cons (wpAny_Return_some (Constant_bool ?_))
    have e : (List.range S).any (suppAt R rl ll a) = false := by
      rw [List.any_eq_false]
      intro j hj
      rw [hJ.1 j (List.mem_range.mp hj)]; exact Bool.false_ne_true
    have q := h _ _ X.ev
    rw [e] at q
    exact q
  · rintro v m' k' mu' F' g' s' ⟨rfl, j, hj, hs⟩ hmu X
    have e : (List.range S).any (suppAt R rl ll a) = true := List.any_eq_true.mpr ⟨j, List.mem_range.mpr hj, hs⟩
    have q := h _ _ X.ev
    rw [e] at q
    exact q
end
end Mine
end
section
open PySem PySem.W PyProof.Rows
set_option maxRecDepth 100000
set_option maxHeartbeats 4000000
namespace Mine
def tups (ws : List (List Int)) : List PyData := ws.map fun w => .tuple (dInts w)
def stepW (found : List (List Int)) (some : List Int) : List (List Int) := found.flatMap fun w => some.map fun a => w ++ [a]
def wordsOf (lists : List (List Int)) : List (List Int) := lists.foldl stepW [[]]
def listsD (ls : List (List Int)) : PyData := .list (ls.map fun l => .list (dInts l))
theorem stepW_len {found : List (List Int)} {some : List Int} : (stepW found some).length = found.length * some.length := by
  unfold stepW
  induction found with
  | nil => simp
  | cons w r ih => simp only [List.flatMap_cons, List.length_append, List.length_map, List.length_cons, ih, Nat.succ_mul]; omega
/-- the first q words of the next table -/
theorem stepW_take {found : List (List Int)} {some : List Int} {i j : Nat} {w : List Int} {a : Int} (hi : found[i]? = Option.some w) (hj : some[j]? = Option.some a) :
    (stepW found some).take (i * some.length + j + 1) = (stepW found some).take (i * some.length + j) ++ [w ++ [a]] := by
  have key : (stepW found some)[i * some.length + j]? = Option.some (w ++ [a]) := by
    unfold stepW
    induction found generalizing i with
    | nil => simp at hi
    | cons u r ih =>
      have hjl : j < some.length := (List.getElem?_eq_some_iff.mp hj).1
      rw [List.flatMap_cons]
      cases i with
      | zero =>
        simp at hi; subst hi
        rw [Nat.zero_mul, Nat.zero_add, List.getElem?_append_left (by simpa using hjl), List.getElem?_map, hj]; rfl
      | succ i =>
        simp at hi
        rw [List.getElem?_append_right (by rw [List.length_map, Nat.succ_mul]; omega), List.length_map, show (i + 1) * some.length + j - some.length = i * some.length + j by rw [Nat.succ_mul]; omega]
        exact ih hi
  rw [List.take_add_one, key]; rfl
inductive Pick : List Int → List (List Int) → Prop
  | nil : Pick [] []
  | cons {a : Int} {l : List Int} {v : List Int} {ls : List (List Int)} (h : a ∈ l) (t : Pick v ls) : Pick (a :: v) (l :: ls)
theorem Pick.length {v : List Int} {ls : List (List Int)} (p : Pick v ls) : v.length = ls.length := by
  induction p with
  | nil => rfl
  | cons _ _ ih => simp [ih]
theorem Pick.mem {v : List Int} {ls : List (List Int)} (p : Pick v ls) : ∀ a ∈ v, ∃ l ∈ ls, a ∈ l := by
  induction p with
  | nil => intro a ha; cases ha
  | cons h _ ih =>
    intro b hb
    rcases List.mem_cons.mp hb with rfl | hb
    · exact ⟨_, List.mem_cons_self, h⟩
    · obtain ⟨l, hl, hm⟩ := ih b hb; exact ⟨l, List.mem_cons_of_mem _ hl, hm⟩
theorem mem_words' : ∀ (ls : List (List Int)) (found : List (List Int)) (w : List Int), w ∈ ls.foldl stepW found ↔ ∃ u ∈ found, ∃ v, w = u ++ v ∧ Pick v ls
  | [], found, w => by
    constructor
    · intro h; exact ⟨w, h, [], by simp, .nil⟩
    · rintro ⟨u, hu, v, rfl, p⟩; cases p; simpa using hu
  | l :: r, found, w => by
    rw [List.foldl_cons, mem_words' r]
    constructor
    · rintro ⟨u, hu, v, rfl, p⟩
      obtain ⟨u0, hu0, hm⟩ := List.mem_flatMap.mp hu
      obtain ⟨a, ha, rfl⟩ := List.mem_map.mp hm
      exact ⟨u0, hu0, a :: v, by simp, .cons ha p⟩
    · rintro ⟨u, hu, v, rfl, p⟩
      cases p with
      | cons h t => exact ⟨u ++ [_], List.mem_flatMap.mpr ⟨u, hu, List.mem_map.mpr ⟨_, h, rfl⟩⟩, _, by simp, t⟩
theorem mem_words {ls : List (List Int)} {w : List Int} : w ∈ wordsOf ls ↔ Pick w ls := by
  unfold wordsOf
  rw [mem_words']
  constructor
  · rintro ⟨u, hu, v, rfl, p⟩
    obtain rfl := List.mem_singleton.mp hu
    simpa using p
  · intro p; exact ⟨[], List.mem_singleton.mpr rfl, w, rfl, p⟩
theorem words_len : ∀ (ls : List (List Int)) (found : List (List Int)) (n : Nat), (∀ l ∈ ls, l.length ≤ 3) → found.length ≤ 3 ^ n → (ls.foldl stepW found).length ≤ 3 ^ (n + ls.length)
  | [], found, n, _, hf => hf
  | l :: r, found, n, hl, hf => by
    rw [List.foldl_cons, List.length_cons, show n + (r.length + 1) = (n + 1) + r.length by omega]
    refine words_len r _ (n + 1) (fun x hx => hl x (List.mem_cons_of_mem _ hx)) ?_
    rw [stepW_len, Nat.pow_succ]
    exact Nat.mul_le_mul hf (hl l List.mem_cons_self)
section
variable {prog : Program} {w : World} {A : Around} {E : Value → Shared → Prop} {mg mb : Str → Option Value}
theorem words_spec {n : Nat} (hA : AOk (n + 1) A) {g : Fz} {s : Shared} {ls : List (List Int)} {vL : Value} {Q : Value → Shared → Prop}
    (Sb : Sub g s.heap) (up : ∀ h, Sub g h → Gl (KK w.params) mg mb h ∧ Rd h vL (listsD ls)) (hn : ls.length ≤ 4) (hl : ∀ l ∈ ls, l.length ≤ 3)
    (h : ∀ v g' s', Ev [] g s g' s' → (∀ h, Sub g' h → Rd h v (.list (tups (wordsOf ls)))) → Q v s') :
    wpAny (model prog w) A (call (.ref 181) [vL]) Q NE s := by
  have G := (up _ Sb).1
  refine wpAny_call (x_enter (fd := wordsFd) [] Sb up G hA (fun p hp => nomatch hp) List.nodup_nil (words_look _) (words_cd _) rfl (by kernel_rfl!) (by kernel_rfl!) (by kernel_rfl!) (by kernel_rfl!) (by kernel_rfl!) (by kernel_rfl!) fun L s₁ hL X W => ?_)
  have e1 : (bindL (callEnvC wordsFd L 181).kindOf ((wordsFd.params.args.map (·.arg)).zip [vL]) fun _ => none) "lists" = some vL := by kernel_rfl!
  generalize (bindL (callEnvC wordsFd L 181).kindOf ((wordsFd.params.args.map (·.arg)).zip [vL]) fun _ => none) = m at X e1
  generalize (bindC (callEnvC wordsFd L 181).kindOf ((wordsFd.params.args.map (·.arg)).zip [vL]) fun _ => none) = kc at X
  -- found = [()]
  refine wpAny_execs_cons (wpAny_Assign_Name (List_ (args2 (Tuple_ (args0 ?_)))))
  refine x_tuple X (by simp) (ds := []) (fun h c => .nil) fun a0 g1 s2 X => args0 ?_
  refine x_list X (by simp [sizeLine_eq]) fun a1 s3 fa1 X => ?_
  obtain ⟨g2, X⟩ := X.freeze1 fa1
  have X := X.weaken (C' := fun h => (Gl (KK w.params) mg mb h ∧ Rd h vL (listsD ls)) ∧ Rd h (.ref a1) (.list (tups [[]]))) fun h c => ⟨c.1.1, LstO.rd LstO.lst c.2 (.cons c.1.2 .nil)⟩
  refine st_local X W fun s4 X => ?_
  obtain ⟨la, lvs, rfl, X⟩ := X.pinList (v := vL) (ds := ls.map fun l => .list (dInts l)) (fun h c => c.1.2)
  have hlen : lvs.length = ls.length := by rw [X.now.2.2.length]; simp
  refine wpAny_execs_cons (wpAny_For (x_local X (ug e1) ?_))
  refine x_iter_list X hA.hh X.now.2.1 fun I oI s5 it p0 hI X => ?_
  refine x_loop (F₀ := fun h => Rd h (.ref a1) (.list (tups (wordsOf (ls.take 0))))) (fun i m₁ k₁ mu₁ F₁ => mu₁ = [] ∧ ∃ fv, m₁ "found" = some fv ∧ F₁ = fun h => Rd h fv (.list (tups (wordsOf (ls.take i))))) (fun _ _ _ _ _ => False) X hI W it p0 (fun h c => c.2.1) (fun h c => c.1.2) ⟨rfl, _, us, rfl⟩ (cells_ok (by kernel_rfl!)) ?_ ?_ ?_
  · rintro i v m₁ k₁ mu₁ F₁ g₁ s₁ hi hv ⟨rfl, fv, ef, rfl⟩ hmu X
    have hi' : i < ls.length := by simpa [hlen] using hi
    have hv' : lvs[i]? = some v := by simpa using hv
    have hsome : ∀ h, RdL h lvs (ls.map fun l => .list (dInts l)) → Rd h v (.list (dInts ls[i])) := fun h r => by
      obtain ⟨d, hd, rv⟩ := r.get hv'
      rw [List.getElem?_map, List.getElem?_eq_getElem hi'] at hd
      cases hd; exact rv
    have W := fw_loop (s := s₁) (env := callEnvC wordsFd L 181) (adr := [])
    refine wpAny_assign_Name (st_cell X W fun s6 X => ?_)
    obtain ⟨sa, svs, rfl, X⟩ := X.pinList (v := v) (ds := dInts ls[i]) fun h c => hsome h c.1.2.2
    obtain ⟨fa, fvs, rfl, X⟩ := X.pinList (v := fv) fun h c => c.1.2
    have hsl : svs.length = (ls[i]).length := by rw [X.now.1.2.2.length]; simp [dInts]
    have hfl : fvs.length = (wordsOf (ls.take i)).length := by rw [X.now.2.2.length]; simp [tups]
    have hs3 : (ls[i]).length ≤ 3 := hl _ (List.getElem_mem hi')
    have ewords : wordsOf (ls.take (i + 1)) = stepW (wordsOf (ls.take i)) ls[i] := by
      unfold wordsOf
      rw [List.take_add_one, List.getElem?_eq_getElem hi', List.foldl_append]
      rfl
    refine wpAny_execs_cons (x_assign_comp (cl := [(Str.ofString "some", L + 1)]) (by with_unfolding_all rfl) (by with_unfolding_all rfl) (x_local X ef ?_))
    refine x_iter_list X hA.hh X.now.2.1 fun I2 oI2 s7 it2 p2 hI2 X => ?_
    refine comp_run2 (a1 := sa) (ls := svs) (fun q ys h => RdL h ys ((tups (stepW (wordsOf (ls.take i)) ls[i])).take q)) hA.hh X hI2 it2 p2 (fun h c => c.2.1) (fun h c => c.1.2.1) (.cons (by kernel_rfl!) .nil) (fun h c => by simpa using RdL.nil) ?_ ?_ ?_ ?_
    · rw [hsl, hfl]
      have h1 := words_len (ls.take i) [[]] 0 (fun l hm => hl l (List.mem_of_mem_take hm)) (by simp)
      have h2 : (ls.take i).length ≤ 4 := by rw [List.length_take]; omega
      have h3 : (3 : Nat) ^ (0 + (ls.take i).length) ≤ 3 ^ 4 := Nat.pow_le_pow_right (by decide) (by omega)
      have h4 : (wordsOf (ls.take i)).length ≤ 81 := Nat.le_trans h1 h3
      exact Nat.le_trans (Nat.mul_le_mul h4 hs3) (by decide)
    · intro L₁ m₂ g₂ s₂ wr' g₀' s₀' C₁ mu₁ Q' E' Y hq
      exact x_cell Y us hq
    · intro i2 j2 v v₁ ys g₂ s₂ L₁ m₂ hv2 hj2 em0 em1 Y
      obtain ⟨word, hword⟩ : ∃ word, (wordsOf (ls.take i))[i2]? = some word := ⟨_, List.getElem?_eq_getElem (by rw [← hfl]; exact (List.getElem?_eq_some_iff.mp hv2).1)⟩
      obtain ⟨a, ha⟩ : ∃ a, (ls[i])[j2]? = some a := ⟨_, List.getElem?_eq_getElem (by rw [← hsl]; exact (List.getElem?_eq_some_iff.mp hj2).1)⟩
      obtain ⟨d1, hd1, r1⟩ := Y.now.1.1.2.2.get hj2
      unfold dInts at hd1
      rw [List.getElem?_map, ha] at hd1
      cases hd1
      obtain ⟨ta, rfl⟩ := r1.int_inv
      refine wpAny_BinOp (x_local Y em0 (Tuple_ (args2 (x_local Y em1 (args0 ?_)))))
      refine x_tuple Y (by simp [sizeLine_eq]) (ds := [.int a]) (fun h c => .cons .int .nil) fun t2 g3 s3 Y => ?_
      refine x_tup_add Y (.inl List.mem_cons_self) (ds₁ := dInts word) (ds₂ := [.int a]) (fun h c => ?_) (fun h c => c.2) (by simp) ?_ fun v' g4 s4 Y => ?_
      · obtain ⟨d, hd, r⟩ := c.1.1.2.2.get hv2
        unfold tups at hd
        rw [List.getElem?_map, hword] at hd
        cases hd; exact r
      · have : word.length ≤ 4 := by
          rw [(mem_words.mp (List.mem_of_getElem? hword)).length, List.length_take]; omega
        simp [dInts]; omega
      · refine ⟨g4, Y.weaken fun h c => ⟨c.1.1.1, ?_⟩⟩
        rw [hsl] at c ⊢
        have q := c.1.1.2.snoc c.2
        have e := stepW_take hword ha
        have e' : (tups (stepW (wordsOf (ls.take i)) ls[i])).take (i2 * (ls[i]).length + j2 + 1) = (tups (stepW (wordsOf (ls.take i)) ls[i])).take (i2 * (ls[i]).length + j2) ++ [.tuple (dInts word ++ [.int a])] := by
          unfold tups
          rw [← List.map_take, ← List.map_take, e, List.map_append]
          simp [dInts]
        rw [e']
        exact q
    · intro D nn ys g' s' L₁ oL mL fD fL hys hns Y
      refine comp_end_assign Y W fL hns fun s8 Y => ?_
      obtain ⟨g5, Y⟩ := Y.freeze1 fD
      refine wpAny_execs_nil ⟨_, _, _, _, _, Y.weaken fun h c => ⟨c.1.1.1.1.1, ?_⟩, ⟨rfl, _, us, rfl⟩, rfl⟩
      rw [ewords]
      have q := c.1.2
      rw [hsl, hfl, ← stepW_len, List.take_of_length_le (by simp [tups])] at q
      exact LstO.rd LstO.lst c.2 q
  · rintro m' k' mu' F' g' s' ⟨rfl, fv, ef, rfl⟩ hmu X
    refine wpAny_execs_cons (wpAny_Return_some (x_local X ef ?_))
    refine h fv _ _ X.ev fun h' S' => ?_
    have := (X.tx.up h' S').2
    rwa [List.size_toArray, hlen, List.take_length] at this
  · intro v m' k' mu' F' g' s' hJ
    exact hJ.elim
end
end Mine
end
section
open PySem PySem.W PyProof.Rows
set_option maxRecDepth 100000
set_option maxHeartbeats 4000000
namespace Mine
def setRow (R : List (List Int)) (p : Int) (late : List Bool) (letters : List Int) : List Bool := letters.foldl (fun l a => l.set (cellR R p a).toNat true) late
def lateStep (R : List (List Int)) (layer : List Bool) (letters : List Int) (l : List Bool) (i : Nat) : List Bool := if layer.getD (i + 1) false then setRow R ((i : Int) + 1) l letters else l
def lateOf (R : List (List Int)) (S : Nat) (layer : List Bool) (letters : List Int) : List Bool := (List.range S).foldl (lateStep R layer letters) (List.replicate (S + 1) false)
def nextLayer (R : List (List Int)) (S : Nat) (layer : List Bool) (letters : List Int) : List Bool := (lateOf R S layer letters).set 0 false
def initLayer (S : Nat) (st : Int) : List Bool := (List.range (S + 1)).map fun (q : Nat) => ((q : Int) == st)
def layAt (R : List (List Int)) (S : Nat) (st : Int) (kept : List (List Int)) (i : Nat) : List Bool := (kept.take i).foldl (nextLayer R S) (initLayer S st)
def vBools (l : List Bool) : List Value := l.map Value.bool
theorem rd_bools {h : Heap} {l : List Bool} : RdL h (vBools l) (dBools l) := by
  induction l with
  | nil => exact .nil
  | cons b r ih => exact .cons .bool ih
theorem setRow_len {R : List (List Int)} {p : Int} : ∀ {letters : List Int} {late : List Bool}, (setRow R p late letters).length = late.length
  | [], late => rfl
  | a :: r, late => by unfold setRow; rw [List.foldl_cons]; exact (setRow_len (letters := r)).trans (List.length_set)
theorem lateStep_len {R : List (List Int)} {layer l : List Bool} {letters : List Int} {i : Nat} : (lateStep R layer letters l i).length = l.length := by
  unfold lateStep; split
  · exact setRow_len
  · rfl
theorem late_len {R : List (List Int)} {layer : List Bool} {letters : List Int} : ∀ (is : List Nat) (l : List Bool), (is.foldl (lateStep R layer letters) l).length = l.length
  | [], l => rfl
  | i :: r, l => by rw [List.foldl_cons, late_len r]; exact lateStep_len
theorem nextLayer_len {R : List (List Int)} {S : Nat} {layer : List Bool} {letters : List Int} : (nextLayer R S layer letters).length = S + 1 := by
  unfold nextLayer lateOf; rw [List.length_set, late_len]; simp
theorem layAt_len {R : List (List Int)} {S : Nat} {st : Int} {kept : List (List Int)} {i : Nat} : (layAt R S st kept i).length = S + 1 := by
  unfold layAt
  have key : ∀ (ks : List (List Int)) (l : List Bool), l.length = S + 1 → (ks.foldl (nextLayer R S) l).length = S + 1 := by
    intro ks
    induction ks with
    | nil => intro l h; exact h
    | cons x r ih => intro l _; exact ih _ nextLayer_len
  exact key _ _ (by simp [initLayer])
theorem layAt_succ {R : List (List Int)} {S : Nat} {st : Int} {kept : List (List Int)} {i : Nat} {l : List Int} (h : kept[i]? = some l) : layAt R S st kept (i + 1) = nextLayer R S (layAt R S st kept i) l := by
  unfold layAt; rw [List.take_add_one, h, List.foldl_append]; rfl
section
variable {prog : Program} {w : World} {A : Around} {E : Value → Shared → Prop} {mg mb : Str → Option Value}
theorem reach_spec {n S T : Nat} (hA : AOk (n + 1) A) {g : Fz} {s : Shared} {R kept : List (List Int)} {x : Addr} {st : Int} {vR vF vK : Value} {Q : Value → Shared → Prop}
    (Sb : Sub g s.heap) (up : ∀ h, Sub g h → Gl (KK w.params) mg mb h ∧ RuleAt h x S st vR vF ∧ Rd h vR (rowsD R) ∧ Rd h vK (listsD kept))
    (M : Mach S T R) (hk : ∀ l ∈ kept, ∀ a ∈ l, 1 ≤ a ∧ a ≤ T) (hkl : kept.length ≤ 100)
    (h : ∀ v g' s', Ev [] g s g' s' → (∀ h, Sub g' h → Rd h v (tabD ((List.range (kept.length + 1)).map (layAt R S st kept)))) → Q v s') :
    wpAny (model prog w) A (call (.ref 98) [.ref x, vK]) Q NE s := by
  have G := (up _ Sb).1
  refine wpAny_call (x_enter (fd := reachFd) [] Sb up G hA (fun p hp => nomatch hp) List.nodup_nil (reach_look _) (reach_cd _) rfl (by kernel_rfl!) (by kernel_rfl!) (by kernel_rfl!) (by kernel_rfl!) (by kernel_rfl!) (by kernel_rfl!) fun L s₁ hL X W => ?_)
  have e1 : (bindL (callEnvC reachFd L 98).kindOf ((reachFd.params.args.map (·.arg)).zip [.ref x, vK]) fun _ => none) "kept" = some vK := by kernel_rfl!
  have c1 : (bindC (callEnvC reachFd L 98).kindOf ((reachFd.params.args.map (·.arg)).zip [.ref x, vK]) fun _ => none) "self" = some (.ref x) := by kernel_rfl!
  generalize (bindL (callEnvC reachFd L 98).kindOf ((reachFd.params.args.map (·.arg)).zip [.ref x, vK]) fun _ => none) = m at X e1
  generalize (bindC (callEnvC reachFd L 98).kindOf ((reachFd.params.args.map (·.arg)).zip [.ref x, vK]) fun _ => none) = kc at X c1
  have hS := M.hS
  have hT := M.hT
  -- layer = [state == self.start for state in range(self.states + 1)]
  refine wpAny_execs_cons (x_assign_comp (cl := [(Str.ofString "self", L + 1)]) (by with_unfolding_all rfl) (by with_unfolding_all rfl) (Call_ (x_blt (by exact (X.now).1) (v := .type "range") (by kernel_rfl!) (by kernel_rfl!) (PyProof.Rows.callWith_type1 (args2 (wpAny_BinOp (Attribute_Name_ (x_cell X c1 ?_)))))))) 
  refine x_states X (by exact (X.now).1) (by exact (X.now).2.1) fun t2 s3 X => x_int X fun t3 s4 X => x_add X fun t4 s5 X => args0 ?_
  refine x_range1 (n := S + 1) X fun r g1 s6 X => ?_
  refine x_iter_rng (n := S + 1) X hA.hh X.now.2 (by omega) fun I oI s7 it p0 hI X => ?_
  refine comp_run (fun i ys mu₁ h => RdL h ys (dBools ((initLayer S st).take i)) ∧ mu₁ = []) X hI it p0 (fun _ _ => trivial) (.cons (by kernel_rfl!) .nil) (fun h c => ⟨by simpa [dBools] using RdL.nil, rfl⟩) (by omega) ?_ ?_
  · rintro i v ys mu₁ g₂ s₂ L₁ m₂ hi - ⟨tv, rfl⟩ hmu em Y
    refine wpAny_tests_nil ?_
    rw [if_pos rfl]
    refine wpAny_Compare1 (x_local Y em (Attribute_Name_ (x_cell Y c1 ?_)))
    refine x_start Y (by exact (Y.now).1.1.1) (by exact (Y.now).1.1.2.1) fun t5 s8 Y => eq_int ?_
    refine ⟨_, _, Y.weaken fun h c => ⟨c.1, ?_, c.2.2⟩, hmu⟩
    have e : (initLayer S st).take (i + 1) = (initLayer S st).take i ++ [((i : Int) == st)] := by
      have : (initLayer S st)[i]? = some ((i : Int) == st) := by
        unfold initLayer
        rw [List.getElem?_map, List.getElem?_range hi]; rfl
      rw [List.take_add_one, this]; rfl
    rw [e]
    unfold dBools
    rw [List.map_append]
    rw [show (0 : Int) + (i : Int) = (i : Int) by omega]
    exact c.2.1.snoc .bool
  · intro D nn ys mu' g' s' L₁ oL mL fD fL hys hmu hns Y
    obtain rfl : mu' = [] := Y.now.2.2
    refine comp_end_assign Y W fL hns fun s8 Y => ?_
    obtain ⟨g5, Y⟩ := Y.freeze1 fD
    have Y := Y.weaken (C' := fun h => (Gl (KK w.params) mg mb h ∧ RuleAt h x S st vR vF ∧ Rd h vR (rowsD R) ∧ Rd h vK (listsD kept)) ∧ Rd h (.ref D) (.list (dBools (layAt R S st kept 0)))) fun h c => ⟨c.1.1.1, by
      have q := c.1.2.1
      rw [List.take_of_length_le (by simp [initLayer])] at q
      exact LstO.rd LstO.lst c.2 q⟩
    obtain ⟨la, lvs, rfl, X⟩ := Y.pinList (v := vK) (ds := kept.map fun l => .list (dInts l)) (fun h c => c.1.2.2.2)
    have hlen : lvs.length = kept.length := by rw [X.now.2.2.length]; simp
    -- found = [layer]
    refine wpAny_execs_cons (wpAny_Assign_Name (List_ (args2 (x_local X us (args0 ?_)))))
    refine x_list X (by simp [sizeLine_eq]) fun fa s9 ffa X => ?_
    refine st_local X W fun s10 X => ?_
    refine wpAny_execs_cons (wpAny_For (x_local X (ug (ug e1)) ?_))
    refine x_iter_list X hA.hh (by exact (X.now).2.1) fun I2 oI2 s11 it2 p2 hI2 X => ?_
    refine x_loop (F₀ := fun h => Rd h (.ref D) (.list (dBools (layAt R S st kept 0))) ∧ RdL h [.ref D] ((List.range 1).map fun j => .list (dBools (layAt R S st kept j))))
      (fun i m₁ k₁ mu₁ F₁ => ∃ lv fs nn, m₁ "layer" = some lv ∧ m₁ "found" = some (.ref fa) ∧ k₁ "self" = some (.ref x) ∧ mu₁ = [(fa, lst fs nn)] ∧ fs.length = i + 1 ∧ F₁ = fun h => Rd h lv (.list (dBools (layAt R S st kept i))) ∧ RdL h fs ((List.range (i + 1)).map fun j => .list (dBools (layAt R S st kept j))))
      (fun _ _ _ _ _ => False) X hI2 W it2 p2 (fun h c => c.2.1) (fun h c => ⟨c.1.2, .cons c.1.2 .nil⟩) ⟨.ref D, [.ref D], 0, ug us, us, c1, rfl, rfl, rfl⟩ (cells_ok (by kernel_rfl!)) ?_ ?_ ?_
    · rintro i v m₁ k₁ mu₁ F₁ g₁ s₁ hi hv ⟨lv, fs, nn, el, ef, cs, rfl, hfs, rfl⟩ hmu X
      have hi' : i < kept.length := by simpa [hlen] using hi
      have hv' : lvs[i]? = some v := by simpa using hv
      have W := fw_loop (s := s₁) (env := callEnvC reachFd L 98) (adr := [fa])
      obtain ⟨C1, hC1, X⟩ := X.opq
      refine wpAny_assign_Name (st_local X W fun s6 X => opq fun Qt hQt => ?_)
      obtain ⟨sa, svs, rfl, X⟩ := X.pinList (v := v) (ds := dInts kept[i]) fun h c => by
        obtain ⟨d, hd, rv⟩ := (hC1 _ c).1.2.2.get hv'
        rw [List.getElem?_map, List.getElem?_eq_getElem hi'] at hd
        cases hd; exact rv
      have hsl : svs.length = (kept[i]).length := by rw [X.now.2.2.length]; simp [dInts]
      -- late = [False] * (self.states + 1)
      refine wpAny_execs_cons (wpAny_Assign_Name (wpAny_BinOp (List_ (args2 (Constant_bool (args0 ?_))))))
      refine x_list X (by simp [sizeLine_eq]) fun b0 s12 _ X => ?_
      refine wpAny_BinOp (Attribute_Name_ (x_cell X cs ?_))
      refine x_states X (by exact (hC1 _ ((X.now).1)).1.1.1.1) (by exact (hC1 _ ((X.now).1)).1.1.1.2.1) fun t5 s13 X => x_int X fun t6 s14 X => x_add X fun t7 s15 X => ?_
      refine x_mul_list X W.loc (LstO.lst.isList (X.tx.mus _ List.mem_cons_self).1) (by omega) (by omega) (by rw [show ((S : Int) + 1).toNat = S + 1 by omega]; simp; omega) fun la2 s16 fla X => ?_
      have X := Sx.drop (mu₁ := [_]) X
      refine st_local X W fun s17 X => ?_
      have efl : (List.replicate ((S : Int) + 1).toNat [Value.bool false]).flatten = vBools (List.replicate (S + 1) false) := by
        rw [show ((S : Int) + 1).toNat = S + 1 by omega]
        unfold vBools
        rw [List.map_replicate]
        generalize S + 1 = q
        induction q with
        | zero => rfl
        | succ q ih => rw [List.replicate_succ, List.replicate_succ, List.flatten_cons, ih]; rfl
      rw [efl] at X
      -- for state in range(1, self.states + 1)
      refine wpAny_execs_cons (wpAny_For (Call_ (x_blt (by exact (hC1 _ ((X.now).1)).1.1.1.1) (v := .type "range") (by kernel_rfl!) (by kernel_rfl!) (PyProof.Rows.callWith_type1 (args2 (x_int X fun t1 s2 X => args2 (wpAny_BinOp (Attribute_Name_ (x_cell X cs ?_))))))))) 
      refine x_states X (by exact (hC1 _ ((X.now).1)).1.1.1.1) (by exact (hC1 _ ((X.now).1)).1.1.1.2.1) fun t2 s3 X => x_int X fun t3 s4 X => x_add X fun t4 s5 X => args0 ?_
      refine x_range2 X fun r g1 s6 X => ?_
      refine x_iter_rng (n := S) X hA.hh X.now.2 (by omega) fun I3 oI3 s7 it3 p3 hI3 X => ?_
      refine x_loop (F₀ := fun _ => True)
        (fun j m₂ k₂ mu₂ F₂ => ∃ o, mu₂ = [(la2, o), (fa, lst fs nn)] ∧ LstO o (vBools ((List.range j).foldl (lateStep R (layAt R S st kept i) kept[i]) (List.replicate (S + 1) false))) ∧ m₂ "layer" = some lv ∧ m₂ "late" = some (.ref la2) ∧ m₂ "letters" = some (.ref sa) ∧ m₂ "found" = some (.ref fa) ∧ k₂ "self" = some (.ref x) ∧ F₂ = fun _ => True)
        (fun _ _ _ _ _ => False) X hI3 W it3 p3 (fun h c => trivial) (fun h c => trivial) ⟨_, rfl, LstO.lst, ug (ug el), us, ug us, ug (ug ef), cs, rfl⟩ (cells_ok (by kernel_rfl!)) ?_ ?_ ?_
      · rintro j v m₂ k₂ mu₂ F₂ g₂ s₂ hj ⟨tv, rfl⟩ ⟨o, rfl, ho, el, elt, elet, ef, cs, rfl⟩ hmu X
        have W := fw_loop (s := s₂) (env := callEnvC reachFd L 98) (adr := [la2, fa])
        obtain ⟨C2, hC2, X⟩ := X.opq
        have hlj : (layAt R S st kept i).length = S + 1 := layAt_len
        obtain ⟨b1, hb1⟩ : ∃ b, (layAt R S st kept i)[j + 1]? = some b := ⟨_, List.getElem?_eq_getElem (by omega)⟩
        have hstep : ∀ l, lateStep R (layAt R S st kept i) kept[i] l j = if b1 then setRow R ((j : Int) + 1) l kept[i] else l := fun l => by
          unfold lateStep; rw [List.getD_eq_getElem?_getD, hb1]; rfl
        have hfold : (List.range (j + 1)).foldl (lateStep R (layAt R S st kept i) kept[i]) (List.replicate (S + 1) false) = lateStep R (layAt R S st kept i) kept[i] ((List.range j).foldl (lateStep R (layAt R S st kept i) kept[i]) (List.replicate (S + 1) false)) j := by
          rw [List.range_succ, List.foldl_append]; rfl
        have hcl : ((List.range j).foldl (lateStep R (layAt R S st kept i) kept[i]) (List.replicate (S + 1) false)).length = S + 1 := by rw [late_len]; simp
        rw [hfold]
        generalize (List.range j).foldl (lateStep R (layAt R S st kept i) kept[i]) (List.replicate (S + 1) false) = cur at ho hcl
        refine wpAny_assign_Name (st_local X W fun s8 X => opq fun Qu hQu => ?_)
        refine wpAny_execs_cons (wpAny_For (IfExp_ (isTrue_plain (Subscript_ (x_local X (ug el) (x_local X us ?_))))))
        refine x_item_listF X (fun h c => by exact (hC1 _ ((hC2 _ ((c))).1.1.1)).2.1) (by omega) (by omega) (d := .bool b1) (by unfold dBools; rw [List.getElem?_map, show (1 + (j : Int)).toNat = j + 1 by omega, hb1]; rfl) fun v2 X => ?_
        obtain rfl := X.now.2.bool_inv
        refine wpAny_truthy_bool ?_
        cases b1 with
        | false =>
          rw [hstep, if_neg Bool.false_ne_true] at hQu
          rw [if_neg Bool.false_ne_true]
          refine List_ (args0 ?_)
          refine x_list X (by simp) fun ea s9 fea X => ?_
          obtain ⟨g7, X⟩ := X.freeze1 fea
          have X := X.weaken fun h c => And.intro c.1.1 (LstO.isList (LstO.lst (ys := []) (n := 0)) c.2)
          refine x_iter_list X hA.hh (by exact (X.now).2) fun I4 oI4 s10 it4 p4 hI4 X => ?_
          refine x_loop (F₀ := fun _ => True) (fun t m₃ k₃ mu₃ F₃ => mu₃ = [(la2, o), (fa, lst fs nn)] ∧ m₃ "layer" = some lv ∧ m₃ "late" = some (.ref la2) ∧ m₃ "letters" = some (.ref sa) ∧ m₃ "found" = some (.ref fa) ∧ k₃ "self" = some (.ref x) ∧ F₃ = fun _ => True) (fun _ _ _ _ _ => False) X hI4 W it4 p4 (fun h c => c.2) (fun _ _ => trivial) ⟨rfl, ug el, ug elt, ug elet, ug ef, cs, rfl⟩ (cells_ok (by kernel_rfl!)) ?_ ?_ ?_
          · intro t v m₃ k₃ mu₃ F₃ g₃ s₃ ht
            exact absurd ht (by simp)
          · rintro m' k' mu' F' g' s' ⟨rfl, el, elt, elet, ef, cs, rfl⟩ hmu X
            exact wpAny_execs_nil (hQu _ _ ⟨_, _, _, _, _, X.weaken fun h c => ⟨by exact (hC2 _ ((c).1.1)).1, trivial⟩, ⟨o, rfl, ho, el, elt, elet, ef, cs, rfl⟩, rfl⟩)
          · intro v m' k' mu' F' g' s' hJ
            exact hJ.elim
        | true =>
          rw [hstep, if_pos rfl] at hQu
          rw [if_pos rfl]
          refine x_local X (ug elet) ?_
          refine x_iter_list X hA.hh (by exact (hC2 _ ((X.now).1)).1.1.2.1) fun I4 oI4 s10 it4 p4 hI4 X => ?_
          refine x_loop (F₀ := fun _ => True) (fun t m₃ k₃ mu₃ F₃ => ∃ o, mu₃ = [(la2, o), (fa, lst fs nn)] ∧ LstO o (vBools (setRow R ((j : Int) + 1) cur ((kept[i]).take t))) ∧ (∃ t, m₃ "state" = some (.int (1 + (j : Int)) t)) ∧ m₃ "layer" = some lv ∧ m₃ "late" = some (.ref la2) ∧ m₃ "letters" = some (.ref sa) ∧ m₃ "found" = some (.ref fa) ∧ k₃ "self" = some (.ref x) ∧ F₃ = fun _ => True) (fun _ _ _ _ _ => False) X hI4 W it4 p4 (fun h c => by exact (hC2 _ ((c).1)).1.1.2.1) (fun _ _ => trivial) ⟨o, rfl, by simpa [setRow] using ho, ⟨_, us⟩, ug el, ug elt, ug elet, ug ef, cs, rfl⟩ (cells_ok (by kernel_rfl!)) ?_ ?_ ?_
          · rintro t v m₃ k₃ mu₃ F₃ g₃ s₃ ht hvt ⟨o, rfl, ho, ⟨ts, es⟩, el, elt, elet, ef, cs, rfl⟩ hmu X
            have ht' : t < (kept[i]).length := by simpa [hsl] using ht
            have hvt' : svs[t]? = some v := by simpa using hvt
            have W := fw_loop (s := s₃) (env := callEnvC reachFd L 98) (adr := [la2, fa])
            obtain ⟨C3, hC3, X⟩ := X.opq
            have rsv : RdL s₃.heap svs (dInts kept[i]) := by exact (hC2 _ ((hC3 _ ((X.now))).1.1)).1.1.2.2
            obtain ⟨d, hd, rv⟩ := rsv.get hvt'
            unfold dInts at hd
            rw [List.getElem?_map, List.getElem?_eq_getElem ht'] at hd
            cases hd
            obtain ⟨ta, rfl⟩ := rv.int_inv
            have ha := hk _ (List.getElem_mem hi') _ (List.getElem_mem ht')
            obtain ⟨rw', hrw, hcell, hc0, hc1⟩ := M.at (st := (j : Int) + 1) (a := (kept[i])[t]) (by omega) (by omega) ha.1 ha.2
            refine wpAny_assign_Name (st_local X W fun s11 X => opq fun Qv hQv => ?_)
            refine wpAny_execs_cons (wpAny_Assign_Subscript (Constant_bool (x_local X (ug elt) (Subscript_ (Subscript_ (Attribute_Name_ (x_cell X cs ?_)))))) (by with_unfolding_all rfl))
            refine x_rows X (by exact (hC1 _ ((hC2 _ ((hC3 _ ((X.now))).1.1)).1.1.1)).1.1.1.1) (by exact (hC1 _ ((hC2 _ ((hC3 _ ((X.now))).1.1)).1.1.1)).1.1.1.2.1) fun s12 X => ?_
            refine wpAny_BinOp (x_local X (ug es) (x_int X fun t8 s13 X => x_sub X fun t9 s14 X => ?_))
            have e1' : (1 + (j : Int) - 1).toNat = j := by omega
            have e2' : ((j : Int) + 1 - 1).toNat = j := by omega
            rw [e2'] at hrw
            refine x_item_tupF X (fun h c => by exact (hC1 _ ((hC2 _ ((hC3 _ ((c))).1.1)).1.1.1)).1.1.1.2.2.1) (by omega) (by omega) (d := .tuple (dInts rw')) (by rw [e1', List.getElem?_map, hrw]; rfl) fun v4 X => ?_
            refine wpAny_BinOp (x_local X us (x_int X fun t10 s15 X => x_sub X fun t11 s16 X => ?_))
            refine x_item_tupF X (fun h c => by exact (c).2) (by omega) (by omega) (d := .int (cellR R ((j : Int) + 1) (kept[i])[t])) (by unfold dInts; rw [List.getElem?_map, hcell]; rfl) fun v5 X => ?_
            obtain ⟨t12, rfl⟩ := X.now.2.int_inv
            have hcl' : (vBools (setRow R ((j : Int) + 1) cur ((kept[i]).take t))).length = S + 1 := by unfold vBools; rw [List.length_map, setRow_len]; exact hcl
            refine x_set_list (mu₁ := []) X ho hc0 (by rw [hcl']; omega) (by omega) fun o2 s17 ho2 X => ?_
            refine wpAny_execs_nil (hQv _ _ ⟨_, _, _, _, _, X.weaken fun h c => ⟨by exact (hC3 _ ((c).1.1)).1, trivial⟩, ⟨o2, rfl, ?_, ⟨ts, ug es⟩, ug el, ug elt, ug elet, ug ef, cs, rfl⟩, rfl⟩)
            have e : setRow R ((j : Int) + 1) cur ((kept[i]).take (t + 1)) = (setRow R ((j : Int) + 1) cur ((kept[i]).take t)).set (cellR R ((j : Int) + 1) (kept[i])[t]).toNat true := by
              unfold setRow
              rw [List.take_add_one, List.getElem?_eq_getElem ht', List.foldl_append]; rfl
            rw [e]
            unfold vBools
            rw [List.map_set]
            exact ho2
          · rintro m' k' mu' F' g' s' ⟨o, rfl, ho, -, el, elt, elet, ef, cs, rfl⟩ hmu X
            rw [List.size_toArray, hsl, List.take_length] at ho
            exact wpAny_execs_nil (hQu _ _ ⟨_, _, _, _, _, X.weaken fun h c => ⟨by exact (hC2 _ ((c).1.1)).1, trivial⟩, ⟨o, rfl, ho, el, elt, elet, ef, cs, rfl⟩, rfl⟩)
          · intro v m' k' mu' F' g' s' hJ
            exact hJ.elim
      · rintro m' k' mu' F' g' s' ⟨o, rfl, ho, el, elt, elet, ef, cs, rfl⟩ hmu X
        have hll : (vBools ((List.range S).foldl (lateStep R (layAt R S st kept i) kept[i]) (List.replicate (S + 1) false))).length = S + 1 := by unfold vBools; rw [List.length_map, late_len]; simp
        -- late[0] = False
        refine wpAny_execs_cons (wpAny_Assign_Subscript (Constant_bool (x_local X elt (x_int X fun t8 s13 X => ?_))) (by with_unfolding_all rfl))
        refine x_set_list (mu₁ := []) X ho (by omega) (by rw [hll]; omega) (by omega) fun o2 s17 ho2 X => ?_
        -- layer = late
        refine wpAny_execs_cons (wpAny_Assign_Name (x_local X elt (st_local X W fun s18 X => ?_)))
        obtain ⟨g8, X⟩ := Sx.freeze1 X fla
        have enext : vBools (layAt R S st kept (i + 1)) = (vBools ((List.range S).foldl (lateStep R (layAt R S st kept i) kept[i]) (List.replicate (S + 1) false))).set (0 : Int).toNat (Value.bool false) := by
          rw [layAt_succ (List.getElem?_eq_getElem hi')]
          unfold nextLayer vBools lateOf
          rw [List.map_set]; rfl
        rw [← enext] at ho2
        -- found.append(layer)
        refine wpAny_execs_cons (wpAny_Expr (MethodCall_ (x_local X (ug ef) (x_meth X List.mem_cons_self PySem.F.slot_list_append PySem.F.type_list_append (callWith_method1 (args2 (x_local X us (args0 ?_)))))))) 
        refine x_append (mu₁ := []) X (by rw [hfs, sizeLine_eq]; omega) fun s19 X => ?_
        refine wpAny_execs_nil (hQt _ _ ⟨_, _, _, _, _, X.weaken fun h c => ⟨by exact (hC1 _ ((c).1.1.1.1)).1, ?_⟩, ⟨.ref la2, fs ++ [.ref la2], nn + 1, us, ug ef, cs, rfl, by simp [hfs], rfl⟩, rfl⟩)
        have q := ho2.rd c.2 rd_bools
        refine ⟨q, ?_⟩
        rw [List.range_succ, List.map_append]
        exact RdL.snoc (by exact (hC1 _ ((c).1.1.1.1)).2.2) q
      · intro v m' k' mu' F' g' s' hJ
        exact hJ.elim
    · rintro m' k' mu' F' g' s' ⟨lv, fs, nn, el, ef, cs, rfl, hfs, rfl⟩ hmu X
      refine wpAny_execs_cons (wpAny_Return_some (x_local X ef ?_))
      obtain ⟨g6, X⟩ := X.freeze1 ffa
      refine h _ _ _ X.ev fun h' S' => ?_
      have c := X.tx.up h' S'
      have q := c.1.2.2
      rw [List.size_toArray, hlen] at q
      unfold tabD
      rw [List.map_map]
      exact LstO.rd LstO.lst c.2 q
    · intro v m' k' mu' F' g' s' hJ
      exact hJ.elim
end
end Mine
end
section
open PySem PySem.W PyProof.Rows
namespace Mine
theorem lay_ints : ∀ xs : List Int, PyData.canLayAll0 (dInts xs) = true ∧ PyData.depthAll (dInts xs) ≤ 1
  | [] => by simp [dInts, PyData.canLayAll0, PyData.depthAll]
  | x :: r => by
    have := lay_ints r
    unfold dInts at this ⊢
    simp only [List.map_cons, PyData.canLayAll0, PyData.depthAll, PyData.canLay0, PyData.depth, this.1, Bool.and_self, true_and]
    have := this.2
    omega
theorem lay_bools : ∀ xs : List Bool, PyData.canLayAll0 (dBools xs) = true ∧ PyData.depthAll (dBools xs) ≤ 1
  | [] => by simp [dBools, PyData.canLayAll0, PyData.depthAll]
  | x :: r => by
    have := lay_bools r
    unfold dBools at this ⊢
    simp only [List.map_cons, PyData.canLayAll0, PyData.depthAll, PyData.canLay0, PyData.depth, this.1, Bool.and_self, true_and]
    have := this.2
    omega
theorem lay_tups : ∀ xs : List (List Int), PyData.canLayAll0 (tups xs) = true ∧ PyData.depthAll (tups xs) ≤ 2
  | [] => by simp [tups, PyData.canLayAll0, PyData.depthAll]
  | x :: r => by
    have := lay_tups r
    have q := lay_ints x
    unfold tups at this ⊢
    simp only [List.map_cons, PyData.canLayAll0, PyData.depthAll, PyData.canLay0, PyData.depth, this.1, q.1, Bool.and_self, true_and]
    have := this.2
    have := q.2
    omega
theorem lay_tab : ∀ xs : List (List Bool), PyData.canLayAll0 (xs.map fun l => .list (dBools l)) = true ∧ PyData.depthAll (xs.map fun l => .list (dBools l)) ≤ 2
  | [] => by simp [PyData.canLayAll0, PyData.depthAll]
  | x :: r => by
    have := lay_tab r
    have q := lay_bools x
    simp only [List.map_cons, PyData.canLayAll0, PyData.depthAll, PyData.canLay0, PyData.depth, this.1, q.1, Bool.and_self, true_and]
    have := this.2
    have := q.2
    omega
theorem shaped_list {ds : List PyData} {n : Nat} (h : PyData.canLayAll0 ds = true ∧ PyData.depthAll ds ≤ n) (hn : n ≤ 63) : SeqAt.shaped (.list ds) = true := by
  unfold SeqAt.shaped
  simp only [PyData.canLay0, h.1, Bool.true_and, PyData.depth]
  exact decide_eq_true (by have := h.2; omega)
theorem eqv_bools : ∀ a b : List Bool, PyData.eqvAll (dBools a) (dBools b) = decide (a = b)
  | [], [] => by simp [dBools, PyData.eqvAll]
  | [], _ :: _ => by simp [dBools, PyData.eqvAll]
  | _ :: _, [] => by simp [dBools, PyData.eqvAll]
  | x :: a, y :: b => by
    have := eqv_bools a b
    unfold dBools at this ⊢
    simp only [List.map_cons, PyData.eqvAll, PyData.eqv, this, List.cons.injEq, Bool.decide_and]
    congr 1
theorem eqv_tab : ∀ a b : List (List Bool), PyData.eqvAll (a.map fun l => .list (dBools l)) (b.map fun l => .list (dBools l)) = decide (a = b)
  | [], [] => by simp [PyData.eqvAll]
  | [], _ :: _ => by simp [PyData.eqvAll]
  | _ :: _, [] => by simp [PyData.eqvAll]
  | x :: a, y :: b => by
    have := eqv_tab a b
    simp only [List.map_cons, PyData.eqvAll, PyData.eqv, this, List.cons.injEq, Bool.decide_and, eqv_bools]
theorem eqv_nil (ds : List PyData) : PyData.eqv (.list ds) (.list []) = ds.isEmpty := by
  cases ds <;> simp [PyData.eqv, PyData.eqvAll]
theorem any_ints : ∀ (xs : List Int) (a : Int), ((dInts xs).any fun y => PyData.eqv y (.int a)) = xs.contains a
  | [], a => by simp [dInts]
  | x :: r, a => by
    have := any_ints r a
    unfold dInts at this ⊢
    simp only [List.map_cons, List.any_cons, this, PyData.eqv, List.contains_cons]
    congr 1
    exact Bool.beq_comm ..
theorem any_bools : ∀ (xs : List Bool), ((dBools xs).any fun y => PyData.eqv y (.bool true)) = xs.contains true
  | [] => by simp [dBools]
  | x :: r => by
    have := any_bools r
    unfold dBools at this ⊢
    simp only [List.map_cons, List.any_cons, this, PyData.eqv, List.contains_cons]
    cases x <;> rfl
section
variable {prog : Program} {w : World} {M : Model} {A : Around} {E : Value → Shared → Prop}
variable {wr wr' : List Addr} {g₀ g g' : Fz} {s₀ s s' : Shared} {env : Env} {C C' : Heap → Prop} {m k : Str → Option Value} {mu : List (Addr × Obj)}
theorem AOk.u65 {n : Nat} (a : AOk n A) : A.units + 65 < cLine := by
  have := a.un
  have e : cLine = 9900 := rfl
  omega
theorem in_ints_tup {n : Nat} {v : Value} {xs : List Int} {a : Int} {t : Tok} {Q : Value → Shared → Prop} (hA : AOk n A) (r : Rd s.heap v (.tuple (dInts xs))) (h : Q (.bool (xs.contains a)) s) : wpAny (model prog w) A (compareOp .In (.int a t) v) Q E s := by
  obtain ⟨as, r⟩ := r
  refine SeqAt.in_tuple_reads r (.int a t) (lay_ints xs).1 (by simp [PyData.canLay0]) ?_ (by rw [any_ints]; exact h)
  have h1 := hA.u65
  have h2 := (lay_ints xs).2
  omega
theorem in_ints_list {n : Nat} {v : Value} {xs : List Int} {a : Int} {t : Tok} {Q : Value → Shared → Prop} (hA : AOk n A) (r : Rd s.heap v (.list (dInts xs))) (h : Q (.bool (xs.contains a)) s) : wpAny (model prog w) A (compareOp .In (.int a t) v) Q E s := by
  obtain ⟨as, r⟩ := r
  refine SeqAt.in_list_reads r (.int a t) (lay_ints xs).1 (by simp [PyData.canLay0]) ?_ (by rw [any_ints]; exact h)
  have h1 := hA.u65
  have h2 := (lay_ints xs).2
  omega
theorem in_bools_list {n : Nat} {v : Value} {xs : List Bool} {Q : Value → Shared → Prop} (hA : AOk n A) (r : Rd s.heap v (.list (dBools xs))) (h : Q (.bool (xs.contains true)) s) : wpAny (model prog w) A (compareOp .In (.bool true) v) Q E s := by
  obtain ⟨as, r⟩ := r
  refine SeqAt.in_list_reads r (.bool true) (lay_bools xs).1 (by simp [PyData.canLay0]) ?_ (by rw [any_bools]; exact h)
  have h1 := hA.u65
  have h2 := (lay_bools xs).2
  omega
theorem ne_bools {n : Nat} {v u : Value} {xs ys : List Bool} {Q : Value → Shared → Prop} (hA : AOk n A) (r : Rd s.heap v (.list (dBools xs))) (q : Rd s.heap u (.list (dBools ys))) (h : Q (.bool (!decide (xs = ys))) s) : wpAny (model prog w) A (compareOp .NotEq v u) Q E s := by
  obtain ⟨as, r⟩ := r
  obtain ⟨bs, q⟩ := q
  refine SeqAt.compareNe_shaped r q (shaped_list (lay_bools _) (by decide)) (shaped_list (lay_bools _) (by decide)) (Nat.lt_of_le_of_lt (by omega) hA.u65) ?_
  rw [PyData.eqv, eqv_bools]; exact h
theorem eq_tab {n : Nat} {v u : Value} {xs ys : List (List Bool)} {Q : Value → Shared → Prop} (hA : AOk n A) (r : Rd s.heap v (tabD xs)) (q : Rd s.heap u (tabD ys)) (h : Q (.bool (decide (xs = ys))) s) : wpAny (model prog w) A (compareOp .Eq v u) Q E s := by
  obtain ⟨as, r⟩ := r
  obtain ⟨bs, q⟩ := q
  refine SeqAt.compareEq_shaped r q (shaped_list (lay_tab _) (by decide)) (shaped_list (lay_tab _) (by decide)) (Nat.lt_of_le_of_lt (by omega) hA.u65) ?_
  rw [tabD, tabD, PyData.eqv, eqv_tab]; exact h
theorem ne_nil_tups {n : Nat} {v u : Value} {xs : List (List Int)} {Q : Value → Shared → Prop} (hA : AOk n A) (r : Rd s.heap v (.list (tups xs))) (q : Rd s.heap u (.list [])) (h : Q (.bool (!xs.isEmpty)) s) : wpAny (model prog w) A (compareOp .NotEq v u) Q E s := by
  obtain ⟨as, r⟩ := r
  obtain ⟨bs, q⟩ := q
  refine SeqAt.compareNe_shaped r q (shaped_list (lay_tups _) (by decide)) (shaped_list (lay_ints []) (by decide)) (Nat.lt_of_le_of_lt (by omega) hA.u65) ?_
  rw [eqv_nil, tups, List.isEmpty_map]; exact h
theorem eq_nil_ints {n : Nat} {v u : Value} {xs : List Int} {Q : Value → Shared → Prop} (hA : AOk n A) (r : Rd s.heap v (.list (dInts xs))) (q : Rd s.heap u (.list [])) (h : Q (.bool xs.isEmpty) s) : wpAny (model prog w) A (compareOp .Eq v u) Q E s := by
  obtain ⟨as, r⟩ := r
  obtain ⟨bs, q⟩ := q
  refine SeqAt.compareEq_shaped r q (shaped_list (lay_ints _) (by decide)) (shaped_list (lay_ints []) (by decide)) (Nat.lt_of_le_of_lt (by omega) hA.u65) ?_
  rw [eqv_nil, dInts, List.isEmpty_map]; exact h
/-- reversed(list), an iterator over it -/
theorem x_reversed {l : Addr} {items : Array Value} {Q : Value → Shared → Prop} (X : Sx wr g₀ s₀ env C g m k mu s) (hh : A.handled = none) (hl : s.heap.IsList l items)
    (h : ∀ I o s', It prog w A (fun h => h.IsList l items) I items.size (fun i v => items[items.size - 1 - i]? = some v) (fun i h => i ≤ items.size ∧ h.IsRevIter I l ((items.size : Int) - 1 - i)) →
      (0 ≤ items.size ∧ s'.heap.IsRevIter I l ((items.size : Int) - 1 - (0 : Nat))) → s₀.heap.get? I = none → Sx wr g₀ s₀ env C g m k ((I, o) :: mu) s' → wpAny (model prog w) A (pyIter (.ref I)) Q E s') :
    wpAny (model prog w) A (call (.type "reversed") [.ref l]) (fun v s₁ => wpAny (model prog w) A (pyIter v) Q E s₁) E s := by
  have ne : l ≠ s.heap.objs.size := by obtain ⟨o, e, _⟩ := hl; exact Nat.ne_of_lt (Heap.lt_size e)
  refine call_reversed_list hl ?_
  exact h _ _ _ (It.rev hh _ l ne items) ⟨Nat.zero_le _, _, Heap.get?_push_size _ rfl, rfl, by simp [revObj]⟩ X.fresh (X.pushMu _ s.toks)
end
end Mine
end
section
open PySem PySem.W PyProof.Rows
set_option maxRecDepth 100000
set_option maxHeartbeats 4000000
namespace Mine
def finLayer (S : Nat) (F : List Int) : List Bool := ((List.range (S + 1)).map fun (q : Nat) => F.contains (q : Int)).set 0 false
def earlyAt (R : List (List Int)) (layer : List Bool) (letters : List Int) (j : Nat) : Bool := (letters.map fun a => layer.getD (cellR R ((j : Int) + 1) a).toNat false).contains true
def earlyTo (R : List (List Int)) (S : Nat) (layer : List Bool) (letters : List Int) (j : Nat) : List Bool := (List.range j).foldl (fun l i => l.set (i + 1) (earlyAt R layer letters i)) (List.replicate (S + 1) false)
def prevLayer (R : List (List Int)) (S : Nat) (layer : List Bool) (letters : List Int) : List Bool := earlyTo R S layer letters S
def backAt (R : List (List Int)) (S : Nat) (F : List Int) (kept : List (List Int)) (i : Nat) : List Bool := (kept.reverse.take i).foldl (prevLayer R S) (finLayer S F)
theorem earlyTo_len {R : List (List Int)} {S : Nat} {layer : List Bool} {letters : List Int} {j : Nat} : (earlyTo R S layer letters j).length = S + 1 := by
  unfold earlyTo
  have key : ∀ (is : List Nat) (l : List Bool), (is.foldl (fun l i => l.set (i + 1) (earlyAt R layer letters i)) l).length = l.length := by
    intro is
    induction is with
    | nil => intro l; rfl
    | cons x r ih => intro l; rw [List.foldl_cons, ih, List.length_set]
  rw [key]; simp
theorem earlyTo_succ {R : List (List Int)} {S : Nat} {layer : List Bool} {letters : List Int} {j : Nat} : earlyTo R S layer letters (j + 1) = (earlyTo R S layer letters j).set (j + 1) (earlyAt R layer letters j) := by
  unfold earlyTo; rw [List.range_succ, List.foldl_append]; rfl
theorem backAt_len {R : List (List Int)} {S : Nat} {F : List Int} {kept : List (List Int)} {i : Nat} : (backAt R S F kept i).length = S + 1 := by
  unfold backAt
  have key : ∀ (ks : List (List Int)) (l : List Bool), l.length = S + 1 → (ks.foldl (prevLayer R S) l).length = S + 1 := by
    intro ks
    induction ks with
    | nil => intro l h; exact h
    | cons x r ih => intro l _; exact ih _ earlyTo_len
  exact key _ _ (by simp [finLayer])
theorem backAt_succ {R : List (List Int)} {S : Nat} {F : List Int} {kept : List (List Int)} {i : Nat} {l : List Int} (h : kept.reverse[i]? = some l) : backAt R S F kept (i + 1) = prevLayer R S (backAt R S F kept i) l := by
  unfold backAt; rw [List.take_add_one, h, List.foldl_append]; rfl
section
variable {prog : Program} {w : World} {A : Around} {E : Value → Shared → Prop} {mg mb : Str → Option Value}
theorem alive_spec {n S T : Nat} (hA : AOk (n + 1) A) {g : Fz} {s : Shared} {R kept : List (List Int)} {F : List Int} {x : Addr} {st : Int} {vR vF vK : Value} {Q : Value → Shared → Prop}
    (Sb : Sub g s.heap) (up : ∀ h, Sub g h → Gl (KK w.params) mg mb h ∧ RuleAt h x S st vR vF ∧ Rd h vR (rowsD R) ∧ Rd h vF (.tuple (dInts F)) ∧ Rd h vK (listsD kept))
    (M : Mach S T R) (hk : ∀ l ∈ kept, ∀ a ∈ l, 1 ≤ a ∧ a ≤ T) (hk3 : ∀ l ∈ kept, l.length ≤ 100) (hkl : kept.length ≤ 100)
    (h : ∀ v g' s', Ev [] g s g' s' → (∀ h, Sub g' h → Rd h v (tabD ((List.range (kept.length + 1)).map (backAt R S F kept)).reverse)) → Q v s') :
    wpAny (model prog w) A (call (.ref 103) [.ref x, vK]) Q NE s := by
  have G := (up _ Sb).1
  refine wpAny_call (x_enter (fd := aliveFd) [] Sb up G hA (fun p hp => nomatch hp) List.nodup_nil (alive_look _) (alive_cd _) rfl (by kernel_rfl!) (by kernel_rfl!) (by kernel_rfl!) (by kernel_rfl!) (by kernel_rfl!) (by kernel_rfl!) fun L s₁ hL X W => ?_)
  have e1 : (bindL (callEnvC aliveFd L 103).kindOf ((aliveFd.params.args.map (·.arg)).zip [.ref x, vK]) fun _ => none) "kept" = some vK := by kernel_rfl!
  have c1 : (bindC (callEnvC aliveFd L 103).kindOf ((aliveFd.params.args.map (·.arg)).zip [.ref x, vK]) fun _ => none) "self" = some (.ref x) := by kernel_rfl!
  generalize (bindL (callEnvC aliveFd L 103).kindOf ((aliveFd.params.args.map (·.arg)).zip [.ref x, vK]) fun _ => none) = m at X e1
  generalize (bindC (callEnvC aliveFd L 103).kindOf ((aliveFd.params.args.map (·.arg)).zip [.ref x, vK]) fun _ => none) = kc at X c1
  have hS := M.hS
  have hT := M.hT
  have hA' := hA.deeper (env := callEnvC aliveFd L 103)
  -- layer = [state in self.finals for state in range(self.states + 1)]
  refine wpAny_execs_cons (wpAny_Assign_Name (x_comp (cl := [(Str.ofString "self", L + 1)]) (by with_unfolding_all rfl) (Call_ (x_blt (by exact (X.now).1) (v := .type "range") (by kernel_rfl!) (by kernel_rfl!) (PyProof.Rows.callWith_type1 (args2 (wpAny_BinOp (Attribute_Name_ (x_cell X c1 ?_)))))))))
  refine x_states X (by exact (X.now).1) (by exact (X.now).2.1) fun t2 s3 X => x_int X fun t3 s4 X => x_add X fun t4 s5 X => args0 ?_
  refine x_range1 (n := S + 1) X fun r g1 s6 X => ?_
  refine x_iter_rng (n := S + 1) X hA.hh X.now.2 (by omega) fun I oI s7 it p0 hI X => ?_
  refine comp_run (fun i ys mu₁ h => ys = vBools ((List.range i).map fun (q : Nat) => F.contains (q : Int)) ∧ mu₁ = []) X hI it p0 (fun _ _ => trivial) (.cons (by kernel_rfl!) .nil) (fun h c => ⟨rfl, rfl⟩) (by omega) ?_ ?_
  · rintro i v ys mu₁ g₂ s₂ L₁ m₂ hi - ⟨tv, rfl⟩ hmu em Y
    refine wpAny_tests_nil ?_
    rw [if_pos rfl]
    refine wpAny_Compare1 (x_local Y em (Attribute_Name_ (x_cell Y c1 ?_)))
    refine x_finals Y (by exact (Y.now).1.1.1) (by exact (Y.now).1.1.2.1) fun s8 Y => in_ints_tup hA' (by exact (Y.now).1.1.2.2.2.1) ?_
    refine ⟨_, _, Y.weaken fun h c => ⟨c.1, ?_, c.2.2⟩, hmu⟩
    rw [c.2.1, List.range_succ]
    unfold vBools
    simp [show (0 : Int) + (i : Int) = (i : Int) by omega]
  · intro D nn ys mu' g' s' L₁ oL mL fD fL hys hmu hns Y
    obtain rfl : mu' = [] := Y.now.2.2
    have eys : ys = vBools ((List.range (S + 1)).map fun (q : Nat) => F.contains (q : Int)) := Y.now.2.1
    subst eys
    refine comp_end Y fL hns fun s8 X => ?_
    refine st_cell X W fun s9 X => ?_
    -- layer[0] = False
    refine wpAny_execs_cons (wpAny_Assign_Subscript (Constant_bool (x_cell X us (x_int X fun t8 s13 X => ?_))) (by with_unfolding_all rfl))
    refine x_set_list (mu₁ := []) X LstO.lst (by omega) (by simp [vBools]) (by omega) fun oD s14 hoD X => ?_
    obtain ⟨g5, X⟩ := Sx.freeze1 X fD
    have hoD' : LstO oD (vBools (backAt R S F kept 0)) := by
      have e : backAt R S F kept 0 = finLayer S F := rfl
      rw [e]
      unfold finLayer vBools
      rw [List.map_set]
      exact hoD
    have X := X.weaken (C' := fun h => (Gl (KK w.params) mg mb h ∧ RuleAt h x S st vR vF ∧ Rd h vR (rowsD R) ∧ Rd h vF (.tuple (dInts F)) ∧ Rd h vK (listsD kept)) ∧ Rd h (.ref D) (.list (dBools (backAt R S F kept 0)))) fun h c => ⟨c.1.1.1, hoD'.rd c.2 rd_bools⟩
    obtain ⟨la, lvs, rfl, X⟩ := X.pinList (v := vK) (ds := kept.map fun l => .list (dInts l)) (fun h c => c.1.2.2.2.2)
    have hlen : lvs.length = kept.length := by rw [X.now.2.2.length]; simp
    -- found = [layer]
    refine wpAny_execs_cons (wpAny_Assign_Name (List_ (args2 (x_cell X us (args0 ?_)))))
    refine x_list X (by simp [sizeLine_eq]) fun fa s9 ffa X => ?_
    refine st_local X W fun s10 X => ?_
    refine wpAny_execs_cons (wpAny_For (Call_ (x_blt (by exact (X.now).1.1.1) (v := .type "reversed") (by kernel_rfl!) (by kernel_rfl!) (PyProof.Rows.callWith_type1 (args2 (x_local X (ug e1) (args0 ?_)))))))
    refine x_reversed X hA.hh (by exact (X.now).2.1) fun I2 oI2 s11 it2 p2 hI2 X => ?_
    refine it2.self 0 _ _ _ p2 (by exact (X.now).2.1) ?_
    refine x_loop (F₀ := fun h => Rd h (.ref D) (.list (dBools (backAt R S F kept 0))) ∧ RdL h [.ref D] ((List.range 1).map fun j => .list (dBools (backAt R S F kept j))))
      (fun i m₁ k₁ mu₁ F₁ => ∃ lv fs nn, k₁ "layer" = some lv ∧ m₁ "found" = some (.ref fa) ∧ k₁ "self" = some (.ref x) ∧ mu₁ = [(fa, lst fs nn)] ∧ fs.length = i + 1 ∧ F₁ = fun h => Rd h lv (.list (dBools (backAt R S F kept i))) ∧ RdL h fs ((List.range (i + 1)).map fun j => .list (dBools (backAt R S F kept j))))
      (fun _ _ _ _ _ => False) X hI2 W it2 p2 (fun h c => c.2.1) (fun h c => ⟨c.1.2, .cons c.1.2 .nil⟩) ⟨.ref D, [.ref D], 0, us, us, ug c1, rfl, rfl, rfl⟩ (cells_ok (by kernel_rfl!)) ?_ ?_ ?_
    · rintro i v m₁ k₁ mu₁ F₁ g₁ s₁ hi hv ⟨lv, fs, nn, el, ef, cs, rfl, hfs, rfl⟩ hmu X
      have hi' : i < kept.length := by simpa [hlen] using hi
      have hv' : lvs[kept.length - 1 - i]? = some v := by simpa [hlen] using hv
      have hrev : kept.reverse[i]? = some kept[kept.length - 1 - i] := by
        rw [List.getElem?_reverse hi', List.getElem?_eq_getElem (by omega)]
      have W := fw_loop (s := s₁) (env := callEnvC aliveFd L 103) (adr := [fa])
      obtain ⟨C1, hC1, X⟩ := X.opq
      refine wpAny_assign_Name (st_local X W fun s6 X => opq fun Qt hQt => ?_)
      have hmemk : kept[kept.length - 1 - i] ∈ kept := List.getElem_mem (by omega)
      generalize hlet : kept[kept.length - 1 - i] = letters at hrev hmemk
      obtain ⟨sa, svs, rfl, X⟩ := X.pinList (v := v) (ds := dInts letters) fun h c => by
        obtain ⟨d, hd, rv⟩ := (hC1 _ c).1.2.2.get hv'
        rw [List.getElem?_map, List.getElem?_eq_getElem (by omega), hlet] at hd
        cases hd; exact rv
      have hsl : svs.length = letters.length := by rw [X.now.2.2.length]; simp [dInts]
      -- early = [False] * (self.states + 1)
      refine wpAny_execs_cons (wpAny_Assign_Name (wpAny_BinOp (List_ (args2 (Constant_bool (args0 ?_))))))
      refine x_list X (by simp [sizeLine_eq]) fun b0 s12 _ X => ?_
      refine wpAny_BinOp (Attribute_Name_ (x_cell X cs ?_))
      refine x_states X (by exact (hC1 _ ((X.now).1)).1.1.1.1) (by exact (hC1 _ ((X.now).1)).1.1.1.2.1) fun t5 s13 X => x_int X fun t6 s14 X => x_add X fun t7 s15 X => ?_
      refine x_mul_list X W.loc (LstO.lst.isList (X.tx.mus _ List.mem_cons_self).1) (by omega) (by omega) (by rw [show ((S : Int) + 1).toNat = S + 1 by omega]; simp; omega) fun la2 s16 fla X => ?_
      have X := Sx.drop (mu₁ := [_]) X
      refine st_local X W fun s17 X => ?_
      have efl : (List.replicate ((S : Int) + 1).toNat [Value.bool false]).flatten = vBools (earlyTo R S (backAt R S F kept i) letters 0) := by
        rw [show ((S : Int) + 1).toNat = S + 1 by omega]
        show _ = vBools (List.replicate (S + 1) false)
        unfold vBools
        rw [List.map_replicate]
        generalize S + 1 = q
        induction q with
        | zero => rfl
        | succ q ih => rw [List.replicate_succ, List.replicate_succ, List.flatten_cons, ih]; rfl
      rw [efl] at X
      -- for state in range(1, self.states + 1)
      refine wpAny_execs_cons (wpAny_For (Call_ (x_blt (by exact (hC1 _ ((X.now).1)).1.1.1.1) (v := .type "range") (by kernel_rfl!) (by kernel_rfl!) (PyProof.Rows.callWith_type1 (args2 (x_int X fun t1 s2 X => args2 (wpAny_BinOp (Attribute_Name_ (x_cell X cs ?_)))))))))
      refine x_states X (by exact (hC1 _ ((X.now).1)).1.1.1.1) (by exact (hC1 _ ((X.now).1)).1.1.1.2.1) fun t2 s3 X => x_int X fun t3 s4 X => x_add X fun t4 s5 X => args0 ?_
      refine x_range2 X fun r g1 s6 X => ?_
      refine x_iter_rng (n := S) X hA.hh X.now.2 (by omega) fun I3 oI3 s7 it3 p3 hI3 X => ?_
      refine x_loop (F₀ := fun _ => True)
        (fun j m₂ k₂ mu₂ F₂ => ∃ o, mu₂ = [(la2, o), (fa, lst fs nn)] ∧ LstO o (vBools (earlyTo R S (backAt R S F kept i) letters j)) ∧ k₂ "layer" = some lv ∧ m₂ "early" = some (.ref la2) ∧ m₂ "letters" = some (.ref sa) ∧ m₂ "found" = some (.ref fa) ∧ k₂ "self" = some (.ref x) ∧ F₂ = fun _ => True)
        (fun _ _ _ _ _ => False) X hI3 W it3 p3 (fun h c => trivial) (fun h c => trivial) ⟨_, rfl, LstO.lst, el, us, ug us, ug (ug ef), cs, rfl⟩ (cells_ok (by kernel_rfl!)) ?_ ?_ ?_
      · rintro j v m₂ k₂ mu₂ F₂ g₂ s₂ hj ⟨tv, rfl⟩ ⟨o, rfl, ho, el, elt, elet, ef, cs, rfl⟩ hmu X
        have W := fw_loop (s := s₂) (env := callEnvC aliveFd L 103) (adr := [la2, fa])
        obtain ⟨C2, hC2, X⟩ := X.opq
        have hlj : (backAt R S F kept i).length = S + 1 := backAt_len
        have hel : (vBools (earlyTo R S (backAt R S F kept i) letters j)).length = S + 1 := by unfold vBools; rw [List.length_map, earlyTo_len]
        refine wpAny_assign_Name (st_cell X W fun s8 X => opq fun Qu hQu => ?_)
        refine wpAny_execs_cons (wpAny_Assign_Subscript (wpAny_Compare1 (Constant_bool (x_comp (cl := [(Str.ofString "state", L + 2), (Str.ofString "self", L + 1), (Str.ofString "layer", L + 3)]) (by with_unfolding_all rfl) (x_local X elet ?_)))) (by with_unfolding_all rfl))
        refine x_iter_list X hA.hh (by exact (hC2 _ ((X.now))).1.1.2.1) fun I4 oI4 s10 it4 p4 hI4 X => ?_
        refine comp_run (fun t ys mu₁ h => RdL h ys (dBools ((letters.take t).map fun a => (backAt R S F kept i).getD (cellR R ((j : Int) + 1) a).toNat false)) ∧ mu₁ = [(la2, o), (fa, lst fs nn)]) X hI4 it4 p4 (fun h c => by exact (hC2 _ ((c))).1.1.2.1) (.cons (by kernel_rfl!) (.cons (by kernel_rfl!) (.cons (by kernel_rfl!) .nil))) (fun h c => ⟨by simpa [dBools] using RdL.nil, rfl⟩) (by have := hk3 _ hmemk; simp [hsl]; omega) ?_ ?_
        · rintro t v ys mu₁ g₃ s₃ L₁ m₃ ht - hvt hmu em Y
          have ht' : t < letters.length := by simpa [hsl] using ht
          have hvt' : svs[t]? = some v := by simpa using hvt
          have rsv : RdL s₃.heap svs (dInts letters) := by exact (hC2 _ ((Y.now).1)).1.1.2.2
          obtain ⟨d, hd, rv⟩ := rsv.get hvt'
          unfold dInts at hd
          rw [List.getElem?_map, List.getElem?_eq_getElem ht'] at hd
          cases hd
          obtain ⟨ta, rfl⟩ := rv.int_inv
          have ha := hk _ hmemk _ (List.getElem_mem ht')
          obtain ⟨rw', hrw, hcell, hc0, hc1⟩ := M.at (st := (j : Int) + 1) (a := letters[t]) (by omega) (by omega) ha.1 ha.2
          have hcl : (cellR R ((j : Int) + 1) letters[t]).toNat < (backAt R S F kept i).length := by omega
          obtain ⟨b1, hb1⟩ : ∃ b, (backAt R S F kept i)[(cellR R ((j : Int) + 1) letters[t]).toNat]? = some b := ⟨_, List.getElem?_eq_getElem hcl⟩
          have e1' : (1 + (j : Int) - 1).toNat = j := by omega
          have e2' : ((j : Int) + 1 - 1).toNat = j := by omega
          rw [e2'] at hrw
          refine wpAny_tests_nil ?_
          rw [if_pos rfl]
          refine Subscript_ (x_cell Y (ug el) (Subscript_ (Subscript_ (Attribute_Name_ (x_cell Y (ug cs) ?_)))))
          refine x_rows Y (by exact (hC1 _ ((hC2 _ ((Y.now).1)).1.1.1)).1.1.1.1) (by exact (hC1 _ ((hC2 _ ((Y.now).1)).1.1.1)).1.1.1.2.1) fun s12 Y => ?_
          refine wpAny_BinOp (x_cell Y us (x_int Y fun t8 s13 Y => x_sub Y fun t9 s14 Y => ?_))
          refine x_item_tupF Y (fun h c => by exact (hC1 _ ((hC2 _ ((c).1)).1.1.1)).1.1.1.2.2.1) (by omega) (by omega) (d := .tuple (dInts rw')) (by rw [e1', List.getElem?_map, hrw]; rfl) fun v4 Y => ?_
          refine wpAny_BinOp (x_local Y em (x_int Y fun t10 s15 Y => x_sub Y fun t11 s16 Y => ?_))
          refine x_item_tupF Y (fun h c => by exact (c).2) (by omega) (by omega) (d := .int (cellR R ((j : Int) + 1) letters[t])) (by unfold dInts; rw [List.getElem?_map, hcell]; rfl) fun v5 Y => ?_
          obtain ⟨t12, rfl⟩ := Y.now.2.int_inv
          refine x_item_listF Y (fun h c => by exact (hC1 _ ((hC2 _ ((c).1.1.1)).1.1.1)).2.1) hc0 (by omega) (d := .bool b1) (by unfold dBools; rw [List.getElem?_map, hb1]; rfl) fun v6 Y => ?_
          obtain rfl := Y.now.2.bool_inv
          refine ⟨_, _, Y.weaken fun h c => ⟨c.1.1.1.1, ?_, c.1.1.1.2.2⟩, hmu⟩
          rw [List.take_add_one, List.getElem?_eq_getElem ht']
          unfold dBools
          rw [List.map_append, List.map_append]
          refine c.1.1.1.2.1.append ?_
          simp only [Option.toList, List.map_cons, List.map_nil, List.getD_eq_getElem?_getD, hb1]
          exact .cons .bool .nil
        · intro D5 nn5 ys mu' g' s' L₁ oL mL fD fL hys hmu hns Y
          obtain rfl : mu' = [(la2, o), (fa, lst fs nn)] := Y.now.2.2
          refine comp_end Y fL hns fun s8 Y => ?_
          obtain ⟨g6, Y⟩ := Y.freeze1 fD
          have eal : earlyAt R (backAt R S F kept i) letters j = (letters.map fun a => (backAt R S F kept i).getD (cellR R ((j : Int) + 1) a).toNat false).contains true := rfl
          refine in_bools_list hA' (xs := letters.map fun a => (backAt R S F kept i).getD (cellR R ((j : Int) + 1) a).toNat false) (LstO.rd LstO.lst (by exact (Y.now).2) (by
            have q := Y.now.1.2.1
            rw [List.take_of_length_le (by simp [hsl])] at q
            exact q)) ?_
          rw [← eal]
          refine x_local Y elt (x_cell Y us ?_)
          refine x_set_list (mu₁ := []) Y ho (by omega) (by rw [hel]; omega) (by omega) fun o2 s17 ho2 Y => ?_
          refine wpAny_execs_nil (hQu _ _ ⟨_, _, _, _, _, Y.weaken fun h c => ⟨by exact (hC2 _ ((c).1.1)).1, trivial⟩, ⟨o2, rfl, ?_, ug el, elt, elet, ef, ug cs, rfl⟩, rfl⟩)
          rw [earlyTo_succ]
          unfold vBools
          rw [List.map_set, show j + 1 = (1 + (j : Int)).toNat by omega]
          exact ho2
      · rintro m' k' mu' F' g' s' ⟨o, rfl, ho, el, elt, elet, ef, cs, rfl⟩ hmu X
        -- layer = early
        refine wpAny_execs_cons (wpAny_Assign_Name (x_local X elt (st_cell X W fun s18 X => ?_)))
        obtain ⟨g8, X⟩ := Sx.freeze1 X fla
        have enext : backAt R S F kept (i + 1) = earlyTo R S (backAt R S F kept i) letters S := backAt_succ hrev
        rw [← enext] at ho
        -- found.append(layer)
        refine wpAny_execs_cons (wpAny_Expr (MethodCall_ (x_local X ef (x_meth X List.mem_cons_self PySem.F.slot_list_append PySem.F.type_list_append (callWith_method1 (args2 (x_cell X us (args0 ?_))))))))
        refine x_append (mu₁ := []) X (by rw [hfs, sizeLine_eq]; omega) fun s19 X => ?_
        refine wpAny_execs_nil (hQt _ _ ⟨_, _, _, _, _, X.weaken fun h c => ⟨by exact (hC1 _ ((c).1.1.1.1)).1, ?_⟩, ⟨.ref la2, fs ++ [.ref la2], nn + 1, us, ef, ug cs, rfl, by simp [hfs], rfl⟩, rfl⟩)
        have q := ho.rd c.2 rd_bools
        refine ⟨q, ?_⟩
        rw [List.range_succ, List.map_append]
        exact RdL.snoc (by exact (hC1 _ ((c).1.1.1.1)).2.2) q
      · intro v m' k' mu' F' g' s' hJ
        exact hJ.elim
    · rintro m' k' mu' F' g' s' ⟨lv, fs, nn, el, ef, cs, rfl, hfs, rfl⟩ hmu X
      have hsz : fs.length = kept.length + 1 := by rw [hfs, List.size_toArray, hlen]
      refine wpAny_execs_cons (wpAny_Expr (MethodCall_ (x_local X ef (x_meth X List.mem_cons_self PySem.F.slot_list_reverse PySem.F.type_list_reverse (callWith_method0 ?_)))))
      refine x_reverse (mu₁ := []) X (by rw [hsz, sizeLine_eq]; omega) fun s20 X => ?_
      refine wpAny_execs_cons (wpAny_Return_some (x_local X ef ?_))
      obtain ⟨g6, X⟩ := X.freeze1 ffa
      refine h _ _ _ X.ev fun h' S' => ?_
      have c := X.tx.up h' S'
      have q := c.1.2.2.reverse
      rw [List.size_toArray, hlen] at q
      unfold tabD
      rw [List.map_reverse, List.map_map]
      exact LstO.rd LstO.lst c.2 q
    · intro v m' k' mu' F' g' s' hJ
      exact hJ.elim
end
end Mine
end
section
open PySem PySem.W PyProof.Rows
namespace Mine
section
variable {prog : Program} {w : World} {M : Model} {A : Around} {E : Value → Shared → Prop}
variable {wr wr' : List Addr} {g₀ g g' : Fz} {s₀ s s' : Shared} {env : Env} {C C' : Heap → Prop} {m k : Str → Option Value} {mu : List (Addr × Obj)}
theorem part_none {Q : Value → Shared → Prop} (h : Q .none s) : wpAny M A (evalPart none env) Q E s := wpAny_pure h
theorem part_some {e : Expr} {Q : Value → Shared → Prop} (h : wpAny M A (eval e env) Q E s) : wpAny M A (evalPart (some e) env) Q E s := h
theorem x_slice {l : Addr} {vs zs : List Value} {vl vu : Value} {lo hi : Option Int} {value slice : Expr} {Q : Value → Shared → Prop} (X : Sx wr g₀ s₀ env C g m k mu s) (hw : env.locals ∈ wr ∨ s₀.heap.get? env.locals = none)
    (hl : s.heap.IsList l vs.toArray) (pl : IsPart vl lo) (pu : IsPart vu hi) (hz : vs.length ≤ 1000) (e : (slicePick vs.toArray lo hi none).toList = zs)
    (h : ∀ D s', s₀.heap.get? D = none → Sx wr g₀ s₀ env C g m k ((D, lst zs 0) :: mu) s' → Q (.ref D) s')
    (hs : ∀ r, subscripted slice false (.ref l) (.ref r) = operate [.ref r, .ref l] (getItem (.ref l) (.ref r)) := by intro _; with_unfolding_all rfl)
    (ht : ∀ r, letTemporaryGo value (.ref l) r = pure () := by intro _; with_unfolding_all rfl) :
    wpAny (model prog w) A (subscriptTail value slice (.ref l) (.ref s.heap.objs.size)) Q E { s with heap := s.heap.push { cls := .type "slice", data := .fields #[vl, vu, .none] } } :=
  kmk_slice_lit X.fr X.news hl pl pu e (fun D h' F N p => h D _ (X.backFresh N p) (X.backNew (t := s.toks) hw F N p)) (hs _) ht (by rw [List.size_toArray, sizeLine_eq]; omega)
theorem slice_upto {vs : List Value} {b : Nat} : (slicePick vs.toArray none (some (b : Int)) none).toList = vs.take b := by rw [slicePick_upto']
theorem slice_from {vs : List Value} {a : Nat} : (slicePick vs.toArray (some (a : Int)) none none).toList = vs.drop a := by rw [slicePick_from']
theorem x_list_copy {l : Addr} {vs : List Value} {Q : Value → Shared → Prop} (X : Sx wr g₀ s₀ env C g m k mu s) (hw : env.locals ∈ wr ∨ s₀.heap.get? env.locals = none)
    (hl : s.heap.IsList l vs.toArray) (hz : vs.length ≤ 1000) (h : ∀ D c s', s₀.heap.get? D = none → Sx wr g₀ s₀ env C g m k ((D, lst vs c) :: mu) s' → Q (.ref D) s') :
    wpAny (model prog w) A (call (.type "list") [.ref l]) Q E s :=
  list_copyK X.fr X.news hl (fun D c h' F N p => h D c _ (X.backFresh N p) (X.backNew (t := s.toks) hw F N p)) (by rw [List.size_toArray, sizeLine_eq]; omega)
theorem x_add_list {a b : Addr} {vs ws : List Value} {Q : Value → Shared → Prop} (X : Sx wr g₀ s₀ env C g m k mu s) (hw : env.locals ∈ wr ∨ s₀.heap.get? env.locals = none)
    (ha : s.heap.IsList a vs.toArray) (hb : s.heap.IsList b ws.toArray) (hz : vs.length + ws.length ≤ 1000) (h : ∀ D s', s₀.heap.get? D = none → Sx wr g₀ s₀ env C g m k ((D, lst (vs ++ ws) 0) :: mu) s' → Q (.ref D) s') :
    wpAny (model prog w) A (binaryOp .Add (.ref a) (.ref b)) Q E s :=
  kmk_add_lit X.fr X.news ha hb (zs := vs ++ ws) rfl (fun D h' F N p => h D _ (X.backFresh N p) (X.backNew (t := s.toks) hw F N p)) (by simp [sizeLine_eq]; omega)
theorem x_tuple_of {l : Addr} {vs : List Value} {ds : List PyData} {Q : Value → Shared → Prop} (X : Sx wr g₀ s₀ env C g m k mu s) (hw : env.locals ∈ wr ∨ s₀.heap.get? env.locals = none)
    (hl : s.heap.IsList l vs.toArray) (hz : vs.length ≤ 1000) (hd : ∀ h, C h → RdL h vs ds) (h : ∀ a g' s', Sx wr g₀ s₀ env (fun h => C h ∧ Rd h (.ref a) (.tuple ds)) g' m k mu s' → Q (.ref a) s') :
    wpAny (model prog w) A (call (.type "tuple") [.ref l]) Q E s :=
  kde_tupleOf X.fr X.news hl (by rw [List.size_toArray]; omega) (zs := vs) rfl fun D h' F N p => by
    obtain ⟨g', Y⟩ := X.backFz (t := s.toks) hw F N p
    exact h _ _ _ (Y.weaken fun h c => ⟨c.1, rd_tup c.2 (hd h c.1)⟩)
theorem x_lenD {v : Value} {ds : List PyData} {Q : Value → Shared → Prop} (X : Sx wr g₀ s₀ env C g m k mu s) (r : Rd s.heap v (.list ds)) (hz : ds.length ≤ 1000)
    (h : ∀ t s', Sx wr g₀ s₀ env C g m k mu s' → Q (.int ds.length t) s') : wpAny (model prog w) A (call (.builtin "len") [v]) Q E s := by
  obtain ⟨a, vs, rfl, hl, rl⟩ := r.list_inv
  rw [← rl.length] at hz h
  exact x_len X hl hz h
theorem x_lenT {l : Addr} {vs : List Value} {Q : Value → Shared → Prop} (X : Sx wr g₀ s₀ env C g m k mu s) (hl : IsTup s.heap l vs.toArray) (hz : vs.length ≤ 1000)
    (h : ∀ t s', Sx wr g₀ s₀ env C g m k mu s' → Q (.int vs.length t) s') : wpAny (model prog w) A (call (.builtin "len") [.ref l]) Q E s :=
  kun_lenT hl (k := vs.length) (by rw [List.size_toArray]) (by omega) (h _ _ (X.toks _))
theorem x_repr {n : Nat} {v : Value} {ds : List PyData} {Q : Value → Shared → Prop} (hA : AOk n A) (X : Sx wr g₀ s₀ env C g m k mu s) (r : Rd s.heap v (.list ds)) (hs : (PyData.list ds).showable = true) (hnd : (PyData.list ds).hasDict = false) (hd : (PyData.list ds).depth ≤ 50) (hz : (PyData.list ds).shown.length ≤ sizeLine)
    (h : ∀ u s', Sx wr g₀ s₀ env C g m k mu s' → Q (.str (PyData.list ds).shown u) s') : wpAny (model prog w) A (call (.builtin "repr") [v]) Q E s := by
  obtain ⟨a, vs, rfl, -, -⟩ := id r.list_inv
  obtain ⟨as, r⟩ := r
  have := hA.un
  have e : cLine = 9900 := rfl
  exact repr_of_reads' r hs (PyData.noDict_hsm hnd) hA.gu (by omega) (fun _ _ e => e) (fun h' u tk hk => h _ _ (X.grow hk)) hz
end
end Mine
end
section
open PySem PySem.W PyProof.Rows
namespace Mine
section
variable {prog : Program} {w : World} {M : Model} {A : Around} {E : Value → Shared → Prop}
variable {wr wr' : List Addr} {g₀ g g' : Fz} {s₀ s s' : Shared} {env : Env} {C C' : Heap → Prop} {m k : Str → Option Value} {mu : List (Addr × Obj)}
/-- after a call that only made objects -/
theorem Sx.call {P : Heap → Prop} (X : Sx wr g₀ s₀ env C g m k mu s) (e : Ev [] g s g' s') (hp : ∀ h, Sub g' h → P h) : Sx wr g₀ s₀ env (fun h => C h ∧ P h) g' m k mu s' :=
  let Y := X.keep e
  ⟨Y.ev, { Y.tx with up := fun h S => ⟨Y.tx.up h S, hp h S⟩ }, Y.mw⟩
/-- after a call that turned one object -/
theorem Sx.call1 {a : Addr} {o o' : Obj} {mu₁ mu₂ : List (Addr × Obj)} {P : Heap → Prop} (X : Sx wr g₀ s₀ env C g m k (mu₁ ++ (a, o) :: mu₂) s) (e : Ev [a] g s g' s') (ho : s'.heap.get? a = some o') (hp : ∀ h, Sub g' h → P h) :
    Sx wr g₀ s₀ env (fun h => C h ∧ P h) g' m k (mu₁ ++ (a, o') :: mu₂) s' := by
  have hw : a ∈ wr ∨ s₀.heap.get? a = none := X.mw (a, o) (by simp)
  obtain ⟨h1, ga, aL, ac⟩ := X.tx.mus (a, o) (by simp)
  have nd := X.tx.nd
  rw [List.map_append, List.map_cons, List.nodup_append] at nd
  obtain ⟨n1, n2, n3⟩ := nd
  rw [List.nodup_cons] at n2
  have Y : Tx env C g' m k (mu₁ ++ mu₂) s' := X.drop.tx.keep e (by simpa using Ne.symm aL) (fun x c hc => by simpa using Ne.symm (ac x c hc)) fun p hp => by
    simp only [List.mem_singleton]
    intro q
    rcases List.mem_append.mp hp with h | h
    · exact n3 _ (List.mem_map_of_mem h) _ List.mem_cons_self q
    · exact n2.1 (List.mem_map.mpr ⟨p, h, q⟩)
  refine ⟨X.ev.trans e (fun b hb => by rw [List.mem_singleton.mp hb]; exact hw), { Y with up := fun h S => ⟨Y.up h S, hp h S⟩, mus := fun p hp => ?_, nd := ?_ }, fun p hp => ?_⟩
  · rcases List.mem_append.mp hp with h | h
    · exact Y.mus p (List.mem_append_left _ h)
    · rcases List.mem_cons.mp h with rfl | h
      · exact ⟨ho, e.hid _ _ h1 ga, aL, ac⟩
      · exact Y.mus p (List.mem_append_right _ h)
  · have := X.tx.nd
    rwa [List.map_append, List.map_cons] at this ⊢
  · rcases List.mem_append.mp hp with h | h
    · exact X.mw p (List.mem_append_left _ h)
    · rcases List.mem_cons.mp h with rfl | h
      · exact hw
      · exact X.mw p (List.mem_append_right _ (List.mem_cons_of_mem _ h))
theorem x_assign_tuple {elts : List Expr} {x1} {pos : Pos} {t : Addr} {vs : List Value} {Q : Unit → Shared → Prop} (X : Sx wr g₀ s₀ env C g m k mu s) (hh : A.handled = none) (ht : IsTup s.heap t vs.toArray)
    (hn : (assignEach elts env).length = vs.length) (hstar : (assignEach elts env).findIdx? (·.1) = none)
    (h : ∀ s', Sx wr g₀ s₀ env C g m k mu s' → wpAny (model prog w) A (assignInOrder ((assignEach elts env).map (·.2)) vs) Q E s') :
    wpAny (model prog w) A (assign (.Tuple elts x1 pos) env (.ref t)) Q E s := by
  refine assign_Tuple_tuple hh ht (by rw [List.size_toArray]; exact hn) hstar fun h' he => ?_
  have := h _ (X.grow (h' := h') (t := s.toks) fun b o e => he b o (Nat.ne_of_lt (Heap.lt_size e)) e)
  simpa using this
theorem in_order {x : Str} {px : Pos} {es : List Expr} {v : Value} {vs : List Value} {Q : Unit → Shared → Prop} (h : wpAny M A (storeName env x v) (fun _ s₁ => wpAny M A (assignInOrder ((assignEach es env).map (·.2)) vs) Q E s₁) E s) :
    wpAny M A (assignInOrder ((assignEach (.Name x px :: es) env).map (·.2)) (v :: vs)) Q E s := assignInOrder_cons (wpAny_assign_Name h)
theorem in_order0 {Q : Unit → Shared → Prop} (h : Q () s) : wpAny M A (assignInOrder ((assignEach [] env).map (·.2)) []) Q E s := assignInOrder_nil h
end
end Mine
end
section
open PySem PySem.W PyProof.Rows
set_option maxRecDepth 100000
set_option maxHeartbeats 4000000
namespace Mine
def thereAt (R : List (List Int)) (S : Nat) (st : Int) (kept : List (List Int)) (i : Nat) : List Bool := false :: (List.range S).map fun (q : Nat) => ((wordsOf (kept.take i)).map (endR R st)).contains (1 + (q : Int))
def goodAt (R : List (List Int)) (S : Nat) (F : List Int) (kept : List (List Int)) (i : Nat) : List Bool := false :: (List.range S).map fun (q : Nat) => !((wordsOf (kept.drop i)).filter fun w => F.contains (endR R (1 + (q : Int)) w)).isEmpty
section
variable {prog : Program} {w : World} {A : Around} {E : Value → Shared → Prop} {mg mb : Str → Option Value}
def LayC (w : World) (mg mb : Str → Option Value) (am : Addr) (S T : Nat) (st : Int) (t1 t2 t3 : Tok) (vR vF vK vre val : Value) (R kept : List (List Int)) (F : List Int) (h : Heap) : Prop :=
  Gl (KK w.params) mg mb h ∧ IsTup h am (List.toArray [.int S t1, .int T t2, vR, .int st t3, vF]) ∧ Rd h vR (rowsD R) ∧ Rd h vF (.tuple (dInts F)) ∧ Rd h vK (listsD kept) ∧
      Rd h vre (tabD ((List.range (kept.length + 1)).map (thereAt R S st kept))) ∧ Rd h val (tabD ((List.range (kept.length + 1)).map (goodAt R S F kept)))
theorem layers_spec {n S T : Nat} (hA : AOk (n + 2) A) {g : Fz} {s : Shared} {R kept : List (List Int)} {F : List Int} {am : Addr} {st : Int} {t1 t2 t3 : Tok} {vR vF vK vre val : Value} {Q : Value → Shared → Prop}
    (Sb : Sub g s.heap) (up : ∀ h, Sub g h → Gl (KK w.params) mg mb h ∧ IsTup h am (List.toArray [.int S t1, .int T t2, vR, .int st t3, vF]) ∧ Rd h vR (rowsD R) ∧ Rd h vF (.tuple (dInts F)) ∧ Rd h vK (listsD kept) ∧
      Rd h vre (tabD ((List.range (kept.length + 1)).map (thereAt R S st kept))) ∧ Rd h val (tabD ((List.range (kept.length + 1)).map (goodAt R S F kept))))
    (M : Mach S T R) (h0 : 0 ≤ st) (h1 : st ≤ S) (hk : ∀ l ∈ kept, ∀ a ∈ l, 1 ≤ a ∧ a ≤ T) (hk3 : ∀ l ∈ kept, l.length ≤ 3) (hkl : kept.length ≤ 4)
    (h : ∀ g' s', Ev [] g s g' s' → Q (.bool true) s') :
    wpAny (model prog w) A (call (.ref 198) [.ref am, vK, vre, val]) Q NE s := by
  have G := (up _ Sb).1
  refine wpAny_call (x_enter (fd := layFd) (C := LayC w mg mb am S T st t1 t2 t3 vR vF vK vre val R kept F) [] Sb up G hA (fun p hp => nomatch hp) List.nodup_nil (lay_look _) (lay_cd _) rfl (by kernel_rfl!) (by kernel_rfl!) (by kernel_rfl!) (by kernel_rfl!) (by kernel_rfl!) (by kernel_rfl!) fun L s₁ hL X W => ?_)
  have e1 : (bindL (callEnvC layFd L 198).kindOf ((layFd.params.args.map (·.arg)).zip [.ref am, vK, vre, val]) fun _ => none) "machine" = some (.ref am) := by kernel_rfl!
  have e2 : (bindL (callEnvC layFd L 198).kindOf ((layFd.params.args.map (·.arg)).zip [.ref am, vK, vre, val]) fun _ => none) "kept" = some vK := by kernel_rfl!
  have e3 : (bindL (callEnvC layFd L 198).kindOf ((layFd.params.args.map (·.arg)).zip [.ref am, vK, vre, val]) fun _ => none) "reached" = some vre := by kernel_rfl!
  have e4 : (bindL (callEnvC layFd L 198).kindOf ((layFd.params.args.map (·.arg)).zip [.ref am, vK, vre, val]) fun _ => none) "alive" = some val := by kernel_rfl!
  generalize (bindL (callEnvC layFd L 198).kindOf ((layFd.params.args.map (·.arg)).zip [.ref am, vK, vre, val]) fun _ => none) = m at X e1 e2 e3 e4
  generalize (bindC (callEnvC layFd L 198).kindOf ((layFd.params.args.map (·.arg)).zip [.ref am, vK, vre, val]) fun _ => none) = kc at X
  obtain ⟨C0, hC0, X⟩ := X.opq
  have hS := M.hS
  have hT := M.hT
  have hA' := hA.deeper (env := callEnvC layFd L 198)
  have hwk : ∀ {ls : List (List Int)}, (∀ l ∈ ls, l ∈ kept) → ∀ w ∈ wordsOf ls, ∀ a ∈ w, 1 ≤ a ∧ a ≤ T := fun hls w hw a ha => by
    obtain ⟨l, hl, hm⟩ := (mem_words.mp hw).mem a ha
    exact hk _ (hls _ hl) _ hm
  have hwn : ∀ {ls : List (List Int)}, ls.length ≤ 4 → (∀ l ∈ ls, l ∈ kept) → (wordsOf ls).length ≤ 100 := fun h4 hls => by
    have q := words_len _ [[]] 0 (fun l hl => hk3 l (hls l hl)) (by simp)
    refine Nat.le_trans (Nat.le_trans q (Nat.pow_le_pow_right (by decide) (show 0 + _ ≤ 4 by omega))) (by decide)
  -- states, letters, rows, start, finals = machine
  refine wpAny_execs_cons (Assign_Tuple (x_local X e1 (x_assign_tuple X hA.hh (by exact (hC0 _ ((X.now))).2.1) rfl rfl fun s2 X => in_order (st_local X W fun s3 X => in_order (st_local X W fun s4 X => in_order (st_cell X W fun s5 X => in_order (st_cell X W fun s6 X => in_order (st_cell X W fun s7 X => in_order0 ?_)))))))
    (by with_unfolding_all rfl) (by with_unfolding_all rfl))
  -- the lengths
  refine wpAny_execs_cons (wpAny_If (isTrue_or (wpAny_isTrue_Compare1 (Call_ (x_blt (by exact (hC0 _ ((X.now))).1) (v := .builtin "len") (by kernel_rfl!) (by kernel_rfl!) (PyProof.Rows.callWith_builtin1 (args2 (x_local X (ug (ug e3)) (args0 ?_)))))))))
  refine x_lenD X (by exact (hC0 _ ((X.now))).2.2.2.2.2.1) (by simp; omega) fun t5 s8 X => ?_
  refine wpAny_BinOp (Call_ (x_blt (by exact (hC0 _ ((X.now))).1) (v := .builtin "len") (by kernel_rfl!) (by kernel_rfl!) (PyProof.Rows.callWith_builtin1 (args2 (x_local X (ug (ug e2)) (args0 ?_))))))
  refine x_lenD X (by exact (hC0 _ ((X.now))).2.2.2.2.1) (by simp; omega) fun t6 s9 X => x_int X fun t7 s10 X => x_add X fun t8 s11 X => ne_int (wpAny_truthy_bool ?_)
  rw [show ((((List.map (fun l => PyData.list (dBools l)) (List.map (thereAt R S st kept) (List.range (kept.length + 1)))).length : Int) != ((List.map (fun l => PyData.list (dInts l)) kept).length : Int) + 1) = false) by simp]
  refine isTrue_or (wpAny_isTrue_Compare1 (Call_ (x_blt (by exact (hC0 _ ((X.now))).1) (v := .builtin "len") (by kernel_rfl!) (by kernel_rfl!) (PyProof.Rows.callWith_builtin1 (args2 (x_local X (ug (ug e4)) (args0 ?_)))))))
  refine x_lenD X (by exact (hC0 _ ((X.now))).2.2.2.2.2.2) (by simp; omega) fun t9 s12 X => ?_
  refine wpAny_BinOp (Call_ (x_blt (by exact (hC0 _ ((X.now))).1) (v := .builtin "len") (by kernel_rfl!) (by kernel_rfl!) (PyProof.Rows.callWith_builtin1 (args2 (x_local X (ug (ug e2)) (args0 ?_))))))
  refine x_lenD X (by exact (hC0 _ ((X.now))).2.2.2.2.1) (by simp; omega) fun t10 s13 X => x_int X fun t11 s14 X => x_add X fun t12 s15 X => ne_int (wpAny_truthy_bool ?_)
  rw [show ((((List.map (fun l => PyData.list (dBools l)) (List.map (goodAt R S F kept) (List.range (kept.length + 1)))).length : Int) != ((List.map (fun l => PyData.list (dInts l)) kept).length : Int) + 1) = false) by simp]
  refine isTrue_or_nil ?_
  refine wpAny_execs_nil ?_
  -- for spot in range(len(kept) + 1)
  refine wpAny_execs_cons (wpAny_For (Call_ (x_blt (by exact (hC0 _ ((X.now))).1) (v := .type "range") (by kernel_rfl!) (by kernel_rfl!) (PyProof.Rows.callWith_type1 (args2 (wpAny_BinOp (Call_ (x_blt (by exact (hC0 _ ((X.now))).1) (v := .builtin "len") (by kernel_rfl!) (by kernel_rfl!) (PyProof.Rows.callWith_builtin1 (args2 (x_local X (ug (ug e2)) (args0 ?_))))))))))))
  refine x_lenD X (by exact (hC0 _ ((X.now))).2.2.2.2.1) (by simp; omega) fun t13 s16 X => x_int X fun t14 s17 X => x_add X fun t15 s18 X => args0 ?_
  rw [List.length_map, show ((kept.length : Int) + 1) = ((kept.length + 1 : Nat) : Int) by omega]
  refine x_range1 (n := kept.length + 1) X fun r g1 s6 X => ?_
  refine x_iter_rng (n := kept.length + 1) X hA.hh X.now.2 (by omega) fun I oI s7 it p0 hI X => ?_
  refine x_loop (F₀ := fun _ => True) (fun i m₁ k₁ mu₁ F₁ => (∃ t, m₁ "states" = some (.int S t)) ∧ m₁ "kept" = some vK ∧ m₁ "reached" = some vre ∧ m₁ "alive" = some val ∧ k₁ "rows" = some vR ∧ (∃ t, k₁ "start" = some (.int st t)) ∧ k₁ "finals" = some vF)
    (fun v _ _ _ _ => False) X hI W it p0 (fun _ _ => trivial) (fun _ _ => trivial) ⟨⟨t1, ug us⟩, ug (ug e2), ug (ug e3), ug (ug e4), ug (ug us), ⟨t3, ug us⟩, us⟩ (cells_ok (by kernel_rfl!)) ?_ ?_ ?_
  · rintro i v m₁ k₁ mu₁ F₁ g₁ s₁ hi ⟨tv, rfl⟩ ⟨⟨ts, es⟩, ek, er, ea, cr, ⟨tst, cs⟩, cf⟩ hmu X
    obtain rfl : mu₁ = [] := List.map_eq_nil_iff.mp hmu
    have W := fw_loop (s := s₁) (env := callEnvC layFd L 198) (adr := [])
    obtain ⟨C1, hC1, X⟩ := X.opq
    rw [show (0 : Int) + (i : Int) = (i : Int) by omega]
    refine wpAny_assign_Name (st_local X W fun s3 X => opq fun Qt hQt => ?_)
    have htk : ∀ l ∈ kept.take i, l ∈ kept := fun l hl => List.mem_of_mem_take hl
    have hdk : ∀ l ∈ kept.drop i, l ∈ kept := fun l hl => List.mem_of_mem_drop hl
    have hln : (kept.take i).length ≤ 4 := by rw [List.length_take]; omega
    have hld : (kept.drop i).length ≤ 4 := by rw [List.length_drop]; omega
    obtain ⟨la, lvs, hla, X⟩ := X.pinList (v := vK) (ds := kept.map fun l => .list (dInts l)) (fun h c => by exact (hC0 _ ((hC1 _ ((c))).1.1)).2.2.2.2.1)
    rw [hla] at ek
    have hlen : lvs.length = kept.length := by rw [X.now.2.2.length]; simp
    -- ahead
    refine wpAny_execs_cons (x_assign_comp (cl := [(Str.ofString "start", L + 2), (Str.ofString "rows", L + 1)]) (by with_unfolding_all rfl) (by with_unfolding_all rfl)
      (Call_ (x_glob (v := .ref 181) (K := KK w.params) (by exact (hC0 _ ((hC1 _ ((X.now).1)).1.1)).1) (by kernel_rfl!) (callWith_K (K := KK w.params) (Gl.inK (by exact (hC0 _ ((hC1 _ ((X.now).1)).1.1)).1)) (by kernel_rfl!) (args2 (Subscript_ (x_local X (ug ek) (wpAny_Slice (part_none (part_some (x_local X us (part_none ?_))))))))))))
    refine x_slice X W.loc (by exact (X.now).2.1) .none (.int _ _) (by omega) slice_upto fun D1 s4 fD1 X => args0 ?_
    obtain ⟨g2, X⟩ := X.freeze1 fD1
    refine ⟨Gl.inK (by exact (hC0 _ ((hC1 _ ((X.now).1.1)).1.1)).1), words_spec hA' (ls := kept.take i) X.sub (fun h S => ⟨by exact (hC0 _ ((hC1 _ ((X.tx.up h S).1.1)).1.1)).1, by
      have c := X.tx.up h S
      unfold listsD
      rw [List.map_take]
      exact LstO.rd LstO.lst c.2 (c.1.2.2.take i)⟩) hln (fun l hl => hk3 l (htk l hl)) fun v1 g3 s5 e hv => ?_⟩
    have X := X.call e hv
    obtain ⟨wa, wvs, rfl, X⟩ := X.pinList (v := v1) (ds := tups (wordsOf (kept.take i))) (fun h c => by exact (c).2)
    have hwl : wvs.length = (wordsOf (kept.take i)).length := by rw [X.now.2.2.length]; simp [tups]
    have hw100 := hwn hln htk
    refine x_iter_list X hA.hh (by exact (X.now).2.1) fun I2 oI2 s6 it2 p2 hI2 X => ?_
    refine comp_run (fun j ys mu₁ h => RdL h ys (dInts (((wordsOf (kept.take i)).take j).map (endR R st))) ∧ mu₁ = []) X hI2 it2 p2 (fun h c => c.2.1) (.cons (by kernel_rfl!) (.cons (by kernel_rfl!) .nil)) (fun h c => ⟨by simpa [dInts] using RdL.nil, rfl⟩) (by simp [hwl]; omega) ?_ ?_
    · rintro j v ys mu₁ g₂ s₂ L₁ m₂ hj - hvj hmu em Y
      have hj' : j < (wordsOf (kept.take i)).length := by simpa [hwl] using hj
      have hvj' : wvs[j]? = some v := by simpa using hvj
      refine wpAny_tests_nil ?_
      rw [if_pos rfl]
      refine opq fun Qe hQe => ?_
      refine Call_ (x_glob (v := .ref 188) (K := KK w.params) (by exact (hC0 _ ((hC1 _ ((Y.now).1.1.1.1.1)).1.1)).1) (by kernel_rfl!) (callWith_K (K := KK w.params) (Gl.inK (by exact (hC0 _ ((hC1 _ ((Y.now).1.1.1.1.1)).1.1)).1)) (by kernel_rfl!) (args2 (x_cell Y cr (args2 (x_cell Y cs (args2 (x_local Y em (args0 ?_)))))))))
      refine ⟨Gl.inK (by exact (hC0 _ ((hC1 _ ((Y.now).1.1.1.1.1)).1.1)).1), end_spec hA' (R := R) (word := (wordsOf (kept.take i))[j]) Y.sub (fun h S => ⟨by exact (hC0 _ ((hC1 _ ((Y.tx.up h S).1.1.1.1.1)).1.1)).1, by exact (hC0 _ ((hC1 _ ((Y.tx.up h S).1.1.1.1.1)).1.1)).2.2.1, by
        obtain ⟨d, hd, r⟩ := (Y.tx.up h S).1.2.2.get hvj'
        unfold tups at hd
        rw [List.getElem?_map, List.getElem?_eq_getElem hj'] at hd
        cases hd; exact r⟩) M h0 h1 (fun a ha => hwk htk _ (List.getElem_mem hj') a ha) fun t' g4 s7 e hb0 hb1 => ?_⟩
      have Y := Y.keep e
      refine hQe _ _ ⟨_, _, Y.weaken fun h c => ⟨c.1, ?_, c.2.2⟩, hmu⟩
      rw [List.take_add_one, List.getElem?_eq_getElem hj', List.map_append]
      unfold dInts
      rw [List.map_append]
      exact c.2.1.append (.cons .int .nil)
    · intro D2 nn ys mu' g' s' L₁ oL mL fD fL hys hmu hns Y
      obtain rfl : mu' = [] := Y.now.2.2
      refine comp_end_assign Y W fL hns fun s8 X => ?_
      obtain ⟨g5, X⟩ := X.freeze1 fD
      have X := X.weaken (C' := fun h => _ ∧ Rd h (.ref D2) (.list (dInts ((wordsOf (kept.take i)).map (endR R st))))) fun h c => ⟨c.1.1.1.1.1, by
        have q := c.1.2.1
        rw [List.take_of_length_le (by simp [hwl])] at q
        exact LstO.rd LstO.lst c.2 q⟩
      -- behind
      refine wpAny_execs_cons (wpAny_Assign_Name (Call_ (x_glob (v := .ref 181) (K := KK w.params) (by exact (hC0 _ ((hC1 _ ((X.now).1.1)).1.1)).1) (by kernel_rfl!) (callWith_K (K := KK w.params) (Gl.inK (by exact (hC0 _ ((hC1 _ ((X.now).1.1)).1.1)).1)) (by kernel_rfl!) (args2 (Subscript_ (x_local X (ug (ug ek)) (wpAny_Slice (part_some (x_local X (ug us) (part_none (part_none ?_))))))))))))
      refine x_slice X W.loc (by exact (X.now).1.2.1) (.int _ _) .none (by omega) slice_from fun D1 s4 fD1 X => args0 ?_
      obtain ⟨g2, X⟩ := X.freeze1 fD1
      refine ⟨Gl.inK (by exact (hC0 _ ((hC1 _ ((X.now).1.1.1)).1.1)).1), words_spec hA' (ls := kept.drop i) X.sub (fun h S => ⟨by exact (hC0 _ ((hC1 _ ((X.tx.up h S).1.1.1)).1.1)).1, by
        have c := X.tx.up h S
        unfold listsD
        rw [List.map_drop]
        exact LstO.rd LstO.lst c.2 (c.1.1.2.2.drop i)⟩) hld (fun l hl => hk3 l (hdk l hl)) fun v1 g3 s5 e hv => ?_⟩
      have X := X.call e hv
      refine st_local X W fun s6 X => ?_
      obtain ⟨ba, bvs, rfl, X⟩ := X.pinList (v := v1) (ds := tups (wordsOf (kept.drop i))) (fun h c => by exact (c).2)
      have hbl : bvs.length = (wordsOf (kept.drop i)).length := by rw [X.now.2.2.length]; simp [tups]
      have hb100 := hwn hld hdk
      -- there, good = [False], [False]
      refine wpAny_execs_cons (Assign_Tuple_swapped (Tuple_ (args2 (List_ (args2 (Constant_bool (args0 ?_)))))) (by with_unfolding_all rfl) (by with_unfolding_all rfl))
      refine x_list X (by simp [sizeLine_eq]) fun th s7 fth X => args2 (List_ (args2 (Constant_bool (args0 ?_))))
      refine x_list X (by simp [sizeLine_eq]) fun gd s8 fgd X => args0 ?_
      refine x_tupleI X (by simp [sizeLine_eq]) fun ta g6 s9 X => ?_
      refine x_unpack X hA.hh (by exact (X.now).2) rfl fun s10 X => ?_
      refine assignInOrder_cons (bindName_ (st_local X W fun s11 X => assignInOrder_cons (bindName_ (st_local X W fun s12 X => assignInOrder_nil ?_))))
      -- for state in range(1, states + 1)
      refine wpAny_execs_cons (wpAny_For (Call_ (x_blt (K := KK w.params) (by exact (hC0 _ ((hC1 _ ((X.now).1.1.1.1.1.1)).1.1)).1) (v := .type "range") (by kernel_rfl!) (by kernel_rfl!) (PyProof.Rows.callWith_type1 (args2 (x_int X fun t1 s2 X => args2 (wpAny_BinOp (x_local X (ug (ug (ug (ug (ug es))))) ?_))))))))
      refine x_int X fun t3 s4 X => x_add X fun t4 s5 X => args0 ?_
      refine x_range2 X fun r g1 s6 X => ?_
      refine x_iter_rng (n := S) X hA.hh X.now.2 (by omega) fun I3 oI3 s7 it3 p3 hI3 X => ?_
      refine x_loop (F₀ := fun _ => True)
        (fun j m₂ k₂ mu₂ F₂ => ∃ n1 n2, mu₂ = [(gd, lst (vBools ((goodAt R S F kept i).take (j + 1))) n1), (th, lst (vBools ((thereAt R S st kept i).take (j + 1))) n2)] ∧ m₂ "there" = some (.ref th) ∧ m₂ "good" = some (.ref gd) ∧ m₂ "ahead" = some (.ref D2) ∧ m₂ "behind" = some (.ref ba) ∧ m₂ "states" = some (.int S ts) ∧ m₂ "kept" = some (.ref la) ∧ m₂ "reached" = some vre ∧ m₂ "alive" = some val ∧ m₂ "spot" = some (.int i tv) ∧ k₂ "rows" = some vR ∧ k₂ "start" = some (.int st tst) ∧ k₂ "finals" = some vF ∧ F₂ = fun _ => True)
        (fun _ _ _ _ _ => False) X hI3 W it3 p3 (fun h c => trivial) (fun h c => trivial) ⟨0, 0, rfl, us, ug us, ug (ug (ug us)), ug (ug us), ug (ug (ug (ug (ug es)))), ug (ug (ug (ug (ug ek)))), ug (ug (ug (ug (ug er)))), ug (ug (ug (ug (ug ea)))), ug (ug (ug (ug us))), cr, cs, cf, rfl⟩ (cells_ok (by kernel_rfl!)) ?_ ?_ ?_
      · rintro j v m₂ k₂ mu₂ F₂ g₂ s₂ hj ⟨tj, rfl⟩ ⟨n1, n2, rfl, eth, egd, eah, ebe, es, ek, er, ea, esp, cr, cs, cf, rfl⟩ hmu X
        have W := fw_loop (s := s₂) (env := callEnvC layFd L 198) (adr := [gd, th])
        obtain ⟨C2, hC2, X⟩ := X.opq
        have hlth : ((thereAt R S st kept i).take (j + 1)).length ≤ 5 := by rw [List.length_take]; simp [thereAt]; omega
        have hlgd : ((goodAt R S F kept i).take (j + 1)).length ≤ 5 := by rw [List.length_take]; simp [goodAt]; omega
        have eth2 : (thereAt R S st kept i).take (j + 1 + 1) = (thereAt R S st kept i).take (j + 1) ++ [((wordsOf (kept.take i)).map (endR R st)).contains (1 + (j : Int))] := by
          rw [List.take_add_one (i := j + 1)]
          unfold thereAt
          rw [List.getElem?_cons_succ, List.getElem?_map, List.getElem?_range hj]; rfl
        have egd2 : (goodAt R S F kept i).take (j + 1 + 1) = (goodAt R S F kept i).take (j + 1) ++ [!((wordsOf (kept.drop i)).filter fun w => F.contains (endR R (1 + (j : Int)) w)).isEmpty] := by
          rw [List.take_add_one (i := j + 1)]
          unfold goodAt
          rw [List.getElem?_cons_succ, List.getElem?_map, List.getElem?_range hj]; rfl
        refine wpAny_assign_Name (st_cell X W fun s8 X => opq fun Qu hQu => ?_)
        -- there.append(state in ahead)
        refine wpAny_execs_cons (wpAny_Expr (MethodCall_ (x_local X eth (x_meth X (List.mem_cons_of_mem _ List.mem_cons_self) PySem.F.slot_list_append PySem.F.type_list_append (callWith_method1 (args2 (wpAny_Compare1 (x_cell X us (x_local X eah (in_ints_list hA' (xs := (wordsOf (kept.take i)).map (endR R st)) (by exact (hC2 _ ((X.now))).1.1.1.1.1.1.2) (args0 ?_)))))))))))
        refine x_append (mu₁ := [_]) X (by unfold vBools; rw [List.length_map, sizeLine_eq]; omega) fun s19 X => ?_
        -- good.append([...] != [])
        refine wpAny_execs_cons (wpAny_Expr (MethodCall_ (x_local X egd (x_meth X List.mem_cons_self PySem.F.slot_list_append PySem.F.type_list_append (callWith_method1 (args2 (wpAny_Compare1 (x_comp (cl := [(Str.ofString "state", L + 4), (Str.ofString "rows", L + 1), (Str.ofString "finals", L + 3)]) (by with_unfolding_all rfl) (x_local X ebe ?_)))))))))
        have hbi : s19.heap.IsList ba bvs.toArray := by exact (hC2 _ ((X.now))).1.1.1.2.1
        refine x_iter_list X hA.hh hbi fun I4 oI4 s20 it4 p4 hI4 X => ?_
        refine comp_run (fun t ys mu₁ h => RdL h ys (tups (((wordsOf (kept.drop i)).take t).filter fun w => F.contains (endR R (1 + (j : Int)) w))) ∧ mu₁ = _) X hI4 it4 p4 (fun h c => by exact (hC2 _ ((c))).1.1.1.2.1) (.cons (by kernel_rfl!) (.cons (by kernel_rfl!) (.cons (by kernel_rfl!) .nil))) (fun h c => ⟨by simpa [tups] using RdL.nil, rfl⟩) (by simp [hbl]; omega) ?_ ?_
        · rintro t v ys mu₁ g₃ s₃ L₁ m₃ ht - hvt hmu em Y
          have ht' : t < (wordsOf (kept.drop i)).length := by simpa [hbl] using ht
          have hvt' : bvs[t]? = some v := by simpa using hvt
          have hwv : ∀ h, RdL h bvs (tups (wordsOf (kept.drop i))) → Rd h v (.tuple (dInts (wordsOf (kept.drop i))[t])) := fun h r => by
            obtain ⟨d, hd, r⟩ := r.get hvt'
            unfold tups at hd
            rw [List.getElem?_map, List.getElem?_eq_getElem ht'] at hd
            cases hd; exact r
          refine wpAny_tests_one (opq fun Qe hQe => wpAny_isTrue_Compare1 (Call_ (x_glob (v := .ref 188) (K := KK w.params) (by exact (hC0 _ ((hC1 _ ((hC2 _ ((Y.now).1)).1.1.1.1.1.1.1.1)).1.1)).1) (by kernel_rfl!) (callWith_K (K := KK w.params) (Gl.inK (by exact (hC0 _ ((hC1 _ ((hC2 _ ((Y.now).1)).1.1.1.1.1.1.1.1)).1.1)).1)) (by kernel_rfl!) (args2 (x_cell Y (ug cr) (args2 (x_cell Y us (args2 (x_local Y em (args0 ?_)))))))))))
          refine ⟨Gl.inK (by exact (hC0 _ ((hC1 _ ((hC2 _ ((Y.now).1)).1.1.1.1.1.1.1.1)).1.1)).1), end_spec hA' (R := R) (word := (wordsOf (kept.drop i))[t]) Y.sub (fun h S => ⟨by exact (hC0 _ ((hC1 _ ((hC2 _ ((Y.tx.up h S).1)).1.1.1.1.1.1.1.1)).1.1)).1, by exact (hC0 _ ((hC1 _ ((hC2 _ ((Y.tx.up h S).1)).1.1.1.1.1.1.1.1)).1.1)).2.2.1, hwv h (by exact (hC2 _ ((Y.tx.up h S).1)).1.1.1.2.2)⟩) M (by omega) (by omega) (fun a ha => hwk hdk _ (List.getElem_mem ht') a ha) fun t' g4 s7 e hb0 hb1 => ?_⟩
          have Y := Y.keep e
          refine x_cell Y (ug cf) (in_ints_tup hA' (xs := F) (by exact (hC0 _ ((hC1 _ ((hC2 _ ((Y.now).1)).1.1.1.1.1.1.1.1)).1.1)).2.2.2.1) (wpAny_truthy_bool (hQe _ _ ?_)))
          have et : (wordsOf (kept.drop i)).take (t + 1) = (wordsOf (kept.drop i)).take t ++ [(wordsOf (kept.drop i))[t]] := by
            rw [List.take_add_one, List.getElem?_eq_getElem ht']; rfl
          rw [et, List.filter_append]
          cases hc : F.contains (endR R (1 + (j : Int)) (wordsOf (kept.drop i))[t]) with
          | false =>
            rw [if_neg Bool.false_ne_true]
            refine ⟨_, _, Y.weaken fun h c => ⟨c.1, ?_, c.2.2⟩, hmu⟩
            rw [List.filter_cons, hc]
            simpa using c.2.1
          | true =>
            rw [if_pos rfl]
            refine x_local Y em ⟨_, _, Y.weaken fun h c => ⟨c.1, ?_, c.2.2⟩, hmu⟩
            rw [List.filter_cons, hc]
            unfold tups
            rw [List.map_append]
            exact c.2.1.append (.cons (hwv h (by exact (hC2 _ ((c).1)).1.1.1.2.2)) .nil)
        · intro D5 nn5 ys mu' g' s' L₁ oL mL fD fL hys hmu hns Y
          have emu := Y.now.2.2
          subst emu
          refine comp_end Y fL hns fun s8 Y => ?_
          obtain ⟨g6, Y⟩ := Y.freeze1 fD
          have Y := Y.weaken (C' := fun h => _ ∧ Rd h (.ref D5) (.list (tups ((wordsOf (kept.drop i)).filter fun w => F.contains (endR R (1 + (j : Int)) w))))) fun h c => ⟨c.1.1, by
            have q := c.1.2.1
            rw [List.take_of_length_le (by simp [hbl])] at q
            exact LstO.rd LstO.lst c.2 q⟩
          refine List_ (args0 (x_list Y (by simp) fun e0 s9 fe0 Y => ?_))
          have re0 : Rd s9.heap (.ref e0) (.list []) := LstO.rd (LstO.lst (n := 0)) (Y.tx.mus _ List.mem_cons_self).1 .nil
          refine ne_nil_tups hA' (by exact (Y.now).2) re0 (args0 ?_)
          have Y := Y.drop1
          refine x_append (mu₁ := []) Y (by unfold vBools; rw [List.length_map, sizeLine_eq]; omega) fun s10 Y => ?_
          refine wpAny_execs_nil (hQu _ _ ⟨_, _, _, _, _, Y.weaken fun h c => ⟨by exact (hC2 _ ((c).1)).1, trivial⟩, ⟨n1 + 1, n2 + 1, ?_, eth, egd, eah, ebe, es, ek, er, ea, esp, ug cr, ug cs, ug cf, rfl⟩, rfl⟩)
          rw [eth2, egd2]
          unfold vBools
          rw [List.map_append, List.map_append]; rfl
      · rintro m' k' mu' F' g' s' ⟨n1, n2, rfl, eth, egd, eah, ebe, es, ek, er, ea, esp, cr, cs, cf, rfl⟩ hmu X
        have ethl : (thereAt R S st kept i).take (S + 1) = thereAt R S st kept i := List.take_of_length_le (by simp [thereAt])
        have egdl : (goodAt R S F kept i).take (S + 1) = goodAt R S F kept i := List.take_of_length_le (by simp [goodAt])
        rw [ethl, egdl] at X
        obtain ⟨g7, X⟩ := X.freeze1 fgd
        obtain ⟨g8, X⟩ := X.freeze1 fth
        have X := X.weaken (C' := fun h => _ ∧ Rd h (.ref th) (.list (dBools (thereAt R S st kept i))) ∧ Rd h (.ref gd) (.list (dBools (goodAt R S F kept i)))) fun h c => ⟨c.1.1.1, LstO.rd LstO.lst c.2 rd_bools, LstO.rd LstO.lst c.1.2 rd_bools⟩
        refine wpAny_execs_cons (wpAny_If (isTrue_or (wpAny_isTrue_Compare1 (Call_ (x_blt (K := KK w.params) (by exact (hC0 _ ((hC1 _ ((X.now).1.1.1.1.1.1.1.1)).1.1)).1) (v := .type "list") (by kernel_rfl!) (by kernel_rfl!) (PyProof.Rows.callWith_type1 (args2 (Subscript_ (x_local X er (x_local X esp ?_))))))))))
        refine x_item_listF X (fun h c => by exact (hC0 _ ((hC1 _ ((c).1.1.1.1.1.1.1.1)).1.1)).2.2.2.2.2.1) (by omega) (by omega) (d := .list (dBools (thereAt R S st kept i))) (by rw [Int.toNat_natCast, List.getElem?_map, List.getElem?_map, List.getElem?_range hi]; rfl) fun v1 X => args0 ?_
        obtain ⟨l1, vs1, rfl, X⟩ := X.pinList (fun h c => c.2)
        have hl1 : vs1.length = S + 1 := by rw [X.now.2.2.length]; simp [dBools, thereAt]
        refine x_list_copy X W.loc (by exact (X.now).2.1) (by omega) fun c1 n3 s9 fc1 X => ?_
        obtain ⟨g9, X⟩ := X.freeze1 fc1
        refine x_local X eth (ne_bools hA' (xs := thereAt R S st kept i) (ys := thereAt R S st kept i) (LstO.rd LstO.lst (by exact (X.now).2) (by exact (X.now).1.2.2)) (by exact (X.now).1.1.1.2.1) (wpAny_truthy_bool ?_))
        rw [show (!decide (thereAt R S st kept i = thereAt R S st kept i)) = false by simp]
        refine isTrue_or (wpAny_isTrue_Compare1 (Call_ (x_blt (K := KK w.params) (by exact (hC0 _ ((hC1 _ ((X.now).1.1.1.1.1.1.1.1.1.1.1)).1.1)).1) (v := .type "list") (by kernel_rfl!) (by kernel_rfl!) (PyProof.Rows.callWith_type1 (args2 (Subscript_ (x_local X ea (x_local X esp ?_))))))))
        refine x_item_listF X (fun h c => by exact (hC0 _ ((hC1 _ ((c).1.1.1.1.1.1.1.1.1.1.1)).1.1)).2.2.2.2.2.2) (by omega) (by omega) (d := .list (dBools (goodAt R S F kept i))) (by rw [Int.toNat_natCast, List.getElem?_map, List.getElem?_map, List.getElem?_range hi]; rfl) fun v2 X => args0 ?_
        obtain ⟨l2, vs2, rfl, X⟩ := X.pinList (fun h c => c.2)
        have hl2 : vs2.length = S + 1 := by rw [X.now.2.2.length]; simp [dBools, goodAt]
        refine x_list_copy X W.loc (by exact (X.now).2.1) (by omega) fun c2 n4 s10 fc2 X => ?_
        obtain ⟨g10, X⟩ := X.freeze1 fc2
        refine x_local X egd (ne_bools hA' (xs := goodAt R S F kept i) (ys := goodAt R S F kept i) (LstO.rd LstO.lst (by exact (X.now).2) (by exact (X.now).1.2.2)) (by exact (X.now).1.1.1.1.1.1.2.2) (wpAny_truthy_bool ?_))
        rw [show (!decide (goodAt R S F kept i = goodAt R S F kept i)) = false by simp]
        refine isTrue_or_nil (wpAny_execs_nil ?_)
        refine wpAny_execs_nil (hQt _ _ ⟨_, _, _, _, _, X.weaken (C' := fun h => _ ∧ True) fun h c => ⟨?_, trivial⟩, ⟨⟨ts, es⟩, hla ▸ ek, er, ea, cr, ⟨tst, cs⟩, cf⟩, rfl⟩)
        exact (hC1 _ ((c).1.1.1.1.1.1.1.1.1.1.1.1.1.1)).1
      · intro v m' k' mu' F' g' s' hJ
        exact hJ.elim
  · intro m' k' mu' F' g' s' hJ hmu X
    exact wpAny_execs_cons (wpAny_Return_some (Constant_bool (h _ _ X.ev)))
  · intro v m' k' mu' F' g' s' hJ
    exact hJ.elim
end
end Mine
end
section
open PySem PySem.W PyProof.Rows
namespace Mine
section
variable {prog : Program} {w : World} {M : Model} {A : Around} {E : Value → Shared → Prop}
variable {wr wr' : List Addr} {g₀ g g' : Fz} {s₀ s s' : Shared} {env : Env} {C C' : Heap → Prop} {m k : Str → Option Value} {mu : List (Addr × Obj)}
/-- an object that a call made and gave back -/
theorem Sx.adopt {D : Addr} {o : Obj} {P : Heap → Prop} (X : Sx wr g₀ s₀ env C g m k mu s) (e : Ev [] g s g' s') (hn : s.heap.get? D = none) (hD : s'.heap.get? D = some o) (gD : g' D = none) (hp : ∀ h, Sub g' h → P h) :
    Sx wr g₀ s₀ env (fun h => C h ∧ P h) g' m k ((D, o) :: mu) s' := by
  have Y := X.call e hp
  have ne : ∀ {b : Addr} {o' : Obj}, s.heap.get? b = some o' → D ≠ b := fun hb q => by rw [← q, hn] at hb; cases hb
  refine ⟨Y.ev, { Y.tx with mus := fun p hp => ?_, nd := ?_ }, fun p hp => ?_⟩
  · rcases List.mem_cons.mp hp with rfl | hp
    · refine ⟨hD, gD, ?_, fun x c hc => ?_⟩
      · obtain ⟨oL, _, _, hL, _⟩ := X.tx.ns; exact ne hL
      · obtain ⟨⟨oc, hoc, _⟩, _⟩ := X.tx.cell x c hc; exact ne hoc
    · exact Y.tx.mus p hp
  · rw [List.map_cons, List.nodup_cons]
    refine ⟨fun hm => ?_, Y.tx.nd⟩
    obtain ⟨p, hp, q⟩ := List.mem_map.mp hm
    exact ne (X.tx.mus p hp).1 q.symm
  · rcases List.mem_cons.mp hp with rfl | hp
    · right
      cases e0 : s₀.heap.get? D with
      | none => rfl
      | some o' =>
        obtain ⟨o'', h''⟩ := X.ev.alive _ o' e0
        exact absurd rfl (ne h'')
    · exact Y.mw p hp
theorem x_dict {keys : List (Option Expr)} {values : List Expr} {pos : Pos} {Q : Value → Shared → Prop} (X : Sx wr g₀ s₀ env C g m k mu s)
    (hall : keys.all (·.isSome) = true) (hl : keys.length = values.length) (h0 : keys ≠ []) (hlen : keys.length ≤ 15)
    (h : ∀ D s', s₀.heap.get? D = none → Sx wr g₀ s₀ env C g m k ((D, { cls := .type "dict", data := .dict #[] }) :: mu) s' →
      wpAny (model prog w) A (evalPairs (pairTrees keys values env pos)) (fun vs s₁ => allStrKeys vs = true ∧ ((strPairs vs).map (·.1)).Nodup ∧ ∃ C₁ g₁ m₁ k₁ mu₁, Sx wr g₀ s₀ env C₁ g₁ m₁ k₁ ((D, { cls := .type "dict", data := .dict #[] }) :: mu₁) s₁ ∧
        ∀ o s', o.IsDictOf (PySem.strKind prog w) (strPairs vs) → Sx wr g₀ s₀ env C₁ g₁ m₁ k₁ ((D, o) :: mu₁) s' → Q (.ref D) s') E s') :
    wpAny (model prog w) A (eval (.Dict keys values pos) env) Q E s := by
  refine wpAny_Dict_walk (knd := PySem.strKind prog w) hall hl h0 hlen (wpAny_mono (h _ _ X.fresh (X.pushMu _ s.toks)) (fun vs s₁ hq => ?_) fun _ _ e => e)
  obtain ⟨a1, a2, C₁, g₁, m₁, k₁, mu₁, Y, hq⟩ := hq
  refine display_done_str a1 a2 ?_ fun h' hm hs => ?_
  · obtain ⟨o, ho, hd⟩ := Heap.dictOf_iff.mp (Heap.DictOf.new (prog := prog) (w := w) (knd := PySem.strKind prog w) s.heap)
    have e : o = _ := Option.some.inj (ho.symm.trans (Heap.get?_push_size _ rfl))
    exact Heap.dictOf_iff.mpr ⟨_, (Y.tx.mus _ List.mem_cons_self).1, e ▸ hd⟩
  · obtain ⟨o, ho, hd⟩ := Heap.dictOf_iff.mp hm
    exact hq o _ hd (Y.setMu1 hs ho)
theorem x_abs {a : Int} {t : Tok} {Q : Value → Shared → Prop} (X : Sx wr g₀ s₀ env C g m k mu s) (h : ∀ t s', Sx wr g₀ s₀ env C g m k mu s' → Q (.int (if a < 0 then -a else a) t) s') :
    wpAny (model prog w) A (call (.builtin "abs") [.int a t]) Q E s := call_abs_int fun _ _ => h _ _ (X.toks _)
theorem x_int_bool {b : Bool} {Q : Value → Shared → Prop} (X : Sx wr g₀ s₀ env C g m k mu s) (h : ∀ t s', Sx wr g₀ s₀ env C g m k mu s' → Q (.int (if b then 1 else 0) t) s') :
    wpAny (model prog w) A (call (.type "int") [.bool b]) Q E s := call_int_bool (h _ _ (X.toks _))
end
end Mine
end
section
open PySem PySem.W PyProof.Rows
set_option maxRecDepth 100000
set_option maxHeartbeats 4000000
namespace Mine
def cell0 (c : Int) : Int := Int.fmod (if c < 0 then -c else c) 1000003
def cellsOf (script : List Int) : List Int := (script.take 50).map cell0 ++ (if script.isEmpty then [0] else [])
theorem cells_ok' (script : List Int) : cellsOf script ≠ [] ∧ (cellsOf script).length ≤ 100 ∧ ∀ c ∈ cellsOf script, 0 ≤ c ∧ c < 10000000 := by
  unfold cellsOf
  refine ⟨?_, ?_, ?_⟩
  · cases script with
    | nil => simp
    | cons a r => simp
  · rw [List.length_append, List.length_map, List.length_take]
    split <;> simp <;> omega
  · intro c hc
    rcases List.mem_append.mp hc with h | h
    · obtain ⟨a, -, rfl⟩ := List.mem_map.mp h
      unfold cell0
      have h1 := Int.fmod_nonneg_of_pos (if a < 0 then -a else a) (b := 1000003) (by decide)
      have h2 := Int.fmod_lt_of_pos (if a < 0 then -a else a) (b := 1000003) (by decide)
      omega
    · split at h
      · rw [List.mem_singleton.mp h]; decide
      · cases h
section
variable {prog : Program} {w : World} {A : Around} {E : Value → Shared → Prop} {mg mb : Str → Option Value}
theorem src_spec {n : Nat} (hA : AOk (n + 1) A) {g : Fz} {s : Shared} {script : List Int} {vS : Value} {Q : Value → Shared → Prop}
    (Sb : Sub g s.heap) (up : ∀ h, Sub g h → Gl (KK w.params) mg mb h ∧ Rd h vS (.list (dInts script))) (hl : script.length ≤ 63)
    (h : ∀ D cl o g' s', Ev [] g s g' s' → s.heap.get? D = none → s'.heap.get? D = some o → g' D = none → srcO prog w cl 0 o → (∀ h, Sub g' h → CellsAt h cl (cellsOf script)) → Q (.ref D) s') :
    wpAny (model prog w) A (call (.ref 176) [vS]) Q NE s := by
  have G := (up _ Sb).1
  refine wpAny_call (x_enter (fd := srcFd) [] Sb up G hA (fun p hp => nomatch hp) List.nodup_nil (src_look _) (src_cd _) rfl (by kernel_rfl!) (by kernel_rfl!) (by kernel_rfl!) (by kernel_rfl!) (by kernel_rfl!) (by kernel_rfl!) fun L s₁ hL X W => ?_)
  have e1 : (bindL (callEnvC srcFd L 176).kindOf ((srcFd.params.args.map (·.arg)).zip [vS]) fun _ => none) "script" = some vS := by kernel_rfl!
  generalize (bindL (callEnvC srcFd L 176).kindOf ((srcFd.params.args.map (·.arg)).zip [vS]) fun _ => none) = m at X e1
  generalize (bindC (callEnvC srcFd L 176).kindOf ((srcFd.params.args.map (·.arg)).zip [vS]) fun _ => none) = kc at X
  have hA' := hA.deeper (env := callEnvC srcFd L 176)
  obtain ⟨la, lvs, rfl, X⟩ := X.pinList (v := vS) (ds := dInts script) (fun h c => by exact (c).2)
  have hlen : lvs.length = script.length := by rw [X.now.2.2.length]; simp [dInts]
  refine wpAny_execs_cons (wpAny_Return_some (x_dict X rfl rfl (by simp) (by simp) fun D s2 fD X => ?_))
  refine pairTrees_cons_walk (x_str X fun t1 s3 X => ?_)
  -- the cells
  refine wpAny_BinOp (x_comp (cl := []) (by with_unfolding_all rfl) (Subscript_ (x_local X e1 (wpAny_Slice (part_none (part_some (x_int X fun t2 s4 X => part_none ?_)))))))
  refine x_slice X W.loc X.now.2.1 .none (.int _ _) (by omega) (slice_upto (b := 50)) fun D1 s5 fD1 X => ?_
  obtain ⟨g2, X⟩ := X.freeze1 fD1
  have hk : (lvs.take 50).length = (script.take 50).length := by rw [List.length_take, List.length_take, hlen]
  refine x_iter_list X hA.hh (LstO.isList LstO.lst X.now.2) fun I2 oI2 s6 it2 p2 hI2 X => ?_
  refine comp_run (fun j ys mu₁ h => RdL h ys (dInts (((script.take 50).take j).map cell0)) ∧ mu₁ = [(D, { cls := .type "dict", data := .dict #[] })]) X hI2 it2 p2 (fun h c => LstO.isList LstO.lst c.2) .nil (fun h c => ⟨by simpa [dInts] using RdL.nil, rfl⟩) (by simp; omega) ?_ ?_
  · rintro j v ys mu₁ g₂ s₂ L₁ m₂ hj - hvj hmu em Y
    have hj' : j < (script.take 50).length := by rw [← hk]; simpa using hj
    have hvj' : (lvs.take 50)[j]? = some v := by simpa using hvj
    obtain ⟨d, hd, r⟩ := (Y.now.1.1.2.2.take 50).get hvj'
    unfold dInts at hd
    rw [← List.map_take, List.getElem?_map, List.getElem?_eq_getElem hj'] at hd
    cases hd
    obtain ⟨ta, rfl⟩ := r.int_inv
    refine wpAny_tests_nil ?_
    rw [if_pos rfl]
    refine wpAny_BinOp (Call_ (x_blt Y.now.1.1.1.1 (v := .builtin "abs") (by kernel_rfl!) (by kernel_rfl!) (PyProof.Rows.callWith_builtin1 (args2 (x_local Y em (args0 ?_))))))
    refine x_abs Y fun t3 s7 Y => x_int Y fun t4 s8 Y => x_mod Y (by decide) fun t5 s9 Y => ?_
    refine ⟨_, _, Y.weaken fun h c => ⟨c.1, ?_, c.2.2⟩, hmu⟩
    have et : (script.take 50).take (j + 1) = (script.take 50).take j ++ [(script.take 50)[j]] := by
      rw [List.take_add_one (i := j), List.getElem?_eq_getElem hj']; rfl
    rw [et, List.map_append]
    unfold dInts
    rw [List.map_append]
    exact c.2.1.append (.cons .int .nil)
  · intro D2 nn ys mu' g' s' L₁ oL mL fD2 fL hys hmu hns Y
    have emu : mu' = [(D, { cls := .type "dict", data := .dict #[] })] := Y.now.2.2
    subst emu
    refine comp_end Y fL hns fun s8 X => ?_
    obtain ⟨g5, X⟩ := X.freeze1 fD2
    have hys' : ys.length ≤ 63 := Nat.le_trans hys (by simp; omega)
    -- [0] * int(script == [])
    refine wpAny_BinOp (List_ (args2 (x_int X fun t6 s9 X => args0 ?_)))
    refine x_list X (by simp [sizeLine_eq]) fun b0 s10 fb0 X => ?_
    refine Call_ (x_blt (K := KK w.params) (by exact (X.now).1.1.1.1.1) (v := .type "int") (by kernel_rfl!) (by kernel_rfl!) (PyProof.Rows.callWith_type1 (args2 (wpAny_Compare1 (x_local X e1 (List_ (args0 ?_)))))))
    refine x_list X (by simp) fun b1 s11 fb1 X => ?_
    refine eq_nil_ints hA' (xs := script) (by exact (X.now).1.1.1.1.2) (LstO.rd (LstO.lst (n := 0)) (X.tx.mus _ List.mem_cons_self).1 .nil) (args0 ?_)
    refine x_int_bool X fun t7 s12 X => ?_
    have X := X.drop1
    refine x_mul_list X W.loc (LstO.lst.isList (X.tx.mus _ List.mem_cons_self).1) (by split <;> omega) (by split <;> omega) (by split <;> simp) fun D3 s13 fD3 X => ?_
    obtain ⟨g6, X⟩ := X.freeze1 fD3
    have X := X.drop1
    refine x_add_list X W.loc (LstO.isList LstO.lst X.now.1.2) (LstO.isList LstO.lst X.now.2) (by split <;> simp <;> omega) fun D4 s14 fD4 X => ?_
    obtain ⟨g7, X⟩ := X.freeze1 fD4
    have X := X.weaken (C' := fun h => Gl (KK w.params) mg mb h ∧ Rd h (.ref D4) (.list ((cellsOf script).map .int))) fun h c => ⟨by exact (c).1.1.1.1.1.1.1, by
      refine LstO.rd LstO.lst c.2 ?_
      unfold cellsOf
      rw [List.map_append]
      have q := c.1.1.1.2.1
      rw [List.take_of_length_le (by simp [hlen])] at q
      refine q.append ?_
      cases script.isEmpty with
      | true => simpa using RdL.cons .int .nil
      | false => simpa using RdL.nil⟩
    refine pairTrees_cons_walk (x_str X fun t8 s15 X => x_int X fun t9 s16 X => pairTrees_nil_walk ?_)
    refine ⟨rfl, (by decide : [Str.ofString "cells", Str.ofString "spot"].Nodup), _, _, _, _, _, X, fun o s17 ho X => ?_⟩
    obtain ⟨h1, h2, -⟩ := X.tx.mus _ List.mem_cons_self
    refine h D D4 o _ _ X.ev fD h1 h2 ⟨t9, ho⟩ fun h S => ⟨(X.tx.up h S).2, cells_ok' script⟩
end
end Mine
end
section
open PySem PySem.W PyProof.Rows
set_option maxRecDepth 100000
set_option maxHeartbeats 4000000
namespace Mine
section
variable {prog : Program} {w : World} {M : Model} {A : Around} {E : Value → Shared → Prop} {mg mb : Str → Option Value}
variable {wr wr' : List Addr} {g₀ g g' : Fz} {s₀ s s' : Shared} {env : Env} {C C' : Heap → Prop} {m k : Str → Option Value} {mu : List (Addr × Obj)}
theorem x_draw {n : Nat} {D cl : Addr} {cs : List Int} {o : Obj} {kk : Nat} {many : Int} {t : Tok} {mu₁ mu₂ : List (Addr × Obj)} {Q : Value → Shared → Prop} (hA : AOk (n + 1) A) (X : Sx wr g₀ s₀ env C g m k (mu₁ ++ (D, o) :: mu₂) s) (ho : srcO prog w cl kk o)
    (hC : ∀ h, C h → Gl (KK w.params) mg mb h ∧ CellsAt h cl cs) (hm : 0 < many) (hk : kk ≤ 1000)
    (h : ∀ r t' o' g' s', 0 ≤ r → r < many → srcO prog w cl (kk + 1) o' → Sx wr g₀ s₀ env C g' m k (mu₁ ++ (D, o') :: mu₂) s' → Q (.int r t') s') : wpAny (model prog w) A (call (.ref 171) [.ref D, .int many t]) Q NE s := by
  obtain ⟨h1, h2, -⟩ := X.tx.mus (D, o) (by simp)
  exact draw_spec hA X.sub (fun h S => hC h (X.tx.up h S)) h1 h2 ho hm hk fun r t' o' g' s' r0 r1 e hD ho' => h r t' o' g' s' r0 r1 ho' ((X.call1 (P := fun _ => True) e hD fun _ _ => trivial).weaken fun h c => c.1)

theorem machine_spec {n : Nat} (hA : AOk (n + 2) A) {g : Fz} {s : Shared} {D cl : Addr} {cs : List Int} {o : Obj} {k0 : Nat} {Q : Value → Shared → Prop}
    (Sb : Sub g s.heap) (up : ∀ h, Sub g h → Gl (KK w.params) mg mb h ∧ CellsAt h cl cs) (hD : s.heap.get? D = some o) (gD : g D = none) (ho : srcO prog w cl k0 o) (hk0 : k0 ≤ 500)
    (h : ∀ (S T : Nat) (R : List (List Int)) (st : Int) (F : List Int) am t1 t2 t3 ra fa o' k' g' s', Mach S T R → 1 ≤ st → st ≤ S → (∀ x ∈ F, 1 ≤ x) → k' ≤ k0 + 100 → Ev [D] g s g' s' → s'.heap.get? D = some o' → srcO prog w cl k' o' →
      (∀ h, Sub g' h → IsTup h am (List.toArray [.int S t1, .int T t2, .ref ra, .int st t3, .ref fa]) ∧ Rd h (.ref ra) (rowsD R) ∧ Rd h (.ref fa) (.tuple (dInts F))) → Q (.ref am) s') :
    wpAny (model prog w) A (call (.ref 193) [.ref D]) Q NE s := by
  have G := (up _ Sb).1
  refine wpAny_call (x_enter (fd := machFd) [(D, o)] Sb up G hA (by simp [hD, gD]) (by simp) (mach_look _) (mach_cd _) rfl (by kernel_rfl!) (by kernel_rfl!) (by kernel_rfl!) (by kernel_rfl!) (by kernel_rfl!) (by kernel_rfl!) fun L s₁ hL X W => ?_)
  have c1 : (bindC (callEnvC machFd L 193).kindOf ((machFd.params.args.map (·.arg)).zip [.ref D]) fun _ => none) "src" = some (.ref D) := by kernel_rfl!
  generalize (bindL (callEnvC machFd L 193).kindOf ((machFd.params.args.map (·.arg)).zip [.ref D]) fun _ => none) = m at X
  generalize (bindC (callEnvC machFd L 193).kindOf ((machFd.params.args.map (·.arg)).zip [.ref D]) fun _ => none) = kc at X c1
  have hA' := hA.deeper (env := callEnvC machFd L 193)
  -- states, letters = ...
  refine wpAny_execs_cons (Assign_Tuple (Tuple_ (args2 (wpAny_BinOp (x_int X fun t1 s2 X => Call_ (x_glob (v := .ref 171) X.now.1 (by kernel_rfl!) (callWith_K X.now.1.inK (by kernel_rfl!) (args2 (x_cell X c1 (args2 (x_int X fun t2 s3 X => args0 ?_)))))))))) (by with_unfolding_all rfl) (by with_unfolding_all rfl))
  refine ⟨X.now.1.inK, x_draw (mu₁ := []) hA' X ho (fun _ c => c) (by decide) (by omega) fun r1 t3 o1 g1 s4 a0 a1 ho X => ?_⟩
  refine x_add X fun t4 s5 X => ?_
  refine args2 (wpAny_BinOp (x_int X fun t1 s2 X => Call_ (x_glob (v := .ref 171) X.now.1 (by kernel_rfl!) (callWith_K X.now.1.inK (by kernel_rfl!) (args2 (x_cell X c1 (args2 (x_int X fun t2 s3 X => args0 ?_))))))))
  refine ⟨X.now.1.inK, x_draw (mu₁ := []) hA' X ho (fun _ c => c) (by decide) (by omega) fun r2 t5 o2 g2 s6 b0 b1 ho X => ?_⟩
  refine x_add X fun t6 s7 X => args0 ?_
  obtain ⟨S, hSe⟩ : ∃ S : Nat, (1 : Int) + r1 = S := ⟨(1 + r1).toNat, by omega⟩
  obtain ⟨T, hTe⟩ : ∃ T : Nat, (1 : Int) + r2 = T := ⟨(1 + r2).toNat, by omega⟩
  rw [hSe, hTe]
  have hS : 1 ≤ S ∧ S ≤ 3 := by omega
  have hT : 1 ≤ T ∧ T ≤ 3 := by omega
  refine x_tupleI X (by simp [sizeLine_eq]) fun ta g6 s9 X => ?_
  refine x_assign_tuple X hA.hh X.now.2 rfl rfl fun s2 X => in_order (st_cell X W fun s3 X => in_order (st_cell X W fun s4 X => in_order0 ?_))
  have X := X.weaken fun h c => c.1
  -- rows
  refine wpAny_execs_cons (wpAny_Assign_Name (Call_ (x_blt X.now.1 (v := .type "tuple") (by kernel_rfl!) (by kernel_rfl!) (PyProof.Rows.callWith_type1 (args2 (x_comp (cl := [(Str.ofString "states", L + 2), (Str.ofString "src", L + 1), (Str.ofString "letters", L + 3)]) (by with_unfolding_all rfl)
    (Call_ (x_blt X.now.1 (v := .type "range") (by kernel_rfl!) (by kernel_rfl!) (PyProof.Rows.callWith_type1 (args2 (x_cell X (ug us) (args0 ?_)))))))))))) 
  refine x_range1 (n := S) X fun r g1 s6 X => ?_
  refine x_iter_rng (n := S) X hA.hh X.now.2 (by omega) fun I oI s7 it p0 hI X => ?_
  refine comp_run (fun i ys mu₁ h => (∃ kk o, kk ≤ k0 + 2 + 3 * i ∧ srcO prog w cl kk o ∧ mu₁ = [(D, o)]) ∧ ∃ R₀ : List (List Int), R₀.length = i ∧ (∀ r ∈ R₀, r.length = T ∧ ∀ x ∈ r, 0 ≤ x ∧ x ≤ S) ∧ RdL h ys (R₀.map fun r => .tuple (dInts r)))
    X hI it p0 (fun _ _ => trivial) (.cons (by kernel_rfl!) (.cons (by kernel_rfl!) (.cons (by kernel_rfl!) .nil))) (fun h c => ⟨⟨_, _, by omega, ho, rfl⟩, [], rfl, (fun _ h => nomatch h), .nil⟩) (by omega) ?_ ?_
  · rintro i v ys mu₁ g₂ s₂ L₁ m₂ hi - ⟨tv, rfl⟩ hmu em Y
    obtain ⟨kk, o3, hkk, ho3, rfl⟩ := Y.now.2.1
    refine wpAny_tests_nil ?_
    rw [if_pos rfl]
    refine Call_ (x_blt Y.now.1.1.1 (v := .type "tuple") (by kernel_rfl!) (by kernel_rfl!) (PyProof.Rows.callWith_type1 (args2 (x_comp (cl := [(Str.ofString "states", L + 2), (Str.ofString "src", L + 1)]) (by with_unfolding_all rfl)
      (Call_ (x_blt Y.now.1.1.1 (v := .type "range") (by kernel_rfl!) (by kernel_rfl!) (PyProof.Rows.callWith_type1 (args2 (x_cell Y us (args0 ?_))))))))))
    refine x_range1 (n := T) Y fun r g1 s6 Y => ?_
    refine x_iter_rng (n := T) Y hA.hh Y.now.2 (by omega) fun I2 oI2 s7 it2 p2 hI2 Y => ?_
    refine comp_run (fun j ys mu₁ h => (∃ kk' o, kk' ≤ kk + j ∧ srcO prog w cl kk' o ∧ mu₁ = [(D, o)]) ∧ ∃ r₀ : List Int, r₀.length = j ∧ (∀ x ∈ r₀, 0 ≤ x ∧ x ≤ S) ∧ RdL h ys (dInts r₀))
      Y hI2 it2 p2 (fun _ _ => trivial) (.cons (by kernel_rfl!) (.cons (by kernel_rfl!) .nil)) (fun h c => ⟨⟨_, _, by omega, ho3, rfl⟩, [], rfl, (fun _ h => nomatch h), .nil⟩) (by omega) ?_ ?_
    · rintro j v ys2 mu₁ g₃ s₃ L₂ m₃ hj - ⟨tv2, rfl⟩ hmu2 em2 Z
      obtain ⟨kk', o4, hkk', ho4, rfl⟩ := Z.now.2.1
      refine wpAny_tests_nil ?_
      rw [if_pos rfl]
      refine Call_ (x_glob (v := .ref 171) (K := KK w.params) (by exact (Z.now).1.1.1.1.1) (by kernel_rfl!) (callWith_K (K := KK w.params) (Gl.inK (by exact (Z.now).1.1.1.1.1)) (by kernel_rfl!) (args2 (x_cell Z (ug (ug c1)) (args2 (wpAny_BinOp (x_cell Z (ug us) (x_int Z fun t7 s8 Z => x_add Z fun t8 s9 Z => args0 ?_))))))))
      refine ⟨Gl.inK (by exact (Z.now).1.1.1.1.1), x_draw (mu₁ := []) hA' Z ho4 (fun _ c => by exact (c).1.1.1.1) (by omega) (by omega) fun r3 t9 o5 g4 s10 d0 d1 ho5 Z => ?_⟩
      refine ⟨_, _, Z.weaken fun h c => ⟨c.1, ⟨⟨_, _, by omega, ho5, rfl⟩, ?_⟩⟩, rfl⟩
      obtain ⟨-, r₀, h1, h2, h3⟩ := c.2
      refine ⟨r₀ ++ [r3], by simp [h1], fun x hx => ?_, ?_⟩
      · rcases List.mem_append.mp hx with hx | hx
        · exact h2 x hx
        · rw [List.mem_singleton.mp hx]; omega
      · unfold dInts
        rw [List.map_append]
        exact h3.append (.cons .int .nil)
    · intro D2 nn ys2 mu' g' s' L₂ oL mL fD fL hys hmu hns Z
      obtain ⟨⟨kk', o4, hkk', ho4, rfl⟩, -⟩ := Z.now.2
      refine comp_end Z fL hns fun s8 Z => args0 ?_
      obtain ⟨g5, Z⟩ := Z.freeze1 fD
      obtain ⟨r₀, Z⟩ := Z.pin (F := fun (r₀ : List Int) h => r₀.length = T ∧ (∀ x ∈ r₀, 0 ≤ x ∧ x ≤ (S : Int)) ∧ RdL h ys2 (dInts r₀)) (fun h c => c.1.2.2) fun x h h' y hk => ⟨y.1, y.2.1, Rd.keepsL hk y.2.2⟩
      refine x_tuple_of Z (.inl List.mem_cons_self) (LstO.isList LstO.lst Z.now.1.2) (by omega) (fun h c => c.2.2.2) fun a g6 s9 Z => ?_
      refine ⟨_, _, Z.weaken fun h c => ⟨?_, ⟨⟨_, _, by omega, ho4, rfl⟩, ?_⟩⟩, rfl⟩
      · exact (c).1.1.1.1.1.1
      · obtain ⟨R₀, h1, h2, h3⟩ := c.1.1.1.1.1.2.2
        refine ⟨R₀ ++ [r₀], by simp [h1], fun x hx => ?_, ?_⟩
        · rcases List.mem_append.mp hx with hx | hx
          · exact h2 x hx
          · rw [List.mem_singleton.mp hx]; exact ⟨c.1.2.1, c.1.2.2.1⟩
        · rw [List.map_append]
          exact h3.append (.cons c.2 .nil)
  · intro D3 nn ys mu' g' s' L₁ oL mL fD fL hys hmu hns Y
    obtain ⟨⟨kk, o3, hkk, ho3, rfl⟩, -⟩ := Y.now.2
    refine comp_end Y fL hns fun s8 X => args0 ?_
    obtain ⟨g5, X⟩ := X.freeze1 fD
    obtain ⟨R, X⟩ := X.pin (F := fun (R₀ : List (List Int)) h => R₀.length = S ∧ (∀ r ∈ R₀, r.length = T ∧ ∀ x ∈ r, 0 ≤ x ∧ x ≤ (S : Int)) ∧ RdL h ys (R₀.map fun r => .tuple (dInts r))) (fun h c => c.1.2.2) fun x h h' y hk => ⟨y.1, y.2.1, Rd.keepsL hk y.2.2⟩
    have MM : Mach S T R := ⟨X.now.2.1, X.now.2.2.1, hS, hT⟩
    refine x_tuple_of X W.loc (LstO.isList LstO.lst X.now.1.2) (by omega) (fun h c => c.2.2.2) fun ra g6 s9 X => ?_
    refine st_local X W fun s10 X => ?_
    have X := X.weaken (C' := fun h => (Gl (KK w.params) mg mb h ∧ CellsAt h cl cs) ∧ Rd h (.ref ra) (rowsD R)) fun h c => ⟨by exact (c).1.1.1.1.1, c.2⟩
    -- start
    refine wpAny_execs_cons (wpAny_Assign_Name (wpAny_BinOp (x_int X fun t1 s2 X => Call_ (x_glob (v := .ref 171) X.now.1.1 (by kernel_rfl!) (callWith_K X.now.1.1.inK (by kernel_rfl!) (args2 (x_cell X (ug (ug c1)) (args2 (x_cell X (ug us) (args0 ?_))))))))))
    refine ⟨X.now.1.1.inK, x_draw (mu₁ := []) hA' X ho3 (fun _ c => c.1) (by omega) (by omega) fun r4 t5 o4 g2 s6 d0 d1 ho4 X => ?_⟩
    refine x_add X fun t16 s7 X => st_local X W fun s8 X => ?_
    -- finals
    refine wpAny_execs_cons (wpAny_Assign_Name (Call_ (x_blt X.now.1.1 (v := .type "tuple") (by kernel_rfl!) (by kernel_rfl!) (PyProof.Rows.callWith_type1 (args2 (x_comp (cl := [(Str.ofString "src", L + 1)]) (by with_unfolding_all rfl)
      (Call_ (x_blt X.now.1.1 (v := .type "range") (by kernel_rfl!) (by kernel_rfl!) (PyProof.Rows.callWith_type1 (args2 (x_int X fun t7 s9 X => args2 (wpAny_BinOp (x_cell X (ug us) ?_)))))))))))))
    refine x_int X fun t8 s10 X => x_add X fun t9 s11 X => args0 ?_
    refine x_range2 X fun r g1 s6 X => ?_
    refine x_iter_rng (n := S) X hA.hh X.now.2 (by omega) fun I3 oI3 s7 it3 p3 hI3 X => ?_
    refine comp_run (fun j ys mu₁ h => (∃ kk' o, kk' ≤ kk + 1 + j ∧ srcO prog w cl kk' o ∧ mu₁ = [(D, o)]) ∧ ∃ F₀ : List Int, (∀ x ∈ F₀, 1 ≤ x) ∧ RdL h ys (dInts F₀))
      X hI3 it3 p3 (fun _ _ => trivial) (.cons (by kernel_rfl!) .nil) (fun h c => ⟨⟨_, _, by omega, ho4, rfl⟩, [], (fun _ h => nomatch h), .nil⟩) (by omega) ?_ ?_
    · rintro j v ys2 mu₁ g₃ s₃ L₂ m₃ hj - ⟨tv2, rfl⟩ hmu2 em2 Z
      obtain ⟨kk', o5, hkk', ho5, rfl⟩ := Z.now.2.1
      refine wpAny_tests_one (wpAny_isTrue_Compare1 (Call_ (x_glob (v := .ref 171) (K := KK w.params) (by exact (Z.now).1.1.1.1) (by kernel_rfl!) (callWith_K (K := KK w.params) (Gl.inK (by exact (Z.now).1.1.1.1)) (by kernel_rfl!) (args2 (x_cell Z (ug (ug c1)) (args2 (x_int Z fun t7 s8 Z => args0 ?_))))))))
      refine ⟨Gl.inK (by exact (Z.now).1.1.1.1), x_draw (mu₁ := []) hA' Z ho5 (fun _ c => by exact (c).1.1.1) (by omega) (by omega) fun r5 t9 o6 g4 s10 d0 d1 ho6 Z => ?_⟩
      refine x_int Z fun t10 s11 Z => gt_int (wpAny_truthy_bool ?_)
      split
      · refine x_local Z em2 ⟨_, _, Z.weaken fun h c => ⟨c.1, ⟨⟨_, _, by omega, ho6, rfl⟩, ?_⟩⟩, rfl⟩
        obtain ⟨-, F₀, h0, h1⟩ := c.2
        refine ⟨F₀ ++ [1 + (j : Int)], fun x hx => ?_, ?_⟩
        · rcases List.mem_append.mp hx with hx | hx
          · exact h0 x hx
          · rw [List.mem_singleton.mp hx]; omega
        unfold dInts
        rw [List.map_append]
        exact h1.append (.cons .int .nil)
      · exact ⟨_, _, Z.weaken fun h c => ⟨c.1, ⟨⟨_, _, by omega, ho6, rfl⟩, c.2.2⟩⟩, rfl⟩
    · intro D4 nn ys2 mu' g' s' L₂ oL mL fD fL hys hmu hns Z
      obtain ⟨⟨kk', o5, hkk', ho5, rfl⟩, -⟩ := Z.now.2
      refine comp_end Z fL hns fun s8 X => args0 ?_
      obtain ⟨g5, X⟩ := X.freeze1 fD
      obtain ⟨F, X⟩ := X.pin (F := fun (F₀ : List Int) h => (∀ x ∈ F₀, 1 ≤ x) ∧ RdL h ys2 (dInts F₀)) (fun h c => c.1.2.2) fun x h h' y hk => ⟨y.1, Rd.keepsL hk y.2⟩
      have hF1 := X.now.2.1
      refine x_tuple_of X W.loc (LstO.isList LstO.lst X.now.1.2) (by omega) (fun h c => c.2.2) fun fa g6 s9 X => ?_
      refine st_local X W fun s10 X => ?_
      refine wpAny_execs_cons (wpAny_Return_some (Tuple_ (args2 (x_cell X (ug us) (args2 (x_cell X us (args2 (x_local X (ug (ug us)) (args2 (x_local X (ug us) (args2 (x_local X us (args0 ?_)))))))))))))
      refine x_tupleI X (by simp [sizeLine_eq]) fun am g7 s11 X => ?_
      obtain ⟨h1, h2, -⟩ := X.tx.mus _ List.mem_cons_self
      refine h S T R (1 + r4) F am t4 t6 t16 ra fa o5 kk' _ _ MM (by omega) (by omega) hF1 (by omega) X.ev h1 ho5 fun h' S' => ?_
      have c := X.tx.up h' S'
      exact ⟨c.2, by exact (c).1.1.1.1.1.1.2, by exact (c).1.2⟩
end
end Mine
end
section
open PySem PySem.W PyProof.Rows
set_option maxRecDepth 100000
set_option maxHeartbeats 4000000
namespace Mine
def esF (ts : Nat → Tok) (i : Nat) : Array (Int × Value) := ((List.range i).map fun (j : Nat) => ((j : Int), Value.int (j : Int) (ts j))).toArray
def tabF (led : Bool) (i : Nat) : SetTable := { mask := 7, place := (List.range i).toArray, dummies := #[], finger := 0, led := led, moves := 0, plain := true }
def setF (led : Bool) (ts : Nat → Tok) (i : Nat) : Obj := { cls := .type "set", dict := none, data := .set (esF ts i) i (tabF led i) }
theorem lay_at (led : Bool) (ts : Nat → Tok) : ∀ i, i < 3 → layNew (tabF led i) (esF ts i) (i : Int) (.int (i : Int) (ts i)) = (esF ts (i + 1), tabF led (i + 1), false, false)
  | 0, _ => by rfl
  | 1, _ => by first | kernel_rfl! | (cases led <;> kernel_rfl!)
  | 2, _ => by kernel_rfl!
  | n + 3, h => absurd h (by omega)
section
variable {prog : Program} {w : World} {M : Model} {A : Around} {E : Value → Shared → Prop} {s : Shared}
theorem hash_at : ∀ j : Nat, j < 3 → hashInt (j : Int) = (j : Int)
  | 0, _ => by kernel_rfl!
  | 1, _ => by kernel_rfl!
  | 2, _ => by kernel_rfl!
  | n + 3, h => absurd h (by omega)
theorem elems_esF (ts : Nat → Tok) {i : Nat} (hi : i ≤ 3) : ElemsOf (intKind prog w) (esF ts i).toList := by
  intro e he
  unfold esF at he
  simp only [List.mem_map, List.mem_range] at he
  obtain ⟨j, hj, rfl⟩ := he
  exact ⟨⟨(j : Int), intKind_is _ _ _ _, (hash_at j (by omega)).symm⟩, rfl⟩
theorem fits_tabF (led : Bool) (ts : Nat → Tok) : ∀ i, i ≤ 3 → (tabF led i).fits (esF ts i).size = true
  | 0, _ => by kernel_rfl!
  | 1, _ => by kernel_rfl!
  | 2, _ => by kernel_rfl!
  | 3, _ => by kernel_rfl!
  | n + 4, h => absurd h (by omega)
theorem full_tabF (led : Bool) : ∀ i, i ≤ 3 → (tabF led i).tooFull = false
  | 0, _ => by kernel_rfl!
  | 1, _ => by kernel_rfl!
  | 2, _ => by kernel_rfl!
  | 3, _ => by kernel_rfl!
  | n + 4, h => absurd h (by omega)
theorem find_esF (ts : Nat → Tok) {i : Nat} : (esF ts i).toList.findIdx? (fun e => (intKind prog w).is (i : Int) e.2) = none := by
  rw [List.findIdx?_eq_none_iff]
  intro e he
  unfold esF at he
  simp only [List.mem_map, List.mem_range] at he
  obtain ⟨j, hj, rfl⟩ := he
  show Value.isInt (i : Int) (.int (j : Int) (ts j)) = false
  simp [Value.isInt]
  omega
theorem esF_size (ts : Nat → Tok) (i : Nat) : (esF ts i).size = i := by simp [esF]
theorem add_exact {a : Addr} {led : Bool} {ts : Nat → Tok} {i : Nat} {Q : Bool → Shared → Prop} (hi : i < 3) (ho : s.heap.get? a = some (setF led ts i))
    (h : ∀ h', Heap.SameBut a s.heap h' → h'.get? a = some (setF led ts (i + 1)) → Q true { s with heap := h' }) :
    wpAny (model prog w) A (setAddHashed a (.int (i : Int) (ts i)) ((intKind prog w).hash (i : Int))) Q E s := by
  have hf := fits_tabF led ts i (by omega)
  have hel := elems_esF (prog := prog) (w := w) ts (i := i) (by omega)
  unfold setAddHashed setAddHashedIn
  refine wpAny_holding (wpAny_bind (wpAny_setState_of ho rfl hf ?_))
  dsimp only
  rw [byScan_of (knd := intKind prog w) rfl (by rw [esF_size]; unfold scanBound; omega) hel]
  simp only [↓reduceIte]
  unfold setAddByScan
  refine wpAny_bind ?_
  refine wpAny_bind (wpAny_rule ?_)
  refine wpAny_bind (wpAny_setScan_of (intKind_is _ _ _ _) ho rfl hf hel ?_)
  rw [find_esF]
  dsimp only
  rw [show (intKind prog w).hash (i : Int) = (i : Int) from hash_at i hi, lay_at led ts i hi]
  dsimp only
  refine wpAny_bind (wpAny_pure ?_)
  rw [show (tabF led (i + 1)).plain = true from rfl]
  simp only [↓reduceIte]
  refine wpAny_bind ?_
  rw [hashByValue_scannable 8 rfl]
  refine wpAny_pure ?_
  rw [show plainKind (.int (i : Int) (ts i)) = true from rfl]
  simp only [↓reduceIte]
  refine wpAny_bind (wpAny_storeSet_of ho rfl ?_ (by rw [esF_size, sizeLine_eq]; omega))
  rw [full_tabF led (i + 1) (by omega)]
  refine wpAny_pure ?_
  dsimp only
  refine wpAny_pure (h _ (Heap.SameBut.update ..) ?_)
  have := Heap.get?_update_self (Obj.putSet (esF ts (i + 1)) (tabF led (i + 1))) ho rfl
  rw [this]
  rfl
end
end Mine
end
section
open PySem PySem.W PyProof.Rows
set_option maxRecDepth 100000
set_option maxHeartbeats 4000000
namespace Mine
def byText (w : World) : Bool := w.params.followText "set-order"
section
variable {prog : Program} {w : World} {M : Model} {A : Around} {E : Value → Shared → Prop} {s : Shared} {R : Result → Shared → Prop}
theorem set_loop {I S : Addr} {fp wr : List Addr} {n : Nat} {P : Nat → Value → Prop} {St : Nat → Heap → Prop} (W : Walks prog w A.in1 I fp wr n P St) (hSf : S ∉ fp) {led : Bool} {ts : Nat → Tok} (hn : n ≤ 3)
    (hval : ∀ i v, i < n → P i v → v = .int (i : Int) (ts i)) :
    ∀ (k i : Nat) (s : Shared), n - i = k → i ≤ n → St i s.heap → s.heap.get? S = some (setF led ts i) →
      (∀ h' tk, (∀ b o, b ∉ S :: wr → s.heap.get? b = some o → h'.get? b = some o) → h'.get? S = some (setF led ts n) → R (.ok (.ret .none)) { s with heap := h', toks := tk }) →
      codeAny (model prog w) A (.builtin "set.update.loop" ⟨[.ref S, .ref I], []⟩) R s := by
  have hSw : S ∉ wr := fun h => hSf (W.sub _ h)
  intro k
  induction k with
  | zero =>
    intro i s hk hi hst hS hR
    obtain rfl : i = n := by omega
    refine codeAny_builtin F.entry_set_update_loop ?_
    rw [Around.under_plainId F.plain_set_update_loop _]
    show wpAny _ A.in1 (pyNext (.ref I) >>= _) _ _ s
    refine wpAny_bind (W.done s _ _ hst fun h' tk hm => ?_)
    show wpAny _ A.in1 (ret Value.none) _ _ _
    exact wpAny_pure (hR h' tk (fun b o hb e => hm b o (fun hw => hb (List.mem_cons_of_mem _ hw)) e) (hm S _ hSw hS))
  | succ k ih =>
    intro i s hk hi hst hS hR
    have hlt : i < n := by omega
    refine codeAny_builtin F.entry_set_update_loop ?_
    rw [Around.under_plainId F.plain_set_update_loop _]
    show wpAny _ A.in1 (pyNext (.ref I) >>= _) _ _ s
    refine wpAny_bind (W.item i s _ _ hlt hst fun v h1 tk1 hP hst' hm => ?_)
    obtain rfl := hval i v hlt hP
    have hS' : h1.get? S = some (setF led ts i) := hm S _ hSw hS
    show wpAny _ A.in1 (holding [Value.int (i : Int) (ts i)] (setAdd S (.int (i : Int) (ts i))) >>= _) _ _ _
    refine wpAny_bind (wpAny_holding ?_)
    unfold setAdd
    refine wpAny_holding ?_
    refine wpAny_bind ((intKind prog w).pyHash (k := (i : Int)) (intKind_is _ _ _ _) ?_)
    refine add_exact (by omega) hS' fun h' hsb hS2 => ?_
    refine wpAny_pure ⟨plainId_quiet F.plain_set_update_loop _, ih (i + 1) _ (by omega) hlt (W.frame _ h1 _ hst' fun b hb o e => ?_) hS2 fun h'' tk hm'' hS'' => ?_⟩
    · rw [hsb.2 b (fun h : b = S => hSf (by rw [← h]; exact hb))]; exact e
    · refine hR h'' tk (fun b o hb e => hm'' b o hb ?_) hS''
      rw [hsb.2 b (fun h : b = S => hb (by rw [h]; exact List.mem_cons_self))]
      exact hm b o (fun hw => hb (List.mem_cons_of_mem _ hw)) e
theorem code_set_newX (a : Value) {Q₁ : Value → Shared → Prop}
    (h : Q₁ (.ref s.heap.objs.size) { s with heap := s.heap.push { cls := .type "set", dict := none, data := .set #[] 0 (.fresh 0 0 (!byText w)) } }) :
    codeAny (model prog w) A (.call (.builtin "set.__new__") ⟨[.type "set", a], []⟩) (wants Q₁ E) s := by
  refine codeAny_of_tree ?_
  show wpAny _ A.in1 (do checkBuiltinCall "set.__new__" ⟨[.type "set", a], []⟩; again (.builtin "set.__new__" ⟨[.type "set", a], []⟩)) _ _ s
  refine wpAny_bind (wpAny_of_eq (PySem.F.newCall_set_1 a) (wpAny_pure ⟨plainId_quiet PySem.F.plain_set_new _, codeAny_builtin PySem.F.entry_set_new ?_⟩))
  rw [Around.under_plainId PySem.F.plain_set_new _]
  unfold Builtin.«set.__new__» Builtin.Frozenset.newClass
  have hsub := sub_set_self
  obtain ⟨hp, g, d, tk, os⟩ := s
  dsimp only
  wp_walk
  refine wpAny_askSetting (wpAny_pure ?_)
  dsimp only
  simp only [newObj]
  refine wpAny_bind (wpAny_alloc (wpAny_pure ?_))
  exact wpAny_pure h
theorem set_tuple {l : Addr} {items : Array Value} {n : Nat} {ts : Nat → Tok} {Q : Value → Shared → Prop} (hh : A.handled = none) (hl : s.heap.IsTuple l items) (hn : items.size = n) (hn3 : n ≤ 3)
    (hi : ∀ i, i < n → items[i]? = some (.int (i : Int) (ts i)))
    (h : ∀ (h' : Heap) (tk : Nat), h'.get? s.heap.objs.size = some (setF (!byText w) ts n) → (∀ b o, s.heap.get? b = some o → h'.get? b = some o) → Q (.ref s.heap.objs.size) { s with heap := h', toks := tk }) :
    wpAny (model prog w) A (call (.type "set") [.ref l]) Q E s := by
  obtain ⟨c, tl, hmro⟩ := PySem.F.called_set.mro
  have hmade := PySem.F.called_set.made
  have hsub := PySem.F.called_set.sub
  refine wpAny_call (codeAny_of_tree ?_)
  show wpAny _ _ (callAny (.type "set") _) _ _ _
  refine wpAny_pure ⟨Code.quiet_builtin _ (by decide +kernel), codeAny_builtin PySem.F.entry_type_call ?_⟩
  rw [Around.under_plain (weight_type_call_type "set" [.ref l] []) rfl]
  have h1 := PySem.F.called_set.notType
  have h2 := PySem.F.called_set.canCreate
  have hct := PySem.F.typeCall_set_1 (.ref l)
  repeat (any_goals (first | assumption | wp_step))
  refine codeAny_mono (code_set_newX (.ref l) (E := E) (Q₁ := fun obj s₁ => obj = .ref s.heap.objs.size ∧ s₁ = { s with heap := s.heap.push (setF (!byText w) ts 0) }) ⟨rfl, rfl⟩) fun r s₁ hr => ?_
  cases r with
  | error e => exact hr
  | ok fl =>
    cases fl with
    | ret obj =>
      obtain ⟨rfl, rfl⟩ := hr
      have hS : (s.heap.push (setF (!byText w) ts 0)).get? s.heap.objs.size = some (setF (!byText w) ts 0) := Heap.get?_push_size _ rfl
      have hT : Shared.TypeIs { s with heap := s.heap.push (setF (!byText w) ts 0) } (.ref s.heap.objs.size) "set" := ⟨_, hS, rfl⟩
      have hli := PySem.F.called_set.init.lookup
      have hbi := PySem.F.called_set.init.bind (.ref s.heap.objs.size)
      repeat (any_goals (first | assumption | wp_step))
      refine codeAny_mono (codeAny_call_builtin (R := wants (fun r s₂ => r = .none ∧ ∃ h' tk, s₂ = { s with heap := h', toks := tk } ∧
          h'.get? s.heap.objs.size = some (setF (!byText w) ts n) ∧ (∀ b o, s.heap.get? b = some o → h'.get? b = some o)) E) PySem.F.called_set.init.plain PySem.F.entry_set_init (check_set_init_1 hT ?_)) fun r₂ s₂ hr₂ => ?_
      · obtain ⟨ol, hol, hcl, nl, hdl⟩ := id hl
        obtain ⟨ocls, odict, odata, oslots⟩ := ol
        simp only at hcl hdl
        subst hcl; subst hdl
        have hol' : (s.heap.push (setF (!byText w) ts 0)).get? l = some { cls := .type "tuple", dict := odict, data := .seq items nl, slots := oslots } := Heap.get?_push_of_some _ hol
        have hsls := PySem.F.sub_tuple_set
        have hslf := PySem.F.sub_tuple_frozenset
        have hne : (Value.type "tuple" == Value.type "dict") = false := by decide
        have hl1 : (s.heap.push (setF (!byText w) ts 0)).IsTuple l items := ⟨_, hol', rfl, nl, rfl⟩
        have hS' : (s.heap.push (setF (!byText w) ts 0)).get? s.heap.objs.size = some { cls := .type "set", dict := none, data := .set #[] 0 (.fresh 0 0 (!byText w)) } := hS
        unfold Builtin.«set.__init__» noKeywords Builtin.Frozenset.updateFrom
        generalize hPI : pyIter = PI
        wp_walk
        subst hPI
        refine wpAny_pyIter_tuple hl1 ?_
        refine wpAny_bind (wpAny_runValue ?_)
        have hlS : l < s.heap.objs.size := Heap.lt_size hol
        have hh3 : A.in1.in1.in1.handled = none := by simp [hh]
        have hneI : l ≠ (s.heap.push (setF (!byText w) ts 0)).objs.size := by
          rw [Heap.size_push]; exact Nat.ne_of_lt (Nat.lt_succ_of_lt hlS)
        have hSf : s.heap.objs.size ∉ [(s.heap.push (setF (!byText w) ts 0)).objs.size, l] := by
          rw [Heap.size_push]; simp only [List.mem_cons, List.mem_singleton, List.not_mem_nil, or_false, not_or]
          exact ⟨Nat.ne_of_lt (Nat.lt_succ_self _), Nat.ne_of_gt hlS⟩
        refine set_loop (Walks.tuple hh3 _ l hneI items) hSf (led := !byText w) (ts := ts) (by omega) (fun i v hi' hv => ?_) (items.size - 0) 0 _ (by omega) (Nat.zero_le _) ⟨⟨_, Heap.get?_push_size _ rfl, rfl, rfl⟩, hl1.push _⟩ (Heap.get?_push_of_some _ hS) fun h' tk hm hS2 => ?_
        · rw [hi i (by omega)] at hv; exact (Option.some.inj hv).symm
        · show wpAny _ _ _ _ _ _
          refine wpAny_pure ?_
          show wpAny _ _ (ret Value.none) _ _ _
          rw [hn] at hS2
          refine wpAny_pure ⟨rfl, h', tk, rfl, hS2, fun b o e => hm b o ?_ (Heap.get?_push_of_some _ (Heap.get?_push_of_some _ e))⟩
          have hb := Heap.lt_size e
          rw [Heap.size_push]
          simp only [List.mem_cons, List.mem_singleton, List.not_mem_nil, or_false, not_or]
          exact ⟨Nat.ne_of_lt hb, Nat.ne_of_lt (Nat.lt_succ_of_lt hb)⟩
      · cases r₂ with
        | error e => exact hr₂
        | ok fl₂ =>
          cases fl₂ with
          | ret r =>
            obtain ⟨rfl, h', tk, rfl, hS', hk'⟩ := hr₂
            repeat (any_goals (first | assumption | wp_step))
            exact h _ _ hS' hk'
          | _ => exact hr₂.elim
    | _ => exact hr.elim
end
end Mine
end
section
open PySem PySem.W PyProof.Rows PySem.Calls
set_option maxRecDepth 100000
set_option maxHeartbeats 4000000
namespace Mine
theorem pick_go {α : Type} (f : Nat → Nat) : ∀ (fuel k : Nat) (left : List α) (out : Array α), left.length = fuel → (pickOrder.go f fuel k left out).size = out.size + fuel ∧ ∀ x ∈ (pickOrder.go f fuel k left out).toList, x ∈ out.toList ∨ x ∈ left
  | 0, k, left, out, h => ⟨rfl, fun x hx => .inl hx⟩
  | fuel + 1, k, left, out, h => by
    have hlt : f k % left.length < left.length := Nat.mod_lt _ (by omega)
    have e : left[f k % left.length]? = some (left[f k % left.length]'hlt) := List.getElem?_eq_getElem hlt
    unfold pickOrder.go
    rw [e]
    dsimp only
    obtain ⟨a, b⟩ := pick_go f fuel (k + 1) (left.eraseIdx (f k % left.length)) (out.push (left[f k % left.length]'hlt)) (by rw [List.length_eraseIdx_of_lt hlt]; omega)
    refine ⟨by rw [a, Array.size_push]; omega, fun x hx => ?_⟩
    rcases b x hx with h1 | h1
    · rw [Array.toList_push] at h1
      rcases List.mem_append.mp h1 with h2 | h2
      · exact .inl h2
      · rw [List.mem_singleton.mp h2]; exact .inr (List.getElem_mem hlt)
    · exact .inr (List.mem_of_mem_eraseIdx h1)
theorem pick_ok {α : Type} (f : Nat → Nat) (xs : Array α) : (pickOrder f xs).size = xs.size ∧ ∀ x ∈ (pickOrder f xs).toList, x ∈ xs.toList := by
  obtain ⟨a, b⟩ := pick_go f xs.size 0 xs.toList #[] (by simp)
  refine ⟨by show (pickOrder.go f xs.size 0 xs.toList #[]).size = _; rw [a]; simp, fun x hx => ?_⟩
  rcases b x hx with h | h
  · simp at h
  · exact h
theorem below_at : ∀ n i : Nat, n ≤ 3 → i ≤ n → SetTable.below (List.range n).toArray i = i
  | 0, 0, _, _ => by kernel_rfl!
  | 1, 0, _, _ => by kernel_rfl!
  | 1, 1, _, _ => by kernel_rfl!
  | 2, 0, _, _ => by kernel_rfl!
  | 2, 1, _, _ => by kernel_rfl!
  | 2, 2, _, _ => by kernel_rfl!
  | 3, 0, _, _ => by kernel_rfl!
  | 3, 1, _, _ => by kernel_rfl!
  | 3, 2, _, _ => by kernel_rfl!
  | 3, 3, _, _ => by kernel_rfl!
  | 0, i + 1, _, h => absurd h (by omega)
  | 1, i + 2, _, h => absurd h (by omega)
  | 2, i + 3, _, h => absurd h (by omega)
  | 3, i + 4, _, h => absurd h (by omega)
  | n + 4, _, h, _ => absurd h (by omega)
theorem owner_set_iterator : Manifest.owners.lookup (String.ofList ['r', 'o', 't', 'a', 'r', 'e', 't', 'i', '_', 't', 'e', 's'].reverse) = some Manifest.sig_set_iterator := by kernel_rfl
theorem slot_si_next : Slot "set_iterator" "__next__" "set_iterator.__next__" :=
  .of (owner := "set_iterator") (n := "__next__") (by rw [typeLookup_type, builtinLookup_eq_fast]; kernel_rfl) (by decide +kernel) (by decide +kernel) (by decide +kernel)
    (by first | exact .inl (by decide +kernel) | exact .inr (by decide +kernel)) (by rw [isSubtype_type]; kernel_rfl)
theorem entry_si_next : entryFor table "set_iterator.__next__" = some Builtin.«set_iterator.__next__» := entryFor_of_tree (by kernel_rfl)
theorem args_si_next_1 (a : Value) : argsOk "set_iterator.__next__" ⟨[a], []⟩ := by
  unfold argsOk; rw [signature?_of (id := "set_iterator.__next__") (n := ['_', '_', 't', 'x', 'e', 'n', '_', '_']) (o := ['r', 'o', 't', 'a', 'r', 'e', 't', 'i', '_', 't', 'e', 's']) (by kernel_rfl) owner_set_iterator]; kernel_rfl
theorem slot_si_iter : Slot "set_iterator" "__iter__" "set_iterator.__iter__" :=
  .of (owner := "set_iterator") (n := "__iter__") (by rw [typeLookup_type, builtinLookup_eq_fast]; kernel_rfl) (by decide +kernel) (by decide +kernel) (by decide +kernel)
    (by first | exact .inl (by decide +kernel) | exact .inr (by decide +kernel)) (by rw [isSubtype_type]; kernel_rfl)
theorem args_si_iter_1 (a : Value) : argsOk "set_iterator.__iter__" ⟨[a], []⟩ := by
  unfold argsOk; rw [signature?_of (id := "set_iterator.__iter__") (n := ['_', '_', 'r', 'e', 't', 'i', '_', '_']) (o := ['r', 'o', 't', 'a', 'r', 'e', 't', 'i', '_', 't', 'e', 's']) (by kernel_rfl) owner_set_iterator]; kernel_rfl
theorem entry_si_iter : entryFor table "set_iterator.__iter__" = some Builtin.«dict_keyiterator.__iter__» :=
  entryFor_alias (id' := "dict_keyiterator.__iter__") (by kernel_rfl) (by first | rfl | decide +kernel | (unfold String.splitOn; simp +decide [String.splitOnAux])) (by decide +kernel) (by kernel_rfl)
theorem entry_set_iter' : entryFor table "set.__iter__" = some Builtin.«frozenset.__iter__» :=
  entryFor_alias (id' := "frozenset.__iter__") (by kernel_rfl) rfl (by decide +kernel) (by kernel_rfl)
/-- the iterator of a set -/
def setIt (r : Addr) (n ep slot i : Nat) : Obj := { cls := .type "set_iterator", data := .fields #[.int (slot : Int) 0, .int (i : Int) 0, .ref r, .int (n : Int) 0, .int (ep : Int) 0] }
section
variable {prog : Program} {w : World} {M : Model} {A : Around} {E : Value → Shared → Prop} {s : Shared} {R : Result → Shared → Prop}
theorem hint_set {r : Addr} {Q : Bool → Shared → Prop} (hT : s.TypeIs (.ref r) "set") (h : Q false s) : wpAny (model prog w) A (Builtin.List.listLengthHint (.ref r)) Q E s := by
  unfold Builtin.List.listLengthHint
  refine wpAny_bind (wpAny_specialOf hT PySem.F.slot_set_len.lookup ?_)
  generalize hid : ("set.__len__" : String) = id0
  wp_delta
  rw [show splitId id0 = some ("set", "__len__") from by subst hid; decide +kernel]
  subst hid
  refine wpAny_bind (wpAny_isInstance (T := "set") (b := true) hT (by rw [isSubtype_type]; kernel_rfl) ?_)
  refine wpAny_ite_split (fun hab => absurd hab (by decide)) (fun _ => ?_)
  refine wpAny_ite_split (fun _ => ?_) (fun hab => absurd (by decide +kernel) hab)
  refine wpAny_bind (wpAny_typeOf hT ?_)
  exact wpAny_pure h
theorem iter_set {r : Addr} {ts : Nat → Tok} {n : Nat} {Q : Value → Shared → Prop} (hn : n ≤ 3) (ho : s.heap.get? r = some (setF (!byText w) ts n))
    (h : Q (.ref s.heap.objs.size) { s with heap := s.heap.push (setIt r n n 0 0) }) : wpAny (model prog w) A (pyIter (.ref r)) Q E s := by
  have hT : s.TypeIs (.ref r) "set" := ⟨_, ho, rfl⟩
  have hf := fits_tabF (!byText w) ts n hn
  refine wpAny_pyIter_slot hT PySem.F.slot_set_iter (wpAny_call_entry PySem.F.slot_set_iter hT entry_set_iter' ?_ (PySem.F.args_set_iter_1 _))
  unfold Builtin.«frozenset.__iter__» Builtin.Frozenset.slot0 slotArgs
  simp only [List.isEmpty_nil, Bool.not_true, Bool.false_eq_true, ↓reduceIte, bind_assoc, List.length_nil, bne_self_eq_false]
  unfold Builtin.Frozenset.addrOf Builtin.Frozenset.sizeOf
  refine wpAny_bind (wpAny_pure ?_)
  try dsimp only
  refine wpAny_bind (wpAny_pure ?_)
  refine wpAny_bind (wpAny_bind (wpAny_setEntries_of ho rfl hf (wpAny_pure ?_)))
  unfold setDrawn setsByText
  refine wpAny_bind (wpAny_bind (wpAny_setState_of ho rfl hf ?_))
  try dsimp only
  refine wpAny_bind (wpAny_bind (wpAny_askSetting (wpAny_pure ?_)))
  refine wpAny_pure ?_
  refine wpAny_ite_split (fun hab => ?_) (fun _ => ?_)
  · rw [Bool.and_eq_true] at hab
    exact absurd (show false = true from hab.2) Bool.false_ne_true
  refine wpAny_bind (wpAny_pure ?_)
  refine wpAny_bind (wpAny_setEpoch_of ho rfl hf ?_)
  unfold newFields
  refine wpAny_bind (wpAny_newObj_type ?_)
  refine wpAny_pure ⟨_, rfl, "set_iterator", _, ⟨_, Heap.get?_push_size _ rfl, rfl⟩, slot_si_next.lookup, ?_⟩
  rw [esF_size]
  exact h
theorem mem_esF {ts : Nat → Tok} {n : Nat} {e : Int × Value} (h : e ∈ (esF ts n).toList) : ∃ j, j < n ∧ e.2 = .int (j : Int) (ts j) := by
  unfold esF at h
  simp only [List.mem_map, List.mem_range] at h
  obtain ⟨j, hj, rfl⟩ := h
  exact ⟨j, hj, rfl⟩
theorem setNext_at {r : Addr} {ts : Nat → Tok} {n slot i : Nat} {Q : Option (Value × Nat) → Shared → Prop} (hn : n ≤ 3) (hi : i ≤ n) (ho : s.heap.get? r = some (setF (!byText w) ts n)) (hslot : byText w = true ∨ slot = i)
    (h : i < n → ∀ v next, (∃ j, j < n ∧ v = .int (j : Int) (ts j)) → (byText w = true ∨ next = i + 1) → Q (some (v, next)) s) (h2 : i = n → Q none s) :
    wpAny (model prog w) A (setNext r slot i n) Q E s := by
  have hf := fits_tabF (!byText w) ts n hn
  unfold setNext setsByText
  refine wpAny_bind (wpAny_setState_of ho rfl hf ?_)
  dsimp only
  refine wpAny_bind (wpAny_bind (wpAny_askSetting (wpAny_pure ?_)))
  show wpAny (model prog w) A (if byText w = true then _ else _) _ _ _
  cases hb : byText w with
  | true =>
    rw [if_pos rfl]
    refine wpAny_ite_split (fun hab => absurd hab (by simp)) (fun _ => ?_)
    unfold setWalk setsByText
    refine wpAny_bind (wpAny_bind (wpAny_setState_of ho rfl hf ?_))
    dsimp only
    refine wpAny_bind (wpAny_bind (wpAny_askSetting (wpAny_pure ?_)))
    show wpAny (model prog w) A (if byText w = true then _ else _) _ _ _
    rw [hb, if_pos rfl]
    refine wpAny_bind (wpAny_askSetting (wpAny_pure (wpAny_pure ?_)))
    obtain ⟨a, b⟩ := pick_ok (w.params.setOrder r n) (esF ts n)
    rw [esF_size] at a
    by_cases hlt : i < n
    · have e := Array.getElem?_eq_getElem (xs := pickOrder (w.params.setOrder r n) (esF ts n)) (i := i) (by omega)
      show Q ((pickOrder (w.params.setOrder r n) (esF ts n))[i]?.map _) s
      rw [e]
      obtain ⟨j, hj, ej⟩ := mem_esF (b _ (Array.mem_toList_iff.mpr (Array.mem_of_getElem? e)))
      exact h hlt _ _ ⟨j, hj, ej⟩ (.inl hb)
    · have e : (pickOrder (w.params.setOrder r n) (esF ts n))[i]? = none := Array.getElem?_eq_none (by omega)
      show Q ((pickOrder (w.params.setOrder r n) (esF ts n))[i]?.map _) s
      rw [e]
      exact h2 (by omega)
  | false =>
    rw [if_neg Bool.false_ne_true]
    have hs : slot = i := hslot.resolve_left (by rw [hb]; exact Bool.false_ne_true)
    subst hs
    refine wpAny_ite_split (fun hab => absurd (show false = true from hab) Bool.false_ne_true) (fun _ => ?_)
    refine wpAny_bind (wpAny_of_eq (a := ()) (by rfl) ?_)
    refine wpAny_pure ?_
    show Q (match (esF ts n)[SetTable.below (List.range n).toArray slot]?, (List.range n).toArray[SetTable.below (List.range n).toArray slot]? with | some (_, x), some j => some (x, j + 1) | _, _ => none) s
    rw [below_at n slot hn hi]
    by_cases hlt : slot < n
    · have e1 : (esF ts n)[slot]? = some ((slot : Int), Value.int (slot : Int) (ts slot)) := by simp [esF, hlt]
      have e2 : (List.range n).toArray[slot]? = some slot := by simp [hlt]
      rw [e1, e2]
      exact h hlt _ _ ⟨slot, hlt, rfl⟩ (.inr rfl)
    · have e1 : (esF ts n)[slot]? = none := Array.getElem?_eq_none (by rw [esF_size]; omega)
      rw [e1]
      exact h2 (by omega)
theorem next_set {r I : Addr} {ts : Nat → Tok} {n slot i : Nat} {Q : Option Value → Shared → Prop} (hn : n ≤ 3) (hi : i < n) (ho : s.heap.get? r = some (setF (!byText w) ts n)) (hI : s.heap.get? I = some (setIt r n n slot i)) (hslot : byText w = true ∨ slot = i)
    (hQ : ∀ v h' slot', (∃ j, j < n ∧ v = .int (j : Int) (ts j)) → h'.get? I = some (setIt r n n slot' (i + 1)) → (byText w = true ∨ slot' = i + 1) → Heap.SameBut I s.heap h' → Q (some v) { s with heap := h' }) :
    wpAny (model prog w) A (pyNext (.ref I)) Q E s := by
  have hT : s.TypeIs (.ref I) "set_iterator" := ⟨_, hI, rfl⟩
  have hf := fits_tabF (!byText w) ts n hn
  unfold pyNext
  refine wpAny_bind (wpAny_attempt (wpAny_callSpecial?_slot (name := Str.ofString "__next__") hT slot_si_next
    (wpAny_call_entry slot_si_next hT entry_si_next ?_ (args_si_next_1 _))))
  unfold Builtin.«set_iterator.__next__»
  refine wpAny_bind (wpAny_of_eq (a := (Value.ref I, [])) rfl ?_)
  try dsimp only
  refine wpAny_bind (wpAny_fieldsOf hI rfl ?_)
  dsimp only
  refine wpAny_bind (wpAny_setEntries_of ho rfl hf ?_)
  rw [esF_size]
  refine wpAny_ite_split (fun hab => absurd hab (by simp)) (fun _ => ?_)
  refine wpAny_bind (setNext_at (slot := slot) (i := i) hn (by omega) ho hslot (fun _ v next hv hs => ?_) (fun e => absurd hi (by omega)))
  dsimp only
  refine wpAny_bind (wpAny_setField hI rfl (by simp) ?_)
  have hI2 := Heap.get?_update_self (Obj.mapFields (·.setIfInBounds 0 (rawInt (next : Int)))) hI rfl
  refine wpAny_bind (wpAny_setField hI2 rfl (by simp) ?_)
  have hI3 := Heap.get?_update_self (Obj.mapFields (·.setIfInBounds 1 (rawInt ((i : Int) + 1)))) hI2 rfl
  refine wpAny_pure ⟨v, rfl, wpAny_pure (hQ v _ next hv ?_ hs ((Heap.SameBut.update ..).trans (Heap.SameBut.update ..)))⟩
  rw [hI3]
  rfl
theorem end_set {r I : Addr} {ts : Nat → Tok} {n slot : Nat} {Q : Option Value → Shared → Prop} (hh : A.handled = none) (hn : n ≤ 3) (ho : s.heap.get? r = some (setF (!byText w) ts n)) (hI : s.heap.get? I = some (setIt r n n slot n)) (hslot : byText w = true ∨ slot = n)
    (hQ : ∀ h', Heap.ExtBut I s.heap h' → Q none { s with heap := h' }) :
    wpAny (model prog w) A (pyNext (.ref I)) Q E s := by
  have hT : s.TypeIs (.ref I) "set_iterator" := ⟨_, hI, rfl⟩
  have hf := fits_tabF (!byText w) ts n hn
  unfold pyNext
  refine wpAny_bind (wpAny_attempt (wpAny_callSpecial?_slot (name := Str.ofString "__next__") hT slot_si_next
    (wpAny_call_entry slot_si_next hT entry_si_next ?_ (args_si_next_1 _))))
  unfold Builtin.«set_iterator.__next__»
  refine wpAny_bind (wpAny_of_eq (a := (Value.ref I, [])) rfl ?_)
  try dsimp only
  refine wpAny_bind (wpAny_fieldsOf hI rfl ?_)
  dsimp only
  refine wpAny_bind (wpAny_setEntries_of ho rfl hf ?_)
  rw [esF_size]
  refine wpAny_ite_split (fun hab => absurd hab (by simp)) (fun _ => ?_)
  refine wpAny_bind (setNext_at (slot := slot) (i := n) hn (by omega) ho hslot (fun h => absurd h (by omega)) (fun _ => ?_))
  dsimp only
  refine wpAny_bind (wpAny_setField hI rfl (by simp) ?_)
  refine wpAny_bind ?_
  simp only [newExc, newTuple]
  refine wpAny_bind (wpAny_newObj_type ?_ (by size_fits))
  refine wpAny_bind (m := firstArgMember _ _) (wpAny_of_eq (a := Value.none) (by first | rfl | (simp only [firstArgMember]; rfl)) ?_)
  refine wpAny_newObj_type ?_ (by size_fits)
  simp only [raiseNew]
  refine wpAny_bind (wpAny_handled ?_)
  first | rw [show A.in1.handled = none from hh] | rw [hh]
  refine wpAny_bind (wpAny_pure (wpAny_throw ?_))
  refine wpAny_bind (wpAny_isInstance (T := "StopIteration") (b := true) ⟨_, Heap.get?_push_size _ rfl, rfl⟩ isSubtype_stop ?_)
  exact wpAny_pure (hQ _ ((((Heap.SameBut.update ..).extBut).push _).push _))
theorem Walks.set {r I : Addr} {ts : Nat → Tok} {n : Nat} (hh : A.handled = none) (hn : n ≤ 3) (hne : r ≠ I) :
    Walks prog w A I [I, r] [I] n (fun _ v => ∃ j, j < n ∧ v = .int (j : Int) (ts j)) (fun i h => (∃ slot, h.get? I = some (setIt r n n slot i) ∧ (byText w = true ∨ slot = i)) ∧ h.get? r = some (setF (!byText w) ts n)) where
  sub := fun b hb => by simp at hb; simp [hb]
  frame := fun _ _ _ x hk => by
    obtain ⟨⟨slot, h1, h2⟩, h3⟩ := x
    exact ⟨⟨slot, hk I (by simp) _ h1, h2⟩, hk r (by simp) _ h3⟩
  item := fun i s Q E hi x hQ => by
    obtain ⟨⟨slot, h1, h2⟩, h3⟩ := x
    exact next_set hn hi h3 h1 h2 fun v h' slot' hv hI hs hsb => hQ v h' s.toks hv ⟨⟨slot', hI, hs⟩, (hsb.2 r hne).trans h3⟩ fun b o hb e => (hsb.2 b (by simpa using hb)).trans e
  done := fun s Q E x hQ => by
    obtain ⟨⟨slot, h1, h2⟩, h3⟩ := x
    exact end_set hh hn h3 h1 h2 fun h' he => hQ h' s.toks fun b o hb e => he b o (by simpa using hb) e
  self := fun i s Q E x hQ => by
    obtain ⟨⟨slot, h1, h2⟩, h3⟩ := x
    have hT : s.TypeIs (.ref I) "set_iterator" := ⟨_, h1, rfl⟩
    refine wpAny_pyIter_slot hT slot_si_iter (wpAny_call_entry slot_si_iter hT entry_si_iter ?_ (args_si_iter_1 _))
    show wpAny _ _ (ret (.ref I)) _ _ s
    exact wpAny_pure ⟨_, rfl, "set_iterator", _, hT, slot_si_next.lookup, hQ⟩
theorem src_set {r : Addr} {ts : Nat → Tok} {n : Nat} (hn : n ≤ 3) : KdlSrc prog w "set" r r n (fun _ v => ∃ j, j < n ∧ v = .int (j : Int) (ts j)) (fun h => h.get? r = some (setF (!byText w) ts n)) where
  type := fun _ h => ⟨_, h, rfl⟩
  there := fun _ h => ⟨Heap.lt_size h, Heap.lt_size h⟩
  keep := fun _ _ h hk => hk r (.inl rfl) _ h
  notList := by decide
  notTuple := by decide
  hint := fun _ _ _ _ h hq => hint_set ⟨_, h, rfl⟩ hq
  iter := fun _ _ hh h => ⟨_, _, (fun _ _ hq => iter_set hn h hq), Walks.set hh hn (Nat.ne_of_lt (Heap.lt_size h)), ⟨⟨0, Heap.get?_push_size _ rfl, .inr rfl⟩, Heap.get?_push_of_some _ h⟩⟩
end
end Mine
end
section
open PySem PySem.W PyProof.Rows PySem.Calls
set_option maxRecDepth 100000
set_option maxHeartbeats 4000000
namespace Mine
theorem ints_of : ∀ {vs : List Value}, (∀ v ∈ vs, ∃ i t, v = .int i t) → ∃ ns, IntsAre vs ns
  | [], _ => ⟨[], .nil⟩
  | v :: r, h => by
    obtain ⟨ns, hns⟩ := ints_of (vs := r) fun x hx => h x (List.mem_cons_of_mem _ hx)
    obtain ⟨i, t, rfl⟩ := h v List.mem_cons_self
    exact ⟨i :: ns, .cons i t hns⟩
def tokAt (vs : List Value) (i : Nat) : Tok := match vs[i]? with | some (.int _ t) => t | _ => 0
section
variable {prog : Program} {w : World} {A : Around} {E : Value → Shared → Prop}
variable {wr wr' : List Addr} {g₀ g g' : Fz} {s₀ s s' : Shared} {env : Env} {C C' : Heap → Prop} {m k : Str → Option Value} {mu : List (Addr × Obj)}
theorem x_set_tuple {l : Addr} {vs : List Value} {n : Nat} {Q : Value → Shared → Prop} (X : Sx wr g₀ s₀ env C g m k mu s) (hh : A.handled = none) (hl : IsTup s.heap l vs.toArray) (hr : RdL s.heap vs (dInts ((List.range n).map fun (i : Nat) => (i : Int)))) (hn : n ≤ 3)
    (h : ∀ S s', s₀.heap.get? S = none → Sx wr g₀ s₀ env C g m k ((S, setF (!byText w) (tokAt vs) n) :: mu) s' → Q (.ref S) s') :
    wpAny (model prog w) A (call (.type "set") [.ref l]) Q E s := by
  have hlen : vs.length = n := by rw [hr.length]; simp [dInts]
  refine set_tuple (n := n) (ts := tokAt vs) hh hl (by rw [List.size_toArray]; exact hlen) hn (fun i hi => ?_) fun h' tk hS hk => ?_
  · obtain ⟨v, hv, rv⟩ := hr.at (i := i) (d := .int (i : Int)) (by unfold dInts; rw [List.getElem?_map, List.getElem?_map, List.getElem?_range hi]; rfl)
    obtain ⟨t, rfl⟩ := rv.int_inv
    rw [List.getElem?_toArray, hv]
    unfold tokAt
    rw [hv]
  · have e : Ev [] g s g { s with heap := h', toks := tk } := Ev.grow X.sub hk
    exact h _ _ X.fresh ((X.adopt (P := fun _ => True) e (Heap.get?_none_of_le (Nat.le_refl _)) hS (X.sub.none (Nat.le_refl _)) fun _ _ => trivial).weaken fun h c => c.1)
theorem x_sorted_set {r : Addr} {ts : Nat → Tok} {n : Nat} {Q : Value → Shared → Prop} (X : Sx wr g₀ s₀ env C g m k mu s) (hw : env.locals ∈ wr ∨ s₀.heap.get? env.locals = none) (hh : A.handled = none) (hn : n ≤ 3) (ho : s.heap.get? r = some (setF (!byText w) ts n))
    (h : ∀ D vs c s', s₀.heap.get? D = none → vs.length = n → Sx wr g₀ s₀ env C g m k ((D, lst vs c) :: mu) s' → Q (.ref D) s') :
    wpAny (model prog w) A (call (.builtin "sorted") [.ref r]) Q E s := by
  refine kdu_sorted (src_set hn) hh X.fr X.news ho (by rw [sizeLine_eq]; omega) fun D h' tk vs F N p hlen hv => ?_
  have fD := X.backFresh N p
  have Y := X.backNew (t := tk) hw F N p
  have hD := (Y.tx.mus _ List.mem_cons_self).1
  obtain ⟨ns, hI⟩ := ints_of (vs := vs) fun v hm => by
    obtain ⟨j, hj⟩ := List.getElem?_of_mem hm
    obtain ⟨i, -, e⟩ := hv j v hj
    exact ⟨_, _, e⟩
  refine wpAny_call_entry slot_list_sort ⟨_, hD, rfl⟩ entry_list_sort (list_sort_tree hD hI (by omega) fun out ns' a1 a2 a3 => ⟨_, rfl, ?_⟩) (args_list_sort _)
  obtain ⟨e, he⟩ := sortedHeap_at (out := out) (vs := vs) hD
  have hlo : out.toList.length = n := by rw [IntsAre.length a1, a2.length_eq, ← IntsAre.length hI, hlen]
  refine h D out.toList e _ fD hlo (Y.setAny (mu₁ := []) (t := tk) (fun b o hb eb => ?_) ?_)
  · exact (sortedHeap_old hb (Heap.lt_size eb)).trans eb
  · rw [he]
end
end Mine
end
section
open PySem PySem.W PyProof.Rows PySem.Calls
open AutoSeq1 (wpAny_loadPart')
set_option maxRecDepth 100000
set_option maxHeartbeats 4000000
namespace Mine
section
variable {prog : Program} {w : World} {A : Around} {E : Value → Shared → Prop} {s : Shared}
theorem collect_range {R : List Value → Shared → Prop} {r : Addr} {a b c : Int} {t u v : Tok} {n : Nat} (hh : A.handled = none) (hr : IsRange s.heap r a b c t u v) (hsmall : Builtin.Range.small a b c = true)
    (hn : Builtin.Range.rangeSize a b c = n) (hlen : n ≤ 2 ^ 24)
    (h : ∀ (h' : Heap) (tk : Nat) (acc : Array Value), (∀ b o, s.heap.get? b = some o → h'.get? b = some o) → ItemsOf (fun i v => ∃ t, v = .int (a + i * c) t) acc n → R acc.toList { s with heap := h', toks := tk }) :
    wpAny (model prog w) A (collect (.ref r)) R E s := by
  unfold collect
  refine wpAny_bind (wpAny_runValue (codeAny_builtin entry_proto_collect' ?_))
  rw [Around.under_plainId PySem.F.plain_proto_collect _]
  show wpAny _ A.in1 (newList [] >>= fun l => again (.builtin "list.__iadd__" ⟨[l, .ref r], []⟩)) _ _ s
  refine wpAny_bind (wpAny_newObj_type ?_)
  refine wpAny_pure ⟨plainId_quiet PySem.F.plain_list_iadd _, codeAny_builtin entry_list_iadd' ?_⟩
  rw [Around.under_plainId PySem.F.plain_list_iadd _]
  have hS₁ : (s.heap.push { cls := .type "list", data := .seq ([] : List Value).toArray }).get? s.heap.objs.size = some { cls := .type "list", data := .seq #[] } := Heap.get?_push_size _ rfl
  show wpAny _ A.in1 (Builtin.List.listExtendWith (.ref s.heap.objs.size) (.ref r) (.ref s.heap.objs.size)) _ _ _
  have key := wpAny_extend_range (prog := prog) (w := w) (A := A) (s := { s with heap := s.heap.push { cls := .type "list", data := .seq ([] : List Value).toArray } })
    (R := fun (q : Result) (s' : Shared) => ∃ (h' : Heap) (tk : Nat) (acc' : Array Value) (c' : Nat), q = .ok (.ret (.ref s.heap.objs.size)) ∧ s' = { s with heap := h', toks := tk } ∧
      (∀ b o, s.heap.get? b = some o → h'.get? b = some o) ∧ h'.get? s.heap.objs.size = some { cls := .type "list", dict := none, data := .seq acc' c', slots := #[] } ∧ ItemsOf (fun i v => ∃ t, v = .int (a + i * c) t) acc' n)
    hh (Heap.get?_push_of_some _ hr) hsmall hn hlen s.heap.objs.size (.ref s.heap.objs.size) 0 hS₁
    (fun h' tk acc' c' hk hS' hacc => ⟨h', tk, acc', c', rfl, rfl, fun b o e => hk b o (Nat.ne_of_lt (Heap.lt_size e)) (Heap.get?_push_of_some _ e), hS', hacc⟩)
  refine wpAny_mono key (fun fin s' x => ?_) fun e s' x => ?_
  · cases fin with
    | done f =>
      obtain ⟨h', tk, acc', c', e, rfl, hk, hS', hacc⟩ := x
      cases e
      show wpAny _ A (load s.heap.objs.size >>= _) _ _ _
      refine wpAny_bind (wpAny_load hS' ?_)
      exact wpAny_pure (h h' tk acc' hk hacc)
    | again c₁ =>
      refine ⟨x.1, codeAny_mono x.2 fun q s₂ y => ?_⟩
      obtain ⟨h', tk, acc', c', rfl, rfl, hk, hS', hacc⟩ := y
      show wpAny _ A (load s.heap.objs.size >>= _) _ _ _
      refine wpAny_bind (wpAny_load hS' ?_)
      exact wpAny_pure (h h' tk acc' hk hacc)
  · obtain ⟨_, _, _, _, e', _⟩ := x
    cases e'
theorem tuple_range {r : Addr} {a b c : Int} {t u v : Tok} {n : Nat} {Q : Value → Shared → Prop} (hh : A.handled = none) (hr : IsRange s.heap r a b c t u v) (hsmall : Builtin.Range.small a b c = true)
    (hn : Builtin.Range.rangeSize a b c = n) (hlen : n ≤ 1000)
    (hQ : ∀ (h' : Heap) (tk : Nat) (acc : Array Value), (∀ b o, s.heap.get? b = some o → h'.get? b = some o) → ItemsOf (fun i v => ∃ t, v = .int (a + i * c) t) acc n → Q (.ref h'.objs.size) { s with heap := h'.push { cls := .type "tuple", data := .seq acc }, toks := tk }) :
    wpAny (model prog w) A (call (.type "tuple") [.ref r]) Q E s := by
  have hl24 : n ≤ 2 ^ 24 := by omega
  refine callType_codes (Q₁ := fun obj s₁ => s₁.TypeIs obj "tuple" ∧ Q obj s₁) PySem.F.called_tuple (PySem.F.typeCall_tuple_1 _) PySem.F.entry_object_init ?_ fun obj s₁ h₁ => ?_
  · refine codeAny_of_tree ?_
    show wpAny _ A.in1.in1 (do checkBuiltinCall "tuple.__new__" ⟨[.type "tuple", .ref r], []⟩; again (.builtin "tuple.__new__" ⟨[.type "tuple", .ref r], []⟩)) _ _ s
    refine wpAny_bind (wpAny_of_eq (PySem.F.newCall_tuple_1 _) (wpAny_pure ⟨plainId_quiet PySem.F.plain_tuple_new _, codeAny_builtin PySem.F.entry_tuple_new ?_⟩))
    rw [Around.under_plainId PySem.F.plain_tuple_new _]
    have hsub := sub_tuple_self
    have hinit := init_tuple_lookup
    have hmh := madeHere_tuple
    have hTI : s.TypeIs (.ref r) "range" := ⟨_, hr, rfl⟩
    have hh4 : A.in1.in1.handled = none := hh
    wp_walk using wpAny_typeOf hTI, collect_range hh4 hr hsmall hn hl24
    intro h' tk acc hk hacc
    show wpAny _ _ (Builtin.Tuple.tupleExact acc.toList.toArray >>= fun v => ret v) _ _ _
    unfold Builtin.Tuple.tupleExact
    refine wpAny_bind (wpAny_newObj_type ?_ (by show acc.toList.toArray.size ≤ sizeLine; simp only [Array.toArray_toList]; rw [hacc.1, sizeLine_eq]; omega))
    refine wpAny_pure ?_
    have e : acc.toList.toArray = acc := by simp
    rw [e]
    exact ⟨⟨_, Heap.get?_push_size _ rfl, rfl⟩, hQ h' tk acc hk hacc⟩
  · exact ⟨h₁.1, PySem.F.args_object_init_2 obj _, object_init_meets PySem.F.called_tuple.init.lookup PySem.F.called_tuple.made (by decide) prog w A.in1 _ s₁ ⟨h₁.1, rfl, h₁.2⟩⟩
variable {wr wr' : List Addr} {g₀ g g' : Fz} {s₀ s' : Shared} {env : Env} {C C' : Heap → Prop} {m k : Str → Option Value} {mu : List (Addr × Obj)}
theorem rdl_of {h : Heap} : ∀ {vs : List Value} {n : Nat} (f : Nat → Int), vs.length = n → (∀ i v, vs[i]? = some v → ∃ t, v = Value.int (f i) t) → RdL h vs (dInts ((List.range n).map f))
  | [], n, f, e, _ => by obtain rfl : n = 0 := e.symm; exact .nil
  | v :: vs, n, f, e, hv => by
    obtain ⟨n', rfl⟩ : ∃ n', n = n' + 1 := ⟨vs.length, by simpa using e.symm⟩
    obtain ⟨t, rfl⟩ := hv 0 v rfl
    have := rdl_of (h := h) (vs := vs) (n := n') (fun i => f (i + 1)) (by simpa using e) fun i u hu => hv (i + 1) u (by simpa using hu)
    rw [List.range_succ_eq_map, List.map_cons, List.map_map]
    exact .cons .int this
theorem x_tuple_range {r : Addr} {n : Nat} {t u v : Tok} {Q : Value → Shared → Prop} (X : Sx wr g₀ s₀ env C g m k mu s) (hh : A.handled = none) (hr : IsRange s.heap r 0 n 1 t u v) (hn : n ≤ 100)
    (h : ∀ a vs g' s', Sx wr g₀ s₀ env (fun h => C h ∧ IsTup h a (List.toArray vs) ∧ RdL h vs (dInts ((List.range n).map fun (i : Nat) => (i : Int)))) g' m k mu s' → Q (.ref a) s') :
    wpAny (model prog w) A (call (.type "tuple") [.ref r]) Q E s := by
  refine tuple_range (n := n) hh hr (small_one (by omega) (by omega) (by omega) (by omega)) (by rw [rangeSize_one]; split <;> omega) (by omega) fun h' tk acc hk hacc => ?_
  have Y := X.grow (t := tk) hk
  obtain ⟨g', Z⟩ := Y.pushFz { cls := .type "tuple", data := .seq acc } tk
  have hl : acc.toList.length = n := by rw [Array.length_toList]; exact hacc.1
  refine h _ acc.toList g' _ (Z.weaken fun h c => ⟨c.1, ⟨_, c.2, rfl, 0, by simp⟩, rdl_of _ hl fun i v hv => ?_⟩)
  obtain ⟨t, e⟩ := hacc.2 i v (by rw [← Array.getElem?_toList]; exact hv)
  exact ⟨t, by rw [e]; congr 1; omega⟩
end
end Mine
end
section
open PySem PySem.W PyProof.Rows PySem.Calls
set_option maxRecDepth 100000
set_option maxHeartbeats 4000000
namespace Mine
section
variable {prog : Program} {w : World} {M : Model} {A : Around} {E : Value → Shared → Prop}
variable {wr wr' : List Addr} {g₀ g g' : Fz} {s₀ s s' : Shared} {env env' : Env} {C C' : Heap → Prop} {m k : Str → Option Value} {mu : List (Addr × Obj)}
variable {mg mb : Str → Option Value}
theorem AOk.undr {n : Nat} {c : Addr} {rest : List Value} (a : AOk (n + 1) A) : AOk n (A.under (.builtin "type.__call__" ⟨.ref c :: rest, []⟩)) := by
  have hw : (Code.builtin "type.__call__" ⟨.ref c :: rest, []⟩).weight = 1 := by kernel_rfl!
  have hu : (Code.builtin "type.__call__" ⟨.ref c :: rest, []⟩).cUnits = 1 := by kernel_rfl!
  have hg : (Code.builtin "type.__call__" ⟨.ref c :: rest, []⟩).guards = [] := by kernel_rfl!
  refine ⟨a.hh, ?_, ?_, ?_⟩
  · show A.depth + (Code.builtin "type.__call__" ⟨.ref c :: rest, []⟩).weight + n < 900
    have := a.dep
    omega
  · show A.units + (Code.builtin "type.__call__" ⟨.ref c :: rest, []⟩).cUnits + 100 * n < 5000
    have := a.un
    omega
  · show pushGuards (Code.builtin "type.__call__" ⟨.ref c :: rest, []⟩).guards A.guards = some []
    rw [hg]; exact a.gu
/-- back from a rule that turned one object -/
theorem Sx.backUpd {h' : Heap} {t : Nat} {D : Addr} {o o' : Obj} (X : Sx wr g₀ s₀ env C g m k ((D, o) :: mu) s) (hw : env.locals ∈ wr ∨ s₀.heap.get? env.locals = none)
    (F : Fr {} env.locals h' m) (N : News {} env.locals h' ((D, o') :: rest s.heap [env.locals, D])) :
    Sx wr g₀ s₀ env C g m k ((D, o') :: mu) { s with heap := h', toks := t } := by
  obtain ⟨hD0, gD, DL, Dc⟩ := X.tx.mus (D, o) List.mem_cons_self
  have Dw := X.mw (D, o) List.mem_cons_self
  have Y := X.drop1
  have kp : ∀ b o, b ≠ env.locals → b ≠ D → s.heap.get? b = some o → h'.get? b = some o := fun b o hb hb2 e => (N (b, o) (List.mem_cons_of_mem _ (mem_rest.mpr ⟨e, by simp [hb, hb2]⟩))).1
  obtain ⟨hD, -, -⟩ := N (D, o') List.mem_cons_self
  have e : Ev [env.locals, D] g s g { s with heap := h', toks := t } :=
    ⟨⟨_, _, rfl⟩, Le.refl g, fun b o' eb => kp b o' (fun q => by rw [q, X.tx.hid] at eb; cases eb) (fun q => by rw [q, gD] at eb; cases eb) (X.sub b o' eb), fun _ _ _ q => q, fun b o' hb eb => kp b o' (fun q => hb (by simp [q])) (fun q => hb (by simp [q])) eb, fun b o' eb => by
      by_cases q : b = env.locals
      · obtain ⟨oL, _, _, hL, _⟩ := F.ns; exact ⟨oL, q ▸ hL⟩
      · by_cases q2 : b = D
        · exact ⟨_, q2 ▸ hD⟩
        · exact ⟨o', kp b o' q q2 eb⟩⟩
  have nm : ∀ p ∈ mu, p.1 ≠ D := fun p hp q => by
    have := X.tx.nd
    rw [List.map_cons, List.nodup_cons] at this
    exact this.1 (List.mem_map.mpr ⟨p, hp, q⟩)
  refine ⟨X.ev.trans e (fun b hb => ?_), ⟨e.gh, X.tx.up, F.ns, X.tx.hid, fun x c hc => ?_, X.tx.capart, fun p hp => ?_, X.tx.nd⟩, fun p hp => ?_⟩
  · rcases List.mem_cons.mp hb with rfl | hb
    · exact hw
    · rw [List.mem_singleton.mp hb]; exact Dw
  · obtain ⟨⟨o', ho, hd⟩, hg⟩ := X.tx.cell x c hc
    exact ⟨⟨o', kp c o' (X.tx.cell_ne hc) (Ne.symm (Dc x c hc)) ho, hd⟩, hg⟩
  · rcases List.mem_cons.mp hp with rfl | hp
    · exact ⟨hD, gD, DL, Dc⟩
    · obtain ⟨h1, h2, h3, h4⟩ := Y.tx.mus p hp
      exact ⟨kp _ _ h3 (nm p hp) h1, h2, h3, h4⟩
  · rcases List.mem_cons.mp hp with rfl | hp
    · exact Dw
    · exact Y.mw p hp
theorem x_setattr {x dx : Addr} {es : List DictEntry} {n : Nat} {name : Str} {v : Value} {Q : Unit → Shared → Prop} (X : Sx wr g₀ s₀ env C g m k ((dx, dictOf es n) :: mu) s) (hw : env.locals ∈ wr ∨ s₀.heap.get? env.locals = none)
    (G : Gl (KK w.params) mg mb s.heap) (hx : s.heap.get? x = some (instObj 162 dx)) (hl : (getL name es).isSome = true) (hz : ∀ h key, (putL name h key v es).length ≤ 1000)
    (h : ∀ tk s', Sx wr g₀ s₀ env C g m k ((dx, dictOf (putL name (PyData.keyHash w.params name) (.str name tk) v es) (putN name es n)) :: mu) s' → Q () s')
    (hs : findIn (KK w.params) (.ref 162) "__setattr__" = some (some (.builtin "object.__setattr__")) := by kernel_rfl!) (hp : plainOver (KK w.params) 162 = true := by kernel_rfl!)
    (ht : takerIn (KK w.params) 162 name = some none := by kernel_rfl!) (hh : hasDictIn (KK w.params) 162 = true := by kernel_rfl!) :
    wpAny (model prog w) A (setAttr (.ref x) name v) Q E s := by
  obtain ⟨hD0, gD, DL, Dc⟩ := X.tx.mus (dx, dictOf es n) List.mem_cons_self
  have I : InstAt s.heap x (instObj 162 dx) 162 (some (dictOf es n)) := ⟨hx, rfl, rfl, hD0⟩
  have N : News {} env.locals s.heap ([] ++ (dx, dictOf es n) :: rest s.heap [env.locals, dx]) := fun p hp => by
    rcases List.mem_cons.mp hp with rfl | hp
    · exact ⟨hD0, DL, get_empty _⟩
    · obtain ⟨h1, h2⟩ := mem_rest.mp hp
      exact ⟨h1, fun q => h2 (by simp [q]), get_empty _⟩
  refine set_plain G.inK I hs (osa_dict (s := { s with toks := s.toks + 1 }) X.fr N G.inK I rfl hp ht hh hl (fun _ h => nomatch h) (fun p hp q => (mem_rest.mp hp).2 (by simp [q])) (by rw [putName_dict]) rfl (hz _ _) fun h' F' N' => ?_)
  exact h _ _ (X.backUpd (t := s.toks + 1 + 1) hw F' N')
end
end Mine
end
section
open PySem PySem.W PyProof.Rows PySem.Calls
set_option maxRecDepth 100000
set_option maxHeartbeats 4000000
namespace Mine
section
variable {prog : Program} {w : World} {M : Model} {A : Around} {E : Value → Shared → Prop} {mg mb : Str → Option Value}
variable {wr wr' : List Addr} {g₀ g g' : Fz} {s₀ s s' : Shared} {env env' : Env} {C C' : Heap → Prop} {m k : Str → Option Value} {mu : List (Addr × Obj)}
theorem pl {name : Str} {hh : Int} {key v : Value} : ∀ {es : List DictEntry} {n : Nat}, es.length ≤ n → (putL name hh key v es).length ≤ n + 1
  | [], n, h => by simp [putL]
  | e :: r, n, h => by
    unfold putL
    split
    · simp at h ⊢; omega
    · have := pl (name := name) (hh := hh) (key := key) (v := v) (es := r) (Nat.le_refl _)
      simp at h ⊢; omega
theorem pl0 : ([] : List DictEntry).length ≤ 0 := Nat.le_refl 0
def put1 (P : Params) (name : Str) (t : Tok) (v : Value) (es : List DictEntry) : List DictEntry := putL name (PyData.keyHash P name) (.str name t) v es
theorem pinit_spec {n : Nat} (hA : AOk (n + 1) A) {g : Fz} {s : Shared} {x dx tx : Addr} {vs : List Value} {t6 : Tok} {Q : Value → Shared → Prop}
    (Sb : Sub g s.heap) (up : ∀ h, Sub g h → Gl (KK w.params) mg mb h ∧ h.get? x = some (instObj 162 dx) ∧ IsTup h tx vs.toArray) (hD : s.heap.get? dx = some (dictOf [] 0)) (gD : g dx = none)
    (h : ∀ t1 t2 t3 t5 g' s', Ev [dx] g s g' s' → s'.heap.get? dx = some (dictOf (put1 w.params "strength" t5 (.str "values" t6) (put1 w.params "scope" t3 (.ref tx) (put1 w.params "number" t1 (.int (-1) t2) []))) 3) → Q .none s') :
    codeAny (model prog w) A (.call (.ref 35) ⟨[.ref x, .ref tx, .str "values" t6], []⟩) (fun r s' => match r with | .ok (.ret v) => Q v s' | .ok _ => False | .error e => False) s := by
  have G := (up _ Sb).1
  refine x_enter (fd := pinitFd) [(dx, dictOf [] 0)] Sb up G hA (by simp [hD, gD]) (by simp) (pinit_look _) (pinit_cd _) rfl (by kernel_rfl!) (by kernel_rfl!) (by kernel_rfl!) (by kernel_rfl!) (by kernel_rfl!) (by kernel_rfl!) fun L s₁ hL X W => ?_
  have e1 : (bindL (callEnvC pinitFd L 35).kindOf ((pinitFd.params.args.map (·.arg)).zip [.ref x, .ref tx, .str "values" t6]) fun _ => none) "self" = some (.ref x) := by kernel_rfl!
  have e2 : (bindL (callEnvC pinitFd L 35).kindOf ((pinitFd.params.args.map (·.arg)).zip [.ref x, .ref tx, .str "values" t6]) fun _ => none) "scope" = some (.ref tx) := by kernel_rfl!
  have e3 : (bindL (callEnvC pinitFd L 35).kindOf ((pinitFd.params.args.map (·.arg)).zip [.ref x, .ref tx, .str "values" t6]) fun _ => none) "strength" = some (.str "values" t6) := by kernel_rfl!
  generalize (bindL (callEnvC pinitFd L 35).kindOf ((pinitFd.params.args.map (·.arg)).zip [.ref x, .ref tx, .str "values" t6]) fun _ => none) = m at X e1 e2 e3
  generalize (bindC (callEnvC pinitFd L 35).kindOf ((pinitFd.params.args.map (·.arg)).zip [.ref x, .ref tx, .str "values" t6]) fun _ => none) = kc at X
  refine wpAny_execs_cons (plainObj_wpAny_Assign_Attribute (UnaryOp_ (x_int X fun t1 s2 X => x_neg X fun t2 s3 X => x_local X e1 ?_)) (by with_unfolding_all rfl))
  refine x_setattr X W.loc X.now.1 X.now.2.1 (by kernel_rfl!) (fun _ _ => Nat.le_trans (pl pl0) (by decide)) fun k1 s4 X => ?_
  refine wpAny_execs_cons (plainObj_wpAny_Assign_Attribute (Call_ (x_blt X.now.1 (v := .type "tuple") (by kernel_rfl!) (by kernel_rfl!) (PyProof.Rows.callWith_type1 (args2 (x_local X e2 (args0 (call_tuple_tup X.now.2.2 (x_local X e1 ?_)))))))) (by with_unfolding_all rfl))
  refine x_setattr X W.loc X.now.1 X.now.2.1 (by kernel_rfl!) (fun _ _ => Nat.le_trans (pl (pl pl0)) (by decide)) fun k2 s5 X => ?_
  refine wpAny_execs_cons (plainObj_wpAny_Assign_Attribute (x_local X e3 (x_local X e1 ?_)) (by with_unfolding_all rfl))
  refine x_setattr X W.loc X.now.1 X.now.2.1 (by kernel_rfl!) (fun _ _ => Nat.le_trans (pl (pl (pl pl0))) (by decide)) fun k3 s6 X => ?_
  refine wpAny_execs_nil ?_
  exact h _ _ _ _ _ _ X.ev (X.tx.mus _ List.mem_cons_self).1
end
end Mine
end
section
open PySem PySem.W PyProof.Rows PySem.Calls
set_option maxRecDepth 100000
set_option maxHeartbeats 4000000
namespace Mine
noncomputable def reg' : {o : Obj // ∀ P, (KK P).lookup 162 = some o} := ⟨_, fun P => by with_unfolding_all rfl⟩
theorem reg_cls : ∃ cd, reg'.1.data = .cls cd := ⟨_, by with_unfolding_all rfl⟩
noncomputable def code78' : {o : Obj // ∀ P, (KK P).lookup 78 = some o} := ⟨_, fun P => by with_unfolding_all rfl⟩
theorem code78_vs : ∃ vs tf, code78'.1.data = .fields vs ∧ vs[2]? = some (.str "/claim/cut.py" tf) := ⟨_, _, by with_unfolding_all rfl, by with_unfolding_all rfl⟩
theorem reg_clsIn (P : Params) : ∃ cd, clsIn (KK P) 162 = some cd ∧ alongIn (KK P) "__init__" ((cd.mro.dropWhile (· != .ref 162)).drop 1) = some (some (.ref 35)) := ⟨_, by with_unfolding_all rfl, by kernel_rfl!⟩
section
variable {prog : Program} {w : World} {M : Model} {A : Around} {E : Value → Shared → Prop} {mg mb : Str → Option Value}
variable {wr wr' : List Addr} {g₀ g g' : Fz} {s₀ s s' : Shared} {env env' : Env} {C C' : Heap → Prop} {m k : Str → Option Value} {mu : List (Addr × Obj)}
theorem y_local {x : Str} {pos : Pos} {v : Value} {Q : Value → Shared → Prop} (X : Sx wr g₀ s₀ env C g m k mu s) (hL : env'.locals = env.locals) (hv : m x = some v) (h : Q v s)
    (hk : env'.scope.kind = .function := by kernel_rfl!) (hx : env'.kindOf x = some .local := by kernel_rfl!) (hd : (x == ("__debug__" : Str)) = false := by kernel_rfl!) :
    wpAny M A (eval (.Name x pos) env') Q E s := wpAny_Name (wpAny_loadName_local hk hx (by rw [hL]; exact X.tx.ns) hv h) hd
theorem y_str {i : Str} {n : Nat} {pos : Pos} {Q : Value → Shared → Prop} (X : Sx wr g₀ s₀ env C g m k mu s) (h : ∀ t s', Sx wr g₀ s₀ env C g m k mu s' → Q (.str i t) s') :
    wpAny M A (eval (.Constant (.str i) n pos) env') Q E s := Calls.Constant_str (h _ _ (X.toks _))
theorem x_callM {K : Frag} {q f : Addr} {self : Value} {pos : Pos} {e : Expr} {rest : List Expr} {Q : Value → Shared → Prop} (hf : fnIn K f = true)
    (h : wpAny M A (spliced (backTo pos (starEach (e :: rest) env))) (fun vs s₁ => MethP K q f self s₁.heap ∧ wpAny M A (call (.ref q) vs) Q E s₁) E s)
    (he : starEach (e :: rest) env = (false, eval e env) :: starEach rest env := by rfl) (hplain : (backTo pos (starEach rest env)).any (·.1) = false := by rfl) :
    wpAny M A (callWith pos (.ref q) [] (backTo pos (starEach (e :: rest) env)) []) Q E s := by
  rw [he] at h ⊢
  exact callWith_of (first := []) (by show ((false || (backTo pos (starEach rest env)).any (·.1)) || false) = false; rw [hplain]; rfl) (keeps_M hf) (evalArgs_plain h)
theorem new_spec {n : Nat} (hfile : ((prog.main.file : Str) == Str.ofString "/claim/cut.py") = true) (htop : (prog.main.scope.names.lookup ("super" : Str)).isSome = false) (hA : AOk (n + 4) A) {g : Fz} {s : Shared} {tx ra fa : Addr} {vs : List Value} {S T st : Int} {many : Nat} {t1 t2 t3 : Tok} {Q : Value → Shared → Prop}
    (Sb : Sub g s.heap) (up : ∀ h, Sub g h → Gl (KK w.params) mg mb h ∧ IsTup h tx vs.toArray ∧ RdL h vs (dInts ((List.range many).map fun (i : Nat) => (i : Int)))) (hm : many ≤ 3)
    (h : ∀ x g' s', Ev [] g s g' s' → (∀ h, Sub g' h → RuleAt h x S st (.ref ra) (.ref fa)) → Q (.ref x) s') :
    wpAny (model prog w) A (call (.ref 162) [.ref tx, .int S t1, .int T t2, .ref ra, .int st t3, .ref fa]) Q NE s := by
  obtain ⟨hh, gs, d, t, os⟩ := s
  have G := (up _ Sb).1
  obtain ⟨cd, hcd⟩ := reg_cls
  obtain ⟨cvs, ctf, hcv, hc2⟩ := code78_vs
  obtain ⟨cdI, hcI, hcI2⟩ := reg_clsIn w.params
  have l162 : 162 < hh.objs.size := Heap.lt_size (G.inK _ _ (reg'.2 _))
  refine wpAny_call (make_core (init := .ref 79) (makes_of G.inK (by kernel_rfl!)) (looks_findIn G.inK (by kernel_rfl!)) (fun self => bind_fn G.inK self (by kernel_rfl!)) (.inl rfl) ?_)
  have hA1 := hA.undr (c := 162) (rest := [.ref tx, .int S t1, .int T t2, .ref ra, .int st t3, .ref fa])
  have k1 : ∀ b o, hh.get? b = some o → ((hh.push emptyDict).push (instObj 162 hh.objs.size)).get? b = some o := fun b o e => Heap.get?_push_of_some _ (Heap.get?_push_of_some _ e)
  have G1 := (up _ (Sb.keeps k1)).1
  refine ks_codeAny_call_defAt (fd := rinitFd) (binds := (rinitFd.params.args.map (·.arg)).zip [Value.ref (hh.objs.size + 1), Value.ref tx, Value.int S t1, Value.int T t2, Value.ref ra, Value.int st t3, Value.ref fa]) hA1.room (G1.inK _ _ (rinit_look _)) rfl G1.nolimit (codeRec_of G1.inK (rinit_cd _)) rfl (BindsTo.of_eq (by kernel_rfl!)) (by decide +kernel) ?_ (fun h₀ hns hk => ?_) (by kernel_rfl!) (by kernel_rfl!) (by kernel_rfl!)
  · have q : ((rinitFd.params.args.map (·.arg)).zip [Value.ref (hh.objs.size + 1), Value.ref tx, Value.int S t1, Value.int T t2, Value.ref ra, Value.int st t3, Value.ref fa]).all (fun y => rinitFd.scope.names.lookup y.1 == some .local) = true := by kernel_rfl!
    exact fun y hy => beq_iff_eq.mp (List.all_eq_true.mp q y hy)
  have e1 : (fun (x : Str) => ((rinitFd.params.args.map (·.arg)).zip [Value.ref (hh.objs.size + 1), Value.ref tx, Value.int S t1, Value.int T t2, Value.ref ra, Value.int st t3, Value.ref fa]).reverse.lookup x) "self" = some (.ref (hh.objs.size + 1)) := by kernel_rfl!
  have e2 : (fun (x : Str) => ((rinitFd.params.args.map (·.arg)).zip [Value.ref (hh.objs.size + 1), Value.ref tx, Value.int S t1, Value.int T t2, Value.ref ra, Value.int st t3, Value.ref fa]).reverse.lookup x) "xs" = some (.ref tx) := by kernel_rfl!
  have e3 : (fun (x : Str) => ((rinitFd.params.args.map (·.arg)).zip [Value.ref (hh.objs.size + 1), Value.ref tx, Value.int S t1, Value.int T t2, Value.ref ra, Value.int st t3, Value.ref fa]).reverse.lookup x) "states" = some (.int S t1) := by kernel_rfl!
  have e4 : (fun (x : Str) => ((rinitFd.params.args.map (·.arg)).zip [Value.ref (hh.objs.size + 1), Value.ref tx, Value.int S t1, Value.int T t2, Value.ref ra, Value.int st t3, Value.ref fa]).reverse.lookup x) "letters" = some (.int T t2) := by kernel_rfl!
  have e5 : (fun (x : Str) => ((rinitFd.params.args.map (·.arg)).zip [Value.ref (hh.objs.size + 1), Value.ref tx, Value.int S t1, Value.int T t2, Value.ref ra, Value.int st t3, Value.ref fa]).reverse.lookup x) "rows" = some (.ref ra) := by kernel_rfl!
  have e6 : (fun (x : Str) => ((rinitFd.params.args.map (·.arg)).zip [Value.ref (hh.objs.size + 1), Value.ref tx, Value.int S t1, Value.int T t2, Value.ref ra, Value.int st t3, Value.ref fa]).reverse.lookup x) "start" = some (.int st t3) := by kernel_rfl!
  have e7 : (fun (x : Str) => ((rinitFd.params.args.map (·.arg)).zip [Value.ref (hh.objs.size + 1), Value.ref tx, Value.int S t1, Value.int T t2, Value.ref ra, Value.int st t3, Value.ref fa]).reverse.lookup x) "finals" = some (.ref fa) := by kernel_rfl!
  generalize (fun (x : Str) => ((rinitFd.params.args.map (·.arg)).zip [Value.ref (hh.objs.size + 1), Value.ref tx, Value.int S t1, Value.int T t2, Value.ref ra, Value.int st t3, Value.ref fa]).reverse.lookup x) = m at hns e1 e2 e3 e4 e5 e6 e7
  generalize ((rinitFd.params.args.map (·.arg)).zip [Value.ref (hh.objs.size + 1), Value.ref tx, Value.int S t1, Value.int T t2, Value.ref ra, Value.int st t3, Value.ref fa]).length = tk
  have hsz : ((hh.push emptyDict).push (instObj 162 hh.objs.size)).objs.size = hh.objs.size + 2 := by rw [Heap.size_push, Heap.size_push]
  dsimp only at hns hk ⊢
  rw [hsz] at hns ⊢
  have hx0 : ((hh.push emptyDict).push (instObj 162 hh.objs.size)).get? (hh.objs.size + 1) = some (instObj 162 hh.objs.size) := by
    have := Heap.get?_push_size (hh.push emptyDict) (o := instObj 162 hh.objs.size) rfl
    rwa [Heap.size_push] at this
  have hd0 : ((hh.push emptyDict).push (instObj 162 hh.objs.size)).get? hh.objs.size = some (dictOf [] 0) := Heap.get?_push_of_some _ (Heap.get?_push_size _ rfl)
  have nw : ∀ {a : Addr}, hh.objs.size ≤ a → hh.get? a = none := fun ha => Heap.get?_none_of_le ha
  have k2 : ∀ b o, hh.get? b = some o → h₀.get? b = some o := fun b o e => hk b o (k1 b o e)
  have X : Sx [] g ⟨hh, gs, d, t, os⟩ { (callEnv rinitFd (hh.objs.size + 2) 79) with cells := [] } (fun h => Gl (KK w.params) mg mb h ∧ IsTup h tx vs.toArray ∧ RdL h vs (dInts ((List.range many).map fun (i : Nat) => (i : Int)))) g m (fun _ => none)
      [(hh.objs.size + 1, instObj 162 hh.objs.size), (hh.objs.size, dictOf [] 0)] ⟨h₀, gs, d, t + tk, os⟩ :=
    ⟨Ev.grow (s := ⟨hh, gs, d, t, os⟩) Sb k2, ⟨Sb.keeps k2, up, hns, Sb.none (show hh.objs.size ≤ hh.objs.size + 2 by omega), (fun x c hc => by cases hc), (fun x y c hc => by cases hc), (fun p hp => by
      rcases List.mem_cons.mp hp with rfl | hp
      · exact ⟨hk _ _ hx0, Sb.none (show hh.objs.size ≤ hh.objs.size + 1 by omega), by show hh.objs.size + 1 ≠ hh.objs.size + 2; omega, fun x c hc => by cases hc⟩
      · rw [List.mem_singleton.mp hp]
        exact ⟨hk _ _ hd0, Sb.none (Nat.le_refl _), by show hh.objs.size ≠ hh.objs.size + 2; omega, fun x c hc => by cases hc⟩), by simp⟩, (fun p hp => by
      rcases List.mem_cons.mp hp with rfl | hp
      · exact .inr (nw (by show hh.objs.size ≤ hh.objs.size + 1; omega))
      · rw [List.mem_singleton.mp hp]; exact .inr (nw (Nat.le_refl _)))⟩
  have W : ({ (callEnv rinitFd (hh.objs.size + 2) 79) with cells := [] } : Env).locals ∈ ([] : List Addr) ∨ hh.get? ({ (callEnv rinitFd (hh.objs.size + 2) 79) with cells := [] } : Env).locals = none := .inr (nw (by show hh.objs.size ≤ hh.objs.size + 2; omega))
  obtain ⟨g1, X⟩ := X.freeze1 (nw (by omega))
  have hA2 := hA1.deeper (env := callEnv rinitFd (hh.objs.size + 2) 79)
  -- super().__init__(tuple(xs), "values")
  refine ks_wpAt_execs_cons (ks_wpAt_Expr_any (ks_wpAt_MethodCall ?_ (by rfl)) (by rfl) (by with_unfolding_all rfl))
  refine ks_wpAt_super_base (by kernel_rfl!) (by kernel_rfl!) (by kernel_rfl!) (f := 79) rfl (X.now.1.1.inK _ _ (rinit_look _)) rfl (ar := ⟨"self", none, _⟩) (by with_unfolding_all rfl) (cc := 78) rfl (X.now.1.1.inK _ _ (code78'.2 _)) hcv hc2 hfile htop ?_
  refine ks_loadName_global (by kernel_rfl!) (by kernel_rfl!) (Calls.loadGlobal_builtin X.now.1.1.g (mg_none_of X.now.1.1.inK X.now.1.1.g (by kernel_rfl!)) X.now.1.1.b ((X.now.1.1.blt "super" (by decide)).trans (by kernel_rfl! : bootBuiltins "super" = some (.type "super"))) ⟨rfl, ?_⟩)
  refine wpAny_loadName_free (by kernel_rfl!) (by kernel_rfl!) (c := 67) (by kernel_rfl!) (show Heap.IsCell _ 67 (some (.ref 162)) from ⟨_, X.now.1.1.inK 67 ⟨.type "cell", none, .cell (some (.ref 162)), #[]⟩ (by kernel_rfl!), rfl⟩) ?_ (by kernel_rfl!)
  refine wpAny_loadName_local (by kernel_rfl!) (by kernel_rfl!) X.tx.ns e1 ?_
  have hR := X.now.1.1.inK _ _ (reg'.2 w.params)
  refine ks_wpAny_isType_cls hR hcd ⟨rfl, ?_⟩
  refine ks_wpAny_call_super hR hcd X.now.2 rfl (fun c e => by cases e) (looks_mroIn X.now.1.1.inK (by kernel_rfl!)) (fun h1 e1' k3 => ?_)
  have fso := X.fresh
  have Y := (X.adopt (P := fun _ => True) (Ev.grow (t := t + tk) X.sub k3) (Heap.get?_none_of_le (Nat.le_refl _)) e1' (X.sub.none (Nat.le_refl _)) fun _ _ => trivial)
  obtain ⟨g2, Y⟩ := Y.freeze1 fso
  have G2 : Gl (KK w.params) mg mb h1 := by exact (Y.now).1.1.1.1
  refine ks_wpAny_getMethod_super (l₀ := cdI.mro) Y.now.2 (looks_opaque G2.inK (by kernel_rfl!)) (fun A Q E s k q => wpAny_bind ((looks_clsIn G2.inK hcI) A _ E s k (wpAny_pure q))) rfl G2.inK hcI2 (G2.inK _ _ (pinit_look _)) rfl (show hh.objs.size + 1 ≠ 162 by omega) (by kernel_rfl!) ?_
  obtain ⟨g3, Y⟩ := Y.pushFz { cls := .type "method", data := .fields #[.ref 35, .ref (hh.objs.size + 1)] } (t + tk + 1)
  refine x_callM (K := KK w.params) (f := 35) (self := .ref (hh.objs.size + 1)) (by kernel_rfl!) (args2 (Call_ (x_blt (K := KK w.params) (by exact (Y.now).1.1.1.1.1) (v := .type "tuple") (by kernel_rfl!) (by kernel_rfl!) (PyProof.Rows.callWith_type1 (args2 (y_local Y rfl e2 (args0 (call_tuple_tup (by exact (Y.now).1.1.1.1.2.1) ?_))))))))
  refine args2 (y_str Y fun t9 s9 Y => args0 ⟨⟨Y.now.2, Gl.inK (by exact (Y.now).1.1.1.1.1)⟩, ?_⟩)
  refine wpAny_call (ks_codeAny_call_bound Y.now.2 ?_)
  obtain ⟨hd1, hd2, -⟩ := Y.tx.mus _ List.mem_cons_self
  refine codeAny_mono (pinit_spec (t6 := t9) hA2 (vs := vs) Y.sub (fun h S => ⟨by exact (Y.tx.up h S).1.1.1.1.1, by exact (Y.tx.up h S).1.1.1.2, by exact (Y.tx.up h S).1.1.1.1.2.1⟩) hd1 hd2 (Q := fun v s' => ∃ q1 q2 q3 q5 g', Ev [hh.objs.size] g3 s9 g' s' ∧ s'.heap.get? hh.objs.size = some (dictOf (put1 w.params "strength" q5 (.str "values" t9) (put1 w.params "scope" q3 (.ref tx) (put1 w.params "number" q1 (.int (-1) q2) []))) 3)) (fun q1 q2 q3 q5 g' s' e hD => ⟨q1, q2, q3, q5, g', e, hD⟩)) fun r s' hr => ?_
  rcases r with e | (v | _ | _ | _) <;> first | exact hr.elim | skip
  obtain ⟨q1, q2, q3, q5, g4, e, hD⟩ := hr
  have Y := (Y.call1 (mu₁ := []) (P := fun _ => True) e hD fun _ _ => trivial).weaken (C' := fun h => (Gl (KK w.params) mg mb h ∧ IsTup h tx vs.toArray ∧ RdL h vs (dInts ((List.range many).map fun (i : Nat) => (i : Int)))) ∧ h.get? (hh.objs.size + 1) = some (instObj 162 hh.objs.size)) fun h c => ⟨by exact (c).1.1.1.1.1, by exact (c).1.1.1.1.2⟩
  refine wpAt_of_wpAny ?_
  refine wpAny_execs_cons (plainObj_wpAny_Assign_Attribute (y_local Y rfl e3 (y_local Y rfl e1 ?_)) (by with_unfolding_all rfl))
  refine x_setattr Y W Y.now.1.1 Y.now.2 (by kernel_rfl!) (fun _ _ => Nat.le_trans (pl (pl (pl (pl (pl0))))) (by decide)) fun k4 s4 Y => ?_
  refine wpAny_execs_cons (plainObj_wpAny_Assign_Attribute (y_local Y rfl e4 (y_local Y rfl e1 ?_)) (by with_unfolding_all rfl))
  refine x_setattr Y W Y.now.1.1 Y.now.2 (by kernel_rfl!) (fun _ _ => Nat.le_trans (pl (pl (pl (pl (pl (pl0)))))) (by decide)) fun k5 s5 Y => ?_
  refine wpAny_execs_cons (plainObj_wpAny_Assign_Attribute (y_local Y rfl e5 (y_local Y rfl e1 ?_)) (by with_unfolding_all rfl))
  refine x_setattr Y W Y.now.1.1 Y.now.2 (by kernel_rfl!) (fun _ _ => Nat.le_trans (pl (pl (pl (pl (pl (pl (pl0))))))) (by decide)) fun k6 s6 Y => ?_
  refine wpAny_execs_cons (plainObj_wpAny_Assign_Attribute (y_local Y rfl e6 (y_local Y rfl e1 ?_)) (by with_unfolding_all rfl))
  refine x_setattr Y W Y.now.1.1 Y.now.2 (by kernel_rfl!) (fun _ _ => Nat.le_trans (pl (pl (pl (pl (pl (pl (pl (pl0)))))))) (by decide)) fun k7 s7 Y => ?_
  refine wpAny_execs_cons (plainObj_wpAny_Assign_Attribute (y_local Y rfl e7 (y_local Y rfl e1 ?_)) (by with_unfolding_all rfl))
  refine x_setattr Y W Y.now.1.1 Y.now.2 (by kernel_rfl!) (fun _ _ => Nat.le_trans (pl (pl (pl (pl (pl (pl (pl (pl (pl0))))))))) (by decide)) fun k8 s8 Y => ?_
  refine wpAny_execs_cons (plainObj_wpAny_Assign_Attribute (wpAny_Compare1 (Call_ (x_blt Y.now.1.1 (v := .builtin "len") (by kernel_rfl!) (by kernel_rfl!) (PyProof.Rows.callWith_builtin1 (args2 (Call_ (x_blt Y.now.1.1 (v := .builtin "sorted") (by kernel_rfl!) (by kernel_rfl!) (PyProof.Rows.callWith_builtin1 (args2 (Call_ (x_blt Y.now.1.1 (v := .type "set") (by kernel_rfl!) (by kernel_rfl!) (PyProof.Rows.callWith_type1 (args2 (y_local Y rfl e2 (args0 ?_))))))))))))))) (by with_unfolding_all rfl))
  refine x_set_tuple Y hA2.hh Y.now.1.2.1 Y.now.1.2.2 hm fun S1 s10 fS Y => args0 ?_
  refine x_sorted_set Y W hA2.hh hm (Y.tx.mus _ List.mem_cons_self).1 fun D1 vs1 c1 s11 fD hlen Y => args0 ?_
  refine x_len Y (LstO.isList LstO.lst (Y.tx.mus _ List.mem_cons_self).1) (by omega) fun t11 s12 Y => ?_
  refine Call_ (x_blt Y.now.1.1 (v := .builtin "len") (by kernel_rfl!) (by kernel_rfl!) (PyProof.Rows.callWith_builtin1 (args2 (y_local Y rfl e2 (args0 ?_)))))
  refine x_lenT Y Y.now.1.2.1 (by rw [Y.now.1.2.2.length]; simp [dInts]; omega) fun t12 s13 Y => lt_int ?_
  have Y := Y.drop1.drop1
  refine y_local Y rfl e1 ?_
  refine x_setattr Y W Y.now.1.1 Y.now.2 (by kernel_rfl!) (fun _ _ => Nat.le_trans (pl (pl (pl (pl (pl (pl (pl (pl (pl pl0))))))))) (by decide)) fun k9 s14 Y => ?_
  refine wpAny_execs_nil ⟨rfl, ?_⟩
  obtain ⟨g5, Y⟩ := Y.freeze1 (nw (Nat.le_refl _))
  exact h _ _ _ Y.ev fun h' S' => ⟨hh.objs.size, _, _, t1, t3, (Y.tx.up h' S').1.2, (Y.tx.up h' S').2, by kernel_rfl!, by kernel_rfl!, by kernel_rfl!, by kernel_rfl!, by kernel_rfl!, by kernel_rfl!, by kernel_rfl!, rfl, rfl⟩
end
end Mine
end
section
open PySem PySem.W PyProof.Rows
set_option maxRecDepth 100000
set_option maxHeartbeats 4000000
namespace Mine
noncomputable def law' : {fd : FuncData // IsFn 203 fd} := ⟨_, fun P => by with_unfolding_all rfl⟩
noncomputable def lawFd : FuncData := law'.1
theorem law_look : IsFn 203 lawFd := law'.2
noncomputable def lawBody : List Stmt := match lawFd.body with | .stmts b => b | _ => []
noncomputable def lawEnv (L fa : Addr) (cd : Value) : Env := envOfC lawFd.qualname lawFd.scope L fa cd
theorem lawEnv_cells {L fa : Addr} {cd : Value} : ∀ x ∈ (lawEnv L fa cd).cells, (lawEnv L fa cd).cells.lookup x.1 = some x.2 := fun x hx =>
  lookup_of_mem_nodup (by
    have h : decide ((cellsFrom 0 lawFd.scope.names []).map (·.1)).Nodup = true := by kernel_rfl!
    have := of_decide_eq_true h
    rw [cellsFrom_names lawFd.scope.names 0 (L + 1) [] [] rfl] at this
    exact this) hx
end Mine
end
section
open PySem PySem.W PyProof.Rows
namespace Mine
def Sh (ds : List PyData) (n : Nat) : Prop := PyData.canLayAll0 ds = true ∧ PyData.showableAll ds = true ∧ PyData.hasDictAll ds = false ∧ PyData.intsShortAll 13 ds = true ∧ PyData.weightAll ds ≤ n
theorem int3 {a : Int} (h : 1 ≤ a ∧ a ≤ 3) : a = 1 ∨ a = 2 ∨ a = 3 := by omega
theorem sh_int {a : Int} (h : 1 ≤ a ∧ a ≤ 3) : PyData.showable (.int a) = true ∧ PyData.intsShort 13 (.int a) = true ∧ PyData.weight (.int a) ≤ 2 := by
  rcases int3 h with rfl | rfl | rfl <;> refine ⟨by decide +kernel, by decide +kernel, by decide +kernel⟩
theorem sh_ints : ∀ {l : List Int}, (∀ a ∈ l, 1 ≤ a ∧ a ≤ 3) → Sh (dInts l) (3 * l.length)
  | [], _ => by simp [Sh, dInts, PyData.canLayAll0, PyData.showableAll, PyData.hasDictAll, PyData.intsShortAll, PyData.weightAll]
  | a :: r, h => by
    obtain ⟨h1, h2, h3, h4, h5⟩ := sh_ints (l := r) fun x hx => h x (List.mem_cons_of_mem _ hx)
    obtain ⟨i1, i2, i3⟩ := sh_int (h a List.mem_cons_self)
    unfold dInts at h1 h2 h3 h4 h5
    unfold Sh dInts
    simp only [List.map_cons, PyData.canLayAll0, PyData.showableAll, PyData.hasDictAll, PyData.intsShortAll, PyData.weightAll, PyData.canLay0, PyData.hasDict, h1, h2, h3, h4, i1, i2, Bool.and_self, Bool.or_self, List.length_cons, true_and]
    omega
theorem sh_lists : ∀ {K : List (List Int)}, (∀ l ∈ K, l.length ≤ 3 ∧ ∀ a ∈ l, 1 ≤ a ∧ a ≤ 3) → Sh (K.map fun l => .list (dInts l)) (10 * K.length)
  | [], _ => by simp [Sh, PyData.canLayAll0, PyData.showableAll, PyData.hasDictAll, PyData.intsShortAll, PyData.weightAll]
  | a :: r, h => by
    obtain ⟨h1, h2, h3, h4, h5⟩ := sh_lists (K := r) fun x hx => h x (List.mem_cons_of_mem _ hx)
    obtain ⟨i0, i⟩ := h a List.mem_cons_self
    obtain ⟨i1, i2, i3, i4, i5⟩ := sh_ints i
    unfold Sh
    simp only [List.map_cons, PyData.canLayAll0, PyData.showableAll, PyData.hasDictAll, PyData.intsShortAll, PyData.weightAll, PyData.canLay0, PyData.hasDict, PyData.showable, PyData.intsShort, PyData.weight, h1, h2, h3, h4, i1, i2, i3, i4, Bool.and_self, Bool.or_self, List.length_cons, true_and]
    omega
theorem lists_depth : ∀ {K : List (List Int)}, PyData.depthAll (K.map fun l => .list (dInts l)) ≤ 2
  | [] => by simp [PyData.depthAll]
  | l :: r => by
    have := lists_depth (K := r)
    have q := (lay_ints l).2
    simp only [List.map_cons, PyData.depthAll, PyData.depth]
    omega
theorem kept_show {K : List (List Int)} (h : ∀ l ∈ K, l.length ≤ 3 ∧ ∀ a ∈ l, 1 ≤ a ∧ a ≤ 3) (hn : K.length ≤ 4) :
    (listsD K).showable = true ∧ (listsD K).hasDict = false ∧ (listsD K).depth ≤ 50 ∧ (listsD K).shown.length ≤ sizeLine := by
  obtain ⟨h1, h2, h3, h4, h5⟩ := sh_lists h
  have hd := lists_depth (K := K)
  unfold listsD
  refine ⟨by simp only [PyData.showable]; exact h2, by simp only [PyData.hasDict]; exact h3, by simp only [PyData.depth]; omega, ?_⟩
  refine Nat.le_trans (shown_le13 ?_ (by simp only [PyData.intsShort]; exact h4)) (by rw [sizeLine_eq]; omega)
  unfold PyData.layable0
  have e1 : PyData.depth (.list (K.map fun l => .list (dInts l))) ≤ 64 := by simp only [PyData.depth]; omega
  have e2 : PyData.weight (.list (K.map fun l => .list (dInts l))) ≤ 2 ^ 20 := by
    simp only [PyData.weight]
    exact Nat.le_trans h5 (by omega)
  have e3 : PyData.canLay0 (.list (K.map fun l => .list (dInts l))) = true := by simp only [PyData.canLay0]; exact h1
  rw [e3, decide_eq_true e1, decide_eq_true e2]; rfl
end Mine
end
section
open PySem PySem.W PyProof.Rows
namespace Mine
theorem getD_set {l : List Bool} {n q : Nat} {v : Bool} : (l.set n v).getD q false = if n = q ∧ q < l.length then v else l.getD q false := by
  rw [List.getD_eq_getElem?_getD, List.getElem?_set, List.getD_eq_getElem?_getD]
  by_cases h : n = q
  · subst h
    by_cases h2 : n < l.length
    · simp [h2]
    · simp [h2]
  · simp [h]
theorem ext_getD {a b : List Bool} (hl : a.length = b.length) (h : ∀ q, q < a.length → a.getD q false = b.getD q false) : a = b := by
  refine List.ext_getElem hl fun i h1 h2 => ?_
  have := h i h1
  rwa [List.getD_eq_getElem?_getD, List.getD_eq_getElem?_getD, List.getElem?_eq_getElem h1, List.getElem?_eq_getElem h2, Option.getD_some, Option.getD_some] at this
theorem setRow_at {R : List (List Int)} {p : Int} {q : Nat} : ∀ {letters : List Int} {late : List Bool}, q < late.length → (setRow R p late letters).getD q false = (late.getD q false || letters.any fun a => (cellR R p a).toNat == q)
  | [], late, h => by simp [setRow]
  | a :: r, late, h => by
    have e : setRow R p late (a :: r) = setRow R p (late.set (cellR R p a).toNat true) r := rfl
    rw [e, setRow_at (by rw [List.length_set]; exact h), getD_set, List.any_cons]
    by_cases hc : (cellR R p a).toNat = q
    · simp [hc, h]
    · rw [if_neg (fun h => hc h.1), show ((cellR R p a).toNat == q) = false from by simpa using hc, Bool.false_or]
theorem late_at {R : List (List Int)} {layer : List Bool} {letters : List Int} {q : Nat} : ∀ {is : List Nat} {l : List Bool}, q < l.length →
    (is.foldl (lateStep R layer letters) l).getD q false = (l.getD q false || is.any fun j => layer.getD (j + 1) false && letters.any fun a => (cellR R ((j : Int) + 1) a).toNat == q)
  | [], l, h => by simp
  | j :: r, l, h => by
    rw [List.foldl_cons, late_at (by rw [lateStep_len]; exact h), List.any_cons]
    unfold lateStep
    cases hb : layer.getD (j + 1) false with
    | true => rw [if_pos rfl, setRow_at h, Bool.true_and, Bool.or_assoc]
    | false => rw [if_neg Bool.false_ne_true]; simp
theorem mem_app {A B : List (List Int)} {w : List Int} : w ∈ wordsOf (A ++ B) ↔ ∃ u ∈ wordsOf A, ∃ v ∈ wordsOf B, w = u ++ v := by
  unfold wordsOf
  rw [List.foldl_append, mem_words']
  constructor
  · rintro ⟨u, hu, v, rfl, p⟩; exact ⟨u, hu, v, mem_words.mpr p, rfl⟩
  · rintro ⟨u, hu, v, hv, rfl⟩; exact ⟨u, hu, v, rfl, mem_words.mp hv⟩
theorem mem_one {l w : List Int} : w ∈ wordsOf [l] ↔ ∃ a ∈ l, w = [a] := by
  rw [mem_words]
  constructor
  · intro p
    cases p with | cons h t => cases t; exact ⟨_, h, rfl⟩
  · rintro ⟨a, ha, rfl⟩; exact .cons ha .nil
theorem mem_cons {l : List Int} {ls : List (List Int)} {w : List Int} : w ∈ wordsOf (l :: ls) ↔ ∃ a ∈ l, ∃ v ∈ wordsOf ls, w = a :: v := by
  rw [mem_words]
  constructor
  · intro p
    cases p with | cons h t => exact ⟨_, h, _, mem_words.mpr t, rfl⟩
  · rintro ⟨a, ha, v, hv, rfl⟩; exact .cons ha (mem_words.mp hv)
theorem endR_app {R : List (List Int)} {st : Int} {u v : List Int} : endR R st (u ++ v) = endR R (endR R st u) v := by simp [endR, List.foldl_append]
theorem endR_cons {R : List (List Int)} {st a : Int} {v : List Int} : endR R st (a :: v) = endR R (stepR R st a) v := rfl
theorem endR_zero {R : List (List Int)} : ∀ {v : List Int}, endR R 0 v = 0
  | [] => rfl
  | a :: r => by rw [endR_cons]; have : stepR R 0 a = 0 := by simp [stepR]
                 rw [this]; exact endR_zero
theorem endR_in {S T : Nat} {R : List (List Int)} (M : Mach S T R) : ∀ {v : List Int} {st : Int}, 0 ≤ st → st ≤ S → (∀ a ∈ v, 1 ≤ a ∧ a ≤ T) → 0 ≤ endR R st v ∧ endR R st v ≤ S
  | [], st, h0, h1, _ => ⟨h0, h1⟩
  | a :: r, st, h0, h1, h => by
    rw [endR_cons]
    have ha := h a List.mem_cons_self
    have q := M.step h0 h1 ha.1 ha.2
    exact endR_in M q.1 q.2 fun x hx => h x (List.mem_cons_of_mem _ hx)
theorem letters_in {T : Nat} {ls : List (List Int)} (hk : ∀ l ∈ ls, ∀ a ∈ l, 1 ≤ a ∧ a ≤ (T : Int)) {w : List Int} (hw : w ∈ wordsOf ls) : ∀ a ∈ w, 1 ≤ a ∧ a ≤ (T : Int) := fun a ha => by
  obtain ⟨l, hl, hm⟩ := (mem_words.mp hw).mem a ha
  exact hk l hl a hm
/-- forwards -/
theorem reach_at {S T : Nat} {R kept : List (List Int)} {st : Int} (M : Mach S T R) (h0 : 1 ≤ st) (h1 : st ≤ S) (hk : ∀ l ∈ kept, ∀ a ∈ l, 1 ≤ a ∧ a ≤ T) : ∀ i, i ≤ kept.length → ∀ q : Nat, 1 ≤ q → q ≤ S →
    ((layAt R S st kept i).getD q false = true ↔ ∃ u ∈ wordsOf (kept.take i), endR R st u = (q : Int))
  | 0, _, q, hq1, hq2 => by
    have e : (layAt R S st kept 0).getD q false = ((q : Int) == st) := by
      show (initLayer S st).getD q false = _
      unfold initLayer
      rw [List.getD_eq_getElem?_getD, List.getElem?_map, List.getElem?_range (by omega)]; rfl
    rw [e, beq_iff_eq]
    constructor
    · intro h; exact ⟨[], by simp [wordsOf], h.symm⟩
    · rintro ⟨u, hu, he⟩
      have : u = [] := by simpa [wordsOf] using hu
      subst this
      exact he.symm
  | i + 1, hi, q, hq1, hq2 => by
    have ih := reach_at M h0 h1 hk i (by omega)
    have hl : kept[i]? = some kept[i] := List.getElem?_eq_getElem (by omega)
    have hkt : ∀ l ∈ kept.take i, ∀ a ∈ l, 1 ≤ a ∧ a ≤ (T : Int) := fun l hl => hk l (List.mem_of_mem_take hl)
    have hkl : ∀ a ∈ kept[i], 1 ≤ a ∧ a ≤ (T : Int) := hk _ (List.getElem_mem _)
    have et : kept.take (i + 1) = kept.take i ++ [kept[i]] := by rw [List.take_add_one, hl]; rfl
    rw [layAt_succ hl, et]
    unfold nextLayer
    rw [getD_set, if_neg (by omega)]
    unfold lateOf
    rw [late_at (by simp; omega)]
    have er : (List.replicate (S + 1) false).getD q false = false := by
      rw [List.getD_eq_getElem?_getD, List.getElem?_replicate]; split <;> rfl
    rw [er, Bool.false_or, List.any_eq_true]
    constructor
    · rintro ⟨j, hj, hb⟩
      have hj := List.mem_range.mp hj
      rw [Bool.and_eq_true, List.any_eq_true] at hb
      obtain ⟨hb1, a, ha, hc⟩ := hb
      obtain ⟨u, hu, he⟩ := (ih (j + 1) (by omega) (by omega)).mp hb1
      refine ⟨u ++ [a], mem_app.mpr ⟨u, hu, [a], mem_one.mpr ⟨a, ha, rfl⟩, rfl⟩, ?_⟩
      have hA := hkl a ha
      obtain ⟨_, _, _, c0, c1⟩ := M.at (st := (j : Int) + 1) (a := a) (by omega) (by omega) hA.1 hA.2
      have hc := beq_iff_eq.mp hc
      rw [endR_app, he]
      show stepR R ((j + 1 : Nat) : Int) a = q
      rw [show ((j + 1 : Nat) : Int) = (j : Int) + 1 by omega, stepR, if_pos (by omega)]
      omega
    · rintro ⟨w, hw, he⟩
      obtain ⟨u, hu, v, hv, rfl⟩ := mem_app.mp hw
      obtain ⟨a, ha, rfl⟩ := mem_one.mp hv
      have hin := endR_in M (v := u) (st := st) (by omega) h1 (letters_in hkt hu)
      rw [endR_app] at he
      have he : stepR R (endR R st u) a = q := he
      have hpos : 0 < endR R st u := by
        by_cases hp : 0 < endR R st u
        · exact hp
        · rw [stepR, if_neg hp] at he; omega
      rw [stepR, if_pos hpos] at he
      refine ⟨(endR R st u - 1).toNat, List.mem_range.mpr (by omega), ?_⟩
      rw [Bool.and_eq_true, List.any_eq_true]
      refine ⟨(ih ((endR R st u - 1).toNat + 1) (by omega) (by omega)).mpr ⟨u, hu, by omega⟩, a, ha, ?_⟩
      rw [beq_iff_eq, show (((endR R st u - 1).toNat : Int) + 1) = endR R st u by omega, he]
      omega
theorem lay_zero {S : Nat} {R kept : List (List Int)} {st : Int} (h0 : 1 ≤ st) : ∀ i, i ≤ kept.length → (layAt R S st kept i).getD 0 false = false
  | 0, _ => by
    show (initLayer S st).getD 0 false = _
    unfold initLayer
    rw [List.getD_eq_getElem?_getD, List.getElem?_map, List.getElem?_range (by omega)]
    simp; omega
  | i + 1, hi => by
    rw [layAt_succ (List.getElem?_eq_getElem (by omega))]
    unfold nextLayer
    rw [getD_set]
    split
    · rfl
    · rename_i h
      rw [List.getD_eq_getElem?_getD, List.getElem?_eq_none (by omega)]; rfl
theorem there_at {R kept : List (List Int)} {S : Nat} {st : Int} {i q : Nat} (hq : q < S) : (thereAt R S st kept i).getD (q + 1) false = true ↔ ∃ u ∈ wordsOf (kept.take i), endR R st u = 1 + (q : Int) := by
  unfold thereAt
  rw [List.getD_cons_succ, List.getD_eq_getElem?_getD, List.getElem?_map, List.getElem?_range hq]
  simp only [Option.map_some, Option.getD_some, List.contains_iff_mem, List.mem_map]
theorem reach_plain {S T : Nat} {R kept : List (List Int)} {st : Int} (M : Mach S T R) (h0 : 1 ≤ st) (h1 : st ≤ S) (hk : ∀ l ∈ kept, ∀ a ∈ l, 1 ≤ a ∧ a ≤ T) {i : Nat} (hi : i ≤ kept.length) : layAt R S st kept i = thereAt R S st kept i := by
  refine ext_getD (by rw [layAt_len]; simp [thereAt]) fun q hq => ?_
  rw [layAt_len] at hq
  cases q with
  | zero => rw [lay_zero h0 i hi]; rfl
  | succ q =>
    rw [Bool.eq_iff_iff, reach_at M h0 h1 hk i hi (q + 1) (by omega) (by omega), there_at (by omega)]
    constructor
    · rintro ⟨u, hu, e⟩; exact ⟨u, hu, by omega⟩
    · rintro ⟨u, hu, e⟩; exact ⟨u, hu, by omega⟩
/-- backwards -/
theorem early_at {R : List (List Int)} {S : Nat} {layer : List Bool} {letters : List Int} : ∀ {j q : Nat}, j ≤ S → q ≤ S → (earlyTo R S layer letters j).getD q false = if 1 ≤ q ∧ q ≤ j then earlyAt R layer letters (q - 1) else false
  | 0, q, _, _ => by
    rw [if_neg (by omega)]
    show (List.replicate (S + 1) false).getD q false = false
    rw [List.getD_eq_getElem?_getD, List.getElem?_replicate]; split <;> rfl
  | j + 1, q, hj, hq => by
    rw [earlyTo_succ, getD_set, earlyTo_len, early_at (by omega) hq]
    by_cases h : j + 1 = q
    · subst h
      rw [if_pos ⟨rfl, by omega⟩, if_pos ⟨by omega, by omega⟩]; rfl
    · rw [if_neg (by omega)]
      by_cases h2 : 1 ≤ q ∧ q ≤ j
      · rw [if_pos h2, if_pos ⟨h2.1, by omega⟩]
      · rw [if_neg h2, if_neg (by omega)]
def alv (R : List (List Int)) (S : Nat) (F : List Int) (ls : List (List Int)) : List Bool := ls.foldr (fun l acc => prevLayer R S acc l) (finLayer S F)
theorem alv_len {R : List (List Int)} {S : Nat} {F : List Int} {ls : List (List Int)} : (alv R S F ls).length = S + 1 := by
  cases ls with
  | nil => simp [alv, finLayer]
  | cons l r => exact earlyTo_len
theorem alv_zero {R : List (List Int)} {S : Nat} {F : List Int} {ls : List (List Int)} : (alv R S F ls).getD 0 false = false := by
  cases ls with
  | nil =>
    show (finLayer S F).getD 0 false = false
    unfold finLayer
    rw [getD_set]
    simp
  | cons l r =>
    show (earlyTo R S _ l S).getD 0 false = false
    rw [early_at (Nat.le_refl _) (by omega), if_neg (by omega)]
theorem alv_at {S T : Nat} {R : List (List Int)} {F : List Int} (M : Mach S T R) (hF : ∀ x ∈ F, 1 ≤ x) : ∀ {ls : List (List Int)}, (∀ l ∈ ls, ∀ a ∈ l, 1 ≤ a ∧ a ≤ (T : Int)) → ∀ q : Nat, q ≤ S →
    ((alv R S F ls).getD q false = true ↔ ∃ v ∈ wordsOf ls, F.contains (endR R (q : Int) v) = true)
  | [], _, q, hq => by
    show (finLayer S F).getD q false = true ↔ _
    unfold finLayer
    rw [getD_set]
    constructor
    · intro h
      split at h
      · cases h
      · rw [List.getD_eq_getElem?_getD, List.getElem?_map, List.getElem?_range (by omega)] at h
        exact ⟨[], by simp [wordsOf], h⟩
    · rintro ⟨v, hv, h⟩
      have : v = [] := by simpa [wordsOf] using hv
      subst this
      have hp := hF _ (List.contains_iff_mem.mp h)
      have hp : 1 ≤ (q : Int) := hp
      rw [if_neg (by omega), List.getD_eq_getElem?_getD, List.getElem?_map, List.getElem?_range (by omega)]
      exact h
  | l :: ls, hk, q, hq => by
    have ih := alv_at M hF (ls := ls) fun x hx => hk x (List.mem_cons_of_mem _ hx)
    have hl := hk l List.mem_cons_self
    show (earlyTo R S (alv R S F ls) l S).getD q false = true ↔ _
    rw [early_at (Nat.le_refl _) hq]
    by_cases hq1 : 1 ≤ q
    · rw [if_pos ⟨hq1, hq⟩]
      unfold earlyAt
      rw [List.contains_iff_mem, List.mem_map]
      have eq1 : (((q - 1 : Nat) : Int) + 1) = (q : Int) := by omega
      rw [eq1]
      constructor
      · rintro ⟨a, ha, h⟩
        have hA := hl a ha
        obtain ⟨_, _, _, c0, c1⟩ := M.at (st := (q : Int)) (a := a) (by omega) (by omega) hA.1 hA.2
        obtain ⟨v, hv, hc⟩ := (ih (cellR R q a).toNat (by omega)).mp h
        rw [show ((cellR R q a).toNat : Int) = cellR R q a by omega] at hc
        refine ⟨a :: v, mem_cons.mpr ⟨a, ha, v, hv, rfl⟩, ?_⟩
        rw [endR_cons, stepR, if_pos (by omega)]
        exact hc
      · rintro ⟨w, hw, hc⟩
        obtain ⟨a, ha, v, hv, rfl⟩ := mem_cons.mp hw
        have hA := hl a ha
        obtain ⟨_, _, _, c0, c1⟩ := M.at (st := (q : Int)) (a := a) (by omega) (by omega) hA.1 hA.2
        rw [endR_cons, stepR, if_pos (by omega)] at hc
        refine ⟨a, ha, (ih (cellR R q a).toNat (by omega)).mpr ⟨v, hv, ?_⟩⟩
        rw [show ((cellR R q a).toNat : Int) = cellR R q a by omega]
        exact hc
    · rw [if_neg (by omega)]
      constructor
      · intro h; cases h
      · rintro ⟨w, hw, hc⟩
        have : q = 0 := by omega
        subst this
        have e : endR R ((0 : Nat) : Int) w = 0 := endR_zero
        rw [e] at hc
        have := hF _ (List.contains_iff_mem.mp hc)
        omega
theorem good_at {R kept : List (List Int)} {S : Nat} {F : List Int} {i q : Nat} (hq : q < S) : (goodAt R S F kept i).getD (q + 1) false = true ↔ ∃ v ∈ wordsOf (kept.drop i), F.contains (endR R (1 + (q : Int)) v) = true := by
  unfold goodAt
  rw [List.getD_cons_succ, List.getD_eq_getElem?_getD, List.getElem?_map, List.getElem?_range hq]
  simp only [Option.map_some, Option.getD_some, Bool.not_eq_true', List.isEmpty_eq_false_iff]
  constructor
  · intro h
    obtain ⟨v, hv⟩ := List.exists_mem_of_ne_nil _ h
    obtain ⟨h1, h2⟩ := List.mem_filter.mp hv
    exact ⟨v, h1, h2⟩
  · rintro ⟨v, h1, h2⟩
    exact List.ne_nil_of_mem (List.mem_filter.mpr ⟨h1, h2⟩)
theorem alv_good {S T : Nat} {R kept : List (List Int)} {F : List Int} (M : Mach S T R) (hF : ∀ x ∈ F, 1 ≤ x) (hk : ∀ l ∈ kept, ∀ a ∈ l, 1 ≤ a ∧ a ≤ T) {i : Nat} : alv R S F (kept.drop i) = goodAt R S F kept i := by
  refine ext_getD (by rw [alv_len]; simp [goodAt]) fun q hq => ?_
  rw [alv_len] at hq
  cases q with
  | zero => rw [alv_zero]; rfl
  | succ q =>
    rw [Bool.eq_iff_iff, alv_at M hF (fun l hl => hk l (List.mem_of_mem_drop hl)) (q + 1) (by omega), good_at (by omega)]
    rw [show ((q + 1 : Nat) : Int) = 1 + (q : Int) by omega]
theorem back_alv {S : Nat} {R kept : List (List Int)} {F : List Int} {i : Nat} (hi : i ≤ kept.length) : backAt R S F kept (kept.length - i) = alv R S F (kept.drop i) := by
  unfold backAt alv
  rw [List.take_reverse, show kept.length - (kept.length - i) = i by omega, List.foldl_reverse]
theorem rev_range {α : Type} (f : Nat → α) (n : Nat) : ((List.range (n + 1)).map f).reverse = (List.range (n + 1)).map fun i => f (n - i) := by
  refine List.ext_getElem (by simp) fun i h1 h2 => ?_
  simp only [List.getElem_reverse, List.getElem_map, List.getElem_range, List.length_map, List.length_range]
  congr 1
theorem alive_plain {S T : Nat} {R kept : List (List Int)} {F : List Int} (M : Mach S T R) (hF : ∀ x ∈ F, 1 ≤ x) (hk : ∀ l ∈ kept, ∀ a ∈ l, 1 ≤ a ∧ a ≤ T) : ((List.range (kept.length + 1)).map (backAt R S F kept)).reverse = (List.range (kept.length + 1)).map (goodAt R S F kept) := by
  rw [rev_range]
  refine List.map_congr_left fun i hi => ?_
  have hi := List.mem_range.mp hi
  rw [back_alv (by omega), alv_good M hF hk]
theorem supp_plain {S T : Nat} {R kept : List (List Int)} {F : List Int} {st a : Int} {spot : Nat} (M : Mach S T R) (hF : ∀ x ∈ F, 1 ≤ x) (h0 : 1 ≤ st) (h1 : st ≤ S) (hk : ∀ l ∈ kept, ∀ a ∈ l, 1 ≤ a ∧ a ≤ T) (hs : spot < kept.length) (ha : 1 ≤ a ∧ a ≤ T) :
    (List.range S).any (suppAt R (thereAt R S st kept spot) (goodAt R S F kept (spot + 1)) a) = !((wordsOf (kept.take spot ++ [[a]] ++ kept.drop (spot + 1))).filter fun w => F.contains (endR R st w)).isEmpty := by
  have hkt : ∀ l ∈ kept.take spot, ∀ a ∈ l, 1 ≤ a ∧ a ≤ (T : Int) := fun l hl => hk l (List.mem_of_mem_take hl)
  rw [Bool.eq_iff_iff, List.any_eq_true, Bool.not_eq_true', List.isEmpty_eq_false_iff]
  constructor
  · rintro ⟨j, hj, hb⟩
    have hj := List.mem_range.mp hj
    unfold suppAt at hb
    rw [Bool.and_eq_true] at hb
    obtain ⟨u, hu, he⟩ := (there_at hj).mp hb.1
    obtain ⟨_, _, _, c0, c1⟩ := M.at (st := (j : Int) + 1) (a := a) (by omega) (by omega) ha.1 ha.2
    have hb2 := hb.2
    rw [← alv_good M hF hk] at hb2
    obtain ⟨v, hv, hc⟩ := (alv_at M hF (fun l hl => hk l (List.mem_of_mem_drop hl)) (cellR R ((j : Int) + 1) a).toNat (by omega)).mp hb2
    rw [show ((cellR R ((j : Int) + 1) a).toNat : Int) = cellR R ((j : Int) + 1) a by omega] at hc
    refine List.ne_nil_of_mem (List.mem_filter.mpr ⟨mem_app.mpr ⟨u ++ [a], mem_app.mpr ⟨u, hu, [a], mem_one.mpr ⟨a, List.mem_singleton.mpr rfl, rfl⟩, rfl⟩, v, hv, rfl⟩, ?_⟩)
    rw [endR_app, endR_snoc, he, stepR, if_pos (by omega), show 1 + (j : Int) = (j : Int) + 1 by omega]
    exact hc
  · intro h
    obtain ⟨w, hw⟩ := List.exists_mem_of_ne_nil _ h
    obtain ⟨hw1, hw2⟩ := List.mem_filter.mp hw
    obtain ⟨x, hx, v, hv, rfl⟩ := mem_app.mp hw1
    obtain ⟨u, hu, y, hy, rfl⟩ := mem_app.mp hx
    obtain ⟨b, hb, rfl⟩ := mem_one.mp hy
    obtain rfl := List.mem_singleton.mp hb
    have hin := endR_in M (v := u) (st := st) (by omega) h1 (letters_in hkt hu)
    rw [endR_app, endR_snoc] at hw2
    have hpos : 0 < endR R st u := by
      by_cases hp : 0 < endR R st u
      · exact hp
      · rw [stepR, if_neg hp, endR_zero] at hw2
        have := hF _ (List.contains_iff_mem.mp hw2)
        omega
    rw [stepR, if_pos hpos] at hw2
    obtain ⟨_, _, _, c0, c1⟩ := M.at (st := endR R st u) (a := b) (by omega) hin.2 ha.1 ha.2
    refine ⟨(endR R st u - 1).toNat, List.mem_range.mpr (by omega), ?_⟩
    unfold suppAt
    rw [Bool.and_eq_true]
    refine ⟨(there_at (by omega)).mpr ⟨u, hu, by omega⟩, ?_⟩
    rw [← alv_good M hF hk]
    rw [show (((endR R st u - 1).toNat : Int) + 1) = endR R st u by omega]
    refine (alv_at M hF (fun l hl => hk l (List.mem_of_mem_drop hl)) (cellR R (endR R st u) b).toNat (by omega)).mpr ⟨v, hv, ?_⟩
    rw [show ((cellR R (endR R st u) b).toNat : Int) = cellR R (endR R st u) b by omega]
    exact hw2
end Mine
end
section
open PySem PySem.W PyProof.Rows
set_option maxRecDepth 100000
set_option maxHeartbeats 4000000
namespace Mine
section
variable {prog : Program} {w : World} {M : Model} {A : Around} {E : Value → Shared → Prop} {mg mb : Str → Option Value}
variable {wr wr' : List Addr} {g₀ g g' : Fz} {s₀ s s' : Shared} {env env' : Env} {C C' : Heap → Prop} {m k : Str → Option Value} {mu : List (Addr × Obj)}
theorem x_method {x f : Addr} {S st : Int} {vR vF : Value} {name : Str} {pl : Sem Bool} {Q : Value × List Value → Shared → Prop} (G : Gl (KK w.params) mg mb s.heap) (r : RuleAt s.heap x S st vR vF)
    (hn : ∀ es : List DictEntry, getL "reached_of" es = some none → getL "alive_of" es = some none → getL "has_support" es = some none → getL name es = some none)
    (h : Q (.ref f, [.ref x]) s) (hg : plainGet (KK w.params) 162 name = true := by kernel_rfl!) (hf : findIn (KK w.params) (.ref 162) name = some (some (.ref f)) := by kernel_rfl!) (ht : isFn (KK w.params) (.ref f) = true := by kernel_rfl!) :
    wpAny (model prog w) A (getMethod (.ref x) name pl) Q E s := by
  obtain ⟨dx, es, n, t1, t2, h1, h2, a1, a2, a3, a4, b1, b2, b3, c1, c2⟩ := r
  exact method_fn (od := some (dictOf es n)) G.inK ⟨h1, rfl, rfl, h2⟩ (plainGet_of hg).1 (plainGet_of hg).2 hf (beq_iff_eq.mp ht) (by show (lookIn name (dictOf es n)).map _ = _; rw [lookIn_dict, hn es b1 b2 b3]; rfl) h
theorem law_walk {n : Nat} (hfile : ((prog.main.file : Str) == Str.ofString "/claim/cut.py") = true) (htop : (prog.main.scope.names.lookup ("super" : Str)).isSome = false) (hA : AOk (n + 8) A) {L fa : Addr} {cd vS : Value} {script : List Int} {Q : Flow → Shared → Prop}
    (X : Sx [] g s₀ (lawEnv L fa cd) C g m k [] s) (W : Fw [] s₀ (lawEnv L fa cd)) (hC : ∀ h, C h → Gl (KK w.params) mg mb h ∧ Rd h vS (.list (dInts script))) (e1 : m "script" = some vS) (hl : script.length ≤ 63)
    (h : ∀ g' s', Ev [] g s₀ g' s' → Q (.ret (.bool true)) s') : wpAny (model prog w) A (execs lawBody (lawEnv L fa cd)) Q NE s := by
  have X := X.weaken hC
  -- src = _law_src(script)
  refine wpAny_execs_cons (wpAny_Assign_Name (Call_ (x_glob (by exact (X.now).1) (v := .ref 176) (by kernel_rfl!) (callWith_K (Gl.inK (by exact (X.now).1)) (by kernel_rfl!) (args2 (x_local X e1 (args0 ?_)))))))
  refine ⟨(Gl.inK (by exact (X.now).1)), src_spec (n := n) (by exact ⟨hA.hh, by have := hA.dep; omega, by have := hA.un; omega, hA.gu⟩) X.sub (fun h S => X.tx.up h S) hl fun D cl o g1 s1 e hn hD gD ho hcl => ?_⟩
  have fD : s₀.heap.get? D = none := by
    cases e0 : s₀.heap.get? D with
    | none => rfl
    | some o' => obtain ⟨o'', h''⟩ := X.ev.alive _ o' e0; rw [hn] at h''; cases h''
  have X := X.adopt e hn hD gD hcl
  refine st_cell X W fun s2 X => ?_
  -- machine = _law_machine(src)
  refine wpAny_execs_cons (wpAny_Assign_Name (Call_ (x_glob (by exact (X.now).1.1) (v := .ref 193) (by kernel_rfl!) (callWith_K (Gl.inK (by exact (X.now).1.1)) (by kernel_rfl!) (args2 (x_cell X us (args0 ?_)))))))
  obtain ⟨hD1, hD2, -⟩ := X.tx.mus _ List.mem_cons_self
  refine ⟨(Gl.inK (by exact (X.now).1.1)), machine_spec (n := n + 6) hA X.sub (fun h S => ⟨(by exact (X.tx.up h S).1.1), (by exact (X.tx.up h S).2)⟩) hD1 hD2 ho (by omega) fun S T R st F am t1 t2 t3 ra fa' o1 kk g2 s3 MM st1 st2 hF1 hkk e hD' ho1 hM => ?_⟩
  have X := X.call1 (mu₁ := []) e hD' hM
  refine st_local X W fun s4 X => ?_
  have hS := MM.hS
  have hT := MM.hT
  -- states, letters, rows, start, finals = machine
  refine wpAny_execs_cons (Assign_Tuple (x_local X us (x_assign_tuple X hA.hh (by exact (X.now).2.1) rfl rfl fun s2 X => in_order (st_local X W fun s3 X => in_order (st_cell X W fun s4 X => in_order (st_cell X W fun s5 X => in_order (st_cell X W fun s6 X => in_order (st_cell X W fun s7 X => in_order0 ?_)))))))
    (by with_unfolding_all rfl) (by with_unfolding_all rfl))
  -- many = _law_draw(src, 4)
  have hA1 : AOk (n + 1) A := ⟨hA.hh, by have := hA.dep; omega, by have := hA.un; omega, hA.gu⟩
  have hA2 : AOk (n + 2) A := ⟨hA.hh, by have := hA.dep; omega, by have := hA.un; omega, hA.gu⟩
  have hA4 : AOk (n + 4) A := ⟨hA.hh, by have := hA.dep; omega, by have := hA.un; omega, hA.gu⟩
  have hdC : ∀ h, (((Gl (KK w.params) mg mb h ∧ Rd h vS (.list (dInts script))) ∧ CellsAt h cl (cellsOf script)) ∧ IsTup h am (List.toArray [.int S t1, .int T t2, .ref ra, .int st t3, .ref fa']) ∧ Rd h (.ref ra) (rowsD R) ∧ Rd h (.ref fa') (.tuple (dInts F))) → Gl (KK w.params) mg mb h ∧ CellsAt h cl (cellsOf script) := fun h c => ⟨c.1.1.1, c.1.2⟩
  refine wpAny_execs_cons (wpAny_Assign_Name (Call_ (x_glob (by exact (X.now).1.1.1) (v := .ref 171) (by kernel_rfl!) (callWith_K (Gl.inK (by exact (X.now).1.1.1)) (by kernel_rfl!) (args2 (x_cell X (ug (ug (ug (ug us)))) (args2 (x_int X fun t4 s8 X => args0 ?_))))))))
  refine ⟨(Gl.inK (by exact (X.now).1.1.1)), x_draw (mu₁ := []) hA1 X ho1 hdC (by decide) (by omega) fun r t5 o2 g3 s9 r0 r1 ho2 X => ?_⟩
  obtain ⟨many, rfl⟩ : ∃ many : Nat, r = many := ⟨r.toNat, by omega⟩
  refine st_local X W fun s10 X => ?_
  -- kept
  refine wpAny_execs_cons (x_assign_comp (cl := [(Str.ofString "src", L + 1), (Str.ofString "letters", L + 2)]) (by with_unfolding_all rfl) (by with_unfolding_all rfl)
    (Call_ (x_blt (by exact (X.now).1.1.1) (v := .type "range") (by kernel_rfl!) (by kernel_rfl!) (PyProof.Rows.callWith_type1 (args2 (x_local X us (args0 ?_)))))))
  refine x_range1 (n := many) X fun r g1 s6 X => ?_
  refine x_iter_rng (n := many) X hA.hh X.now.2 (by omega) fun I oI s7 it p0 hI X => ?_
  refine comp_run (fun i ys mu₁ h => (∃ k3 o, k3 ≤ kk + 1 + 3 * i ∧ srcO prog w cl k3 o ∧ mu₁ = [(D, o)]) ∧ ∃ K₀ : List (List Int), K₀.length = i ∧ (∀ l ∈ K₀, l.length ≤ 3 ∧ ∀ a ∈ l, 1 ≤ a ∧ a ≤ (T : Int)) ∧ RdL h ys (K₀.map fun r => .list (dInts r)))
    X hI it p0 (fun _ _ => trivial) (.cons (by kernel_rfl!) (.cons (by kernel_rfl!) .nil)) (fun h c => ⟨⟨_, _, by omega, ho2, rfl⟩, [], rfl, (fun _ h => nomatch h), .nil⟩) (by omega) ?_ ?_
  · rintro i v ys mu₁ g₂ s₂ L₁ m₂ hi - ⟨tv, rfl⟩ hmu em Y
    obtain ⟨k3, o3, hk3, ho3, rfl⟩ := Y.now.2.1
    refine wpAny_tests_nil ?_
    rw [if_pos rfl]
    refine x_comp (cl := [(Str.ofString "src", L + 1)]) (by with_unfolding_all rfl)
      (Call_ (x_blt (K := KK w.params) (by exact (Y.now).1.1.1.1.1) (v := .type "range") (by kernel_rfl!) (by kernel_rfl!) (PyProof.Rows.callWith_type1 (args2 (x_int Y fun t6 s8 Y => args2 (wpAny_BinOp (x_cell Y (ug (ug (ug us))) (x_int Y fun t7 s9 Y => x_add Y fun t8 s10 Y => args0 ?_))))))))
    refine x_range2 Y fun r g1 s6 Y => ?_
    refine x_iter_rng (n := T) Y hA.hh Y.now.2 (by omega) fun I2 oI2 s7 it2 p2 hI2 Y => ?_
    refine comp_run (fun j ys mu₁ h => (∃ k4 o, k4 ≤ k3 + j ∧ srcO prog w cl k4 o ∧ mu₁ = [(D, o)]) ∧ ∃ l₀ : List Int, l₀.length ≤ j ∧ (∀ x ∈ l₀, 1 ≤ x ∧ x ≤ (T : Int)) ∧ RdL h ys (dInts l₀))
      Y hI2 it2 p2 (fun _ _ => trivial) (.cons (by kernel_rfl!) .nil) (fun h c => ⟨⟨_, _, by omega, ho3, rfl⟩, [], Nat.le_refl _, (fun _ h => nomatch h), .nil⟩) (by omega) ?_ ?_
    · rintro j v ys2 mu₁ g₃ s₃ L₂ m₃ hj - ⟨tv2, rfl⟩ hmu2 em2 Z
      obtain ⟨k4, o4, hk4, ho4, rfl⟩ := Z.now.2.1
      refine wpAny_tests_one (wpAny_isTrue_Compare1 (Call_ (x_glob (v := .ref 171) (K := KK w.params) (by exact (Z.now).1.1.1.1.1.1.1) (by kernel_rfl!) (callWith_K (K := KK w.params) (Gl.inK (by exact (Z.now).1.1.1.1.1.1.1)) (by kernel_rfl!) (args2 (x_cell Z (ug (ug (ug (ug us)))) (args2 (x_int Z fun t7 s8 Z => args0 ?_))))))))
      refine ⟨Gl.inK (by exact (Z.now).1.1.1.1.1.1.1), x_draw (mu₁ := []) hA1 Z ho4 (fun h c => hdC h (by exact (c).1.1.1.1)) (by decide) (by omega) fun r5 t9 o6 g4 s10 d0 d1 ho6 Z => ?_⟩
      refine x_int Z fun t10 s11 Z => lt_int (wpAny_truthy_bool ?_)
      split
      · refine x_local Z em2 ⟨_, _, Z.weaken fun h c => ⟨c.1, ⟨⟨_, _, by omega, ho6, rfl⟩, ?_⟩⟩, rfl⟩
        obtain ⟨-, l₀, h1, h2, h3⟩ := c.2
        refine ⟨l₀ ++ [1 + (j : Int)], by simp; omega, fun x hx => ?_, ?_⟩
        · rcases List.mem_append.mp hx with hx | hx
          · exact h2 x hx
          · rw [List.mem_singleton.mp hx]; omega
        · unfold dInts
          rw [List.map_append]
          exact h3.append (.cons .int .nil)
      · refine ⟨_, _, Z.weaken fun h c => ⟨c.1, ⟨⟨_, _, by omega, ho6, rfl⟩, ?_⟩⟩, rfl⟩
        obtain ⟨-, l₀, h1, h2, h3⟩ := c.2
        exact ⟨l₀, by omega, h2, h3⟩
    · intro D2 nn ys2 mu' g' s' L₂ oL mL fD fL hys hmu hns Z
      obtain ⟨⟨k4, o4, hk4, ho4, rfl⟩, -⟩ := Z.now.2
      refine comp_end Z fL hns fun s8 Z => ?_
      obtain ⟨g5, Z⟩ := Z.freeze1 fD
      refine ⟨_, _, Z.weaken fun h c => ⟨?_, ⟨⟨_, _, by omega, ho4, rfl⟩, ?_⟩⟩, rfl⟩
      · exact c.1.1.1.1
      · obtain ⟨K₀, h1, h2, h3⟩ := c.1.1.1.2.2
        obtain ⟨-, l₀, i1, i2, i3⟩ := c.1.2
        refine ⟨K₀ ++ [l₀], by simp [h1], fun x hx => ?_, ?_⟩
        · rcases List.mem_append.mp hx with hx | hx
          · exact h2 x hx
          · rw [List.mem_singleton.mp hx]; exact ⟨by omega, i2⟩
        · rw [List.map_append]
          exact h3.append (.cons (LstO.rd LstO.lst c.2 i3) .nil)
  · intro D3 nn ys mu' g' s' L₁ oL mL fD3 fL hys hmu hns Y
    obtain ⟨⟨k3, o3, hk3, ho3, rfl⟩, -⟩ := Y.now.2
    refine comp_end_assign Y W fL hns fun s8 X => ?_
    obtain ⟨g5, X⟩ := X.freeze1 fD3
    obtain ⟨kept, X⟩ := X.pin (F := fun (K₀ : List (List Int)) h => K₀.length = many ∧ (∀ l ∈ K₀, l.length ≤ 3 ∧ ∀ a ∈ l, 1 ≤ a ∧ a ≤ (T : Int)) ∧ RdL h ys (K₀.map fun r => .list (dInts r))) (fun h c => c.1.2.2) fun x h h' y hk => ⟨y.1, y.2.1, Rd.keepsL hk y.2.2⟩
    have hkl := X.now.2.1
    have hkk3 := X.now.2.2.1
    have X := X.drop1
    have X := X.weaken (C' := fun h => Gl (KK w.params) mg mb h ∧ IsTup h am (List.toArray [.int S t1, .int T t2, .ref ra, .int st t3, .ref fa']) ∧ Rd h (.ref ra) (rowsD R) ∧ Rd h (.ref fa') (.tuple (dInts F)) ∧ Rd h (.ref D3) (listsD kept)) fun h c => ⟨by exact (c).1.1.1.1.1.1.1, by exact (c).1.1.1.1.2.1, by exact (c).1.1.1.1.2.2.1, by exact (c).1.1.1.1.2.2.2, LstO.rd LstO.lst c.1.2 c.2.2.2⟩
    obtain ⟨C4, hC4, X⟩ := X.opq
    -- before = repr(kept)
    obtain ⟨sh1, sh2, sh3, sh4⟩ := kept_show (K := kept) (fun l hl => ⟨(hkk3 l hl).1, fun a ha => by have := (hkk3 l hl).2 a ha; omega⟩) (by omega)
    have hk : ∀ l ∈ kept, ∀ a ∈ l, 1 ≤ a ∧ a ≤ (T : Int) := fun l hl => (hkk3 l hl).2
    have hk3 : ∀ l ∈ kept, l.length ≤ 3 := fun l hl => (hkk3 l hl).1
    refine wpAny_execs_cons (wpAny_Assign_Name (Call_ (x_blt (by exact (hC4 _ ((X.now))).1) (v := .builtin "repr") (by kernel_rfl!) (by kernel_rfl!) (PyProof.Rows.callWith_builtin1 (args2 (x_local X us (args0 ?_)))))))
    refine x_repr hA1 X (by exact (hC4 _ ((X.now))).2.2.2.2) sh1 sh2 sh3 sh4 fun ub s9 X => st_local X W fun s10 X => ?_
    -- rule = Regular(...)
    refine wpAny_execs_cons (wpAny_Assign_Name (Call_ (x_glob (by exact (hC4 _ ((X.now))).1) (v := .ref 162) (by kernel_rfl!) (callWith_K (Gl.inK (by exact (hC4 _ ((X.now))).1)) (by kernel_rfl!) (args2 (Call_ (x_blt (by exact (hC4 _ ((X.now))).1) (v := .type "tuple") (by kernel_rfl!) (by kernel_rfl!) (PyProof.Rows.callWith_type1 (args2 (Call_ (x_blt (by exact (hC4 _ ((X.now))).1) (v := .type "range") (by kernel_rfl!) (by kernel_rfl!) (PyProof.Rows.callWith_type1 (args2 (x_local X (ug (ug us)) (args0 ?_)))))))))))))))
    refine x_range1 (n := many) X fun r g1 s6 X => args0 ?_
    obtain ⟨q1, q2, q3, hr⟩ := X.now.2
    refine x_tuple_range X hA.hh hr (by omega) fun tx vs g7 s8 X => ?_
    refine args2 (x_local X (ug (ug (ug us))) (args2 (x_cell X (ug (ug (ug us))) (args2 (x_cell X (ug (ug us)) (args2 (x_cell X (ug us) (args2 (x_cell X us (args0 ?_))))))))))
    refine ⟨Gl.inK (by exact (hC4 _ ((X.now).1.1)).1), new_spec (n := n) hfile htop hA4 X.sub (fun h S => ⟨by exact (hC4 _ ((X.tx.up h S).1.1)).1, by exact (X.tx.up h S).2.1, by exact (X.tx.up h S).2.2⟩) (by omega) fun x g8 s9 e hru => ?_⟩
    have X := X.call e hru
    refine st_local X W fun s10 X => ?_
    have X := X.weaken (C' := fun h => (Gl (KK w.params) mg mb h ∧ IsTup h am (List.toArray [.int S t1, .int T t2, .ref ra, .int st t3, .ref fa']) ∧ Rd h (.ref ra) (rowsD R) ∧ Rd h (.ref fa') (.tuple (dInts F)) ∧ Rd h (.ref D3) (listsD kept)) ∧ RuleAt h x S st (.ref ra) (.ref fa')) fun h c => ⟨by exact (hC4 _ ((c).1.1.1)), c.2⟩
    -- reached, alive = ...
    have tR : (List.range (kept.length + 1)).map (layAt R S st kept) = (List.range (kept.length + 1)).map (thereAt R S st kept) := List.map_congr_left fun i hi => reach_plain MM st1 st2 hk (by have := List.mem_range.mp hi; omega)
    have tA := alive_plain (F := F) MM hF1 hk
    refine wpAny_execs_cons (Assign_Tuple_swapped (Tuple_ (args2 (MethodCall_ (x_local X us (x_method (f := 98) (by exact (X.now).1.1) (by exact (X.now).2) (fun es a b c => a) (callWith_K (Gl.inK (by exact (X.now).1.1)) (by kernel_rfl!) (args2 (x_local X (ug (ug us)) (args0 ?_))))))))) (by with_unfolding_all rfl) (by with_unfolding_all rfl))
    refine ⟨(Gl.inK (by exact (X.now).1.1)), reach_spec (n := n) (R := R) (kept := kept) hA1 X.sub (fun h S => ⟨(by exact (X.tx.up h S).1.1), (by exact (X.tx.up h S).2), (by exact (X.tx.up h S).1.2.2.1), (by exact (X.tx.up h S).1.2.2.2.2)⟩) MM hk (by omega) fun vre g9 s11 e hre => ?_⟩
    rw [tR] at hre
    have X := X.call e hre
    refine args2 (MethodCall_ (x_local X us (x_method (f := 103) (by exact (X.now).1.1.1) (by exact (X.now).1.2) (fun es a b c => b) (callWith_K (Gl.inK (by exact (X.now).1.1.1)) (by kernel_rfl!) (args2 (x_local X (ug (ug us)) (args0 ?_)))))))
    refine ⟨(Gl.inK (by exact (X.now).1.1.1)), alive_spec (n := n) (R := R) (kept := kept) (F := F) hA1 X.sub (fun h S => ⟨(by exact (X.tx.up h S).1.1.1), (by exact (X.tx.up h S).1.2), (by exact (X.tx.up h S).1.1.2.2.1), (by exact (X.tx.up h S).1.1.2.2.2.1), (by exact (X.tx.up h S).1.1.2.2.2.2)⟩) MM hk (fun l hl => by have := hk3 l hl; omega) (by omega) fun val g10 s12 e hal => args0 ?_⟩
    rw [tA] at hal
    have X := X.call e hal
    refine x_tupleI X (by simp [sizeLine_eq]) fun ta g11 s13 X => ?_
    refine x_unpack X hA.hh (by exact (X.now).2) rfl fun s14 X => ?_
    refine assignInOrder_cons (bindName_ (st_local X W fun s15 X => assignInOrder_cons (bindName_ (st_local X W fun s16 X => assignInOrder_nil ?_))))
    have X := X.weaken (C' := fun h => (Gl (KK w.params) mg mb h ∧ IsTup h am (List.toArray [.int S t1, .int T t2, .ref ra, .int st t3, .ref fa']) ∧ Rd h (.ref ra) (rowsD R) ∧ Rd h (.ref fa') (.tuple (dInts F)) ∧ Rd h (.ref D3) (listsD kept)) ∧ RuleAt h x S st (.ref ra) (.ref fa') ∧ Rd h vre (tabD ((List.range (kept.length + 1)).map (thereAt R S st kept))) ∧ Rd h val (tabD ((List.range (kept.length + 1)).map (goodAt R S F kept)))) fun h c => ⟨by exact (c).1.1.1.1, by exact (c).1.1.1.2, by exact (c).1.1.2, by exact (c).1.2⟩
    -- if repr(kept) != before or not _law_layers_right(...)
    refine wpAny_execs_cons (wpAny_If (isTrue_or (wpAny_isTrue_Compare1 (Call_ (x_blt (by exact (X.now).1.1) (v := .builtin "repr") (by kernel_rfl!) (by kernel_rfl!) (PyProof.Rows.callWith_builtin1 (args2 (x_local X (ug (ug (ug (ug us)))) (args0 ?_)))))))))
    refine x_repr hA1 X (by exact (X.now).1.2.2.2.2) sh1 sh2 sh3 sh4 fun ub2 s17 X => x_local X (ug (ug (ug us))) (ne_str (wpAny_truthy_bool ?_))
    rw [show ((PyData.list (kept.map fun l => .list (dInts l))).shown != (PyData.list (kept.map fun l => .list (dInts l))).shown) = false by simp]
    refine isTrue_or (isTrue_not (isTrue_plain (Call_ (x_glob (by exact (X.now).1.1) (v := .ref 198) (by kernel_rfl!) (callWith_K (Gl.inK (by exact (X.now).1.1)) (by kernel_rfl!) (args2 (x_local X (ug (ug (ug (ug (ug (ug (ug us))))))) (args2 (x_local X (ug (ug (ug (ug us)))) (args2 (x_local X us (args2 (x_local X (ug us) (args0 ?_))))))))))))))
    refine ⟨(Gl.inK (by exact (X.now).1.1)), layers_spec (n := n) (R := R) (kept := kept) (F := F) hA2 X.sub (fun h S => ⟨(by exact (X.tx.up h S).1.1), (by exact (X.tx.up h S).1.2.1), (by exact (X.tx.up h S).1.2.2.1), (by exact (X.tx.up h S).1.2.2.2.1), (by exact (X.tx.up h S).1.2.2.2.2), (by exact (X.tx.up h S).2.2.1), (by exact (X.tx.up h S).2.2.2)⟩) MM (by omega) (by omega) hk hk3 (by omega) fun g12 s18 e => ?_⟩
    have X := X.keep e
    refine wpAny_truthy_bool ?_
    refine isTrue_or_nil (wpAny_execs_nil ?_)
    -- for spot in range(many)
    refine wpAny_execs_cons (wpAny_For (Call_ (x_blt (by exact (X.now).1.1) (v := .type "range") (by kernel_rfl!) (by kernel_rfl!) (PyProof.Rows.callWith_type1 (args2 (x_local X (ug (ug (ug (ug (ug us))))) (args0 ?_)))))))
    refine x_range1 (n := many) X fun r g1 s6 X => ?_
    refine x_iter_rng (n := many) X hA.hh X.now.2 (by omega) fun I oI s7 it p0 hI X => ?_
    refine x_loop (F₀ := fun _ => True) (fun i m₁ k₁ mu₁ F₁ => m₁ "kept" = some (.ref D3) ∧ m₁ "rule" = some (.ref x) ∧ m₁ "reached" = some vre ∧ m₁ "alive" = some val ∧ k₁ "letters" = some (.int T t2) ∧ k₁ "rows" = some (.ref ra) ∧ k₁ "start" = some (.int st t3) ∧ k₁ "finals" = some (.ref fa'))
      (fun v _ _ _ _ => False) X hI W it p0 (fun _ _ => trivial) (fun _ _ => trivial) ⟨ug (ug (ug (ug us))), ug (ug us), us, ug us, ug (ug (ug us)), ug (ug us), ug us, us⟩ lawEnv_cells ?_ ?_ ?_
    · rintro i v m₁ k₁ mu₁ F₁ g₁ s₁ hi ⟨tv, rfl⟩ ⟨ek, eru, er, ea, cl, cr, cs, cf⟩ hmu X
      obtain rfl : mu₁ = [] := List.map_eq_nil_iff.mp hmu
      have W := fw_loop (s := s₁) (env := lawEnv L fa cd) (adr := [])
      obtain ⟨C1, hC1, X⟩ := X.opq
      rw [show (0 : Int) + (i : Int) = (i : Int) by omega]
      refine wpAny_assign_Name (st_local X W fun s3 X => opq fun Qt hQt => ?_)
      refine wpAny_execs_cons (wpAny_For (Call_ (x_blt (K := KK w.params) (by exact (hC1 _ ((X.now))).1.1.1.1) (v := .type "range") (by kernel_rfl!) (by kernel_rfl!) (PyProof.Rows.callWith_type1 (args2 (x_int X fun t6 s8 X => args2 (wpAny_BinOp (x_cell X cl (x_int X fun t7 s9 X => x_add X fun t8 s10 X => args0 ?_)))))))))
      refine x_range2 X fun r g1 s6 X => ?_
      refine x_iter_rng (n := T) X hA.hh X.now.2 (by omega) fun I2 oI2 s7 it2 p2 hI2 X => ?_
      refine x_loop (F₀ := fun _ => True) (fun j m₂ k₂ mu₂ F₂ => m₂ "spot" = some (.int i tv) ∧ m₂ "kept" = some (.ref D3) ∧ m₂ "rule" = some (.ref x) ∧ m₂ "reached" = some vre ∧ m₂ "alive" = some val ∧ k₂ "letters" = some (.int T t2) ∧ k₂ "rows" = some (.ref ra) ∧ k₂ "start" = some (.int st t3) ∧ k₂ "finals" = some (.ref fa'))
        (fun v _ _ _ _ => False) X hI2 W it2 p2 (fun _ _ => trivial) (fun _ _ => trivial) ⟨us, ug ek, ug eru, ug er, ug ea, cl, cr, cs, cf⟩ lawEnv_cells ?_ ?_ ?_
      · rintro j v m₂ k₂ mu₂ F₂ g₂ s₂ hj ⟨ta, rfl⟩ ⟨esp, ek, eru, er, ea, cl, cr, cs, cf⟩ hmu X
        obtain rfl : mu₂ = [] := List.map_eq_nil_iff.mp hmu
        have W := fw_loop (s := s₂) (env := lawEnv L fa cd) (adr := [])
        obtain ⟨C2, hC2, X⟩ := X.opq
        refine wpAny_assign_Name (st_local X W fun s3 X => opq fun Qt hQt => ?_)
        obtain ⟨la, lvs, hla, X⟩ := X.pinList (v := .ref D3) (ds := kept.map fun l => .list (dInts l)) (fun h c => by exact (hC1 _ ((hC2 _ ((c))).1.1)).1.1.1.2.2.2.2)
        cases hla
        have hlen : lvs.length = kept.length := by rw [X.now.2.2.length]; simp
        -- words
        refine wpAny_execs_cons (wpAny_Assign_Name (Call_ (x_glob (v := .ref 181) (K := KK w.params) (by exact (hC1 _ ((hC2 _ ((X.now).1)).1.1)).1.1.1.1) (by kernel_rfl!) (callWith_K (K := KK w.params) (Gl.inK (by exact (hC1 _ ((hC2 _ ((X.now).1)).1.1)).1.1.1.1)) (by kernel_rfl!) (args2 (wpAny_BinOp (wpAny_BinOp (Subscript_ (x_local X (ug ek) (wpAny_Slice (part_none (part_some (x_local X (ug esp) (part_none ?_))))))))))))))
        refine x_slice X W.loc (by exact (X.now).2.1) .none (.int _ _) (by omega) slice_upto fun D1 s4 fD1 X => ?_
        obtain ⟨g3, X⟩ := X.freeze1 fD1
        refine List_ (args2 (List_ (args2 (x_local X us (args0 ?_)))))
        refine x_list X (by simp [sizeLine_eq]) fun D2 s5 fD2 X => ?_
        obtain ⟨g4, X⟩ := X.freeze1 fD2
        refine args0 ?_
        refine x_list X (by simp [sizeLine_eq]) fun D4 s6 fD4 X => ?_
        obtain ⟨g5, X⟩ := X.freeze1 fD4
        refine x_add_list X W.loc (LstO.isList LstO.lst (by exact (X.now).1.1.2)) (LstO.isList LstO.lst (by exact (X.now).2)) (by simp; omega) fun D5 s7 fD5 X => ?_
        obtain ⟨g6, X⟩ := X.freeze1 fD5
        refine Subscript_ (x_local X (ug ek) (wpAny_Slice (part_some (wpAny_BinOp (x_local X (ug esp) (x_int X fun t9 s8 X => x_add X fun t10 s9 X => part_none (part_none ?_)))))))
        rw [show ((i : Int) + 1) = ((i + 1 : Nat) : Int) by omega]
        refine x_slice X W.loc (by exact (X.now).1.1.1.1.2.1) (.int _ _) .none (by omega) slice_from fun D6 s10 fD6 X => ?_
        obtain ⟨g7, X⟩ := X.freeze1 fD6
        refine x_add_list X W.loc (LstO.isList LstO.lst (by exact (X.now).1.2)) (LstO.isList LstO.lst (by exact (X.now).2)) (by simp; omega) fun D7 s11 fD7 X => args0 ?_
        obtain ⟨g8, X⟩ := X.freeze1 fD7
        have hi' : i < kept.length := by omega
        have hmemL : ∀ l ∈ kept.take i ++ [[1 + (j : Int)]] ++ kept.drop (i + 1), l.length ≤ 3 ∧ ∀ a ∈ l, 1 ≤ a ∧ a ≤ (T : Int) := fun l hl => by
          rcases List.mem_append.mp hl with hl | hl
          · rcases List.mem_append.mp hl with hl | hl
            · exact hkk3 l (List.mem_of_mem_take hl)
            · rw [List.mem_singleton.mp hl]
              exact ⟨by simp, fun a ha => by rw [List.mem_singleton.mp ha]; omega⟩
          · exact hkk3 l (List.mem_of_mem_drop hl)
        have hlnL : (kept.take i ++ [[1 + (j : Int)]] ++ kept.drop (i + 1)).length ≤ 4 := by simp; omega
        refine ⟨Gl.inK (by exact (hC1 _ ((hC2 _ ((X.now).1.1.1.1.1.1.1)).1.1)).1.1.1.1), words_spec (n := n) hA1 (ls := kept.take i ++ [[1 + (j : Int)]] ++ kept.drop (i + 1)) X.sub (fun h S => ⟨by exact (hC1 _ ((hC2 _ ((X.tx.up h S).1.1.1.1.1.1.1)).1.1)).1.1.1.1, by
          have c := X.tx.up h S
          have b1 := c.1.1.1.1.1.1.2.2
          have b2 : Rd h (.ref D2) (.list (dInts [1 + (j : Int)])) := LstO.rd LstO.lst c.1.1.1.1.2 (.cons .int .nil)
          unfold listsD
          rw [List.map_append, List.map_append, List.map_take, List.map_drop]
          exact LstO.rd LstO.lst c.2 (((b1.take i).append (.cons b2 .nil)).append (b1.drop (i + 1)))⟩) hlnL (fun l hl => (hmemL l hl).1) fun vw g9 s12 e hw => ?_⟩
        have X := X.call e hw
        refine st_local X W fun s13 X => ?_
        obtain ⟨ba, bvs, rfl, X⟩ := X.pinList (v := vw) (ds := tups (wordsOf (kept.take i ++ [[1 + (j : Int)]] ++ kept.drop (i + 1)))) (fun h c => by exact (c).2)
        have X := X.weaken (C' := fun h => _ ∧ (h.IsList ba bvs.toArray ∧ RdL h bvs (tups (wordsOf (kept.take i ++ [[1 + (j : Int)]] ++ kept.drop (i + 1)))))) fun h c => ⟨c.1.1.1.1.1.1.1.1.1, c.2⟩
        have hsup := supp_plain (F := F) MM hF1 st1 st2 hk hi' (a := 1 + (j : Int)) (by omega)
        generalize hLs : kept.take i ++ [[1 + (j : Int)]] ++ kept.drop (i + 1) = Ls at X hmemL hlnL hsup
        have hbl : bvs.length = (wordsOf Ls).length := by rw [X.now.2.2.length]; simp [tups]
        have hb100 : (wordsOf Ls).length ≤ 100 := by
          have q := words_len Ls [[]] 0 (fun l hl => (hmemL l hl).1) (by simp)
          exact Nat.le_trans (Nat.le_trans q (Nat.pow_le_pow_right (by decide) (show 0 + Ls.length ≤ 4 by omega))) (by decide)
        -- due
        refine wpAny_execs_cons (wpAny_Assign_Name (wpAny_Compare1 (x_comp (cl := [(Str.ofString "start", L + 4), (Str.ofString "rows", L + 3), (Str.ofString "finals", L + 5)]) (by with_unfolding_all rfl) (x_local X us ?_))))
        refine x_iter_list X hA.hh (by exact (X.now).2.1) fun I4 oI4 s20 it4 p4 hI4 X => ?_
        refine comp_run (fun t ys mu₁ h => RdL h ys (tups (((wordsOf Ls).take t).filter fun w => F.contains (endR R st w))) ∧ mu₁ = []) X hI4 it4 p4 (fun h c => c.2.1) (.cons (by kernel_rfl!) (.cons (by kernel_rfl!) (.cons (by kernel_rfl!) .nil))) (fun h c => ⟨by simpa [tups] using RdL.nil, rfl⟩) (by simp [hbl]; omega) ?_ ?_
        · rintro t v ys mu₁ g₃ s₃ L₁ m₃ ht - hvt hmu em Y
          have ht' : t < (wordsOf Ls).length := by simpa [hbl] using ht
          have hvt' : bvs[t]? = some v := by simpa using hvt
          have hwv : ∀ h, RdL h bvs (tups (wordsOf Ls)) → Rd h v (.tuple (dInts (wordsOf Ls)[t])) := fun h r => by
            obtain ⟨d, hd, r⟩ := r.get hvt'
            unfold tups at hd
            rw [List.getElem?_map, List.getElem?_eq_getElem ht'] at hd
            cases hd; exact r
          have hwa : ∀ a ∈ (wordsOf Ls)[t], 1 ≤ a ∧ a ≤ (T : Int) := fun a ha => by
            obtain ⟨l, hl, hm⟩ := (mem_words.mp (List.getElem_mem ht')).mem a ha
            exact (hmemL l hl).2 a hm
          refine wpAny_tests_one (wpAny_isTrue_Compare1 (Call_ (x_glob (v := .ref 188) (K := KK w.params) (by exact (hC1 _ ((hC2 _ ((Y.now).1.1)).1.1)).1.1.1.1) (by kernel_rfl!) (callWith_K (K := KK w.params) (Gl.inK (by exact (hC1 _ ((hC2 _ ((Y.now).1.1)).1.1)).1.1.1.1)) (by kernel_rfl!) (args2 (x_cell Y cr (args2 (x_cell Y cs (args2 (x_local Y em (args0 ?_)))))))))))
          refine ⟨Gl.inK (by exact (hC1 _ ((hC2 _ ((Y.now).1.1)).1.1)).1.1.1.1), end_spec (n := n) hA1 (R := R) (word := (wordsOf Ls)[t]) Y.sub (fun h S => ⟨by exact (hC1 _ ((hC2 _ ((Y.tx.up h S).1.1)).1.1)).1.1.1.1, by exact (hC1 _ ((hC2 _ ((Y.tx.up h S).1.1)).1.1)).1.1.1.2.2.1, hwv h (by exact (Y.tx.up h S).1.2.2)⟩) MM (by omega) (by omega) hwa fun t' g4 s7 e hb0 hb1 => ?_⟩
          have Y := Y.keep e
          refine x_cell Y cf (in_ints_tup hA1 (xs := F) (by exact (hC1 _ ((hC2 _ ((Y.now).1.1)).1.1)).1.1.1.2.2.2.1) (wpAny_truthy_bool ?_))
          have et : (wordsOf Ls).take (t + 1) = (wordsOf Ls).take t ++ [(wordsOf Ls)[t]] := by
            rw [List.take_add_one, List.getElem?_eq_getElem ht']; rfl
          rw [et, List.filter_append]
          cases hc : F.contains (endR R st (wordsOf Ls)[t]) with
          | false =>
            rw [if_neg Bool.false_ne_true]
            refine ⟨_, _, Y.weaken fun h c => ⟨c.1, ?_, c.2.2⟩, hmu⟩
            rw [List.filter_cons, hc]
            simpa using c.2.1
          | true =>
            rw [if_pos rfl]
            refine x_local Y em ⟨_, _, Y.weaken fun h c => ⟨c.1, ?_, c.2.2⟩, hmu⟩
            rw [List.filter_cons, hc]
            unfold tups
            rw [List.map_append]
            exact c.2.1.append (.cons (hwv h (by exact (c).1.2.2)) .nil)
        · intro D8 nn5 ys mu' g' s' L₁ oL mL fD fL hys hmu hns Y
          obtain rfl : mu' = [] := Y.now.2.2
          refine comp_end Y fL hns fun s8 Y => ?_
          obtain ⟨g6, Y⟩ := Y.freeze1 fD
          have Y := Y.weaken (C' := fun h => _ ∧ Rd h (.ref D8) (.list (tups ((wordsOf Ls).filter fun w => F.contains (endR R st w))))) fun h c => ⟨c.1.1, by
            have q := c.1.2.1
            rw [List.take_of_length_le (by simp [hbl])] at q
            exact LstO.rd LstO.lst c.2 q⟩
          refine List_ (args0 (x_list Y (by simp) fun e0 s9 fe0 Y => ?_))
          have re0 : Rd s9.heap (.ref e0) (.list []) := LstO.rd (LstO.lst (n := 0)) (Y.tx.mus _ List.mem_cons_self).1 .nil
          refine ne_nil_tups hA1 (by exact (Y.now).2) re0 ?_
          have Y := Y.drop1
          refine st_local Y W fun s10 Y => ?_
          -- if rule.has_support(...) != due
          have hru : RuleAt s10.heap x S st (.ref ra) (.ref fa') := by exact (hC1 _ ((hC2 _ ((Y.now).1.1)).1.1)).1.1.2.1
          refine wpAny_execs_cons (wpAny_If (wpAny_isTrue_Compare1 (MethodCall_ (x_local Y (ug (ug (ug eru))) (x_method (f := 138) (mg := mg) (mb := mb) (by exact (hC1 _ ((hC2 _ ((Y.now).1.1)).1.1)).1.1.1.1) hru (fun es a b c => c) (callWith_K (K := KK w.params) (Gl.inK (by exact (hC1 _ ((hC2 _ ((Y.now).1.1)).1.1)).1.1.1.1)) (by kernel_rfl!) (args2 (x_local Y (ug (ug (ug er))) (args2 (x_local Y (ug (ug (ug ea))) (args2 (x_local Y (ug (ug (ug esp))) (args2 (x_local Y (ug (ug us)) (args0 ?_)))))))))))))))
          refine ⟨Gl.inK (by exact (hC1 _ ((hC2 _ ((Y.now).1.1)).1.1)).1.1.1.1), supp_spec (n := n) hA1 (R := R) (re := (List.range (kept.length + 1)).map (thereAt R S st kept)) (al := (List.range (kept.length + 1)).map (goodAt R S F kept)) (rl := thereAt R S st kept i) (ll := goodAt R S F kept (i + 1)) Y.sub (fun h S => ⟨by exact (hC1 _ ((hC2 _ ((Y.tx.up h S).1.1)).1.1)).1.1.1.1, by exact (hC1 _ ((hC2 _ ((Y.tx.up h S).1.1)).1.1)).1.1.2.1, by exact (hC1 _ ((hC2 _ ((Y.tx.up h S).1.1)).1.1)).1.1.1.2.2.1, by exact (hC1 _ ((hC2 _ ((Y.tx.up h S).1.1)).1.1)).1.1.2.2.1, by exact (hC1 _ ((hC2 _ ((Y.tx.up h S).1.1)).1.1)).1.1.2.2.2⟩) MM
            (by rw [List.getElem?_map, List.getElem?_range (by omega)]; rfl) (by rw [List.getElem?_map, List.getElem?_range (by omega)]; rfl) (by simp [thereAt]) (by simp [goodAt]) (by omega) (by omega) fun g10 s14 e => ?_⟩
          have Y := Y.keep e
          refine x_local Y us (ne_bool (wpAny_truthy_bool ?_))
          rw [hsup]
          rw [show ((!((wordsOf Ls).filter fun w => F.contains (endR R st w)).isEmpty) != (!((wordsOf Ls).filter fun w => F.contains (endR R st w)).isEmpty)) = false by simp]
          refine wpAny_execs_nil (wpAny_execs_nil (hQt _ _ ⟨_, _, _, _, _, Y.weaken (C' := fun h => _ ∧ True) fun h c => ⟨?_, trivial⟩, ⟨ug (ug (ug esp)), ug (ug (ug ek)), ug (ug (ug eru)), ug (ug (ug er)), ug (ug (ug ea)), cl, cr, cs, cf⟩, rfl⟩))
          exact (hC2 _ ((c).1.1)).1
      · rintro m' k' mu' F' g' s' ⟨esp, ek, eru, er, ea, cl, cr, cs, cf⟩ hmu X
        refine wpAny_execs_nil (hQt _ _ ⟨_, _, _, _, _, X.weaken (C' := fun h => _ ∧ True) fun h c => ⟨?_, trivial⟩, ⟨ek, eru, er, ea, cl, cr, cs, cf⟩, hmu⟩)
        exact (hC1 _ ((c).1.1)).1
      · intro v m' k' mu' F' g' s' hJ
        exact hJ.elim
    · rintro m' k' mu' F' g' s' ⟨ek, eru, er, ea, cl, cr, cs, cf⟩ hmu X
      obtain rfl : mu' = [] := List.map_eq_nil_iff.mp hmu
      have X := X.weaken (C' := fun h => (Gl (KK w.params) mg mb h ∧ Rd h (.ref ra) (rowsD R) ∧ Rd h (.ref fa') (.tuple (dInts F)) ∧ Rd h (.ref D3) (listsD kept)) ∧ RuleAt h x S st (.ref ra) (.ref fa') ∧ Rd h vre (tabD ((List.range (kept.length + 1)).map (thereAt R S st kept))) ∧ Rd h val (tabD ((List.range (kept.length + 1)).map (goodAt R S F kept)))) fun h c => ⟨⟨by exact (c).1.1.1.1, by exact (c).1.1.1.2.2.1, by exact (c).1.1.1.2.2.2.1, by exact (c).1.1.1.2.2.2.2⟩, by exact (c).1.1.2.1, by exact (c).1.1.2.2.1, by exact (c).1.1.2.2.2⟩
      refine wpAny_execs_cons (wpAny_Return_some (BoolOp_and (wpAny_Compare1 (MethodCall_ (x_local X eru (x_method (f := 98) (by exact (X.now).1.1) (by exact (X.now).2.1) (fun es a b c => a) (callWith_K (Gl.inK (by exact (X.now).1.1)) (by kernel_rfl!) (args2 (x_local X ek (args0 ?_))))))))))
      refine ⟨(Gl.inK (by exact (X.now).1.1)), reach_spec (n := n) (R := R) (kept := kept) hA1 X.sub (fun h S => ⟨(by exact (X.tx.up h S).1.1), (by exact (X.tx.up h S).2.1), (by exact (X.tx.up h S).1.2.1), (by exact (X.tx.up h S).1.2.2.2)⟩) MM hk (by omega) fun vre2 g9 s11 e hre2 => ?_⟩
      rw [tR] at hre2
      have X := X.call e hre2
      refine x_local X er (eq_tab hA1 (by exact (X.now).2) (by exact (X.now).1.2.2.1) (wpAny_truthy_bool ?_))
      rw [decide_eq_true rfl, if_pos rfl]
      refine BoolOp_one (wpAny_Compare1 (MethodCall_ (x_local X eru (x_method (f := 103) (by exact (X.now).1.1.1) (by exact (X.now).1.2.1) (fun es a b c => b) (callWith_K (Gl.inK (by exact (X.now).1.1.1)) (by kernel_rfl!) (args2 (x_local X ek (args0 ?_))))))))
      refine ⟨(Gl.inK (by exact (X.now).1.1.1)), alive_spec (n := n) (R := R) (kept := kept) (F := F) hA1 X.sub (fun h S => ⟨(by exact (X.tx.up h S).1.1.1), (by exact (X.tx.up h S).1.2.1), (by exact (X.tx.up h S).1.1.2.1), (by exact (X.tx.up h S).1.1.2.2.1), (by exact (X.tx.up h S).1.1.2.2.2)⟩) MM hk (fun l hl => by have := hk3 l hl; omega) (by omega) fun val2 g10 s12 e hal2 => ?_⟩
      rw [tA] at hal2
      have X := X.call e hal2
      refine x_local X ea (eq_tab hA1 (by exact (X.now).2) (by exact (X.now).1.1.2.2.2) ?_)
      rw [decide_eq_true rfl]
      exact h _ _ X.ev
    · intro v m' k' mu' F' g' s' hJ
      exact hJ.elim
end
end Mine
end
section
open PySem PySem.W PyProof.Rows
set_option maxRecDepth 100000
set_option maxHeartbeats 8000000
namespace Mine
theorem cells_get {k : Str → Option Value} {h h₁ : Heap} {L : Addr} : ∀ {cs : List (Str × Addr)} {news : List (Addr × Obj)}, CellsAre k cs news → News h L h₁ news → ∀ {x : Str} {c : Addr}, (x, c) ∈ cs → h₁.IsCell c (k x) ∧ h.get? c = none
  | _, _, .nil, _, x, c, hm => by cases hm
  | _, _, .cons (o := o) hd r, N, x, c, hm => by
    rcases List.mem_cons.mp hm with e | hm
    · cases e
      obtain ⟨h1, h2, h3⟩ := N _ List.mem_cons_self
      exact ⟨⟨o, h1, hd⟩, h3⟩
    · exact cells_get r (fun p hp => N p (List.mem_cons_of_mem _ hp)) hm
theorem law_cells (L : Addr) : cellsFrom (L + 1) lawFd.scope.names [] = [(Str.ofString "finals", L + 5), (Str.ofString "start", L + 4), (Str.ofString "rows", L + 3), (Str.ofString "letters", L + 2), (Str.ofString "src", L + 1)] := by with_unfolding_all rfl
theorem fin_law {prog : Program} {p : Program} {w : World} {s₁ : Shared} {h₁ : Heap} {tk : Nat} {loose : List Str} {mean : ExcName → Option Value} {mg mb m k : Str → Option Value} {news : List (Addr × Obj)} {fa : Addr} {cd vS : Value} {script : List Int} {Q : Flow → Shared → Prop} {E : Value → Shared → Prop}
    (hfile : ((prog.main.file : Str) == Str.ofString "/claim/cut.py") = true) (htop : (prog.main.scope.names.lookup ("super" : Str)).isSome = false)
    (KX : (KK w.params).In s₁.heap) (T : Top p loose mean mg mb s₁.heap) (F : Fr s₁.heap s₁.heap.objs.size h₁ m) (N0 : News s₁.heap s₁.heap.objs.size h₁ news) (X0 : CellsAre k (cellsFrom (s₁.heap.objs.size + 1) lawFd.scope.names []) news)
    {as : List Addr} (r0' : Reads s₁.heap vS (.list (script.map .int)) as) (e1 : m "script" = some vS) (hl : script.length ≤ 63)
    (hQ : ∀ s', (∃ h t, s' = { s₁ with heap := h, toks := t }) → (∀ b o, s₁.heap.get? b = some o → s'.heap.get? b = some o) → Q (.ret (.bool true)) s') :
    wpAny (model prog w) (callerA.deeper (lawEnv s₁.heap.objs.size fa cd)) (execs lawBody (lawEnv s₁.heap.objs.size fa cd)) Q E { s₁ with heap := h₁, toks := tk } := by
  have r0 : Rd s₁.heap vS (.list (dInts script)) := ⟨as, r0'⟩
  have S1 : Sub (fun b => s₁.heap.get? b) s₁.heap := fun b o e => e
  have S2 : Sub (fun b => s₁.heap.get? b) h₁ := F.keep
  have nw : ∀ {a : Addr}, s₁.heap.objs.size ≤ a → s₁.heap.get? a = none := fun ha => Heap.get?_none_of_le ha
  have up : ∀ h, Sub (fun b => s₁.heap.get? b) h → Gl (KK w.params) mg mb h ∧ Rd h vS (.list (dInts script)) := fun h S =>
    ⟨⟨Frag.In.keeps KX S, (T.keeps S).g, (T.keeps S).b, (T.keeps S).nolimit, T.builtins⟩, r0.keeps S⟩
  rw [law_cells] at X0
  have hcell : ∀ x c, (lawEnv s₁.heap.objs.size fa cd).cells.lookup x = some c → (x, c) ∈ [(Str.ofString "finals", s₁.heap.objs.size + 5), (Str.ofString "start", s₁.heap.objs.size + 4), (Str.ofString "rows", s₁.heap.objs.size + 3), (Str.ofString "letters", s₁.heap.objs.size + 2), (Str.ofString "src", s₁.heap.objs.size + 1)] := fun x c hc => by
    have := mem_of_lookup hc
    rw [← law_cells]; exact this
  have X : Sx [] (fun b => s₁.heap.get? b) s₁ (lawEnv s₁.heap.objs.size fa cd) (fun h => Gl (KK w.params) mg mb h ∧ Rd h vS (.list (dInts script))) (fun b => s₁.heap.get? b) m k [] { s₁ with heap := h₁, toks := tk } :=
    ⟨Ev.grow S1 F.keep, ⟨S2, up, F.ns, nw (Nat.le_refl _), (fun x c hc => cells_get X0 N0 (hcell x c hc)), (fun x y c hx hy => by
      have a := hcell x c hx
      have b := hcell y c hy
      simp only [List.mem_cons, Prod.mk.injEq, List.not_mem_nil, or_false] at a b
      rcases a with ⟨rfl, ha⟩ | ⟨rfl, ha⟩ | ⟨rfl, ha⟩ | ⟨rfl, ha⟩ | ⟨rfl, ha⟩ <;> rcases b with ⟨rfl, hb⟩ | ⟨rfl, hb⟩ | ⟨rfl, hb⟩ | ⟨rfl, hb⟩ | ⟨rfl, hb⟩ <;> first | rfl | exact absurd (Nat.add_left_cancel (ha.symm.trans hb)) (by decide)), (fun _ h => nomatch h), List.nodup_nil⟩, (fun _ h => nomatch h)⟩
  have W : Fw [] s₁ (lawEnv s₁.heap.objs.size fa cd) := ⟨.inr (nw (Nat.le_refl _)), fun x c hc => .inr (nw (by
    have a := hcell x c hc
    simp only [List.mem_cons, Prod.mk.injEq, List.not_mem_nil, or_false] at a
    rcases a with ⟨-, a⟩ | ⟨-, a⟩ | ⟨-, a⟩ | ⟨-, a⟩ | ⟨-, a⟩ <;> rw [a] <;> exact Nat.le_add_right _ _))⟩
  have hA : AOk 8 (callerA.deeper (lawEnv s₁.heap.objs.size fa cd)) := ⟨rfl, by
    show (1 + claimMargin) + 1 + 8 < 900
    decide, by
    show 4 + 3 + 100 * 8 < 5000
    decide, rfl⟩
  refine wpAny_mono (law_walk (n := 0) hfile htop hA X W (fun h c => c) e1 hl (Q := Q) fun g' s' e => ?_) (fun _ _ h => h) fun _ _ h => h.elim
  exact hQ s' e.only fun b o hb => e.keep b o (fun h => nomatch h) hb
theorem law_holds : PySem.Challenge.rw_nz0012_01.Holds := hd (by
  k_go0
  (all_goals try k_fold)
  refine fin_law (by kernel_rfl!) (by kernel_rfl!) (by assumption) (by assumption) (by assumption) (by assumption) (by assumption) (by assumption) ?e1 ?hl ?hQ
  case e1 => kernel_rfl!
  case hl => omega
  case hQ =>
    rintro s' ⟨h, t, rfl⟩ hk
    refine ⟨.inl ⟨.bool true, .bool true, [], rfl, fun _ => ?_, .bool true, ?_, unshared_nil⟩, hk, rfl, by assumption⟩
    all_goals first | rfl | kernel_rfl!)
end Mine
end
theorem PySem.Challenge.cw_nz0012_01_holds : PySem.Challenge.rw_nz0012_01.Holds := by
  exact Mine.law_holds
