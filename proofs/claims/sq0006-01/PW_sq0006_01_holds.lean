import PyProof.Rows.All
import Wide.All
import OpenK.AllK
import Wide.FinOn
import PySem.Challenge.RW_sq0006_01
open PySem PySem.W PySem.Calls PyProof.Rows PySem.Spec
set_option maxRecDepth 100000
set_option linter.unusedVariables false
set_option Elab.async false
set_option compiler.extract_closed false
set_option maxHeartbeats 4000000
namespace Mine
/-! ## the triple over heaps -/
def Sim (s s' : Shared) : Prop := s' = { s with heap := s'.heap, toks := s'.toks }
theorem Sim.refl (s : Shared) : Sim s s := rfl
theorem Sim.trans {a b c : Shared} (x : Sim a b) (y : Sim b c) : Sim a c := by
  obtain ⟨h, g, d, t, o⟩ := a
  obtain ⟨h1, g1, d1, t1, o1⟩ := b
  obtain ⟨h2, g2, d2, t2, o2⟩ := c
  simp only [Sim, Shared.mk.injEq] at x y ⊢
  simp only [true_and] at x y ⊢
  exact ⟨y.1.trans x.1, y.2.1.trans x.2.1, y.2.2.trans x.2.2⟩

def T {α : Type} (M : Model) (A : Around) (h : Heap) (t : Sem α) (P : α → Heap → Prop) : Prop :=
  ∀ s : Shared, s.heap = h → wpAny M A t (fun a s' => P a s'.heap ∧ Sim s s') (fun _ _ => False) s

section
variable {α β : Type} {M : Model} {A : Around} {h : Heap}
theorem T.use {t : Sem α} {P : α → Heap → Prop} (H : T M A h t P) {s : Shared} {Q : α → Shared → Prop} {E : Value → Shared → Prop} (hs : s.heap = h) (k : ∀ a s', P a s'.heap → Sim s s' → Q a s') : wpAny M A t Q E s :=
  wpAny_mono (H s hs) (fun a s' p => k a s' p.1 p.2) (fun _ _ x => x.elim)
theorem T.mono {t : Sem α} {P P' : α → Heap → Prop} (H : T M A h t P) (k : ∀ a h', P a h' → P' a h') : T M A h t P' :=
  fun _ hs => H.use hs fun a s' p q => ⟨k a s'.heap p, q⟩
theorem T.pure {a : α} {P : α → Heap → Prop} (p : P a h) : T M A h (Pure.pure a) P := fun s hs => wpAny_pure ⟨hs ▸ p, .refl s⟩
theorem T.bind {m : Sem α} {f : α → Sem β} {P : β → Heap → Prop} (H : T M A h m fun a h' => T M A h' (f a) P) : T M A h (m >>= f) P :=
  fun _ hs => wpAny_bind (H.use hs fun _ s1 H1 q1 => H1.use rfl fun _ _ p2 q2 => ⟨p2, q1.trans q2⟩)
end

/-! ## what stands at an address -/
inductive Sp where
  | list (vs : List Value)
  | intl (xs : List Int)
  | tup (vs : List Value)
  | inst (C dx : Addr)
  | dict (fs : List (Str × Value))
  | cell (v : Option Value)
  | raw (o : Obj)

abbrev listOb (vs : List Value) (n : Nat) : Obj := { cls := .type "list", data := .seq vs.toArray n }
abbrev tupOb (vs : List Value) (n : Nat) : Obj := { cls := .type "tuple", data := .seq vs.toArray n }

inductive Fs (w : World) : List DictEntry → List (Str × Value) → Prop
  | nil : Fs w [] []
  | cons {x : Str} {t : Tok} {v : Value} {es : List DictEntry} {fs : List (Str × Value)} : Fs w es fs → Fs w (⟨PyData.keyHash w.params x, .str x t, v⟩ :: es) ((x, v) :: fs)

def Sp.ok (w : World) : Sp → Obj → Prop
  | .list vs, o => ∃ n, o = listOb vs n
  | .intl xs, o => ∃ vs n, o = listOb vs n ∧ IntsAre vs xs
  | .tup vs, o => ∃ n, o = tupOb vs n
  | .inst C dx, o => o = instObj C dx
  | .dict fs, o => ∃ es n, o = dictOf es n ∧ Fs w es fs ∧ (fs.map (·.1)).Nodup
  | .cell v, o => o.data = .cell v
  | .raw o', o => o = o'

def At (w : World) (h : Heap) (a : Addr) (sp : Sp) : Prop := ∃ o, h.get? a = some o ∧ sp.ok w o

def Keeps (g h : Heap) : Prop := ∀ b o, g.get? b = some o → h.get? b = some o
theorem Keeps.refl (g : Heap) : Keeps g g := fun _ _ e => e
theorem Keeps.trans {a b c : Heap} (x : Keeps a b) (y : Keeps b c) : Keeps a c := fun q o e => y q o (x q o e)
theorem At.mono {w : World} {g h : Heap} {a : Addr} {sp : Sp} (x : At w g a sp) (k : Keeps g h) : At w h a sp := let ⟨o, e, p⟩ := x; ⟨o, k _ _ e, p⟩
/-! ## the state: what is kept for good, what may turn, what is another's -/
structure Base (K : Frag) (g : Heap) : Prop where
  X : K.In g
  globs : ∃ mg, g.Ns mainGlobals mg
  blt : ∃ mb, g.Ns builtinsNs mb ∧ ∀ x : Str, x ≠ "__name__" → mb x = bootBuiltins x
  lim : g.NoLimit
theorem Base.mono {K : Frag} {g h : Heap} (b : Base K g) (k : Keeps g h) : Base K h :=
  ⟨b.X.keeps k, let ⟨m, n⟩ := b.globs; ⟨m, n.keeps k⟩, let ⟨m, n, r⟩ := b.blt; ⟨m, n.keeps k, r⟩, b.lim.keeps k⟩

structure GoodC (w : World) (K : Frag) (g : Heap) (mu : List (Addr × Sp)) (rest : List (Addr × Obj)) (h : Heap) : Prop where
  base : Base K g
  keep : Keeps g h
  own : ∀ p ∈ mu, At w h p.1 p.2 ∧ g.get? p.1 = none
  rst : ∀ p ∈ rest, h.get? p.1 = some p.2 ∧ g.get? p.1 = none
  dis : (mu.map (·.1) ++ rest.map (·.1)).Nodup

theorem GoodC.baseH {w : World} {K : Frag} {g : Heap} {mu rest} {h : Heap} (G : GoodC w K g mu rest h) : Base K h := G.base.mono G.keep

theorem GoodC.perm {w : World} {K : Frag} {g : Heap} {mu mu' : List (Addr × Sp)} {rest} {h : Heap} (G : GoodC w K g mu rest h) (p : mu.Perm mu') : GoodC w K g mu' rest h :=
  ⟨G.base, G.keep, fun x hx => G.own x (p.mem_iff.mpr hx), G.rst, ((p.map _).append_right _).nodup_iff.mp G.dis⟩
theorem GoodC.permR {w : World} {K : Frag} {g : Heap} {mu : List (Addr × Sp)} {rest rest' : List (Addr × Obj)} {h : Heap} (G : GoodC w K g mu rest h) (p : rest.Perm rest') : GoodC w K g mu rest' h :=
  ⟨G.base, G.keep, G.own, fun x hx => G.rst x (p.mem_iff.mpr hx), ((p.map _).append_left _).nodup_iff.mp G.dis⟩

/-- hand some of what may turn over to the others -/
theorem GoodC.lay {w : World} {K : Frag} {g : Heap} {a b : List (Addr × Sp)} {rest} {h : Heap} (G : GoodC w K g (a ++ b) rest h) :
    ∃ bo : List (Addr × Obj), bo.map (·.1) = b.map (·.1) ∧ GoodC w K g a (bo ++ rest) h ∧
      ∀ g' a' h', GoodC w K g' a' (bo ++ rest) h' → GoodC w K g' (a' ++ b) rest h' := by
  have key : ∀ b : List (Addr × Sp), (∀ p ∈ b, At w h p.1 p.2) → ∃ bo : List (Addr × Obj), bo.map (·.1) = b.map (·.1) ∧ (∀ p ∈ bo, h.get? p.1 = some p.2) ∧
      ∀ h', (∀ p ∈ bo, h'.get? p.1 = some p.2) → ∀ p ∈ b, At w h' p.1 p.2 := by
    intro b
    induction b with
    | nil => intro _; exact ⟨[], rfl, (fun _ h => nomatch h), (fun _ _ _ h => nomatch h)⟩
    | cons p r ih =>
      intro hp
      obtain ⟨bo, e, x, y⟩ := ih fun q hq => hp q (.tail _ hq)
      obtain ⟨o, ho, ok⟩ := hp p (.head _)
      refine ⟨(p.1, o) :: bo, by simp [e], fun q hq => ?_, fun h' hh q hq => ?_⟩
      · rcases List.mem_cons.mp hq with rfl | hq
        · exact ho
        · exact x q hq
      · rcases List.mem_cons.mp hq with rfl | hq
        · exact ⟨o, hh (q.1, o) (.head _), ok⟩
        · exact y h' (fun q hq => hh q (.tail _ hq)) q hq
  obtain ⟨bo, e, x, y⟩ := key b fun p hp => (G.own p (List.mem_append_right _ hp)).1
  have free : ∀ p ∈ bo, g.get? p.1 = none := fun p hp => by
    have : p.1 ∈ b.map (·.1) := e ▸ List.mem_map_of_mem hp
    obtain ⟨q, hq, e'⟩ := List.mem_map.mp this
    exact e' ▸ (G.own q (List.mem_append_right _ hq)).2
  refine ⟨bo, e, ⟨G.base, G.keep, fun p hp => G.own p (List.mem_append_left _ hp), fun p hp => ?_, ?_⟩, fun g' a' h' G' => ⟨G'.base, G'.keep, fun p hp => ?_, fun p hp => G'.rst p (List.mem_append_right _ hp), ?_⟩⟩
  · rcases List.mem_append.mp hp with hp | hp
    · exact ⟨x p hp, free p hp⟩
    · exact G.rst p hp
  · have := G.dis
    simp only [List.map_append, e] at this ⊢
    simpa only [List.append_assoc] using this
  · rcases List.mem_append.mp hp with hp | hp
    · exact G'.own p hp
    · refine ⟨y h' (fun q hq => (G'.rst q (List.mem_append_left _ hq)).1) p hp, ?_⟩
      have : p.1 ∈ bo.map (·.1) := e ▸ List.mem_map_of_mem hp
      obtain ⟨q, hq, e'⟩ := List.mem_map.mp this
      exact e' ▸ (G'.rst q (List.mem_append_left _ hq)).2
  · have := G'.dis
    simp only [List.map_append, e] at this ⊢
    simpa only [List.append_assoc] using this

theorem hideAll_keeps (h : Heap) (l : List Addr) : Keeps (hideAll h l) h := fun _ _ e => of_hideAll l e

/-- what no longer turns is kept for good -/
theorem GoodC.seal {w : World} {K : Frag} {g : Heap} {e mu : List (Addr × Sp)} {gone rest : List (Addr × Obj)} {h : Heap} (G : GoodC w K g (e ++ mu) (gone ++ rest) h) :
    ∃ g', GoodC w K g' mu rest h ∧ Keeps g g' ∧ ∀ p ∈ e, At w g' p.1 p.2 := by
  have dis := G.dis
  simp only [List.map_append] at dis
  have hid : ∀ b o, h.get? b = some o → b ∉ mu.map (·.1) ++ rest.map (·.1) → (hideAll h (mu.map (·.1) ++ rest.map (·.1))).get? b = some o := fun b o x n => hideAll_get _ x n
  have kg : Keeps g (hideAll h (mu.map (·.1) ++ rest.map (·.1))) := fun b o x => hid b o (G.keep b o x) fun n => by
    rcases List.mem_append.mp n with n | n
    · obtain ⟨p, hp, rfl⟩ := List.mem_map.mp n
      rw [(G.own p (List.mem_append_right _ hp)).2] at x; cases x
    · obtain ⟨p, hp, rfl⟩ := List.mem_map.mp n
      rw [(G.rst p (List.mem_append_right _ hp)).2] at x; cases x
  refine ⟨_, ⟨G.base.mono kg, hideAll_keeps _ _, fun p hp => ⟨(G.own p (List.mem_append_right _ hp)).1, hideAll_none _ (List.mem_append_left _ (List.mem_map_of_mem hp))⟩,
    fun p hp => ⟨(G.rst p (List.mem_append_right _ hp)).1, hideAll_none _ (List.mem_append_right _ (List.mem_map_of_mem hp))⟩, ?_⟩, kg, fun p hp => ?_⟩
  · refine dis.sublist ?_
    exact (List.sublist_append_right _ _).append (List.sublist_append_right _ _)
  · obtain ⟨o, ho, ok⟩ := (G.own p (List.mem_append_left _ hp)).1
    refine ⟨o, hid _ _ ho fun n => ?_, ok⟩
    have d1 := (List.nodup_append.mp dis)
    have hpe : p.1 ∈ e.map (·.1) := List.mem_map_of_mem hp
    rcases List.mem_append.mp n with n | n
    · exact (List.nodup_append.mp d1.1).2.2 _ hpe _ n rfl
    · exact d1.2.2 _ (List.mem_append_left _ hpe) _ (List.mem_append_right _ n) rfl

theorem GoodC.alloc {w : World} {K : Frag} {g : Heap} {mu rest} {h : Heap} (G : GoodC w K g mu rest h) {sp : Sp} {o : Obj} (ok : sp.ok w o) (hf : o.isFreed = false) :
    GoodC w K g ((h.objs.size, sp) :: mu) rest (h.push o) := by
  have new : ∀ b o', h.get? b = some o' → b ≠ h.objs.size := fun b o' e => Nat.ne_of_lt (Heap.lt_size e)
  refine ⟨G.base, fun b o' e => Heap.get?_push_of_some _ (G.keep b o' e), fun p hp => ?_, fun p hp => ⟨Heap.get?_push_of_some _ (G.rst p hp).1, (G.rst p hp).2⟩, ?_⟩
  · rcases List.mem_cons.mp hp with rfl | hp
    · refine ⟨⟨o, Heap.get?_push_size _ hf, ok⟩, ?_⟩
      cases q : g.get? h.objs.size with
      | none => rfl
      | some o' => exact absurd rfl (new _ _ (G.keep _ _ q))
    · obtain ⟨⟨o', e, ok'⟩, n⟩ := G.own p hp
      exact ⟨⟨o', Heap.get?_push_of_some _ e, ok'⟩, n⟩
  · simp only [List.map_cons, List.cons_append, List.nodup_cons]
    refine ⟨fun n => ?_, G.dis⟩
    rcases List.mem_append.mp n with n | n
    · obtain ⟨p, hp, e⟩ := List.mem_map.mp n
      obtain ⟨⟨o', e', _⟩, _⟩ := G.own p hp
      exact new _ _ e' e
    · obtain ⟨p, hp, e⟩ := List.mem_map.mp n
      exact new _ _ (G.rst p hp).1 e

/-- one entry is turned -/
inductive Upd1 (a : Addr) (sp sp' : Sp) : List (Addr × Sp) → List (Addr × Sp) → Prop
  | head {r} : Upd1 a sp sp' ((a, sp) :: r) ((a, sp') :: r)
  | tail {p r r'} : Upd1 a sp sp' r r' → Upd1 a sp sp' (p :: r) (p :: r')
theorem Upd1.keys {a sp sp'} {l l' : List (Addr × Sp)} (u : Upd1 a sp sp' l l') : l'.map (·.1) = l.map (·.1) := by
  induction u with
  | head => rfl
  | tail _ ih => simp [ih]
theorem Upd1.mem {a sp sp'} {l l' : List (Addr × Sp)} (u : Upd1 a sp sp' l l') : (a, sp) ∈ l := by
  induction u with
  | head => exact .head _
  | tail _ ih => exact .tail _ ih
theorem Upd1.of {a sp sp'} {l l' : List (Addr × Sp)} (u : Upd1 a sp sp' l l') (nd : (l.map (·.1)).Nodup) : ∀ p ∈ l', p = (a, sp') ∨ (p ∈ l ∧ p.1 ≠ a) := by
  induction u with
  | @head r =>
    intro p hp
    rcases List.mem_cons.mp hp with rfl | hp
    · exact .inl rfl
    · refine .inr ⟨.tail _ hp, ?_⟩
      intro e
      simp only [List.map_cons, List.nodup_cons] at nd
      exact nd.1 (e ▸ List.mem_map_of_mem hp)
  | @tail q r r' u ih =>
    intro p hp
    simp only [List.map_cons, List.nodup_cons] at nd
    rcases List.mem_cons.mp hp with rfl | hp
    · exact .inr ⟨.head _, fun e => nd.1 (e ▸ List.mem_map_of_mem u.mem)⟩
    · exact (ih nd.2 p hp).imp id fun ⟨x, y⟩ => ⟨.tail _ x, y⟩

theorem GoodC.upd {w : World} {K : Frag} {g : Heap} {mu mu' rest} {h h' : Heap} {a : Addr} {sp sp' : Sp} (G : GoodC w K g mu rest h) (u : Upd1 a sp sp' mu mu') (hs : Heap.SameBut a h h') (ha : At w h' a sp') :
    GoodC w K g mu' rest h' := by
  have hm := G.own _ u.mem
  have nd := G.dis
  refine ⟨G.base, fun b o e => ?_, fun p hp => ?_, fun p hp => ⟨(hs.2 p.1 ?_).trans (G.rst p hp).1, (G.rst p hp).2⟩, by rw [u.keys]; exact G.dis⟩
  · refine (hs.2 b ?_).trans (G.keep b o e)
    rintro rfl
    rw [hm.2] at e; cases e
  · rcases u.of (List.nodup_append.mp nd).1 p hp with rfl | ⟨hp, ne⟩
    · exact ⟨ha, hm.2⟩
    · obtain ⟨⟨o, e, ok⟩, n⟩ := G.own p hp
      exact ⟨⟨o, (hs.2 _ ne).trans e, ok⟩, n⟩
  · rintro rfl
    exact (List.nodup_append.mp nd).2.2 _ (List.mem_map_of_mem u.mem) _ (List.mem_map_of_mem hp) rfl
structure Cx where
  prog : Program
  w : World
  K : Frag

structure Rm (A : Around) (n : Nat) : Prop where
  hd : A.handled = none
  dp : A.depth + n < recursionLimit
  un : A.units + 10 * n < cLine
theorem Rm.le {A : Around} {n m : Nat} (x : Rm A n) (h : m ≤ n) : Rm A m := ⟨x.hd, by have := x.dp; (first | lia | omega), by have := x.un; (first | lia | omega)⟩
theorem Rm.deeper {A : Around} {n : Nat} {env : Env} (x : Rm A (n + 1)) : Rm (A.deeper env) n :=
  ⟨x.hd, by have := x.dp; show A.depth + 1 + n < _; (first | lia | omega), by have := x.un; show A.units + 3 + 10 * n < _; (first | lia | omega)⟩
theorem Rm.u {A : Around} {n : Nat} (x : Rm A n) : A.units < cLine := by have := x.un; (first | lia | omega)
theorem Rm.d {A : Around} {n : Nat} (x : Rm A n) : A.depth < recursionLimit := by have := x.dp; (first | lia | omega)

/-! ## the frame -/
structure SS where
  g : Heap
  bs : List (Str × Option Value)
  mu : List (Addr × Sp)

def lk (bs : List (Str × Option Value)) (x : Str) : Option Value := (bs.lookup x).join

def NsObj (o : Obj) (m : Str → Option Value) : Prop := ∃ es ep, o.data = .dict es ep ∧ StrKeys es ∧ ∀ name, nsFind es name = m name

structure EnvIs (env : Env) (names : List (Str × NameKind)) (cl : List (Str × Addr)) : Prop where
  kind : env.scope.kind = .function
  same : env.scope.names = names
  nd : (names.map (·.1)).Nodup
  cells : env.cells = cl
  globals : env.globals = mainGlobals
  builtins : env.builtins = builtinsNs
  plain : ∀ p ∈ names, (p.1 == ("__debug__" : Str)) = false ∧ (p.1 == ("__classdict__" : Str)) = false ∧ p.1 ≠ ("__name__" : Str)

theorem lookup_of_nd {α : Type} {l : List (Str × α)} (nd : (l.map (·.1)).Nodup) {x : Str} {k : α} (h : (x, k) ∈ l) : l.lookup x = some k := by
  induction l with
  | nil => cases h
  | cons p r ih =>
    obtain ⟨y, j⟩ := p
    simp only [List.map_cons, List.nodup_cons] at nd
    rw [List.lookup_cons]
    rcases List.mem_cons.mp h with e | h
    · cases e; simp
    · have : (x == y) = false := beq_eq_false_iff_ne.mpr fun e => nd.1 (e ▸ List.mem_map_of_mem h)
      rw [this]
      exact ih nd.2 h

theorem EnvIs.kindOf {env : Env} {names cl} (E : EnvIs env names cl) {x : Str} {k : NameKind} (h : (x, k) ∈ names) : env.kindOf x = some k := by
  unfold Env.kindOf
  rw [E.same]
  exact lookup_of_nd E.nd h
theorem EnvIs.hp {env : Env} {names cl} (E : EnvIs env names cl) : (env.scope.kind == .class || (env.scope.kind == .module && env.locals != env.globals)) = false := by
  rw [E.kind]; rfl

def Good (c : Cx) (env : Env) (σ : SS) (rest : List (Addr × Obj)) (h : Heap) : Prop :=
  ∃ oL, NsObj oL (lk σ.bs) ∧ GoodC c.w c.K σ.g σ.mu ((env.locals, oL) :: rest) h ∧ (σ.bs.map (·.1)).Nodup

theorem Good.ns {c : Cx} {env : Env} {σ : SS} {rest} {h : Heap} (G : Good c env σ rest h) : h.Ns env.locals (lk σ.bs) :=
  let ⟨oL, ⟨es, ep, a, b, d⟩, G, _⟩ := G
  ⟨oL, es, ep, (G.rst _ (.head _)).1, a, b, d⟩

def TS {α : Type} (c : Cx) (A : Around) (env : Env) (σ : SS) (t : Sem α) (P : α → SS → Prop) : Prop :=
  ∀ rest h, Good c env σ rest h → T (model c.prog c.w) A h t fun a h' => ∃ σ', Good c env σ' rest h' ∧ P a σ'

/-- a call's promise: what it may turn (mu) goes to mu', what is kept grows -/
def CS {α : Type} (c : Cx) (A : Around) (g : Heap) (mu : List (Addr × Sp)) (t : Sem α) (P : α → Heap → List (Addr × Sp) → Prop) : Prop :=
  ∀ rest h, GoodC c.w c.K g mu rest h → T (model c.prog c.w) A h t fun a h' => ∃ g' mu', GoodC c.w c.K g' mu' rest h' ∧ Keeps g g' ∧ P a g' mu'

section
variable {α β : Type} {c : Cx} {A : Around} {env : Env} {σ : SS}
theorem TS.mono {t : Sem α} {P P' : α → SS → Prop} (H : TS c A env σ t P) (k : ∀ a σ', P a σ' → P' a σ') : TS c A env σ t P' :=
  fun rest h G => (H rest h G).mono fun a _ ⟨σ', G', p⟩ => ⟨σ', G', k a σ' p⟩
theorem TS.pure {a : α} {P : α → SS → Prop} (p : P a σ) : TS c A env σ (Pure.pure a) P := fun _ _ G => T.pure ⟨σ, G, p⟩
theorem TS.bind {m : Sem α} {f : α → Sem β} {P : β → SS → Prop} (H : TS c A env σ m fun a σ' => TS c A env σ' (f a) P) : TS c A env σ (m >>= f) P :=
  fun rest h G => T.bind ((H rest h G).mono fun _ h' ⟨_, G', p⟩ => p rest h' G')
/-- a tree that reads only -/
theorem TS.look {t : Sem α} {a : α} {P : α → SS → Prop} (H : ∀ rest h, Good c env σ rest h → T (model c.prog c.w) A h t fun b h' => b = a ∧ h' = h) (p : P a σ) : TS c A env σ t P :=
  fun rest h G => (H rest h G).mono fun _ _ ⟨e1, e2⟩ => by subst e1 e2; exact ⟨σ, G, p⟩
/-- the frame's own entry is another's while a call runs -/
theorem TS_call {tm rest' : List (Addr × Sp)} {t : Sem α} {Pc : α → Heap → List (Addr × Sp) → Prop} {P : α → SS → Prop} (C : CS c A σ.g tm t Pc) (hp : σ.mu.Perm (tm ++ rest'))
    (k : ∀ a g' tm', Keeps σ.g g' → Pc a g' tm' → P a ⟨g', σ.bs, tm' ++ rest'⟩) : TS c A env σ t P := by
  rintro rest h ⟨oL, n, G, nd⟩
  obtain ⟨bo, e, G', back⟩ := (G.perm hp).lay
  refine (C _ _ G').mono ?_
  rintro a h' ⟨g', tm', G'', q, p⟩
  exact ⟨⟨g', σ.bs, tm' ++ rest'⟩, ⟨oL, n, back _ _ _ G'', nd⟩, k a g' tm' q p⟩

theorem TS_seal {e mu' : List (Addr × Sp)} {t : Sem α} {P : α → SS → Prop} (hp : σ.mu.Perm (e ++ mu')) (k : ∀ g', Keeps σ.g g' → (∀ p ∈ e, At c.w g' p.1 p.2) → TS c A env ⟨g', σ.bs, mu'⟩ t P) : TS c A env σ t P := by
  rintro rest h ⟨oL, n, G, nd⟩
  obtain ⟨g', G', q, r⟩ := GoodC.seal (gone := []) (rest := (env.locals, oL) :: rest) (G.perm hp)
  exact k g' q r rest h ⟨oL, n, G', nd⟩

theorem Good.alloc {rest : List (Addr × Obj)} {h : Heap} (G : Good c env σ rest h) {sp : Sp} {o : Obj} (ok : sp.ok c.w o) (hf : o.isFreed = false) : Good c env ⟨σ.g, σ.bs, (h.objs.size, sp) :: σ.mu⟩ rest (h.push o) :=
  let ⟨oL, n, G, nd⟩ := G; ⟨oL, n, G.alloc ok hf, nd⟩
theorem Good.allocS {rest : List (Addr × Obj)} {h : Heap} (G : Good c env σ rest h) {sp : Sp} {o : Obj} (ok : sp.ok c.w o) (hf : o.isFreed = false) :
    ∃ g', Keeps σ.g g' ∧ At c.w g' h.objs.size sp ∧ Good c env ⟨g', σ.bs, σ.mu⟩ rest (h.push o) := by
  obtain ⟨oL, n, G, nd⟩ := G
  obtain ⟨g', G', q, r⟩ := GoodC.seal (e := [(h.objs.size, sp)]) (mu := σ.mu) (gone := []) (rest := (env.locals, oL) :: rest) (G.alloc ok hf)
  exact ⟨g', q, r _ (.head _), oL, n, G', nd⟩
theorem Good.base {rest : List (Addr × Obj)} {h : Heap} (G : Good c env σ rest h) : Base c.K h := let ⟨_, _, G, _⟩ := G; G.baseH
theorem Good.keep {rest : List (Addr × Obj)} {h : Heap} (G : Good c env σ rest h) : Keeps σ.g h := let ⟨_, _, G, _⟩ := G; G.keep

/-- what stands, be it kept for good or one that may turn -/
def Rd (w : World) (σ : SS) (a : Addr) (sp : Sp) : Prop := At w σ.g a sp ∨ (a, sp) ∈ σ.mu
theorem Rd.at {rest : List (Addr × Obj)} {h : Heap} {a : Addr} {sp : Sp} (R : Rd c.w σ a sp) (G : Good c env σ rest h) : At c.w h a sp := by
  obtain ⟨oL, n, G, nd⟩ := G
  rcases R with R | R
  · exact R.mono G.keep
  · exact (G.own _ R).1
end

/-! ## names -/
inductive SetL (x : Str) (v : Value) : List (Str × Option Value) → List (Str × Option Value) → Prop
  | head {u r} : SetL x v ((x, u) :: r) ((x, some v) :: r)
  | tail {p r r'} : SetL x v r r' → SetL x v (p :: r) (p :: r')
theorem SetL.keys {x v} {l l' : List (Str × Option Value)} (u : SetL x v l l') : l'.map (·.1) = l.map (·.1) := by
  induction u with
  | head => rfl
  | tail _ ih => simp [ih]
theorem SetL.mem {x v} {l l' : List (Str × Option Value)} (u : SetL x v l l') : x ∈ l.map (·.1) := by
  induction u with
  | head => exact .head _
  | tail _ ih => exact .tail _ ih
theorem SetL.lk {x v} {l l' : List (Str × Option Value)} (u : SetL x v l l') (nd : (l.map (·.1)).Nodup) : ∀ y, (if y = x then some v else Mine.lk l y) = Mine.lk l' y := by
  induction u with
  | @head u r =>
    intro y
    show _ = (List.lookup y ((x, some v) :: r)).join
    show (if y = x then some v else (List.lookup y ((x, u) :: r)).join) = _
    rw [List.lookup_cons, List.lookup_cons]
    by_cases e : y = x
    · subst e; simp
    · have : (y == x) = false := beq_eq_false_iff_ne.mpr e
      simp [e, this]
  | @tail p r r' u ih =>
    intro y
    simp only [List.map_cons, List.nodup_cons] at nd
    have ih := ih nd.2 y
    obtain ⟨p, po⟩ := p
    show (if y = x then some v else (List.lookup y ((p, po) :: r)).join) = (List.lookup y ((p, po) :: r')).join
    rw [List.lookup_cons, List.lookup_cons]
    by_cases e : y = p
    · subst e
      have hx : y ≠ x := fun e => nd.1 (e ▸ u.mem)
      simp [hx]
    · have : (y == p) = false := beq_eq_false_iff_ne.mpr e
      simp only [this]
      exact ih

theorem NsObj.of {h : Heap} {a : Addr} {m : Str → Option Value} (n : h.Ns a m) : ∃ o, h.get? a = some o ∧ NsObj o m := let ⟨o, es, ep, e, r⟩ := n; ⟨o, e, es, ep, r⟩

section
variable {c : Cx} {A : Around} {env : Env} {σ : SS} {names : List (Str × NameKind)} {cl : List (Str × Addr)}

theorem lk_of_mem {bs : List (Str × Option Value)} (nd : (bs.map (·.1)).Nodup) {x : Str} {v : Value} (h : (x, some v) ∈ bs) : lk bs x = some v := by
  unfold lk; rw [lookup_of_nd nd h]; rfl

theorem TS_local {x : Str} {pos : Pos} {v : Value} {P : Value → SS → Prop} (E : EnvIs env names cl) (hx : (x, NameKind.local) ∈ names) (hb : (x, some v) ∈ σ.bs) (p : P v σ) : TS c A env σ (eval (.Name x pos) env) P := by
  refine TS.look (a := v) (fun rest h G s hs => ?_) p
  subst hs
  have n := G.ns
  obtain ⟨_, _, _, nd⟩ := G
  exact wpAny_Name (wpAny_loadName_local E.kind (E.kindOf hx) n (lk_of_mem nd hb) ⟨⟨rfl, rfl⟩, .refl s⟩) (E.plain _ hx).1

theorem TS_cell {x : Str} {pos : Pos} {a : Addr} {v : Value} {P : Value → SS → Prop} (E : EnvIs env names cl) (hx : (x, NameKind.cell) ∈ names) (hc : cl.lookup x = some a) (R : Rd c.w σ a (.cell (some v))) (p : P v σ) : TS c A env σ (eval (.Name x pos) env) P := by
  refine TS.look (a := v) (fun rest h G s hs => ?_) p
  subst hs
  exact wpAny_Name (wpAny_loadName_cell E.kind (E.kindOf hx) (E.cells ▸ hc) (R.at G) ⟨⟨rfl, rfl⟩, .refl s⟩) (E.plain _ hx).1

theorem TS_global {x : Str} {pos : Pos} {v : Value} {P : Value → SS → Prop} (E : EnvIs env names cl) (hx : (x, NameKind.globalImplicit) ∈ names) (e : nsIn c.K mainGlobals x = some (some v)) (p : P v σ) : TS c A env σ (eval (.Name x pos) env) P := by
  refine TS.look (a := v) (fun rest h G s hs => ?_) p
  subst hs
  have B := G.base
  obtain ⟨mg, hg⟩ := B.globs
  exact Name_function_global E.kind (E.kindOf hx) (loadGlobal_global (E.globals ▸ hg) (mg_of B.X hg e) ⟨⟨rfl, rfl⟩, .refl s⟩) (E.plain _ hx).1

theorem TS_builtin {x : Str} {pos : Pos} {v : Value} {P : Value → SS → Prop} (E : EnvIs env names cl) (hx : (x, NameKind.globalImplicit) ∈ names) (e : nsIn c.K mainGlobals x = some none) (hv : bootBuiltins x = some v) (p : P v σ) : TS c A env σ (eval (.Name x pos) env) P := by
  refine TS.look (a := v) (fun rest h G s hs => ?_) p
  subst hs
  have B := G.base
  obtain ⟨mg, hg⟩ := B.globs
  obtain ⟨mb, hb, hbb⟩ := B.blt
  exact Name_function_global E.kind (E.kindOf hx) (loadGlobal_builtin (E.globals ▸ hg) (mg_none_of B.X hg e) (E.builtins ▸ hb) ((hbb _ (E.plain _ hx).2.2).trans hv) ⟨⟨rfl, rfl⟩, .refl s⟩) (E.plain _ hx).1

theorem TS_storeName {x : Str} {v : Value} {P : Unit → SS → Prop} (E : EnvIs env names cl) (hx : (x, NameKind.local) ∈ names) (p : ∃ bs', SetL x v σ.bs bs' ∧ P () ⟨σ.g, bs', σ.mu⟩) : TS c A env σ (storeName env x v) P := by
  obtain ⟨bs', u, p⟩ := p
  intro rest h G s hs
  subst hs
  refine wpAny_storeName_local (E.kindOf hx) G.ns (fun h' hn hs => ?_) E.hp
  refine ⟨⟨⟨σ.g, bs', σ.mu⟩, ?_, p⟩, rfl⟩
  obtain ⟨oL, n, G, nd⟩ := G
  obtain ⟨oL', e', n'⟩ := NsObj.of hn
  refine ⟨oL', ?_, ?_, by rw [u.keys]; exact nd⟩
  · obtain ⟨es, ep, a, b, d⟩ := n'
    exact ⟨es, ep, a, b, fun y => (d y).trans (u.lk nd y)⟩
  · have hL := G.rst _ (.head _)
    have dis := G.dis
    simp only [List.map_cons] at dis
    refine ⟨G.base, fun b o q => ?_, fun q hq => ?_, fun q hq => ?_, by simpa only [List.map_cons] using dis⟩
    · refine (hs.2 b ?_).trans (G.keep b o q)
      rintro rfl
      rw [hL.2] at q; cases q
    · obtain ⟨⟨o, e, ok⟩, nn⟩ := G.own q hq
      refine ⟨⟨o, (hs.2 q.1 ?_).trans e, ok⟩, nn⟩
      intro eq
      exact (List.nodup_append.mp dis).2.2 _ (List.mem_map_of_mem hq) _ (.head _) eq
    · rcases List.mem_cons.mp hq with rfl | hq
      · exact ⟨e', hL.2⟩
      · refine ⟨(hs.2 q.1 ?_).trans (G.rst q (.tail _ hq)).1, (G.rst q (.tail _ hq)).2⟩
        intro eq
        have := (List.nodup_append.mp dis).2.1
        simp only [List.nodup_cons] at this
        exact this.1 (eq ▸ List.mem_map_of_mem hq)

theorem TS_storeCell {x : Str} {a : Addr} {v : Value} {v₀ : Option Value} {P : Unit → SS → Prop} (E : EnvIs env names cl) (hx : (x, NameKind.cell) ∈ names) (hc : cl.lookup x = some a) (p : ∃ mu', Upd1 a (.cell v₀) (.cell (some v)) σ.mu mu' ∧ P () ⟨σ.g, σ.bs, mu'⟩) :
    TS c A env σ (storeName env x v) P := by
  obtain ⟨mu', u, p⟩ := p
  intro rest h G s hs
  subst hs
  obtain ⟨oL, n, G, nd⟩ := G
  refine wpAny_storeName_cell E.kind (E.kindOf hx) (E.cells ▸ hc) (G.own _ u.mem).1 fun h' hv hs => ?_
  exact ⟨⟨⟨σ.g, σ.bs, mu'⟩, ⟨oL, n, G.upd u hs hv, nd⟩, p⟩, rfl⟩
end

/-! ## expressions -/
section
variable {c : Cx} {A : Around} {env : Env} {σ : SS} {names : List (Str × NameKind)} {cl : List (Str × Addr)}

theorem TS.of {α : Type} {t : Sem α} {P : α → SS → Prop}
    (H : ∀ rest s, Good c env σ rest s.heap → wpAny (model c.prog c.w) A t (fun a s' => (∃ σ', Good c env σ' rest s'.heap ∧ P a σ') ∧ Sim s s') (fun _ _ => False) s) : TS c A env σ t P :=
  fun rest _ G s hs => H rest s (hs ▸ G)
theorem TS.run {α : Type} {t : Sem α} {P : α → SS → Prop} (H : TS c A env σ t P) {rest : List (Addr × Obj)} {s : Shared} (G : Good c env σ rest s.heap) {Q : α → Shared → Prop} {E : Value → Shared → Prop}
    (k : ∀ a s' σ', Good c env σ' rest s'.heap → P a σ' → Sim s s' → Q a s') : wpAny (model c.prog c.w) A t Q E s :=
  (H rest s.heap G).use rfl fun a s' ⟨σ', G', p⟩ q => k a s' σ' G' p q

theorem TS_int {i : Int} {k : Nat} {pos : Pos} {P : Value → SS → Prop} (p : ∀ t, P (.int i t) σ) : TS c A env σ (eval (.Constant (.int i) k pos) env) P :=
  TS.of fun _ s G => wpAny_Constant_int ⟨⟨σ, G, p _⟩, rfl⟩
theorem TS_bool {b : Bool} {k : Nat} {pos : Pos} {P : Value → SS → Prop} (p : P (.bool b) σ) : TS c A env σ (eval (.Constant (.bool b) k pos) env) P :=
  TS.of fun _ s G => wpAny_Constant_bool ⟨⟨σ, G, p⟩, .refl s⟩
theorem TS_none {k : Nat} {pos : Pos} {P : Value → SS → Prop} (p : P .none σ) : TS c A env σ (eval (.Constant .none k pos) env) P :=
  TS.of fun _ s G => wpAny_Constant_none ⟨⟨σ, G, p⟩, .refl s⟩

theorem TS_BinOp {l r : Expr} {op : Operator} {pos : Pos} {P : Value → SS → Prop} (H : TS c A env σ (eval l env) fun a σ1 => TS c A env σ1 (eval r env) fun b σ2 => TS c A env σ2 (binaryOp op a b) P) :
    TS c A env σ (eval (.BinOp l op r pos) env) P :=
  TS.of fun _ _ G => wpAny_BinOp (H.run G fun _ _ _ G1 H1 q1 => H1.run G1 fun _ _ _ G2 H2 q2 => H2.run G2 fun _ _ σ3 G3 p q3 => ⟨⟨σ3, G3, p⟩, (q1.trans q2).trans q3⟩)

theorem TS_Compare1 {l r : Expr} {op : CmpOp} {pos : Pos} {P : Value → SS → Prop} (H : TS c A env σ (eval l env) fun a σ1 => TS c A env σ1 (eval r env) fun b σ2 => TS c A env σ2 (compareOp op a b) P)
    (hm : behindInMarks op r = false := by with_unfolding_all rfl) : TS c A env σ (eval (.Compare l [op] [r] pos) env) P :=
  TS.of fun _ _ G => wpAny_Compare1 (H.run G fun _ _ _ G1 H1 q1 => H1.run G1 fun _ _ _ G2 H2 q2 => H2.run G2 fun _ _ σ3 G3 p q3 => ⟨⟨σ3, G3, p⟩, (q1.trans q2).trans q3⟩) hm

theorem TS_isTrue1 {l r : Expr} {op : CmpOp} {pos : Pos} {whole : Sem Value} {P : Bool → SS → Prop}
    (H : TS c A env σ (eval l env) fun a σ1 => TS c A env σ1 (eval r env) fun b σ2 => TS c A env σ2 (compareOp op a b) fun v σ3 => TS c A env σ3 (truthy v) P)
    (hm : behindInMarks op r = false := by with_unfolding_all rfl) : TS c A env σ (isTrue (.Compare l [op] [r] pos) env whole) P :=
  TS.of fun _ _ G => wpAny_isTrue_Compare1 (H.run G fun _ _ _ G1 H1 q1 => H1.run G1 fun _ _ _ G2 H2 q2 => H2.run G2 fun _ _ _ G3 H3 q3 => H3.run G3 fun _ _ σ4 G4 p q4 => ⟨⟨σ4, G4, p⟩, ((q1.trans q2).trans q3).trans q4⟩) hm

theorem TS_isTrueV {e : Expr} {whole : Sem Value} {P : Bool → SS → Prop} (H : TS c A env σ whole fun v σ1 => TS c A env σ1 (truthy v) P)
    (he : isTrue e env whole = (do let v ← whole; standAt e.pos; holding [v] (truthy v)) := by rfl) : TS c A env σ (isTrue e env whole) P :=
  TS.of fun _ _ G => wpAny_isTrue_value (H.run G fun _ _ _ G1 H1 q1 => H1.run G1 fun _ _ σ2 G2 p q2 => ⟨⟨σ2, G2, p⟩, q1.trans q2⟩) he

theorem TS_isTrueNot {x : Expr} {pos : Pos} {whole : Sem Value} {P : Bool → SS → Prop} (H : TS c A env σ (isTrue x env (eval x env)) fun b σ1 => P (!b) σ1) : TS c A env σ (isTrue (.UnaryOp .Not x pos) env whole) P :=
  TS.of fun _ _ G => wpAny_isTrue_Not (H.run G fun _ _ σ1 G1 p q1 => ⟨⟨σ1, G1, p⟩, q1⟩)

theorem TS_isTrueBool {op : BoolOp} {values : List Expr} {pos : Pos} {whole : Sem Value} {P : Bool → SS → Prop} (H : TS c A env σ (allTrue op values env) P) : TS c A env σ (isTrue (.BoolOp op values pos) env whole) P :=
  TS.of fun _ _ G => wpAny_isTrue_BoolOp (H.run G fun _ _ σ1 G1 p q1 => ⟨⟨σ1, G1, p⟩, q1⟩)
theorem TS_and_nil {P : Bool → SS → Prop} (p : P true σ) : TS c A env σ (allTrue .And [] env) P := TS.of fun _ s G => wpAny_allTrue_And_nil ⟨⟨σ, G, p⟩, .refl s⟩
theorem TS_or_nil {P : Bool → SS → Prop} (p : P false σ) : TS c A env σ (allTrue .Or [] env) P := TS.of fun _ s G => wpAny_allTrue_Or_nil ⟨⟨σ, G, p⟩, .refl s⟩
theorem TS_and_cons {x : Expr} {rest : List Expr} {P : Bool → SS → Prop} (H : TS c A env σ (isTrue x env (eval x env)) fun b σ1 => if b then TS c A env σ1 (allTrue .And rest env) P else P false σ1) : TS c A env σ (allTrue .And (x :: rest) env) P :=
  TS.of fun _ _ G => wpAny_allTrue_And_cons (H.run G fun b _ σ1 G1 p q1 => by
    cases b with
    | true => exact TS.run p G1 fun _ _ σ2 G2 p q2 => ⟨⟨σ2, G2, p⟩, q1.trans q2⟩
    | false => exact ⟨⟨σ1, G1, p⟩, q1⟩)
theorem TS_or_cons {x : Expr} {rest : List Expr} {P : Bool → SS → Prop} (H : TS c A env σ (isTrue x env (eval x env)) fun b σ1 => if b then P true σ1 else TS c A env σ1 (allTrue .Or rest env) P) : TS c A env σ (allTrue .Or (x :: rest) env) P :=
  TS.of fun _ _ G => wpAny_allTrue_Or_cons (H.run G fun b _ σ1 G1 p q1 => by
    cases b with
    | false => exact TS.run p G1 fun _ _ σ2 G2 p q2 => ⟨⟨σ2, G2, p⟩, q1.trans q2⟩
    | true => exact ⟨⟨σ1, G1, p⟩, q1⟩)

theorem TS_IfExp {test body orelse : Expr} {pos : Pos} {P : Value → SS → Prop} (H : TS c A env σ (isTrue test env (eval test env)) fun b σ1 => if b then TS c A env σ1 (eval body env) P else TS c A env σ1 (eval orelse env) P) :
    TS c A env σ (eval (.IfExp test body orelse pos) env) P :=
  TS.of fun _ _ G => wpAny_IfExp (H.run G fun b _ _ G1 H1 q1 => by
    cases b with
    | true => exact TS.run H1 G1 fun _ _ σ2 G2 p q2 => ⟨⟨σ2, G2, p⟩, q1.trans q2⟩
    | false => exact TS.run H1 G1 fun _ _ σ2 G2 p q2 => ⟨⟨σ2, G2, p⟩, q1.trans q2⟩)

theorem TS_Subscript {value slice : Expr} {pos : Pos} {P : Value → SS → Prop} (H : TS c A env σ (eval value env) fun o σ1 => TS c A env σ1 (eval slice env) fun i σ2 => TS c A env σ2 (subscriptTail value slice o i) P) :
    TS c A env σ (eval (.Subscript value slice pos) env) P :=
  TS.of fun _ _ G => Subscript_ (H.run G fun _ _ _ G1 H1 q1 => H1.run G1 fun _ _ _ G2 H2 q2 => H2.run G2 fun _ _ σ3 G3 p q3 => ⟨⟨σ3, G3, p⟩, (q1.trans q2).trans q3⟩)

theorem TS_Attribute {value : Expr} {attr : Str} {pos : Pos} {P : Value → SS → Prop} (H : TS c A env σ (eval value env) fun o σ1 => TS c A env σ1 (getAttr o attr true) P)
    (he : eval (.Attribute value attr pos) env = (do
      let o ← eval value env
      standAt pos.atName
      let r ← holding [o] (getAttr o attr true)
      letTemporaryGo value o r
      pure r) := by with_unfolding_all rfl) : TS c A env σ (eval (.Attribute value attr pos) env) P :=
  TS.of fun _ _ G => Attribute_any_ (H.run G fun _ _ _ G1 H1 q1 => H1.run G1 fun _ _ σ2 G2 p q2 => ⟨⟨σ2, G2, p⟩, q1.trans q2⟩) he

/-! ### tuples and lists displayed -/
def EvL (c : Cx) (A : Around) (env : Env) (σ : SS) : List Expr → (List Value → SS → Prop) → Prop
  | [], P => P [] σ
  | e :: r, P => TS c A env σ (eval e env) fun v σ1 => EvL c A env σ1 r fun vs σ2 => P (v :: vs) σ2

theorem EvL.run : ∀ {es : List Expr} {σ : SS} {P : List Value → SS → Prop}, EvL c A env σ es P → ∀ {pos : Pos} {rest : List (Addr × Obj)} {s : Shared}, Good c env σ rest s.heap → ∀ {Q : List Value → Shared → Prop} {E : Value → Shared → Prop},
    (∀ vs s' σ', Good c env σ' rest s'.heap → vs.length = es.length → P vs σ' → Sim s s' → Q vs s') → wpAny (model c.prog c.w) A (spliced (backTo pos (es.map fun e => (false, eval e env)))) Q E s
  | [], σ, P, H, pos, rest, s, G, Q, E, k => Calls.spliced_nil (k [] s σ G rfl H (.refl s))
  | e :: r, σ, P, H, pos, rest, s, G, Q, E, k => by
    show wpAny _ _ (spliced ((false, eval e env) :: backTo pos (r.map fun e => (false, eval e env)))) _ _ _
    rw [spliced]
    refine wpAny_bind (TS.run H G fun v s1 σ1 G1 H1 q1 => ?_)
    refine wpAny_bind (wpAny_pure (wpAny_bind (wpAny_holding (EvL.run H1 G1 fun vs s2 σ2 G2 len p q2 => wpAny_pure ?_))))
    exact k (v :: vs) s2 σ2 G2 (by simp [len]) p (q1.trans q2)

def isStar : Expr → Bool
  | .Starred .. => true
  | _ => false
def noStar (es : List Expr) : Bool := !(es.any isStar)
theorem starEach_plain {es : List Expr} : noStar es = true → starEach es env = es.map fun e => (false, eval e env) := by
  induction es with
  | nil => intro _; exact rfl
  | cons e r ih =>
    intro h
    cases e with
    | Starred v p => cases h
    | _ => exact congrArg _ (ih h)

theorem TS_Tuple {elts : List Expr} {k : Nat} {pos : Pos} {P : Value → SS → Prop} (hn : noStar elts = true) (hl : elts.length ≤ 1000)
    (H : EvL c A env σ elts fun vs σ1 => ∀ a g', Keeps σ1.g g' → At c.w g' a (.tup vs) → P (.ref a) ⟨g', σ1.bs, σ1.mu⟩) : TS c A env σ (eval (.Tuple elts k pos) env) P :=
  TS.of fun _ _ G => wpAny_Tuple (by
    rw [starEach_plain hn]
    refine EvL.run H G fun vs s1 σ1 G1 len p q1 => ⟨by rw [len, sizeLine_eq]; (first | lia | omega), ?_⟩
    obtain ⟨g', kk, a, G'⟩ := G1.allocS (sp := .tup vs) (o := tupOb vs 0) ⟨0, rfl⟩ rfl
    exact ⟨⟨_, G', p _ g' kk a⟩, q1.trans rfl⟩)

theorem TS_List {elts : List Expr} {pos : Pos} {P : Value → SS → Prop} (hn : noStar elts = true) (hl : elts.length ≤ 1000)
    (H : EvL c A env σ elts fun vs σ1 => ∀ a, P (.ref a) ⟨σ1.g, σ1.bs, (a, .list vs) :: σ1.mu⟩) : TS c A env σ (eval (.List elts pos) env) P :=
  TS.of fun _ _ G => wpAny_List (by
    rw [starEach_plain hn]
    refine EvL.run H G fun vs s1 σ1 G1 len p q1 => ⟨by rw [len, sizeLine_eq]; (first | lia | omega), ?_⟩
    exact ⟨⟨_, G1.alloc (sp := .list vs) (o := listOb vs 0) ⟨0, rfl⟩ rfl, p _⟩, q1.trans rfl⟩)
end
theorem Sim.mk (s : Shared) (h : Heap) (t : Nat) : Sim s { s with heap := h, toks := t } := rfl

/-! ## statements -/
def XS (c : Cx) (A : Around) (env : Env) (σ : SS) (ss : List Stmt) (N : SS → Prop) (R : Value → SS → Prop) : Prop :=
  TS c A env σ (execs ss env) fun f σ' => match f with
    | .next => N σ'
    | .ret v => R v σ'
    | _ => False

section
variable {c : Cx} {A : Around} {env : Env} {σ : SS} {names : List (Str × NameKind)} {cl : List (Str × Addr)} {N : SS → Prop} {R : Value → SS → Prop} {rest : List Stmt}

theorem XS_nil (p : N σ) : XS c A env σ [] N R := TS.of fun _ s G => wpAny_execs_nil ⟨⟨σ, G, p⟩, .refl s⟩

theorem XS_cons {st : Stmt} (H : TS c A env σ (exec st env) fun f σ1 => match f with
    | .next => XS c A env σ1 rest N R
    | .ret v => R v σ1
    | _ => False) : XS c A env σ (st :: rest) N R :=
  TS.of fun _ s G => wpAny_execs_cons (H.run G fun f s1 σ1 G1 p q1 => by
    cases f with
    | next => exact TS.run (P := _) p G1 fun f2 s2 σ2 G2 p2 q2 => ⟨⟨σ2, G2, p2⟩, q1.trans q2⟩
    | ret v => exact ⟨⟨σ1, G1, p⟩, q1⟩
    | brk => exact p.elim
    | cont => exact p.elim)

theorem XS_ret {e : Expr} {pos : Pos} (H : TS c A env σ (eval e env) R) : XS c A env σ (.Return (some e) pos :: rest) N R :=
  XS_cons (TS.of fun _ s G => wpAny_Return_some (H.run G fun v s1 σ1 G1 p q1 => ⟨⟨σ1, G1, p⟩, q1⟩))

theorem XS_if {test : Expr} {body orelse : List Stmt} {pos : Pos}
    (H : TS c A env σ (isTrue test env (eval test env)) fun b σ1 => if b then XS c A env σ1 body (fun σ2 => XS c A env σ2 rest N R) R else XS c A env σ1 orelse (fun σ2 => XS c A env σ2 rest N R) R) :
    XS c A env σ (.If test body orelse pos :: rest) N R :=
  XS_cons (TS.of fun _ s G => wpAny_If (H.run G fun b s1 σ1 G1 p q1 => by
    cases b with
    | true =>
      refine TS.run (P := _) p G1 fun f s2 σ2 G2 p2 q2 => ⟨⟨σ2, G2, ?_⟩, q1.trans q2⟩
      cases f <;> exact p2
    | false =>
      refine TS.run (P := _) p G1 fun f s2 σ2 G2 p2 q2 => ⟨⟨σ2, G2, ?_⟩, q1.trans q2⟩
      cases f <;> exact p2))

theorem XS_assign {x : Str} {px : Pos} {e : Expr} {pos : Pos} (E : EnvIs env names cl) (hx : (x, NameKind.local) ∈ names)
    (H : TS c A env σ (eval e env) fun v σ1 => ∃ bs', SetL x v σ1.bs bs' ∧ XS c A env ⟨σ1.g, bs', σ1.mu⟩ rest N R) (hs : swapsWith e (some (.Name x px)) pos.line env = pure false := by rfl) :
    XS c A env σ (.Assign [.Name x px] e pos :: rest) N R :=
  XS_cons (TS.of fun _ s G => wpAny_Assign_Name (H.run G fun v s1 σ1 G1 p q1 => (TS_storeName (P := fun _ σ2 => XS c A env σ2 rest N R) E hx p).run G1 fun _ s2 σ2 G2 p2 q2 => ⟨⟨σ2, G2, p2⟩, q1.trans q2⟩) hs)

theorem XS_assignCell {x : Str} {px : Pos} {e : Expr} {pos : Pos} {a : Addr} (E : EnvIs env names cl) (hx : (x, NameKind.cell) ∈ names) (hc : cl.lookup x = some a)
    (H : TS c A env σ (eval e env) fun v σ1 => ∃ v₀ mu', Upd1 a (.cell v₀) (.cell (some v)) σ1.mu mu' ∧ XS c A env ⟨σ1.g, σ1.bs, mu'⟩ rest N R) (hs : swapsWith e (some (.Name x px)) pos.line env = pure false := by rfl) :
    XS c A env σ (.Assign [.Name x px] e pos :: rest) N R :=
  XS_cons (TS.of fun _ s G => wpAny_Assign_Name (H.run G fun v s1 σ1 G1 ⟨_, mu', u, p⟩ q1 => (TS_storeCell (P := fun _ σ2 => XS c A env σ2 rest N R) E hx hc ⟨mu', u, p⟩).run G1 fun _ s2 σ2 G2 p2 q2 => ⟨⟨σ2, G2, p2⟩, q1.trans q2⟩) hs)

theorem XS_setattr {o : Expr} {attr : Str} {px : Pos} {e : Expr} {pos : Pos}
    (H : TS c A env σ (eval e env) fun v σ1 => TS c A env σ1 (eval o env) fun ov σ2 => TS c A env σ2 (setAttr ov attr v) fun _ σ3 => XS c A env σ3 rest N R)
    (hs : swapsWith e (some (.Attribute o attr px)) pos.line env = pure false := by rfl) : XS c A env σ (.Assign [.Attribute o attr px] e pos :: rest) N R :=
  XS_cons (TS.of fun _ s G => plainObj_wpAny_Assign_Attribute (H.run G fun v s1 σ1 G1 H1 q1 => H1.run G1 fun ov s2 σ2 G2 H2 q2 => H2.run G2 fun _ s3 σ3 G3 p q3 => ⟨⟨σ3, G3, p⟩, (q1.trans q2).trans q3⟩) hs)

theorem XS_setitem {o i : Expr} {px : Pos} {e : Expr} {pos : Pos}
    (H : TS c A env σ (eval e env) fun v σ1 => TS c A env σ1 (eval o env) fun ov σ2 => TS c A env σ2 (eval i env) fun iv σ3 => TS c A env σ3 (setItem ov iv v) fun _ σ4 => XS c A env σ4 rest N R)
    (hs : swapsWith e (some (.Subscript o i px)) pos.line env = pure false := by rfl) : XS c A env σ (.Assign [.Subscript o i px] e pos :: rest) N R :=
  XS_cons (TS.of fun _ s G => wpAny_Assign_Subscript (H.run G fun v s1 σ1 G1 H1 q1 => H1.run G1 fun ov s2 σ2 G2 H2 q2 => H2.run G2 fun iv s3 σ3 G3 H3 q3 => H3.run G3 fun _ s4 σ4 G4 p q4 => ⟨⟨σ4, G4, p⟩, ((q1.trans q2).trans q3).trans q4⟩) hs)

theorem interactive_fn (E : EnvIs env names cl) : interactive env = false := by
  unfold interactive
  rw [E.kind]; rfl

theorem XS_expr {e : Expr} {pos : Pos} (E : EnvIs env names cl) (H : TS c A env σ (eval e env) fun _ σ1 => XS c A env σ1 rest N R) (hs : swapsWith e none pos.line env = pure false := by rfl) : XS c A env σ (.Expr e pos :: rest) N R :=
  XS_cons (TS.of fun _ s G => wpAny_Expr_any (H.run G fun v s1 σ1 G1 p q1 => ⟨⟨σ1, G1, p⟩, q1⟩) (interactive_fn E) hs)

/-- one target after the other -/
def AsgL (c : Cx) (A : Around) (env : Env) (σ : SS) : List Expr → List Value → (SS → Prop) → Prop
  | t :: ts, v :: vs, P => TS c A env σ (assign t env v) fun _ σ1 => AsgL c A env σ1 ts vs P
  | _, _, P => P σ

theorem TS_assignName {x : Str} {px : Pos} {v : Value} {P : Unit → SS → Prop} (E : EnvIs env names cl) (hx : (x, NameKind.local) ∈ names) (p : ∃ bs', SetL x v σ.bs bs' ∧ P () ⟨σ.g, bs', σ.mu⟩) : TS c A env σ (assign (.Name x px) env v) P :=
  TS.of fun _ s G => wpAny_assign_Name ((TS_storeName (P := P) E hx p).run G fun _ s1 σ1 G1 p q => ⟨⟨σ1, G1, p⟩, q⟩)
theorem TS_assignCell {x : Str} {px : Pos} {a : Addr} {v : Value} {v₀ : Option Value} {P : Unit → SS → Prop} (E : EnvIs env names cl) (hx : (x, NameKind.cell) ∈ names) (hc : cl.lookup x = some a) (p : ∃ mu', Upd1 a (.cell v₀) (.cell (some v)) σ.mu mu' ∧ P () ⟨σ.g, σ.bs, mu'⟩) :
    TS c A env σ (assign (.Name x px) env v) P :=
  TS.of fun _ s G => wpAny_assign_Name ((TS_storeCell (P := P) E hx hc p).run G fun _ s1 σ1 G1 p q => ⟨⟨σ1, G1, p⟩, q⟩)
theorem TS_assignAttr {o : Expr} {attr : Str} {px : Pos} {v : Value} {P : Unit → SS → Prop} (H : TS c A env σ (eval o env) fun ov σ1 => TS c A env σ1 (setAttr ov attr v) P) : TS c A env σ (assign (.Attribute o attr px) env v) P :=
  TS.of fun _ s G => by
    show wpAny _ _ (do let ov ← holding [v] (eval o env); standAt px.atName; holding [v, ov] (setAttr ov attr v); release [v, ov] []) _ _ _
    refine wpAny_bind (wpAny_holding (H.run G fun ov s1 σ1 G1 H1 q1 => wpAny_bind (wpAny_standAt (wpAny_bind (wpAny_holding (H1.run G1 fun _ s2 σ2 G2 p q2 => wpAny_release ⟨⟨σ2, G2, p⟩, q1.trans q2⟩))))))

theorem AsgL.run : ∀ {ts : List Expr} {vs : List Value} {σ : SS} {P : SS → Prop}, AsgL c A env σ ts vs P → ∀ {rs : List (Addr × Obj)} {s : Shared}, Good c env σ rs s.heap → ∀ {Q : Unit → Shared → Prop} {E : Value → Shared → Prop},
    (∀ s' σ', Good c env σ' rs s'.heap → P σ' → Sim s s' → Q () s') → wpAny (model c.prog c.w) A (assignInOrder (ts.map fun t => assign t env) vs) Q E s
  | [], vs, σ, P, H, rs, s, G, Q, E, k => by cases vs <;> exact wpAny_pure (k s σ G H (.refl s))
  | t :: ts, [], σ, P, H, rs, s, G, Q, E, k => wpAny_pure (k s σ G H (.refl s))
  | t :: ts, v :: vs, σ, P, H, rs, s, G, Q, E, k => by
    show wpAny _ _ (do holding vs (assign t env v); assignInOrder (ts.map fun t => assign t env) vs) _ _ _
    refine wpAny_bind (wpAny_holding (TS.run H G fun _ s1 σ1 G1 H1 q1 => ?_))
    exact AsgL.run H1 G1 fun s2 σ2 G2 p q2 => k s2 σ2 G2 p (q1.trans q2)

theorem assignEach_plain {es : List Expr} : noStar es = true → assignEach es env = es.map fun e => (false, assign e env) := by
  induction es with
  | nil => intro _; exact rfl
  | cons e r ih =>
    intro h
    cases e with
    | Starred v p => cases h
    | _ => exact congrArg _ (ih h)

theorem At.tuple {w : World} {h : Heap} {a : Addr} {vs : List Value} (x : At w h a (.tup vs)) : h.IsTuple a vs.toArray := by
  obtain ⟨o, e, n, rfl⟩ := x
  exact ⟨_, e, rfl, n, rfl⟩
theorem At.isTup {w : World} {h : Heap} {a : Addr} {vs : List Value} (x : At w h a (.tup vs)) : IsTup h a vs.toArray := by
  obtain ⟨o, e, n, rfl⟩ := x
  exact ⟨_, e, rfl, n, rfl⟩
theorem At.isList {w : World} {h : Heap} {a : Addr} {vs : List Value} (x : At w h a (.list vs)) : h.IsList a vs.toArray := by
  obtain ⟨o, e, n, rfl⟩ := x
  exact ⟨_, e, rfl, n, rfl⟩
theorem At.toList {w : World} {h : Heap} {a : Addr} {xs : List Int} (x : At w h a (.intl xs)) : ∃ vs, At w h a (.list vs) ∧ IntsAre vs xs := by
  obtain ⟨o, e, vs, n, rfl, i⟩ := x
  exact ⟨vs, ⟨_, e, n, rfl⟩, i⟩
theorem At.ofList {w : World} {h : Heap} {a : Addr} {vs : List Value} {xs : List Int} (x : At w h a (.list vs)) (i : IntsAre vs xs) : At w h a (.intl xs) := by
  obtain ⟨o, e, n, rfl⟩ := x
  exact ⟨_, e, vs, n, rfl, i⟩

theorem Good.ext {rs : List (Addr × Obj)} {h h' : Heap} (G : Good c env σ rs h) (hx : Heap.ExtBut h.objs.size h h') : Good c env σ rs h' := by
  obtain ⟨oL, n, G, nd⟩ := G
  have up : ∀ b o, h.get? b = some o → h'.get? b = some o := fun b o e => hx b o (Nat.ne_of_lt (Heap.lt_size e)) e
  exact ⟨oL, n, ⟨G.base, fun b o e => up b o (G.keep b o e), fun p hp => ⟨(G.own p hp).1.mono up, (G.own p hp).2⟩, fun p hp => ⟨up _ _ (G.rst p hp).1, (G.rst p hp).2⟩, G.dis⟩, nd⟩
theorem GoodC.up {w : World} {K : Frag} {g : Heap} {mu : List (Addr × Sp)} {rs : List (Addr × Obj)} {h h' : Heap} (G : GoodC w K g mu rs h) (up : Keeps h h') : GoodC w K g mu rs h' :=
  ⟨G.base, G.keep.trans up, fun p hp => ⟨(G.own p hp).1.mono up, (G.own p hp).2⟩, fun p hp => ⟨up _ _ (G.rst p hp).1, (G.rst p hp).2⟩, G.dis⟩
theorem Good.up {rs : List (Addr × Obj)} {h h' : Heap} (G : Good c env σ rs h) (up : Keeps h h') : Good c env σ rs h' :=
  let ⟨oL, n, G, nd⟩ := G; ⟨oL, n, G.up up, nd⟩

theorem TS_assignTuple {elts : List Expr} {k : Nat} {pos : Pos} {t : Addr} {vs : List Value} {P : Unit → SS → Prop} {m : Nat} (M : Rm A m) (hn : noStar elts = true) (ht : Rd c.w σ t (.tup vs)) (hl : elts.length = vs.length) (H : AsgL c A env σ elts vs (P ())) :
    TS c A env σ (assign (.Tuple elts k pos) env (.ref t)) P :=
  TS.of fun _ s G => by
    have e := assignEach_plain (env := env) hn
    refine wpAny_assign_Tuple M.hd (ht.at G).tuple (by rw [e]; simp [hl]) (by rw [e]; simp) fun h' hx => ?_
    rw [e]
    have e2 : (List.map (fun e => (false, assign e env)) elts).map (·.2) = elts.map fun t => assign t env := by simp
    rw [e2]
    exact AsgL.run H (s := { s with heap := h' }) (G.ext hx) fun s1 σ1 G1 p q1 => ⟨⟨σ1, G1, p⟩, (show Sim s { s with heap := h' } from rfl).trans q1⟩

theorem XS_assignTuple {elts : List Expr} {k : Nat} {px : Pos} {e : Expr} {pos : Pos} {m : Nat} (M : Rm A m) (hn : noStar elts = true)
    (H : TS c A env σ (eval e env) fun v σ1 => ∃ t vs, v = .ref t ∧ Rd c.w σ1 t (.tup vs) ∧ elts.length = vs.length ∧ AsgL c A env σ1 elts vs fun σ2 => XS c A env σ2 rest N R)
    (hs : swapsWithSole [.Tuple elts k px] e pos.line env = pure false) (hw : swappedStores [.Tuple elts k px] e env = pure none) :
    XS c A env σ (.Assign [.Tuple elts k px] e pos :: rest) N R :=
  XS_cons (TS.of fun _ s G => wpAny_Assign_stores (H.run G fun v s1 σ1 G1 ⟨t, vs, e1, ht, hl, HL⟩ q1 => by
    subst e1
    show wpAny _ _ (assign (.Tuple elts k px) env (.ref t)) _ _ _
    exact (TS_assignTuple (P := fun _ σ2 => XS c A env σ2 rest N R) M hn ht hl HL).run G1 fun _ s2 σ2 G2 p q2 => ⟨⟨σ2, G2, p⟩, q1.trans q2⟩) hs hw)

def AsgN (c : Cx) (A : Around) (env : Env) (σ : SS) : List Str → List Value → (SS → Prop) → Prop
  | x :: xs, v :: vs, P => TS c A env σ (storeName env x v) fun _ σ1 => AsgN c A env σ1 xs vs P
  | _, _, P => P σ

/-- the stores exchanged: the names are bound from the last to the first -/
theorem XS_assignSwapped {elts : List Expr} {k : Nat} {px : Pos} {e : Expr} {pos : Pos} {m : Nat} {ids : List Str} (M : Rm A m)
    (H : TS c A env σ (eval e env) fun v σ1 => ∃ t vs, v = .ref t ∧ Rd c.w σ1 t (.tup vs) ∧ ids.length = vs.length ∧ AsgN c A env σ1 ids.reverse vs.reverse fun σ2 => XS c A env σ2 rest N R)
    (hs : swapsWithSole [.Tuple elts k px] e pos.line env = pure false) (hw : swappedStores [.Tuple elts k px] e env = pure (some ids)) :
    XS c A env σ (.Assign [.Tuple elts k px] e pos :: rest) N R :=
  XS_cons (TS.of fun rs s G => by
    show wpAny _ _ (do
      standAt pos
      if ← swapsWithSole [.Tuple elts k px] e pos.line env then do
        evalThenUse e env fun v => assignAll v ((assignEach [.Tuple elts k px] env).map (·.2))
        pure .next
      else do
        let v ← eval e env
        assignStores env v (← swappedStores [.Tuple elts k px] e env) ((assignEach [.Tuple elts k px] env).map (·.2))) _ _ _
    rw [hs, hw]
    refine wpAny_bind (wpAny_standAt (wpAny_bind (wpAny_pure ?_)))
    simp only [Bool.false_eq_true, if_false]
    refine wpAny_bind (H.run G fun v s1 σ1 G1 ⟨t, vs, e1, ht, hl, HL⟩ q1 => wpAny_bind (wpAny_pure ?_))
    subst e1
    show wpAny _ _ (do rule "assign.swapped-stores"; let items ← unpackItems (.ref t) ids.length none; assignInOrder (ids.reverse.map fun n => bindName env n) items.reverse; pure Flow.next) _ _ _
    rw [show ids.length = vs.toArray.size by simp [hl]]
    refine wpAny_bind (wpAny_rule (wpAny_bind (wpAny_unpackItems_tuple M.hd (ht.at G1).tuple ?_)))
    intro h' hx
    refine wpAny_bind ?_
    have key : ∀ (l : List Str) (us : List Value) (σ : SS), AsgN c A env σ l us (fun σ2 => XS c A env σ2 rest N R) → ∀ s2 : Shared, Good c env σ rs s2.heap → Sim s s2 →
        wpAny (model c.prog c.w) A (assignInOrder (l.map fun n => bindName env n) us) (fun _ s' => wpAny (model c.prog c.w) A (pure Flow.next) (fun a s' => (∃ σ', Good c env σ' rs s'.heap ∧ match a with
          | .next => XS c A env σ' rest N R
          | .ret v => R v σ'
          | _ => False) ∧ Sim s s') (fun _ _ => False) s') (fun _ _ => False) s2 := by
      intro l
      induction l with
      | nil => intro us σ H s2 G2 q; cases us <;> exact wpAny_pure (wpAny_pure ⟨⟨σ, G2, H⟩, q⟩)
      | cons x l ih =>
        intro us σ H s2 G2 q
        cases us with
        | nil => exact wpAny_pure (wpAny_pure ⟨⟨σ, G2, H⟩, q⟩)
        | cons u us =>
          show wpAny _ _ (do holding us (bindName env x u); assignInOrder (l.map fun n => bindName env n) us) _ _ _
          refine wpAny_bind (wpAny_holding ?_)
          have H' : TS c A env σ (storeName env x u) fun _ σ1 => AsgN c A env σ1 l us (fun σ2 => XS c A env σ2 rest N R) := H
          exact wpAny_bindName (H'.run G2 fun _ s3 σ3 G3 H3 q3 => ih us σ3 H3 s3 G3 (q.trans q3))
    exact key ids.reverse vs.reverse σ1 HL _ (G1.ext hx) (q1.trans rfl))

theorem XS_while {test : Expr} {body : List Stmt} {pos : Pos} (Inv : Nat → SS → Prop) (n : Nat) (h0 : Inv n σ)
    (turn : ∀ n σ, Inv n σ → TS c A env σ (isTrue test env (eval test env)) fun b σ1 => if b then XS c A env σ1 body (fun σ2 => ∃ m, m < n ∧ Inv m σ2) R else XS c A env σ1 rest N R) :
    XS c A env σ (.While test body [] pos :: rest) N R :=
  XS_cons (TS.of fun rs s G => by
    refine wpAny_While (codeAny_whileLoop (R := fun r s' => match r with
      | .ok f => (∃ σ', Good c env σ' rs s'.heap ∧ match f with
        | .next => XS c A env σ' rest N R
        | .ret v => R v σ'
        | _ => False) ∧ Sim s s'
      | .error e => cameBackBy _ _ _ _ e s')
      (fun n s' => ∃ σ', Good c env σ' rs s'.heap ∧ Inv n σ' ∧ Sim s s') ?_ n ⟨σ, G, h0, .refl s⟩)
    rintro n s1 ⟨σ1, G1, I1, q1⟩
    refine (turn n σ1 I1).run G1 fun b s2 σ2 G2 p q2 => ?_
    cases b with
    | true =>
      simp only [if_true] at p ⊢
      refine TS.run (P := _) p G2 fun f s3 σ3 G3 p3 q3 => ?_
      cases f with
      | next => obtain ⟨m, hm, I3⟩ := p3; exact ⟨m, hm, σ3, G3, I3, (q1.trans q2).trans q3⟩
      | ret v => exact ⟨⟨σ3, G3, p3⟩, (q1.trans q2).trans q3⟩
      | brk => exact p3.elim
      | cont => exact p3.elim
    | false =>
      simp only [Bool.false_eq_true, if_false] at p ⊢
      exact wpAny_execs_nil ⟨⟨σ2, G2, p⟩, q1.trans q2⟩)
end

/-! ## calls -/
def CallOk (c : Cx) (f : Value) : Prop := ∀ h, c.K.In h → ∃ k, (k = Keeper.frame ∨ k = Keeper.machine ∨ k = Keeper.boundFrame) ∧ Looks (model c.prog c.w) h (keeperOf f) k
theorem CallOk.k {c : Cx} {f : Value} (h : keepIn c.K f = true) : CallOk c f := fun hh X => keeps_K h hh X
theorem CallOk.b {c : Cx} {id : String} : CallOk c (.builtin id) := fun _ _ => ⟨.machine, .inr (.inl rfl), Looks.of_pure rfl⟩
theorem CallOk.t {c : Cx} {id : String} : CallOk c (.type id) := fun _ _ => ⟨.machine, .inr (.inl rfl), Looks.of_pure rfl⟩

section
variable {c : Cx} {A : Around} {env : Env} {σ : SS} {names : List (Str × NameKind)} {cl : List (Str × Addr)}
theorem TS_callWith {pos : Pos} {f : Value} {first : List Value} {args : List Expr} {P : Value → SS → Prop} (hf : CallOk c f) (hn : noStar args = true) (H : EvL c A env σ args fun vs σ1 => TS c A env σ1 (call f (first ++ vs)) P) :
    TS c A env σ (callWith pos f first (backTo pos (starEach args env)) []) P :=
  TS.of fun rs s G => by
    rw [starEach_plain hn]
    refine callWith_of (P := c.K.In) ?_ hf ?_
    · simp only [List.any_nil, Bool.or_false]
      rw [List.any_eq_false]
      intro x hx
      obtain ⟨y, hy, rfl⟩ := List.mem_map.mp hx
      obtain ⟨z, _, rfl⟩ := List.mem_map.mp hy
      simp
    · cases args with
      | nil => exact evalArgs_nil3 ⟨G.base.X, TS.run (P := P) H G fun v s1 σ1 G1 p q => ⟨⟨σ1, G1, p⟩, q⟩⟩
      | cons e r => exact evalArgs_plain (EvL.run (pos := pos) H G fun vs s1 σ1 G1 _ p q1 => ⟨G1.base.X, TS.run (P := P) p G1 fun v s2 σ2 G2 p2 q2 => ⟨⟨σ2, G2, p2⟩, q1.trans q2⟩⟩)

theorem TS_Call {x : Str} {np pos : Pos} {args : List Expr} {P : Value → SS → Prop} (H : TS c A env σ (eval (.Name x np) env) fun f σ1 => TS c A env σ1 (callWith pos f [] (backTo pos (starEach args env)) []) P) :
    TS c A env σ (eval (.Call (.Name x np) args [] pos) env) P :=
  TS.of fun _ s G => wpAny_Call_ofName (H.run G fun f s1 σ1 G1 H1 q1 => H1.run G1 fun v s2 σ2 G2 p q2 => ⟨⟨σ2, G2, p⟩, q1.trans q2⟩)

theorem TS_MethCall {o : Expr} {name : Str} {apos pos : Pos} {args : List Expr} {pl : Sem Bool} {P : Value → SS → Prop}
    (H : TS c A env σ (eval o env) fun ov σ1 => TS c A env σ1 (getMethod ov name pl) fun fx σ2 => TS c A env σ2 (callWith pos fx.1 fx.2 (backTo pos (starEach args env)) []) P)
    (he : eval (.Call (.Attribute o name apos) args [] pos) env = (do
      let ov ← eval o env
      standAt apos.atName
      let (f, first) ← holding [ov] (getMethod ov name pl)
      callWith pos f first (backTo pos (starEach args env)) []) := by rfl) : TS c A env σ (eval (.Call (.Attribute o name apos) args [] pos) env) P :=
  TS.of fun _ s G => MethodCall_ (pl := pl) (H.run G fun f s1 σ1 G1 H1 q1 => H1.run G1 fun v s2 σ2 G2 H2 q2 => H2.run G2 fun v s3 σ3 G3 p q3 => ⟨⟨σ3, G3, p⟩, (q1.trans q2).trans q3⟩) he

/-- the promise of a code -/
def CC (c : Cx) (A : Around) (g : Heap) (mu : List (Addr × Sp)) (code : Code) (P : Value → Heap → List (Addr × Sp) → Prop) : Prop :=
  ∀ rest s, GoodC c.w c.K g mu rest s.heap → codeAny (model c.prog c.w) A code (fun r s' => ∃ v, r = .ok (.ret v) ∧ Sim s s' ∧ ∃ g' mu', GoodC c.w c.K g' mu' rest s'.heap ∧ Keeps g g' ∧ P v g' mu') s

theorem CC.cs {g : Heap} {mu} {f : Value} {args : List Value} {P} (H : CC c A g mu (.call f ⟨args, []⟩) P) : CS c A g mu (call f args) P := fun rest h G s hs => by
  subst hs
  refine wpAny_call (codeAny_mono (H rest s G) fun r s' hr => ?_)
  obtain ⟨v, rfl, q, g', mu', G', k, p⟩ := hr
  exact ⟨⟨g', mu', G', k, p⟩, q⟩
theorem CC.mono {g : Heap} {mu} {code : Code} {P P' : Value → Heap → List (Addr × Sp) → Prop} (H : CC c A g mu code P) (k : ∀ v g' mu', Keeps g g' → P v g' mu' → P' v g' mu') : CC c A g mu code P' := fun rest s G =>
  codeAny_mono (H rest s G) fun _ _ ⟨v, e, q, g', mu', G', kk, p⟩ => ⟨v, e, q, g', mu', G', kk, k v g' mu' kk p⟩

def bsInit (binds : List (Str × Value)) (others : List Str) : List (Str × Option Value) := binds.map (fun p => (p.1, some p.2)) ++ others.map fun n => (n, none)

theorem bsInit_lk {binds : List (Str × Value)} {others : List Str} (nd : (binds.map (·.1) ++ others).Nodup) (x : Str) : binds.reverse.lookup x = lk (bsInit binds others) x := by
  have nd' : ((bsInit binds others).map (·.1)).Nodup := by
    unfold bsInit
    rw [List.map_append, List.map_map, List.map_map]
    simpa [Function.comp_def] using nd
  have nr : (binds.reverse.map (·.1)).Nodup := by
    rw [List.map_reverse]
    exact (List.reverse_perm _).nodup_iff.mpr (List.nodup_append.mp nd).1
  cases e : binds.reverse.lookup x with
  | some v =>
    have : (x, v) ∈ binds := List.mem_reverse.mp (List.lookup_eq_some_iff.mp e |> fun ⟨l₁, l₂, h, _⟩ => h ▸ by simp)
    exact (lk_of_mem nd' (List.mem_append_left _ (List.mem_map.mpr ⟨(x, v), this, rfl⟩))).symm
  | none =>
    unfold lk
    cases e' : (bsInit binds others).lookup x with
    | none => rfl
    | some o =>
      cases o with
      | none => rfl
      | some v =>
        exfalso
        have hm : (x, some v) ∈ bsInit binds others := List.lookup_eq_some_iff.mp e' |> fun ⟨l₁, l₂, h, _⟩ => h ▸ by simp
        rcases List.mem_append.mp hm with hm | hm
        · obtain ⟨p, hp, e2⟩ := List.mem_map.mp hm
          cases e2
          have := lookup_of_nd nr (x := p.1) (k := p.2) (List.mem_reverse.mpr hp)
          rw [this] at e; cases e
        · obtain ⟨p, hp, e2⟩ := List.mem_map.mp hm
          cases e2

def okNames (names : List (Str × NameKind)) : Bool := decide (names.map (·.1)).Nodup && names.all fun p => !(p.1 == ("__debug__" : Str)) && !(p.1 == ("__classdict__" : Str)) && !(p.1 == ("__name__" : Str))

/-- at the end of a body: what is kept for good from now on, what may go on turning -/
def Out (c : Cx) (g : Heap) (P : Value → Heap → List (Addr × Sp) → Prop) (v : Value) (σ : SS) : Prop :=
  ∃ e tm, σ.mu.Perm (e ++ tm) ∧ Keeps g σ.g ∧ ∀ g', Keeps σ.g g' → (∀ p ∈ e, At c.w g' p.1 p.2) → P v g' tm

theorem Out.done {g : Heap} {P} {v : Value} (O : Out c g P v σ) {rest : List (Addr × Obj)} {h : Heap} (G : Good c env σ rest h) : ∃ g' mu', GoodC c.w c.K g' mu' rest h ∧ Keeps g g' ∧ P v g' mu' := by
  obtain ⟨e, tm, hp, k, f⟩ := O
  obtain ⟨oL, n, G, nd⟩ := G
  obtain ⟨g', G', q, r⟩ := GoodC.seal (gone := [(env.locals, oL)]) (rest := rest) (G.perm hp)
  exact ⟨g', tm, G', k.trans q, f g' q r⟩

theorem EnvIs.of {names : List (Str × NameKind)} {cl : List (Str × Addr)} (hk : env.scope.kind = .function) (hn : env.scope.names = names) (ok : okNames names = true) (hc : env.cells = cl) (hg : env.globals = mainGlobals) (hb : env.builtins = builtinsNs) : EnvIs env names cl := by
  simp only [okNames, Bool.and_eq_true, decide_eq_true_eq, List.all_eq_true, Bool.not_eq_true'] at ok
  refine ⟨hk, hn, ok.1, hc, hg, hb, fun p hp => ⟨(ok.2 p hp).1.1, (ok.2 p hp).1.2, fun e => ?_⟩⟩
  have := (ok.2 p hp).2
  rw [e] at this
  simp at this

theorem CC_def {n : Nat} {g : Heap} {mu : List (Addr × Sp)} {name qual : Str} {params : Arguments} {body : List Stmt} {scope : Scope} {dV kV doc pm cdv ct oc : Value} {an od : Option Addr} {osl : Array (Option Value)} {f : Addr} {args : Args} {binds : List (Str × Value)} {P}
    (M : Rm A (n + 1)) (ho : c.K.lookup f = some ⟨oc, od, .func (fnOf name qual params body scope dV kV doc pm an cdv ct), osl⟩) (hcd : codeIn c.K cdv qual = true)
    (hbind : ∀ s : Shared, c.K.In s.heap → BindsTo s (fnOf name qual params body scope dV kV doc pm an cdv ct) args binds) (others : List Str) (hok : okNames scope.names = true) (hnd : decide (binds.map (·.1) ++ others).Nodup = true)
    (hloc : (binds.all fun x => decide (scope.names.lookup x.1 = some .local)) = true) (hcell : (scope.names.all fun x => decide (x.2 ≠ .cell)) = true)
    (hco : scope.isCoroutine = false) (hgen : scope.isGenerator = false) (hk : scope.kind = .function)
    (h : ∀ env, EnvIs env scope.names [] → Rm (A.deeper env) n → XS c (A.deeper env) env ⟨g, bsInit binds others, mu⟩ body (Out c g P .none) (Out c g P)) : CC c A g mu (.call (.ref f) args) P := by
  intro rest s G
  have B := G.baseH
  refine codeAny_call_def (fd := fnOf name qual params body scope dV kV doc pm an cdv ct) (body := body) (binds := binds) M.d (B.X _ _ ho) rfl B.lim (codeRec_of B.X hcd) rfl (hbind s B.X)
    (fun x hx => of_decide_eq_true (List.all_eq_true.mp hcell x hx)) (fun x hx => of_decide_eq_true (List.all_eq_true.mp hloc x hx)) (fun h₁ hns hk₁ => ?_) hco hgen hk
  have E : EnvIs (callEnv (fnOf name qual params body scope dV kV doc pm an cdv ct) s.heap.objs.size f) scope.names [] := EnvIs.of hk rfl hok rfl rfl rfl
  have nd := of_decide_eq_true hnd
  obtain ⟨oL, eL, n'⟩ := NsObj.of hns
  have fresh : ∀ b o, s.heap.get? b = some o → b ≠ s.heap.objs.size := fun b o e => Nat.ne_of_lt (Heap.lt_size e)
  have G1 : Good c (callEnv (fnOf name qual params body scope dV kV doc pm an cdv ct) s.heap.objs.size f) ⟨g, bsInit binds others, mu⟩ rest h₁ := by
    refine ⟨oL, ?_, ⟨G.base, fun b o e => hk₁ b o (G.keep b o e), fun p hp => ⟨(G.own p hp).1.mono hk₁, (G.own p hp).2⟩, fun p hp => ?_, ?_⟩, ?_⟩
    · obtain ⟨es, ep, a, b, d⟩ := n'
      exact ⟨es, ep, a, b, fun y => (d y).trans (bsInit_lk nd y)⟩
    · rcases List.mem_cons.mp hp with rfl | hp
      · refine ⟨eL, ?_⟩
        cases q : g.get? s.heap.objs.size with
        | none => exact q
        | some o => exact absurd rfl (fresh _ _ (G.keep _ _ q))
      · exact ⟨hk₁ _ _ (G.rst p hp).1, (G.rst p hp).2⟩
    · have dis := G.dis
      simp only [List.map_cons]
      refine List.nodup_append.mpr ⟨(List.nodup_append.mp dis).1, List.nodup_cons.mpr ⟨fun hm => ?_, (List.nodup_append.mp dis).2.1⟩, fun a ha b hb => ?_⟩
      · obtain ⟨p, hp, e⟩ := List.mem_map.mp hm
        exact fresh _ _ (G.rst p hp).1 e
      · rcases List.mem_cons.mp hb with rfl | hb
        · obtain ⟨p, hp, e⟩ := List.mem_map.mp ha
          obtain ⟨⟨o, e', _⟩, _⟩ := G.own p hp
          exact fun q => fresh _ _ e' (e.trans q)
        · exact (List.nodup_append.mp dis).2.2 a ha b hb
    · unfold bsInit
      rw [List.map_append, List.map_map, List.map_map]
      simpa [Function.comp_def] using nd
  refine (h _ E M.deeper).run (s := { s with heap := h₁, toks := s.toks + binds.length }) G1 fun fl s' σ' G' p q => ?_
  cases fl with
  | next => obtain ⟨g', mu', G'', k, p⟩ := Out.done p G'; exact ⟨_, rfl, (Sim.mk s h₁ _).trans q, g', mu', G'', k, p⟩
  | ret v => obtain ⟨g', mu', G'', k, p⟩ := Out.done p G'; exact ⟨_, rfl, (Sim.mk s h₁ _).trans q, g', mu', G'', k, p⟩
  | brk => exact p.elim
  | cont => exact p.elim

theorem Rm.make {n : Nat} {C : Addr} {vals : List Value} (M : Rm A (n + 1)) : Rm (A.under (.builtin "type.__call__" ⟨.ref C :: vals, []⟩)) n :=
  ⟨M.hd, by have := M.dp; rw [depth_under_make]; (first | lia | omega), by have := M.un; rw [units_under_make]; (first | lia | omega)⟩

theorem CC_make {g : Heap} {mu : List (Addr × Sp)} {C fI : Addr} {args : List Value} {P} (hm : makesIn c.K C = true) (hi : findIn c.K (.ref C) "__init__" = some (some (.ref fI))) (hf : isFn c.K (.ref fI) = true)
    (H : ∀ x dx, CC c (A.under (.builtin "type.__call__" ⟨.ref C :: args, []⟩)) g ((x, .inst C dx) :: (dx, .dict []) :: mu) (.call (.ref fI) ⟨.ref x :: args, []⟩) fun v g' mu' => v = .none ∧ P (.ref x) g' mu') :
    CC c A g mu (.call (.ref C) ⟨args, []⟩) P := by
  intro rest s G
  have X := G.baseH.X
  have G2 : GoodC c.w c.K g ((s.heap.objs.size + 1, .inst C s.heap.objs.size) :: (s.heap.objs.size, .dict []) :: mu) rest ((s.heap.push emptyDict).push (instObj C s.heap.objs.size)) := by
    have G1 := G.alloc (sp := .dict []) (o := emptyDict) ⟨[], 0, rfl, .nil, by simp⟩ rfl
    have G2 := G1.alloc (sp := .inst C s.heap.objs.size) (o := instObj C s.heap.objs.size) rfl rfl
    rwa [Heap.size_push] at G2
  obtain ⟨hh, gg, d, t, os⟩ := s
  refine make_core (makes_of X hm) (looks_findIn X hi) (fun self => bind_fn X self (beq_iff_eq.mp hf)) (.inl rfl) ?_
  refine codeAny_mono (H _ _ rest _ G2) fun r s' hr => ?_
  obtain ⟨v, rfl, q, g', mu', G', k, rfl, p⟩ := hr
  exact ⟨rfl, _, rfl, (Sim.mk ⟨hh, gg, d, t, os⟩ _ _).trans q, g', mu', G', k, p⟩
end
/-! ## an instance's names -/
theorem Fs.find {w : World} {es : List DictEntry} {fs : List (Str × Value)} (f : Fs w es fs) {x : Str} {v : Value} (nd : (fs.map (·.1)).Nodup) (h : (x, v) ∈ fs) : getL x es = some (some v) := by
  have key : (es.find? (·.key.isStr x)).map (·.val) = some v := by
    induction f with
    | nil => cases h
    | @cons y t u es fs f ih =>
      simp only [List.map_cons, List.nodup_cons] at nd
      rw [List.find?_cons]
      rcases List.mem_cons.mp h with e | h
      · cases e
        simp [Value.isStr]
      · have : ((Value.str y t).isStr x) = false := by
          show (y == x) = false
          exact beq_eq_false_iff_ne.mpr fun e => nd.1 (e ▸ List.mem_map_of_mem h)
        simp only [this]
        exact ih nd.2 h
  unfold getL
  cases e : es.find? (·.key.isStr x) with
  | none => rw [e] at key; cases key
  | some en => rw [e] at key; simp only [Option.map_some, Option.some.injEq] at key; simp [key]
theorem Fs.noRef {w : World} {es : List DictEntry} {fs : List (Str × Value)} (f : Fs w es fs) : es.any (·.refKey) = false := by
  induction f with
  | nil => rfl
  | cons f ih => rw [List.any_cons, ih]; rfl
theorem Fs.miss {w : World} {es : List DictEntry} {fs : List (Str × Value)} (f : Fs w es fs) {x : Str} (h : x ∉ fs.map (·.1)) : getL x es = some none := by
  have key : es.find? (·.key.isStr x) = none := by
    induction f with
    | nil => rfl
    | @cons y t u es fs f ih =>
      simp only [List.map_cons, List.mem_cons, not_or] at h
      rw [List.find?_cons]
      have : ((Value.str y t).isStr x) = false := by
        show (y == x) = false
        exact beq_eq_false_iff_ne.mpr fun e => h.1 e.symm
      simp only [this]
      exact ih h.2
  unfold getL
  rw [key, f.noRef]
  rfl

/-- a name set anew -/
inductive SetF (x : Str) (v : Value) : List (Str × Value) → List (Str × Value) → Prop
  | head {u r} : SetF x v ((x, u) :: r) ((x, v) :: r)
  | tail {p r r'} : SetF x v r r' → SetF x v (p :: r) (p :: r')
theorem SetF.keys {x v} {l l' : List (Str × Value)} (u : SetF x v l l') : l'.map (·.1) = l.map (·.1) := by
  induction u with
  | head => rfl
  | tail _ ih => simp [ih]
theorem SetF.mem {x v} {l l' : List (Str × Value)} (u : SetF x v l l') : x ∈ l.map (·.1) := by
  induction u with
  | head => exact .head _
  | tail _ ih => exact .tail _ ih
theorem Fs.set {w : World} {es : List DictEntry} {fs fs' : List (Str × Value)} (f : Fs w es fs) {x : Str} {v : Value} (u : SetF x v fs fs') (nd : (fs.map (·.1)).Nodup) (hsh : Int) (k : Value) : Fs w (putL x hsh k v es) fs' := by
  induction u generalizing es with
  | head =>
    cases f with
    | cons f =>
      have : ∀ (t : Tok), ((Value.str x t).isStr x) = true := fun t => by show (x == x) = true; simp
      simp only [putL, this, if_true]
      exact .cons f
  | @tail p r r' u ih =>
    cases f with
    | @cons y t u' es' fs f =>
      simp only [List.map_cons, List.nodup_cons] at nd
      have : ((Value.str y t).isStr x) = false := by
        show (y == x) = false
        exact beq_eq_false_iff_ne.mpr fun e => nd.1 (e ▸ u.mem)
      simp only [putL, this, Bool.false_eq_true, if_false]
      exact .cons (ih f nd.2)
theorem Fs.add {w : World} {es : List DictEntry} {fs : List (Str × Value)} (f : Fs w es fs) {x : Str} {v : Value} (h : x ∉ fs.map (·.1)) (t : Tok) : Fs w (putL x (PyData.keyHash w.params x) (.str x t) v es) (fs ++ [(x, v)]) := by
  induction f with
  | nil => exact .cons .nil
  | @cons y t' u es fs f ih =>
    simp only [List.map_cons, List.mem_cons, not_or] at h
    have : ((Value.str y t').isStr x) = false := by
      show (y == x) = false
      exact beq_eq_false_iff_ne.mpr fun e => h.1 e.symm
    simp only [putL, this, Bool.false_eq_true, if_false]
    exact .cons (ih h.2)
theorem Fs.len {w : World} {es : List DictEntry} {fs : List (Str × Value)} (f : Fs w es fs) : es.length = fs.length := by
  induction f with
  | nil => rfl
  | cons _ ih => simp [ih]

def attrOk (K : Frag) (C : Addr) (name : Str) : Bool := plainGet K C name && hasDictIn K C && (match findIn K (.ref C) name with | some a => noGet K a | none => false)
def methOk (K : Frag) (C : Addr) (name : Str) (f : Addr) : Bool :=
  plainGet K C name && findIn K (.ref C) name == some (some (.ref f)) && isFn K (.ref f)
def setOk (K : Frag) (C : Addr) (name : Str) : Bool :=
  findIn K (.ref C) "__setattr__" == some (some (.builtin "object.__setattr__")) && plainOver K C && (match takerIn K C name with | some none => true | _ => false) && hasDictIn K C

section
variable {c : Cx} {A : Around} {env : Env} {σ : SS} {names : List (Str × NameKind)} {cl : List (Str × Addr)} {x C dx : Addr} {fs : List (Str × Value)} {name : Str}

theorem instAt {h : Heap} (I : At c.w h x (.inst C dx)) (D : At c.w h dx (.dict fs)) : ∃ es n, Fs c.w es fs ∧ (fs.map (·.1)).Nodup ∧ InstAt h x (instObj C dx) C (some (dictOf es n)) ∧ h.get? dx = some (dictOf es n) := by
  obtain ⟨o, e, rfl⟩ := I
  obtain ⟨od, ed, es, n, rfl, f, nd⟩ := D
  exact ⟨es, n, f, nd, ⟨e, rfl, rfl, ed⟩, ed⟩

theorem TS_getAttr {v : Value} {expr : Bool} {P : Value → SS → Prop} (I : Rd c.w σ x (.inst C dx)) (D : Rd c.w σ dx (.dict fs)) (ok : attrOk c.K C name = true) (hm : (name, v) ∈ fs) (hv : handedIn v = true) (p : P v σ) :
    TS c A env σ (getAttr (.ref x) name expr) P :=
  TS.of fun rs s G => by
    obtain ⟨es, n, f, nd, IA, _⟩ := instAt (I.at G) (D.at G)
    simp only [attrOk, Bool.and_eq_true] at ok
    obtain ⟨⟨h1, h2⟩, h3⟩ := ok
    cases q : findIn c.K (.ref C) name with
    | none => rw [q] at h3; cases h3
    | some a =>
      rw [q] at h3
      exact get_value G.base.X IA (plainGet_of h1).1 (findObj_own h2 q h3 (f.find nd hm)) hv ⟨⟨σ, G, p⟩, rfl⟩

theorem TS_getMeth {f : Addr} {pl : Sem Bool} {P : Value × List Value → SS → Prop} (I : Rd c.w σ x (.inst C dx)) (D : Rd c.w σ dx (.dict fs)) (ok : methOk c.K C name f = true) (hm : (fs.all fun p => !(p.1 == name)) = true) (p : P (.ref f, [.ref x]) σ) :
    TS c A env σ (getMethod (.ref x) name pl) P :=
  TS.of fun rs s G => by
    obtain ⟨es, n, fF, nd, IA, _⟩ := instAt (I.at G) (D.at G)
    simp only [methOk, Bool.and_eq_true, beq_iff_eq] at ok
    obtain ⟨⟨h1, h2⟩, h3⟩ := ok
    have hmiss : name ∉ fs.map (·.1) := fun h => by
      obtain ⟨q, hq, e⟩ := List.mem_map.mp h
      have := List.all_eq_true.mp hm q hq
      rw [e] at this; simp at this
    exact method_fn G.base.X IA (plainGet_of h1).1 (plainGet_of h1).2 h2 (beq_iff_eq.mp h3) (by show (lookIn name (dictOf es n)).map _ = _; rw [lookIn_dict, fF.miss hmiss]; rfl) ⟨⟨σ, G, p⟩, .refl s⟩

theorem osa_heap {prog : Program} {w : World} {A : Around} {s : Shared} {K : Frag} {R : Result → Shared → Prop} {tk : Tok} {v : Value} {es : List DictEntry} {n : Nat} (X : K.In s.heap)
    (I : InstAt s.heap x (instObj C dx) C (some (dictOf es n))) (hd : s.heap.get? dx = some (dictOf es n)) (hp : plainOver K C = true) (ht : takerIn K C name = some none) (hh : (clsIn K C).any (·.hasDict) = true)
    (hl : (getL name es).isSome = true) (hz : (putL name (PyData.keyHash w.params name) (.str name s.toks) v es).length ≤ 1000)
    (h : ∀ h', Heap.SameBut dx s.heap h' → h'.get? dx = some (dictOf (putL name (PyData.keyHash w.params name) (.str name s.toks) v es) (putN name es n)) → R (.ok (.ret .none)) { s with heap := h', toks := s.toks + 1 }) :
    codeAny (model prog w) A (.call (.builtin "object.__setattr__") ⟨[.ref x, .str name tk, v], []⟩) R s := by
  refine osa_open X I hp ht fun b => ?_
  obtain ⟨cd, hc, hd'⟩ := any_some hh
  have e := putName_dict name (PyData.keyHash w.params name) (.str name s.toks) v es n
  have D' : (s.heap.update dx (Obj.putName name (PyData.keyHash w.params name) (.str name s.toks) v)).get? dx = some (dictOf (putL name (PyData.keyHash w.params name) (.str name s.toks) v es) (putN name es n)) := by
    rw [← e]
    exact Heap.get?_update_self _ hd (by rw [e]; rfl)
  obtain ⟨hx, hcl, hn, -⟩ := I
  refine wpAny_bind (wpAny_pure (wpAny_bind (wpAny_bind (wpAny_loadPart hx (wpAny_bind ((looks_clsIn X hc).here ?_))))))
  rw [hd']
  refine wpAny_pure (a := some dx) (wpAny_bind (wpAny_pure (wpAny_bind ?_)))
  unfold nsSet
  refine wpAny_bind (wpAny_bind (wpAny_askSetting (wpAny_pure (wpAny_bind (wpAny_mkText (wpAny_bind (wpAny_loadPart hd ?_)))))))
  have c : (!es.any (·.key.isStr name) && es.any (·.refKey)) = false := by
    unfold getL at hl
    split at hl
    · rename_i en he
      rw [List.any_eq_true.mpr ⟨en, List.mem_of_find?_eq_some he, List.find?_some he⟩]; rfl
    · split at hl
      · cases hl
      · rename_i z; rw [Bool.not_eq_true] at z; rw [z, Bool.and_false]
  show wpAny _ _ _ _ _ _
  have c' : (!es.toArray.any (·.key.isStr name) && es.toArray.any (·.refKey)) = false := by
    rw [← Array.any_toList, ← Array.any_toList]; exact c
  dsimp only
  rw [aRefKeyMayBeTheName_at, c']
  refine wpAny_updatePart hd ?_
  refine wpAny_bind (wpAny_lookBehind D' (pastItsLine_dict (by rw [List.size_toArray, sizeLine_eq]; (first | lia | omega))) ?_)
  exact wpAny_pure (h _ (Heap.SameBut.update ..) D')

theorem TS_setAttrBy {v : Value} {fs' : List (Str × Value)} {mu' : List (Addr × Sp)} {P : Unit → SS → Prop} (I : Rd c.w σ x (.inst C dx)) (ok : setOk c.K C name = true)
    (hf : ∀ es t, Fs c.w es fs → (fs.map (·.1)).Nodup → Fs c.w (putL name (PyData.keyHash c.w.params name) (.str name t) v es) fs' ∧ (fs'.map (·.1)).Nodup ∧ (getL name es).isSome = true)
    (hz : fs'.length ≤ 1000) (U : Upd1 dx (.dict fs) (.dict fs') σ.mu mu') (p : P () ⟨σ.g, σ.bs, mu'⟩) : TS c A env σ (setAttr (.ref x) name v) P :=
  TS.of fun rs s G => by
    obtain ⟨es, n, f, nd, IA, hd⟩ := instAt (I.at G) (Rd.at (.inr U.mem) G)
    simp only [setOk, Bool.and_eq_true, beq_iff_eq] at ok
    obtain ⟨⟨⟨h1, h2⟩, h3⟩, h4⟩ := ok
    have h3' : takerIn c.K C name = some none := by
      cases q : takerIn c.K C name with
      | none => rw [q] at h3; cases h3
      | some r => cases r with
        | none => rfl
        | some _ => rw [q] at h3; cases h3
    obtain ⟨f', nd', hl⟩ := hf es (s.toks + 1) f nd
    refine set_plain G.base.X IA h1 (osa_heap (s := { s with toks := s.toks + 1 }) G.base.X IA hd h2 h3' h4 hl (by rw [f'.len]; exact hz) fun h' hs hd' => ?_)
    obtain ⟨oL, nn, GC, ndb⟩ := G
    exact ⟨⟨⟨σ.g, σ.bs, mu'⟩, ⟨oL, nn, GC.upd U hs ⟨_, hd', _, _, rfl, f', nd'⟩, ndb⟩, p⟩, rfl⟩

theorem TS_setAttr {v : Value} {P : Unit → SS → Prop} (I : Rd c.w σ x (.inst C dx)) (ok : setOk c.K C name = true) (hz : fs.length ≤ 1000)
    (H : ∃ fs' mu', SetF name v fs fs' ∧ Upd1 dx (.dict fs) (.dict fs') σ.mu mu' ∧ P () ⟨σ.g, σ.bs, mu'⟩) : TS c A env σ (setAttr (.ref x) name v) P := by
  obtain ⟨fs', mu', S, U, p⟩ := H
  refine TS_setAttrBy I ok (fun es t f nd => ⟨f.set S nd _ _, by rw [S.keys]; exact nd, ?_⟩) (by have := congrArg List.length S.keys; simp only [List.length_map] at this; (first | lia | omega)) U p
  obtain ⟨q, hq, e⟩ := List.mem_map.mp S.mem
  obtain ⟨y, u⟩ := q
  dsimp only at e
  subst e
  rw [f.find nd hq]; rfl

theorem TS_addAttr {v : Value} {P : Unit → SS → Prop} (I : Rd c.w σ x (.inst C dx)) (ok : setOk c.K C name = true) (hz : fs.length < 1000) (hm : (fs.all fun p => !(p.1 == name)) = true)
    (H : ∃ mu', Upd1 dx (.dict fs) (.dict (fs ++ [(name, v)])) σ.mu mu' ∧ P () ⟨σ.g, σ.bs, mu'⟩) : TS c A env σ (setAttr (.ref x) name v) P := by
  obtain ⟨mu', U, p⟩ := H
  have hmiss : name ∉ fs.map (·.1) := fun h => by
    obtain ⟨q, hq, e⟩ := List.mem_map.mp h
    have := List.all_eq_true.mp hm q hq
    rw [e] at this; simp at this
  refine TS_setAttrBy I ok (fun es t f nd => ⟨f.add hmiss t, ?_, by rw [f.miss hmiss]; rfl⟩) (by simp; (first | lia | omega)) U p
  rw [List.map_append]
  exact List.nodup_append.mpr ⟨nd, by simp, fun a ha b hb => by simp only [List.map_cons, List.map_nil, List.mem_singleton] at hb; subst hb; exact fun e => hmiss (e ▸ ha)⟩
end

/-! ## lists -/
section
variable {c : Cx} {A : Around} {env : Env} {σ : SS} {names : List (Str × NameKind)} {cl : List (Str × Addr)} {l : Addr} {vs : List Value} {xs : List Int}

theorem Rd.list (R : Rd c.w σ l (.intl xs)) {rs : List (Addr × Obj)} {h : Heap} (G : Good c env σ rs h) : ∃ vs n, h.get? l = some (listOb vs n) ∧ IntsAre vs xs := by
  obtain ⟨o, e, vs, n, rfl, i⟩ := R.at G
  exact ⟨vs, n, e, i⟩
theorem listOb_isList {h : Heap} {n : Nat} (e : h.get? l = some (listOb vs n)) : h.IsList l vs.toArray := ⟨_, e, rfl, n, rfl⟩
theorem ints_len {vs : List Value} {xs : List Int} (i : IntsAre vs xs) : vs.length = xs.length := by
  induction i with
  | nil => rfl
  | cons _ _ _ ih => simp [ih]
theorem ints_get {vs : List Value} {xs : List Int} (i : IntsAre vs xs) {k : Nat} {x : Int} (h : xs[k]? = some x) : ∃ t, vs[k]? = some (.int x t) := by
  induction i generalizing k with
  | nil => simp at h
  | cons n t _ ih =>
    cases k with
    | zero => simp only [List.getElem?_cons_zero, Option.some.injEq] at h; subst h; exact ⟨t, rfl⟩
    | succ k => simp only [List.getElem?_cons_succ] at h ⊢; exact ih h
theorem ints_app {vs us : List Value} {xs ys : List Int} (i : IntsAre vs xs) (j : IntsAre us ys) : IntsAre (vs ++ us) (xs ++ ys) := by
  induction i with
  | nil => exact j
  | cons n t _ ih => exact .cons n t ih
theorem ints_take {vs : List Value} {xs : List Int} (i : IntsAre vs xs) (k : Nat) : IntsAre (vs.take k) (xs.take k) := by
  induction i generalizing k with
  | nil => simp; exact .nil
  | cons n t _ ih =>
    cases k with
    | zero => simp; exact .nil
    | succ k => simp only [List.take_succ_cons]; exact .cons n t (ih k)
theorem ints_drop {vs : List Value} {xs : List Int} (i : IntsAre vs xs) (k : Nat) : IntsAre (vs.drop k) (xs.drop k) := by
  induction i generalizing k with
  | nil => simp; exact .nil
  | cons n t i ih =>
    cases k with
    | zero => exact .cons n t i
    | succ k => simp only [List.drop_succ_cons]; exact ih k

theorem TS_getMethList {sp : Sp} {name : Str} {id : String} {pl : Sem Bool} {P : Value × List Value → SS → Prop} (slot : Slot "list" name id) (hty : typeOf (.builtin id) = pure (.type "method_descriptor")) (R : Rd c.w σ l sp) (hs : (∃ vs, sp = .list vs) ∨ ∃ xs, sp = .intl xs)
    (p : P (.builtin id, [.ref l]) σ) : TS c A env σ (getMethod (.ref l) name pl) P :=
  TS.of fun rs s G => by
    have : ∃ vs n, s.heap.get? l = some (listOb vs n) := by
      obtain ⟨o, e, ok⟩ := R.at G
      rcases hs with ⟨vs, rfl⟩ | ⟨xs, rfl⟩
      · obtain ⟨n, rfl⟩ := ok; exact ⟨vs, n, e⟩
      · obtain ⟨vs, n, rfl, _⟩ := ok; exact ⟨vs, n, e⟩
    obtain ⟨vs, n, e⟩ := this
    exact getMethod_builtin ⟨_, e, rfl⟩ PySem.F.plainAttrs_list slot hty (fun a q => by cases q; exact ⟨_, e, rfl⟩) ⟨⟨σ, G, p⟩, .refl s⟩

theorem TS_append {x : Value} {P : Value → SS → Prop} (hz : vs.length ≤ 1000) (H : ∃ mu', Upd1 l (.list vs) (.list (vs ++ [x])) σ.mu mu' ∧ P .none ⟨σ.g, σ.bs, mu'⟩) : TS c A env σ (call (.builtin "list.append") [.ref l, x]) P :=
  TS.of fun rs s G => by
    obtain ⟨mu', U, p⟩ := H
    obtain ⟨o, e, n, rfl⟩ := Rd.at (c := c) (.inr U.mem) G
    refine append_at e (fun h' hs e' => ?_) (by rw [List.size_toArray, sizeLine_eq]; (first | lia | omega))
    obtain ⟨oL, nn, GC, ndb⟩ := G
    exact ⟨⟨⟨σ.g, σ.bs, mu'⟩, ⟨oL, nn, GC.upd U hs ⟨_, e', n + 1, by simp [listOb]⟩, ndb⟩, p⟩, rfl⟩

theorem TS_pop0 {x : Int} {t : Tok} {P : Value → SS → Prop} (hz : xs.length ≤ 1000) (H : ∃ mu', Upd1 l (.intl (x :: xs)) (.intl xs) σ.mu mu' ∧ ∀ u, P (.int x u) ⟨σ.g, σ.bs, mu'⟩) : TS c A env σ (call (.builtin "list.pop") [.ref l, .int 0 t]) P :=
  TS.of fun rs s G => by
    obtain ⟨mu', U, p⟩ := H
    obtain ⟨o, e, ws, n, rfl, i⟩ := Rd.at (c := c) (.inr U.mem) G
    cases i with
    | @cons _ u vs _ i =>
      have len := ints_len i
      have hz' : (Value.int x u :: vs).toArray.size ≤ sizeLine := by rw [List.size_toArray, List.length_cons, sizeLine_eq]; (first | lia | omega)
      refine call_meets PySem.F.slot_list_pop ⟨_, e, rfl⟩ PySem.F.entry_list_pop (PySem.F.args_list_pop_2 _ _) (PySem.MeetsSeq.list_pop_at l (Value.int x u :: vs).toArray n 0 t 0 (.int x u) (by decide) ?_ (by simp) hz') ⟨e, ?_⟩
      · unfold seqIndex?; simp
      · have q := PySem.IsL.update (items := (Value.int x u :: vs).toArray) (n := n) e fun xs => xs.eraseIdxIfInBounds 0
        have he : (Value.int x u :: vs).toArray.eraseIdxIfInBounds 0 = vs.toArray := by
          have := kl_erase [] vs (Value.int x u)
          simpa using this
        rw [he] at q
        obtain ⟨oL, nn, GC, ndb⟩ := G
        have G' := GC.upd U (Heap.SameBut.update ..) ⟨_, q, vs, _, rfl, i⟩
        exact ⟨⟨⟨σ.g, σ.bs, mu'⟩, ⟨oL, nn, G', ndb⟩, p u⟩, rfl⟩

theorem TS_len {sp : Sp} {n : Nat} {P : Value → SS → Prop} (R : Rd c.w σ l sp) (hs : (∃ vs, sp = .list vs ∧ vs.length = n) ∨ ∃ xs, sp = .intl xs ∧ xs.length = n) (hz : n ≤ 1000) (p : ∀ t, P (.int n t) σ) : TS c A env σ (call (.builtin "len") [.ref l]) P :=
  TS.of fun rs s G => by
    have : ∃ vs m, s.heap.get? l = some (listOb vs m) ∧ vs.length = n := by
      obtain ⟨o, e, ok⟩ := R.at G
      rcases hs with ⟨vs, rfl, q⟩ | ⟨xs, rfl, q⟩
      · obtain ⟨m, rfl⟩ := ok; exact ⟨vs, m, e, q⟩
      · obtain ⟨vs, m, rfl, i⟩ := ok; exact ⟨vs, m, e, by rw [ints_len i, q]⟩
    obtain ⟨vs, m, e, q⟩ := this
    refine Calls.call_len_list (listOb_isList e) (by rw [List.size_toArray, q]; (first | lia | omega)) ?_
    rw [List.size_toArray, q]
    exact ⟨⟨σ, G, p _⟩, rfl⟩

theorem TS_item {value slice : Expr} {k : Int} {t : Tok} {x : Value} {P : Value → SS → Prop} (R : Rd c.w σ l (.list vs)) (h0 : 0 ≤ k) (h1 : k < 2 ^ 60) (hx : vs[k.toNat]? = some x) (p : P x σ)
    (hs : subscripted slice false (.ref l) (.int k t) = operate [.ref l, .int k t] (getItem (.ref l) (.int k t)) := by with_unfolding_all rfl) : TS c A env σ (subscriptTail value slice (.ref l) (.int k t)) P :=
  TS.of fun rs s G => by
    have hL := (R.at G).isList
    exact tail_any hL.typeIs slot_list_getitem.lookup (wpAny_getItem_list hL h0 (by (first | lia | omega)) (by simpa using hx) ⟨⟨σ, G, p⟩, .refl s⟩) hs

theorem TS_itemI {value slice : Expr} {k : Int} {t : Tok} {x : Int} {P : Value → SS → Prop} (R : Rd c.w σ l (.intl xs)) (h0 : 0 ≤ k) (h1 : k < 2 ^ 60) (hx : xs[k.toNat]? = some x) (p : ∀ u, P (.int x u) σ)
    (hs : subscripted slice false (.ref l) (.int k t) = operate [.ref l, .int k t] (getItem (.ref l) (.int k t)) := by with_unfolding_all rfl) : TS c A env σ (subscriptTail value slice (.ref l) (.int k t)) P :=
  TS.of fun rs s G => by
    obtain ⟨vs, n, e, i⟩ := R.list G
    obtain ⟨u, hu⟩ := ints_get i hx
    have hL := listOb_isList e
    exact tail_any hL.typeIs slot_list_getitem.lookup (wpAny_getItem_list hL h0 (by (first | lia | omega)) (by simpa using hu) ⟨⟨σ, G, p u⟩, .refl s⟩) hs

theorem TS_last {value slice : Expr} {t : Tok} {x : Value} {P : Value → SS → Prop} (R : Rd c.w σ l (.list (vs ++ [x]))) (hz : vs.length ≤ 1000) (p : P x σ)
    (hs : subscripted slice false (.ref l) (.int (-1) t) = operate [.ref l, .int (-1) t] (getItem (.ref l) (.int (-1) t)) := by with_unfolding_all rfl) : TS c A env σ (subscriptTail value slice (.ref l) (.int (-1) t)) P :=
  TS.of fun rs s G => by
    have hL := (R.at G).isList
    refine tail_any hL.typeIs slot_list_getitem.lookup (wpAny_getItem_list_neg hL (by decide) (by simp; (first | lia | omega)) (by decide) ?_ ⟨⟨σ, G, p⟩, .refl s⟩) hs
    have : ((-1 : Int) + ((vs ++ [x]).toArray.size : Nat)).toNat = vs.length := by simp; (first | lia | omega)
    rw [this]
    simp

theorem TS_tup {value slice : Expr} {k : Int} {t : Tok} {j : Nat} {x : Value} {P : Value → SS → Prop} (R : Rd c.w σ l (.tup vs)) (h0 : k = j) (hj : j < vs.length) (hz : j < 1000) (hx : vs[j]? = some x) (p : P x σ)
    (hs : subscripted slice false (.ref l) (.int k t) = operate [.ref l, .int k t] (getItem (.ref l) (.int k t)) := by with_unfolding_all rfl) : TS c A env σ (subscriptTail value slice (.ref l) (.int k t)) P :=
  TS.of fun rs s G => by
    refine item_tupleT (R.at G).isTup (j := j) (by (first | lia | omega)) (by (first | lia | omega)) ?_ hx ⟨⟨σ, G, p⟩, .refl s⟩ hs
    subst h0
    unfold seqIndex?
    have : ¬ ((j : Int) < 0) := by (first | lia | omega)
    simp [this, hj]

/-- a + b of two lists -/
theorem TS_concat {k : Addr} {us : List Value} {P : Value → SS → Prop} (R : Rd c.w σ l (.list vs)) (R2 : Rd c.w σ k (.list us)) (hz : vs.length + us.length ≤ 1000) (p : ∀ a, P (.ref a) ⟨σ.g, σ.bs, (a, .list (vs ++ us)) :: σ.mu⟩) :
    TS c A env σ (binaryOp .Add (.ref l) (.ref k)) P :=
  TS.of fun rs s G => by
    obtain ⟨o, e, n, rfl⟩ := R.at G
    obtain ⟨o2, e2, n2, rfl⟩ := R2.at G
    refine PySem.P.add_list (items := vs.toArray) (items2 := us.toArray) e e2 ?_ (by rw [List.size_toArray, List.size_toArray, sizeLine_eq]; (first | lia | omega))
    exact ⟨⟨_, G.alloc (sp := .list (vs ++ us)) (o := { cls := .type "list", data := .seq (vs.toArray ++ us.toArray) }) ⟨0, by simp [listOb]⟩ rfl, p _⟩, rfl⟩
theorem TS_concatI {k : Addr} {ys : List Int} {P : Value → SS → Prop} (R : Rd c.w σ l (.intl xs)) (R2 : Rd c.w σ k (.intl ys)) (hz : xs.length + ys.length ≤ 1000) (p : ∀ a, P (.ref a) ⟨σ.g, σ.bs, (a, .intl (xs ++ ys)) :: σ.mu⟩) :
    TS c A env σ (binaryOp .Add (.ref l) (.ref k)) P :=
  TS.of fun rs s G => by
    obtain ⟨vs, n, e, i⟩ := R.list G
    obtain ⟨us, n2, e2, i2⟩ := R2.list G
    refine PySem.P.add_list (items := vs.toArray) (items2 := us.toArray) e e2 ?_ (by rw [List.size_toArray, List.size_toArray, ints_len i, ints_len i2, sizeLine_eq]; (first | lia | omega))
    exact ⟨⟨_, G.alloc (sp := .intl (xs ++ ys)) (o := { cls := .type "list", data := .seq (vs.toArray ++ us.toArray) }) ⟨vs ++ us, 0, by simp [listOb], ints_app i i2⟩ rfl, p _⟩, rfl⟩
end
section
variable {c : Cx} {A : Around} {env : Env} {σ : SS} {names : List (Str × NameKind)} {cl : List (Str × Addr)}

/-! ## ints -/
variable {a b : Int} {t u : Tok}
theorem TS_add {P : Value → SS → Prop} (p : ∀ k, P (.int (a + b) k) σ) : TS c A env σ (binaryOp .Add (.int a t) (.int b u)) P := TS.of fun _ s G => PySem.P.add_int ⟨⟨σ, G, p _⟩, rfl⟩
theorem TS_sub {P : Value → SS → Prop} (p : ∀ k, P (.int (a - b) k) σ) : TS c A env σ (binaryOp .Sub (.int a t) (.int b u)) P := TS.of fun _ s G => PySem.P.sub_int ⟨⟨σ, G, p _⟩, rfl⟩
theorem TS_mod {P : Value → SS → Prop} (hb : 0 < b) (p : ∀ k, P (.int (a % b) k) σ) : TS c A env σ (binaryOp .Mod (.int a t) (.int b u)) P :=
  TS.of fun _ s G => PySem.IsLeap.wpAny_mod_int (by (first | lia | omega)) (by rw [Int.fmod_eq_emod_of_nonneg _ (Int.le_of_lt hb)]; exact ⟨⟨σ, G, p _⟩, rfl⟩)
theorem TS_neg {P : Value → SS → Prop} (p : ∀ k, P (.int (-a) k) σ) : TS c A env σ (unaryOp .USub (.int a t)) P := TS.of fun _ s G => PySem.P.neg_int ⟨⟨σ, G, p _⟩, rfl⟩
theorem TS_lt {P : Value → SS → Prop} (p : P (.bool (decide (a < b))) σ) : TS c A env σ (compareOp .Lt (.int a t) (.int b u)) P := TS.of fun _ s G => PySem.P.lt_int ⟨⟨σ, G, p⟩, .refl s⟩
theorem TS_le {P : Value → SS → Prop} (p : P (.bool (decide (a ≤ b))) σ) : TS c A env σ (compareOp .LtE (.int a t) (.int b u)) P := TS.of fun _ s G => PySem.P.le_int ⟨⟨σ, G, p⟩, .refl s⟩
theorem TS_gt {P : Value → SS → Prop} (p : P (.bool (decide (b < a))) σ) : TS c A env σ (compareOp .Gt (.int a t) (.int b u)) P := TS.of fun _ s G => PySem.P.gt_int ⟨⟨σ, G, p⟩, .refl s⟩
theorem TS_ge {P : Value → SS → Prop} (p : P (.bool (decide (b ≤ a))) σ) : TS c A env σ (compareOp .GtE (.int a t) (.int b u)) P := TS.of fun _ s G => PySem.P.ge_int ⟨⟨σ, G, p⟩, .refl s⟩
theorem TS_eq {P : Value → SS → Prop} (p : P (.bool (decide (a = b))) σ) : TS c A env σ (compareOp .Eq (.int a t) (.int b u)) P :=
  TS.of fun _ s G => PySem.P.eq_int (by rw [show (a == b) = decide (a = b) from rfl]; exact ⟨⟨σ, G, p⟩, .refl s⟩)
theorem TS_ne {P : Value → SS → Prop} (p : P (.bool (decide (a ≠ b))) σ) : TS c A env σ (compareOp .NotEq (.int a t) (.int b u)) P :=
  TS.of fun _ s G => PySem.P.ne_int (by rw [show (a != b) = decide (a ≠ b) by rw [bne, show (a == b) = decide (a = b) from rfl, decide_not]]; exact ⟨⟨σ, G, p⟩, .refl s⟩)
theorem TS_truthyB {x : Bool} {P : Bool → SS → Prop} (p : P x σ) : TS c A env σ (truthy (.bool x)) P := TS.of fun _ s G => wpAny_truthy_bool ⟨⟨σ, G, p⟩, .refl s⟩
theorem TS_is {v u : Value} {P : Value → SS → Prop} (hp : plainIs v u = true) (p : P (.bool (v == u)) σ) : TS c A env σ (compareOp .Is v u) P := TS.of fun _ s G => wpAny_is_plain hp ⟨⟨σ, G, p⟩, .refl s⟩
theorem TS_isNot {v u : Value} {P : Value → SS → Prop} (hp : plainIs v u = true) (p : P (.bool (!(v == u))) σ) : TS c A env σ (compareOp .IsNot v u) P := TS.of fun _ s G => wpAny_isNot_plain hp ⟨⟨σ, G, p⟩, .refl s⟩
theorem TS_isNotSelf {x : Addr} {P : Value → SS → Prop} (p : P (.bool false) σ) : TS c A env σ (compareOp .IsNot (.ref x) (.ref x)) P := TS.of fun _ s G => wpAny_isNot_ref_self ⟨⟨σ, G, p⟩, .refl s⟩

theorem TS_UnaryOp {op : UnaryOp} {x : Expr} {pos : Pos} {P : Value → SS → Prop} (H : TS c A env σ (eval x env) fun v σ1 => TS c A env σ1 (unaryOp op v) P) : TS c A env σ (eval (.UnaryOp op x pos) env) P :=
  TS.of fun _ s G => by
    show wpAny _ _ (do let v ← eval x env; standAt pos; holding [v] (unaryOp op v)) _ _ _
    exact wpAny_bind (H.run G fun v s1 σ1 G1 H1 q1 => wpAny_bind (wpAny_standAt (wpAny_holding (H1.run G1 fun _ s2 σ2 G2 p q2 => ⟨⟨σ2, G2, p⟩, q1.trans q2⟩))))

/-! ## chains -/
theorem TS_Compare2 {l m r : Expr} {op1 op2 : CmpOp} {pos : Pos} {P : Value → SS → Prop}
    (H : TS c A env σ (eval l env) fun x σ1 => TS c A env σ1 (eval m env) fun y σ2 => TS c A env σ2 (compareOp op1 x y) fun v σ3 => TS c A env σ3 (truthy v) fun k σ4 =>
      if k then TS c A env σ4 (eval r env) fun z σ5 => TS c A env σ5 (compareOp op2 y z) P else P v σ4)
    (hm : behindInMarks op2 r = false := by with_unfolding_all rfl) : TS c A env σ (eval (.Compare l [op1, op2] [m, r] pos) env) P :=
  TS.of fun _ s G => by
    show wpAny _ _ (do compareChain pos (← eval l env) [op1, op2] [eval m env, markedBehindIn op2 r (eval r env)]) _ _ _
    rw [markedBehindIn_of_false hm]
    refine wpAny_bind (H.run G fun x s1 σ1 G1 H1 q1 => ?_)
    show wpAny _ _ (do
      let rv ← holding [x] (eval m env)
      standAt pos
      let c ← holding [x, rv] (compareOp op1 x rv)
      release [x, rv] [c]
      if ← holding [c, rv] (truthy c) then compareChain pos rv [op2] [eval r env] else pure c) _ _ _
    refine wpAny_bind (wpAny_holding (H1.run G1 fun y s2 σ2 G2 H2 q2 => wpAny_bind (wpAny_standAt (wpAny_bind ?_))))
    refine wpAny_holding (H2.run G2 fun v s3 σ3 G3 H3 q3 => wpAny_bind (wpAny_release (wpAny_bind ?_)))
    refine wpAny_holding (H3.run G3 fun k s4 σ4 G4 H4 q4 => ?_)
    cases k with
    | false => exact wpAny_pure ⟨⟨σ4, G4, H4⟩, ((q1.trans q2).trans q3).trans q4⟩
    | true =>
      simp only [if_true] at H4 ⊢
      show wpAny _ _ (do let rv ← holding [y] (eval r env); standAt pos; operate [y, rv] (compareOp op2 y rv)) _ _ _
      exact wpAny_bind (wpAny_holding (TS.run H4 G4 fun z s5 σ5 G5 H5 q5 => wpAny_bind (wpAny_standAt (wpAny_operating (H5.run G5 fun w s6 σ6 G6 p q6 => ⟨⟨σ6, G6, p⟩, ((((q1.trans q2).trans q3).trans q4).trans q5).trans q6⟩)))))

theorem TS_isTrue2 {l m r : Expr} {op1 op2 : CmpOp} {pos : Pos} {whole : Sem Value} {P : Bool → SS → Prop}
    (H : TS c A env σ (eval l env) fun x σ1 => TS c A env σ1 (eval m env) fun y σ2 => TS c A env σ2 (compareOp op1 x y) fun v σ3 => TS c A env σ3 (truthy v) fun k σ4 =>
      if k then TS c A env σ4 (eval r env) fun z σ5 => TS c A env σ5 (compareOp op2 y z) fun v σ6 => TS c A env σ6 (truthy v) P else P false σ4)
    (hm : behindInMarks op2 r = false := by with_unfolding_all rfl) : TS c A env σ (isTrue (.Compare l [op1, op2] [m, r] pos) env whole) P :=
  TS.of fun _ s G => by
    show wpAny _ _ (do testChain pos (← eval l env) [op1, op2] [eval m env, markedBehindIn op2 r (eval r env)]) _ _ _
    rw [markedBehindIn_of_false hm]
    refine wpAny_bind (H.run G fun x s1 σ1 G1 H1 q1 => ?_)
    show wpAny _ _ (do
      let rv ← holding [x] (eval m env)
      standAt pos
      let c ← holding [x, rv] (compareOp op1 x rv)
      release [x, rv] [c]
      if ← holding [c, rv] (truthy c) then testChain pos rv [op2] [eval r env] else pure false) _ _ _
    refine wpAny_bind (wpAny_holding (H1.run G1 fun y s2 σ2 G2 H2 q2 => wpAny_bind (wpAny_standAt (wpAny_bind ?_))))
    refine wpAny_holding (H2.run G2 fun v s3 σ3 G3 H3 q3 => wpAny_bind (wpAny_release (wpAny_bind ?_)))
    refine wpAny_holding (H3.run G3 fun k s4 σ4 G4 H4 q4 => ?_)
    cases k with
    | false => exact wpAny_pure ⟨⟨σ4, G4, H4⟩, ((q1.trans q2).trans q3).trans q4⟩
    | true =>
      simp only [if_true] at H4 ⊢
      show wpAny _ _ (do let rv ← holding [y] (eval r env); standAt pos; let c ← operate [y, rv] (compareOp op2 y rv); holding [c] (truthy c)) _ _ _
      exact wpAny_bind (wpAny_holding (TS.run H4 G4 fun z s5 σ5 G5 H5 q5 => wpAny_bind (wpAny_standAt (wpAny_bind (wpAny_operating (H5.run G5 fun w s6 σ6 G6 H6 q6 =>
        wpAny_holding (H6.run G6 fun v s7 σ7 G7 p q7 => ⟨⟨σ7, G7, p⟩, (((((q1.trans q2).trans q3).trans q4).trans q5).trans q6).trans q7⟩)))))))

theorem TS_BoolOp {op : BoolOp} {values : List Expr} {pos : Pos} {P : Value → SS → Prop} (H : TS c A env σ (boolOp pos op (evalEach values env)) P) : TS c A env σ (eval (.BoolOp op values pos) env) P := H
theorem TS_bo1 {op : BoolOp} {x : Expr} {pos : Pos} {P : Value → SS → Prop} (H : TS c A env σ (eval x env) P) : TS c A env σ (boolOp pos op (evalEach [x] env)) P := H
theorem TS_boAnd {x y : Expr} {r : List Expr} {pos : Pos} {P : Value → SS → Prop} (H : TS c A env σ (eval x env) fun v σ1 => TS c A env σ1 (truthy v) fun k σ2 => if k then TS c A env σ2 (boolOp pos .And (evalEach (y :: r) env)) P else P v σ2) :
    TS c A env σ (boolOp pos .And (evalEach (x :: y :: r) env)) P :=
  TS.of fun _ s G => by
    show wpAny _ _ (do
      let v ← eval x env
      standAt pos
      let t ← holding [v] (truthy v)
      match BoolOp.And, t with
      | .And, false | .Or, true => pure v
      | _, _ => boolOp pos .And (evalEach (y :: r) env)) _ _ _
    refine wpAny_bind (H.run G fun v s1 σ1 G1 H1 q1 => wpAny_bind (wpAny_standAt (wpAny_bind (wpAny_holding (H1.run G1 fun k s2 σ2 G2 H2 q2 => ?_)))))
    cases k with
    | false => exact wpAny_pure ⟨⟨σ2, G2, H2⟩, q1.trans q2⟩
    | true => exact TS.run H2 G2 fun _ s3 σ3 G3 p q3 => ⟨⟨σ3, G3, p⟩, (q1.trans q2).trans q3⟩
theorem TS_boOr {x y : Expr} {r : List Expr} {pos : Pos} {P : Value → SS → Prop} (H : TS c A env σ (eval x env) fun v σ1 => TS c A env σ1 (truthy v) fun k σ2 => if k then P v σ2 else TS c A env σ2 (boolOp pos .Or (evalEach (y :: r) env)) P) :
    TS c A env σ (boolOp pos .Or (evalEach (x :: y :: r) env)) P :=
  TS.of fun _ s G => by
    show wpAny _ _ (do
      let v ← eval x env
      standAt pos
      let t ← holding [v] (truthy v)
      match BoolOp.Or, t with
      | .And, false | .Or, true => pure v
      | _, _ => boolOp pos .Or (evalEach (y :: r) env)) _ _ _
    refine wpAny_bind (H.run G fun v s1 σ1 G1 H1 q1 => wpAny_bind (wpAny_standAt (wpAny_bind (wpAny_holding (H1.run G1 fun k s2 σ2 G2 H2 q2 => ?_)))))
    cases k with
    | true => exact wpAny_pure ⟨⟨σ2, G2, H2⟩, q1.trans q2⟩
    | false => exact TS.run H2 G2 fun _ s3 σ3 G3 p q3 => ⟨⟨σ3, G3, p⟩, (q1.trans q2).trans q3⟩

/-! ## lists compared by their length -/
variable {l k : Addr} {vs us : List Value}
def isL (w : World) (σ : SS) (l : Addr) (n : Nat) : Prop := (∃ vs, Rd w σ l (.list vs) ∧ vs.length = n) ∨ ∃ xs, Rd w σ l (.intl xs) ∧ xs.length = n
theorem isL.at {n : Nat} (H : isL c.w σ l n) {rs : List (Addr × Obj)} {h : Heap} (G : Good c env σ rs h) : ∃ vs : List Value, h.IsList l vs.toArray ∧ vs.length = n := by
  rcases H with ⟨vs, R, e⟩ | ⟨xs, R, e⟩
  · exact ⟨vs, (R.at G).isList, e⟩
  · obtain ⟨vs, m, q, i⟩ := R.list G
    exact ⟨vs, listOb_isList q, by rw [ints_len i, e]⟩
theorem TS_neEmpty {n m : Nat} {P : Value → SS → Prop} (M : Rm A m) (H : isL c.w σ l n) (R : Rd c.w σ k (.list [])) (p : P (.bool (decide (n ≠ 0))) σ) : TS c A env σ (compareOp .NotEq (.ref l) (.ref k)) P :=
  TS.of fun _ s G => by
    obtain ⟨vs, hl, e⟩ := isL.at H G
    have hk := (R.at G).isList
    by_cases h0 : n = 0
    · have : vs = [] := List.length_eq_zero_iff.mp (by (first | lia | omega))
      subst this
      refine PySem.SeqAt.RcNeAt.lists (e := fun _ => false) hl hk rfl M.u (fun j h1 => by simp at h1) _ _ _ _ ?_
      refine ⟨⟨σ, G, ?_⟩, .refl s⟩
      subst h0
      exact p
    · refine PySem.SeqAt.RcNeAt.lists_lengths hl hk (by simp; intro h; subst h; simp at e; (first | lia | omega)) M.u _ _ _ _ ?_
      refine ⟨⟨σ, G, ?_⟩, .refl s⟩
      rw [show decide (n ≠ 0) = true by simp [h0]] at p
      exact p
theorem TS_eqEmpty {n m : Nat} {P : Value → SS → Prop} (M : Rm A m) (H : isL c.w σ l n) (R : Rd c.w σ k (.list [])) (p : P (.bool (decide (n = 0))) σ) : TS c A env σ (compareOp .Eq (.ref l) (.ref k)) P :=
  TS.of fun _ s G => by
    obtain ⟨vs, hl, e⟩ := isL.at H G
    have hk := (R.at G).isList
    by_cases h0 : n = 0
    · have : vs = [] := List.length_eq_zero_iff.mp (by (first | lia | omega))
      subst this
      refine PySem.SeqAt.eq_listAt (e := fun _ => true) hl hk rfl M.u (fun j h1 => by simp at h1) ?_
      refine ⟨⟨σ, G, ?_⟩, .refl s⟩
      subst h0
      exact p
    · refine PySem.SeqAt.eq_list_lengthsAt hl hk (by simp; intro h; subst h; simp at e; (first | lia | omega)) M.u ?_
      refine ⟨⟨σ, G, ?_⟩, .refl s⟩
      rw [show decide (n = 0) = false by simp [h0]] at p
      exact p
end
/-! ## the front: every state written out as ⟨g, bs, mu⟩ -/
def RdF (w : World) (g : Heap) (mu : List (Addr × Sp)) (a : Addr) (sp : Sp) : Prop := At w g a sp ∨ (a, sp) ∈ mu
theorem RdF.g {w : World} {g : Heap} {mu a sp} (h : At w g a sp) : RdF w g mu a sp := .inl h
theorem RdF.m {w : World} {g : Heap} {mu a sp} (h : (a, sp) ∈ mu) : RdF w g mu a sp := .inr h
theorem RdF.rd {w : World} {g : Heap} {bs mu a sp} (h : RdF w g mu a sp) : Rd w ⟨g, bs, mu⟩ a sp := h

def StN (x : Str) (P : SS → Prop) (v : Value) (σ : SS) : Prop := ∃ bs', SetL x v σ.bs bs' ∧ P ⟨σ.g, bs', σ.mu⟩
theorem StN.mk {x : Str} {P : SS → Prop} {v : Value} {g bs bs' mu} (h : SetL x v bs bs') (p : P ⟨g, bs', mu⟩) : StN x P v ⟨g, bs, mu⟩ := ⟨bs', h, p⟩
def StC (a : Addr) (P : SS → Prop) (v : Value) (σ : SS) : Prop := ∃ v₀ mu', Upd1 a (.cell v₀) (.cell (some v)) σ.mu mu' ∧ P ⟨σ.g, σ.bs, mu'⟩
theorem StC.mk {a : Addr} {P : SS → Prop} {v : Value} {v₀ g bs mu mu'} (h : Upd1 a (.cell v₀) (.cell (some v)) mu mu') (p : P ⟨g, bs, mu'⟩) : StC a P v ⟨g, bs, mu⟩ := ⟨v₀, mu', h, p⟩
def TupK (w : World) (P : Value → SS → Prop) (vs : List Value) (σ : SS) : Prop := ∀ a g', Keeps σ.g g' → At w g' a (.tup vs) → P (.ref a) ⟨g', σ.bs, σ.mu⟩
theorem TupK.mk {w : World} {P : Value → SS → Prop} {vs : List Value} {g bs mu} (h : ∀ a g', Keeps g g' → At w g' a (.tup vs) → P (.ref a) ⟨g', bs, mu⟩) : TupK w P vs ⟨g, bs, mu⟩ := h
def LstK (P : Value → SS → Prop) (vs : List Value) (σ : SS) : Prop := ∀ a, P (.ref a) ⟨σ.g, σ.bs, (a, .list vs) :: σ.mu⟩
theorem LstK.mk {P : Value → SS → Prop} {vs : List Value} {g bs mu} (h : ∀ a, P (.ref a) ⟨g, bs, (a, .list vs) :: mu⟩) : LstK P vs ⟨g, bs, mu⟩ := h
/-- the targets of an unpacked tuple -/
def UnpK (c : Cx) (A : Around) (env : Env) (elts : List Expr) (P : SS → Prop) (v : Value) (σ : SS) : Prop := ∃ t vs, v = .ref t ∧ Rd c.w σ t (.tup vs) ∧ elts.length = vs.length ∧ AsgL c A env σ elts vs P
theorem UnpK.mk {c : Cx} {A : Around} {env : Env} {elts : List Expr} {P : SS → Prop} {t : Addr} {vs : List Value} {g bs mu} (R : RdF c.w g mu t (.tup vs)) (hl : elts.length = vs.length) (H : AsgL c A env ⟨g, bs, mu⟩ elts vs P) :
    UnpK c A env elts P (.ref t) ⟨g, bs, mu⟩ := ⟨t, vs, rfl, R, hl, H⟩
def SwpK (c : Cx) (A : Around) (env : Env) (ids : List Str) (P : SS → Prop) (v : Value) (σ : SS) : Prop := ∃ t vs, v = .ref t ∧ Rd c.w σ t (.tup vs) ∧ ids.length = vs.length ∧ AsgN c A env σ ids.reverse vs.reverse P
theorem SwpK.mk2 {c : Cx} {A : Around} {env : Env} {x y : Str} {P : SS → Prop} {t : Addr} {v u : Value} {g bs mu} (R : RdF c.w g mu t (.tup [v, u])) (H : AsgN c A env ⟨g, bs, mu⟩ [y, x] [u, v] P) :
    SwpK c A env [x, y] P (.ref t) ⟨g, bs, mu⟩ := ⟨t, _, rfl, R, rfl, H⟩
theorem SwpK.mk3 {c : Cx} {A : Around} {env : Env} {x y z : Str} {P : SS → Prop} {t : Addr} {v u r : Value} {g bs mu} (R : RdF c.w g mu t (.tup [v, u, r])) (H : AsgN c A env ⟨g, bs, mu⟩ [z, y, x] [r, u, v] P) :
    SwpK c A env [x, y, z] P (.ref t) ⟨g, bs, mu⟩ := ⟨t, _, rfl, R, rfl, H⟩

theorem ite_d {q p r : Prop} [Decidable q] (h1 : q → p) (h2 : ¬q → r) : if decide q = true then p else r := by
  by_cases h : q
  · rw [decide_eq_true h, if_pos rfl]; exact h1 h
  · rw [decide_eq_false h, if_neg (by simp)]; exact h2 h
theorem ite_t {p r : Prop} (h : p) : if true = true then p else r := h
theorem ite_f {p r : Prop} (h : r) : if false = true then p else r := h

section
variable {c : Cx} {A : Around} {env : Env} {g : Heap} {bs : List (Str × Option Value)} {mu : List (Addr × Sp)} {names : List (Str × NameKind)} {cl : List (Str × Addr)} {N : SS → Prop} {R : Value → SS → Prop} {rest : List Stmt}

theorem F_local {x : Str} {pos : Pos} {v : Value} {P : Value → SS → Prop} (E : EnvIs env names cl) (hx : (x, NameKind.local) ∈ names) (hb : (x, some v) ∈ bs) (p : P v ⟨g, bs, mu⟩) : TS c A env ⟨g, bs, mu⟩ (eval (.Name x pos) env) P := TS_local E hx hb p
theorem F_cell {x : Str} {pos : Pos} {a : Addr} {v : Value} {P : Value → SS → Prop} (E : EnvIs env names cl) (hx : (x, NameKind.cell) ∈ names) (hc : (x, a) ∈ cl) (hnd : (cl.map (·.1)).Nodup) (Rr : RdF c.w g mu a (.cell (some v))) (p : P v ⟨g, bs, mu⟩) :
    TS c A env ⟨g, bs, mu⟩ (eval (.Name x pos) env) P := TS_cell E hx (lookup_of_nd hnd hc) Rr p
theorem F_asg {x : Str} {px : Pos} {e : Expr} {pos : Pos} (E : EnvIs env names cl) (hx : (x, NameKind.local) ∈ names)
    (H : TS c A env ⟨g, bs, mu⟩ (eval e env) (StN x fun σ1 => XS c A env σ1 rest N R)) (hs : swapsWith e (some (.Name x px)) pos.line env = pure false := by rfl) :
    XS c A env ⟨g, bs, mu⟩ (.Assign [.Name x px] e pos :: rest) N R := XS_assign E hx H hs
theorem F_asgCell {x : Str} {px : Pos} {e : Expr} {pos : Pos} {a : Addr} (E : EnvIs env names cl) (hx : (x, NameKind.cell) ∈ names) (hc : (x, a) ∈ cl) (hnd : (cl.map (·.1)).Nodup)
    (H : TS c A env ⟨g, bs, mu⟩ (eval e env) (StC a fun σ1 => XS c A env σ1 rest N R)) (hs : swapsWith e (some (.Name x px)) pos.line env = pure false := by rfl) :
    XS c A env ⟨g, bs, mu⟩ (.Assign [.Name x px] e pos :: rest) N R := XS_assignCell E hx (lookup_of_nd hnd hc) H hs
theorem F_unp {elts : List Expr} {k : Nat} {px : Pos} {e : Expr} {pos : Pos} {m : Nat} (M : Rm A m) (H : TS c A env ⟨g, bs, mu⟩ (eval e env) (UnpK c A env elts fun σ2 => XS c A env σ2 rest N R)) (hn : noStar elts = true := by rfl)
    (hs : swapsWithSole [.Tuple elts k px] e pos.line env = pure false := by rfl) (hw : swappedStores [.Tuple elts k px] e env = pure none := by rfl) : XS c A env ⟨g, bs, mu⟩ (.Assign [.Tuple elts k px] e pos :: rest) N R := XS_assignTuple M hn H hs hw
theorem F_swp {elts : List Expr} {k : Nat} {px : Pos} {e : Expr} {pos : Pos} {m : Nat} {ids : List Str} (M : Rm A m) (hw : swappedStores [.Tuple elts k px] e env = pure (some ids)) (H : TS c A env ⟨g, bs, mu⟩ (eval e env) (SwpK c A env ids fun σ2 => XS c A env σ2 rest N R))
    (hs : swapsWithSole [.Tuple elts k px] e pos.line env = pure false := by rfl) : XS c A env ⟨g, bs, mu⟩ (.Assign [.Tuple elts k px] e pos :: rest) N R := XS_assignSwapped M H hs hw

def nmOn (env : Env) (L : Nat) : Expr → Option Str
  | .Name id pos => if env.kindOf id == some .local && pos.line == L then some id else none
  | _ => none
theorem swapped_of {ts vs : List Expr} {k k' : Nat} {p q : Pos} {names : List Str} (h0 : (!(ts.length == 2 || ts.length == 3) || vs.length != ts.length || env.blockKind != .function) = false) (h1 : vs.any isStar = false)
    (h2 : ts.filterMap (nmOn env ((ts.head?.map (·.pos.line)).getD 0)) = names) (h3 : (names.length != ts.length || names.eraseDups.length != names.length) = false) (h4 : vs.all (foldedForSure 8) = false) (h5 : vs.all (constantsAlone 8) = false) :
    swappedStores [.Tuple ts k p] (.Tuple vs k' q) env = pure (some names) := by
  unfold swappedStores
  dsimp only
  rw [if_neg (by rw [h0]; exact Bool.false_ne_true)]
  subst h2
  refine (if_neg fun h => Bool.false_ne_true (h1.symm.trans h)).trans ?_
  refine (if_neg fun h => Bool.false_ne_true (h3.symm.trans h)).trans ?_
  rw [if_neg (by rw [h4]; exact Bool.false_ne_true), if_neg (by rw [h5]; exact Bool.false_ne_true)]
  rfl
theorem nm_on {x : Str} {a b : Nat} (k : env.kindOf x = some NameKind.local) (h : (a == b) = true) : (env.kindOf x == some NameKind.local && a == b) = true := by rw [k, h]; rfl
theorem nmOn_name {x : Str} {px : Pos} {L : Nat} (k : env.kindOf x = some NameKind.local) (h : (px.line == L) = true) : nmOn env L (.Name x px) = some x := if_pos (nm_on k h)
theorem swapped2 (E : EnvIs env names cl) {x y : Str} {px py : Pos} {k k' : Nat} {p q : Pos} {e1 e2 : Expr} (hx : (x, NameKind.local) ∈ names) (hy : (y, NameKind.local) ∈ names) (hl : (py.line == px.line) = true) (hne : (x == y) = false)
    (h1 : [e1, e2].any isStar = false) (h2 : [e1, e2].all (foldedForSure 8) = false) (h3 : [e1, e2].all (constantsAlone 8) = false) :
    swappedStores [.Tuple [.Name x px, .Name y py] k p] (.Tuple [e1, e2] k' q) env = pure (some [x, y]) := by
  have kx := E.kindOf hx
  have ky := E.kindOf hy
  have hb : env.blockKind = .function := by unfold Env.blockKind; rw [E.kind]; rfl
  refine swapped_of (by rw [hb]; rfl) h1 ?_ ?_ h2 h3
  · refine (List.filterMap_cons_some (nmOn_name (L := px.line) kx (beq_self_eq_true px.line))).trans (congrArg (x :: ·) ?_)
    exact List.filterMap_cons_some (nmOn_name ky hl)
  · have hne' : (y == x) = false := by rw [beq_eq_false_iff_ne] at hne ⊢; exact fun e => hne e.symm
    simp [List.eraseDups_cons, hne']
theorem swapped3 (E : EnvIs env names cl) {x y z : Str} {px py pz : Pos} {k k' : Nat} {p q : Pos} {e1 e2 e3 : Expr} (hx : (x, NameKind.local) ∈ names) (hy : (y, NameKind.local) ∈ names) (hz : (z, NameKind.local) ∈ names)
    (hl : (py.line == px.line && pz.line == px.line) = true) (hne : (!(x == y) && !(x == z) && !(y == z)) = true)
    (h1 : [e1, e2, e3].any isStar = false) (h2 : [e1, e2, e3].all (foldedForSure 8) = false) (h3 : [e1, e2, e3].all (constantsAlone 8) = false) :
    swappedStores [.Tuple [.Name x px, .Name y py, .Name z pz] k p] (.Tuple [e1, e2, e3] k' q) env = pure (some [x, y, z]) := by
  have kx := E.kindOf hx
  have ky := E.kindOf hy
  have kz := E.kindOf hz
  have hb : env.blockKind = .function := by unfold Env.blockKind; rw [E.kind]; rfl
  have hl := Bool.and_eq_true_iff.mp hl
  simp only [Bool.and_eq_true, Bool.not_eq_true', beq_eq_false_iff_ne, ne_eq] at hne
  obtain ⟨⟨n1, n2⟩, n3⟩ := hne
  refine swapped_of (by rw [hb]; rfl) h1 ?_ ?_ h2 h3
  · refine (List.filterMap_cons_some (nmOn_name (L := px.line) kx (beq_self_eq_true px.line))).trans (congrArg (x :: ·) ?_)
    refine (List.filterMap_cons_some (nmOn_name ky hl.1)).trans (congrArg (y :: ·) ?_)
    exact List.filterMap_cons_some (nmOn_name kz hl.2)
  · simp [List.eraseDups_cons, Ne.symm n1, Ne.symm n2, Ne.symm n3]

theorem A_nil {P : SS → Prop} {σ : SS} (p : P σ) : AsgL c A env σ [] [] P := p
theorem A_name {x : Str} {px : Pos} {ts : List Expr} {v : Value} {vs : List Value} {P : SS → Prop} {bs'} (E : EnvIs env names cl) (hx : (x, NameKind.local) ∈ names) (hs : SetL x v bs bs') (p : AsgL c A env ⟨g, bs', mu⟩ ts vs P) : AsgL c A env ⟨g, bs, mu⟩ (.Name x px :: ts) (v :: vs) P :=
  TS_assignName E hx ⟨bs', hs, p⟩
theorem A_cell {x : Str} {px : Pos} {a : Addr} {ts : List Expr} {v : Value} {v₀ : Option Value} {vs : List Value} {P : SS → Prop} {mu'} (E : EnvIs env names cl) (hx : (x, NameKind.cell) ∈ names) (hc : (x, a) ∈ cl) (hnd : (cl.map (·.1)).Nodup) (hs : Upd1 a (.cell v₀) (.cell (some v)) mu mu')
    (p : AsgL c A env ⟨g, bs, mu'⟩ ts vs P) : AsgL c A env ⟨g, bs, mu⟩ (.Name x px :: ts) (v :: vs) P := TS_assignCell E hx (lookup_of_nd hnd hc) ⟨mu', hs, p⟩
theorem A_attr {o : Expr} {attr : Str} {px : Pos} {ts : List Expr} {v : Value} {vs : List Value} {P : SS → Prop} {σ : SS} (H : TS c A env σ (eval o env) fun ov σ1 => TS c A env σ1 (setAttr ov attr v) fun _ σ2 => AsgL c A env σ2 ts vs P) :
    AsgL c A env σ (.Attribute o attr px :: ts) (v :: vs) P := TS_assignAttr H
theorem N_nil {P : SS → Prop} {σ : SS} (p : P σ) : AsgN c A env σ [] [] P := p
theorem N_cons {x : Str} {xs : List Str} {v : Value} {vs : List Value} {P : SS → Prop} {bs'} (E : EnvIs env names cl) (hx : (x, NameKind.local) ∈ names) (hs : SetL x v bs bs') (p : AsgN c A env ⟨g, bs', mu⟩ xs vs P) : AsgN c A env ⟨g, bs, mu⟩ (x :: xs) (v :: vs) P :=
  TS_storeName E hx ⟨bs', hs, p⟩

theorem L_nil {P : List Value → SS → Prop} {σ : SS} (p : P [] σ) : EvL c A env σ [] P := p
theorem L_cons {e : Expr} {r : List Expr} {P : List Value → SS → Prop} {σ : SS} (H : TS c A env σ (eval e env) fun v σ1 => EvL c A env σ1 r fun vs σ2 => P (v :: vs) σ2) : EvL c A env σ (e :: r) P := H

theorem F_Tuple {elts : List Expr} {k : Nat} {pos : Pos} {P : Value → SS → Prop} {σ : SS} (H : EvL c A env σ elts (TupK c.w P)) (hn : noStar elts = true := by rfl) (hl : elts.length ≤ 1000 := by decide) : TS c A env σ (eval (.Tuple elts k pos) env) P := TS_Tuple hn hl H
theorem F_List {elts : List Expr} {pos : Pos} {P : Value → SS → Prop} {σ : SS} (H : EvL c A env σ elts (LstK P)) (hn : noStar elts = true := by rfl) (hl : elts.length ≤ 1000 := by decide) : TS c A env σ (eval (.List elts pos) env) P := TS_List hn hl H

theorem TS_recast {a : Addr} {sp sp' : Sp} {mu' : List (Addr × Sp)} {α : Type} {t : Sem α} {P : α → SS → Prop} (hi : ∀ o, sp.ok c.w o → sp'.ok c.w o) (U : Upd1 a sp sp' mu mu') (H : TS c A env ⟨g, bs, mu'⟩ t P) : TS c A env ⟨g, bs, mu⟩ t P := by
  intro rs h G
  obtain ⟨oL, n, GC, nd⟩ := G
  refine H rs h ⟨oL, n, ⟨GC.base, GC.keep, fun p hp => ?_, GC.rst, by rw [U.keys]; exact GC.dis⟩, nd⟩
  rcases U.of (List.nodup_append.mp GC.dis).1 p hp with rfl | ⟨hp, _⟩
  · obtain ⟨⟨o, e, ok⟩, n⟩ := GC.own _ U.mem
    exact ⟨⟨o, e, hi o ok⟩, n⟩
  · exact GC.own p hp
theorem toIntl {w : World} {vs : List Value} {xs : List Int} (i : IntsAre vs xs) (o : Obj) (h : (Sp.list vs).ok w o) : (Sp.intl xs).ok w o := let ⟨n, e⟩ := h; ⟨vs, n, e, i⟩

/-- drop what may turn out of sight: kept for good -/
theorem F_seal {e mu' : List (Addr × Sp)} {α : Type} {t : Sem α} {P : α → SS → Prop} (hp : mu.Perm (e ++ mu')) (k : ∀ g', Keeps g g' → (∀ p ∈ e, At c.w g' p.1 p.2) → TS c A env ⟨g', bs, mu'⟩ t P) : TS c A env ⟨g, bs, mu⟩ t P := TS_seal hp k
theorem F_seal1 {a : Addr} {sp : Sp} {α : Type} {t : Sem α} {P : α → SS → Prop} (k : ∀ g', Keeps g g' → At c.w g' a sp → TS c A env ⟨g', bs, mu⟩ t P) : TS c A env ⟨g, bs, (a, sp) :: mu⟩ t P :=
  TS_seal (e := [(a, sp)]) (mu' := mu) (List.Perm.refl _) fun g' q h => k g' q (h _ (.head _))
theorem F_call {f : Value} {args : List Value} {tm tr : List (Addr × Sp)} {Pc : Value → Heap → List (Addr × Sp) → Prop} {P : Value → SS → Prop} (C : CC c A g tm (.call f ⟨args, []⟩) Pc) (hp : mu.Perm (tm ++ tr))
    (k : ∀ v g' tm', Keeps g g' → Pc v g' tm' → P v ⟨g', bs, tm' ++ tr⟩) : TS c A env ⟨g, bs, mu⟩ (call f args) P := TS_call C.cs hp k
/-- a call that turns nothing -/
theorem F_call0 {f : Value} {args : List Value} {Q : Value → Heap → Prop} {P : Value → SS → Prop} (C : CC c A g [] (.call f ⟨args, []⟩) fun v g' mu' => mu' = [] ∧ Q v g')
    (k : ∀ v g', Keeps g g' → Q v g' → P v ⟨g', bs, mu⟩) : TS c A env ⟨g, bs, mu⟩ (call f args) P :=
  F_call C (List.Perm.refl _) fun v g' tm' q ⟨e, h⟩ => by subst e; exact k v g' q h

theorem F_cw0 {pos : Pos} {f : Value} {args : List Expr} {P : Value → SS → Prop} {σ : SS} (hf : CallOk c f) (H : EvL c A env σ args fun vs σ1 => TS c A env σ1 (call f vs) P) (hn : noStar args = true := by rfl) : TS c A env σ (callWith pos f [] (backTo pos (starEach args env)) []) P :=
  TS_callWith hf hn H
theorem F_cw1 {pos : Pos} {f x : Value} {args : List Expr} {P : Value → SS → Prop} {σ : SS} (hf : CallOk c f) (H : EvL c A env σ args fun vs σ1 => TS c A env σ1 (call f (x :: vs)) P) (hn : noStar args = true := by rfl) : TS c A env σ (callWith pos f [x] (backTo pos (starEach args env)) []) P :=
  TS_callWith hf hn H

theorem F_getAttr {x C dx : Addr} {fs : List (Str × Value)} {name : Str} {v : Value} {expr : Bool} {P : Value → SS → Prop} (I : RdF c.w g mu x (.inst C dx)) (D : RdF c.w g mu dx (.dict fs)) (hm : (name, v) ∈ fs) (ok : attrOk c.K C name = true) (hv : handedIn v = true)
    (p : P v ⟨g, bs, mu⟩) : TS c A env ⟨g, bs, mu⟩ (getAttr (.ref x) name expr) P := TS_getAttr I D ok hm hv p
theorem F_getMeth {x C dx : Addr} {fs : List (Str × Value)} {name : Str} {f : Addr} {pl : Sem Bool} {P : Value × List Value → SS → Prop} (I : RdF c.w g mu x (.inst C dx)) (D : RdF c.w g mu dx (.dict fs)) (hf : findIn c.K (.ref C) name = some (some (.ref f))) (ok : methOk c.K C name f = true)
    (hm : (fs.all fun p => !(p.1 == name)) = true) (p : P (.ref f, [.ref x]) ⟨g, bs, mu⟩) : TS c A env ⟨g, bs, mu⟩ (getMethod (.ref x) name pl) P := TS_getMeth I D ok hm p
theorem F_setAttr {x C dx : Addr} {fs fs' : List (Str × Value)} {name : Str} {v : Value} {mu'} {P : Unit → SS → Prop} (I : RdF c.w g mu x (.inst C dx)) (U : Upd1 dx (.dict fs) (.dict fs') mu mu') (S : SetF name v fs fs') (ok : setOk c.K C name = true) (hz : decide (fs.length ≤ 1000) = true)
    (p : P () ⟨g, bs, mu'⟩) : TS c A env ⟨g, bs, mu⟩ (setAttr (.ref x) name v) P := TS_setAttr I ok (of_decide_eq_true hz) ⟨fs', mu', S, U, p⟩
theorem F_addAttr {x C dx : Addr} {fs fs' : List (Str × Value)} {name : Str} {v : Value} {mu'} {P : Unit → SS → Prop} (I : RdF c.w g mu x (.inst C dx)) (U : Upd1 dx (.dict fs) (.dict fs') mu mu') (S : fs' = fs ++ [(name, v)]) (hm : (fs.all fun p => !(p.1 == name)) = true) (ok : setOk c.K C name = true) (hz : decide (fs.length < 1000) = true)
    (p : P () ⟨g, bs, mu'⟩) : TS c A env ⟨g, bs, mu⟩ (setAttr (.ref x) name v) P := by subst S; exact TS_addAttr I ok (of_decide_eq_true hz) hm ⟨mu', U, p⟩
end
section
variable {c : Cx} {A : Around} {env : Env} {g : Heap} {bs : List (Str × Option Value)} {mu : List (Addr × Sp)} {names : List (Str × NameKind)} {cl : List (Str × Addr)} {N : SS → Prop} {R : Value → SS → Prop} {rest : List Stmt}

/-! ## slices -/
def SlK (w : World) (P : Value → SS → Prop) (f : List Value → Nat → List Value) (o v : Value) (σ : SS) : Prop :=
  ∃ l n t vs, o = .ref l ∧ v = .int n t ∧ 0 ≤ n ∧ Rd w σ l (.list vs) ∧ vs.length ≤ 1000 ∧ ∀ a, P (.ref a) ⟨σ.g, σ.bs, (a, .list (f vs n.toNat)) :: σ.mu⟩
def SlKI (w : World) (P : Value → SS → Prop) (f : List Int → Nat → List Int) (o v : Value) (σ : SS) : Prop :=
  ∃ l n t xs, o = .ref l ∧ v = .int n t ∧ 0 ≤ n ∧ Rd w σ l (.intl xs) ∧ xs.length ≤ 1000 ∧ ∀ a, P (.ref a) ⟨σ.g, σ.bs, (a, .intl (f xs n.toNat)) :: σ.mu⟩

theorem slice_core {value : Expr} {l : Addr} {vs : List Value} {lo hi : Option Expr} {p : Pos} {vl vu : Value} {kl ku : Option Int} {out : List Value} {sp : Sp} {rs : List (Addr × Obj)} {s : Shared} {σ : SS} {Q : Value → Shared → Prop} {E : Value → Shared → Prop}
    (G : Good c env σ rs s.heap) (hl : s.heap.IsList l vs.toArray) (hz : vs.length ≤ 1000) (pl : IsPart vl kl) (pu : IsPart vu ku) (he : slicePick vs.toArray kl ku none = out.toArray) (ok : sp.ok c.w (listOb out 0))
    (k : ∀ a s', Good c env ⟨σ.g, σ.bs, (a, sp) :: σ.mu⟩ rs s'.heap → Sim s s' → Q (.ref a) s') :
    wpAny (model c.prog c.w) A (subscriptTail value (.Slice lo hi none p) (.ref l) (.ref s.heap.objs.size)) Q E { s with heap := s.heap.push { cls := .type "slice", data := .fields #[vl, vu, .none] } } := by
  have G1 : Good c env σ rs (s.heap.push { cls := .type "slice", data := .fields #[vl, vu, .none] }) := G.up fun b o e => Heap.get?_push_of_some _ e
  refine tail_any (T := "list") (hl.push _).typeIs list_getitem_lookup (wpAny_getItem_list_slice (hl.push _) (Heap.IsSliceOf.new ..) pl pu .none (by simp) ?_ (by rw [List.size_toArray, sizeLine_eq]; (first | lia | omega))) (ops := [.ref s.heap.objs.size, .ref l]) (by with_unfolding_all rfl)
  have G2 := G1.alloc (sp := sp) (o := listOb out 0) ok rfl
  rw [he]
  exact k _ _ G2 rfl

theorem TS_sliceTo {value hi : Expr} {p pos : Pos} {P : Value → SS → Prop} {σ : SS} (H : TS c A env σ (eval value env) fun o σ1 => TS c A env σ1 (eval hi env) fun v σ2 => SlK c.w P (fun vs n => vs.take n) o v σ2 ∨ SlKI c.w P (fun xs n => xs.take n) o v σ2) :
    TS c A env σ (eval (.Subscript value (.Slice none (some hi) none p) pos) env) P :=
  TS.of fun rs s G => Subscript_ (H.run G fun o s1 σ1 G1 H1 q1 => wpAny_Slice (wpAny_evalPart_none (wpAny_evalPart_some (H1.run G1 fun v s2 σ2 G2 K q2 => wpAny_evalPart_none (by
    rcases K with ⟨l, n, t, vs, rfl, rfl, h0, Rl, hz, k⟩ | ⟨l, n, t, xs, rfl, rfl, h0, Rl, hz, k⟩
    · refine slice_core (out := vs.take n.toNat) (sp := .list (vs.take n.toNat)) G2 (Rl.at G2).isList hz .none (.int n t) ?_ ⟨0, rfl⟩ fun a s3 G3 q3 => ⟨⟨_, G3, k a⟩, (q1.trans q2).trans q3⟩
      have := slicePick_upto' vs.toArray n.toNat
      rw [Int.toNat_of_nonneg h0] at this
      exact this
    · obtain ⟨vs, m, e, i⟩ := Rl.list G2
      refine slice_core (out := vs.take n.toNat) (sp := .intl (xs.take n.toNat)) G2 (listOb_isList e) (by rw [ints_len i]; exact hz) .none (.int n t) ?_ ⟨_, 0, rfl, ints_take i _⟩ fun a s3 G3 q3 => ⟨⟨_, G3, k a⟩, (q1.trans q2).trans q3⟩
      have := slicePick_upto' vs.toArray n.toNat
      rw [Int.toNat_of_nonneg h0] at this
      exact this)))))

theorem TS_sliceFrom {value lo : Expr} {p pos : Pos} {P : Value → SS → Prop} {σ : SS} (H : TS c A env σ (eval value env) fun o σ1 => TS c A env σ1 (eval lo env) fun v σ2 => SlK c.w P (fun vs n => vs.drop n) o v σ2 ∨ SlKI c.w P (fun xs n => xs.drop n) o v σ2) :
    TS c A env σ (eval (.Subscript value (.Slice (some lo) none none p) pos) env) P :=
  TS.of fun rs s G => Subscript_ (H.run G fun o s1 σ1 G1 H1 q1 => wpAny_Slice (wpAny_evalPart_some (H1.run G1 fun v s2 σ2 G2 K q2 => wpAny_evalPart_none (wpAny_evalPart_none (by
    rcases K with ⟨l, n, t, vs, rfl, rfl, h0, Rl, hz, k⟩ | ⟨l, n, t, xs, rfl, rfl, h0, Rl, hz, k⟩
    · refine slice_core (out := vs.drop n.toNat) (sp := .list (vs.drop n.toNat)) G2 (Rl.at G2).isList hz (.int n t) .none ?_ ⟨0, rfl⟩ fun a s3 G3 q3 => ⟨⟨_, G3, k a⟩, (q1.trans q2).trans q3⟩
      have := slicePick_from' vs.toArray n.toNat
      rw [Int.toNat_of_nonneg h0] at this
      exact this
    · obtain ⟨vs, m, e, i⟩ := Rl.list G2
      refine slice_core (out := vs.drop n.toNat) (sp := .intl (xs.drop n.toNat)) G2 (listOb_isList e) (by rw [ints_len i]; exact hz) (.int n t) .none ?_ ⟨_, 0, rfl, ints_drop i _⟩ fun a s3 G3 q3 => ⟨⟨_, G3, k a⟩, (q1.trans q2).trans q3⟩
      have := slicePick_from' vs.toArray n.toNat
      rw [Int.toNat_of_nonneg h0] at this
      exact this)))))

theorem SlK.mk {P : Value → SS → Prop} {f : List Value → Nat → List Value} {l : Addr} {n : Int} {t : Tok} {vs : List Value} (Rl : RdF c.w g mu l (.list vs)) (h0 : 0 ≤ n) (hz : vs.length ≤ 1000) (k : ∀ a, P (.ref a) ⟨g, bs, (a, .list (f vs n.toNat)) :: mu⟩) :
    SlK c.w P f (.ref l) (.int n t) ⟨g, bs, mu⟩ := ⟨l, n, t, vs, rfl, rfl, h0, Rl, hz, k⟩
theorem SlKI.mk {P : Value → SS → Prop} {f : List Int → Nat → List Int} {l : Addr} {n : Int} {t : Tok} {xs : List Int} (Rl : RdF c.w g mu l (.intl xs)) (h0 : 0 ≤ n) (hz : xs.length ≤ 1000) (k : ∀ a, P (.ref a) ⟨g, bs, (a, .intl (f xs n.toNat)) :: mu⟩) :
    SlKI c.w P f (.ref l) (.int n t) ⟨g, bs, mu⟩ := ⟨l, n, t, xs, rfl, rfl, h0, Rl, hz, k⟩

/-! ## repeat, min, max, abs -/
theorem TS_repeat {l : Addr} {v : Value} {n : Int} {t : Tok} {P : Value → SS → Prop} {σ : SS} (Rl : Rd c.w σ l (.list [v])) (h0 : 0 ≤ n) (h1 : n ≤ 1000) (k : ∀ a, P (.ref a) ⟨σ.g, σ.bs, (a, .list (List.replicate n.toNat v)) :: σ.mu⟩) : TS c A env σ (binaryOp .Mult (.ref l) (.int n t)) P :=
  TS.of fun rs s G => by
    obtain ⟨o, e, m, rfl⟩ := Rl.at G
    refine wpAny_binaryOp_repeat_ref (T := "list") (U := "int") (by decide) ⟨_, e, rfl⟩ (fun s' => typeIs_int s' n t) noFill_list_mul PySem.F.fills_int_mul PySem.F.slot_int_rmul repeat_list PySem.F.slot_int_index.lookup
      (call_meets PySem.F.slot_int_rmul (typeIs_int s n t) PySem.F.entry_int_rmul (PySem.F.args_int_rmul_2 _ _) (int___rmul___int_list n t l #[v] m) ⟨e, rfl, ⟨_, e, rfl⟩, ?_⟩)
    refine call_meets PySem.F.slot_list_mul ⟨_, e, rfl⟩ PySem.F.entry_list_mul (PySem.F.args_list_mul_2 _ _) (lm_list_mul_any l #[v] m none #[] n t ?_ ?_ ?_) ⟨e, ?_⟩
    · unfold Builtin.List.listFitsIndex; simp; (first | lia | omega)
    · simp; (first | lia | omega)
    · unfold Builtin.List.listTooLong; simp [sizeLine_eq]; (first | lia | omega)
    · have he : (List.foldl (fun x1 x2 => x1 ++ x2) (#[] : Array Value) (List.replicate (if (#[v] : Array Value).isEmpty = true then 0 else n.toNat) #[v])) = (List.replicate n.toNat v).toArray := by
        have : ∀ (k : Nat) (acc : Array Value), List.foldl (fun x1 x2 => x1 ++ x2) acc (List.replicate k #[v]) = acc ++ (List.replicate k v).toArray := by
          intro k
          induction k with
          | zero => intro acc; simp
          | succ k ih => intro acc; rw [List.replicate_succ, List.foldl_cons, ih, List.replicate_succ]; apply Array.toList_inj.mp; simp
        rw [this]; simp
      rw [he]
      have G2 := G.alloc (sp := .list (List.replicate n.toNat v)) (o := listOb (List.replicate n.toNat v) 0) ⟨0, rfl⟩ rfl
      exact ⟨⟨_, G2, k _⟩, rfl⟩
theorem F_repeat {l : Addr} {v : Value} {n : Int} {t : Tok} {P : Value → SS → Prop} (Rl : RdF c.w g mu l (.list [v])) (h0 : 0 ≤ n) (h1 : n ≤ 1000) (k : ∀ a, P (.ref a) ⟨g, bs, (a, .list (List.replicate n.toNat v)) :: mu⟩) : TS c A env ⟨g, bs, mu⟩ (binaryOp .Mult (.ref l) (.int n t)) P :=
  TS_repeat Rl h0 h1 k

theorem TS_max {a b : Int} {t u : Tok} {m : Nat} {P : Value → SS → Prop} {σ : SS} (M : Rm A m) (k : ∀ z, P (.int (max a b) z) σ) : TS c A env σ (call (.builtin "max") [.int a t, .int b u]) P :=
  TS.of fun rs s G => max_two_ints M.hd fun h' tk hk => by
    refine ⟨⟨σ, G.up hk, ?_⟩, rfl⟩
    by_cases hab : b > a
    · rw [if_pos hab]; rw [show max a b = b by (first | lia | omega)] at k; exact k u
    · rw [if_neg hab]; rw [show max a b = a by (first | lia | omega)] at k; exact k t
theorem TS_min {a b : Int} {t u : Tok} {m : Nat} {P : Value → SS → Prop} {σ : SS} (M : Rm A m) (k : ∀ z, P (.int (min a b) z) σ) : TS c A env σ (call (.builtin "min") [.int a t, .int b u]) P :=
  TS.of fun rs s G => min_two_ints M.hd fun h' tk hk => by
    refine ⟨⟨σ, G.up hk, ?_⟩, rfl⟩
    by_cases hab : b < a
    · rw [if_pos hab]; rw [show min a b = b by (first | lia | omega)] at k; exact k u
    · rw [if_neg hab]; rw [show min a b = a by (first | lia | omega)] at k; exact k t
theorem TS_abs {a : Int} {t : Tok} {P : Value → SS → Prop} {σ : SS} (k : ∀ z, P (.int (a.natAbs : Int) z) σ) : TS c A env σ (call (.builtin "abs") [.int a t]) P :=
  TS.of fun rs s G => call_abs_int fun u tk => by
    rw [show (if a < 0 then -a else a) = (a.natAbs : Int) by split <;> (first | lia | omega)]
    exact ⟨⟨σ, G, k u⟩, rfl⟩
theorem F_lenL {l : Addr} {vs : List Value} {P : Value → SS → Prop} (Rl : RdF c.w g mu l (.list vs)) (hz : vs.length ≤ 1000) (p : ∀ t, P (.int vs.length t) ⟨g, bs, mu⟩) : TS c A env ⟨g, bs, mu⟩ (call (.builtin "len") [.ref l]) P :=
  TS_len (sp := .list vs) Rl (.inl ⟨vs, rfl, rfl⟩) hz p
theorem F_lenI {l : Addr} {xs : List Int} {P : Value → SS → Prop} (Rl : RdF c.w g mu l (.intl xs)) (hz : xs.length ≤ 1000) (p : ∀ t, P (.int xs.length t) ⟨g, bs, mu⟩) : TS c A env ⟨g, bs, mu⟩ (call (.builtin "len") [.ref l]) P :=
  TS_len (sp := .intl xs) Rl (.inr ⟨xs, rfl, rfl⟩) hz p
theorem F_item {value slice : Expr} {l : Addr} {vs : List Value} {k : Int} {t : Tok} {x : Value} {P : Value → SS → Prop} (Rl : RdF c.w g mu l (.list vs)) (h0 : 0 ≤ k) (h1 : k < 2 ^ 60) (hx : vs[k.toNat]? = some x) (p : P x ⟨g, bs, mu⟩)
    (hs : subscripted slice false (.ref l) (.int k t) = operate [.ref l, .int k t] (getItem (.ref l) (.int k t)) := by with_unfolding_all rfl) : TS c A env ⟨g, bs, mu⟩ (subscriptTail value slice (.ref l) (.int k t)) P := TS_item Rl h0 h1 hx p hs
theorem F_itemI {value slice : Expr} {l : Addr} {xs : List Int} {k : Int} {t : Tok} {x : Int} {P : Value → SS → Prop} (Rl : RdF c.w g mu l (.intl xs)) (h0 : 0 ≤ k) (h1 : k < 2 ^ 60) (hx : xs[k.toNat]? = some x) (p : ∀ u, P (.int x u) ⟨g, bs, mu⟩)
    (hs : subscripted slice false (.ref l) (.int k t) = operate [.ref l, .int k t] (getItem (.ref l) (.int k t)) := by with_unfolding_all rfl) : TS c A env ⟨g, bs, mu⟩ (subscriptTail value slice (.ref l) (.int k t)) P := TS_itemI Rl h0 h1 hx p hs
theorem F_last {value slice : Expr} {l : Addr} {vs : List Value} {t : Tok} {x : Value} {P : Value → SS → Prop} (Rl : RdF c.w g mu l (.list (vs ++ [x]))) (hz : vs.length ≤ 1000) (p : P x ⟨g, bs, mu⟩)
    (hs : subscripted slice false (.ref l) (.int (-1) t) = operate [.ref l, .int (-1) t] (getItem (.ref l) (.int (-1) t)) := by with_unfolding_all rfl) : TS c A env ⟨g, bs, mu⟩ (subscriptTail value slice (.ref l) (.int (-1) t)) P := TS_last Rl hz p hs
theorem F_tup {value slice : Expr} {l : Addr} {vs : List Value} {k : Int} {t : Tok} {x : Value} {P : Value → SS → Prop} (Rl : RdF c.w g mu l (.tup vs)) (h0 : 0 ≤ k) (h1 : k < 1000) (hx : vs[k.toNat]? = some x) (p : P x ⟨g, bs, mu⟩)
    (hs : subscripted slice false (.ref l) (.int k t) = operate [.ref l, .int k t] (getItem (.ref l) (.int k t)) := by with_unfolding_all rfl) : TS c A env ⟨g, bs, mu⟩ (subscriptTail value slice (.ref l) (.int k t)) P :=
  TS_tup (j := k.toNat) Rl (by (first | lia | omega)) (by have := (List.getElem?_eq_some_iff.mp hx).1; exact this) (by (first | lia | omega)) hx p hs
theorem F_append {l : Addr} {vs : List Value} {x : Value} {mu'} {P : Value → SS → Prop} (U : Upd1 l (.list vs) (.list (vs ++ [x])) mu mu') (hz : vs.length ≤ 1000) (p : P .none ⟨g, bs, mu'⟩) : TS c A env ⟨g, bs, mu⟩ (call (.builtin "list.append") [.ref l, x]) P := TS_append hz ⟨mu', U, p⟩
theorem F_pop0 {l : Addr} {x : Int} {xs : List Int} {t : Tok} {mu'} {P : Value → SS → Prop} (U : Upd1 l (.intl (x :: xs)) (.intl xs) mu mu') (hz : xs.length ≤ 1000) (p : ∀ u, P (.int x u) ⟨g, bs, mu'⟩) : TS c A env ⟨g, bs, mu⟩ (call (.builtin "list.pop") [.ref l, .int 0 t]) P := TS_pop0 hz ⟨mu', U, p⟩
theorem F_mAppend {l : Addr} {vs : List Value} {pl : Sem Bool} {P : Value × List Value → SS → Prop} (Rl : RdF c.w g mu l (.list vs)) (p : P (.builtin "list.append", [.ref l]) ⟨g, bs, mu⟩) : TS c A env ⟨g, bs, mu⟩ (getMethod (.ref l) (Str.ofString "append") pl) P :=
  TS_getMethList PySem.F.slot_list_append PySem.F.type_list_append Rl (.inl ⟨vs, rfl⟩) p
theorem F_mPop {l : Addr} {xs : List Int} {pl : Sem Bool} {P : Value × List Value → SS → Prop} (Rl : RdF c.w g mu l (.intl xs)) (p : P (.builtin "list.pop", [.ref l]) ⟨g, bs, mu⟩) : TS c A env ⟨g, bs, mu⟩ (getMethod (.ref l) (Str.ofString "pop") pl) P :=
  TS_getMethList PySem.F.slot_list_pop PySem.F.type_list_pop Rl (.inr ⟨xs, rfl⟩) p
theorem F_concat {l k : Addr} {vs us : List Value} {P : Value → SS → Prop} (Rl : RdF c.w g mu l (.list vs)) (R2 : RdF c.w g mu k (.list us)) (hz : vs.length + us.length ≤ 1000) (p : ∀ a, P (.ref a) ⟨g, bs, (a, .list (vs ++ us)) :: mu⟩) :
    TS c A env ⟨g, bs, mu⟩ (binaryOp .Add (.ref l) (.ref k)) P := TS_concat Rl R2 hz p
theorem F_concatI {l k : Addr} {xs ys : List Int} {P : Value → SS → Prop} (Rl : RdF c.w g mu l (.intl xs)) (R2 : RdF c.w g mu k (.intl ys)) (hz : xs.length + ys.length ≤ 1000) (p : ∀ a, P (.ref a) ⟨g, bs, (a, .intl (xs ++ ys)) :: mu⟩) :
    TS c A env ⟨g, bs, mu⟩ (binaryOp .Add (.ref l) (.ref k)) P := TS_concatI Rl R2 hz p
theorem F_neE {l k : Addr} {vs : List Value} {m : Nat} {P : Value → SS → Prop} (M : Rm A m) (Rl : RdF c.w g mu l (.list vs)) (Rk : RdF c.w g mu k (.list [])) (p : P (.bool (decide (vs.length ≠ 0))) ⟨g, bs, mu⟩) : TS c A env ⟨g, bs, mu⟩ (compareOp .NotEq (.ref l) (.ref k)) P :=
  TS_neEmpty M (.inl ⟨vs, Rl, rfl⟩) Rk p
theorem F_neEI {l k : Addr} {xs : List Int} {m : Nat} {P : Value → SS → Prop} (M : Rm A m) (Rl : RdF c.w g mu l (.intl xs)) (Rk : RdF c.w g mu k (.list [])) (p : P (.bool (decide (xs.length ≠ 0))) ⟨g, bs, mu⟩) : TS c A env ⟨g, bs, mu⟩ (compareOp .NotEq (.ref l) (.ref k)) P :=
  TS_neEmpty M (.inr ⟨xs, Rl, rfl⟩) Rk p
theorem F_eqE {l k : Addr} {vs : List Value} {m : Nat} {P : Value → SS → Prop} (M : Rm A m) (Rl : RdF c.w g mu l (.list vs)) (Rk : RdF c.w g mu k (.list [])) (p : P (.bool (decide (vs.length = 0))) ⟨g, bs, mu⟩) : TS c A env ⟨g, bs, mu⟩ (compareOp .Eq (.ref l) (.ref k)) P :=
  TS_eqEmpty M (.inl ⟨vs, Rl, rfl⟩) Rk p
end
/-! ## going over things -/
inductive ItrTurn (c : Cx) (A : Around) (target : Expr) (I : Addr) (Pv : Value → Heap → Prop) (W' : List (Addr × Obj) → Prop) (g : Heap) (mu : List (Addr × Sp)) (rest : List (Addr × Obj)) (r : Option Value) (h' : Heap) : Prop
  | mk (v : Value) (g' : Heap) (wo' : List (Addr × Obj)) (e : r = some v) (k : Keeps g g') (p : Pv v g') (G : GoodC c.w c.K g' mu (wo' ++ rest) h')
    (go : T (model c.prog c.w) A h' (letOwnedTupleGo target (.ref I) v) fun _ h'' => ∃ wo'', W' wo'' ∧ GoodC c.w c.K g' mu (wo'' ++ rest) h'') : ItrTurn c A target I Pv W' g mu rest r h'
inductive ItrEnd (c : Cx) (g : Heap) (mu : List (Addr × Sp)) (rest : List (Addr × Obj)) (r : Option Value) (h' : Heap) : Prop
  | mk (e : r = none) (wo' : List (Addr × Obj)) (G : GoodC c.w c.K g mu (wo' ++ rest) h') : ItrEnd c g mu rest r h'
structure Itr (c : Cx) (A : Around) (target : Expr) (I : Addr) (g0 : Heap) (n : Nat) (Pv : Nat → Value → Heap → Prop) (W : Nat → List (Addr × Obj) → Prop) : Prop where
  item : ∀ i wo, i < n → W i wo → ∀ g mu rest h, Keeps g0 g → GoodC c.w c.K g mu (wo ++ rest) h →
    T (model c.prog c.w) A h (pyNext (.ref I)) (ItrTurn c A target I (Pv i) (W (i + 1)) g mu rest)
  done : ∀ wo, W n wo → ∀ g mu rest h, Keeps g0 g → GoodC c.w c.K g mu (wo ++ rest) h → T (model c.prog c.w) A h (pyNext (.ref I)) (ItrEnd c g mu rest)
  self : ∀ i wo, W i wo → ∀ g mu rest h, Keeps g0 g → GoodC c.w c.K g mu (wo ++ rest) h → T (model c.prog c.w) A h (pyIter (.ref I)) fun v h' => v = .ref I ∧ GoodC c.w c.K g mu (wo ++ rest) h'

inductive ItrIs (c : Cx) (A : Around) (target : Expr) (g : Heap) (n : Nat) (Pv : Nat → Value → Heap → Prop) (mu' : List (Addr × Sp)) (rest : List (Addr × Obj)) (it : Value) (h' : Heap) : Prop
  | mk (I : Addr) (W : Nat → List (Addr × Obj) → Prop) (wo : List (Addr × Obj)) (e : it = .ref I) (X : Itr c A target I g n Pv W) (w0 : W 0 wo) (G : GoodC c.w c.K g mu' (wo ++ rest) h') : ItrIs c A target g n Pv mu' rest it h'
def IterOk (c : Cx) (A : Around) (target : Expr) (g : Heap) (mu : List (Addr × Sp)) (xv : Value) (n : Nat) (Pv : Nat → Value → Heap → Prop) (mu' : List (Addr × Sp)) : Prop :=
  ∀ rest h, GoodC c.w c.K g mu rest h → T (model c.prog c.w) A h (pyIter xv) (ItrIs c A target g n Pv mu' rest)

theorem GoodC.swap {w : World} {K : Frag} {g : Heap} {mu : List (Addr × Sp)} {wo rest : List (Addr × Obj)} {p : Addr × Obj} {h : Heap} : GoodC w K g mu (p :: (wo ++ rest)) h ↔ GoodC w K g mu (wo ++ p :: rest) h :=
  ⟨fun G => G.permR List.perm_middle.symm, fun G => G.permR List.perm_middle⟩

theorem GoodC.newObj {w : World} {K : Frag} {g : Heap} {mu : List (Addr × Sp)} {rest : List (Addr × Obj)} {h : Heap} (G : GoodC w K g mu rest h) {o : Obj} (hf : o.isFreed = false) : GoodC w K g mu ((h.objs.size, o) :: rest) (h.push o) := by
  have new : ∀ b o', h.get? b = some o' → b ≠ h.objs.size := fun b o' e => Nat.ne_of_lt (Heap.lt_size e)
  refine ⟨G.base, fun b o' e => Heap.get?_push_of_some _ (G.keep b o' e), fun p hp => ⟨(G.own p hp).1.mono fun b o e => Heap.get?_push_of_some _ e, (G.own p hp).2⟩, fun p hp => ?_, ?_⟩
  · rcases List.mem_cons.mp hp with rfl | hp
    · refine ⟨Heap.get?_push_size _ hf, ?_⟩
      cases q : g.get? h.objs.size with
      | none => rfl
      | some o' => exact absurd rfl (new _ _ (G.keep _ _ q))
    · exact ⟨Heap.get?_push_of_some _ (G.rst p hp).1, (G.rst p hp).2⟩
  · have dis := G.dis
    simp only [List.map_cons]
    refine List.nodup_append.mpr ⟨(List.nodup_append.mp dis).1, List.nodup_cons.mpr ⟨fun hm => ?_, (List.nodup_append.mp dis).2.1⟩, fun a ha b hb => ?_⟩
    · obtain ⟨p, hp, e⟩ := List.mem_map.mp hm
      exact new _ _ (G.rst p hp).1 e
    · rcases List.mem_cons.mp hb with rfl | hb
      · obtain ⟨p, hp, e⟩ := List.mem_map.mp ha
        obtain ⟨⟨o, e', _⟩, _⟩ := G.own p hp
        exact fun q => new _ _ e' (e.trans q)
      · exact (List.nodup_append.mp dis).2.2 a ha b hb

/-- another's entry is turned -/
theorem GoodC.updR {w : World} {K : Frag} {g : Heap} {mu : List (Addr × Sp)} {rest : List (Addr × Obj)} {h h' : Heap} {a : Addr} {o o' : Obj} (G : GoodC w K g mu ((a, o) :: rest) h) (hs : Heap.ExtBut a h h') (ha : h'.get? a = some o') : GoodC w K g mu ((a, o') :: rest) h' := by
  have dis := G.dis
  simp only [List.map_cons] at dis
  have d2 := List.nodup_append.mp dis
  have hg := (G.rst _ (.head _)).2
  refine ⟨G.base, fun b x e => hs b x ?_ (G.keep b x e), fun p hp => ⟨?_, (G.own p hp).2⟩, fun p hp => ?_, by simpa only [List.map_cons] using dis⟩
  · rintro rfl; rw [hg] at e; cases e
  · obtain ⟨x, e, ok⟩ := (G.own p hp).1
    refine ⟨x, hs _ _ ?_ e, ok⟩
    exact fun q => d2.2.2 _ (List.mem_map_of_mem hp) _ (.head _) q
  · rcases List.mem_cons.mp hp with rfl | hp
    · exact ⟨ha, hg⟩
    · refine ⟨hs _ _ ?_ (G.rst p (.tail _ hp)).1, (G.rst p (.tail _ hp)).2⟩
      exact fun q => (List.nodup_cons.mp d2.2.1).1 (q ▸ List.mem_map_of_mem hp)
theorem GoodC.dropR {w : World} {K : Frag} {g : Heap} {mu : List (Addr × Sp)} {rest : List (Addr × Obj)} {h h' : Heap} {a : Addr} {o : Obj} (G : GoodC w K g mu ((a, o) :: rest) h) (hs : Heap.ExtBut a h h') : GoodC w K g mu rest h' := by
  have dis := G.dis
  simp only [List.map_cons] at dis
  have d2 := List.nodup_append.mp dis
  have hg := (G.rst _ (.head _)).2
  refine ⟨G.base, fun b x e => hs b x ?_ (G.keep b x e), fun p hp => ⟨?_, (G.own p hp).2⟩, fun p hp => ?_, List.nodup_append.mpr ⟨d2.1, (List.nodup_cons.mp d2.2.1).2, fun a ha b hb => d2.2.2 a ha b (.tail _ hb)⟩⟩
  · rintro rfl; rw [hg] at e; cases e
  · obtain ⟨x, e, ok⟩ := (G.own p hp).1
    refine ⟨x, hs _ _ ?_ e, ok⟩
    exact fun q => d2.2.2 _ (List.mem_map_of_mem hp) _ (.head _) q
  · refine ⟨hs _ _ ?_ (G.rst p (.tail _ hp)).1, (G.rst p (.tail _ hp)).2⟩
    exact fun q => (List.nodup_cons.mp d2.2.1).1 (q ▸ List.mem_map_of_mem hp)

theorem GoodC.getG {w : World} {K : Frag} {g : Heap} {mu : List (Addr × Sp)} {rest : List (Addr × Obj)} {h : Heap} (G : GoodC w K g mu rest h) {a : Addr} {sp : Sp} (x : At w g a sp) : At w h a sp := x.mono G.keep

section
variable {c : Cx} {A : Around} {env : Env} {g : Heap} {bs : List (Str × Option Value)} {mu : List (Addr × Sp)} {names : List (Str × NameKind)} {cl : List (Str × Addr)} {N : SS → Prop} {R : Value → SS → Prop} {rest : List Stmt}

/-! ### a list, a tuple, a range -/
theorem let_list {M : Nat} {h : Heap} {I l : Addr} {i : Nat} {target : Expr} {v : Value} {P : Unit → Heap → Prop} (ht : (∃ x p, target = .Name x p) ∨ ∃ es k p, target = .Tuple es k p) (hit : h.IsListIter I l i) (p : P () h) :
    T (model c.prog c.w) A h (letOwnedTupleGo target (.ref I) v) P := by
  intro s hs
  subst hs
  rcases ht with ⟨x, q, rfl⟩ | ⟨es, k, q, rfl⟩
  · exact wpAny_pure ⟨p, .refl s⟩
  · cases v with
    | ref T => exact wpAny_letOwnedTupleGo_listiter hit ⟨p, .refl s⟩
    | _ => exact wpAny_pure ⟨p, .refl s⟩

theorem Iter_list {target : Expr} {l : Addr} {vs : List Value} {m : Nat} (M : Rm A m) (ht : (∃ x p, target = .Name x p) ∨ ∃ es k p, target = .Tuple es k p) (hl : At c.w g l (.list vs)) : IterOk c A target g mu (.ref l) vs.length (fun i v _ => vs[i]? = some v) mu := by
  intro rest h G s hs
  subst hs
  refine wpAny_pyIter_list (G.getG hl).isList ?_
  refine ⟨⟨s.heap.objs.size, fun i wo => ∃ o, wo = [(s.heap.objs.size, o)] ∧ o.cls = .type "list_iterator" ∧ o.data = .fields #[.ref l, .int i 0] ∧ o.isFreed = false, [(s.heap.objs.size, _)], rfl, ⟨?_, ?_, ?_⟩, ⟨_, rfl, rfl, rfl, rfl⟩, G.newObj rfl⟩, rfl⟩
  · rintro i wo hi ⟨o, rfl, hc, hd, hf⟩ g1 mu rest h k G1 s1 hs1
    subst hs1
    have hL := (G1.getG (hl.mono k)).isList
    have hI : s1.heap.IsListIter s.heap.objs.size l i := ⟨o, (G1.rst _ (.head _)).1, hc, hd⟩
    have hx : vs.toArray[i]? = some vs[i] := by simp [hi]
    refine wpAny_pyNext_list_item hI hL hx fun h' hit' hs' => ?_
    obtain ⟨o', e', hc', hd'⟩ := hit'
    have G2 : GoodC c.w c.K g1 mu ([(s.heap.objs.size, o')] ++ rest) h' := G1.updR hs'.extBut e'
    have hf' : o'.isFreed = false := by obtain ⟨_, _, dt, _⟩ := o'; cases hd'; rfl
    exact ⟨⟨_, g1, [(s.heap.objs.size, o')], rfl, Keeps.refl _, by simp [hi], G2, let_list (M := m) ht (c := c) ⟨o', e', hc', hd'⟩ ⟨_, ⟨o', rfl, hc', by rw [hd'], hf'⟩, G2⟩⟩, rfl⟩
  · rintro wo ⟨o, rfl, hc, hd, hf⟩ g1 mu rest h k G1 s1 hs1
    subst hs1
    have hL := (G1.getG (hl.mono k)).isList
    have hI : s1.heap.IsListIter s.heap.objs.size l vs.length := ⟨o, (G1.rst _ (.head _)).1, hc, hd⟩
    refine wpAny_pyNext_list_end M.hd hI hL (by simp) fun h' he' => ?_
    exact ⟨⟨rfl, [], G1.dropR he'⟩, rfl⟩
  · rintro i wo ⟨o, rfl, hc, hd, hf⟩ g1 mu rest h k G1 s1 hs1
    subst hs1
    have hI : s1.heap.IsListIter s.heap.objs.size l i := ⟨o, (G1.rst _ (.head _)).1, hc, hd⟩
    exact wpAny_pyIter_listiter hI ⟨⟨rfl, G1⟩, .refl s1⟩

theorem Iter_ints {x : Str} {q : Pos} {l : Addr} {xs : List Int} {m : Nat} (M : Rm A m) (hl : At c.w g l (.intl xs)) : IterOk c A (.Name x q) g mu (.ref l) xs.length (fun i v _ => ∃ z t, xs[i]? = some z ∧ v = .int z t) mu := by
  obtain ⟨vs, hv, i⟩ := hl.toList
  have := Iter_list (c := c) (mu := mu) (target := .Name x q) M (.inl ⟨x, q, rfl⟩) hv
  rw [ints_len i] at this
  intro rest h G
  refine (this rest h G).mono ?_
  rintro it h' ⟨I, W, wo, e, X, w0, G'⟩
  refine ⟨I, W, wo, e, ⟨fun j wo hj w0 g mu rest h k G => (X.item j wo hj w0 g mu rest h k G).mono ?_, X.done, X.self⟩, w0, G'⟩
  rintro r h'' ⟨v, g', wo', e1, k1, p, r1, r2⟩
  refine ⟨v, g', wo', e1, k1, ?_, r1, r2⟩
  obtain ⟨t, ht⟩ := ints_get i (k := j) (x := xs[j]) (by simp [hj])
  exact ⟨xs[j], t, by simp [hj], Option.some.inj (p.symm.trans ht)⟩

/-- an empty tuple -/
theorem Iter_tup0 {target : Expr} {l : Addr} {m : Nat} (M : Rm A m) (hl : At c.w g l (.tup [])) : IterOk c A target g mu (.ref l) 0 (fun _ _ _ => True) mu := by
  intro rest h G s hs
  subst hs
  refine wpAny_pyIter_tuple (G.getG hl).tuple ?_
  refine ⟨⟨s.heap.objs.size, fun i wo => ∃ o, i = 0 ∧ wo = [(s.heap.objs.size, o)] ∧ o.cls = .type "tuple_iterator" ∧ o.data = .fields #[.ref l, .int 0 0], [(s.heap.objs.size, _)], rfl, ⟨?_, ?_, ?_⟩, ⟨_, rfl, rfl, rfl, rfl⟩, G.newObj rfl⟩, rfl⟩
  · intro i wo hi; (first | lia | omega)
  · rintro wo ⟨o, _, rfl, hc, hd⟩ g1 mu rest h k G1 s1 hs1
    subst hs1
    have hI : s1.heap.IsTupleIter s.heap.objs.size l 0 := ⟨o, (G1.rst _ (.head _)).1, hc, hd⟩
    refine wpAny_pyNext_tuple_end M.hd hI (G1.getG (hl.mono k)).tuple (by simp) fun h' he' => ?_
    exact ⟨⟨rfl, [], G1.dropR he'⟩, rfl⟩
  · rintro i wo ⟨o, _, rfl, hc, hd⟩ g1 mu rest h k G1 s1 hs1
    subst hs1
    have hI : s1.heap.IsTupleIter s.heap.objs.size l 0 := ⟨o, (G1.rst _ (.head _)).1, hc, hd⟩
    exact wpAny_pyIter_tupleiter hI ⟨⟨rfl, G1⟩, .refl s1⟩

/-! ### the for statement -/
inductive ForOk (c : Cx) (A : Around) (env : Env) (target : Expr) (body rest : List Stmt) (N : SS → Prop) (R : Value → SS → Prop) (xv : Value) (σ1 : SS) : Prop
  | mk (n : Nat) (Pv : Nat → Value → Heap → Prop) (mu' : List (Addr × Sp)) (J : Nat → SS → Prop) (It : IterOk c A target σ1.g σ1.mu xv n Pv mu') (J0 : J 0 ⟨σ1.g, σ1.bs, mu'⟩) (JK : ∀ i σ', J i σ' → Keeps σ1.g σ'.g)
    (turn : ∀ i g' bs' mu' v g2, i < n → J i ⟨g', bs', mu'⟩ → Keeps g' g2 → Pv i v g2 → TS c A env ⟨g2, bs', mu'⟩ (assign target env v) fun _ σ2 => XS c A env σ2 body (J (i + 1)) R)
    (fin : ∀ σ', J n σ' → XS c A env σ' rest N R) : ForOk c A env target body rest N R xv σ1
theorem forLoop_ok {S : Result → Shared → Prop} {prog : Program} {w : World} {target : Expr} {it : Value} {body : List Stmt} (I : Nat → Shared → Prop)
    (turn : ∀ n s, I n s → wpAny (model prog w) A (pyNext it) (fun r s₁ => match r with
      | none => S (.ok .next) s₁
      | some v => wpAny (model prog w) A (letOwnedTupleGo target it v) (fun _ s₁' => wpAny (model prog w) A (assign target env v) (fun _ s₂ => wpAny (model prog w) A (execs body env) (fun f s₃ => match f with
            | .next => ∃ m, m < n ∧ I m s₃
            | .ret v => S (.ok (.ret v)) s₃
            | _ => False) (fun _ _ => False) s₂) (fun _ _ => False) s₁') (fun _ _ => False) s₁) (fun _ _ => False) s)
    (n : Nat) (s : Shared) (h : I n s) : codeAny (model prog w) A (.forLoop target it body [] env) S s := by
  refine codeAny_forLoop_any I (fun n s hI => wpAny_mono (turn n s hI) (fun r s₁ h₁ => ?_) fun _ _ f => f.elim) n h
  cases r with
  | none => exact wpAny_execs_nil h₁
  | some v =>
    refine wpAny_mono h₁ (fun _ s₁' h₁' => wpAny_mono h₁' (fun _ s₂ h₂ => wpAny_mono h₂ (fun f s₃ h₃ => ?_) fun _ _ f => f.elim) fun _ _ f => f.elim) fun _ _ f => f.elim
    cases f with
    | next => exact h₃
    | ret v => exact h₃
    | brk => exact h₃.elim
    | cont => exact h₃.elim
theorem GoodC.dropApp {w : World} {K : Frag} {g : Heap} {mu : List (Addr × Sp)} {wo rest : List (Addr × Obj)} {h : Heap} (G : GoodC w K g mu (wo ++ rest) h) : GoodC w K g mu rest h := by
  refine ⟨G.base, G.keep, G.own, fun p hp => G.rst p (List.mem_append_right _ hp), G.dis.sublist ((List.Sublist.refl _).append ?_)⟩
  simp only [List.map_append]
  exact List.sublist_append_right _ _
inductive ForSt (c : Cx) (env : Env) (n : Nat) (W : Nat → List (Addr × Obj) → Prop) (J : Nat → SS → Prop) (rs : List (Addr × Obj)) (s : Shared) (k : Nat) (s' : Shared) : Prop
  | mk (i : Nat) (wo : List (Addr × Obj)) (σ' : SS) (e : k = n + 1 - i) (hi : i ≤ n) (wi : W i wo) (Ji : J i σ') (G : Good c env σ' (wo ++ rs) s'.heap) (q : Sim s s') : ForSt c env n W J rs s k s'
theorem for_loop {S : Result → Shared → Prop} {target : Expr} {body : List Stmt} {n : Nat} {Pv : Nat → Value → Heap → Prop} {J : Nat → SS → Prop} {I : Addr} {W : Nat → List (Addr × Obj) → Prop} {rs : List (Addr × Obj)} {s : Shared} {g0 : Heap} (X : Itr c A target I g0 n Pv W) (JK : ∀ i σ', J i σ' → Keeps g0 σ'.g)
    (turn : ∀ i g' bs' mu' v g2, i < n → J i ⟨g', bs', mu'⟩ → Keeps g' g2 → Pv i v g2 → TS c A env ⟨g2, bs', mu'⟩ (assign target env v) fun _ σ2 => XS c A env σ2 body (J (i + 1)) R)
    (hn : ∀ σ' s', Good c env σ' rs s'.heap → Sim s s' → J n σ' → S (.ok .next) s') (hr : ∀ v σ' s', Good c env σ' rs s'.heap → Sim s s' → R v σ' → S (.ok (.ret v)) s') (k : Nat) (s₃ : Shared) (h0 : ForSt c env n W J rs s k s₃) :
    codeAny (model c.prog c.w) A (.forLoop target (.ref I) body [] env) S s₃ := by
  refine forLoop_ok (ForSt c env n W J rs s) ?_ k s₃ h0
  rintro k s3 ⟨i, wo, ⟨g3, bs3, mu3⟩, rfl, hi, wi, Ji, ⟨oL, nn, GC3, nd3⟩, q3⟩
  have GC3 := GoodC.swap.mp GC3
  by_cases hlt : i < n
  · refine (X.item i wo hlt wi _ _ _ _ (JK i _ Ji) GC3).use rfl fun r s4 HH q4 => ?_
    obtain ⟨v, g', wo', e, kg, pv, G4, go⟩ := HH
    subst e
    refine go.use rfl fun _ s5 HH q5 => ?_
    obtain ⟨wo'', wi', G5⟩ := HH
    have G5' : Good c env ⟨g', bs3, mu3⟩ (wo'' ++ rs) s5.heap := ⟨oL, nn, GoodC.swap.mpr G5, nd3⟩
    have q5 := (q3.trans q4).trans q5
    clear go G5 G4 GC3 wi q3 q4
    refine (turn i g3 bs3 mu3 v g' hlt Ji kg pv).run G5' fun _ s6 σ6 G6 H6 q6 => ?_
    refine TS.run (P := _) H6 G6 fun f s7 σ7 G7 p7 q7 => ?_
    have q7 := (q5.trans q6).trans q7
    cases f with
    | next => exact ⟨n + 1 - (i + 1), by (first | lia | omega), i + 1, wo'', σ7, rfl, hlt, wi', p7, G7, q7⟩
    | ret v =>
      obtain ⟨oL, nn, GC7, nd7⟩ := G7
      exact hr v σ7 s7 ⟨oL, nn, (GoodC.swap.mp GC7).dropApp, nd7⟩ q7 p7
    | brk => exact p7.elim
    | cont => exact p7.elim
  · have hin : i = n := by (first | lia | omega)
    subst hin
    refine (X.done wo wi _ _ _ _ (JK i _ Ji) GC3).use rfl fun r s4 HH q4 => ?_
    obtain ⟨e, wo', G4⟩ := HH
    subst e
    exact hn ⟨g3, bs3, mu3⟩ s4 ⟨oL, nn, G4.dropApp, nd3⟩ (q3.trans q4) Ji
theorem XS_for {target iter : Expr} {body : List Stmt} {pos : Pos} {σ : SS}
    (H : TS c A env σ (eval iter env) (ForOk c A env target body rest N R))
    (hs : ∀ x, foldedSetIterable iter env x = pure x := by intro _; rfl) : XS c A env σ (.For target iter body [] pos :: rest) N R :=
  XS_cons (TS.of fun rs s G => wpAny_For (H.run G fun xv s1 σ1 G1 HH q1 => by
    obtain ⟨n, Pv, mu1, J, It, J0, JK, turn, fin⟩ := HH
    obtain ⟨oL, nn, GC, nd⟩ := G1
    refine (It _ _ GC).use rfl fun it s2 HH q2 => ?_
    obtain ⟨I, W, wo, e, X, w0, G2⟩ := HH
    subst e
    refine for_loop X JK turn (fun σ' s' G q Jn => ?_) (fun v σ' s' G q p => ?_) (n + 1) s2 ⟨0, wo, ⟨σ1.g, σ1.bs, mu1⟩, rfl, Nat.zero_le _, w0, J0, ⟨oL, nn, GoodC.swap.mpr G2, nd⟩, q1.trans q2⟩
    · exact ⟨⟨σ', G, fin σ' Jn⟩, q⟩
    · exact ⟨⟨σ', G, p⟩, q⟩) hs)
end

/-! ## a comprehension -/
section
variable {prog : Program} {w : World} {A : Around} {R : Result → Shared → Prop} {s : Shared}
theorem compLoop_gen {elt target iter : Expr} {ifs : List Expr} {scope : Scope} {pos : Pos} {it acc : Value} {env : Env} (I : Nat → Shared → Prop)
    (turn : ∀ n s, I n s → wpAny (model prog w) A (pyNext it) (fun r s₁ => match r with
      | none => R (.ok .next) s₁
      | some v => wpAny (model prog w) A (letOwnedTupleGo target it v) (fun _ s₁' => wpAny (model prog w) A (assign target env v) (fun _ s₂ =>
          wpAny (model prog w) A (forIn ifs true fun c r => if r = true then do let ok ← isTrue c env (eval c env); pure (ForInStep.yield ok) else pure (ForInStep.yield r)) (fun ok s₃ =>
            if ok = true then wpAny (model prog w) A (eval elt env) (fun x s₄ =>
              wpAny (model prog w) A (call (.builtin "list.append") [acc, x]) (fun _ s₅ => ∃ m, m < n ∧ I m s₅) (fun _ _ => False) s₄) (fun _ _ => False) s₃
            else ∃ m, m < n ∧ I m s₃) (fun _ _ => False) s₂) (fun _ _ => False) s₁') (fun _ _ => False) s₁) (fun _ _ => False) s)
    (n : Nat) (h : I n s) :
    codeAny (model prog w) A (.compLoop (.ListComp elt [⟨target, iter, ifs, 0⟩] scope pos) 0 it acc env) R s := by
  refine codeAny_loop rfl I (fun n s hI => ?_) n h
  show wpAny _ A ((compTurn (.ListComp elt [⟨target, iter, ifs, 0⟩] scope pos) 0 it acc env).onRaise (fun x => do noteFrame x env; theTreesLotGoes x)) _ _ s
  refine wpAny_noted ?_
  rw [compTurn_list]
  refine wpAny_bind (wpAny_standAt (wpAny_bind (wpAny_mono (turn n s hI) (fun r s₁ h₁ => ?_) fun _ _ f => f.elim)))
  cases r with
  | none => exact wpAny_pure h₁
  | some v =>
    refine wpAny_bind (wpAny_mono h₁ (fun _ s₁' h₁' => ?_) fun _ _ f => f.elim)
    refine wpAny_bind (wpAny_mono h₁' (fun _ s₂ h₂ => wpAny_bind (wpAny_mono h₂ (fun ok s₃ h₃ => ?_) fun _ _ f => f.elim)) fun _ _ f => f.elim)
    cases ok with
    | false => exact wpAny_pure ⟨rfl, h₃⟩
    | true =>
      exact wpAny_bind (wpAny_bind (wpAny_mono h₃ (fun x s₄ h₄ => wpAny_bind (wpAny_mono h₄ (fun _ s₅ h₅ => wpAny_pure (wpAny_pure ⟨rfl, h₅⟩)) fun _ _ f => f.elim)) fun _ _ f => f.elim))
end

section
variable {c : Cx} {A : Around} {env : Env} {g : Heap} {bs : List (Str × Option Value)} {mu : List (Addr × Sp)} {names : List (Str × NameKind)} {cl : List (Str × Addr)} {N : SS → Prop} {R : Value → SS → Prop} {rest : List Stmt}

/-- the tests of a comprehension (none, or one) -/
def CompT (c : Cx) (A : Around) (env : Env) (σ : SS) : List Expr → (Bool → SS → Prop) → Prop
  | [], P => P true σ
  | [t], P => TS c A env σ (isTrue t env (eval t env)) P
  | _, _ => False

theorem CompT.run {σ : SS} {ifs : List Expr} {P : Bool → SS → Prop} (H : CompT c A env σ ifs P) {rs : List (Addr × Obj)} {s : Shared} (G : Good c env σ rs s.heap) {Q : Bool → Shared → Prop} {E : Value → Shared → Prop}
    (k : ∀ b s' σ', Good c env σ' rs s'.heap → P b σ' → Sim s s' → Q b s') :
    wpAny (model c.prog c.w) A (forIn ifs true fun c r => if r = true then do let ok ← isTrue c env (eval c env); pure (ForInStep.yield ok) else pure (ForInStep.yield r)) Q E s := by
  match ifs, H with
  | [], H => exact wpAny_tests_nil (k true s σ G H (.refl s))
  | [t], H => exact wpAny_tests_one (TS.run H G fun b s' σ' G' p q => k b s' σ' G' p q)

/-- the names of a comprehension, as they stand in it -/
def cNames (env : Env) (scope : Scope) : List (Str × NameKind) := (relabel scope env).names

/-- what a comprehension over n things makes: J says what holds after i of them, ys what is made -/
structure CompJ (c : Cx) (A : Around) (target elt : Expr) (ifs : List Expr) (cn : List (Str × NameKind)) (cl : List (Str × Addr)) (keys : List Str) (n : Nat) (Pv : Nat → Value → Heap → Prop) (g0 : Heap) (J : Nat → List Value → Heap → List (Addr × Sp) → Prop) : Prop where
  grows : ∀ i ys g mu, J i ys g mu → Keeps g0 g ∧ ys.length ≤ i
  turn : ∀ env' i ys g mu v g' bsC, EnvIs env' cn cl → i < n → J i ys g mu → Keeps g g' → Pv i v g' → bsC.map (·.1) = keys →
    TS c A env' ⟨g', bsC, mu⟩ (assign target env' v) fun _ σ2 => σ2.bs.map (·.1) = keys ∧ CompT c A env' σ2 ifs fun ok σ3 => σ3.bs.map (·.1) = keys ∧
      (if ok = true then TS c A env' σ3 (eval elt env') fun y σ4 => σ4.bs.map (·.1) = keys ∧ J (i + 1) (ys ++ [y]) σ4.g σ4.mu else J (i + 1) ys σ3.g σ3.mu)

theorem forIn_free (f : Str × NameKind → List (Str × Addr) → Sem (ForInStep (List (Str × Addr)))) (fr₀ : List (Str × Addr)) (hc : ∀ p ∈ fr₀, env.cells.lookup p.1 = some p.2)
    (hf : ∀ x k cs, f (x, k) cs = if (k == NameKind.free) = true then (do let a ← cellOf env x; pure (ForInStep.yield ((x, a) :: cs))) else pure (ForInStep.yield cs)) :
    ∀ (l : List (Str × NameKind)) (fr : List (Str × Addr)) (acc : List (Str × Addr)), (∀ p ∈ fr, p ∈ fr₀) → (l.filter fun p => p.2 == .free).map (·.1) = fr.map (·.1) → forIn l acc f = pure (fr.reverse ++ acc)
  | [], fr, acc, _, h => by
    cases fr with
    | nil => rfl
    | cons _ _ => cases h
  | (x, k) :: r, fr, acc, hm, h => by
    rw [List.forIn_cons, hf]
    by_cases hk : (k == NameKind.free) = true
    · simp only [List.filter_cons, hk, if_true, List.map_cons] at h
      cases fr with
      | nil => cases h
      | cons q fr =>
        simp only [List.map_cons, List.cons.injEq] at h
        obtain ⟨e, h⟩ := h
        rw [if_pos hk]
        have : cellOf env x = pure q.2 := by unfold cellOf; rw [e, hc q (hm q (.head _))]
        rw [this]
        show forIn r ((x, q.2) :: acc) f = _
        rw [forIn_free f fr₀ hc hf r fr _ (fun p hp => hm p (.tail _ hp)) h, e]
        simp
    · simp only [List.filter_cons, hk] at h
      rw [if_neg hk]
      exact forIn_free f fr₀ hc hf r fr acc hm (by simpa using h)

theorem closureFor_eq {scope : Scope} (fr : List (Str × Addr)) (hf : (scope.names.filter fun p => p.2 == .free).map (·.1) = fr.map (·.1)) (hc : ∀ p ∈ fr, env.cells.lookup p.1 = some p.2) : closureFor scope env = pure fr.reverse := by
  unfold closureFor
  show (forIn scope.names ([] : List (Str × Addr)) _ >>= fun r => pure r) = _
  rw [forIn_free (env := env) _ fr hc ?_ scope.names fr [] (fun _ h => h) hf]
  · simp
  · intro x k cs
    rfl

inductive CompSt (c : Cx) (n : Nat) (W : Nat → List (Addr × Obj) → Prop) (J : Nat → List Value → Heap → List (Addr × Sp) → Prop) (keys : List Str) (C D : Addr) (rs : List (Addr × Obj)) (s : Shared) (k : Nat) (s' : Shared) : Prop
  | mk (i : Nat) (wo : List (Addr × Obj)) (ys : List Value) (g' : Heap) (mu' : List (Addr × Sp)) (bsC : List (Str × Option Value)) (oC : Obj) (e : k = n + 1 - i) (hi : i ≤ n) (wi : W i wo) (Ji : J i ys g' mu') (hk : bsC.map (·.1) = keys)
    (nC : NsObj oC (lk bsC)) (G : GoodC c.w c.K g' mu' ((C, oC) :: (D, listOb ys ys.length) :: (wo ++ rs)) s'.heap) (q : Sim s s') : CompSt c n W J keys C D rs s k s'
theorem perm_two {α : Type} {a b : α} {l r : List α} : (a :: b :: (l ++ r)).Perm (l ++ (a :: b :: r)) := (List.Perm.cons _ List.perm_middle.symm).trans List.perm_middle.symm
theorem comp_loop {elt target iter : Expr} {ifs : List Expr} {scope : Scope} {pos : Pos} {cl' : List (Str × Addr)} {keys : List Str} {n : Nat} {Pv : Nat → Value → Heap → Prop} {J : Nat → List Value → Heap → List (Addr × Sp) → Prop} {rs : List (Addr × Obj)} {s : Shared}
    {RR : Result → Shared → Prop} {cn : List (Str × NameKind)} {I D : Addr} {W : Nat → List (Addr × Obj) → Prop} (E' : EnvIs env cn cl') (hkeys : keys.Nodup) (X : Itr c A target I g n Pv W) (hn : n ≤ 900) (CJ : CompJ c A target elt ifs cn cl' keys n Pv g J)
    (fin : ∀ ys g' mu' oC s', J n ys g' mu' → GoodC c.w c.K g' mu' ((env.locals, oC) :: (D, listOb ys ys.length) :: rs) s'.heap → (∃ m, s'.heap.Ns env.locals m) → Sim s s' → RR (.ok .next) s') (k : Nat) (s₃ : Shared) (h0 : CompSt c n W J keys env.locals D rs s k s₃) :
    codeAny (model c.prog c.w) A (.compLoop (.ListComp elt [⟨target, iter, ifs, 0⟩] scope pos) 0 (.ref I) (.ref D) env) RR s₃ := by
  refine compLoop_gen (CompSt c n W J keys env.locals D rs s) ?_ k h0
  rintro k s4 ⟨i, wo, ys, g', mu', bsC, oC, rfl, hi, wi, Ji, hk, nC, G6, q6⟩
  obtain ⟨kg, hlen⟩ := CJ.grows _ _ _ _ Ji
  by_cases hlt : i < n
  · refine (X.item i wo hlt wi _ _ _ _ kg (G6.permR perm_two)).use rfl fun r s5 HH q7 => ?_
    obtain ⟨v, g2, wo', e, kg2, pv, G7, go⟩ := HH
    subst e
    refine go.use rfl fun _ s6 HH q8 => ?_
    obtain ⟨wo'', wi', G8⟩ := HH
    have G9 : Good c env ⟨g2, bsC, mu'⟩ ((D, listOb ys ys.length) :: (wo'' ++ rs)) s6.heap := ⟨oC, nC, G8.permR perm_two.symm, by rw [hk]; exact hkeys⟩
    have q8 := (q6.trans q7).trans q8
    clear go G7 G8 G6 wi q6 q7 kg
    refine (CJ.turn _ i ys g' mu' v g2 bsC E' hlt Ji kg2 pv hk).run G9 fun _ s7 σ7 G10 HH q10 => ?_
    obtain ⟨hk7, H7⟩ := HH
    refine CompT.run H7 G10 fun ok s8 σ8 G11 HH q11 => ?_
    obtain ⟨hk8, H8⟩ := HH
    have q11 := (q8.trans q10).trans q11
    have hm : n + 1 - (i + 1) < n + 1 - i := by (first | lia | omega)
    cases ok with
    | false =>
      rw [if_neg Bool.false_ne_true] at H8 ⊢
      obtain ⟨oC8, nC8, G12, _⟩ := G11
      exact ⟨n + 1 - (i + 1), hm, i + 1, wo'', ys, σ8.g, σ8.mu, σ8.bs, oC8, rfl, hlt, wi', H8, hk8, nC8, G12, q11⟩
    | true =>
      rw [if_pos rfl] at H8 ⊢
      refine TS.run H8 G11 fun y s9 σ9 G12 HH q12 => ?_
      obtain ⟨hk9, H9⟩ := HH
      obtain ⟨oC9, nC9, G13, _⟩ := G12
      refine append_at (G13.rst (D, listOb ys ys.length) (.tail _ (.head _))).1 (fun h' hs' e' => ?_) (by rw [List.size_toArray, sizeLine_eq]; (first | lia | omega))
      refine ⟨n + 1 - (i + 1), hm, i + 1, wo'', ys ++ [y], σ9.g, σ9.mu, σ9.bs, oC9, rfl, hlt, wi', H9, hk9, nC9, ?_, q11.trans (q12.trans rfl)⟩
      exact ((G13.permR (List.Perm.swap _ _ _)).updR hs'.extBut (o' := listOb (ys ++ [y]) (ys ++ [y]).length) (by rw [e']; simp [listOb])).permR (List.Perm.swap _ _ _)
  · have hin : i = n := by (first | lia | omega)
    subst hin
    refine (X.done wo wi _ _ _ _ kg (G6.permR perm_two)).use rfl fun r s5 HH q7 => ?_
    obtain ⟨e, wo', G7⟩ := HH
    subst e
    have G8 := G7.dropApp
    obtain ⟨es, ep, a, b, d⟩ := nC
    exact fin ys g' mu' oC s5 Ji G8 ⟨_, oC, es, ep, (G8.rst _ (.head _)).1, a, b, d⟩ (q6.trans q7)

theorem lk_none (keys : List Str) (y : Str) : lk (keys.map fun x => (x, (none : Option Value))) y = none := by
  unfold lk
  induction keys with
  | nil => rfl
  | cons k r ih =>
    rw [List.map_cons, List.lookup_cons]
    cases (y == k) with
    | true => rfl
    | false => exact ih

/-- the end of a comprehension: its list, and its frame's own entry -/
theorem comp_core {elt target iter : Expr} {ifs : List Expr} {scope : Scope} {pos : Pos} {cl' : List (Str × Addr)} {xv : Value} {keys : List Str} {n m : Nat} {Pv : Nat → Value → Heap → Prop} {J : Nat → List Value → Heap → List (Addr × Sp) → Prop} {rs : List (Addr × Obj)} {s : Shared}
    {mu₁ : List (Addr × Sp)} {RR : Value → Addr → Result → Shared → Prop} {E : Value → Shared → Prop} {cn : List (Str × NameKind)} (M : Rm A m) (hkind : scope.kind = .function) (hcell : ∀ y ∈ scope.names, y.2 ≠ .cell) (hcn : cNames env scope = cn) (ok : okNames cn = true) (hg : env.globals = mainGlobals) (hb : env.builtins = builtinsNs)
    (hkeys : keys.Nodup) (It : IterOk c A target g mu xv n Pv mu₁) (hn : n ≤ 900) (CJ : CompJ c A target elt ifs cn cl' keys n Pv g J) (J0 : J 0 [] g mu₁) (G : GoodC c.w c.K g mu rs s.heap)
    (fin : ∀ D C ys g' mu' oC s', J n ys g' mu' → GoodC c.w c.K g' mu' ((C, oC) :: (D, listOb ys ys.length) :: rs) s'.heap → (∃ m, s'.heap.Ns C m) → Sim s s' → RR (.ref D) C (.ok .next) s') :
    wpAny (model c.prog c.w) A (pyIter xv) (fun it s₂ => wpAny (model c.prog c.w) A (newList []) (fun acc s₃ => wpAny (model c.prog c.w) A (newFunctionEnv scope env.globals cl' [] env.qual none .none (some env)) (fun cenv s₄ =>
      codeAny (model c.prog c.w) A (.compStart (.ListComp elt [⟨target, iter, ifs, 0⟩] scope pos) 0 it acc { cenv with scope := relabel scope env }) (RR acc cenv.locals) s₄) E s₃) E s₂) E s := by
  refine (It _ _ G).use rfl fun it s2 HH q2 => ?_
  obtain ⟨I, W, wo, e, X, w0, G2⟩ := HH
  subst e
  refine wpAny_newObj_type ?_ (by size_fits)
  have G3 := G2.newObj (o := listOb [] 0) rfl
  generalize hD : s2.heap.objs.size = D at G3 ⊢
  refine wpAny_newFunctionEnv hcell (fun y hy => nomatch hy) (fun h₁ hns₁ hsb₁ => ?_) hkind
  dsimp only at hns₁ hsb₁ ⊢
  generalize hC : (s2.heap.push { cls := .type "list", dict := none, data := .seq ([] : List Value).toArray }).objs.size = C at hns₁ hsb₁ ⊢
  have G4 := G3.newObj (o := { cls := .type "dict", data := .dict #[] }) rfl
  rw [show (s2.heap.push (listOb [] 0)).objs.size = C from hC] at G4
  obtain ⟨oC, eC, es, ep, ea, eb, ed⟩ := NsObj.of hns₁
  have G5 : GoodC c.w c.K g mu₁ ((C, oC) :: (D, listOb [] 0) :: (wo ++ rs)) h₁ := G4.updR hsb₁.extBut eC
  have E' : EnvIs { (newEnv scope C env.globals cl' env.qual none .none (some env) builtinsNs) with scope := relabel scope env } cn cl' :=
    EnvIs.of hkind hcn ok rfl hg hb
  have hL : Env.locals { (newEnv scope C env.globals cl' env.qual none .none (some env) builtinsNs) with scope := relabel scope env } = C := rfl
  clear hns₁ hsb₁ G3 G4 G2 G
  generalize ({ (newEnv scope C env.globals cl' env.qual none .none (some env) builtinsNs) with scope := relabel scope env } : Env) = env' at E' hL ⊢
  subst hL
  have nC : NsObj oC (lk (keys.map fun x => (x, none))) := ⟨es, ep, ea, eb, fun y => (ed y).trans (lk_none keys y).symm⟩
  have loop := fun s₃ h q => comp_loop (iter := iter) (scope := scope) (pos := pos) E' hkeys X hn CJ (fin D env'.locals) (n + 1) s₃ ⟨0, wo, [], g, mu₁, keys.map fun x => (x, none), oC, rfl, Nat.zero_le _, w0, J0, by simp [Function.comp_def], nC, h, q⟩
  refine codeAny_compStart_list ?_ ?_
  · exact loop _ G5 (q2.trans rfl)
  refine (X.self 0 wo w0 g mu₁ _ _ (Keeps.refl _) (G5.permR perm_two)).use rfl fun it' s' HH q => ?_
  obtain ⟨e, G6⟩ := HH
  subst e
  refine loop _ (G6.permR perm_two.symm) (Sim.trans ?_ q)
  exact q2.trans rfl
end
/-! ## turning what is another's; new things -/
theorem GoodC.fresh {w : World} {K : Frag} {g : Heap} {mu : List (Addr × Sp)} {rest : List (Addr × Obj)} {h : Heap} (G : GoodC w K g mu rest h) {a : Addr} (n : h.get? a = none) :
    g.get? a = none ∧ (∀ p ∈ mu, p.1 ≠ a) ∧ (∀ p ∈ rest, p.1 ≠ a) := by
  refine ⟨?_, fun p hp e => ?_, fun p hp e => ?_⟩
  · cases q : g.get? a with
    | none => rfl
    | some o => rw [G.keep _ _ q] at n; cases n
  · obtain ⟨⟨o, e', _⟩, _⟩ := G.own p hp
    rw [e, n] at e'; cases e'
  · have := (G.rst p hp).1
    rw [e, n] at this; cases this

theorem GoodC.turned {w : World} {K : Frag} {g : Heap} {mu : List (Addr × Sp)} {wo wo' rest : List (Addr × Obj)} {h h' : Heap} (G : GoodC w K g mu (wo ++ rest) h) (hk : wo'.map (·.1) = wo.map (·.1)) (hw : ∀ p ∈ wo', h'.get? p.1 = some p.2)
    (hx : ∀ b o, b ∉ wo.map (·.1) → h.get? b = some o → h'.get? b = some o) : GoodC w K g mu (wo' ++ rest) h' := by
  have dis := G.dis
  simp only [List.map_append] at dis
  have d2 := List.nodup_append.mp dis
  have d3 := List.nodup_append.mp d2.2.1
  have gn : ∀ a ∈ wo.map (·.1), g.get? a = none := fun a ha => by
    obtain ⟨p, hp, rfl⟩ := List.mem_map.mp ha
    exact (G.rst p (List.mem_append_left _ hp)).2
  refine ⟨G.base, fun b o e => hx b o (fun hm => ?_) (G.keep b o e), fun p hp => ⟨?_, (G.own p hp).2⟩, fun p hp => ?_, by simp only [List.map_append, hk]; exact dis⟩
  · rw [gn b hm] at e; cases e
  · obtain ⟨o, e, ok⟩ := (G.own p hp).1
    refine ⟨o, hx _ _ (fun hm => ?_) e, ok⟩
    exact d2.2.2 _ (List.mem_map_of_mem hp) _ (List.mem_append_left _ hm) rfl
  · rcases List.mem_append.mp hp with hp | hp
    · exact ⟨hw p hp, gn _ (hk ▸ List.mem_map_of_mem hp)⟩
    · refine ⟨hx _ _ (fun hm => ?_) (G.rst p (List.mem_append_right _ hp)).1, (G.rst p (List.mem_append_right _ hp)).2⟩
      exact d3.2.2 _ hm _ (List.mem_map_of_mem hp) rfl

theorem GoodC.addM {w : World} {K : Frag} {g : Heap} {mu : List (Addr × Sp)} {rest : List (Addr × Obj)} {h : Heap} (G : GoodC w K g mu rest h) {a : Addr} {o : Obj} {sp : Sp} (e : h.get? a = some o) (ok : sp.ok w o) (gn : g.get? a = none)
    (nm : ∀ p ∈ mu, p.1 ≠ a) (nr : ∀ p ∈ rest, p.1 ≠ a) : GoodC w K g ((a, sp) :: mu) rest h := by
  refine ⟨G.base, G.keep, fun p hp => ?_, G.rst, ?_⟩
  · rcases List.mem_cons.mp hp with rfl | hp
    · exact ⟨⟨o, e, ok⟩, gn⟩
    · exact G.own p hp
  · simp only [List.map_cons, List.cons_append]
    refine List.nodup_cons.mpr ⟨fun hm => ?_, G.dis⟩
    rcases List.mem_append.mp hm with hm | hm
    · obtain ⟨p, hp, q⟩ := List.mem_map.mp hm; exact nm p hp q
    · obtain ⟨p, hp, q⟩ := List.mem_map.mp hm; exact nr p hp q
theorem GoodC.addG {w : World} {K : Frag} {g : Heap} {mu : List (Addr × Sp)} {rest : List (Addr × Obj)} {h : Heap} (G : GoodC w K g mu rest h) {a : Addr} {o : Obj} {sp : Sp} (e : h.get? a = some o) (ok : sp.ok w o) (gn : g.get? a = none)
    (nm : ∀ p ∈ mu, p.1 ≠ a) (nr : ∀ p ∈ rest, p.1 ≠ a) : ∃ g', Keeps g g' ∧ At w g' a sp ∧ GoodC w K g' mu rest h := by
  obtain ⟨g', G', q, r⟩ := GoodC.seal (e := [(a, sp)]) (gone := []) (rest := rest) (mu := mu) (G.addM e ok gn nm nr)
  exact ⟨g', q, r _ (.head _), G'⟩
theorem GoodC.toM {w : World} {K : Frag} {g : Heap} {mu : List (Addr × Sp)} {rest : List (Addr × Obj)} {h : Heap} {a : Addr} {o : Obj} {sp : Sp} (G : GoodC w K g mu ((a, o) :: rest) h) (ok : sp.ok w o) : GoodC w K g ((a, sp) :: mu) rest h := by
  refine ⟨G.base, G.keep, fun p hp => ?_, fun p hp => G.rst p (.tail _ hp), ?_⟩
  · rcases List.mem_cons.mp hp with rfl | hp
    · exact ⟨⟨o, (G.rst _ (.head _)).1, ok⟩, (G.rst _ (.head _)).2⟩
    · exact G.own p hp
  · have := G.dis
    simp only [List.map_cons, List.cons_append] at this ⊢
    exact List.perm_middle.nodup_iff.mp this
theorem GoodC.toR {w : World} {K : Frag} {g : Heap} {mu : List (Addr × Sp)} {rest : List (Addr × Obj)} {h : Heap} {a : Addr} {o : Obj} (G : GoodC w K g ((a, .raw o) :: mu) rest h) : GoodC w K g mu ((a, o) :: rest) h := by
  refine ⟨G.base, G.keep, fun p hp => G.own p (.tail _ hp), fun p hp => ?_, ?_⟩
  · rcases List.mem_cons.mp hp with rfl | hp
    · obtain ⟨⟨o', e, ok⟩, n⟩ := G.own _ (.head _)
      cases ok
      exact ⟨e, n⟩
    · exact G.rst p hp
  · have := G.dis
    simp only [List.map_cons, List.cons_append] at this ⊢
    exact List.perm_middle.nodup_iff.mpr this

section
variable {c : Cx} {A : Around} {env : Env} {g : Heap} {bs : List (Str × Option Value)} {mu : List (Addr × Sp)} {names : List (Str × NameKind)} {cl : List (Str × Addr)} {N : SS → Prop} {R : Value → SS → Prop} {rest : List Stmt}

/-! ### the comprehension's value -/
inductive CompOk (c : Cx) (A : Around) (target elt : Expr) (ifs : List Expr) (cn : List (Str × NameKind)) (cl : List (Str × Addr)) (keys : List Str) (P : Value → SS → Prop) (xv : Value) (σ1 : SS) : Prop
  | mk (n : Nat) (Pv : Nat → Value → Heap → Prop) (mu₁ : List (Addr × Sp)) (J : Nat → List Value → Heap → List (Addr × Sp) → Prop) (It : IterOk c A target σ1.g σ1.mu xv n Pv mu₁) (hn : n ≤ 900) (CJ : CompJ c A target elt ifs cn cl keys n Pv σ1.g J) (J0 : J 0 [] σ1.g mu₁)
    (fin : ∀ D ys g' mu', J n ys g' mu' → P (.ref D) ⟨g', σ1.bs, (D, .list ys) :: mu'⟩) : CompOk c A target elt ifs cn cl keys P xv σ1
theorem TS_comp {elt target iter : Expr} {ifs : List Expr} {scope : Scope} {pos : Pos} {fr : List (Str × Addr)} {keys : List Str} {cn : List (Str × NameKind)} {σ : SS} {P : Value → SS → Prop} {m : Nat} (M : Rm A m) (E : EnvIs env names cl)
    (hkind : scope.kind = .function) (hcell : (scope.names.all fun x => decide (x.2 ≠ .cell)) = true) (hnames : (scope.names.all fun x => decide (x.2 = .local → scope.names.lookup x.1 = some .local)) = true)
    (hf : (scope.names.filter fun p => p.2 == .free).map (·.1) = fr.map (·.1)) (hc : ∀ p ∈ fr, cl.lookup p.1 = some p.2) (hcn : cNames env scope = cn) (ok : okNames cn = true) (hkeys : decide keys.Nodup = true)
    (H : TS c A env σ (eval iter env) (CompOk c A target elt ifs cn fr.reverse keys P))
    (hs : ∀ x, foldedSetIterable iter env x = pure x := by intro _; rfl) : TS c A env σ (eval (.ListComp elt [⟨target, iter, ifs, 0⟩] scope pos) env) P :=
  TS.of fun rs s G => by
    rw [eval_ListComp]
    refine wpAny_comprehension_free (use := none) rfl hs (closureFor_eq fr hf fun p hp => by rw [E.cells]; exact hc p hp) hkind (fun x hx => of_decide_eq_true (List.all_eq_true.mp hnames x hx)) ?_
    refine H.run G fun xv s1 σ1 G1 HH q1 => ?_
    obtain ⟨n, Pv, mu₁, J, It, hn, CJ, J0, fin⟩ := HH
    obtain ⟨oL, nL, GC, nd⟩ := G1
    refine comp_core M hkind (fun x hx => of_decide_eq_true (List.all_eq_true.mp hcell x hx)) hcn ok E.globals E.builtins (of_decide_eq_true hkeys) It hn CJ J0 GC ?_
    intro D C ys g' mu' oC s' Jn G2 hC q2
    obtain ⟨m', hm'⟩ := hC
    refine ⟨m', hm', fun h' hs' => ⟨⟨⟨g', σ1.bs, (D, .list ys) :: mu'⟩, ⟨oL, nL, ?_, nd⟩, fin D ys g' mu' Jn⟩, q1.trans (q2.trans rfl)⟩⟩
    exact (G2.dropR hs'.extBut).toM ⟨ys.length, rfl⟩

theorem XS_assignComp {elt target iter : Expr} {ifs : List Expr} {scope : Scope} {pos spos px : Pos} {x : Str} {fr : List (Str × Addr)} {keys : List Str} {cn : List (Str × NameKind)} {σ : SS} {m : Nat} (M : Rm A m) (E : EnvIs env names cl) (hx : (x, NameKind.local) ∈ names)
    (hsw : swapsWith (.ListComp elt [⟨target, iter, ifs, 0⟩] scope pos) (some (.Name x px)) spos.line env = pure true)
    (hkind : scope.kind = .function) (hcell : (scope.names.all fun x => decide (x.2 ≠ .cell)) = true) (hnames : (scope.names.all fun x => decide (x.2 = .local → scope.names.lookup x.1 = some .local)) = true)
    (hf : (scope.names.filter fun p => p.2 == .free).map (·.1) = fr.map (·.1)) (hc : ∀ p ∈ fr, cl.lookup p.1 = some p.2) (hcn : cNames env scope = cn) (ok : okNames cn = true) (hkeys : decide keys.Nodup = true)
    (H : TS c A env σ (eval iter env) (CompOk c A target elt ifs cn fr.reverse keys (StN x fun σ2 => XS c A env σ2 rest N R)))
    (hs : ∀ x, foldedSetIterable iter env x = pure x := by intro _; rfl) : XS c A env σ (.Assign [.Name x px] (.ListComp elt [⟨target, iter, ifs, 0⟩] scope pos) spos :: rest) N R :=
  XS_cons (TS.of fun rs s G => by
    rw [exec_Assign_Name_used _ _ _ _ hsw]
    refine wpAny_bind (wpAny_standAt (wpAny_bind ?_))
    show wpAny _ A (do let _ ← comprehension (.ListComp elt [⟨target, iter, ifs, 0⟩] scope pos) scope env _ (newList []) false (eval iter env) (some (assign (.Name x px) env))) _ _ s
    refine wpAny_bind (wpAny_mono (wpAny_comprehension_free (use := some (assign (.Name x px) env)) (Q := fun _ s' => (∃ σ', Good c env σ' rs s'.heap ∧ XS c A env σ' rest N R) ∧ Sim s s') rfl hs
      (closureFor_eq fr hf fun p hp => by rw [E.cells]; exact hc p hp) hkind (fun x hx => of_decide_eq_true (List.all_eq_true.mp hnames x hx)) ?_) (fun _ s' hq => wpAny_pure (wpAny_pure hq)) fun _ _ e => e)
    refine H.run G fun xv s1 σ1 G1 HH q1 => ?_
    obtain ⟨n, Pv, mu₁, J, It, hn, CJ, J0, fin⟩ := HH
    obtain ⟨oL, nL, GC, nd⟩ := G1
    refine comp_core M hkind (fun x hx => of_decide_eq_true (List.all_eq_true.mp hcell x hx)) hcn ok E.globals E.builtins (of_decide_eq_true hkeys) It hn CJ J0 GC ?_
    intro D C ys g' mu' oC s' Jn G2 hC q2
    show wpAny _ A (assign (.Name x px) env (.ref D)) _ _ _
    have G3 : Good c env ⟨g', σ1.bs, (D, .list ys) :: mu'⟩ ((C, oC) :: rs) s'.heap := by
      refine ⟨oL, nL, ?_, nd⟩
      exact ((G2.permR (List.Perm.swap _ _ _)).toM (sp := .list ys) ⟨ys.length, rfl⟩).permR (List.Perm.swap _ _ _)
    have nsC : (∃ m, s'.heap.Ns C m) := hC
    refine (TS_assignName (P := fun _ σ2 => XS c A env σ2 rest N R) E hx (fin D ys g' mu' Jn)).run G3 fun _ s2 σ2 G4 p q3 => ?_
    obtain ⟨oL', nL', GC4, nd'⟩ := G4
    have eC := (GC4.rst (C, oC) (.tail _ (.head _))).1
    have eC0 := (G2.rst (C, oC) (.head _)).1
    obtain ⟨m', o', es, ep, e1, e2, e3, e4⟩ := nsC
    rw [eC0] at e1
    cases e1
    refine ⟨m', ⟨oC, es, ep, eC, e2, e3, e4⟩, fun h' hs' => ⟨⟨σ2, ⟨oL', nL', ?_, nd'⟩, p⟩, (q1.trans (q2.trans q3)).trans rfl⟩⟩
    exact (GC4.permR (List.Perm.swap _ _ _)).dropR hs'.extBut)

end
theorem all2 {α : Type} {P : α → Prop} {a b : α} (h1 : P a) (h2 : P b) : ∀ p ∈ [a, b], P p := List.forall_mem_cons.mpr ⟨h1, List.forall_mem_cons.mpr ⟨h2, fun _ h => nomatch h⟩⟩
theorem all2r {α : Type} {P : α → Prop} {a b : α} {r : List α} (h1 : P a) (h2 : P b) (h : ∀ p ∈ r, P p) : ∀ p ∈ [a, b] ++ r, P p := List.forall_mem_cons.mpr ⟨h1, List.forall_mem_cons.mpr ⟨h2, h⟩⟩
theorem all5 {α : Type} {P : α → Prop} {a b c d e : α} (h1 : P a) (h2 : P b) (h3 : P c) (h4 : P d) (h5 : P e) : ∀ p ∈ [a, b, c, d, e], P p := List.forall_mem_cons.mpr ⟨h1, List.forall_mem_cons.mpr ⟨h2, List.forall_mem_cons.mpr ⟨h3, all2 h4 h5⟩⟩⟩
theorem all5r {α : Type} {P : α → Prop} {a b c d e : α} {r : List α} (h1 : P a) (h2 : P b) (h3 : P c) (h4 : P d) (h5 : P e) (h : ∀ p ∈ r, P p) : ∀ p ∈ [a, b, c, d, e] ++ r, P p := List.forall_mem_cons.mpr ⟨h1, List.forall_mem_cons.mpr ⟨h2, List.forall_mem_cons.mpr ⟨h3, all2r h4 h5 h⟩⟩⟩
theorem nin2 {α : Type} {x a b : α} (h : x ∉ [a, b]) : x ≠ a ∧ x ≠ b := ⟨fun e => h (e ▸ .head _), fun e => h (e ▸ .tail _ (.head _))⟩
theorem nin5 {α : Type} {x a b c d e : α} (h : x ∉ [a, b, c, d, e]) : x ≠ a ∧ x ≠ b ∧ x ≠ c ∧ x ≠ d ∧ x ≠ e :=
  ⟨fun q => h (q ▸ .head _), fun q => h (q ▸ .tail _ (.head _)), fun q => h (q ▸ .tail _ (.tail _ (.head _))), fun q => h (q ▸ .tail _ (.tail _ (.tail _ (.head _)))), fun q => h (q ▸ .tail _ (.tail _ (.tail _ (.tail _ (.head _)))))⟩
theorem consNe {β : Type} {q : Addr × β} {r : List (Addr × β)} {x : Addr} (h1 : q.1 ≠ x) (h : ∀ p ∈ r, p.1 ≠ x) : ∀ p ∈ q :: r, p.1 ≠ x := List.forall_mem_cons.mpr ⟨h1, h⟩
theorem addNe {n i j : Nat} (h : (i == j) = false) : n + i ≠ n + j := fun e => absurd (Nat.add_left_cancel e) (beq_eq_false_iff_ne.mp h)

section
variable {c : Cx} {A : Around} {env : Env} {g : Heap} {bs : List (Str × Option Value)} {mu : List (Addr × Sp)} {names : List (Str × NameKind)} {cl : List (Str × Addr)} {N : SS → Prop} {R : Value → SS → Prop} {rest : List Stmt}

/-! ### range -/
abbrev rangeOb (n : Int) (t t' u : Tok) : Obj := { cls := .type "range", data := .fields #[.int 0 t, .int n t', .int 1 u] }
theorem TS_range {n : Int} {t : Tok} {P : Value → SS → Prop} (p : ∀ r g' t₁ u, Keeps g g' → At c.w g' r (.raw (rangeOb n t₁ t u)) → P (.ref r) ⟨g', bs, mu⟩) : TS c A env ⟨g, bs, mu⟩ (call (.type "range") [.int n t]) P :=
  TS.of fun rs s G => call_range_1 (by
    obtain ⟨g', k, a, G'⟩ := G.allocS (sp := .raw (rangeOb n s.toks t (s.toks + 1))) rfl rfl
    exact ⟨⟨⟨g', bs, mu⟩, G', p _ g' _ _ k a⟩, rfl⟩)

theorem Iter_range {x : Str} {q : Pos} {r : Addr} {n : Nat} {t t' u : Tok} {m : Nat} (M : Rm A m) (hr : At c.w g r (.raw (rangeOb n t t' u))) (hn : n ≤ 1000) : IterOk c A (.Name x q) g mu (.ref r) n (fun i v _ => ∃ t, v = .int i t) mu := by
  intro rest h G s hs
  subst hs
  obtain ⟨o, e, ok⟩ := G.getG hr
  cases ok
  have hsz : Builtin.Range.rangeSize 0 n 1 = n := by
    unfold Builtin.Range.rangeSize
    rw [if_pos (by decide)]
    by_cases h : (0 : Int) < n
    · rw [if_pos h]; (first | lia | omega)
    · rw [if_neg h]; (first | lia | omega)
  have hsm : Builtin.Range.small 0 n 1 = true := by
    unfold Builtin.Range.small Builtin.Range.rangeFitsLong
    rw [hsz]
    simp
    (first | lia | omega)
  refine wpAny_pyIter_range (a := 0) (b := n) (c := 1) e hsm ?_
  rw [hsz]
  refine ⟨⟨s.heap.objs.size, fun i wo => i ≤ n ∧ wo = [(s.heap.objs.size, { cls := .type "range_iterator", data := .fields #[rawInt i, rawInt ((n : Int) - i), rawInt 1] })], _, rfl, ⟨?_, ?_, ?_⟩, ⟨Nat.zero_le _, rfl⟩, G.newObj rfl⟩, rfl⟩
  · rintro i wo hi ⟨_, rfl⟩ g1 mu rest h k G1 s1 hs1
    subst hs1
    have hI : IsRangeIter s1.heap s.heap.objs.size i ((n : Int) - i) 1 := (G1.rst _ (.head _)).1
    refine wpAny_pyNext_range_item hI (by (first | lia | omega)) fun h' hit' hs' => ?_
    have G2 : GoodC c.w c.K g1 mu ([(s.heap.objs.size, { cls := .type "range_iterator", data := .fields #[rawInt (i + 1 : Nat), rawInt ((n : Int) - (i + 1 : Nat)), rawInt 1] })] ++ rest) h' := by
      refine G1.updR (rest := rest) hs'.extBut ?_
      rw [show ((n : Int) - (i + 1 : Nat)) = (n : Int) - i - 1 by (first | lia | omega)]
      exact hit'
    exact ⟨⟨_, g1, _, rfl, Keeps.refl _, ⟨_, rfl⟩, G2, T.pure ⟨_, ⟨hi, rfl⟩, G2⟩⟩, rfl⟩
  · rintro wo ⟨_, rfl⟩ g1 mu rest h k G1 s1 hs1
    subst hs1
    have hI : IsRangeIter s1.heap s.heap.objs.size n ((n : Int) - n) 1 := (G1.rst _ (.head _)).1
    exact wpAny_pyNext_range_end M.hd hI (by (first | lia | omega)) fun h' he' => ⟨⟨rfl, [], G1.dropR he'⟩, rfl⟩
  · rintro i wo ⟨_, rfl⟩ g1 mu rest h k G1 s1 hs1
    subst hs1
    have hI : IsRangeIter s1.heap s.heap.objs.size i ((n : Int) - i) 1 := (G1.rst _ (.head _)).1
    exact wpAny_pyIter_rangeiter hI ⟨⟨rfl, G1⟩, .refl s1⟩

/-! ### enumerate -/
abbrev enumOutOb (f0 : Value) (it : Addr) (i : Int) (old : Value) : Obj := { cls := .type "enumerate", dict := none, data := .fields #[f0, .bool false, .ref it, rawInt i, .none, old], slots := #[] }
abbrev enumOb (it : Addr) (i : Int) (old : Value) : Obj := enumOutOb .none it i old
theorem TS_enumerate {l : Addr} {vs : List Value} {P : Value → SS → Prop} (hl : RdF c.w g mu l (.list vs)) (p : ∀ e it oi, (∃ o, o = oi ∧ oi.cls = .type "list_iterator" ∧ oi.data = .fields #[.ref l, .int (0 : Nat) 0]) → P (.ref e) ⟨g, bs, (e, .raw (enumOb it 0 .none)) :: (it, .raw oi) :: mu⟩) :
    TS c A env ⟨g, bs, mu⟩ (call (.type "enumerate") [.ref l]) P :=
  TS.of fun rs s G => call_enumerate_list (hl.rd.at G).isList fun h' he hit hz hk => by
    obtain ⟨oL, nL, GC, nd⟩ := G
    have G1 := GC.up hk
    obtain ⟨oi, e1, e2, e3⟩ := hit
    have n0 : s.heap.get? s.heap.objs.size = none := Heap.get?_none_of_le (Nat.le_refl _)
    have n1 : s.heap.get? (s.heap.objs.size + 1) = none := Heap.get?_none_of_le (Nat.le_succ _)
    obtain ⟨a1, a2, a3⟩ := GC.fresh n0
    obtain ⟨b1, b2, b3⟩ := GC.fresh n1
    have G2 := G1.addM (sp := .raw oi) e1 rfl a1 a2 a3
    have G3 := G2.addM (a := s.heap.objs.size + 1) (sp := .raw (enumOb s.heap.objs.size 0 .none)) he rfl b1 (consNe (addNe (i := 0) (j := 1) rfl) b2) b3
    exact ⟨⟨⟨g, bs, (s.heap.objs.size + 1, .raw (enumOb s.heap.objs.size 0 .none)) :: (s.heap.objs.size, .raw oi) :: mu⟩, ⟨oL, nL, G3, nd⟩, p _ _ oi ⟨oi, rfl, e2, e3⟩⟩, rfl⟩

theorem Iter_enum {es : List Expr} {k : Nat} {q : Pos} {l e it : Addr} {oi : Obj} {vs : List Value} {m : Nat} (M : Rm A m) (hl : At c.w g l (.list vs)) (ho : ∃ o, o = oi ∧ oi.cls = .type "list_iterator" ∧ oi.data = .fields #[.ref l, .int (0 : Nat) 0]) :
    IterOk c A (.Tuple es k q) g ((e, .raw (enumOb it 0 .none)) :: (it, .raw oi) :: mu) (.ref e) vs.length (fun i v g' => ∃ t a x, v = .ref a ∧ vs[i]? = some x ∧ At c.w g' a (.tup [.int i t, x])) mu := by
  intro rest h G s hs
  subst hs
  obtain ⟨_, _, c1, d1⟩ := ho
  have hne : e ≠ it := by
    have := G.dis
    simp only [List.map_cons, List.cons_append] at this
    exact fun x => (List.nodup_cons.mp this).1 (x ▸ .head _)
  have G0 := G.toR.permR (List.Perm.refl _)
  have G1 : GoodC c.w c.K g mu ([(it, oi), (e, enumOb it 0 .none)] ++ rest) s.heap := G0.toR
  refine wpAny_pyIter_enum (e := e) (it := it) (i := 0) (old := .none) (G1.rst (e, enumOb it 0 .none) (.tail _ (.head _))).1 ?_
  refine ⟨⟨e, fun i wo => ∃ o old, wo = [(it, o), (e, enumOb it i old)] ∧ o.cls = .type "list_iterator" ∧ o.data = .fields #[.ref l, .int i 0], _, rfl, ⟨?_, ?_, ?_⟩, ⟨oi, .none, rfl, c1, d1⟩, G1⟩, rfl⟩
  · rintro i wo hi ⟨o, old, rfl, hc, hd⟩ g1 mu rest h k G1 s1 hs1
    subst hs1
    have hL := (G1.getG (hl.mono k)).isList
    have hI : s1.heap.IsListIter it l i := ⟨o, (G1.rst (it, o) (.head _)).1, hc, hd⟩
    have hE : IsEnum s1.heap e it (i : Nat) old := (G1.rst (e, enumOb it i old) (.tail _ (.head _))).1
    obtain ⟨x, hxx⟩ : ∃ x, vs[i]? = some x := ⟨_, List.getElem?_eq_getElem hi⟩
    have hx : vs.toArray[i]? = some x := by rw [List.getElem?_toArray]; exact hxx
    refine wpAny_pyNext_enum_item hE hI hL hx hne fun h' hE' hI' hT' hz' hk' => ?_
    obtain ⟨o', e', hc', hd'⟩ := hI'
    obtain ⟨a1, a2, a3⟩ := G1.fresh (Heap.get?_none_of_le (Nat.le_refl s1.heap.objs.size))
    have G2 : GoodC c.w c.K g1 mu ([(it, o'), (e, enumOutOb (rawInt s1.heap.objs.size) it ((i : Int) + 1) x)] ++ rest) h' := G1.turned (wo' := [(it, o'), (e, enumOutOb (rawInt s1.heap.objs.size) it ((i : Int) + 1) x)]) rfl (all2 e' hE') fun b o hb => hk' b o (nin2 hb).2 (nin2 hb).1
    obtain ⟨g2, kg, at2, G3⟩ := G2.addG (sp := .tup [.int i s1.toks, x]) hT' ⟨_, rfl⟩ a1 a2 (all2r (a3 (it, o) (.head _)) (a3 (e, enumOb it i old) (.tail _ (.head _))) fun p hp => a3 p (List.mem_append_right _ hp))
    refine ⟨⟨_, g2, [(it, o'), (e, _)], rfl, kg, ⟨_, _, _, rfl, hxx, at2⟩, G3, ?_⟩, rfl⟩
    intro s2 hs2
    have hE2' : IsEnumOut s2.heap e it ((i : Int) + 1) x s1.heap.objs.size := by rw [hs2]; exact hE'
    refine wpAny_letOwnedTupleGo_enum hE2' fun h2 hE2 hs2' => ?_
    rw [hs2] at hs2'
    have G4 : GoodC c.w c.K g2 mu ([(it, o'), (e, enumOb it ((i : Int) + 1) x)] ++ rest) h2 := G3.turned (wo' := [(it, o'), (e, enumOb it ((i : Int) + 1) x)]) rfl (all2 (hs2'.extBut _ _ hne.symm e') hE2) fun b o hb => hs2'.extBut b o (nin2 hb).2
    exact ⟨⟨_, ⟨o', x, rfl, hc', hd'⟩, G4⟩, rfl⟩
  · rintro wo ⟨o, old, rfl, hc, hd⟩ g1 mu rest h k G1 s1 hs1
    subst hs1
    have hL := (G1.getG (hl.mono k)).isList
    have hI : s1.heap.IsListIter it l vs.length := ⟨o, (G1.rst (it, o) (.head _)).1, hc, hd⟩
    have hE : IsEnum s1.heap e it (vs.length : Nat) old := (G1.rst (e, enumOb it vs.length old) (.tail _ (.head _))).1
    refine wpAny_pyNext_enum_end M.hd hE hI hL (by simp) fun h' he' => ?_
    refine ⟨⟨rfl, [(e, enumOb it vs.length old)], ?_⟩, rfl⟩
    exact G1.dropR he'
  · rintro i wo ⟨o, old, rfl, hc, hd⟩ g1 mu rest h k G1 s1 hs1
    subst hs1
    exact wpAny_pyIter_enum (e := e) (it := it) (i := (i : Nat)) (old := old) (G1.rst (e, enumOb it i old) (.tail _ (.head _))).1 ⟨⟨rfl, G1⟩, .refl s1⟩

/-! ### zip of two lists -/
abbrev zipOb (TI TO : Addr) (f0 : Value) : Obj := { cls := .type "zip", dict := none, data := .fields #[f0, .bool false, .bool false, .ref TI, .ref TO], slots := #[] }
abbrev pairOb (a b : Value) : Obj := { cls := .type "tuple", data := .seq #[a, b] }

structure ZipSt (c : Cx) (g : Heap) (z TI TO i1 i2 l1 l2 : Addr) (n : Nat) (wo : List (Addr × Obj)) (f0 : Value) : Prop where
  eq : ∃ o1 o2 x y, wo = [(z, zipOb TI TO f0), (TO, pairOb x y), (i1, o1), (i2, o2), (TI, pairOb (.ref i1) (.ref i2))] ∧ o1.cls = .type "list_iterator" ∧ o1.data = .fields #[.ref l1, .int n 0] ∧
    o2.cls = .type "list_iterator" ∧ o2.data = .fields #[.ref l2, .int n 0]

theorem TS_zip {l1 l2 : Addr} {vs us : List Value} {P : Value → SS → Prop} (h1 : RdF c.w g mu l1 (.list vs)) (h2 : RdF c.w g mu l2 (.list us))
    (p : ∀ z TI TO i1 i2 o1 o2, ZipSt c g z TI TO i1 i2 l1 l2 0 [(z, zipOb TI TO .none), (TO, pairOb .none .none), (i1, o1), (i2, o2), (TI, pairOb (.ref i1) (.ref i2))] .none →
      P (.ref z) ⟨g, bs, (z, .raw (zipOb TI TO .none)) :: (TO, .raw (pairOb .none .none)) :: (i1, .raw o1) :: (i2, .raw o2) :: (TI, .raw (pairOb (.ref i1) (.ref i2))) :: mu⟩) :
    TS c A env ⟨g, bs, mu⟩ (call (.type "zip") [.ref l1, .ref l2]) P :=
  TS.of fun rs s G => call_zip_2 (h1.rd.at G).isList (h2.rd.at G).isList fun h' hz hTI hTO hi1 hi2 hsz hk => by
    obtain ⟨oL, nL, GC, nd⟩ := G
    have G1 := GC.up hk
    obtain ⟨o1, e1, c1, d1⟩ := hi1
    obtain ⟨o2, e2, c2, d2⟩ := hi2
    have fr : ∀ k, g.get? (s.heap.objs.size + k) = none ∧ (∀ p ∈ mu, p.1 ≠ s.heap.objs.size + k) ∧ (∀ p ∈ ((env.locals, oL) :: rs), p.1 ≠ s.heap.objs.size + k) := fun k => GC.fresh (Heap.get?_none_of_le (Nat.le_add_right _ _))
    have G2 := G1.addM (a := s.heap.objs.size + 2) (sp := .raw (pairOb _ _)) hTI rfl (fr 2).1 (fr 2).2.1 (fr 2).2.2
    have G3 := G2.addM (a := s.heap.objs.size + 1) (sp := .raw o2) e2 rfl (fr 1).1 (consNe (addNe (i := 2) (j := 1) rfl) (fr 1).2.1) (fr 1).2.2
    have G4 := G3.addM (a := s.heap.objs.size) (sp := .raw o1) e1 rfl (fr 0).1 (consNe (addNe (i := 1) (j := 0) rfl) (consNe (addNe (i := 2) (j := 0) rfl) (fr 0).2.1)) (fr 0).2.2
    have G5 := G4.addM (a := s.heap.objs.size + 3) (sp := .raw (pairOb .none .none)) hTO rfl (fr 3).1 (consNe (addNe (i := 0) (j := 3) rfl) (consNe (addNe (i := 1) (j := 3) rfl) (consNe (addNe (i := 2) (j := 3) rfl) (fr 3).2.1))) (fr 3).2.2
    have G6 := G5.addM (a := s.heap.objs.size + 4) (sp := .raw (zipOb _ _ .none)) hz rfl (fr 4).1 (consNe (addNe (i := 3) (j := 4) rfl) (consNe (addNe (i := 0) (j := 4) rfl) (consNe (addNe (i := 1) (j := 4) rfl) (consNe (addNe (i := 2) (j := 4) rfl) (fr 4).2.1)))) (fr 4).2.2
    exact ⟨⟨⟨g, bs, (s.heap.objs.size + 4, .raw (zipOb (s.heap.objs.size + 2) (s.heap.objs.size + 3) .none)) :: (s.heap.objs.size + 3, .raw (pairOb .none .none)) :: (s.heap.objs.size, .raw o1) :: (s.heap.objs.size + 1, .raw o2) :: (s.heap.objs.size + 2, .raw (pairOb (.ref s.heap.objs.size) (.ref (s.heap.objs.size + 1)))) :: mu⟩, ⟨oL, nL, G6, nd⟩, p _ _ _ _ _ o1 o2 ⟨⟨o1, o2, .none, .none, rfl, c1, d1, c2, d2⟩⟩⟩, rfl⟩

theorem GoodC.dropW {w : World} {K : Frag} {g : Heap} {mu : List (Addr × Sp)} {wo rest : List (Addr × Obj)} {h h' : Heap} (G : GoodC w K g mu (wo ++ rest) h)
    (hx : ∀ b o, b ∉ wo.map (·.1) → h.get? b = some o → h'.get? b = some o) : GoodC w K g mu rest h' := by
  have dis := G.dis
  simp only [List.map_append] at dis
  have d2 := List.nodup_append.mp dis
  have d3 := List.nodup_append.mp d2.2.1
  refine ⟨G.base, fun b o e => hx b o (fun hm => ?_) (G.keep b o e), fun p hp => ⟨?_, (G.own p hp).2⟩, fun p hp => ⟨hx _ _ (fun hm => d3.2.2 _ hm _ (List.mem_map_of_mem hp) rfl) (G.rst p (List.mem_append_right _ hp)).1, (G.rst p (List.mem_append_right _ hp)).2⟩, dis.sublist ((List.Sublist.refl _).append (List.sublist_append_right _ _))⟩
  · obtain ⟨p, hp, rfl⟩ := List.mem_map.mp hm
    rw [(G.rst p (List.mem_append_left _ hp)).2] at e; cases e
  · obtain ⟨o, e, ok⟩ := (G.own p hp).1
    exact ⟨o, hx _ _ (fun hm => d2.2.2 _ (List.mem_map_of_mem hp) _ (List.mem_append_left _ hm) rfl) e, ok⟩
theorem zip_apart {w : World} {K : Frag} {g h : Heap} {mu : List (Addr × Sp)} {z TI TO i1 i2 l1 l2 : Addr} {a1 a2 a3 a4 a5 : Obj} {s1 s2 : Sp} {rest : List (Addr × Obj)} (G : GoodC w K g mu ([(z, a1), (TO, a2), (i1, a3), (i2, a4), (TI, a5)] ++ rest) h) (h1 : At w g l1 s1) (h2 : At w g l2 s2) : ZipApart z TI TO i1 i2 l1 l2 := by
  have ln : ∀ l sp, At w g l sp → ∀ q ∈ [(z, a1), (TO, a2), (i1, a3), (i2, a4), (TI, a5)], l ≠ q.1 := fun l sp hl q hq e => by
    obtain ⟨o, e', _⟩ := hl
    rw [e, (G.rst q (List.mem_append_left _ hq)).2] at e'; cases e'
  have l1n := ln _ _ h1
  have l2n := ln _ _ h2
  have nd := (List.nodup_append.mp G.dis).2.1
  have n1 := List.nodup_cons.mp nd
  have n2 := List.nodup_cons.mp n1.2
  have n3 := List.nodup_cons.mp n2.2
  have n4 := List.nodup_cons.mp n3.2
  exact ⟨fun e => n1.1 (e ▸ .tail _ (.tail _ (.tail _ (.head _)))), fun e => n1.1 (e ▸ .head _), fun e => n1.1 (e ▸ .tail _ (.head _)), fun e => n1.1 (e ▸ .tail _ (.tail _ (.head _))), fun e => n2.1 (e ▸ .tail _ (.tail _ (.head _))), fun e => n3.1 (e ▸ .tail _ (.head _)), fun e => n4.1 (e ▸ .head _), fun e => n2.1 (e ▸ .head _), fun e => n2.1 (e ▸ .tail _ (.head _)), fun e => n3.1 (e ▸ .head _),
    l1n _ (.head _), l1n _ (.tail _ (.head _)), l1n _ (.tail _ (.tail _ (.head _))), l1n _ (.tail _ (.tail _ (.tail _ (.head _)))), l2n _ (.head _), l2n _ (.tail _ (.head _)), l2n _ (.tail _ (.tail _ (.head _))), l2n _ (.tail _ (.tail _ (.tail _ (.head _))))⟩

theorem Iter_zip {es : List Expr} {k : Nat} {q : Pos} {z TI TO i1 i2 l1 l2 : Addr} {o1 o2 : Obj} {vs us : List Value} {m : Nat} (M : Rm A m) (h1 : At c.w g l1 (.list vs)) (h2 : At c.w g l2 (.list us))
    (Z : ZipSt c g z TI TO i1 i2 l1 l2 0 [(z, zipOb TI TO .none), (TO, pairOb .none .none), (i1, o1), (i2, o2), (TI, pairOb (.ref i1) (.ref i2))] .none) :
    IterOk c A (.Tuple es k q) g ((z, .raw (zipOb TI TO .none)) :: (TO, .raw (pairOb .none .none)) :: (i1, .raw o1) :: (i2, .raw o2) :: (TI, .raw (pairOb (.ref i1) (.ref i2))) :: mu) (.ref z) (min vs.length us.length)
      (fun i v g' => ∃ a x y, v = .ref a ∧ vs[i]? = some x ∧ us[i]? = some y ∧ At c.w g' a (.tup [x, y])) mu := by
  intro rest h G s hs
  subst hs
  have G0 : GoodC c.w c.K g mu ([(TI, pairOb (.ref i1) (.ref i2)), (i2, o2), (i1, o1), (TO, pairOb .none .none), (z, zipOb TI TO .none)] ++ rest) s.heap := G.toR.toR.toR.toR.toR
  have G1 : GoodC c.w c.K g mu ([(z, zipOb TI TO .none), (TO, pairOb .none .none), (i1, o1), (i2, o2), (TI, pairOb (.ref i1) (.ref i2))] ++ rest) s.heap := G0.permR ((List.reverse_perm [(z, zipOb TI TO .none), (TO, pairOb .none .none), (i1, o1), (i2, o2), (TI, pairOb (.ref i1) (.ref i2))]).append_right _)
  have D := zip_apart G1 h1 h2
  refine wpAny_pyIter_zip (z := z) (TI := TI) (TO := TO) (f0 := .none) (G1.rst (z, zipOb TI TO .none) (.head _)).1 ?_
  refine ⟨⟨z, fun i wo => ZipSt c g z TI TO i1 i2 l1 l2 i wo .none, _, rfl, ⟨?_, ?_, ?_⟩, Z, G1⟩, rfl⟩
  · rintro i wo hi ⟨p1, p2, x0, y0, rfl, c1, d1, c2, d2⟩ g1 mu rest h k G1 s1 hs1
    subst hs1
    obtain ⟨x, hxx⟩ : ∃ x, vs[i]? = some x := ⟨_, List.getElem?_eq_getElem (Nat.lt_of_lt_of_le hi (Nat.min_le_left _ _))⟩
    obtain ⟨y, hyy⟩ : ∃ y, us[i]? = some y := ⟨_, List.getElem?_eq_getElem (Nat.lt_of_lt_of_le hi (Nat.min_le_right _ _))⟩
    have r3 := G1.rst (TI, pairOb (.ref i1) (.ref i2)) (.tail _ (.tail _ (.tail _ (.tail _ (.head _)))))
    refine wpAny_pyNext_zip_item D (G1.rst (z, zipOb TI TO .none) (.head _)).1 r3.1 (G1.rst (TO, pairOb x0 y0) (.tail _ (.head _))).1 ⟨p1, (G1.rst (i1, p1) (.tail _ (.tail _ (.head _)))).1, c1, d1⟩ ⟨p2, (G1.rst (i2, p2) (.tail _ (.tail _ (.tail _ (.head _))))).1, c2, d2⟩
      (G1.getG (h1.mono k)).isList (G1.getG (h2.mono k)).isList (List.getElem?_toArray.trans hxx) (List.getElem?_toArray.trans hyy) fun h' a1 a2 a3 a4 a5 a6 a7 => ?_
    obtain ⟨q1, e1, c1', d1'⟩ := a3
    obtain ⟨q2, e2, c2', d2'⟩ := a4
    obtain ⟨f1, f2, f3⟩ := G1.fresh (Heap.get?_none_of_le (Nat.le_refl s1.heap.objs.size))
    have ti : h'.get? TI = some (pairOb (.ref i1) (.ref i2)) := a7 _ _ D.TIz D.TITO D.TIi1 D.TIi2 r3.1
    have G2 : GoodC c.w c.K g1 mu ([(z, zipOb TI TO (rawInt s1.heap.objs.size)), (TO, pairOb x y), (i1, q1), (i2, q2), (TI, pairOb (.ref i1) (.ref i2))] ++ rest) h' :=
      G1.turned (wo' := [(z, zipOb TI TO (rawInt s1.heap.objs.size)), (TO, pairOb x y), (i1, q1), (i2, q2), (TI, pairOb (.ref i1) (.ref i2))]) rfl (all5 a1 a2 e1 e2 ti) fun b o hb => have n := nin5 hb; a7 b o n.1 n.2.1 n.2.2.1 n.2.2.2.1
    obtain ⟨g2, kg, at2, G3⟩ := G2.addG (sp := .tup [x, y]) a5 ⟨_, rfl⟩ f1 f2 (all5r (f3 (z, zipOb TI TO .none) (.head _)) (f3 (TO, pairOb x0 y0) (.tail _ (.head _))) (f3 (i1, p1) (.tail _ (.tail _ (.head _)))) (f3 (i2, p2) (.tail _ (.tail _ (.tail _ (.head _))))) (f3 (TI, pairOb (.ref i1) (.ref i2)) (.tail _ (.tail _ (.tail _ (.tail _ (.head _)))))) fun p hp => f3 p (List.mem_append_right _ hp))
    refine ⟨⟨_, g2, _, rfl, kg, ⟨_, x, y, rfl, hxx, hyy, at2⟩, G3, ?_⟩, rfl⟩
    intro s2 hs2
    have hZ2 : IsZip s2.heap z TI TO (rawInt s1.heap.objs.size) := by rw [hs2]; exact a1
    refine wpAny_letOwnedTupleGo_zip hZ2 fun h2' hZ3 hs2' => ?_
    rw [hs2] at hs2'
    have G4 : GoodC c.w c.K g2 mu ([(z, zipOb TI TO .none), (TO, pairOb x y), (i1, q1), (i2, q2), (TI, pairOb (.ref i1) (.ref i2))] ++ rest) h2' :=
      G3.turned (wo' := [(z, zipOb TI TO .none), (TO, pairOb x y), (i1, q1), (i2, q2), (TI, pairOb (.ref i1) (.ref i2))]) rfl (all5 hZ3 (hs2'.extBut _ _ D.TOz a2) (hs2'.extBut _ _ D.i1z e1) (hs2'.extBut _ _ D.i2z e2) (hs2'.extBut _ _ D.TIz ti)) fun b o hb => hs2'.extBut b o (nin5 hb).1
    exact ⟨⟨_, ⟨q1, q2, _, _, rfl, c1', d1', c2', d2'⟩, G4⟩, rfl⟩
  · rintro wo ⟨p1, p2, x0, y0, rfl, c1, d1, c2, d2⟩ g1 mu rest h k G1 s1 hs1
    subst hs1
    have hend : vs.toArray[min vs.length us.length]? = none ∨ us.toArray[min vs.length us.length]? = none := by
      rcases Nat.le_total vs.length us.length with h | h
      · left; simp; (first | lia | omega)
      · right; simp; (first | lia | omega)
    refine wpAny_pyNext_zip_end M.hd D (G1.rst (z, zipOb TI TO .none) (.head _)).1 (G1.rst (TI, pairOb (.ref i1) (.ref i2)) (.tail _ (.tail _ (.tail _ (.tail _ (.head _)))))).1 (G1.rst (TO, pairOb x0 y0) (.tail _ (.head _))).1 ⟨p1, (G1.rst (i1, p1) (.tail _ (.tail _ (.head _)))).1, c1, d1⟩ ⟨p2, (G1.rst (i2, p2) (.tail _ (.tail _ (.tail _ (.head _))))).1, c2, d2⟩
      (G1.getG (h1.mono k)).isList (G1.getG (h2.mono k)).isList hend fun h' a7 => ⟨⟨rfl, [], ?_⟩, rfl⟩
    exact G1.dropW fun b o hb => have n := nin5 hb; a7 b o n.1 n.2.1 n.2.2.1 n.2.2.2.1
  · rintro i wo ⟨p1, p2, x0, y0, rfl, c1, d1, c2, d2⟩ g1 mu rest h k G1 s1 hs1
    subst hs1
    exact wpAny_pyIter_zip (z := z) (TI := TI) (TO := TO) (f0 := .none) (G1.rst (z, zipOb TI TO .none) (.head _)).1 ⟨⟨rfl, G1⟩, .refl s1⟩
end
theorem bindL_eq (k : Str → Option NameKind) : ∀ (binds : List (Str × Value)) (m : Str → Option Value) (x : Str),
    bindL k binds m x = (match (binds.filter fun p => decide (k p.1 = some .local)).reverse.lookup x with | some v => some v | none => m x)
  | [], m, x => rfl
  | (n, v) :: r, m, x => by
    unfold bindL
    rw [bindL_eq k r]
    by_cases h : k n = some .local
    · have e : (((n, v) :: r).filter fun p => decide (k p.1 = some .local)) = (n, v) :: r.filter fun p => decide (k p.1 = some .local) := by simp [h]
      rw [e, List.reverse_cons, List.lookup_append]
      simp only [h, if_true]
      cases List.lookup x (List.filter (fun p => decide (k p.1 = some NameKind.local)) r).reverse with
      | some u => rfl
      | none =>
        simp only [Option.none_or, List.lookup_cons, List.lookup_nil]
        by_cases e : x = n
        · subst e; simp
        · rw [if_neg e, beq_eq_false_iff_ne.mpr e]
    · have e : (((n, v) :: r).filter fun p => decide (k p.1 = some .local)) = r.filter fun p => decide (k p.1 = some .local) := by simp [h]
      rw [e, if_neg h]
theorem bindC_eq (k : Str → Option NameKind) : ∀ (binds : List (Str × Value)) (m : Str → Option Value) (x : Str),
    bindC k binds m x = (match (binds.filter fun p => !decide (k p.1 = some .local)).reverse.lookup x with | some v => some v | none => m x)
  | [], m, x => rfl
  | (n, v) :: r, m, x => by
    unfold bindC
    rw [bindC_eq k r]
    by_cases h : k n = some .local
    · have e : (((n, v) :: r).filter fun p => !decide (k p.1 = some .local)) = r.filter fun p => !decide (k p.1 = some .local) := by simp [h]
      rw [e, if_pos h]
    · have e : (((n, v) :: r).filter fun p => !decide (k p.1 = some .local)) = (n, v) :: r.filter fun p => !decide (k p.1 = some .local) := by simp [h]
      rw [e, List.reverse_cons, List.lookup_append]
      rw [if_neg h]
      cases List.lookup x (List.filter (fun p => !decide (k p.1 = some NameKind.local)) r).reverse with
      | some u => rfl
      | none =>
        simp only [Option.none_or, List.lookup_cons, List.lookup_nil]
        by_cases e : x = n
        · subst e; simp
        · rw [if_neg e, beq_eq_false_iff_ne.mpr e]

theorem zip_fs {α β : Type} : ∀ l : List (α × β), (l.map (·.1)).zip (l.map (·.2)) = l
  | [] => rfl
  | _ :: r => by simp [zip_fs r]
theorem zip_mm {α β γ : Type} (f : α → β) (k : α → γ) : ∀ l : List α, (l.map f).zip (l.map k) = l.map fun x => (f x, k x)
  | [] => rfl
  | x :: r => by simp only [List.map_cons, List.zip_cons_cons]; rw [zip_mm f k r]

theorem GoodC.cells {w : World} {K : Frag} {g : Heap} {mu : List (Addr × Sp)} {rest : List (Addr × Obj)} {h : Heap} (G : GoodC w K g mu rest h) :
    ∀ l : List (Addr × Option Value), (∀ p ∈ l, h.IsCell p.1 p.2 ∧ g.get? p.1 = none ∧ (∀ q ∈ mu, q.1 ≠ p.1) ∧ ∀ q ∈ rest, q.1 ≠ p.1) → (l.map (·.1)).Nodup → GoodC w K g ((l.map fun p => (p.1, Sp.cell p.2)) ++ mu) rest h
  | [], _, _ => G
  | (a, v) :: r, hl, nd => by
    have ih := GoodC.cells G r (fun p hp => hl p (.tail _ hp)) (List.nodup_cons.mp nd).2
    obtain ⟨⟨o, e, d⟩, gn, nm, nr⟩ := hl _ (.head _)
    refine ih.addM (sp := .cell v) e d gn (fun p hp => ?_) nr
    rcases List.mem_append.mp hp with hp | hp
    · obtain ⟨q, hq, rfl⟩ := List.mem_map.mp hp
      intro x; have x' : q.1 = a := x; exact (List.nodup_cons.mp nd).1 (x' ▸ List.mem_map_of_mem (f := (·.1)) hq)
    · exact nm p hp

section
variable {c : Cx} {A : Around} {env : Env} {g : Heap} {bs : List (Str × Option Value)} {mu : List (Addr × Sp)} {names : List (Str × NameKind)} {cl : List (Str × Addr)} {N : SS → Prop} {R : Value → SS → Prop} {rest : List Stmt}

theorem CC_defC {n : Nat} {g : Heap} {mu : List (Addr × Sp)} {name qual : Str} {params : Arguments} {body : List Stmt} {scope : Scope} {dV kV doc pm cdv ct oc : Value} {an od : Option Addr} {osl : Array (Option Value)} {f : Addr} {args : Args} {binds : List (Str × Value)} {P}
    (M : Rm A (n + 1)) (ho : c.K.lookup f = some ⟨oc, od, .func (fnOf name qual params body scope dV kV doc pm an cdv ct), osl⟩) (hcd : codeIn c.K cdv qual = true)
    (hbind : ∀ s : Shared, c.K.In s.heap → BindsTo s (fnOf name qual params body scope dV kV doc pm an cdv ct) args binds) (others cnames : List Str) {lb cb : List (Str × Value)} {cv : List (Option Value)} (hok : okNames scope.names = true)
    (hlb : binds.filter (fun p => decide (scope.names.lookup p.1 = some .local)) = lb) (hcb : binds.filter (fun p => !decide (scope.names.lookup p.1 = some .local)) = cb) (hnd : decide (lb.map (·.1) ++ others).Nodup = true)
    (hcn : (cellsFrom 0 scope.names []).map (·.1) = cnames) (hcnd : decide cnames.Nodup = true) (hcv : cnames.map (fun x => cb.reverse.lookup x) = cv)
    (hkd : (binds.all fun x => decide (scope.names.lookup x.1 = some .local) || (decide (scope.names.lookup x.1 = some .cell) && decide (x.1 ∈ cnames))) = true)
    (hco : scope.isCoroutine = false) (hgen : scope.isGenerator = false) (hk : scope.kind = .function)
    (h : ∀ env as, as.length = cnames.length → EnvIs env scope.names (cnames.zip as) → Rm (A.deeper env) n → XS c (A.deeper env) env ⟨g, bsInit lb others, as.zip (cv.map Sp.cell) ++ mu⟩ body (Out c g P .none) (Out c g P)) : CC c A g mu (.call (.ref f) args) P := by
  intro rest s G
  have B := G.baseH
  refine codeAny_call_function M.d (B.X _ _ ho) rfl hco hgen rfl (codeRec_of B.X hcd) (hbind s B.X _ _ _ _ ?_)
  have cn2 : (cellsFrom (s.heap.objs.size + 1) scope.names []).map (·.1) = cnames := (cellsFrom_names scope.names 0 (s.heap.objs.size + 1) [] [] rfl).symm.trans hcn
  have hcnd' := of_decide_eq_true hcnd
  refine wpAny_newFunctionEnv_cells hk (fun x hx => ?_) fun env' he s' x => ?_
  · have := List.all_eq_true.mp hkd x hx
    simp only [Bool.or_eq_true, Bool.and_eq_true, decide_eq_true_eq] at this
    rcases this with this | ⟨k, m⟩
    · exact .inl this
    · refine .inr ⟨k, ?_⟩
      rw [← cn2] at m
      obtain ⟨p, hp, e⟩ := List.mem_map.mp m
      rw [← e, lookup_of_nd (by rw [cn2]; exact hcnd') (show (p.1, p.2) ∈ _ from hp)]
      rfl
  subst he
  refine ⟨B.lim.keeps x.toInCall.keep, codeAny_func ?_⟩
  generalize hcl : cellsFrom (s.heap.objs.size + 1) scope.names [] = cl at x cn2
  have E : EnvIs (newEnv scope s.heap.objs.size mainGlobals cl (qual ++ Str.ofString ".<locals>.") (some f) cdv none builtinsNs) scope.names cl := EnvIs.of hk rfl hok rfl rfl rfl
  have hk₁ := x.toInCall.keep
  obtain ⟨h₁, tk, hs'⟩ := x.toInCall.same
  have nd := of_decide_eq_true hnd
  obtain ⟨oL, eL, n'⟩ := NsObj.of x.toInCall.ns
  have fresh : ∀ a, s.heap.objs.size ≤ a → s.heap.get? a = none := fun a ha => Heap.get?_none_of_le ha
  have G1 : GoodC c.w c.K g mu ((s.heap.objs.size, oL) :: rest) s'.heap := by
    refine ⟨G.base, fun b o e => hk₁ b o (G.keep b o e), fun p hp => ⟨(G.own p hp).1.mono hk₁, (G.own p hp).2⟩, fun p hp => ?_, ?_⟩
    · rcases List.mem_cons.mp hp with rfl | hp
      · exact ⟨eL, (G.fresh (fresh _ (Nat.le_refl _))).1⟩
      · exact ⟨hk₁ _ _ (G.rst p hp).1, (G.rst p hp).2⟩
    · have dis := G.dis
      obtain ⟨_, f2, f3⟩ := G.fresh (fresh _ (Nat.le_refl _))
      simp only [List.map_cons]
      refine List.nodup_append.mpr ⟨(List.nodup_append.mp dis).1, List.nodup_cons.mpr ⟨fun hm => ?_, (List.nodup_append.mp dis).2.1⟩, fun a ha b hb => ?_⟩
      · obtain ⟨p, hp, e⟩ := List.mem_map.mp hm
        exact f3 p hp e
      · rcases List.mem_cons.mp hb with rfl | hb
        · obtain ⟨p, hp, rfl⟩ := List.mem_map.mp ha
          exact f2 p hp
        · exact (List.nodup_append.mp dis).2.2 a ha b hb
  have G2 := G1.cells (cl.map fun p => (p.2, cb.reverse.lookup p.1)) (fun p hp => by
      obtain ⟨q, hq, rfl⟩ := List.mem_map.mp hp
      have ab : s.heap.objs.size < q.2 := x.above q.1 q.2 hq
      obtain ⟨f1, f2, f3⟩ := G.fresh (fresh _ (Nat.le_of_lt ab))
      refine ⟨?_, f1, f2, fun r hr => ?_⟩
      · have := x.cell q.1 q.2 (lookup_of_nd (l := cl) (by rw [cn2]; exact hcnd') hq)
        rw [bindC_eq] at this
        have e2 : binds.filter (fun p => !decide (Env.kindOf (newEnv scope s.heap.objs.size mainGlobals cl (qual ++ Str.ofString ".<locals>.") (some f) cdv none builtinsNs) p.1 = some .local)) = cb := hcb
        dsimp only
        rw [e2] at this
        cases e : cb.reverse.lookup q.1 with
        | none => rw [e] at this; exact this
        | some v => rw [e] at this; exact this
      · rcases List.mem_cons.mp hr with rfl | hr
        · exact Nat.ne_of_lt ab
        · exact f3 r hr) (by
      rw [List.map_map]
      have := x.apart
      rw [List.Nodup, List.pairwise_map]
      exact this)
  have hmu : (List.map (fun p => (p.1, Sp.cell p.2)) (List.map (fun p => (p.2, List.lookup p.1 cb.reverse)) cl)) = (cl.map (·.2)).zip (cv.map Sp.cell) := by
    rw [← hcv, ← cn2, List.map_map, List.map_map, List.map_map, zip_mm]
    rfl
  rw [hmu] at G2
  have G3 : Good c (newEnv scope s.heap.objs.size mainGlobals cl (qual ++ Str.ofString ".<locals>.") (some f) cdv none builtinsNs) ⟨g, bsInit lb others, (cl.map (·.2)).zip (cv.map Sp.cell) ++ mu⟩ rest s'.heap := by
    refine ⟨oL, ?_, G2, ?_⟩
    · obtain ⟨es, ep, a, b, d⟩ := n'
      refine ⟨es, ep, a, b, fun y => (d y).trans ?_⟩
      rw [← bsInit_lk nd y, bindL_eq]
      have e2 : binds.filter (fun p => decide (Env.kindOf (newEnv scope s.heap.objs.size mainGlobals cl (qual ++ Str.ofString ".<locals>.") (some f) cdv none builtinsNs) p.1 = some .local)) = lb := hlb
      rw [e2]
      cases lb.reverse.lookup y <;> rfl
    · unfold bsInit
      rw [List.map_append, List.map_map, List.map_map]
      simpa [Function.comp_def] using nd
  have E' : EnvIs (newEnv scope s.heap.objs.size mainGlobals cl (qual ++ Str.ofString ".<locals>.") (some f) cdv none builtinsNs) scope.names (cnames.zip (cl.map (·.2))) := by rw [← cn2, zip_fs]; exact E
  refine (h _ (cl.map (·.2)) (by rw [← cn2]; simp) E' M.deeper).run (s := s') G3 fun fl s'' σ' G' p q => ?_
  have q0 : Sim s s' := by rw [hs']; exact rfl
  cases fl with
  | next => obtain ⟨g', mu', G'', k, p⟩ := Out.done p G'; exact ⟨_, rfl, q0.trans q, g', mu', G'', k, p⟩
  | ret v => obtain ⟨g', mu', G'', k, p⟩ := Out.done p G'; exact ⟨_, rfl, q0.trans q, g', mu', G'', k, p⟩
  | brk => exact p.elim
  | cont => exact p.elim
end
/-! ## a dict whose keys are tuples of ints -/
noncomputable abbrev KD (c : Cx) : HeapKind c.prog c.w (List Int) := tupleKind (intKind c.prog c.w)
structure DK (c : Cx) (g : Heap) (o : Obj) (xs : List (List Int × Addr × Value)) : Prop where
  ex : o.ExactDict
  data : ∃ es ep, o.data = .dict es ep ∧ es.toList = xs.map (entryOfKey (KD c))
  keys : ∀ x ∈ xs, IsTupleKey (intKind c.prog c.w) g x.1 x.2.1
  nd : (xs.map (·.1)).Nodup

theorem isKey_mono {c : Cx} {g h : Heap} {ks : List Int} {a : Addr} (k : Keeps g h) (x : IsTupleKey (intKind c.prog c.w) g ks a) : IsTupleKey (intKind c.prog c.w) h ks a :=
  let ⟨o, items, n, e, r⟩ := x; ⟨o, items, n, k _ _ e, r⟩
theorem DK.mono {c : Cx} {g h : Heap} {o : Obj} {xs} (D : DK c g o xs) (k : Keeps g h) : DK c h o xs := ⟨D.ex, D.data, fun x hx => isKey_mono k (D.keys x hx), D.nd⟩
theorem DK.of {c : Cx} {g h : Heap} {o : Obj} {xs} {d : Addr} (D : DK c g o xs) (k : Keeps g h) (e : h.get? d = some o) : h.DictOfH (KD c) d xs :=
  let ⟨es, ep, a, b⟩ := D.data; ⟨o, es, ep, e, D.ex, a, b, fun x hx => isKey_mono k (D.keys x hx), D.nd⟩

inductive IntVs : List Int → List Value → Prop
  | nil : IntVs [] []
  | cons {z : Int} {t : Tok} {zs vs} : IntVs zs vs → IntVs (z :: zs) (.int z t :: vs)
theorem IntVs.items {c : Cx} {zs : List Int} {vs : List Value} (i : IntVs zs vs) : ItemsAre (intKind c.prog c.w) zs vs := by
  induction i with
  | nil => exact .nil
  | cons _ ih => exact .cons (by simp [intKind, Value.isInt]) ih
theorem At.key {c : Cx} {h : Heap} {a : Addr} {zs : List Int} {vs : List Value} (x : At c.w h a (.tup vs)) (i : IntVs zs vs) : IsTupleKey (intKind c.prog c.w) h zs a := by
  obtain ⟨o, e, n, rfl⟩ := x
  exact ⟨_, vs.toArray, n, e, rfl, rfl, by simpa using i.items⟩

theorem Rm.ku {A : Around} {n : Nat} (M : Rm A (n + 1)) : A.in1.units < cLine := by
  have := M.un
  show A.units + 1 < cLine
  (first | lia | omega)

section
variable {c : Cx} {A : Around} {env : Env} {g : Heap} {bs : List (Str × Option Value)} {mu : List (Addr × Sp)} {names : List (Str × NameKind)} {cl : List (Str × Addr)} {N : SS → Prop} {R : Value → SS → Prop} {rest : List Stmt}

theorem TS_dict0 {pos : Pos} {P : Value → SS → Prop} (p : ∀ d o, DK c g o [] → (d == sysModules) = false → P (.ref d) ⟨g, bs, (d, .raw o) :: mu⟩) : TS c A env ⟨g, bs, mu⟩ (eval (.Dict [] [] pos) env) P :=
  TS.of fun rs s G => wpAny_Dict_empty (by
    have hd : (s.heap.objs.size == sysModules) = false := by
      obtain ⟨mg, o, _, _, e, _⟩ := G.base.globs
      have h3 : mainGlobals < s.heap.objs.size := Heap.lt_size e
      rw [beq_eq_false_iff_ne]
      intro q
      have h1 : sysModules < mainGlobals := by decide
      rw [q] at h3
      exact absurd (Nat.lt_trans h1 h3) (Nat.lt_irrefl _)
    exact ⟨⟨⟨g, bs, (s.heap.objs.size, .raw { cls := .type "dict", data := .dict #[] }) :: mu⟩, G.alloc (sp := .raw _) rfl rfl, p _ _ ⟨⟨rfl, rfl, rfl⟩, ⟨#[], 0, rfl, rfl⟩, (fun _ h => nomatch h), List.nodup_nil⟩ hd⟩, rfl⟩)

theorem TS_setItemK {d a : Addr} {o : Obj} {xs} {zs : List Int} {vs : List Value} {v : Value} {P : Unit → SS → Prop} {m : Nat} (M : Rm A (m + 1)) (D : DK c g o xs) (K : At c.w g a (.tup vs)) (i : IntVs zs vs) (hd : (d, Sp.raw o) ∈ mu) (hz : xs.length ≤ 1000)
    (p : ∀ o' mu', DK c g o' (storedH xs zs a v) → Upd1 d (.raw o) (.raw o') mu mu' → P () ⟨g, bs, mu'⟩) : TS c A env ⟨g, bs, mu⟩ (setItem (.ref d) (.ref a) v) P :=
  TS.of fun rs s G => by
    obtain ⟨oL, nL, GC, nd⟩ := G
    have e : s.heap.get? d = some o := by
      obtain ⟨⟨o', e, ok⟩, _⟩ := GC.own _ hd
      cases ok; exact e
    refine wpAny_setItem_heap (knd := KD c) (xs := xs) (show A.in1.units < cLine from M.ku) (At.key (GC.getG K) i) (D.of GC.keep e) (fun h' hm' hs' => ?_) (by rw [sizeLine_eq]; (first | lia | omega))
    obtain ⟨o', es, ep, e', ex, hdt, hes, hk, hn⟩ := hm'
    have ex' : ∀ l : List (Addr × Sp), (d, Sp.raw o) ∈ l → ∃ l', Upd1 d (.raw o) (.raw o') l l' := by
      intro l
      induction l with
      | nil => intro h; cases h
      | cons q r ih =>
        intro h
        rcases List.mem_cons.mp h with h | h
        · subst h; exact ⟨_, .head⟩
        · obtain ⟨l', u⟩ := ih h; exact ⟨_, .tail u⟩
    obtain ⟨mu', U⟩ := ex' mu hd
    have G' := GC.upd U hs' ⟨o', e', rfl⟩
    refine ⟨⟨⟨g, bs, mu'⟩, ⟨oL, nL, G', nd⟩, p o' mu' ⟨ex, ⟨es, ep, hdt, hes⟩, fun x hx => ?_, hn⟩ U⟩, rfl⟩
    unfold storedH at hx
    split at hx
    · obtain ⟨y, hy, rfl⟩ := List.mem_map.mp hx
      have := D.keys y hy
      unfold putAt
      split <;> exact this
    · rcases List.mem_append.mp hx with hx | hx
      · exact D.keys x hx
      · simp only [List.mem_singleton] at hx
        subst hx
        exact At.key K i

theorem TS_getMethDict {d : Addr} {o : Obj} {xs} {pl : Sem Bool} {P : Value × List Value → SS → Prop} (D : DK c g o xs) (hd : RdF c.w g mu d (.raw o)) (p : P (.builtin "dict.get", [.ref d]) ⟨g, bs, mu⟩) : TS c A env ⟨g, bs, mu⟩ (getMethod (.ref d) "get" pl) P :=
  TS.of fun rs s G => by
    have e : s.heap.get? d = some o := by
      obtain ⟨o', e, ok⟩ := hd.rd.at G
      cases ok; exact e
    obtain ⟨oc, od, odt, osl⟩ := o
    obtain ⟨hc, h2, h3⟩ := D.ex
    cases hc; cases h2; cases h3
    exact getMethod_builtin ⟨_, e, rfl⟩ PySem.F.plainAttrs_dict PySem.F.slot_dict_get (by kernel_rfl) (fun a q => by cases q; exact ⟨_, e, rfl⟩) ⟨⟨_, G, p⟩, .refl s⟩

theorem TS_dictGet {d a : Addr} {o : Obj} {xs} {zs : List Int} {vs : List Value} {v : Value} {P : Value → SS → Prop} {m : Nat} (M : Rm A (m + 1)) (D : DK c g o xs) (K : At c.w g a (.tup vs)) (i : IntVs zs vs) (hd : RdF c.w g mu d (.raw o)) (hs : (d == sysModules) = false)
    (p : P (((atKey xs zs).map (·.2)).getD v) ⟨g, bs, mu⟩) : TS c A env ⟨g, bs, mu⟩ (call (.builtin "dict.get") [.ref d, .ref a, v]) P :=
  TS.of fun rs s G => by
    obtain ⟨oL, nL, GC, nd⟩ := id G
    have e : s.heap.get? d = some o := by
      obtain ⟨o', e, ok⟩ := hd.rd.at G
      cases ok; exact e
    have hm := D.of GC.keep e
    refine call_meetsIn PySem.F.slot_dict_get hm.typeIs PySem.F.entry_dict_get (PySem.F.args_dict_get_3 _ _ _) (meetsH_dict_get_default (KD c) d a hs v) ⟨show A.in1.units < cLine from M.ku, zs, xs, At.key (GC.getG K) i, hm, ?_⟩
    exact ⟨⟨_, ⟨oL, nL, GC, nd⟩, p⟩, rfl⟩

/-! ### a display of one pair -/
theorem TS_Dict1 {k v : Expr} {pos : Pos} {P : Value → SS → Prop}
    (H : ∀ d, TS c A env ⟨g, bs, (d, .raw { cls := .type "dict", data := .dict #[] }) :: mu⟩ (eval k env) fun kv σ1 => TS c A env σ1 (eval v env) fun vv σ2 => TS c A env σ2 (dictSet d kv vv) fun _ σ3 => P (.ref d) σ3) :
    TS c A env ⟨g, bs, mu⟩ (eval (.Dict [some k] [v] pos) env) P :=
  TS.of fun rs s G => by
    rw [arm_eval_Dict]
    have e1 : evalEachOpt [some k] env = [some (eval k env)] := by simp only [evalEachOpt, evalOpt]
    have e2 : evalEach [v] env = [eval v env] := by simp only [evalEach]
    rw [e1, e2]
    have e3 : ([some (eval k env)].zip ([eval v env].map fun v => (do let x ← v; standAt pos; pure x : Sem Value))) = [(eval k env, (do let x ← eval v env; standAt pos; pure x : Sem Value))].map fun p => (some p.1, p.2) := rfl
    rw [e3, dictDisplay_pairs _ (by simp) (by simp)]
    refine wpAny_bind (wpAny_standAt (wpAny_bind ?_))
    unfold subDict
    refine wpAny_bind (wpAny_alloc ?_)
    refine wpAny_bind (wpAny_holding ?_)
    rw [if_pos (by simp)]
    refine wpAny_bind (evalPairs_cons ?_)
    have G1 := G.alloc (sp := .raw { cls := .type "dict", data := .dict #[] }) rfl rfl
    refine (H s.heap.objs.size).run G1 fun kv s1 σ1 G2 H1 q1 => wpAny_bind (H1.run G2 fun vv s2 σ2 G3 H2 q2 => wpAny_bind (wpAny_standAt (wpAny_pure (evalPairs_nil ?_))))
    refine wpAny_holding ?_
    refine wpAny_bind ?_
    rw [List.forIn_cons]
    refine wpAny_bind (wpAny_bind (H2.run G3 fun _ s3 σ3 G4 p q3 => wpAny_pure ?_))
    dsimp only
    rw [List.forIn_nil]
    exact wpAny_pure (wpAny_pure (wpAny_pure (wpAny_pure ⟨⟨σ3, G4, p⟩, ((show Sim s { s with heap := s.heap.push _ } from rfl).trans (q1.trans q2)).trans q3⟩)))

end
/-! ## deep data kept for good -/
mutual
inductive Dp (w : World) (g : Heap) : Value → PyData → Prop
  | int (i : Int) (t : Tok) : Dp w g (.int i t) (.int i)
  | bool (b : Bool) : Dp w g (.bool b) (.bool b)
  | list {a : Addr} {vs : List Value} {ds : List PyData} : At w g a (.list vs) → DpAll w g vs ds → Dp w g (.ref a) (.list ds)
  | tup {a : Addr} {vs : List Value} {ds : List PyData} : At w g a (.tup vs) → DpAll w g vs ds → Dp w g (.ref a) (.tuple ds)
inductive DpAll (w : World) (g : Heap) : List Value → List PyData → Prop
  | nil : DpAll w g [] []
  | cons {v : Value} {vs : List Value} {d : PyData} {ds : List PyData} : Dp w g v d → DpAll w g vs ds → DpAll w g (v :: vs) (d :: ds)
end

theorem DpAll.ind {w : World} {g : Heap} {M1 : Value → PyData → Prop} {M2 : List Value → List PyData → Prop} (hi : ∀ i t, M1 (.int i t) (.int i)) (hb : ∀ b, M1 (.bool b) (.bool b)) (hl : ∀ a vs ds, At w g a (.list vs) → M2 vs ds → M1 (.ref a) (.list ds)) (ht : ∀ a vs ds, At w g a (.tup vs) → M2 vs ds → M1 (.ref a) (.tuple ds))
    (hn : M2 [] []) (hc : ∀ v vs d ds, M1 v d → M2 vs ds → M2 (v :: vs) (d :: ds)) : (∀ v d, Dp w g v d → M1 v d) ∧ ∀ vs ds, DpAll w g vs ds → M2 vs ds :=
  ⟨fun _ _ h => Dp.rec (motive_1 := fun v d _ => M1 v d) (motive_2 := fun vs ds _ => M2 vs ds) hi hb (fun a _ ih => hl _ _ _ a ih) (fun a _ ih => ht _ _ _ a ih) hn (fun _ _ h1 h2 => hc _ _ _ _ h1 h2) h,
   fun _ _ h => DpAll.rec (motive_1 := fun v d _ => M1 v d) (motive_2 := fun vs ds _ => M2 vs ds) hi hb (fun a _ ih => hl _ _ _ a ih) (fun a _ ih => ht _ _ _ a ih) hn (fun _ _ h1 h2 => hc _ _ _ _ h1 h2) h⟩
theorem DpAll.c {w : World} {g : Heap} {vs : List Value} {d : PyData} {ds : List PyData} (x : DpAll w g vs (d :: ds)) : ∃ v us, vs = v :: us ∧ Dp w g v d ∧ DpAll w g us ds := by cases x with | cons a b => exact ⟨_, _, rfl, a, b⟩
theorem DpAll.n {w : World} {g : Heap} {vs : List Value} (x : DpAll w g vs []) : vs = [] := by cases x; rfl
theorem Dp.intE {w : World} {g : Heap} {v : Value} {i : Int} (x : Dp w g v (.int i)) : ∃ t, v = .int i t := by cases x; exact ⟨_, rfl⟩
theorem Dp.boolE {w : World} {g : Heap} {v : Value} {b : Bool} (x : Dp w g v (.bool b)) : v = .bool b := by cases x; rfl
theorem Dp.listE {w : World} {g : Heap} {v : Value} {ds : List PyData} (x : Dp w g v (.list ds)) : ∃ a vs, v = .ref a ∧ At w g a (.list vs) ∧ DpAll w g vs ds := by cases x with | list a b => exact ⟨_, _, rfl, a, b⟩
theorem Dp.tupE {w : World} {g : Heap} {v : Value} {ds : List PyData} (x : Dp w g v (.tuple ds)) : ∃ a vs, v = .ref a ∧ At w g a (.tup vs) ∧ DpAll w g vs ds := by cases x with | tup a b => exact ⟨_, _, rfl, a, b⟩
theorem DpAll.ci {w : World} {g : Heap} {vs : List Value} {i : Int} {ds : List PyData} (x : DpAll w g vs (.int i :: ds)) : ∃ t us, vs = .int i t :: us ∧ DpAll w g us ds := by
  obtain ⟨v, us, rfl, a, b⟩ := x.c
  obtain ⟨t, rfl⟩ := a.intE
  exact ⟨t, us, rfl, b⟩
theorem DpAll.cb {w : World} {g : Heap} {vs : List Value} {i : Bool} {ds : List PyData} (x : DpAll w g vs (.bool i :: ds)) : ∃ us, vs = .bool i :: us ∧ DpAll w g us ds := by
  obtain ⟨v, us, rfl, a, b⟩ := x.c
  cases a.boolE
  exact ⟨us, rfl, b⟩
theorem dp_mono {w : World} {g h : Heap} (k : Keeps g h) : (∀ v d, Dp w g v d → Dp w h v d) ∧ ∀ vs ds, DpAll w g vs ds → DpAll w h vs ds :=
  DpAll.ind .int .bool (fun _ _ _ a r => .list (a.mono k) r) (fun _ _ _ a r => .tup (a.mono k) r) .nil fun _ _ _ _ a r => .cons a r
theorem Dp.mono {w : World} {g h : Heap} (k : Keeps g h) {v : Value} {d : PyData} (x : Dp w g v d) : Dp w h v d := (dp_mono k).1 v d x
theorem DpAll.mono {w : World} {g h : Heap} (k : Keeps g h) {vs : List Value} {ds : List PyData} (x : DpAll w g vs ds) : DpAll w h vs ds := (dp_mono k).2 vs ds x
theorem Dp.reads {w : World} {g : Heap} {v : Value} {d : PyData} (x : Dp w g v d) : ∃ as, Reads g v d as := by
  refine (DpAll.ind (M1 := fun v d => ∃ as, Reads g v d as) (M2 := fun vs ds => ∃ as, ReadsAll g vs ds as) (fun i t => ⟨_, .int i t⟩) (fun b => ⟨_, .bool b⟩) ?_ ?_ ⟨_, .nil⟩ ?_).1 v d x
  · rintro a vs ds ⟨o, e, n, eo⟩ ⟨as, h⟩
    exact ⟨_, .list (e.trans (congrArg some eo)) rfl rfl (by simpa using h)⟩
  · rintro a vs ds ⟨o, e, n, eo⟩ ⟨as, h⟩
    exact ⟨_, .tuple (e.trans (congrArg some eo)) rfl rfl (by simpa using h)⟩
  · rintro v vs d ds ⟨_, h⟩ ⟨_, h'⟩
    exact ⟨_, .cons h h'⟩
theorem Dp.lay {w : World} {g : Heap} {v : Value} {d : PyData} (x : Dp w g v d) : d.canLay0 = true :=
  (DpAll.ind (M1 := fun _ d => d.canLay0 = true) (M2 := fun _ ds => PyData.canLayAll0 ds = true) (fun _ _ => rfl) (fun _ => rfl) (fun _ _ ds _ h => by rw [PyData.canLay0]; exact h) (fun _ _ ds _ h => by rw [PyData.canLay0]; exact h) rfl (fun _ _ d ds h1 h2 => by rw [PyData.canLayAll0, h1, h2]; rfl)).1 v d x
theorem DpAll.len {w : World} {g : Heap} {vs : List Value} {ds : List PyData} (x : DpAll w g vs ds) : ds.length = vs.length :=
  (DpAll.ind (M1 := fun _ _ => True) (M2 := fun vs ds => ds.length = vs.length) (fun _ _ => trivial) (fun _ => trivial) (fun _ _ _ _ _ => trivial) (fun _ _ _ _ _ => trivial) rfl (fun _ _ _ _ _ h => congrArg (· + 1) h)).2 vs ds x
theorem DpAll.app {w : World} {g : Heap} {us : List Value} {es : List PyData} : ∀ {vs : List Value} {ds : List PyData}, DpAll w g vs ds → DpAll w g us es → DpAll w g (vs ++ us) (ds ++ es) := by
  intro vs
  induction vs with
  | nil =>
    intro ds x y
    cases ds with
    | nil => exact y
    | cons d ds => obtain ⟨_, _, e, _⟩ := x.c; cases e
  | cons v vs ih =>
    intro ds x y
    cases x with
    | cons a r => exact .cons a (ih r y)
theorem DpAll.get {w : World} {g : Heap} {vs : List Value} : ∀ {ds : List PyData}, DpAll w g vs ds → ∀ {k : Nat} {v : Value}, vs[k]? = some v → ∃ d, ds[k]? = some d ∧ Dp w g v d := by
  induction vs with
  | nil => intro ds x k v h; cases h
  | cons e vs ih =>
    intro ds x k v h
    cases x with
    | cons a b =>
      cases k with
      | zero => cases h; exact ⟨_, rfl, a⟩
      | succ k => exact ih b h
theorem DpAll.get' {w : World} {g : Heap} {ds : List PyData} : ∀ {vs : List Value}, DpAll w g vs ds → ∀ {k : Nat} {d : PyData}, ds[k]? = some d → ∃ v, vs[k]? = some v ∧ Dp w g v d := by
  induction ds with
  | nil => intro vs x k d h; cases h
  | cons e ds ih =>
    intro vs x k d h
    obtain ⟨v, us, rfl, a, b⟩ := x.c
    cases k with
    | zero => cases h; exact ⟨v, rfl, a⟩
    | succ k => exact ih b h

section
variable {c : Cx} {A : Around} {env : Env} {g : Heap} {bs : List (Str × Option Value)} {mu : List (Addr × Sp)} {names : List (Str × NameKind)} {cl : List (Str × Addr)} {N : SS → Prop} {R : Value → SS → Prop} {rest : List Stmt}

theorem reads_keeps {g h : Heap} (k : Keeps g h) {v : Value} {d : PyData} {w : World} (x : Dp w g v d) : ∃ as, Reads h v d as := (x.mono k).reads

theorem TS_neD {a b : Value} {da db : PyData} {m : Nat} {P : Value → SS → Prop} (M : Rm A (m + 1)) (x : Dp c.w g a da) (y : Dp c.w g b db) (hd : decide (min da.depth db.depth ≤ 10) = true) (p : P (.bool (!PyData.eqv da db)) ⟨g, bs, mu⟩) :
    TS c A env ⟨g, bs, mu⟩ (compareOp .NotEq a b) P :=
  TS.of fun rs s G => by
    obtain ⟨as, r⟩ := reads_keeps G.keep x
    obtain ⟨bs', r'⟩ := reads_keeps G.keep y
    exact SeqAt.compareNe_reads r r' x.lay y.lay (by have := M.un; have := of_decide_eq_true hd; (first | lia | omega)) ⟨⟨_, G, p⟩, .refl s⟩
theorem TS_eqD {a b : Value} {da db : PyData} {m : Nat} {P : Value → SS → Prop} (M : Rm A (m + 1)) (x : Dp c.w g a da) (y : Dp c.w g b db) (hd : decide (min da.depth db.depth ≤ 10) = true) (p : P (.bool (PyData.eqv da db)) ⟨g, bs, mu⟩) :
    TS c A env ⟨g, bs, mu⟩ (compareOp .Eq a b) P :=
  TS.of fun rs s G => by
    obtain ⟨as, r⟩ := reads_keeps G.keep x
    obtain ⟨bs', r'⟩ := reads_keeps G.keep y
    exact SeqAt.compareEq_reads r r' x.lay y.lay (by have := M.un; have := of_decide_eq_true hd; (first | lia | omega)) ⟨⟨_, G, p⟩, .refl s⟩
theorem TS_notInD {a b : Value} {d : PyData} {ds : List PyData} {m : Nat} {P : Value → SS → Prop} (M : Rm A (m + 1)) (x : Dp c.w g a d) (y : Dp c.w g b (.list ds)) (hd : decide (d.depth ≤ 8) = true) (p : P (.bool (!ds.any fun y => PyData.eqv y d)) ⟨g, bs, mu⟩) :
    TS c A env ⟨g, bs, mu⟩ (compareOp .NotIn a b) P :=
  TS.of fun rs s G => by
    obtain ⟨as, r⟩ := reads_keeps G.keep x
    obtain ⟨bs', r'⟩ := reads_keeps G.keep y
    have ly := y.lay
    simp only [PyData.canLay0] at ly
    exact SeqAt.notIn_list_reads r' r ly x.lay (by have := M.un; have := of_decide_eq_true hd; (first | lia | omega)) ⟨⟨_, G, p⟩, .refl s⟩
end

section
variable {c : Cx} {A : Around} {env : Env} {g : Heap} {bs : List (Str × Option Value)} {mu : List (Addr × Sp)}
theorem TS_min1 {l : Addr} {a : Int} {m : Nat} {P : Value → SS → Prop} (M : Rm A m) (hl : RdF c.w g mu l (.intl [a])) (p : ∀ z, P (.int a z) ⟨g, bs, mu⟩) : TS c A env ⟨g, bs, mu⟩ (call (.builtin "min") [.ref l]) P :=
  TS.of fun rs s G => by
    obtain ⟨vs, hv, i⟩ := (hl.rd.at G).toList
    cases i with
    | cons _ t i =>
      cases i
      refine min_intList (xs := #[(a, t)]) M.hd (by have := hv.isList; simpa [intItems] using this) (by simp) fun v h' tk hv hk => ?_
      have e : v = .int a t := by simpa [argBest, intItems] using hv.symm
      subst e
      exact ⟨⟨_, G.up hk, p t⟩, rfl⟩
theorem TS_min2 {l : Addr} {a b : Int} {m : Nat} {P : Value → SS → Prop} (M : Rm A m) (hl : RdF c.w g mu l (.intl [a, b])) (p : ∀ z, P (.int (min a b) z) ⟨g, bs, mu⟩) : TS c A env ⟨g, bs, mu⟩ (call (.builtin "min") [.ref l]) P :=
  TS.of fun rs s G => by
    obtain ⟨vs, hv, i⟩ := (hl.rd.at G).toList
    cases i with
    | cons _ t i =>
      cases i with
      | cons _ u i =>
        cases i
        refine min_intList (xs := #[(a, t), (b, u)]) M.hd (by have := hv.isList; simpa [intItems] using this) (by simp) fun v h' tk hv hk => ?_
        by_cases hab : b < a
        · have e : v = .int b u := by simpa [argBest, intItems, numAt, hab] using hv.symm
          subst e
          have := p u
          rw [show min a b = b by (first | lia | omega)] at this
          exact ⟨⟨_, G.up hk, this⟩, rfl⟩
        · have e : v = .int a t := by simpa [argBest, intItems, numAt, hab] using hv.symm
          subst e
          have := p t
          rw [show min a b = a by (first | lia | omega)] at this
          exact ⟨⟨_, G.up hk, this⟩, rfl⟩
end
def q (s : String) : Str := Str.ofString s
def pt (i j : Nat) : Stmt := match PySem.Challenge.pw_sq0006_01.main.body[i]? with
  | some (.ClassDef _ _ _ b _ _ _ _ _ _ _) => (b[j]?).getD (.Pass ⟨0, 0, 0, 0⟩)
  | some s => s
  | none => .Pass ⟨0, 0, 0, 0⟩
def ptA (s : Stmt) : Arguments := match s with | .FunctionDef _ a _ _ _ _ _ _ _ _ => a | _ => default
def ptB (s : Stmt) : List Stmt := match s with | .FunctionDef _ _ b _ _ _ _ _ _ _ => b | _ => []
def ptS (s : Stmt) : Scope := match s with | .FunctionDef _ _ _ _ _ _ sc _ _ _ => sc | _ => default
def fdOf (name qual : Str) (s : Stmt) (gl : Addr) (clo : List (Str × Addr)) (df kd doc md : Value) (an : Option Addr) (cd ct : Value) (bi : Addr) : FuncData := ⟨name, qual, ptA s, .stmts (ptB s), ptS s, gl, clo, df, kd, doc, md, an, cd, ct, bi⟩
noncomputable def s0_0 : {s : Stmt // pt 0 0 = s} := ⟨_, by conv => lhs; whnf⟩
noncomputable def s11_0 : {s : Stmt // pt 11 0 = s} := ⟨_, by conv => lhs; whnf⟩
noncomputable def s12_0 : {s : Stmt // pt 12 0 = s} := ⟨_, by conv => lhs; whnf⟩
noncomputable def s13_0 : {s : Stmt // pt 13 0 = s} := ⟨_, by conv => lhs; whnf⟩
noncomputable def s14_0 : {s : Stmt // pt 14 0 = s} := ⟨_, by conv => lhs; whnf⟩
noncomputable def s15_0 : {s : Stmt // pt 15 0 = s} := ⟨_, by conv => lhs; whnf⟩
noncomputable def s19_0 : {s : Stmt // pt 19 0 = s} := ⟨_, by conv => lhs; whnf⟩
noncomputable def s19_1 : {s : Stmt // pt 19 1 = s} := ⟨_, by conv => lhs; whnf⟩
noncomputable def s19_2 : {s : Stmt // pt 19 2 = s} := ⟨_, by conv => lhs; whnf⟩
noncomputable def s19_3 : {s : Stmt // pt 19 3 = s} := ⟨_, by conv => lhs; whnf⟩
noncomputable def s19_4 : {s : Stmt // pt 19 4 = s} := ⟨_, by conv => lhs; whnf⟩
noncomputable def s19_5 : {s : Stmt // pt 19 5 = s} := ⟨_, by conv => lhs; whnf⟩
noncomputable def s19_6 : {s : Stmt // pt 19 6 = s} := ⟨_, by conv => lhs; whnf⟩
noncomputable def s19_7 : {s : Stmt // pt 19 7 = s} := ⟨_, by conv => lhs; whnf⟩
noncomputable def s21_0 : {s : Stmt // pt 21 0 = s} := ⟨_, by conv => lhs; whnf⟩
noncomputable def s22_0 : {s : Stmt // pt 22 0 = s} := ⟨_, by conv => lhs; whnf⟩
noncomputable def s23_0 : {s : Stmt // pt 23 0 = s} := ⟨_, by conv => lhs; whnf⟩
noncomputable def s24_0 : {s : Stmt // pt 24 0 = s} := ⟨_, by conv => lhs; whnf⟩
noncomputable def s25_0 : {s : Stmt // pt 25 0 = s} := ⟨_, by conv => lhs; whnf⟩
noncomputable def s26_0 : {s : Stmt // pt 26 0 = s} := ⟨_, by conv => lhs; whnf⟩
noncomputable def s27_0 : {s : Stmt // pt 27 0 = s} := ⟨_, by conv => lhs; whnf⟩
noncomputable def s27_1 : {s : Stmt // pt 27 1 = s} := ⟨_, by conv => lhs; whnf⟩
noncomputable def s27_2 : {s : Stmt // pt 27 2 = s} := ⟨_, by conv => lhs; whnf⟩
noncomputable def s27_3 : {s : Stmt // pt 27 3 = s} := ⟨_, by conv => lhs; whnf⟩
noncomputable def s27_4 : {s : Stmt // pt 27 4 = s} := ⟨_, by conv => lhs; whnf⟩
noncomputable def s29_0 : {s : Stmt // pt 29 0 = s} := ⟨_, by conv => lhs; whnf⟩
noncomputable def s29_1 : {s : Stmt // pt 29 1 = s} := ⟨_, by conv => lhs; whnf⟩
noncomputable def s29_2 : {s : Stmt // pt 29 2 = s} := ⟨_, by conv => lhs; whnf⟩
noncomputable def s30_0 : {s : Stmt // pt 30 0 = s} := ⟨_, by conv => lhs; whnf⟩
noncomputable def s31_0 : {s : Stmt // pt 31 0 = s} := ⟨_, by conv => lhs; whnf⟩
noncomputable def s32_0 : {s : Stmt // pt 32 0 = s} := ⟨_, by conv => lhs; whnf⟩
noncomputable def s33_0 : {s : Stmt // pt 33 0 = s} := ⟨_, by conv => lhs; whnf⟩
noncomputable def s34_0 : {s : Stmt // pt 34 0 = s} := ⟨_, by conv => lhs; whnf⟩
noncomputable def s35_0 : {s : Stmt // pt 35 0 = s} := ⟨_, by conv => lhs; whnf⟩
noncomputable def s37_0 : {s : Stmt // pt 37 0 = s} := ⟨_, by conv => lhs; whnf⟩
noncomputable def s37_1 : {s : Stmt // pt 37 1 = s} := ⟨_, by conv => lhs; whnf⟩
noncomputable def s37_2 : {s : Stmt // pt 37 2 = s} := ⟨_, by conv => lhs; whnf⟩
noncomputable def s37_3 : {s : Stmt // pt 37 3 = s} := ⟨_, by conv => lhs; whnf⟩
noncomputable def s38_0 : {s : Stmt // pt 38 0 = s} := ⟨_, by conv => lhs; whnf⟩
noncomputable def s39_0 : {s : Stmt // pt 39 0 = s} := ⟨_, by conv => lhs; whnf⟩
noncomputable def s40_0 : {s : Stmt // pt 40 0 = s} := ⟨_, by conv => lhs; whnf⟩
noncomputable def s41_0 : {s : Stmt // pt 41 0 = s} := ⟨_, by conv => lhs; whnf⟩
noncomputable def s42_0 : {s : Stmt // pt 42 0 = s} := ⟨_, by conv => lhs; whnf⟩
noncomputable def s43_0 : {s : Stmt // pt 43 0 = s} := ⟨_, by conv => lhs; whnf⟩
noncomputable def s48_0 : {s : Stmt // pt 48 0 = s} := ⟨_, by conv => lhs; whnf⟩
noncomputable def s49_0 : {s : Stmt // pt 49 0 = s} := ⟨_, by conv => lhs; whnf⟩
noncomputable def s49_1 : {s : Stmt // pt 49 1 = s} := ⟨_, by conv => lhs; whnf⟩
noncomputable def s49_2 : {s : Stmt // pt 49 2 = s} := ⟨_, by conv => lhs; whnf⟩
noncomputable def s49_3 : {s : Stmt // pt 49 3 = s} := ⟨_, by conv => lhs; whnf⟩
noncomputable def s49_4 : {s : Stmt // pt 49 4 = s} := ⟨_, by conv => lhs; whnf⟩
noncomputable def s51_0 : {s : Stmt // pt 51 0 = s} := ⟨_, by conv => lhs; whnf⟩
noncomputable def s52_0 : {s : Stmt // pt 52 0 = s} := ⟨_, by conv => lhs; whnf⟩
noncomputable def s53_0 : {s : Stmt // pt 53 0 = s} := ⟨_, by conv => lhs; whnf⟩
noncomputable def s54_0 : {s : Stmt // pt 54 0 = s} := ⟨_, by conv => lhs; whnf⟩
noncomputable def s55_0 : {s : Stmt // pt 55 0 = s} := ⟨_, by conv => lhs; whnf⟩
noncomputable def s56_0 : {s : Stmt // pt 56 0 = s} := ⟨_, by conv => lhs; whnf⟩
noncomputable def s57_0 : {s : Stmt // pt 57 0 = s} := ⟨_, by conv => lhs; whnf⟩
noncomputable def s58_0 : {s : Stmt // pt 58 0 = s} := ⟨_, by conv => lhs; whnf⟩
noncomputable def s59_0 : {s : Stmt // pt 59 0 = s} := ⟨_, by conv => lhs; whnf⟩
noncomputable def s60_0 : {s : Stmt // pt 60 0 = s} := ⟨_, by conv => lhs; whnf⟩
noncomputable def hd.heap_39 (P : Params) : Frag := by
  refine' (fun (f0 f1 f2 f3 f4 f5 f6 f7 f8 f9 f10 f11 f12 f13 f14 f15 f16 f17 f18 f19 f20 f21 f22 f23 f24 f25 f26 f27 f28 f29 f30 f31 f32 f33 f34 f35 f36 f37 f38 f39 f40 f41 f42 f43 f44 f45 f46 f47 f48 f49 f50 f51 f52 f53 f54 f55 f56 f57 f58 f59 : FuncData) (_ : (fdOf (q "_wall") (q "_wall") s0_0.1 3 [] @PySem.Value.none @PySem.Value.none @PySem.Value.none (@PySem.Value.str (q "__main__") 164) none (@PySem.Value.ref 20) @PySem.Value.none 0) = f0 ∧ (fdOf (q "__init__") (q "Options.__init__") s11_0.1 3 [] (@PySem.Value.ref 29) @PySem.Value.none @PySem.Value.none (@PySem.Value.str (q "emacs.glyphs") 194) none (@PySem.Value.ref 35) @PySem.Value.none 0) = f1 ∧ (fdOf (q "is_control") (q "is_control") s12_0.1 3 [] @PySem.Value.none @PySem.Value.none @PySem.Value.none (@PySem.Value.str (q "emacs.glyphs") 194) none (@PySem.Value.ref 49) @PySem.Value.none 0) = f2 ∧ (fdOf (q "is_raw") (q "is_raw") s13_0.1 3 [] @PySem.Value.none @PySem.Value.none @PySem.Value.none (@PySem.Value.str (q "emacs.glyphs") 194) none (@PySem.Value.ref 56) @PySem.Value.none 0) = f3 ∧ (fdOf (q "figures_of") (q "figures_of") s14_0.1 3 [] @PySem.Value.none @PySem.Value.none @PySem.Value.none (@PySem.Value.str (q "emacs.glyphs") 194) none (@PySem.Value.ref 63) @PySem.Value.none 0) = f4 ∧ (fdOf (q "shown_codes") (q "shown_codes") s15_0.1 3 [] @PySem.Value.none @PySem.Value.none @PySem.Value.none (@PySem.Value.str (q "emacs.glyphs") 194) none (@PySem.Value.ref 70) @PySem.Value.none 0) = f5 ∧ (fdOf (q "__init__") (q "View.__init__") s19_0.1 3 [] (@PySem.Value.ref 79) @PySem.Value.none @PySem.Value.none (@PySem.Value.str (q "emacs.views") 284) none (@PySem.Value.ref 85) @PySem.Value.none 0) = f6 ∧ (fdOf (q "begin") (q "View.begin") s19_1.1 3 [] @PySem.Value.none @PySem.Value.none @PySem.Value.none (@PySem.Value.str (q "emacs.views") 284) none (@PySem.Value.ref 92) @PySem.Value.none 0) = f7 ∧ (fdOf (q "end") (q "View.end") s19_2.1 3 [] @PySem.Value.none @PySem.Value.none @PySem.Value.none (@PySem.Value.str (q "emacs.views") 284) none (@PySem.Value.ref 99) @PySem.Value.none 0) = f8 ∧ (fdOf (q "code_at") (q "View.code_at") s19_3.1 3 [] @PySem.Value.none @PySem.Value.none @PySem.Value.none (@PySem.Value.str (q "emacs.views") 284) none (@PySem.Value.ref 106) @PySem.Value.none 0) = f9 ∧ (fdOf (q "faces_at") (q "View.faces_at") s19_4.1 3 [] @PySem.Value.none @PySem.Value.none @PySem.Value.none (@PySem.Value.str (q "emacs.views") 284) none (@PySem.Value.ref 113) @PySem.Value.none 0) = f10 ∧ (fdOf (q "hidden_at") (q "View.hidden_at") s19_5.1 3 [] @PySem.Value.none @PySem.Value.none @PySem.Value.none (@PySem.Value.str (q "emacs.views") 284) none (@PySem.Value.ref 120) @PySem.Value.none 0) = f11 ∧ (fdOf (q "shown_at") (q "View.shown_at") s19_6.1 3 [] @PySem.Value.none @PySem.Value.none @PySem.Value.none (@PySem.Value.str (q "emacs.views") 284) none (@PySem.Value.ref 127) @PySem.Value.none 0) = f12 ∧ (fdOf (q "strings_at") (q "View.strings_at") s19_7.1 3 [] @PySem.Value.none @PySem.Value.none @PySem.Value.none (@PySem.Value.str (q "emacs.views") 284) none (@PySem.Value.ref 134) @PySem.Value.none 0) = f13 ∧ (fdOf (q "__init__") (q "Signs.__init__") s21_0.1 3 [] @PySem.Value.none @PySem.Value.none @PySem.Value.none (@PySem.Value.str (q "emacs.signs") 376) none (@PySem.Value.ref 155) @PySem.Value.none 0) = f14 ∧ (fdOf (q "is_break") (q "is_break") s22_0.1 3 [] @PySem.Value.none @PySem.Value.none @PySem.Value.none (@PySem.Value.str (q "emacs.signs") 376) none (@PySem.Value.ref 169) @PySem.Value.none 0) = f15 ∧ (fdOf (q "hidden_end") (q "hidden_end") s23_0.1 3 [] @PySem.Value.none @PySem.Value.none @PySem.Value.none (@PySem.Value.str (q "emacs.signs") 376) none (@PySem.Value.ref 176) @PySem.Value.none 0) = f16 ∧ (fdOf (q "string_signs") (q "string_signs") s24_0.1 3 [] @PySem.Value.none @PySem.Value.none @PySem.Value.none (@PySem.Value.str (q "emacs.signs") 376) none (@PySem.Value.ref 181) @PySem.Value.none 0) = f17 ∧ (fdOf (q "hidden_signs") (q "hidden_signs") s25_0.1 3 [] @PySem.Value.none @PySem.Value.none @PySem.Value.none (@PySem.Value.str (q "emacs.signs") 376) none (@PySem.Value.ref 188) @PySem.Value.none 0) = f18 ∧ (fdOf (q "signs_at") (q "signs_at") s26_0.1 3 [] @PySem.Value.none @PySem.Value.none @PySem.Value.none (@PySem.Value.str (q "emacs.signs") 376) none (@PySem.Value.ref 193) @PySem.Value.none 0) = f19 ∧ (fdOf (q "__init__") (q "Walk.__init__") s27_0.1 3 [] @PySem.Value.none @PySem.Value.none @PySem.Value.none (@PySem.Value.str (q "emacs.signs") 376) none (@PySem.Value.ref 207) @PySem.Value.none 0) = f20 ∧ (fdOf (q "settle") (q "Walk.settle") s27_1.1 3 [] @PySem.Value.none @PySem.Value.none @PySem.Value.none (@PySem.Value.str (q "emacs.signs") 376) none (@PySem.Value.ref 214) @PySem.Value.none 0) = f21 ∧ (fdOf (q "sign") (q "Walk.sign") s27_2.1 3 [] @PySem.Value.none @PySem.Value.none @PySem.Value.none (@PySem.Value.str (q "emacs.signs") 376) none (@PySem.Value.ref 221) @PySem.Value.none 0) = f22 ∧ (fdOf (q "step") (q "Walk.step") s27_3.1 3 [] @PySem.Value.none @PySem.Value.none @PySem.Value.none (@PySem.Value.str (q "emacs.signs") 376) none (@PySem.Value.ref 228) @PySem.Value.none 0) = f23 ∧ (fdOf (q "spot") (q "Walk.spot") s27_4.1 3 [] @PySem.Value.none @PySem.Value.none @PySem.Value.none (@PySem.Value.str (q "emacs.signs") 376) none (@PySem.Value.ref 235) @PySem.Value.none 0) = f24 ∧ (fdOf (q "__init__") (q "Row.__init__") s29_0.1 3 [] @PySem.Value.none @PySem.Value.none @PySem.Value.none (@PySem.Value.str (q "emacs.rows") 515) none (@PySem.Value.ref 256) @PySem.Value.none 0) = f25 ∧ (fdOf (q "stop") (q "Row.stop") s29_1.1 3 [] @PySem.Value.none @PySem.Value.none @PySem.Value.none (@PySem.Value.str (q "emacs.rows") 515) none (@PySem.Value.ref 263) @PySem.Value.none 0) = f26 ∧ (fdOf (q "cut_back") (q "Row.cut_back") s29_2.1 3 [] @PySem.Value.none @PySem.Value.none @PySem.Value.none (@PySem.Value.str (q "emacs.rows") 515) none (@PySem.Value.ref 270) @PySem.Value.none 0) = f27 ∧ (fdOf (q "put_sign") (q "put_sign") s30_0.1 3 [] @PySem.Value.none @PySem.Value.none @PySem.Value.none (@PySem.Value.str (q "emacs.rows") 515) none (@PySem.Value.ref 284) @PySem.Value.none 0) = f28 ∧ (fdOf (q "end_of_line") (q "end_of_line") s31_0.1 3 [] @PySem.Value.none @PySem.Value.none @PySem.Value.none (@PySem.Value.str (q "emacs.rows") 515) none (@PySem.Value.ref 291) @PySem.Value.none 0) = f29 ∧ (fdOf (q "overflow") (q "overflow") s32_0.1 3 [] @PySem.Value.none @PySem.Value.none @PySem.Value.none (@PySem.Value.str (q "emacs.rows") 515) none (@PySem.Value.ref 298) @PySem.Value.none 0) = f30 ∧ (fdOf (q "folded_row") (q "folded_row") s33_0.1 3 [] @PySem.Value.none @PySem.Value.none @PySem.Value.none (@PySem.Value.str (q "emacs.rows") 515) none (@PySem.Value.ref 305) @PySem.Value.none 0) = f31 ∧ (fdOf (q "cut_row") (q "cut_row") s34_0.1 3 [] @PySem.Value.none @PySem.Value.none @PySem.Value.none (@PySem.Value.str (q "emacs.rows") 515) none (@PySem.Value.ref 312) @PySem.Value.none 0) = f32 ∧ (fdOf (q "laid_row") (q "laid_row") s35_0.1 3 [] @PySem.Value.none @PySem.Value.none @PySem.Value.none (@PySem.Value.str (q "emacs.rows") 515) none (@PySem.Value.ref 319) @PySem.Value.none 0) = f33 ∧ (fdOf (q "__init__") (q "Changes.__init__") s37_0.1 3 [] @PySem.Value.none @PySem.Value.none @PySem.Value.none (@PySem.Value.str (q "emacs.incremental") 657) none (@PySem.Value.ref 333) @PySem.Value.none 0) = f34 ∧ (fdOf (q "note") (q "Changes.note") s37_1.1 3 [] @PySem.Value.none @PySem.Value.none @PySem.Value.none (@PySem.Value.str (q "emacs.incremental") 657) none (@PySem.Value.ref 340) @PySem.Value.none 0) = f35 ∧ (fdOf (q "old_tail") (q "Changes.old_tail") s37_2.1 3 [] @PySem.Value.none @PySem.Value.none @PySem.Value.none (@PySem.Value.str (q "emacs.incremental") 657) none (@PySem.Value.ref 347) @PySem.Value.none 0) = f36 ∧ (fdOf (q "is_none") (q "Changes.is_none") s37_3.1 3 [] @PySem.Value.none @PySem.Value.none @PySem.Value.none (@PySem.Value.str (q "emacs.incremental") 657) none (@PySem.Value.ref 354) @PySem.Value.none 0) = f37 ∧ (fdOf (q "__init__") (q "Again.__init__") s38_0.1 3 [] @PySem.Value.none @PySem.Value.none @PySem.Value.none (@PySem.Value.str (q "emacs.incremental") 657) none (@PySem.Value.ref 375) @PySem.Value.none 0) = f38 ∧ (fdOf (q "moved_spot") (q "moved_spot") s39_0.1 3 [] @PySem.Value.none @PySem.Value.none @PySem.Value.none (@PySem.Value.str (q "emacs.incremental") 657) none (@PySem.Value.ref 389) @PySem.Value.none 0) = f39 ∧ (fdOf (q "moved_row") (q "moved_row") s40_0.1 3 [] @PySem.Value.none @PySem.Value.none @PySem.Value.none (@PySem.Value.str (q "emacs.incremental") 657) none (@PySem.Value.ref 394) @PySem.Value.none 0) = f40 ∧ (fdOf (q "kept_count") (q "kept_count") s41_0.1 3 [] @PySem.Value.none @PySem.Value.none @PySem.Value.none (@PySem.Value.str (q "emacs.incremental") 657) none (@PySem.Value.ref 401) @PySem.Value.none 0) = f41 ∧ (fdOf (q "tail_starts") (q "tail_starts") s42_0.1 3 [] @PySem.Value.none @PySem.Value.none @PySem.Value.none (@PySem.Value.str (q "emacs.incremental") 657) none (@PySem.Value.ref 408) @PySem.Value.none 0) = f42 ∧ (fdOf (q "laid_again") (q "laid_again") s43_0.1 3 [] @PySem.Value.none @PySem.Value.none @PySem.Value.none (@PySem.Value.str (q "emacs.incremental") 657) none (@PySem.Value.ref 415) @PySem.Value.none 0) = f43 ∧ (fdOf (q "__init__") (q "Face.__init__") s48_0.1 3 [] (@PySem.Value.ref 427) @PySem.Value.none @PySem.Value.none (@PySem.Value.str (q "emacs.faces") 805) none (@PySem.Value.ref 433) @PySem.Value.none 0) = f44 ∧ (fdOf (q "__init__") (q "FaceTable.__init__") s49_0.1 3 [] @PySem.Value.none @PySem.Value.none @PySem.Value.none (@PySem.Value.str (q "emacs.faces") 805) none (@PySem.Value.ref 454) @PySem.Value.none 0) = f45 ∧ (fdOf (q "define") (q "FaceTable.define") s49_1.1 3 [] @PySem.Value.none @PySem.Value.none @PySem.Value.none (@PySem.Value.str (q "emacs.faces") 805) none (@PySem.Value.ref 461) @PySem.Value.none 0) = f46 ∧ (fdOf (q "merged") (q "FaceTable.merged") s49_2.1 3 [] @PySem.Value.none @PySem.Value.none @PySem.Value.none (@PySem.Value.str (q "emacs.faces") 805) none (@PySem.Value.ref 466) @PySem.Value.none 0) = f47 ∧ (fdOf (q "number_of") (q "FaceTable.number_of") s49_3.1 3 [] @PySem.Value.none @PySem.Value.none @PySem.Value.none (@PySem.Value.str (q "emacs.faces") 805) none (@PySem.Value.ref 473) @PySem.Value.none 0) = f48 ∧ (fdOf (q "look_of") (q "FaceTable.look_of") s49_4.1 3 [] @PySem.Value.none @PySem.Value.none @PySem.Value.none (@PySem.Value.str (q "emacs.faces") 805) none (@PySem.Value.ref 480) @PySem.Value.none 0) = f49 ∧ (fdOf (q "_law_draw") (q "_law_draw") s51_0.1 3 [] @PySem.Value.none @PySem.Value.none @PySem.Value.none (@PySem.Value.str (q "law_sq0006_01") 910) none (@PySem.Value.ref 494) @PySem.Value.none 0) = f50 ∧ (fdOf (q "_law_signs") (q "_law_signs") s52_0.1 3 [] @PySem.Value.none @PySem.Value.none @PySem.Value.none (@PySem.Value.str (q "law_sq0006_01") 910) none (@PySem.Value.ref 499) @PySem.Value.none 0) = f51 ∧ (fdOf (q "_law_shown") (q "_law_shown") s53_0.1 3 [] @PySem.Value.none @PySem.Value.none @PySem.Value.none (@PySem.Value.str (q "law_sq0006_01") 910) none (@PySem.Value.ref 506) @PySem.Value.none 0) = f52 ∧ (fdOf (q "_law_row") (q "_law_row") s54_0.1 3 [] @PySem.Value.none @PySem.Value.none @PySem.Value.none (@PySem.Value.str (q "law_sq0006_01") 910) none (@PySem.Value.ref 511) @PySem.Value.none 0) = f53 ∧ (fdOf (q "_law_rows") (q "_law_rows") s55_0.1 3 [] @PySem.Value.none @PySem.Value.none @PySem.Value.none (@PySem.Value.str (q "law_sq0006_01") 910) none (@PySem.Value.ref 518) @PySem.Value.none 0) = f54 ∧ (fdOf (q "_law_line") (q "_law_line") s56_0.1 3 [] @PySem.Value.none @PySem.Value.none @PySem.Value.none (@PySem.Value.str (q "law_sq0006_01") 910) none (@PySem.Value.ref 525) @PySem.Value.none 0) = f55 ∧ (fdOf (q "_law_read") (q "_law_read") s57_0.1 3 [] @PySem.Value.none @PySem.Value.none @PySem.Value.none (@PySem.Value.str (q "law_sq0006_01") 910) none (@PySem.Value.ref 530) @PySem.Value.none 0) = f56 ∧ (fdOf (q "_law_fresh") (q "_law_fresh") s58_0.1 3 [] @PySem.Value.none @PySem.Value.none @PySem.Value.none (@PySem.Value.str (q "law_sq0006_01") 910) none (@PySem.Value.ref 535) @PySem.Value.none 0) = f57 ∧ (fdOf (q "_law_changed") (q "_law_changed") s59_0.1 3 [] @PySem.Value.none @PySem.Value.none @PySem.Value.none (@PySem.Value.str (q "law_sq0006_01") 910) none (@PySem.Value.ref 542) @PySem.Value.none 0) = f58 ∧ (fdOf (q "law") (q "law") s60_0.1 3 [] @PySem.Value.none @PySem.Value.none @PySem.Value.none (@PySem.Value.str (q "law_sq0006_01") 910) none (@PySem.Value.ref 547) @PySem.Value.none 0) = f59) => (  ((nat_lit 2), (@PySem.Obj.mk @PySem.Value.none none (@Data.dict (List.toArray []) 0) (List.toArray []))) ::
  ((nat_lit 3), (@PySem.Obj.mk (@PySem.Value.type "dict") none (@Data.dict (List.toArray [(@PySem.DictEntry.mk (@PySem.PyData.keyHash P (q "__name__")) (@PySem.Value.str (q "__name__") 165) (@PySem.Value.str (q "law_sq0006_01") 910)), (@PySem.DictEntry.mk (@PySem.PyData.keyHash P (q "__doc__")) (@PySem.Value.str (q "__doc__") 166) @PySem.Value.none), (@PySem.DictEntry.mk (@PySem.PyData.keyHash P (q "__package__")) (@PySem.Value.str (q "__package__") 167) @PySem.Value.none), (@PySem.DictEntry.mk (@PySem.PyData.keyHash P (q "__loader__")) (@PySem.Value.str (q "__loader__") 168) (@PySem.Value.builtin "__main__.__loader__#opaque")), (@PySem.DictEntry.mk (@PySem.PyData.keyHash P (q "__spec__")) (@PySem.Value.str (q "__spec__") 169) @PySem.Value.none), (@PySem.DictEntry.mk (@PySem.PyData.keyHash P (q "__annotations__")) (@PySem.Value.str (q "__annotations__") 170) (@PySem.Value.ref 6)), (@PySem.DictEntry.mk (@PySem.PyData.keyHash P (q "__builtins__")) (@PySem.Value.str (q "__builtins__") 171) (@PySem.Value.ref 4)), (@PySem.DictEntry.mk (@PySem.PyData.keyHash P (q "__file__")) (@PySem.Value.str (q "__file__") 173) (@PySem.Value.str (q "/claim/cut.py") 172)), (@PySem.DictEntry.mk (@PySem.PyData.keyHash P (q "__cached__")) (@PySem.Value.str (q "__cached__") 174) @PySem.Value.none), (@PySem.DictEntry.mk (@PySem.PyData.keyHash P (q "_wall")) (@PySem.Value.str (q "_wall") 193) (@PySem.Value.ref 21)), (@PySem.DictEntry.mk (@PySem.PyData.keyHash P (q "NOWHERE")) (@PySem.Value.str (q "NOWHERE") 198) (@PySem.Value.int (-(1 : Int)) 197)), (@PySem.DictEntry.mk (@PySem.PyData.keyHash P (q "NEWLINE")) (@PySem.Value.str (q "NEWLINE") 200) (@PySem.Value.int (10 : Int) 199)), (@PySem.DictEntry.mk (@PySem.PyData.keyHash P (q "TAB")) (@PySem.Value.str (q "TAB") 202) (@PySem.Value.int (9 : Int) 201)), (@PySem.DictEntry.mk (@PySem.PyData.keyHash P (q "BLANK")) (@PySem.Value.str (q "BLANK") 204) (@PySem.Value.int (32 : Int) 203)), (@PySem.DictEntry.mk (@PySem.PyData.keyHash P (q "DELETE")) (@PySem.Value.str (q "DELETE") 206) (@PySem.Value.int (127 : Int) 205)), (@PySem.DictEntry.mk (@PySem.PyData.keyHash P (q "CARET")) (@PySem.Value.str (q "CARET") 208) (@PySem.Value.int (94 : Int) 207)), (@PySem.DictEntry.mk (@PySem.PyData.keyHash P (q "BACKSLASH")) (@PySem.Value.str (q "BACKSLASH") 210) (@PySem.Value.int (92 : Int) 209)), (@PySem.DictEntry.mk (@PySem.PyData.keyHash P (q "DOLLAR")) (@PySem.Value.str (q "DOLLAR") 212) (@PySem.Value.int (36 : Int) 211)), (@PySem.DictEntry.mk (@PySem.PyData.keyHash P (q "POINT")) (@PySem.Value.str (q "POINT") 214) (@PySem.Value.int (46 : Int) 213)), (@PySem.DictEntry.mk (@PySem.PyData.keyHash P (q "Options")) (@PySem.Value.str (q "Options") 253) (@PySem.Value.ref 39)), (@PySem.DictEntry.mk (@PySem.PyData.keyHash P (q "is_control")) (@PySem.Value.str (q "is_control") 260) (@PySem.Value.ref 50)), (@PySem.DictEntry.mk (@PySem.PyData.keyHash P (q "is_raw")) (@PySem.Value.str (q "is_raw") 267) (@PySem.Value.ref 57)), (@PySem.DictEntry.mk (@PySem.PyData.keyHash P (q "figures_of")) (@PySem.Value.str (q "figures_of") 274) (@PySem.Value.ref 64)), (@PySem.DictEntry.mk (@PySem.PyData.keyHash P (q "shown_codes")) (@PySem.Value.str (q "shown_codes") 283) (@PySem.Value.ref 71)), (@PySem.DictEntry.mk (@PySem.PyData.keyHash P (q "SHOWN")) (@PySem.Value.str (q "SHOWN") 287) (@PySem.Value.int (0 : Int) 286)), (@PySem.DictEntry.mk (@PySem.PyData.keyHash P (q "POINTS")) (@PySem.Value.str (q "POINTS") 289) (@PySem.Value.int (2 : Int) 288)), (@PySem.DictEntry.mk (@PySem.PyData.keyHash P (q "View")) (@PySem.Value.str (q "View") 375) (@PySem.Value.ref 138)), (@PySem.DictEntry.mk (@PySem.PyData.keyHash P (q "Signs")) (@PySem.Value.str (q "Signs") 410) (@PySem.Value.ref 159)), (@PySem.DictEntry.mk (@PySem.PyData.keyHash P (q "is_break")) (@PySem.Value.str (q "is_break") 418) (@PySem.Value.ref 170)), (@PySem.DictEntry.mk (@PySem.PyData.keyHash P (q "hidden_end")) (@PySem.Value.str (q "hidden_end") 426) (@PySem.Value.ref 177)), (@PySem.DictEntry.mk (@PySem.PyData.keyHash P (q "string_signs")) (@PySem.Value.str (q "string_signs") 432) (@PySem.Value.ref 182)), (@PySem.DictEntry.mk (@PySem.PyData.keyHash P (q "hidden_signs")) (@PySem.Value.str (q "hidden_signs") 444) (@PySem.Value.ref 189)), (@PySem.DictEntry.mk (@PySem.PyData.keyHash P (q "signs_at")) (@PySem.Value.str (q "signs_at") 450) (@PySem.Value.ref 194)), (@PySem.DictEntry.mk (@PySem.PyData.keyHash P (q "Walk")) (@PySem.Value.str (q "Walk") 514) (@PySem.Value.ref 239)), (@PySem.DictEntry.mk (@PySem.PyData.keyHash P (q "Row")) (@PySem.Value.str (q "Row") 574) (@PySem.Value.ref 274)), (@PySem.DictEntry.mk (@PySem.PyData.keyHash P (q "put_sign")) (@PySem.Value.str (q "put_sign") 584) (@PySem.Value.ref 285)), (@PySem.DictEntry.mk (@PySem.PyData.keyHash P (q "end_of_line")) (@PySem.Value.str (q "end_of_line") 594) (@PySem.Value.ref 292)), (@PySem.DictEntry.mk (@PySem.PyData.keyHash P (q "overflow")) (@PySem.Value.str (q "overflow") 608) (@PySem.Value.ref 299)), (@PySem.DictEntry.mk (@PySem.PyData.keyHash P (q "folded_row")) (@PySem.Value.str (q "folded_row") 626) (@PySem.Value.ref 306)), (@PySem.DictEntry.mk (@PySem.PyData.keyHash P (q "cut_row")) (@PySem.Value.str (q "cut_row") 644) (@PySem.Value.ref 313)), (@PySem.DictEntry.mk (@PySem.PyData.keyHash P (q "laid_row")) (@PySem.Value.str (q "laid_row") 656) (@PySem.Value.ref 320)), (@PySem.DictEntry.mk (@PySem.PyData.keyHash P (q "Changes")) (@PySem.Value.str (q "Changes") 716) (@PySem.Value.ref 358)), (@PySem.DictEntry.mk (@PySem.PyData.keyHash P (q "Again")) (@PySem.Value.str (q "Again") 747) (@PySem.Value.ref 379)), (@PySem.DictEntry.mk (@PySem.PyData.keyHash P (q "moved_spot")) (@PySem.Value.str (q "moved_spot") 755) (@PySem.Value.ref 390)), (@PySem.DictEntry.mk (@PySem.PyData.keyHash P (q "moved_row")) (@PySem.Value.str (q "moved_row") 761) (@PySem.Value.ref 395)), (@PySem.DictEntry.mk (@PySem.PyData.keyHash P (q "kept_count")) (@PySem.Value.str (q "kept_count") 772) (@PySem.Value.ref 402)), (@PySem.DictEntry.mk (@PySem.PyData.keyHash P (q "tail_starts")) (@PySem.Value.str (q "tail_starts") 785) (@PySem.Value.ref 409)), (@PySem.DictEntry.mk (@PySem.PyData.keyHash P (q "laid_again")) (@PySem.Value.str (q "laid_again") 804) (@PySem.Value.ref 416)), (@PySem.DictEntry.mk (@PySem.PyData.keyHash P (q "DEFAULT")) (@PySem.Value.str (q "DEFAULT") 808) (@PySem.Value.str (q "default") 807)), (@PySem.DictEntry.mk (@PySem.PyData.keyHash P (q "PLAIN")) (@PySem.Value.str (q "PLAIN") 815) (@PySem.Value.ref 417)), (@PySem.DictEntry.mk (@PySem.PyData.keyHash P (q "UNTOLD")) (@PySem.Value.str (q "UNTOLD") 816) (@PySem.Value.ref 418)), (@PySem.DictEntry.mk (@PySem.PyData.keyHash P (q "Face")) (@PySem.Value.str (q "Face") 847) (@PySem.Value.ref 437)), (@PySem.DictEntry.mk (@PySem.PyData.keyHash P (q "FaceTable")) (@PySem.Value.str (q "FaceTable") 909) (@PySem.Value.ref 484)), (@PySem.DictEntry.mk (@PySem.PyData.keyHash P (q "_law_draw")) (@PySem.Value.str (q "_law_draw") 919) (@PySem.Value.ref 495)), (@PySem.DictEntry.mk (@PySem.PyData.keyHash P (q "_law_signs")) (@PySem.Value.str (q "_law_signs") 925) (@PySem.Value.ref 500)), (@PySem.DictEntry.mk (@PySem.PyData.keyHash P (q "_law_shown")) (@PySem.Value.str (q "_law_shown") 933) (@PySem.Value.ref 507)), (@PySem.DictEntry.mk (@PySem.PyData.keyHash P (q "_law_row")) (@PySem.Value.str (q "_law_row") 939) (@PySem.Value.ref 512)), (@PySem.DictEntry.mk (@PySem.PyData.keyHash P (q "_law_rows")) (@PySem.Value.str (q "_law_rows") 953) (@PySem.Value.ref 519)), (@PySem.DictEntry.mk (@PySem.PyData.keyHash P (q "_law_line")) (@PySem.Value.str (q "_law_line") 961) (@PySem.Value.ref 526)), (@PySem.DictEntry.mk (@PySem.PyData.keyHash P (q "_law_read")) (@PySem.Value.str (q "_law_read") 967) (@PySem.Value.ref 531)), (@PySem.DictEntry.mk (@PySem.PyData.keyHash P (q "_law_fresh")) (@PySem.Value.str (q "_law_fresh") 973) (@PySem.Value.ref 536)), (@PySem.DictEntry.mk (@PySem.PyData.keyHash P (q "_law_changed")) (@PySem.Value.str (q "_law_changed") 986) (@PySem.Value.ref 543)), (@PySem.DictEntry.mk (@PySem.PyData.keyHash P (q "law")) (@PySem.Value.str (q "law") 992) (@PySem.Value.ref 548))]) 63) (List.toArray []))) ::
  ((nat_lit 15), (@PySem.Obj.mk (@PySem.Value.type "tuple") none (@Data.seq (List.toArray []) 0) (List.toArray []))) ::
  ((nat_lit 17), (@PySem.Obj.mk (@PySem.Value.type "tuple") none (@Data.seq (List.toArray [(@PySem.Value.str (q "k") 190)]) 0) (List.toArray []))) ::
  ((nat_lit 18), (@PySem.Obj.mk (@PySem.Value.type "tuple") none (@Data.seq (List.toArray []) 0) (List.toArray []))) ::
  ((nat_lit 20), (@PySem.Obj.mk (@PySem.Value.type "code") none (@Data.fields (List.toArray [(@PySem.Value.str (q "_wall") 187), (@PySem.Value.str (q "_wall") 188), (@PySem.Value.str (q "/claim/cut.py") 189), (@PySem.Value.int (1 : Int) 0), (@PySem.Value.int (1 : Int) 0), (@PySem.Value.int (0 : Int) 0), (@PySem.Value.int (0 : Int) 0), (@PySem.Value.int (3 : Int) 0), (@PySem.Value.ref 15), (@PySem.Value.bool @Bool.true), (@PySem.Value.int (181 : Int) 0), (@PySem.Value.ref 16), @PySem.Value.none, (@PySem.Value.ref 17), (@PySem.Value.ref 18), (@PySem.Value.ref 19), (@PySem.Value.int (191 : Int) 0), (@PySem.Value.int (1 : Int) 0), (@PySem.Value.str (q "/claim/cut.py") 192)])) (List.toArray []))) ::
  ((nat_lit 21), (@PySem.Obj.mk (@PySem.Value.type "function") none (@Data.func f0) (List.toArray []))) ::
  ((nat_lit 29), (@PySem.Obj.mk (@PySem.Value.type "tuple") none (@Data.seq (List.toArray [(@PySem.Value.int (8 : Int) 227), (@PySem.Value.bool @Bool.true), (@PySem.Value.bool @Bool.false), (@PySem.Value.bool @Bool.false), (@PySem.Value.int (0 : Int) 228)]) 0) (List.toArray []))) ::
  ((nat_lit 30), (@PySem.Obj.mk (@PySem.Value.type "tuple") none (@Data.seq (List.toArray []) 0) (List.toArray []))) ::
  ((nat_lit 32), (@PySem.Obj.mk (@PySem.Value.type "tuple") none (@Data.seq (List.toArray [(@PySem.Value.str (q "self") 232), (@PySem.Value.str (q "tab_width") 233), (@PySem.Value.str (q "has_carets") 234), (@PySem.Value.str (q "truncates") 235), (@PySem.Value.str (q "wraps_words") 236), (@PySem.Value.str (q "hscroll") 237)]) 0) (List.toArray []))) ::
  ((nat_lit 33), (@PySem.Obj.mk (@PySem.Value.type "tuple") none (@Data.seq (List.toArray []) 0) (List.toArray []))) ::
  ((nat_lit 35), (@PySem.Obj.mk (@PySem.Value.type "code") none (@Data.fields (List.toArray [(@PySem.Value.str (q "__init__") 229), (@PySem.Value.str (q "Options.__init__") 230), (@PySem.Value.str (q "/claim/cut.py") 231), (@PySem.Value.int (16 : Int) 0), (@PySem.Value.int (6 : Int) 0), (@PySem.Value.int (0 : Int) 0), (@PySem.Value.int (0 : Int) 0), (@PySem.Value.int (3 : Int) 0), (@PySem.Value.ref 30), (@PySem.Value.bool @Bool.true), (@PySem.Value.int (181 : Int) 0), (@PySem.Value.ref 31), @PySem.Value.none, (@PySem.Value.ref 32), (@PySem.Value.ref 33), (@PySem.Value.ref 34), (@PySem.Value.int (238 : Int) 0), (@PySem.Value.int (16 : Int) 0), (@PySem.Value.str (q "/claim/cut.py") 239)])) (List.toArray []))) ::
  ((nat_lit 36), (@PySem.Obj.mk (@PySem.Value.type "function") none (@Data.func f1) (List.toArray []))) ::
  ((nat_lit 37), (@PySem.Obj.mk (@PySem.Value.type "tuple") none (@Data.seq (List.toArray [(@PySem.Value.str (q "has_carets") 241), (@PySem.Value.str (q "hscroll") 242), (@PySem.Value.str (q "tab_width") 243), (@PySem.Value.str (q "truncates") 244), (@PySem.Value.str (q "wraps_words") 245)]) 0) (List.toArray []))) ::
  ((nat_lit 38), (@PySem.Obj.mk (@PySem.Value.type "dict") none (@Data.dict (List.toArray [(@PySem.DictEntry.mk (@PySem.PyData.keyHash P (q "__module__")) (@PySem.Value.str (q "__module__") 222) (@PySem.Value.str (q "emacs.glyphs") 194)), (@PySem.DictEntry.mk (@PySem.PyData.keyHash P (q "__firstlineno__")) (@PySem.Value.str (q "__firstlineno__") 226) (@PySem.Value.int (14 : Int) 225)), (@PySem.DictEntry.mk (@PySem.PyData.keyHash P (q "__init__")) (@PySem.Value.str (q "__init__") 240) (@PySem.Value.ref 36)), (@PySem.DictEntry.mk (@PySem.PyData.keyHash P (q "__static_attributes__")) (@PySem.Value.str (q "__static_attributes__") 246) (@PySem.Value.ref 37)), (@PySem.DictEntry.mk (@PySem.PyData.keyHash P (q "__dict__")) (@PySem.Value.str (q "__dict__") 248) (@PySem.Value.ref 40)), (@PySem.DictEntry.mk (@PySem.PyData.keyHash P (q "__weakref__")) (@PySem.Value.str (q "__weakref__") 250) (@PySem.Value.ref 41)), (@PySem.DictEntry.mk (@PySem.PyData.keyHash P (q "__doc__")) (@PySem.Value.str (q "__doc__") 251) @PySem.Value.none)]) 4) (List.toArray []))) ::
  ((nat_lit 39), (@PySem.Obj.mk (@PySem.Value.type "type") none (@Data.cls (@PySem.ClassData.mk (q "Options") [(@PySem.Value.type "object")] [(@PySem.Value.ref 39), (@PySem.Value.type "object")] 38 (q "Options") @Bool.true [] [] @Bool.false none @Bool.false)) (List.toArray [none, none, (some (@PySem.Value.str (q "Options") 215)), (some (@PySem.Value.str (q "Options") 223)), (some (@PySem.Value.builtin "object.__new__")), (some (@PySem.Value.bool @Bool.true))]))) ::
  ((nat_lit 40), (@PySem.Obj.mk (@PySem.Value.type "getset_descriptor") none (@Data.fields (List.toArray [(@PySem.Value.str (q "__dict__") 247), (@PySem.Value.ref 39), (@PySem.Value.builtin "function.__dict__"), (@PySem.Value.builtin "function.__dict__#set")])) (List.toArray []))) ::
  ((nat_lit 41), (@PySem.Obj.mk (@PySem.Value.type "getset_descriptor") none (@Data.fields (List.toArray [(@PySem.Value.str (q "__weakref__") 249), (@PySem.Value.ref 39), (@PySem.Value.builtin "ExceptionGroup.__weakref__"), @PySem.Value.none])) (List.toArray []))) ::
  ((nat_lit 44), (@PySem.Obj.mk (@PySem.Value.type "tuple") none (@Data.seq (List.toArray []) 0) (List.toArray []))) ::
  ((nat_lit 46), (@PySem.Obj.mk (@PySem.Value.type "tuple") none (@Data.seq (List.toArray [(@PySem.Value.str (q "code") 257)]) 0) (List.toArray []))) ::
  ((nat_lit 47), (@PySem.Obj.mk (@PySem.Value.type "tuple") none (@Data.seq (List.toArray []) 0) (List.toArray []))) ::
  ((nat_lit 49), (@PySem.Obj.mk (@PySem.Value.type "code") none (@Data.fields (List.toArray [(@PySem.Value.str (q "is_control") 254), (@PySem.Value.str (q "is_control") 255), (@PySem.Value.str (q "/claim/cut.py") 256), (@PySem.Value.int (22 : Int) 0), (@PySem.Value.int (1 : Int) 0), (@PySem.Value.int (0 : Int) 0), (@PySem.Value.int (0 : Int) 0), (@PySem.Value.int (3 : Int) 0), (@PySem.Value.ref 44), (@PySem.Value.bool @Bool.true), (@PySem.Value.int (181 : Int) 0), (@PySem.Value.ref 45), @PySem.Value.none, (@PySem.Value.ref 46), (@PySem.Value.ref 47), (@PySem.Value.ref 48), (@PySem.Value.int (258 : Int) 0), (@PySem.Value.int (22 : Int) 0), (@PySem.Value.str (q "/claim/cut.py") 259)])) (List.toArray []))) ::
  ((nat_lit 50), (@PySem.Obj.mk (@PySem.Value.type "function") none (@Data.func f2) (List.toArray []))) ::
  ((nat_lit 51), (@PySem.Obj.mk (@PySem.Value.type "tuple") none (@Data.seq (List.toArray []) 0) (List.toArray []))) ::
  ((nat_lit 53), (@PySem.Obj.mk (@PySem.Value.type "tuple") none (@Data.seq (List.toArray [(@PySem.Value.str (q "code") 264)]) 0) (List.toArray []))) ::
  ((nat_lit 54), (@PySem.Obj.mk (@PySem.Value.type "tuple") none (@Data.seq (List.toArray []) 0) (List.toArray []))) ::
  ((nat_lit 56), (@PySem.Obj.mk (@PySem.Value.type "code") none (@Data.fields (List.toArray [(@PySem.Value.str (q "is_raw") 261), (@PySem.Value.str (q "is_raw") 262), (@PySem.Value.str (q "/claim/cut.py") 263), (@PySem.Value.int (24 : Int) 0), (@PySem.Value.int (1 : Int) 0), (@PySem.Value.int (0 : Int) 0), (@PySem.Value.int (0 : Int) 0), (@PySem.Value.int (3 : Int) 0), (@PySem.Value.ref 51), (@PySem.Value.bool @Bool.true), (@PySem.Value.int (181 : Int) 0), (@PySem.Value.ref 52), @PySem.Value.none, (@PySem.Value.ref 53), (@PySem.Value.ref 54), (@PySem.Value.ref 55), (@PySem.Value.int (265 : Int) 0), (@PySem.Value.int (24 : Int) 0), (@PySem.Value.str (q "/claim/cut.py") 266)])) (List.toArray []))) ::
  ((nat_lit 57), (@PySem.Obj.mk (@PySem.Value.type "function") none (@Data.func f3) (List.toArray []))) ::
  ((nat_lit 58), (@PySem.Obj.mk (@PySem.Value.type "tuple") none (@Data.seq (List.toArray []) 0) (List.toArray []))) ::
  ((nat_lit 60), (@PySem.Obj.mk (@PySem.Value.type "tuple") none (@Data.seq (List.toArray [(@PySem.Value.str (q "code") 271)]) 0) (List.toArray []))) ::
  ((nat_lit 61), (@PySem.Obj.mk (@PySem.Value.type "tuple") none (@Data.seq (List.toArray []) 0) (List.toArray []))) ::
  ((nat_lit 63), (@PySem.Obj.mk (@PySem.Value.type "code") none (@Data.fields (List.toArray [(@PySem.Value.str (q "figures_of") 268), (@PySem.Value.str (q "figures_of") 269), (@PySem.Value.str (q "/claim/cut.py") 270), (@PySem.Value.int (26 : Int) 0), (@PySem.Value.int (1 : Int) 0), (@PySem.Value.int (0 : Int) 0), (@PySem.Value.int (0 : Int) 0), (@PySem.Value.int (3 : Int) 0), (@PySem.Value.ref 58), (@PySem.Value.bool @Bool.true), (@PySem.Value.int (181 : Int) 0), (@PySem.Value.ref 59), @PySem.Value.none, (@PySem.Value.ref 60), (@PySem.Value.ref 61), (@PySem.Value.ref 62), (@PySem.Value.int (272 : Int) 0), (@PySem.Value.int (26 : Int) 0), (@PySem.Value.str (q "/claim/cut.py") 273)])) (List.toArray []))) ::
  ((nat_lit 64), (@PySem.Obj.mk (@PySem.Value.type "function") none (@Data.func f4) (List.toArray []))) ::
  ((nat_lit 65), (@PySem.Obj.mk (@PySem.Value.type "tuple") none (@Data.seq (List.toArray []) 0) (List.toArray []))) ::
  ((nat_lit 67), (@PySem.Obj.mk (@PySem.Value.type "tuple") none (@Data.seq (List.toArray [(@PySem.Value.str (q "code") 278), (@PySem.Value.str (q "column") 279), (@PySem.Value.str (q "options") 280)]) 0) (List.toArray []))) ::
  ((nat_lit 68), (@PySem.Obj.mk (@PySem.Value.type "tuple") none (@Data.seq (List.toArray []) 0) (List.toArray []))) ::
  ((nat_lit 70), (@PySem.Obj.mk (@PySem.Value.type "code") none (@Data.fields (List.toArray [(@PySem.Value.str (q "shown_codes") 275), (@PySem.Value.str (q "shown_codes") 276), (@PySem.Value.str (q "/claim/cut.py") 277), (@PySem.Value.int (28 : Int) 0), (@PySem.Value.int (3 : Int) 0), (@PySem.Value.int (0 : Int) 0), (@PySem.Value.int (0 : Int) 0), (@PySem.Value.int (3 : Int) 0), (@PySem.Value.ref 65), (@PySem.Value.bool @Bool.true), (@PySem.Value.int (181 : Int) 0), (@PySem.Value.ref 66), @PySem.Value.none, (@PySem.Value.ref 67), (@PySem.Value.ref 68), (@PySem.Value.ref 69), (@PySem.Value.int (281 : Int) 0), (@PySem.Value.int (28 : Int) 0), (@PySem.Value.str (q "/claim/cut.py") 282)])) (List.toArray []))) ::
  ((nat_lit 71), (@PySem.Obj.mk (@PySem.Value.type "function") none (@Data.func f5) (List.toArray []))) ::
  ((nat_lit 79), (@PySem.Obj.mk (@PySem.Value.type "tuple") none (@Data.seq (List.toArray [(@PySem.Value.int (1 : Int) 302)]) 0) (List.toArray []))) ::
  ((nat_lit 80), (@PySem.Obj.mk (@PySem.Value.type "tuple") none (@Data.seq (List.toArray []) 0) (List.toArray []))) ::
  ((nat_lit 82), (@PySem.Obj.mk (@PySem.Value.type "tuple") none (@Data.seq (List.toArray [(@PySem.Value.str (q "self") 306), (@PySem.Value.str (q "codes") 307), (@PySem.Value.str (q "begin") 308)]) 0) (List.toArray []))) ::
  ((nat_lit 83), (@PySem.Obj.mk (@PySem.Value.type "tuple") none (@Data.seq (List.toArray []) 0) (List.toArray []))) ::
  ((nat_lit 85), (@PySem.Obj.mk (@PySem.Value.type "code") none (@Data.fields (List.toArray [(@PySem.Value.str (q "__init__") 303), (@PySem.Value.str (q "View.__init__") 304), (@PySem.Value.str (q "/claim/cut.py") 305), (@PySem.Value.int (43 : Int) 0), (@PySem.Value.int (3 : Int) 0), (@PySem.Value.int (0 : Int) 0), (@PySem.Value.int (0 : Int) 0), (@PySem.Value.int (3 : Int) 0), (@PySem.Value.ref 80), (@PySem.Value.bool @Bool.true), (@PySem.Value.int (181 : Int) 0), (@PySem.Value.ref 81), @PySem.Value.none, (@PySem.Value.ref 82), (@PySem.Value.ref 83), (@PySem.Value.ref 84), (@PySem.Value.int (309 : Int) 0), (@PySem.Value.int (43 : Int) 0), (@PySem.Value.str (q "/claim/cut.py") 310)])) (List.toArray []))) ::
  ((nat_lit 86), (@PySem.Obj.mk (@PySem.Value.type "function") none (@Data.func f6) (List.toArray []))) ::
  ((nat_lit 87), (@PySem.Obj.mk (@PySem.Value.type "tuple") none (@Data.seq (List.toArray []) 0) (List.toArray []))) ::
  ((nat_lit 89), (@PySem.Obj.mk (@PySem.Value.type "tuple") none (@Data.seq (List.toArray [(@PySem.Value.str (q "self") 315)]) 0) (List.toArray []))) ::
  ((nat_lit 90), (@PySem.Obj.mk (@PySem.Value.type "tuple") none (@Data.seq (List.toArray []) 0) (List.toArray []))) ::
  ((nat_lit 92), (@PySem.Obj.mk (@PySem.Value.type "code") none (@Data.fields (List.toArray [(@PySem.Value.str (q "begin") 312), (@PySem.Value.str (q "View.begin") 313), (@PySem.Value.str (q "/claim/cut.py") 314), (@PySem.Value.int (47 : Int) 0), (@PySem.Value.int (1 : Int) 0), (@PySem.Value.int (0 : Int) 0), (@PySem.Value.int (0 : Int) 0), (@PySem.Value.int (3 : Int) 0), (@PySem.Value.ref 87), (@PySem.Value.bool @Bool.true), (@PySem.Value.int (181 : Int) 0), (@PySem.Value.ref 88), @PySem.Value.none, (@PySem.Value.ref 89), (@PySem.Value.ref 90), (@PySem.Value.ref 91), (@PySem.Value.int (316 : Int) 0), (@PySem.Value.int (47 : Int) 0), (@PySem.Value.str (q "/claim/cut.py") 317)])) (List.toArray []))) ::
  ((nat_lit 93), (@PySem.Obj.mk (@PySem.Value.type "function") none (@Data.func f7) (List.toArray []))) ::
  ((nat_lit 94), (@PySem.Obj.mk (@PySem.Value.type "tuple") none (@Data.seq (List.toArray []) 0) (List.toArray []))) ::
  ((nat_lit 96), (@PySem.Obj.mk (@PySem.Value.type "tuple") none (@Data.seq (List.toArray [(@PySem.Value.str (q "self") 322)]) 0) (List.toArray []))) ::
  ((nat_lit 97), (@PySem.Obj.mk (@PySem.Value.type "tuple") none (@Data.seq (List.toArray []) 0) (List.toArray []))) ::
  ((nat_lit 99), (@PySem.Obj.mk (@PySem.Value.type "code") none (@Data.fields (List.toArray [(@PySem.Value.str (q "end") 319), (@PySem.Value.str (q "View.end") 320), (@PySem.Value.str (q "/claim/cut.py") 321), (@PySem.Value.int (50 : Int) 0), (@PySem.Value.int (1 : Int) 0), (@PySem.Value.int (0 : Int) 0), (@PySem.Value.int (0 : Int) 0), (@PySem.Value.int (3 : Int) 0), (@PySem.Value.ref 94), (@PySem.Value.bool @Bool.true), (@PySem.Value.int (181 : Int) 0), (@PySem.Value.ref 95), @PySem.Value.none, (@PySem.Value.ref 96), (@PySem.Value.ref 97), (@PySem.Value.ref 98), (@PySem.Value.int (323 : Int) 0), (@PySem.Value.int (50 : Int) 0), (@PySem.Value.str (q "/claim/cut.py") 324)])) (List.toArray []))) ::
  ((nat_lit 100), (@PySem.Obj.mk (@PySem.Value.type "function") none (@Data.func f8) (List.toArray []))) ::
  ((nat_lit 101), (@PySem.Obj.mk (@PySem.Value.type "tuple") none (@Data.seq (List.toArray []) 0) (List.toArray []))) ::
  ((nat_lit 103), (@PySem.Obj.mk (@PySem.Value.type "tuple") none (@Data.seq (List.toArray [(@PySem.Value.str (q "self") 329), (@PySem.Value.str (q "place") 330)]) 0) (List.toArray []))) ::
  ((nat_lit 104), (@PySem.Obj.mk (@PySem.Value.type "tuple") none (@Data.seq (List.toArray []) 0) (List.toArray []))) ::
  ((nat_lit 106), (@PySem.Obj.mk (@PySem.Value.type "code") none (@Data.fields (List.toArray [(@PySem.Value.str (q "code_at") 326), (@PySem.Value.str (q "View.code_at") 327), (@PySem.Value.str (q "/claim/cut.py") 328), (@PySem.Value.int (53 : Int) 0), (@PySem.Value.int (2 : Int) 0), (@PySem.Value.int (0 : Int) 0), (@PySem.Value.int (0 : Int) 0), (@PySem.Value.int (3 : Int) 0), (@PySem.Value.ref 101), (@PySem.Value.bool @Bool.true), (@PySem.Value.int (181 : Int) 0), (@PySem.Value.ref 102), @PySem.Value.none, (@PySem.Value.ref 103), (@PySem.Value.ref 104), (@PySem.Value.ref 105), (@PySem.Value.int (331 : Int) 0), (@PySem.Value.int (53 : Int) 0), (@PySem.Value.str (q "/claim/cut.py") 332)])) (List.toArray []))) ::
  ((nat_lit 107), (@PySem.Obj.mk (@PySem.Value.type "function") none (@Data.func f9) (List.toArray []))) ::
  ((nat_lit 108), (@PySem.Obj.mk (@PySem.Value.type "tuple") none (@Data.seq (List.toArray []) 0) (List.toArray []))) ::
  ((nat_lit 110), (@PySem.Obj.mk (@PySem.Value.type "tuple") none (@Data.seq (List.toArray [(@PySem.Value.str (q "self") 337), (@PySem.Value.str (q "place") 338)]) 0) (List.toArray []))) ::
  ((nat_lit 111), (@PySem.Obj.mk (@PySem.Value.type "tuple") none (@Data.seq (List.toArray []) 0) (List.toArray []))) ::
  ((nat_lit 113), (@PySem.Obj.mk (@PySem.Value.type "code") none (@Data.fields (List.toArray [(@PySem.Value.str (q "faces_at") 334), (@PySem.Value.str (q "View.faces_at") 335), (@PySem.Value.str (q "/claim/cut.py") 336), (@PySem.Value.int (56 : Int) 0), (@PySem.Value.int (2 : Int) 0), (@PySem.Value.int (0 : Int) 0), (@PySem.Value.int (0 : Int) 0), (@PySem.Value.int (3 : Int) 0), (@PySem.Value.ref 108), (@PySem.Value.bool @Bool.true), (@PySem.Value.int (181 : Int) 0), (@PySem.Value.ref 109), @PySem.Value.none, (@PySem.Value.ref 110), (@PySem.Value.ref 111), (@PySem.Value.ref 112), (@PySem.Value.int (339 : Int) 0), (@PySem.Value.int (56 : Int) 0), (@PySem.Value.str (q "/claim/cut.py") 340)])) (List.toArray []))) ::
  ((nat_lit 114), (@PySem.Obj.mk (@PySem.Value.type "function") none (@Data.func f10) (List.toArray []))) ::
  ((nat_lit 115), (@PySem.Obj.mk (@PySem.Value.type "tuple") none (@Data.seq (List.toArray []) 0) (List.toArray []))) ::
  ((nat_lit 117), (@PySem.Obj.mk (@PySem.Value.type "tuple") none (@Data.seq (List.toArray [(@PySem.Value.str (q "self") 345), (@PySem.Value.str (q "place") 346)]) 0) (List.toArray []))) ::
  ((nat_lit 118), (@PySem.Obj.mk (@PySem.Value.type "tuple") none (@Data.seq (List.toArray []) 0) (List.toArray []))) ::
  ((nat_lit 120), (@PySem.Obj.mk (@PySem.Value.type "code") none (@Data.fields (List.toArray [(@PySem.Value.str (q "hidden_at") 342), (@PySem.Value.str (q "View.hidden_at") 343), (@PySem.Value.str (q "/claim/cut.py") 344), (@PySem.Value.int (59 : Int) 0), (@PySem.Value.int (2 : Int) 0), (@PySem.Value.int (0 : Int) 0), (@PySem.Value.int (0 : Int) 0), (@PySem.Value.int (3 : Int) 0), (@PySem.Value.ref 115), (@PySem.Value.bool @Bool.true), (@PySem.Value.int (181 : Int) 0), (@PySem.Value.ref 116), @PySem.Value.none, (@PySem.Value.ref 117), (@PySem.Value.ref 118), (@PySem.Value.ref 119), (@PySem.Value.int (347 : Int) 0), (@PySem.Value.int (59 : Int) 0), (@PySem.Value.str (q "/claim/cut.py") 348)])) (List.toArray []))) ::
  ((nat_lit 121), (@PySem.Obj.mk (@PySem.Value.type "function") none (@Data.func f11) (List.toArray []))) ::
  ((nat_lit 122), (@PySem.Obj.mk (@PySem.Value.type "tuple") none (@Data.seq (List.toArray []) 0) (List.toArray []))) ::
  ((nat_lit 124), (@PySem.Obj.mk (@PySem.Value.type "tuple") none (@Data.seq (List.toArray [(@PySem.Value.str (q "self") 353), (@PySem.Value.str (q "place") 354)]) 0) (List.toArray []))) ::
  ((nat_lit 125), (@PySem.Obj.mk (@PySem.Value.type "tuple") none (@Data.seq (List.toArray []) 0) (List.toArray []))) ::
  ((nat_lit 127), (@PySem.Obj.mk (@PySem.Value.type "code") none (@Data.fields (List.toArray [(@PySem.Value.str (q "shown_at") 350), (@PySem.Value.str (q "View.shown_at") 351), (@PySem.Value.str (q "/claim/cut.py") 352), (@PySem.Value.int (62 : Int) 0), (@PySem.Value.int (2 : Int) 0), (@PySem.Value.int (0 : Int) 0), (@PySem.Value.int (0 : Int) 0), (@PySem.Value.int (3 : Int) 0), (@PySem.Value.ref 122), (@PySem.Value.bool @Bool.true), (@PySem.Value.int (181 : Int) 0), (@PySem.Value.ref 123), @PySem.Value.none, (@PySem.Value.ref 124), (@PySem.Value.ref 125), (@PySem.Value.ref 126), (@PySem.Value.int (355 : Int) 0), (@PySem.Value.int (62 : Int) 0), (@PySem.Value.str (q "/claim/cut.py") 356)])) (List.toArray []))) ::
  ((nat_lit 128), (@PySem.Obj.mk (@PySem.Value.type "function") none (@Data.func f12) (List.toArray []))) ::
  ((nat_lit 129), (@PySem.Obj.mk (@PySem.Value.type "tuple") none (@Data.seq (List.toArray []) 0) (List.toArray []))) ::
  ((nat_lit 131), (@PySem.Obj.mk (@PySem.Value.type "tuple") none (@Data.seq (List.toArray [(@PySem.Value.str (q "self") 361), (@PySem.Value.str (q "place") 362)]) 0) (List.toArray []))) ::
  ((nat_lit 132), (@PySem.Obj.mk (@PySem.Value.type "tuple") none (@Data.seq (List.toArray []) 0) (List.toArray []))) ::
  ((nat_lit 134), (@PySem.Obj.mk (@PySem.Value.type "code") none (@Data.fields (List.toArray [(@PySem.Value.str (q "strings_at") 358), (@PySem.Value.str (q "View.strings_at") 359), (@PySem.Value.str (q "/claim/cut.py") 360), (@PySem.Value.int (65 : Int) 0), (@PySem.Value.int (2 : Int) 0), (@PySem.Value.int (0 : Int) 0), (@PySem.Value.int (0 : Int) 0), (@PySem.Value.int (3 : Int) 0), (@PySem.Value.ref 129), (@PySem.Value.bool @Bool.true), (@PySem.Value.int (181 : Int) 0), (@PySem.Value.ref 130), @PySem.Value.none, (@PySem.Value.ref 131), (@PySem.Value.ref 132), (@PySem.Value.ref 133), (@PySem.Value.int (363 : Int) 0), (@PySem.Value.int (65 : Int) 0), (@PySem.Value.str (q "/claim/cut.py") 364)])) (List.toArray []))) ::
  ((nat_lit 135), (@PySem.Obj.mk (@PySem.Value.type "function") none (@Data.func f13) (List.toArray []))) ::
  ((nat_lit 136), (@PySem.Obj.mk (@PySem.Value.type "tuple") none (@Data.seq (List.toArray [(@PySem.Value.str (q "codes") 366), (@PySem.Value.str (q "first") 367)]) 0) (List.toArray []))) ::
  ((nat_lit 137), (@PySem.Obj.mk (@PySem.Value.type "dict") none (@Data.dict (List.toArray [(@PySem.DictEntry.mk (@PySem.PyData.keyHash P (q "__module__")) (@PySem.Value.str (q "__module__") 297) (@PySem.Value.str (q "emacs.views") 284)), (@PySem.DictEntry.mk (@PySem.PyData.keyHash P (q "__firstlineno__")) (@PySem.Value.str (q "__firstlineno__") 301) (@PySem.Value.int (41 : Int) 300)), (@PySem.DictEntry.mk (@PySem.PyData.keyHash P (q "__init__")) (@PySem.Value.str (q "__init__") 311) (@PySem.Value.ref 86)), (@PySem.DictEntry.mk (@PySem.PyData.keyHash P (q "begin")) (@PySem.Value.str (q "begin") 318) (@PySem.Value.ref 93)), (@PySem.DictEntry.mk (@PySem.PyData.keyHash P (q "end")) (@PySem.Value.str (q "end") 325) (@PySem.Value.ref 100)), (@PySem.DictEntry.mk (@PySem.PyData.keyHash P (q "code_at")) (@PySem.Value.str (q "code_at") 333) (@PySem.Value.ref 107)), (@PySem.DictEntry.mk (@PySem.PyData.keyHash P (q "faces_at")) (@PySem.Value.str (q "faces_at") 341) (@PySem.Value.ref 114)), (@PySem.DictEntry.mk (@PySem.PyData.keyHash P (q "hidden_at")) (@PySem.Value.str (q "hidden_at") 349) (@PySem.Value.ref 121)), (@PySem.DictEntry.mk (@PySem.PyData.keyHash P (q "shown_at")) (@PySem.Value.str (q "shown_at") 357) (@PySem.Value.ref 128)), (@PySem.DictEntry.mk (@PySem.PyData.keyHash P (q "strings_at")) (@PySem.Value.str (q "strings_at") 365) (@PySem.Value.ref 135)), (@PySem.DictEntry.mk (@PySem.PyData.keyHash P (q "__static_attributes__")) (@PySem.Value.str (q "__static_attributes__") 368) (@PySem.Value.ref 136)), (@PySem.DictEntry.mk (@PySem.PyData.keyHash P (q "__dict__")) (@PySem.Value.str (q "__dict__") 370) (@PySem.Value.ref 139)), (@PySem.DictEntry.mk (@PySem.PyData.keyHash P (q "__weakref__")) (@PySem.Value.str (q "__weakref__") 372) (@PySem.Value.ref 140)), (@PySem.DictEntry.mk (@PySem.PyData.keyHash P (q "__doc__")) (@PySem.Value.str (q "__doc__") 373) @PySem.Value.none)]) 4) (List.toArray []))) ::
  ((nat_lit 138), (@PySem.Obj.mk (@PySem.Value.type "type") none (@Data.cls (@PySem.ClassData.mk (q "View") [(@PySem.Value.type "object")] [(@PySem.Value.ref 138), (@PySem.Value.type "object")] 137 (q "View") @Bool.true [] [] @Bool.false none @Bool.false)) (List.toArray [none, none, (some (@PySem.Value.str (q "View") 290)), (some (@PySem.Value.str (q "View") 298)), (some (@PySem.Value.builtin "object.__new__")), (some (@PySem.Value.bool @Bool.true))]))) ::
  ((nat_lit 139), (@PySem.Obj.mk (@PySem.Value.type "getset_descriptor") none (@Data.fields (List.toArray [(@PySem.Value.str (q "__dict__") 369), (@PySem.Value.ref 138), (@PySem.Value.builtin "function.__dict__"), (@PySem.Value.builtin "function.__dict__#set")])) (List.toArray []))) ::
  ((nat_lit 140), (@PySem.Obj.mk (@PySem.Value.type "getset_descriptor") none (@Data.fields (List.toArray [(@PySem.Value.str (q "__weakref__") 371), (@PySem.Value.ref 138), (@PySem.Value.builtin "ExceptionGroup.__weakref__"), @PySem.Value.none])) (List.toArray []))) ::
  ((nat_lit 150), (@PySem.Obj.mk (@PySem.Value.type "tuple") none (@Data.seq (List.toArray []) 0) (List.toArray []))) ::
  ((nat_lit 152), (@PySem.Obj.mk (@PySem.Value.type "tuple") none (@Data.seq (List.toArray [(@PySem.Value.str (q "self") 393), (@PySem.Value.str (q "rows") 394), (@PySem.Value.str (q "after") 395), (@PySem.Value.str (q "reach") 396)]) 0) (List.toArray []))) ::
  ((nat_lit 153), (@PySem.Obj.mk (@PySem.Value.type "tuple") none (@Data.seq (List.toArray []) 0) (List.toArray []))) ::
  ((nat_lit 155), (@PySem.Obj.mk (@PySem.Value.type "code") none (@Data.fields (List.toArray [(@PySem.Value.str (q "__init__") 390), (@PySem.Value.str (q "Signs.__init__") 391), (@PySem.Value.str (q "/claim/cut.py") 392), (@PySem.Value.int (70 : Int) 0), (@PySem.Value.int (4 : Int) 0), (@PySem.Value.int (0 : Int) 0), (@PySem.Value.int (0 : Int) 0), (@PySem.Value.int (3 : Int) 0), (@PySem.Value.ref 150), (@PySem.Value.bool @Bool.true), (@PySem.Value.int (181 : Int) 0), (@PySem.Value.ref 151), @PySem.Value.none, (@PySem.Value.ref 152), (@PySem.Value.ref 153), (@PySem.Value.ref 154), (@PySem.Value.int (397 : Int) 0), (@PySem.Value.int (70 : Int) 0), (@PySem.Value.str (q "/claim/cut.py") 398)])) (List.toArray []))) ::
  ((nat_lit 156), (@PySem.Obj.mk (@PySem.Value.type "function") none (@Data.func f14) (List.toArray []))) ::
  ((nat_lit 157), (@PySem.Obj.mk (@PySem.Value.type "tuple") none (@Data.seq (List.toArray [(@PySem.Value.str (q "after") 400), (@PySem.Value.str (q "reach") 401), (@PySem.Value.str (q "rows") 402)]) 0) (List.toArray []))) ::
  ((nat_lit 158), (@PySem.Obj.mk (@PySem.Value.type "dict") none (@Data.dict (List.toArray [(@PySem.DictEntry.mk (@PySem.PyData.keyHash P (q "__module__")) (@PySem.Value.str (q "__module__") 385) (@PySem.Value.str (q "emacs.signs") 376)), (@PySem.DictEntry.mk (@PySem.PyData.keyHash P (q "__firstlineno__")) (@PySem.Value.str (q "__firstlineno__") 389) (@PySem.Value.int (68 : Int) 388)), (@PySem.DictEntry.mk (@PySem.PyData.keyHash P (q "__init__")) (@PySem.Value.str (q "__init__") 399) (@PySem.Value.ref 156)), (@PySem.DictEntry.mk (@PySem.PyData.keyHash P (q "__static_attributes__")) (@PySem.Value.str (q "__static_attributes__") 403) (@PySem.Value.ref 157)), (@PySem.DictEntry.mk (@PySem.PyData.keyHash P (q "__dict__")) (@PySem.Value.str (q "__dict__") 405) (@PySem.Value.ref 160)), (@PySem.DictEntry.mk (@PySem.PyData.keyHash P (q "__weakref__")) (@PySem.Value.str (q "__weakref__") 407) (@PySem.Value.ref 161)), (@PySem.DictEntry.mk (@PySem.PyData.keyHash P (q "__doc__")) (@PySem.Value.str (q "__doc__") 408) @PySem.Value.none)]) 4) (List.toArray []))) ::
  ((nat_lit 159), (@PySem.Obj.mk (@PySem.Value.type "type") none (@Data.cls (@PySem.ClassData.mk (q "Signs") [(@PySem.Value.type "object")] [(@PySem.Value.ref 159), (@PySem.Value.type "object")] 158 (q "Signs") @Bool.true [] [] @Bool.false none @Bool.false)) (List.toArray [none, none, (some (@PySem.Value.str (q "Signs") 378)), (some (@PySem.Value.str (q "Signs") 386)), (some (@PySem.Value.builtin "object.__new__")), (some (@PySem.Value.bool @Bool.true))]))) ::
  ((nat_lit 160), (@PySem.Obj.mk (@PySem.Value.type "getset_descriptor") none (@Data.fields (List.toArray [(@PySem.Value.str (q "__dict__") 404), (@PySem.Value.ref 159), (@PySem.Value.builtin "function.__dict__"), (@PySem.Value.builtin "function.__dict__#set")])) (List.toArray []))) ::
  ((nat_lit 161), (@PySem.Obj.mk (@PySem.Value.type "getset_descriptor") none (@Data.fields (List.toArray [(@PySem.Value.str (q "__weakref__") 406), (@PySem.Value.ref 159), (@PySem.Value.builtin "ExceptionGroup.__weakref__"), @PySem.Value.none])) (List.toArray []))) ::
  ((nat_lit 164), (@PySem.Obj.mk (@PySem.Value.type "tuple") none (@Data.seq (List.toArray []) 0) (List.toArray []))) ::
  ((nat_lit 166), (@PySem.Obj.mk (@PySem.Value.type "tuple") none (@Data.seq (List.toArray [(@PySem.Value.str (q "view") 414), (@PySem.Value.str (q "place") 415)]) 0) (List.toArray []))) ::
  ((nat_lit 167), (@PySem.Obj.mk (@PySem.Value.type "tuple") none (@Data.seq (List.toArray []) 0) (List.toArray []))) ::
  ((nat_lit 169), (@PySem.Obj.mk (@PySem.Value.type "code") none (@Data.fields (List.toArray [(@PySem.Value.str (q "is_break") 411), (@PySem.Value.str (q "is_break") 412), (@PySem.Value.str (q "/claim/cut.py") 413), (@PySem.Value.int (74 : Int) 0), (@PySem.Value.int (2 : Int) 0), (@PySem.Value.int (0 : Int) 0), (@PySem.Value.int (0 : Int) 0), (@PySem.Value.int (3 : Int) 0), (@PySem.Value.ref 164), (@PySem.Value.bool @Bool.true), (@PySem.Value.int (181 : Int) 0), (@PySem.Value.ref 165), @PySem.Value.none, (@PySem.Value.ref 166), (@PySem.Value.ref 167), (@PySem.Value.ref 168), (@PySem.Value.int (416 : Int) 0), (@PySem.Value.int (74 : Int) 0), (@PySem.Value.str (q "/claim/cut.py") 417)])) (List.toArray []))) ::
  ((nat_lit 170), (@PySem.Obj.mk (@PySem.Value.type "function") none (@Data.func f15) (List.toArray []))) ::
  ((nat_lit 171), (@PySem.Obj.mk (@PySem.Value.type "tuple") none (@Data.seq (List.toArray []) 0) (List.toArray []))) ::
  ((nat_lit 173), (@PySem.Obj.mk (@PySem.Value.type "tuple") none (@Data.seq (List.toArray [(@PySem.Value.str (q "view") 422), (@PySem.Value.str (q "place") 423)]) 0) (List.toArray []))) ::
  ((nat_lit 174), (@PySem.Obj.mk (@PySem.Value.type "tuple") none (@Data.seq (List.toArray []) 0) (List.toArray []))) ::
  ((nat_lit 176), (@PySem.Obj.mk (@PySem.Value.type "code") none (@Data.fields (List.toArray [(@PySem.Value.str (q "hidden_end") 419), (@PySem.Value.str (q "hidden_end") 420), (@PySem.Value.str (q "/claim/cut.py") 421), (@PySem.Value.int (76 : Int) 0), (@PySem.Value.int (2 : Int) 0), (@PySem.Value.int (0 : Int) 0), (@PySem.Value.int (0 : Int) 0), (@PySem.Value.int (3 : Int) 0), (@PySem.Value.ref 171), (@PySem.Value.bool @Bool.true), (@PySem.Value.int (181 : Int) 0), (@PySem.Value.ref 172), @PySem.Value.none, (@PySem.Value.ref 173), (@PySem.Value.ref 174), (@PySem.Value.ref 175), (@PySem.Value.int (424 : Int) 0), (@PySem.Value.int (76 : Int) 0), (@PySem.Value.str (q "/claim/cut.py") 425)])) (List.toArray []))) ::
  ((nat_lit 177), (@PySem.Obj.mk (@PySem.Value.type "function") none (@Data.func f16) (List.toArray []))) ::
  ((nat_lit 178), (@PySem.Obj.mk (@PySem.Value.type "tuple") none (@Data.seq (List.toArray []) 0) (List.toArray []))) ::
  ((nat_lit 181), (@PySem.Obj.mk (@PySem.Value.type "code") none (@Data.fields (List.toArray [(@PySem.Value.str (q "string_signs") 427), (@PySem.Value.str (q "string_signs") 428), (@PySem.Value.str (q "/claim/cut.py") 429), (@PySem.Value.int (80 : Int) 0), (@PySem.Value.int (3 : Int) 0), (@PySem.Value.int (0 : Int) 0), (@PySem.Value.int (0 : Int) 0), (@PySem.Value.int (3 : Int) 0), (@PySem.Value.ref 178), (@PySem.Value.bool @Bool.true), (@PySem.Value.int (181 : Int) 0), (@PySem.Value.ref 179), @PySem.Value.none, @PySem.Value.none, @PySem.Value.none, (@PySem.Value.ref 180), (@PySem.Value.int (430 : Int) 0), (@PySem.Value.int (80 : Int) 0), (@PySem.Value.str (q "/claim/cut.py") 431)])) (List.toArray []))) ::
  ((nat_lit 182), (@PySem.Obj.mk (@PySem.Value.type "function") none (@Data.func f17) (List.toArray []))) ::
  ((nat_lit 183), (@PySem.Obj.mk (@PySem.Value.type "tuple") none (@Data.seq (List.toArray []) 0) (List.toArray []))) ::
  ((nat_lit 185), (@PySem.Obj.mk (@PySem.Value.type "tuple") none (@Data.seq (List.toArray [(@PySem.Value.str (q "view") 436), (@PySem.Value.str (q "table") 437), (@PySem.Value.str (q "place") 438), (@PySem.Value.str (q "ahead") 439), (@PySem.Value.str (q "after") 440), (@PySem.Value.str (q "point") 441)]) 0) (List.toArray []))) ::
  ((nat_lit 186), (@PySem.Obj.mk (@PySem.Value.type "tuple") none (@Data.seq (List.toArray []) 0) (List.toArray []))) ::
  ((nat_lit 188), (@PySem.Obj.mk (@PySem.Value.type "code") none (@Data.fields (List.toArray [(@PySem.Value.str (q "hidden_signs") 433), (@PySem.Value.str (q "hidden_signs") 434), (@PySem.Value.str (q "/claim/cut.py") 435), (@PySem.Value.int (86 : Int) 0), (@PySem.Value.int (4 : Int) 0), (@PySem.Value.int (0 : Int) 0), (@PySem.Value.int (0 : Int) 0), (@PySem.Value.int (3 : Int) 0), (@PySem.Value.ref 183), (@PySem.Value.bool @Bool.true), (@PySem.Value.int (181 : Int) 0), (@PySem.Value.ref 184), @PySem.Value.none, (@PySem.Value.ref 185), (@PySem.Value.ref 186), (@PySem.Value.ref 187), (@PySem.Value.int (442 : Int) 0), (@PySem.Value.int (86 : Int) 0), (@PySem.Value.str (q "/claim/cut.py") 443)])) (List.toArray []))) ::
  ((nat_lit 189), (@PySem.Obj.mk (@PySem.Value.type "function") none (@Data.func f18) (List.toArray []))) ::
  ((nat_lit 190), (@PySem.Obj.mk (@PySem.Value.type "tuple") none (@Data.seq (List.toArray []) 0) (List.toArray []))) ::
  ((nat_lit 193), (@PySem.Obj.mk (@PySem.Value.type "code") none (@Data.fields (List.toArray [(@PySem.Value.str (q "signs_at") 445), (@PySem.Value.str (q "signs_at") 446), (@PySem.Value.str (q "/claim/cut.py") 447), (@PySem.Value.int (92 : Int) 0), (@PySem.Value.int (3 : Int) 0), (@PySem.Value.int (0 : Int) 0), (@PySem.Value.int (0 : Int) 0), (@PySem.Value.int (3 : Int) 0), (@PySem.Value.ref 190), (@PySem.Value.bool @Bool.true), (@PySem.Value.int (181 : Int) 0), (@PySem.Value.ref 191), @PySem.Value.none, @PySem.Value.none, @PySem.Value.none, (@PySem.Value.ref 192), (@PySem.Value.int (448 : Int) 0), (@PySem.Value.int (92 : Int) 0), (@PySem.Value.str (q "/claim/cut.py") 449)])) (List.toArray []))) ::
  ((nat_lit 194), (@PySem.Obj.mk (@PySem.Value.type "function") none (@Data.func f19) (List.toArray []))) ::
  ((nat_lit 202), (@PySem.Obj.mk (@PySem.Value.type "tuple") none (@Data.seq (List.toArray []) 0) (List.toArray []))) ::
  ((nat_lit 204), (@PySem.Obj.mk (@PySem.Value.type "tuple") none (@Data.seq (List.toArray [(@PySem.Value.str (q "self") 466), (@PySem.Value.str (q "view") 467), (@PySem.Value.str (q "table") 468), (@PySem.Value.str (q "spot") 469)]) 0) (List.toArray []))) ::
  ((nat_lit 205), (@PySem.Obj.mk (@PySem.Value.type "tuple") none (@Data.seq (List.toArray []) 0) (List.toArray []))) ::
  ((nat_lit 207), (@PySem.Obj.mk (@PySem.Value.type "code") none (@Data.fields (List.toArray [(@PySem.Value.str (q "__init__") 463), (@PySem.Value.str (q "Walk.__init__") 464), (@PySem.Value.str (q "/claim/cut.py") 465), (@PySem.Value.int (107 : Int) 0), (@PySem.Value.int (4 : Int) 0), (@PySem.Value.int (0 : Int) 0), (@PySem.Value.int (0 : Int) 0), (@PySem.Value.int (3 : Int) 0), (@PySem.Value.ref 202), (@PySem.Value.bool @Bool.true), (@PySem.Value.int (181 : Int) 0), (@PySem.Value.ref 203), @PySem.Value.none, (@PySem.Value.ref 204), (@PySem.Value.ref 205), (@PySem.Value.ref 206), (@PySem.Value.int (470 : Int) 0), (@PySem.Value.int (107 : Int) 0), (@PySem.Value.str (q "/claim/cut.py") 471)])) (List.toArray []))) ::
  ((nat_lit 208), (@PySem.Obj.mk (@PySem.Value.type "function") none (@Data.func f20) (List.toArray []))) ::
  ((nat_lit 209), (@PySem.Obj.mk (@PySem.Value.type "tuple") none (@Data.seq (List.toArray []) 0) (List.toArray []))) ::
  ((nat_lit 211), (@PySem.Obj.mk (@PySem.Value.type "tuple") none (@Data.seq (List.toArray [(@PySem.Value.str (q "self") 476)]) 0) (List.toArray []))) ::
  ((nat_lit 212), (@PySem.Obj.mk (@PySem.Value.type "tuple") none (@Data.seq (List.toArray []) 0) (List.toArray []))) ::
  ((nat_lit 214), (@PySem.Obj.mk (@PySem.Value.type "code") none (@Data.fields (List.toArray [(@PySem.Value.str (q "settle") 473), (@PySem.Value.str (q "Walk.settle") 474), (@PySem.Value.str (q "/claim/cut.py") 475), (@PySem.Value.int (114 : Int) 0), (@PySem.Value.int (1 : Int) 0), (@PySem.Value.int (0 : Int) 0), (@PySem.Value.int (0 : Int) 0), (@PySem.Value.int (3 : Int) 0), (@PySem.Value.ref 209), (@PySem.Value.bool @Bool.true), (@PySem.Value.int (181 : Int) 0), (@PySem.Value.ref 210), @PySem.Value.none, (@PySem.Value.ref 211), (@PySem.Value.ref 212), (@PySem.Value.ref 213), (@PySem.Value.int (477 : Int) 0), (@PySem.Value.int (114 : Int) 0), (@PySem.Value.str (q "/claim/cut.py") 478)])) (List.toArray []))) ::
  ((nat_lit 215), (@PySem.Obj.mk (@PySem.Value.type "function") none (@Data.func f21) (List.toArray []))) ::
  ((nat_lit 216), (@PySem.Obj.mk (@PySem.Value.type "tuple") none (@Data.seq (List.toArray []) 0) (List.toArray []))) ::
  ((nat_lit 218), (@PySem.Obj.mk (@PySem.Value.type "tuple") none (@Data.seq (List.toArray [(@PySem.Value.str (q "self") 483)]) 0) (List.toArray []))) ::
  ((nat_lit 219), (@PySem.Obj.mk (@PySem.Value.type "tuple") none (@Data.seq (List.toArray []) 0) (List.toArray []))) ::
  ((nat_lit 221), (@PySem.Obj.mk (@PySem.Value.type "code") none (@Data.fields (List.toArray [(@PySem.Value.str (q "sign") 480), (@PySem.Value.str (q "Walk.sign") 481), (@PySem.Value.str (q "/claim/cut.py") 482), (@PySem.Value.int (124 : Int) 0), (@PySem.Value.int (1 : Int) 0), (@PySem.Value.int (0 : Int) 0), (@PySem.Value.int (0 : Int) 0), (@PySem.Value.int (3 : Int) 0), (@PySem.Value.ref 216), (@PySem.Value.bool @Bool.true), (@PySem.Value.int (181 : Int) 0), (@PySem.Value.ref 217), @PySem.Value.none, (@PySem.Value.ref 218), (@PySem.Value.ref 219), (@PySem.Value.ref 220), (@PySem.Value.int (484 : Int) 0), (@PySem.Value.int (124 : Int) 0), (@PySem.Value.str (q "/claim/cut.py") 485)])) (List.toArray []))) ::
  ((nat_lit 222), (@PySem.Obj.mk (@PySem.Value.type "function") none (@Data.func f22) (List.toArray []))) ::
  ((nat_lit 223), (@PySem.Obj.mk (@PySem.Value.type "tuple") none (@Data.seq (List.toArray []) 0) (List.toArray []))) ::
  ((nat_lit 225), (@PySem.Obj.mk (@PySem.Value.type "tuple") none (@Data.seq (List.toArray [(@PySem.Value.str (q "self") 490)]) 0) (List.toArray []))) ::
  ((nat_lit 226), (@PySem.Obj.mk (@PySem.Value.type "tuple") none (@Data.seq (List.toArray []) 0) (List.toArray []))) ::
  ((nat_lit 228), (@PySem.Obj.mk (@PySem.Value.type "code") none (@Data.fields (List.toArray [(@PySem.Value.str (q "step") 487), (@PySem.Value.str (q "Walk.step") 488), (@PySem.Value.str (q "/claim/cut.py") 489), (@PySem.Value.int (127 : Int) 0), (@PySem.Value.int (1 : Int) 0), (@PySem.Value.int (0 : Int) 0), (@PySem.Value.int (0 : Int) 0), (@PySem.Value.int (3 : Int) 0), (@PySem.Value.ref 223), (@PySem.Value.bool @Bool.true), (@PySem.Value.int (181 : Int) 0), (@PySem.Value.ref 224), @PySem.Value.none, (@PySem.Value.ref 225), (@PySem.Value.ref 226), (@PySem.Value.ref 227), (@PySem.Value.int (491 : Int) 0), (@PySem.Value.int (127 : Int) 0), (@PySem.Value.str (q "/claim/cut.py") 492)])) (List.toArray []))) ::
  ((nat_lit 229), (@PySem.Obj.mk (@PySem.Value.type "function") none (@Data.func f23) (List.toArray []))) ::
  ((nat_lit 230), (@PySem.Obj.mk (@PySem.Value.type "tuple") none (@Data.seq (List.toArray []) 0) (List.toArray []))) ::
  ((nat_lit 232), (@PySem.Obj.mk (@PySem.Value.type "tuple") none (@Data.seq (List.toArray [(@PySem.Value.str (q "self") 497)]) 0) (List.toArray []))) ::
  ((nat_lit 233), (@PySem.Obj.mk (@PySem.Value.type "tuple") none (@Data.seq (List.toArray []) 0) (List.toArray []))) ::
  ((nat_lit 235), (@PySem.Obj.mk (@PySem.Value.type "code") none (@Data.fields (List.toArray [(@PySem.Value.str (q "spot") 494), (@PySem.Value.str (q "Walk.spot") 495), (@PySem.Value.str (q "/claim/cut.py") 496), (@PySem.Value.int (130 : Int) 0), (@PySem.Value.int (1 : Int) 0), (@PySem.Value.int (0 : Int) 0), (@PySem.Value.int (0 : Int) 0), (@PySem.Value.int (3 : Int) 0), (@PySem.Value.ref 230), (@PySem.Value.bool @Bool.true), (@PySem.Value.int (181 : Int) 0), (@PySem.Value.ref 231), @PySem.Value.none, (@PySem.Value.ref 232), (@PySem.Value.ref 233), (@PySem.Value.ref 234), (@PySem.Value.int (498 : Int) 0), (@PySem.Value.int (130 : Int) 0), (@PySem.Value.str (q "/claim/cut.py") 499)])) (List.toArray []))) ::
  ((nat_lit 236), (@PySem.Obj.mk (@PySem.Value.type "function") none (@Data.func f24) (List.toArray []))) ::
  ((nat_lit 237), (@PySem.Obj.mk (@PySem.Value.type "tuple") none (@Data.seq (List.toArray [(@PySem.Value.str (q "here") 501), (@PySem.Value.str (q "number") 502), (@PySem.Value.str (q "place") 503), (@PySem.Value.str (q "reach") 504), (@PySem.Value.str (q "table") 505), (@PySem.Value.str (q "view") 506)]) 0) (List.toArray []))) ::
  ((nat_lit 238), (@PySem.Obj.mk (@PySem.Value.type "dict") none (@Data.dict (List.toArray [(@PySem.DictEntry.mk (@PySem.PyData.keyHash P (q "__module__")) (@PySem.Value.str (q "__module__") 458) (@PySem.Value.str (q "emacs.signs") 376)), (@PySem.DictEntry.mk (@PySem.PyData.keyHash P (q "__firstlineno__")) (@PySem.Value.str (q "__firstlineno__") 462) (@PySem.Value.int (105 : Int) 461)), (@PySem.DictEntry.mk (@PySem.PyData.keyHash P (q "__init__")) (@PySem.Value.str (q "__init__") 472) (@PySem.Value.ref 208)), (@PySem.DictEntry.mk (@PySem.PyData.keyHash P (q "settle")) (@PySem.Value.str (q "settle") 479) (@PySem.Value.ref 215)), (@PySem.DictEntry.mk (@PySem.PyData.keyHash P (q "sign")) (@PySem.Value.str (q "sign") 486) (@PySem.Value.ref 222)), (@PySem.DictEntry.mk (@PySem.PyData.keyHash P (q "step")) (@PySem.Value.str (q "step") 493) (@PySem.Value.ref 229)), (@PySem.DictEntry.mk (@PySem.PyData.keyHash P (q "spot")) (@PySem.Value.str (q "spot") 500) (@PySem.Value.ref 236)), (@PySem.DictEntry.mk (@PySem.PyData.keyHash P (q "__static_attributes__")) (@PySem.Value.str (q "__static_attributes__") 507) (@PySem.Value.ref 237)), (@PySem.DictEntry.mk (@PySem.PyData.keyHash P (q "__dict__")) (@PySem.Value.str (q "__dict__") 509) (@PySem.Value.ref 240)), (@PySem.DictEntry.mk (@PySem.PyData.keyHash P (q "__weakref__")) (@PySem.Value.str (q "__weakref__") 511) (@PySem.Value.ref 241)), (@PySem.DictEntry.mk (@PySem.PyData.keyHash P (q "__doc__")) (@PySem.Value.str (q "__doc__") 512) @PySem.Value.none)]) 4) (List.toArray []))) ::
  ((nat_lit 239), (@PySem.Obj.mk (@PySem.Value.type "type") none (@Data.cls (@PySem.ClassData.mk (q "Walk") [(@PySem.Value.type "object")] [(@PySem.Value.ref 239), (@PySem.Value.type "object")] 238 (q "Walk") @Bool.true [] [] @Bool.false none @Bool.false)) (List.toArray [none, none, (some (@PySem.Value.str (q "Walk") 451)), (some (@PySem.Value.str (q "Walk") 459)), (some (@PySem.Value.builtin "object.__new__")), (some (@PySem.Value.bool @Bool.true))]))) ::
  ((nat_lit 240), (@PySem.Obj.mk (@PySem.Value.type "getset_descriptor") none (@Data.fields (List.toArray [(@PySem.Value.str (q "__dict__") 508), (@PySem.Value.ref 239), (@PySem.Value.builtin "function.__dict__"), (@PySem.Value.builtin "function.__dict__#set")])) (List.toArray []))) ::
  ((nat_lit 241), (@PySem.Obj.mk (@PySem.Value.type "getset_descriptor") none (@Data.fields (List.toArray [(@PySem.Value.str (q "__weakref__") 510), (@PySem.Value.ref 239), (@PySem.Value.builtin "ExceptionGroup.__weakref__"), @PySem.Value.none])) (List.toArray []))) ::
  ((nat_lit 251), (@PySem.Obj.mk (@PySem.Value.type "tuple") none (@Data.seq (List.toArray []) 0) (List.toArray []))) ::
  ((nat_lit 253), (@PySem.Obj.mk (@PySem.Value.type "tuple") none (@Data.seq (List.toArray [(@PySem.Value.str (q "self") 532), (@PySem.Value.str (q "start") 533), (@PySem.Value.str (q "column") 534)]) 0) (List.toArray []))) ::
  ((nat_lit 254), (@PySem.Obj.mk (@PySem.Value.type "tuple") none (@Data.seq (List.toArray []) 0) (List.toArray []))) ::
  ((nat_lit 256), (@PySem.Obj.mk (@PySem.Value.type "code") none (@Data.fields (List.toArray [(@PySem.Value.str (q "__init__") 529), (@PySem.Value.str (q "Row.__init__") 530), (@PySem.Value.str (q "/claim/cut.py") 531), (@PySem.Value.int (136 : Int) 0), (@PySem.Value.int (3 : Int) 0), (@PySem.Value.int (0 : Int) 0), (@PySem.Value.int (0 : Int) 0), (@PySem.Value.int (3 : Int) 0), (@PySem.Value.ref 251), (@PySem.Value.bool @Bool.true), (@PySem.Value.int (181 : Int) 0), (@PySem.Value.ref 252), @PySem.Value.none, (@PySem.Value.ref 253), (@PySem.Value.ref 254), (@PySem.Value.ref 255), (@PySem.Value.int (535 : Int) 0), (@PySem.Value.int (136 : Int) 0), (@PySem.Value.str (q "/claim/cut.py") 536)])) (List.toArray []))) ::
  ((nat_lit 257), (@PySem.Obj.mk (@PySem.Value.type "function") none (@Data.func f25) (List.toArray []))) ::
  ((nat_lit 258), (@PySem.Obj.mk (@PySem.Value.type "tuple") none (@Data.seq (List.toArray []) 0) (List.toArray []))) ::
  ((nat_lit 260), (@PySem.Obj.mk (@PySem.Value.type "tuple") none (@Data.seq (List.toArray [(@PySem.Value.str (q "self") 541), (@PySem.Value.str (q "walk") 542), (@PySem.Value.str (q "column") 543)]) 0) (List.toArray []))) ::
  ((nat_lit 261), (@PySem.Obj.mk (@PySem.Value.type "tuple") none (@Data.seq (List.toArray []) 0) (List.toArray []))) ::
  ((nat_lit 263), (@PySem.Obj.mk (@PySem.Value.type "code") none (@Data.fields (List.toArray [(@PySem.Value.str (q "stop") 538), (@PySem.Value.str (q "Row.stop") 539), (@PySem.Value.str (q "/claim/cut.py") 540), (@PySem.Value.int (148 : Int) 0), (@PySem.Value.int (3 : Int) 0), (@PySem.Value.int (0 : Int) 0), (@PySem.Value.int (0 : Int) 0), (@PySem.Value.int (3 : Int) 0), (@PySem.Value.ref 258), (@PySem.Value.bool @Bool.true), (@PySem.Value.int (181 : Int) 0), (@PySem.Value.ref 259), @PySem.Value.none, (@PySem.Value.ref 260), (@PySem.Value.ref 261), (@PySem.Value.ref 262), (@PySem.Value.int (544 : Int) 0), (@PySem.Value.int (148 : Int) 0), (@PySem.Value.str (q "/claim/cut.py") 545)])) (List.toArray []))) ::
  ((nat_lit 264), (@PySem.Obj.mk (@PySem.Value.type "function") none (@Data.func f26) (List.toArray []))) ::
  ((nat_lit 265), (@PySem.Obj.mk (@PySem.Value.type "tuple") none (@Data.seq (List.toArray []) 0) (List.toArray []))) ::
  ((nat_lit 267), (@PySem.Obj.mk (@PySem.Value.type "tuple") none (@Data.seq (List.toArray [(@PySem.Value.str (q "self") 550), (@PySem.Value.str (q "many") 551), (@PySem.Value.str (q "spot") 552), (@PySem.Value.str (q "column") 553)]) 0) (List.toArray []))) ::
  ((nat_lit 268), (@PySem.Obj.mk (@PySem.Value.type "tuple") none (@Data.seq (List.toArray []) 0) (List.toArray []))) ::
  ((nat_lit 270), (@PySem.Obj.mk (@PySem.Value.type "code") none (@Data.fields (List.toArray [(@PySem.Value.str (q "cut_back") 547), (@PySem.Value.str (q "Row.cut_back") 548), (@PySem.Value.str (q "/claim/cut.py") 549), (@PySem.Value.int (153 : Int) 0), (@PySem.Value.int (4 : Int) 0), (@PySem.Value.int (0 : Int) 0), (@PySem.Value.int (0 : Int) 0), (@PySem.Value.int (3 : Int) 0), (@PySem.Value.ref 265), (@PySem.Value.bool @Bool.true), (@PySem.Value.int (181 : Int) 0), (@PySem.Value.ref 266), @PySem.Value.none, (@PySem.Value.ref 267), (@PySem.Value.ref 268), (@PySem.Value.ref 269), (@PySem.Value.int (554 : Int) 0), (@PySem.Value.int (153 : Int) 0), (@PySem.Value.str (q "/claim/cut.py") 555)])) (List.toArray []))) ::
  ((nat_lit 271), (@PySem.Obj.mk (@PySem.Value.type "function") none (@Data.func f27) (List.toArray []))) ::
  ((nat_lit 272), (@PySem.Obj.mk (@PySem.Value.type "tuple") none (@Data.seq (List.toArray [(@PySem.Value.str (q "column") 557), (@PySem.Value.str (q "end") 558), (@PySem.Value.str (q "glyphs") 559), (@PySem.Value.str (q "is_break") 560), (@PySem.Value.str (q "is_end") 561), (@PySem.Value.str (q "is_line_end") 562), (@PySem.Value.str (q "mark") 563), (@PySem.Value.str (q "next_column") 564), (@PySem.Value.str (q "reach") 565), (@PySem.Value.str (q "start") 566)]) 0) (List.toArray []))) ::
  ((nat_lit 273), (@PySem.Obj.mk (@PySem.Value.type "dict") none (@Data.dict (List.toArray [(@PySem.DictEntry.mk (@PySem.PyData.keyHash P (q "__module__")) (@PySem.Value.str (q "__module__") 524) (@PySem.Value.str (q "emacs.rows") 515)), (@PySem.DictEntry.mk (@PySem.PyData.keyHash P (q "__firstlineno__")) (@PySem.Value.str (q "__firstlineno__") 528) (@PySem.Value.int (134 : Int) 527)), (@PySem.DictEntry.mk (@PySem.PyData.keyHash P (q "__init__")) (@PySem.Value.str (q "__init__") 537) (@PySem.Value.ref 257)), (@PySem.DictEntry.mk (@PySem.PyData.keyHash P (q "stop")) (@PySem.Value.str (q "stop") 546) (@PySem.Value.ref 264)), (@PySem.DictEntry.mk (@PySem.PyData.keyHash P (q "cut_back")) (@PySem.Value.str (q "cut_back") 556) (@PySem.Value.ref 271)), (@PySem.DictEntry.mk (@PySem.PyData.keyHash P (q "__static_attributes__")) (@PySem.Value.str (q "__static_attributes__") 567) (@PySem.Value.ref 272)), (@PySem.DictEntry.mk (@PySem.PyData.keyHash P (q "__dict__")) (@PySem.Value.str (q "__dict__") 569) (@PySem.Value.ref 275)), (@PySem.DictEntry.mk (@PySem.PyData.keyHash P (q "__weakref__")) (@PySem.Value.str (q "__weakref__") 571) (@PySem.Value.ref 276)), (@PySem.DictEntry.mk (@PySem.PyData.keyHash P (q "__doc__")) (@PySem.Value.str (q "__doc__") 572) @PySem.Value.none)]) 4) (List.toArray []))) ::
  ((nat_lit 274), (@PySem.Obj.mk (@PySem.Value.type "type") none (@Data.cls (@PySem.ClassData.mk (q "Row") [(@PySem.Value.type "object")] [(@PySem.Value.ref 274), (@PySem.Value.type "object")] 273 (q "Row") @Bool.true [] [] @Bool.false none @Bool.false)) (List.toArray [none, none, (some (@PySem.Value.str (q "Row") 517)), (some (@PySem.Value.str (q "Row") 525)), (some (@PySem.Value.builtin "object.__new__")), (some (@PySem.Value.bool @Bool.true))]))) ::
  ((nat_lit 275), (@PySem.Obj.mk (@PySem.Value.type "getset_descriptor") none (@Data.fields (List.toArray [(@PySem.Value.str (q "__dict__") 568), (@PySem.Value.ref 274), (@PySem.Value.builtin "function.__dict__"), (@PySem.Value.builtin "function.__dict__#set")])) (List.toArray []))) ::
  ((nat_lit 276), (@PySem.Obj.mk (@PySem.Value.type "getset_descriptor") none (@Data.fields (List.toArray [(@PySem.Value.str (q "__weakref__") 570), (@PySem.Value.ref 274), (@PySem.Value.builtin "ExceptionGroup.__weakref__"), @PySem.Value.none])) (List.toArray []))) ::
  ((nat_lit 279), (@PySem.Obj.mk (@PySem.Value.type "tuple") none (@Data.seq (List.toArray []) 0) (List.toArray []))) ::
  ((nat_lit 281), (@PySem.Obj.mk (@PySem.Value.type "tuple") none (@Data.seq (List.toArray [(@PySem.Value.str (q "row") 578), (@PySem.Value.str (q "sign") 579), (@PySem.Value.str (q "codes") 580), (@PySem.Value.str (q "code") 581)]) 0) (List.toArray []))) ::
  ((nat_lit 282), (@PySem.Obj.mk (@PySem.Value.type "tuple") none (@Data.seq (List.toArray []) 0) (List.toArray []))) ::
  ((nat_lit 284), (@PySem.Obj.mk (@PySem.Value.type "code") none (@Data.fields (List.toArray [(@PySem.Value.str (q "put_sign") 575), (@PySem.Value.str (q "put_sign") 576), (@PySem.Value.str (q "/claim/cut.py") 577), (@PySem.Value.int (157 : Int) 0), (@PySem.Value.int (3 : Int) 0), (@PySem.Value.int (0 : Int) 0), (@PySem.Value.int (0 : Int) 0), (@PySem.Value.int (3 : Int) 0), (@PySem.Value.ref 279), (@PySem.Value.bool @Bool.true), (@PySem.Value.int (181 : Int) 0), (@PySem.Value.ref 280), @PySem.Value.none, (@PySem.Value.ref 281), (@PySem.Value.ref 282), (@PySem.Value.ref 283), (@PySem.Value.int (582 : Int) 0), (@PySem.Value.int (157 : Int) 0), (@PySem.Value.str (q "/claim/cut.py") 583)])) (List.toArray []))) ::
  ((nat_lit 285), (@PySem.Obj.mk (@PySem.Value.type "function") none (@Data.func f28) (List.toArray []))) ::
  ((nat_lit 286), (@PySem.Obj.mk (@PySem.Value.type "tuple") none (@Data.seq (List.toArray []) 0) (List.toArray []))) ::
  ((nat_lit 288), (@PySem.Obj.mk (@PySem.Value.type "tuple") none (@Data.seq (List.toArray [(@PySem.Value.str (q "row") 588), (@PySem.Value.str (q "walk") 589), (@PySem.Value.str (q "sign") 590), (@PySem.Value.str (q "column") 591)]) 0) (List.toArray []))) ::
  ((nat_lit 289), (@PySem.Obj.mk (@PySem.Value.type "tuple") none (@Data.seq (List.toArray []) 0) (List.toArray []))) ::
  ((nat_lit 291), (@PySem.Obj.mk (@PySem.Value.type "code") none (@Data.fields (List.toArray [(@PySem.Value.str (q "end_of_line") 585), (@PySem.Value.str (q "end_of_line") 586), (@PySem.Value.str (q "/claim/cut.py") 587), (@PySem.Value.int (160 : Int) 0), (@PySem.Value.int (4 : Int) 0), (@PySem.Value.int (0 : Int) 0), (@PySem.Value.int (0 : Int) 0), (@PySem.Value.int (3 : Int) 0), (@PySem.Value.ref 286), (@PySem.Value.bool @Bool.true), (@PySem.Value.int (181 : Int) 0), (@PySem.Value.ref 287), @PySem.Value.none, (@PySem.Value.ref 288), (@PySem.Value.ref 289), (@PySem.Value.ref 290), (@PySem.Value.int (592 : Int) 0), (@PySem.Value.int (160 : Int) 0), (@PySem.Value.str (q "/claim/cut.py") 593)])) (List.toArray []))) ::
  ((nat_lit 292), (@PySem.Obj.mk (@PySem.Value.type "function") none (@Data.func f29) (List.toArray []))) ::
  ((nat_lit 293), (@PySem.Obj.mk (@PySem.Value.type "tuple") none (@Data.seq (List.toArray []) 0) (List.toArray []))) ::
  ((nat_lit 295), (@PySem.Obj.mk (@PySem.Value.type "tuple") none (@Data.seq (List.toArray [(@PySem.Value.str (q "row") 598), (@PySem.Value.str (q "walk") 599), (@PySem.Value.str (q "sign") 600), (@PySem.Value.str (q "codes") 601), (@PySem.Value.str (q "column") 602), (@PySem.Value.str (q "room") 603), (@PySem.Value.str (q "last_break") 604), (@PySem.Value.str (q "used") 605)]) 0) (List.toArray []))) ::
  ((nat_lit 296), (@PySem.Obj.mk (@PySem.Value.type "tuple") none (@Data.seq (List.toArray []) 0) (List.toArray []))) ::
  ((nat_lit 298), (@PySem.Obj.mk (@PySem.Value.type "code") none (@Data.fields (List.toArray [(@PySem.Value.str (q "overflow") 595), (@PySem.Value.str (q "overflow") 596), (@PySem.Value.str (q "/claim/cut.py") 597), (@PySem.Value.int (169 : Int) 0), (@PySem.Value.int (7 : Int) 0), (@PySem.Value.int (0 : Int) 0), (@PySem.Value.int (0 : Int) 0), (@PySem.Value.int (3 : Int) 0), (@PySem.Value.ref 293), (@PySem.Value.bool @Bool.true), (@PySem.Value.int (181 : Int) 0), (@PySem.Value.ref 294), @PySem.Value.none, (@PySem.Value.ref 295), (@PySem.Value.ref 296), (@PySem.Value.ref 297), (@PySem.Value.int (606 : Int) 0), (@PySem.Value.int (169 : Int) 0), (@PySem.Value.str (q "/claim/cut.py") 607)])) (List.toArray []))) ::
  ((nat_lit 299), (@PySem.Obj.mk (@PySem.Value.type "function") none (@Data.func f30) (List.toArray []))) ::
  ((nat_lit 300), (@PySem.Obj.mk (@PySem.Value.type "tuple") none (@Data.seq (List.toArray []) 0) (List.toArray []))) ::
  ((nat_lit 302), (@PySem.Obj.mk (@PySem.Value.type "tuple") none (@Data.seq (List.toArray [(@PySem.Value.str (q "view") 612), (@PySem.Value.str (q "table") 613), (@PySem.Value.str (q "spot") 614), (@PySem.Value.str (q "column") 615), (@PySem.Value.str (q "width") 616), (@PySem.Value.str (q "options") 617), (@PySem.Value.str (q "walk") 618), (@PySem.Value.str (q "room") 619), (@PySem.Value.str (q "last_break") 620), (@PySem.Value.str (q "row") 621), (@PySem.Value.str (q "sign") 622), (@PySem.Value.str (q "codes") 623)]) 0) (List.toArray []))) ::
  ((nat_lit 303), (@PySem.Obj.mk (@PySem.Value.type "tuple") none (@Data.seq (List.toArray []) 0) (List.toArray []))) ::
  ((nat_lit 305), (@PySem.Obj.mk (@PySem.Value.type "code") none (@Data.fields (List.toArray [(@PySem.Value.str (q "folded_row") 609), (@PySem.Value.str (q "folded_row") 610), (@PySem.Value.str (q "/claim/cut.py") 611), (@PySem.Value.int (179 : Int) 0), (@PySem.Value.int (6 : Int) 0), (@PySem.Value.int (0 : Int) 0), (@PySem.Value.int (0 : Int) 0), (@PySem.Value.int (3 : Int) 0), (@PySem.Value.ref 300), (@PySem.Value.bool @Bool.true), (@PySem.Value.int (181 : Int) 0), (@PySem.Value.ref 301), @PySem.Value.none, (@PySem.Value.ref 302), (@PySem.Value.ref 303), (@PySem.Value.ref 304), (@PySem.Value.int (624 : Int) 0), (@PySem.Value.int (179 : Int) 0), (@PySem.Value.str (q "/claim/cut.py") 625)])) (List.toArray []))) ::
  ((nat_lit 306), (@PySem.Obj.mk (@PySem.Value.type "function") none (@Data.func f31) (List.toArray []))) ::
  ((nat_lit 307), (@PySem.Obj.mk (@PySem.Value.type "tuple") none (@Data.seq (List.toArray []) 0) (List.toArray []))) ::
  ((nat_lit 309), (@PySem.Obj.mk (@PySem.Value.type "tuple") none (@Data.seq (List.toArray [(@PySem.Value.str (q "view") 630), (@PySem.Value.str (q "table") 631), (@PySem.Value.str (q "spot") 632), (@PySem.Value.str (q "width") 633), (@PySem.Value.str (q "options") 634), (@PySem.Value.str (q "walk") 635), (@PySem.Value.str (q "column") 636), (@PySem.Value.str (q "left") 637), (@PySem.Value.str (q "row") 638), (@PySem.Value.str (q "right") 639), (@PySem.Value.str (q "sign") 640), (@PySem.Value.str (q "codes") 641)]) 0) (List.toArray []))) ::
  ((nat_lit 310), (@PySem.Obj.mk (@PySem.Value.type "tuple") none (@Data.seq (List.toArray []) 0) (List.toArray []))) ::
  ((nat_lit 312), (@PySem.Obj.mk (@PySem.Value.type "code") none (@Data.fields (List.toArray [(@PySem.Value.str (q "cut_row") 627), (@PySem.Value.str (q "cut_row") 628), (@PySem.Value.str (q "/claim/cut.py") 629), (@PySem.Value.int (197 : Int) 0), (@PySem.Value.int (5 : Int) 0), (@PySem.Value.int (0 : Int) 0), (@PySem.Value.int (0 : Int) 0), (@PySem.Value.int (3 : Int) 0), (@PySem.Value.ref 307), (@PySem.Value.bool @Bool.true), (@PySem.Value.int (181 : Int) 0), (@PySem.Value.ref 308), @PySem.Value.none, (@PySem.Value.ref 309), (@PySem.Value.ref 310), (@PySem.Value.ref 311), (@PySem.Value.int (642 : Int) 0), (@PySem.Value.int (197 : Int) 0), (@PySem.Value.str (q "/claim/cut.py") 643)])) (List.toArray []))) ::
  ((nat_lit 313), (@PySem.Obj.mk (@PySem.Value.type "function") none (@Data.func f32) (List.toArray []))) ::
  ((nat_lit 314), (@PySem.Obj.mk (@PySem.Value.type "tuple") none (@Data.seq (List.toArray []) 0) (List.toArray []))) ::
  ((nat_lit 316), (@PySem.Obj.mk (@PySem.Value.type "tuple") none (@Data.seq (List.toArray [(@PySem.Value.str (q "view") 648), (@PySem.Value.str (q "table") 649), (@PySem.Value.str (q "spot") 650), (@PySem.Value.str (q "column") 651), (@PySem.Value.str (q "width") 652), (@PySem.Value.str (q "options") 653)]) 0) (List.toArray []))) ::
  ((nat_lit 317), (@PySem.Obj.mk (@PySem.Value.type "tuple") none (@Data.seq (List.toArray []) 0) (List.toArray []))) ::
  ((nat_lit 319), (@PySem.Obj.mk (@PySem.Value.type "code") none (@Data.fields (List.toArray [(@PySem.Value.str (q "laid_row") 645), (@PySem.Value.str (q "laid_row") 646), (@PySem.Value.str (q "/claim/cut.py") 647), (@PySem.Value.int (213 : Int) 0), (@PySem.Value.int (6 : Int) 0), (@PySem.Value.int (0 : Int) 0), (@PySem.Value.int (0 : Int) 0), (@PySem.Value.int (3 : Int) 0), (@PySem.Value.ref 314), (@PySem.Value.bool @Bool.true), (@PySem.Value.int (181 : Int) 0), (@PySem.Value.ref 315), @PySem.Value.none, (@PySem.Value.ref 316), (@PySem.Value.ref 317), (@PySem.Value.ref 318), (@PySem.Value.int (654 : Int) 0), (@PySem.Value.int (213 : Int) 0), (@PySem.Value.str (q "/claim/cut.py") 655)])) (List.toArray []))) ::
  ((nat_lit 320), (@PySem.Obj.mk (@PySem.Value.type "function") none (@Data.func f33) (List.toArray []))) ::
  ((nat_lit 328), (@PySem.Obj.mk (@PySem.Value.type "tuple") none (@Data.seq (List.toArray []) 0) (List.toArray []))) ::
  ((nat_lit 330), (@PySem.Obj.mk (@PySem.Value.type "tuple") none (@Data.seq (List.toArray [(@PySem.Value.str (q "self") 674), (@PySem.Value.str (q "end") 675)]) 0) (List.toArray []))) ::
  ((nat_lit 331), (@PySem.Obj.mk (@PySem.Value.type "tuple") none (@Data.seq (List.toArray []) 0) (List.toArray []))) ::
  ((nat_lit 333), (@PySem.Obj.mk (@PySem.Value.type "code") none (@Data.fields (List.toArray [(@PySem.Value.str (q "__init__") 671), (@PySem.Value.str (q "Changes.__init__") 672), (@PySem.Value.str (q "/claim/cut.py") 673), (@PySem.Value.int (220 : Int) 0), (@PySem.Value.int (2 : Int) 0), (@PySem.Value.int (0 : Int) 0), (@PySem.Value.int (0 : Int) 0), (@PySem.Value.int (3 : Int) 0), (@PySem.Value.ref 328), (@PySem.Value.bool @Bool.true), (@PySem.Value.int (181 : Int) 0), (@PySem.Value.ref 329), @PySem.Value.none, (@PySem.Value.ref 330), (@PySem.Value.ref 331), (@PySem.Value.ref 332), (@PySem.Value.int (676 : Int) 0), (@PySem.Value.int (220 : Int) 0), (@PySem.Value.str (q "/claim/cut.py") 677)])) (List.toArray []))) ::
  ((nat_lit 334), (@PySem.Obj.mk (@PySem.Value.type "function") none (@Data.func f34) (List.toArray []))) ::
  ((nat_lit 335), (@PySem.Obj.mk (@PySem.Value.type "tuple") none (@Data.seq (List.toArray []) 0) (List.toArray []))) ::
  ((nat_lit 337), (@PySem.Obj.mk (@PySem.Value.type "tuple") none (@Data.seq (List.toArray [(@PySem.Value.str (q "self") 682), (@PySem.Value.str (q "start") 683), (@PySem.Value.str (q "old_end") 684), (@PySem.Value.str (q "new_end") 685), (@PySem.Value.str (q "now") 686), (@PySem.Value.str (q "tail") 687)]) 0) (List.toArray []))) ::
  ((nat_lit 338), (@PySem.Obj.mk (@PySem.Value.type "tuple") none (@Data.seq (List.toArray []) 0) (List.toArray []))) ::
  ((nat_lit 340), (@PySem.Obj.mk (@PySem.Value.type "code") none (@Data.fields (List.toArray [(@PySem.Value.str (q "note") 679), (@PySem.Value.str (q "Changes.note") 680), (@PySem.Value.str (q "/claim/cut.py") 681), (@PySem.Value.int (226 : Int) 0), (@PySem.Value.int (4 : Int) 0), (@PySem.Value.int (0 : Int) 0), (@PySem.Value.int (0 : Int) 0), (@PySem.Value.int (3 : Int) 0), (@PySem.Value.ref 335), (@PySem.Value.bool @Bool.true), (@PySem.Value.int (181 : Int) 0), (@PySem.Value.ref 336), @PySem.Value.none, (@PySem.Value.ref 337), (@PySem.Value.ref 338), (@PySem.Value.ref 339), (@PySem.Value.int (688 : Int) 0), (@PySem.Value.int (226 : Int) 0), (@PySem.Value.str (q "/claim/cut.py") 689)])) (List.toArray []))) ::
  ((nat_lit 341), (@PySem.Obj.mk (@PySem.Value.type "function") none (@Data.func f35) (List.toArray []))) ::
  ((nat_lit 342), (@PySem.Obj.mk (@PySem.Value.type "tuple") none (@Data.seq (List.toArray []) 0) (List.toArray []))) ::
  ((nat_lit 344), (@PySem.Obj.mk (@PySem.Value.type "tuple") none (@Data.seq (List.toArray [(@PySem.Value.str (q "self") 694)]) 0) (List.toArray []))) ::
  ((nat_lit 345), (@PySem.Obj.mk (@PySem.Value.type "tuple") none (@Data.seq (List.toArray []) 0) (List.toArray []))) ::
  ((nat_lit 347), (@PySem.Obj.mk (@PySem.Value.type "code") none (@Data.fields (List.toArray [(@PySem.Value.str (q "old_tail") 691), (@PySem.Value.str (q "Changes.old_tail") 692), (@PySem.Value.str (q "/claim/cut.py") 693), (@PySem.Value.int (235 : Int) 0), (@PySem.Value.int (1 : Int) 0), (@PySem.Value.int (0 : Int) 0), (@PySem.Value.int (0 : Int) 0), (@PySem.Value.int (3 : Int) 0), (@PySem.Value.ref 342), (@PySem.Value.bool @Bool.true), (@PySem.Value.int (181 : Int) 0), (@PySem.Value.ref 343), @PySem.Value.none, (@PySem.Value.ref 344), (@PySem.Value.ref 345), (@PySem.Value.ref 346), (@PySem.Value.int (695 : Int) 0), (@PySem.Value.int (235 : Int) 0), (@PySem.Value.str (q "/claim/cut.py") 696)])) (List.toArray []))) ::
  ((nat_lit 348), (@PySem.Obj.mk (@PySem.Value.type "function") none (@Data.func f36) (List.toArray []))) ::
  ((nat_lit 349), (@PySem.Obj.mk (@PySem.Value.type "tuple") none (@Data.seq (List.toArray []) 0) (List.toArray []))) ::
  ((nat_lit 351), (@PySem.Obj.mk (@PySem.Value.type "tuple") none (@Data.seq (List.toArray [(@PySem.Value.str (q "self") 701)]) 0) (List.toArray []))) ::
  ((nat_lit 352), (@PySem.Obj.mk (@PySem.Value.type "tuple") none (@Data.seq (List.toArray []) 0) (List.toArray []))) ::
  ((nat_lit 354), (@PySem.Obj.mk (@PySem.Value.type "code") none (@Data.fields (List.toArray [(@PySem.Value.str (q "is_none") 698), (@PySem.Value.str (q "Changes.is_none") 699), (@PySem.Value.str (q "/claim/cut.py") 700), (@PySem.Value.int (238 : Int) 0), (@PySem.Value.int (1 : Int) 0), (@PySem.Value.int (0 : Int) 0), (@PySem.Value.int (0 : Int) 0), (@PySem.Value.int (3 : Int) 0), (@PySem.Value.ref 349), (@PySem.Value.bool @Bool.true), (@PySem.Value.int (181 : Int) 0), (@PySem.Value.ref 350), @PySem.Value.none, (@PySem.Value.ref 351), (@PySem.Value.ref 352), (@PySem.Value.ref 353), (@PySem.Value.int (702 : Int) 0), (@PySem.Value.int (238 : Int) 0), (@PySem.Value.str (q "/claim/cut.py") 703)])) (List.toArray []))) ::
  ((nat_lit 355), (@PySem.Obj.mk (@PySem.Value.type "function") none (@Data.func f37) (List.toArray []))) ::
  ((nat_lit 356), (@PySem.Obj.mk (@PySem.Value.type "tuple") none (@Data.seq (List.toArray [(@PySem.Value.str (q "ahead") 705), (@PySem.Value.str (q "behind") 706), (@PySem.Value.str (q "end") 707), (@PySem.Value.str (q "more") 708)]) 0) (List.toArray []))) ::
  ((nat_lit 357), (@PySem.Obj.mk (@PySem.Value.type "dict") none (@Data.dict (List.toArray [(@PySem.DictEntry.mk (@PySem.PyData.keyHash P (q "__module__")) (@PySem.Value.str (q "__module__") 666) (@PySem.Value.str (q "emacs.incremental") 657)), (@PySem.DictEntry.mk (@PySem.PyData.keyHash P (q "__firstlineno__")) (@PySem.Value.str (q "__firstlineno__") 670) (@PySem.Value.int (218 : Int) 669)), (@PySem.DictEntry.mk (@PySem.PyData.keyHash P (q "__init__")) (@PySem.Value.str (q "__init__") 678) (@PySem.Value.ref 334)), (@PySem.DictEntry.mk (@PySem.PyData.keyHash P (q "note")) (@PySem.Value.str (q "note") 690) (@PySem.Value.ref 341)), (@PySem.DictEntry.mk (@PySem.PyData.keyHash P (q "old_tail")) (@PySem.Value.str (q "old_tail") 697) (@PySem.Value.ref 348)), (@PySem.DictEntry.mk (@PySem.PyData.keyHash P (q "is_none")) (@PySem.Value.str (q "is_none") 704) (@PySem.Value.ref 355)), (@PySem.DictEntry.mk (@PySem.PyData.keyHash P (q "__static_attributes__")) (@PySem.Value.str (q "__static_attributes__") 709) (@PySem.Value.ref 356)), (@PySem.DictEntry.mk (@PySem.PyData.keyHash P (q "__dict__")) (@PySem.Value.str (q "__dict__") 711) (@PySem.Value.ref 359)), (@PySem.DictEntry.mk (@PySem.PyData.keyHash P (q "__weakref__")) (@PySem.Value.str (q "__weakref__") 713) (@PySem.Value.ref 360)), (@PySem.DictEntry.mk (@PySem.PyData.keyHash P (q "__doc__")) (@PySem.Value.str (q "__doc__") 714) @PySem.Value.none)]) 4) (List.toArray []))) ::
  ((nat_lit 358), (@PySem.Obj.mk (@PySem.Value.type "type") none (@Data.cls (@PySem.ClassData.mk (q "Changes") [(@PySem.Value.type "object")] [(@PySem.Value.ref 358), (@PySem.Value.type "object")] 357 (q "Changes") @Bool.true [] [] @Bool.false none @Bool.false)) (List.toArray [none, none, (some (@PySem.Value.str (q "Changes") 659)), (some (@PySem.Value.str (q "Changes") 667)), (some (@PySem.Value.builtin "object.__new__")), (some (@PySem.Value.bool @Bool.true))]))) ::
  ((nat_lit 359), (@PySem.Obj.mk (@PySem.Value.type "getset_descriptor") none (@Data.fields (List.toArray [(@PySem.Value.str (q "__dict__") 710), (@PySem.Value.ref 358), (@PySem.Value.builtin "function.__dict__"), (@PySem.Value.builtin "function.__dict__#set")])) (List.toArray []))) ::
  ((nat_lit 360), (@PySem.Obj.mk (@PySem.Value.type "getset_descriptor") none (@Data.fields (List.toArray [(@PySem.Value.str (q "__weakref__") 712), (@PySem.Value.ref 358), (@PySem.Value.builtin "ExceptionGroup.__weakref__"), @PySem.Value.none])) (List.toArray []))) ::
  ((nat_lit 370), (@PySem.Obj.mk (@PySem.Value.type "tuple") none (@Data.seq (List.toArray []) 0) (List.toArray []))) ::
  ((nat_lit 372), (@PySem.Obj.mk (@PySem.Value.type "tuple") none (@Data.seq (List.toArray [(@PySem.Value.str (q "self") 732), (@PySem.Value.str (q "rows") 733), (@PySem.Value.str (q "fresh") 734)]) 0) (List.toArray []))) ::
  ((nat_lit 373), (@PySem.Obj.mk (@PySem.Value.type "tuple") none (@Data.seq (List.toArray []) 0) (List.toArray []))) ::
  ((nat_lit 375), (@PySem.Obj.mk (@PySem.Value.type "code") none (@Data.fields (List.toArray [(@PySem.Value.str (q "__init__") 729), (@PySem.Value.str (q "Again.__init__") 730), (@PySem.Value.str (q "/claim/cut.py") 731), (@PySem.Value.int (242 : Int) 0), (@PySem.Value.int (3 : Int) 0), (@PySem.Value.int (0 : Int) 0), (@PySem.Value.int (0 : Int) 0), (@PySem.Value.int (3 : Int) 0), (@PySem.Value.ref 370), (@PySem.Value.bool @Bool.true), (@PySem.Value.int (181 : Int) 0), (@PySem.Value.ref 371), @PySem.Value.none, (@PySem.Value.ref 372), (@PySem.Value.ref 373), (@PySem.Value.ref 374), (@PySem.Value.int (735 : Int) 0), (@PySem.Value.int (242 : Int) 0), (@PySem.Value.str (q "/claim/cut.py") 736)])) (List.toArray []))) ::
  ((nat_lit 376), (@PySem.Obj.mk (@PySem.Value.type "function") none (@Data.func f38) (List.toArray []))) ::
  ((nat_lit 377), (@PySem.Obj.mk (@PySem.Value.type "tuple") none (@Data.seq (List.toArray [(@PySem.Value.str (q "fresh") 738), (@PySem.Value.str (q "rows") 739)]) 0) (List.toArray []))) ::
  ((nat_lit 378), (@PySem.Obj.mk (@PySem.Value.type "dict") none (@Data.dict (List.toArray [(@PySem.DictEntry.mk (@PySem.PyData.keyHash P (q "__module__")) (@PySem.Value.str (q "__module__") 724) (@PySem.Value.str (q "emacs.incremental") 657)), (@PySem.DictEntry.mk (@PySem.PyData.keyHash P (q "__firstlineno__")) (@PySem.Value.str (q "__firstlineno__") 728) (@PySem.Value.int (240 : Int) 727)), (@PySem.DictEntry.mk (@PySem.PyData.keyHash P (q "__init__")) (@PySem.Value.str (q "__init__") 737) (@PySem.Value.ref 376)), (@PySem.DictEntry.mk (@PySem.PyData.keyHash P (q "__static_attributes__")) (@PySem.Value.str (q "__static_attributes__") 740) (@PySem.Value.ref 377)), (@PySem.DictEntry.mk (@PySem.PyData.keyHash P (q "__dict__")) (@PySem.Value.str (q "__dict__") 742) (@PySem.Value.ref 380)), (@PySem.DictEntry.mk (@PySem.PyData.keyHash P (q "__weakref__")) (@PySem.Value.str (q "__weakref__") 744) (@PySem.Value.ref 381)), (@PySem.DictEntry.mk (@PySem.PyData.keyHash P (q "__doc__")) (@PySem.Value.str (q "__doc__") 745) @PySem.Value.none)]) 4) (List.toArray []))) ::
  ((nat_lit 379), (@PySem.Obj.mk (@PySem.Value.type "type") none (@Data.cls (@PySem.ClassData.mk (q "Again") [(@PySem.Value.type "object")] [(@PySem.Value.ref 379), (@PySem.Value.type "object")] 378 (q "Again") @Bool.true [] [] @Bool.false none @Bool.false)) (List.toArray [none, none, (some (@PySem.Value.str (q "Again") 717)), (some (@PySem.Value.str (q "Again") 725)), (some (@PySem.Value.builtin "object.__new__")), (some (@PySem.Value.bool @Bool.true))]))) ::
  ((nat_lit 380), (@PySem.Obj.mk (@PySem.Value.type "getset_descriptor") none (@Data.fields (List.toArray [(@PySem.Value.str (q "__dict__") 741), (@PySem.Value.ref 379), (@PySem.Value.builtin "function.__dict__"), (@PySem.Value.builtin "function.__dict__#set")])) (List.toArray []))) ::
  ((nat_lit 381), (@PySem.Obj.mk (@PySem.Value.type "getset_descriptor") none (@Data.fields (List.toArray [(@PySem.Value.str (q "__weakref__") 743), (@PySem.Value.ref 379), (@PySem.Value.builtin "ExceptionGroup.__weakref__"), @PySem.Value.none])) (List.toArray []))) ::
  ((nat_lit 384), (@PySem.Obj.mk (@PySem.Value.type "tuple") none (@Data.seq (List.toArray []) 0) (List.toArray []))) ::
  ((nat_lit 386), (@PySem.Obj.mk (@PySem.Value.type "tuple") none (@Data.seq (List.toArray [(@PySem.Value.str (q "spot") 751), (@PySem.Value.str (q "more") 752)]) 0) (List.toArray []))) ::
  ((nat_lit 387), (@PySem.Obj.mk (@PySem.Value.type "tuple") none (@Data.seq (List.toArray []) 0) (List.toArray []))) ::
  ((nat_lit 389), (@PySem.Obj.mk (@PySem.Value.type "code") none (@Data.fields (List.toArray [(@PySem.Value.str (q "moved_spot") 748), (@PySem.Value.str (q "moved_spot") 749), (@PySem.Value.str (q "/claim/cut.py") 750), (@PySem.Value.int (245 : Int) 0), (@PySem.Value.int (2 : Int) 0), (@PySem.Value.int (0 : Int) 0), (@PySem.Value.int (0 : Int) 0), (@PySem.Value.int (3 : Int) 0), (@PySem.Value.ref 384), (@PySem.Value.bool @Bool.true), (@PySem.Value.int (181 : Int) 0), (@PySem.Value.ref 385), @PySem.Value.none, (@PySem.Value.ref 386), (@PySem.Value.ref 387), (@PySem.Value.ref 388), (@PySem.Value.int (753 : Int) 0), (@PySem.Value.int (245 : Int) 0), (@PySem.Value.str (q "/claim/cut.py") 754)])) (List.toArray []))) ::
  ((nat_lit 390), (@PySem.Obj.mk (@PySem.Value.type "function") none (@Data.func f39) (List.toArray []))) ::
  ((nat_lit 391), (@PySem.Obj.mk (@PySem.Value.type "tuple") none (@Data.seq (List.toArray []) 0) (List.toArray []))) ::
  ((nat_lit 394), (@PySem.Obj.mk (@PySem.Value.type "code") none (@Data.fields (List.toArray [(@PySem.Value.str (q "moved_row") 756), (@PySem.Value.str (q "moved_row") 757), (@PySem.Value.str (q "/claim/cut.py") 758), (@PySem.Value.int (247 : Int) 0), (@PySem.Value.int (2 : Int) 0), (@PySem.Value.int (0 : Int) 0), (@PySem.Value.int (0 : Int) 0), (@PySem.Value.int (3 : Int) 0), (@PySem.Value.ref 391), (@PySem.Value.bool @Bool.true), (@PySem.Value.int (181 : Int) 0), (@PySem.Value.ref 392), @PySem.Value.none, @PySem.Value.none, @PySem.Value.none, (@PySem.Value.ref 393), (@PySem.Value.int (759 : Int) 0), (@PySem.Value.int (247 : Int) 0), (@PySem.Value.str (q "/claim/cut.py") 760)])) (List.toArray []))) ::
  ((nat_lit 395), (@PySem.Obj.mk (@PySem.Value.type "function") none (@Data.func f40) (List.toArray []))) ::
  ((nat_lit 396), (@PySem.Obj.mk (@PySem.Value.type "tuple") none (@Data.seq (List.toArray []) 0) (List.toArray []))) ::
  ((nat_lit 398), (@PySem.Obj.mk (@PySem.Value.type "tuple") none (@Data.seq (List.toArray [(@PySem.Value.str (q "rows") 765), (@PySem.Value.str (q "changes") 766), (@PySem.Value.str (q "spot") 767), (@PySem.Value.str (q "column") 768), (@PySem.Value.str (q "count") 769)]) 0) (List.toArray []))) ::
  ((nat_lit 399), (@PySem.Obj.mk (@PySem.Value.type "tuple") none (@Data.seq (List.toArray []) 0) (List.toArray []))) ::
  ((nat_lit 401), (@PySem.Obj.mk (@PySem.Value.type "code") none (@Data.fields (List.toArray [(@PySem.Value.str (q "kept_count") 762), (@PySem.Value.str (q "kept_count") 763), (@PySem.Value.str (q "/claim/cut.py") 764), (@PySem.Value.int (258 : Int) 0), (@PySem.Value.int (4 : Int) 0), (@PySem.Value.int (0 : Int) 0), (@PySem.Value.int (0 : Int) 0), (@PySem.Value.int (3 : Int) 0), (@PySem.Value.ref 396), (@PySem.Value.bool @Bool.true), (@PySem.Value.int (181 : Int) 0), (@PySem.Value.ref 397), @PySem.Value.none, (@PySem.Value.ref 398), (@PySem.Value.ref 399), (@PySem.Value.ref 400), (@PySem.Value.int (770 : Int) 0), (@PySem.Value.int (258 : Int) 0), (@PySem.Value.str (q "/claim/cut.py") 771)])) (List.toArray []))) ::
  ((nat_lit 402), (@PySem.Obj.mk (@PySem.Value.type "function") none (@Data.func f41) (List.toArray []))) ::
  ((nat_lit 403), (@PySem.Obj.mk (@PySem.Value.type "tuple") none (@Data.seq (List.toArray []) 0) (List.toArray []))) ::
  ((nat_lit 405), (@PySem.Obj.mk (@PySem.Value.type "tuple") none (@Data.seq (List.toArray [(@PySem.Value.str (q "rows") 776), (@PySem.Value.str (q "changes") 777), (@PySem.Value.str (q "found") 778), (@PySem.Value.str (q "number") 779), (@PySem.Value.str (q "row") 780), (@PySem.Value.str (q "place") 781), (@PySem.Value.str (q "sign") 782)]) 0) (List.toArray []))) ::
  ((nat_lit 406), (@PySem.Obj.mk (@PySem.Value.type "tuple") none (@Data.seq (List.toArray []) 0) (List.toArray []))) ::
  ((nat_lit 408), (@PySem.Obj.mk (@PySem.Value.type "code") none (@Data.fields (List.toArray [(@PySem.Value.str (q "tail_starts") 773), (@PySem.Value.str (q "tail_starts") 774), (@PySem.Value.str (q "/claim/cut.py") 775), (@PySem.Value.int (267 : Int) 0), (@PySem.Value.int (2 : Int) 0), (@PySem.Value.int (0 : Int) 0), (@PySem.Value.int (0 : Int) 0), (@PySem.Value.int (3 : Int) 0), (@PySem.Value.ref 403), (@PySem.Value.bool @Bool.true), (@PySem.Value.int (181 : Int) 0), (@PySem.Value.ref 404), @PySem.Value.none, (@PySem.Value.ref 405), (@PySem.Value.ref 406), (@PySem.Value.ref 407), (@PySem.Value.int (783 : Int) 0), (@PySem.Value.int (267 : Int) 0), (@PySem.Value.str (q "/claim/cut.py") 784)])) (List.toArray []))) ::
  ((nat_lit 409), (@PySem.Obj.mk (@PySem.Value.type "function") none (@Data.func f42) (List.toArray []))) ::
  ((nat_lit 410), (@PySem.Obj.mk (@PySem.Value.type "tuple") none (@Data.seq (List.toArray []) 0) (List.toArray []))) ::
  ((nat_lit 412), (@PySem.Obj.mk (@PySem.Value.type "tuple") none (@Data.seq (List.toArray [(@PySem.Value.str (q "rows") 789), (@PySem.Value.str (q "changes") 790), (@PySem.Value.str (q "view") 791), (@PySem.Value.str (q "table") 792), (@PySem.Value.str (q "spot") 793), (@PySem.Value.str (q "column") 794), (@PySem.Value.str (q "height") 795), (@PySem.Value.str (q "width") 796), (@PySem.Value.str (q "options") 797), (@PySem.Value.str (q "found") 798), (@PySem.Value.str (q "fresh") 799), (@PySem.Value.str (q "starts") 800), (@PySem.Value.str (q "number") 801)]) 0) (List.toArray []))) ::
  ((nat_lit 413), (@PySem.Obj.mk (@PySem.Value.type "tuple") none (@Data.seq (List.toArray []) 0) (List.toArray []))) ::
  ((nat_lit 415), (@PySem.Obj.mk (@PySem.Value.type "code") none (@Data.fields (List.toArray [(@PySem.Value.str (q "laid_again") 786), (@PySem.Value.str (q "laid_again") 787), (@PySem.Value.str (q "/claim/cut.py") 788), (@PySem.Value.int (274 : Int) 0), (@PySem.Value.int (9 : Int) 0), (@PySem.Value.int (0 : Int) 0), (@PySem.Value.int (0 : Int) 0), (@PySem.Value.int (3 : Int) 0), (@PySem.Value.ref 410), (@PySem.Value.bool @Bool.true), (@PySem.Value.int (181 : Int) 0), (@PySem.Value.ref 411), @PySem.Value.none, (@PySem.Value.ref 412), (@PySem.Value.ref 413), (@PySem.Value.ref 414), (@PySem.Value.int (802 : Int) 0), (@PySem.Value.int (274 : Int) 0), (@PySem.Value.str (q "/claim/cut.py") 803)])) (List.toArray []))) ::
  ((nat_lit 416), (@PySem.Obj.mk (@PySem.Value.type "function") none (@Data.func f43) (List.toArray []))) ::
  ((nat_lit 417), (@PySem.Obj.mk (@PySem.Value.type "tuple") none (@Data.seq (List.toArray [(@PySem.Value.int (0 : Int) 809), (@PySem.Value.int (0 : Int) 810), (@PySem.Value.int (0 : Int) 811), (@PySem.Value.int (0 : Int) 812), (@PySem.Value.int (0 : Int) 813), (@PySem.Value.int (0 : Int) 814)]) 0) (List.toArray []))) ::
  ((nat_lit 418), (@PySem.Obj.mk (@PySem.Value.type "tuple") none (@Data.seq (List.toArray [@PySem.Value.none, @PySem.Value.none, @PySem.Value.none, @PySem.Value.none, @PySem.Value.none, @PySem.Value.none]) 0) (List.toArray []))) ::
  ((nat_lit 426), (@PySem.Obj.mk (@PySem.Value.type "tuple") none (@Data.seq (List.toArray []) 0) (List.toArray []))) ::
  ((nat_lit 427), (@PySem.Obj.mk (@PySem.Value.type "tuple") none (@Data.seq (List.toArray [(@PySem.Value.ref 426)]) 0) (List.toArray []))) ::
  ((nat_lit 428), (@PySem.Obj.mk (@PySem.Value.type "tuple") none (@Data.seq (List.toArray []) 0) (List.toArray []))) ::
  ((nat_lit 430), (@PySem.Obj.mk (@PySem.Value.type "tuple") none (@Data.seq (List.toArray [(@PySem.Value.str (q "self") 832), (@PySem.Value.str (q "parts") 833), (@PySem.Value.str (q "parents") 834)]) 0) (List.toArray []))) ::
  ((nat_lit 431), (@PySem.Obj.mk (@PySem.Value.type "tuple") none (@Data.seq (List.toArray []) 0) (List.toArray []))) ::
  ((nat_lit 433), (@PySem.Obj.mk (@PySem.Value.type "code") none (@Data.fields (List.toArray [(@PySem.Value.str (q "__init__") 829), (@PySem.Value.str (q "Face.__init__") 830), (@PySem.Value.str (q "/claim/cut.py") 831), (@PySem.Value.int (295 : Int) 0), (@PySem.Value.int (3 : Int) 0), (@PySem.Value.int (0 : Int) 0), (@PySem.Value.int (0 : Int) 0), (@PySem.Value.int (3 : Int) 0), (@PySem.Value.ref 428), (@PySem.Value.bool @Bool.true), (@PySem.Value.int (181 : Int) 0), (@PySem.Value.ref 429), @PySem.Value.none, (@PySem.Value.ref 430), (@PySem.Value.ref 431), (@PySem.Value.ref 432), (@PySem.Value.int (835 : Int) 0), (@PySem.Value.int (295 : Int) 0), (@PySem.Value.str (q "/claim/cut.py") 836)])) (List.toArray []))) ::
  ((nat_lit 434), (@PySem.Obj.mk (@PySem.Value.type "function") none (@Data.func f44) (List.toArray []))) ::
  ((nat_lit 435), (@PySem.Obj.mk (@PySem.Value.type "tuple") none (@Data.seq (List.toArray [(@PySem.Value.str (q "parents") 838), (@PySem.Value.str (q "parts") 839)]) 0) (List.toArray []))) ::
  ((nat_lit 436), (@PySem.Obj.mk (@PySem.Value.type "dict") none (@Data.dict (List.toArray [(@PySem.DictEntry.mk (@PySem.PyData.keyHash P (q "__module__")) (@PySem.Value.str (q "__module__") 824) (@PySem.Value.str (q "emacs.faces") 805)), (@PySem.DictEntry.mk (@PySem.PyData.keyHash P (q "__firstlineno__")) (@PySem.Value.str (q "__firstlineno__") 828) (@PySem.Value.int (293 : Int) 827)), (@PySem.DictEntry.mk (@PySem.PyData.keyHash P (q "__init__")) (@PySem.Value.str (q "__init__") 837) (@PySem.Value.ref 434)), (@PySem.DictEntry.mk (@PySem.PyData.keyHash P (q "__static_attributes__")) (@PySem.Value.str (q "__static_attributes__") 840) (@PySem.Value.ref 435)), (@PySem.DictEntry.mk (@PySem.PyData.keyHash P (q "__dict__")) (@PySem.Value.str (q "__dict__") 842) (@PySem.Value.ref 438)), (@PySem.DictEntry.mk (@PySem.PyData.keyHash P (q "__weakref__")) (@PySem.Value.str (q "__weakref__") 844) (@PySem.Value.ref 439)), (@PySem.DictEntry.mk (@PySem.PyData.keyHash P (q "__doc__")) (@PySem.Value.str (q "__doc__") 845) @PySem.Value.none)]) 4) (List.toArray []))) ::
  ((nat_lit 437), (@PySem.Obj.mk (@PySem.Value.type "type") none (@Data.cls (@PySem.ClassData.mk (q "Face") [(@PySem.Value.type "object")] [(@PySem.Value.ref 437), (@PySem.Value.type "object")] 436 (q "Face") @Bool.true [] [] @Bool.false none @Bool.false)) (List.toArray [none, none, (some (@PySem.Value.str (q "Face") 817)), (some (@PySem.Value.str (q "Face") 825)), (some (@PySem.Value.builtin "object.__new__")), (some (@PySem.Value.bool @Bool.true))]))) ::
  ((nat_lit 438), (@PySem.Obj.mk (@PySem.Value.type "getset_descriptor") none (@Data.fields (List.toArray [(@PySem.Value.str (q "__dict__") 841), (@PySem.Value.ref 437), (@PySem.Value.builtin "function.__dict__"), (@PySem.Value.builtin "function.__dict__#set")])) (List.toArray []))) ::
  ((nat_lit 439), (@PySem.Obj.mk (@PySem.Value.type "getset_descriptor") none (@Data.fields (List.toArray [(@PySem.Value.str (q "__weakref__") 843), (@PySem.Value.ref 437), (@PySem.Value.builtin "ExceptionGroup.__weakref__"), @PySem.Value.none])) (List.toArray []))) ::
  ((nat_lit 449), (@PySem.Obj.mk (@PySem.Value.type "tuple") none (@Data.seq (List.toArray []) 0) (List.toArray []))) ::
  ((nat_lit 451), (@PySem.Obj.mk (@PySem.Value.type "tuple") none (@Data.seq (List.toArray [(@PySem.Value.str (q "self") 863)]) 0) (List.toArray []))) ::
  ((nat_lit 452), (@PySem.Obj.mk (@PySem.Value.type "tuple") none (@Data.seq (List.toArray []) 0) (List.toArray []))) ::
  ((nat_lit 454), (@PySem.Obj.mk (@PySem.Value.type "code") none (@Data.fields (List.toArray [(@PySem.Value.str (q "__init__") 860), (@PySem.Value.str (q "FaceTable.__init__") 861), (@PySem.Value.str (q "/claim/cut.py") 862), (@PySem.Value.int (300 : Int) 0), (@PySem.Value.int (1 : Int) 0), (@PySem.Value.int (0 : Int) 0), (@PySem.Value.int (0 : Int) 0), (@PySem.Value.int (3 : Int) 0), (@PySem.Value.ref 449), (@PySem.Value.bool @Bool.true), (@PySem.Value.int (181 : Int) 0), (@PySem.Value.ref 450), @PySem.Value.none, (@PySem.Value.ref 451), (@PySem.Value.ref 452), (@PySem.Value.ref 453), (@PySem.Value.int (864 : Int) 0), (@PySem.Value.int (300 : Int) 0), (@PySem.Value.str (q "/claim/cut.py") 865)])) (List.toArray []))) ::
  ((nat_lit 455), (@PySem.Obj.mk (@PySem.Value.type "function") none (@Data.func f45) (List.toArray []))) ::
  ((nat_lit 456), (@PySem.Obj.mk (@PySem.Value.type "tuple") none (@Data.seq (List.toArray []) 0) (List.toArray []))) ::
  ((nat_lit 458), (@PySem.Obj.mk (@PySem.Value.type "tuple") none (@Data.seq (List.toArray [(@PySem.Value.str (q "self") 870), (@PySem.Value.str (q "name") 871), (@PySem.Value.str (q "face") 872)]) 0) (List.toArray []))) ::
  ((nat_lit 459), (@PySem.Obj.mk (@PySem.Value.type "tuple") none (@Data.seq (List.toArray []) 0) (List.toArray []))) ::
  ((nat_lit 461), (@PySem.Obj.mk (@PySem.Value.type "code") none (@Data.fields (List.toArray [(@PySem.Value.str (q "define") 867), (@PySem.Value.str (q "FaceTable.define") 868), (@PySem.Value.str (q "/claim/cut.py") 869), (@PySem.Value.int (305 : Int) 0), (@PySem.Value.int (3 : Int) 0), (@PySem.Value.int (0 : Int) 0), (@PySem.Value.int (0 : Int) 0), (@PySem.Value.int (3 : Int) 0), (@PySem.Value.ref 456), (@PySem.Value.bool @Bool.true), (@PySem.Value.int (181 : Int) 0), (@PySem.Value.ref 457), @PySem.Value.none, (@PySem.Value.ref 458), (@PySem.Value.ref 459), (@PySem.Value.ref 460), (@PySem.Value.int (873 : Int) 0), (@PySem.Value.int (305 : Int) 0), (@PySem.Value.str (q "/claim/cut.py") 874)])) (List.toArray []))) ::
  ((nat_lit 462), (@PySem.Obj.mk (@PySem.Value.type "function") none (@Data.func f46) (List.toArray []))) ::
  ((nat_lit 463), (@PySem.Obj.mk (@PySem.Value.type "tuple") none (@Data.seq (List.toArray []) 0) (List.toArray []))) ::
  ((nat_lit 466), (@PySem.Obj.mk (@PySem.Value.type "code") none (@Data.fields (List.toArray [(@PySem.Value.str (q "merged") 876), (@PySem.Value.str (q "FaceTable.merged") 877), (@PySem.Value.str (q "/claim/cut.py") 878), (@PySem.Value.int (308 : Int) 0), (@PySem.Value.int (2 : Int) 0), (@PySem.Value.int (0 : Int) 0), (@PySem.Value.int (0 : Int) 0), (@PySem.Value.int (3 : Int) 0), (@PySem.Value.ref 463), (@PySem.Value.bool @Bool.true), (@PySem.Value.int (181 : Int) 0), (@PySem.Value.ref 464), @PySem.Value.none, @PySem.Value.none, @PySem.Value.none, (@PySem.Value.ref 465), (@PySem.Value.int (879 : Int) 0), (@PySem.Value.int (308 : Int) 0), (@PySem.Value.str (q "/claim/cut.py") 880)])) (List.toArray []))) ::
  ((nat_lit 467), (@PySem.Obj.mk (@PySem.Value.type "function") none (@Data.func f47) (List.toArray []))) ::
  ((nat_lit 468), (@PySem.Obj.mk (@PySem.Value.type "tuple") none (@Data.seq (List.toArray []) 0) (List.toArray []))) ::
  ((nat_lit 470), (@PySem.Obj.mk (@PySem.Value.type "tuple") none (@Data.seq (List.toArray [(@PySem.Value.str (q "self") 885), (@PySem.Value.str (q "names") 886), (@PySem.Value.str (q "look") 887)]) 0) (List.toArray []))) ::
  ((nat_lit 471), (@PySem.Obj.mk (@PySem.Value.type "tuple") none (@Data.seq (List.toArray []) 0) (List.toArray []))) ::
  ((nat_lit 473), (@PySem.Obj.mk (@PySem.Value.type "code") none (@Data.fields (List.toArray [(@PySem.Value.str (q "number_of") 882), (@PySem.Value.str (q "FaceTable.number_of") 883), (@PySem.Value.str (q "/claim/cut.py") 884), (@PySem.Value.int (319 : Int) 0), (@PySem.Value.int (2 : Int) 0), (@PySem.Value.int (0 : Int) 0), (@PySem.Value.int (0 : Int) 0), (@PySem.Value.int (3 : Int) 0), (@PySem.Value.ref 468), (@PySem.Value.bool @Bool.true), (@PySem.Value.int (181 : Int) 0), (@PySem.Value.ref 469), @PySem.Value.none, (@PySem.Value.ref 470), (@PySem.Value.ref 471), (@PySem.Value.ref 472), (@PySem.Value.int (888 : Int) 0), (@PySem.Value.int (319 : Int) 0), (@PySem.Value.str (q "/claim/cut.py") 889)])) (List.toArray []))) ::
  ((nat_lit 474), (@PySem.Obj.mk (@PySem.Value.type "function") none (@Data.func f48) (List.toArray []))) ::
  ((nat_lit 475), (@PySem.Obj.mk (@PySem.Value.type "tuple") none (@Data.seq (List.toArray []) 0) (List.toArray []))) ::
  ((nat_lit 477), (@PySem.Obj.mk (@PySem.Value.type "tuple") none (@Data.seq (List.toArray [(@PySem.Value.str (q "self") 894), (@PySem.Value.str (q "number") 895)]) 0) (List.toArray []))) ::
  ((nat_lit 478), (@PySem.Obj.mk (@PySem.Value.type "tuple") none (@Data.seq (List.toArray []) 0) (List.toArray []))) ::
  ((nat_lit 480), (@PySem.Obj.mk (@PySem.Value.type "code") none (@Data.fields (List.toArray [(@PySem.Value.str (q "look_of") 891), (@PySem.Value.str (q "FaceTable.look_of") 892), (@PySem.Value.str (q "/claim/cut.py") 893), (@PySem.Value.int (328 : Int) 0), (@PySem.Value.int (2 : Int) 0), (@PySem.Value.int (0 : Int) 0), (@PySem.Value.int (0 : Int) 0), (@PySem.Value.int (3 : Int) 0), (@PySem.Value.ref 475), (@PySem.Value.bool @Bool.true), (@PySem.Value.int (181 : Int) 0), (@PySem.Value.ref 476), @PySem.Value.none, (@PySem.Value.ref 477), (@PySem.Value.ref 478), (@PySem.Value.ref 479), (@PySem.Value.int (896 : Int) 0), (@PySem.Value.int (328 : Int) 0), (@PySem.Value.str (q "/claim/cut.py") 897)])) (List.toArray []))) ::
  ((nat_lit 481), (@PySem.Obj.mk (@PySem.Value.type "function") none (@Data.func f49) (List.toArray []))) ::
  ((nat_lit 482), (@PySem.Obj.mk (@PySem.Value.type "tuple") none (@Data.seq (List.toArray [(@PySem.Value.str (q "by_name") 899), (@PySem.Value.str (q "looks") 900), (@PySem.Value.str (q "numbers") 901)]) 0) (List.toArray []))) ::
  ((nat_lit 483), (@PySem.Obj.mk (@PySem.Value.type "dict") none (@Data.dict (List.toArray [(@PySem.DictEntry.mk (@PySem.PyData.keyHash P (q "__module__")) (@PySem.Value.str (q "__module__") 855) (@PySem.Value.str (q "emacs.faces") 805)), (@PySem.DictEntry.mk (@PySem.PyData.keyHash P (q "__firstlineno__")) (@PySem.Value.str (q "__firstlineno__") 859) (@PySem.Value.int (298 : Int) 858)), (@PySem.DictEntry.mk (@PySem.PyData.keyHash P (q "__init__")) (@PySem.Value.str (q "__init__") 866) (@PySem.Value.ref 455)), (@PySem.DictEntry.mk (@PySem.PyData.keyHash P (q "define")) (@PySem.Value.str (q "define") 875) (@PySem.Value.ref 462)), (@PySem.DictEntry.mk (@PySem.PyData.keyHash P (q "merged")) (@PySem.Value.str (q "merged") 881) (@PySem.Value.ref 467)), (@PySem.DictEntry.mk (@PySem.PyData.keyHash P (q "number_of")) (@PySem.Value.str (q "number_of") 890) (@PySem.Value.ref 474)), (@PySem.DictEntry.mk (@PySem.PyData.keyHash P (q "look_of")) (@PySem.Value.str (q "look_of") 898) (@PySem.Value.ref 481)), (@PySem.DictEntry.mk (@PySem.PyData.keyHash P (q "__static_attributes__")) (@PySem.Value.str (q "__static_attributes__") 902) (@PySem.Value.ref 482)), (@PySem.DictEntry.mk (@PySem.PyData.keyHash P (q "__dict__")) (@PySem.Value.str (q "__dict__") 904) (@PySem.Value.ref 485)), (@PySem.DictEntry.mk (@PySem.PyData.keyHash P (q "__weakref__")) (@PySem.Value.str (q "__weakref__") 906) (@PySem.Value.ref 486)), (@PySem.DictEntry.mk (@PySem.PyData.keyHash P (q "__doc__")) (@PySem.Value.str (q "__doc__") 907) @PySem.Value.none)]) 4) (List.toArray []))) ::
  ((nat_lit 484), (@PySem.Obj.mk (@PySem.Value.type "type") none (@Data.cls (@PySem.ClassData.mk (q "FaceTable") [(@PySem.Value.type "object")] [(@PySem.Value.ref 484), (@PySem.Value.type "object")] 483 (q "FaceTable") @Bool.true [] [] @Bool.false none @Bool.false)) (List.toArray [none, none, (some (@PySem.Value.str (q "FaceTable") 848)), (some (@PySem.Value.str (q "FaceTable") 856)), (some (@PySem.Value.builtin "object.__new__")), (some (@PySem.Value.bool @Bool.true))]))) ::
  ((nat_lit 485), (@PySem.Obj.mk (@PySem.Value.type "getset_descriptor") none (@Data.fields (List.toArray [(@PySem.Value.str (q "__dict__") 903), (@PySem.Value.ref 484), (@PySem.Value.builtin "function.__dict__"), (@PySem.Value.builtin "function.__dict__#set")])) (List.toArray []))) ::
  ((nat_lit 486), (@PySem.Obj.mk (@PySem.Value.type "getset_descriptor") none (@Data.fields (List.toArray [(@PySem.Value.str (q "__weakref__") 905), (@PySem.Value.ref 484), (@PySem.Value.builtin "ExceptionGroup.__weakref__"), @PySem.Value.none])) (List.toArray []))) ::
  ((nat_lit 489), (@PySem.Obj.mk (@PySem.Value.type "tuple") none (@Data.seq (List.toArray []) 0) (List.toArray []))) ::
  ((nat_lit 491), (@PySem.Obj.mk (@PySem.Value.type "tuple") none (@Data.seq (List.toArray [(@PySem.Value.str (q "deck") 915), (@PySem.Value.str (q "many") 916)]) 0) (List.toArray []))) ::
  ((nat_lit 492), (@PySem.Obj.mk (@PySem.Value.type "tuple") none (@Data.seq (List.toArray []) 0) (List.toArray []))) ::
  ((nat_lit 494), (@PySem.Obj.mk (@PySem.Value.type "code") none (@Data.fields (List.toArray [(@PySem.Value.str (q "_law_draw") 912), (@PySem.Value.str (q "_law_draw") 913), (@PySem.Value.str (q "/claim/cut.py") 914), (@PySem.Value.int (331 : Int) 0), (@PySem.Value.int (2 : Int) 0), (@PySem.Value.int (0 : Int) 0), (@PySem.Value.int (0 : Int) 0), (@PySem.Value.int (3 : Int) 0), (@PySem.Value.ref 489), (@PySem.Value.bool @Bool.true), (@PySem.Value.int (181 : Int) 0), (@PySem.Value.ref 490), @PySem.Value.none, (@PySem.Value.ref 491), (@PySem.Value.ref 492), (@PySem.Value.ref 493), (@PySem.Value.int (917 : Int) 0), (@PySem.Value.int (331 : Int) 0), (@PySem.Value.str (q "/claim/cut.py") 918)])) (List.toArray []))) ::
  ((nat_lit 495), (@PySem.Obj.mk (@PySem.Value.type "function") none (@Data.func f50) (List.toArray []))) ::
  ((nat_lit 496), (@PySem.Obj.mk (@PySem.Value.type "tuple") none (@Data.seq (List.toArray []) 0) (List.toArray []))) ::
  ((nat_lit 499), (@PySem.Obj.mk (@PySem.Value.type "code") none (@Data.fields (List.toArray [(@PySem.Value.str (q "_law_signs") 920), (@PySem.Value.str (q "_law_signs") 921), (@PySem.Value.str (q "/claim/cut.py") 922), (@PySem.Value.int (333 : Int) 0), (@PySem.Value.int (2 : Int) 0), (@PySem.Value.int (0 : Int) 0), (@PySem.Value.int (0 : Int) 0), (@PySem.Value.int (3 : Int) 0), (@PySem.Value.ref 496), (@PySem.Value.bool @Bool.true), (@PySem.Value.int (181 : Int) 0), (@PySem.Value.ref 497), @PySem.Value.none, @PySem.Value.none, @PySem.Value.none, (@PySem.Value.ref 498), (@PySem.Value.int (923 : Int) 0), (@PySem.Value.int (333 : Int) 0), (@PySem.Value.str (q "/claim/cut.py") 924)])) (List.toArray []))) ::
  ((nat_lit 500), (@PySem.Obj.mk (@PySem.Value.type "function") none (@Data.func f51) (List.toArray []))) ::
  ((nat_lit 501), (@PySem.Obj.mk (@PySem.Value.type "tuple") none (@Data.seq (List.toArray []) 0) (List.toArray []))) ::
  ((nat_lit 503), (@PySem.Obj.mk (@PySem.Value.type "tuple") none (@Data.seq (List.toArray [(@PySem.Value.str (q "code") 929), (@PySem.Value.str (q "column") 930)]) 0) (List.toArray []))) ::
  ((nat_lit 504), (@PySem.Obj.mk (@PySem.Value.type "tuple") none (@Data.seq (List.toArray []) 0) (List.toArray []))) ::
  ((nat_lit 506), (@PySem.Obj.mk (@PySem.Value.type "code") none (@Data.fields (List.toArray [(@PySem.Value.str (q "_law_shown") 926), (@PySem.Value.str (q "_law_shown") 927), (@PySem.Value.str (q "/claim/cut.py") 928), (@PySem.Value.int (335 : Int) 0), (@PySem.Value.int (2 : Int) 0), (@PySem.Value.int (0 : Int) 0), (@PySem.Value.int (0 : Int) 0), (@PySem.Value.int (3 : Int) 0), (@PySem.Value.ref 501), (@PySem.Value.bool @Bool.true), (@PySem.Value.int (181 : Int) 0), (@PySem.Value.ref 502), @PySem.Value.none, (@PySem.Value.ref 503), (@PySem.Value.ref 504), (@PySem.Value.ref 505), (@PySem.Value.int (931 : Int) 0), (@PySem.Value.int (335 : Int) 0), (@PySem.Value.str (q "/claim/cut.py") 932)])) (List.toArray []))) ::
  ((nat_lit 507), (@PySem.Obj.mk (@PySem.Value.type "function") none (@Data.func f52) (List.toArray []))) ::
  ((nat_lit 508), (@PySem.Obj.mk (@PySem.Value.type "tuple") none (@Data.seq (List.toArray []) 0) (List.toArray []))) ::
  ((nat_lit 511), (@PySem.Obj.mk (@PySem.Value.type "code") none (@Data.fields (List.toArray [(@PySem.Value.str (q "_law_row") 934), (@PySem.Value.str (q "_law_row") 935), (@PySem.Value.str (q "/claim/cut.py") 936), (@PySem.Value.int (339 : Int) 0), (@PySem.Value.int (5 : Int) 0), (@PySem.Value.int (0 : Int) 0), (@PySem.Value.int (0 : Int) 0), (@PySem.Value.int (3 : Int) 0), (@PySem.Value.ref 508), (@PySem.Value.bool @Bool.true), (@PySem.Value.int (181 : Int) 0), (@PySem.Value.ref 509), @PySem.Value.none, @PySem.Value.none, @PySem.Value.none, (@PySem.Value.ref 510), (@PySem.Value.int (937 : Int) 0), (@PySem.Value.int (339 : Int) 0), (@PySem.Value.str (q "/claim/cut.py") 938)])) (List.toArray []))) ::
  ((nat_lit 512), (@PySem.Obj.mk (@PySem.Value.type "function") none (@Data.func f53) (List.toArray []))) ::
  ((nat_lit 513), (@PySem.Obj.mk (@PySem.Value.type "tuple") none (@Data.seq (List.toArray []) 0) (List.toArray []))) ::
  ((nat_lit 515), (@PySem.Obj.mk (@PySem.Value.type "tuple") none (@Data.seq (List.toArray [(@PySem.Value.str (q "text") 943), (@PySem.Value.str (q "first") 944), (@PySem.Value.str (q "at") 945), (@PySem.Value.str (q "room") 946), (@PySem.Value.str (q "height") 947), (@PySem.Value.str (q "found") 948), (@PySem.Value.str (q "column") 949), (@PySem.Value.str (q "own") 950)]) 0) (List.toArray []))) ::
  ((nat_lit 516), (@PySem.Obj.mk (@PySem.Value.type "tuple") none (@Data.seq (List.toArray []) 0) (List.toArray []))) ::
  ((nat_lit 518), (@PySem.Obj.mk (@PySem.Value.type "code") none (@Data.fields (List.toArray [(@PySem.Value.str (q "_law_rows") 940), (@PySem.Value.str (q "_law_rows") 941), (@PySem.Value.str (q "/claim/cut.py") 942), (@PySem.Value.int (355 : Int) 0), (@PySem.Value.int (5 : Int) 0), (@PySem.Value.int (0 : Int) 0), (@PySem.Value.int (0 : Int) 0), (@PySem.Value.int (3 : Int) 0), (@PySem.Value.ref 513), (@PySem.Value.bool @Bool.true), (@PySem.Value.int (181 : Int) 0), (@PySem.Value.ref 514), @PySem.Value.none, (@PySem.Value.ref 515), (@PySem.Value.ref 516), (@PySem.Value.ref 517), (@PySem.Value.int (951 : Int) 0), (@PySem.Value.int (355 : Int) 0), (@PySem.Value.str (q "/claim/cut.py") 952)])) (List.toArray []))) ::
  ((nat_lit 519), (@PySem.Obj.mk (@PySem.Value.type "function") none (@Data.func f54) (List.toArray []))) ::
  ((nat_lit 520), (@PySem.Obj.mk (@PySem.Value.type "tuple") none (@Data.seq (List.toArray []) 0) (List.toArray []))) ::
  ((nat_lit 522), (@PySem.Obj.mk (@PySem.Value.type "tuple") none (@Data.seq (List.toArray [(@PySem.Value.str (q "text") 957), (@PySem.Value.str (q "at") 958)]) 0) (List.toArray []))) ::
  ((nat_lit 523), (@PySem.Obj.mk (@PySem.Value.type "tuple") none (@Data.seq (List.toArray []) 0) (List.toArray []))) ::
  ((nat_lit 525), (@PySem.Obj.mk (@PySem.Value.type "code") none (@Data.fields (List.toArray [(@PySem.Value.str (q "_law_line") 954), (@PySem.Value.str (q "_law_line") 955), (@PySem.Value.str (q "/claim/cut.py") 956), (@PySem.Value.int (361 : Int) 0), (@PySem.Value.int (2 : Int) 0), (@PySem.Value.int (0 : Int) 0), (@PySem.Value.int (0 : Int) 0), (@PySem.Value.int (3 : Int) 0), (@PySem.Value.ref 520), (@PySem.Value.bool @Bool.true), (@PySem.Value.int (181 : Int) 0), (@PySem.Value.ref 521), @PySem.Value.none, (@PySem.Value.ref 522), (@PySem.Value.ref 523), (@PySem.Value.ref 524), (@PySem.Value.int (959 : Int) 0), (@PySem.Value.int (361 : Int) 0), (@PySem.Value.str (q "/claim/cut.py") 960)])) (List.toArray []))) ::
  ((nat_lit 526), (@PySem.Obj.mk (@PySem.Value.type "function") none (@Data.func f55) (List.toArray []))) ::
  ((nat_lit 527), (@PySem.Obj.mk (@PySem.Value.type "tuple") none (@Data.seq (List.toArray []) 0) (List.toArray []))) ::
  ((nat_lit 530), (@PySem.Obj.mk (@PySem.Value.type "code") none (@Data.fields (List.toArray [(@PySem.Value.str (q "_law_read") 962), (@PySem.Value.str (q "_law_read") 963), (@PySem.Value.str (q "/claim/cut.py") 964), (@PySem.Value.int (365 : Int) 0), (@PySem.Value.int (1 : Int) 0), (@PySem.Value.int (0 : Int) 0), (@PySem.Value.int (0 : Int) 0), (@PySem.Value.int (3 : Int) 0), (@PySem.Value.ref 527), (@PySem.Value.bool @Bool.true), (@PySem.Value.int (181 : Int) 0), (@PySem.Value.ref 528), @PySem.Value.none, @PySem.Value.none, @PySem.Value.none, (@PySem.Value.ref 529), (@PySem.Value.int (965 : Int) 0), (@PySem.Value.int (365 : Int) 0), (@PySem.Value.str (q "/claim/cut.py") 966)])) (List.toArray []))) ::
  ((nat_lit 531), (@PySem.Obj.mk (@PySem.Value.type "function") none (@Data.func f56) (List.toArray []))) ::
  ((nat_lit 532), (@PySem.Obj.mk (@PySem.Value.type "tuple") none (@Data.seq (List.toArray []) 0) (List.toArray []))) ::
  ((nat_lit 535), (@PySem.Obj.mk (@PySem.Value.type "code") none (@Data.fields (List.toArray [(@PySem.Value.str (q "_law_fresh") 968), (@PySem.Value.str (q "_law_fresh") 969), (@PySem.Value.str (q "/claim/cut.py") 970), (@PySem.Value.int (374 : Int) 0), (@PySem.Value.int (3 : Int) 0), (@PySem.Value.int (0 : Int) 0), (@PySem.Value.int (0 : Int) 0), (@PySem.Value.int (3 : Int) 0), (@PySem.Value.ref 532), (@PySem.Value.bool @Bool.true), (@PySem.Value.int (181 : Int) 0), (@PySem.Value.ref 533), @PySem.Value.none, @PySem.Value.none, @PySem.Value.none, (@PySem.Value.ref 534), (@PySem.Value.int (971 : Int) 0), (@PySem.Value.int (374 : Int) 0), (@PySem.Value.str (q "/claim/cut.py") 972)])) (List.toArray []))) ::
  ((nat_lit 536), (@PySem.Obj.mk (@PySem.Value.type "function") none (@Data.func f57) (List.toArray []))) ::
  ((nat_lit 537), (@PySem.Obj.mk (@PySem.Value.type "tuple") none (@Data.seq (List.toArray []) 0) (List.toArray []))) ::
  ((nat_lit 539), (@PySem.Obj.mk (@PySem.Value.type "tuple") none (@Data.seq (List.toArray [(@PySem.Value.str (q "deck") 977), (@PySem.Value.str (q "text") 978), (@PySem.Value.str (q "first") 979), (@PySem.Value.str (q "log") 980), (@PySem.Value.str (q "start") 981), (@PySem.Value.str (q "stop") 982), (@PySem.Value.str (q "fresh") 983)]) 0) (List.toArray []))) ::
  ((nat_lit 540), (@PySem.Obj.mk (@PySem.Value.type "tuple") none (@Data.seq (List.toArray []) 0) (List.toArray []))) ::
  ((nat_lit 542), (@PySem.Obj.mk (@PySem.Value.type "code") none (@Data.fields (List.toArray [(@PySem.Value.str (q "_law_changed") 974), (@PySem.Value.str (q "_law_changed") 975), (@PySem.Value.str (q "/claim/cut.py") 976), (@PySem.Value.int (382 : Int) 0), (@PySem.Value.int (4 : Int) 0), (@PySem.Value.int (0 : Int) 0), (@PySem.Value.int (0 : Int) 0), (@PySem.Value.int (3 : Int) 0), (@PySem.Value.ref 537), (@PySem.Value.bool @Bool.true), (@PySem.Value.int (181 : Int) 0), (@PySem.Value.ref 538), @PySem.Value.none, (@PySem.Value.ref 539), (@PySem.Value.ref 540), (@PySem.Value.ref 541), (@PySem.Value.int (984 : Int) 0), (@PySem.Value.int (382 : Int) 0), (@PySem.Value.str (q "/claim/cut.py") 985)])) (List.toArray []))) ::
  ((nat_lit 543), (@PySem.Obj.mk (@PySem.Value.type "function") none (@Data.func f58) (List.toArray []))) ::
  ((nat_lit 544), (@PySem.Obj.mk (@PySem.Value.type "tuple") none (@Data.seq (List.toArray []) 0) (List.toArray []))) ::
  ((nat_lit 547), (@PySem.Obj.mk (@PySem.Value.type "code") none (@Data.fields (List.toArray [(@PySem.Value.str (q "law") 987), (@PySem.Value.str (q "law") 988), (@PySem.Value.str (q "/claim/cut.py") 989), (@PySem.Value.int (388 : Int) 0), (@PySem.Value.int (1 : Int) 0), (@PySem.Value.int (0 : Int) 0), (@PySem.Value.int (0 : Int) 0), (@PySem.Value.int (3 : Int) 0), (@PySem.Value.ref 544), (@PySem.Value.bool @Bool.true), (@PySem.Value.int (181 : Int) 0), (@PySem.Value.ref 545), @PySem.Value.none, @PySem.Value.none, @PySem.Value.none, (@PySem.Value.ref 546), (@PySem.Value.int (990 : Int) 0), (@PySem.Value.int (388 : Int) 0), (@PySem.Value.str (q "/claim/cut.py") 991)])) (List.toArray []))) ::
  ((nat_lit 548), (@PySem.Obj.mk (@PySem.Value.type "function") none (@Data.func f59) (List.toArray []))) :: [] : Frag)) _ _ _ _ _ _ _ _ _ _ _ _ _ _ _ _ _ _ _ _ _ _ _ _ _ _ _ _ _ _ _ _ _ _ _ _ _ _ _ _ _ _ _ _ _ _ _ _ _ _ _ _ _ _ _ _ _ _ _ _ ?h
  case h =>
    dsimp only [fdOf, q, ptA, ptB, ptS, s0_0, s11_0, s12_0, s13_0, s14_0, s15_0, s19_0, s19_1, s19_2, s19_3, s19_4, s19_5, s19_6, s19_7, s21_0, s22_0, s23_0, s24_0, s25_0, s26_0, s27_0, s27_1, s27_2, s27_3, s27_4, s29_0, s29_1, s29_2, s30_0, s31_0, s32_0, s33_0, s34_0, s35_0, s37_0, s37_1, s37_2, s37_3, s38_0, s39_0, s40_0, s41_0, s42_0, s43_0, s48_0, s49_0, s49_1, s49_2, s49_3, s49_4, s51_0, s52_0, s53_0, s54_0, s55_0, s56_0, s57_0, s58_0, s59_0, s60_0]
    repeat (refine And.intro ?_ ?_; exact rfl)
    exact rfl
set_option maxHeartbeats 4000000

noncomputable abbrev cx (w : World) : Cx := ⟨PySem.Challenge.rw_sq0006_01.row.prog, w, hd.heap_39 w.params⟩

inductive AddF (x : Str) (v : Value) : List (Str × Value) → List (Str × Value) → Prop
  | nil : AddF x v [] [(x, v)]
  | cons {p r r'} : AddF x v r r' → AddF x v (p :: r) (p :: r')
theorem AddF.eq {x v} {l l' : List (Str × Value)} (h : AddF x v l l') : l' = l ++ [(x, v)] := by
  induction h with
  | nil => rfl
  | cons _ ih => rw [ih]; rfl
theorem ite_nd {q p r : Prop} [Decidable q] (h1 : ¬q → p) (h2 : q → r) : if (!decide q) = true then p else r := by
  by_cases h : q
  · rw [decide_eq_true h, if_neg (by simp)]; exact h2 h
  · rw [decide_eq_false h, if_pos (by simp)]; exact h1 h
theorem ite_nt {p r : Prop} (h : r) : if (!true) = true then p else r := by rw [if_neg (by simp)]; exact h
theorem ite_nf {p r : Prop} (h : p) : if (!false) = true then p else r := by rw [if_pos (by simp)]; exact h
theorem ite_dt {q p r : Prop} [Decidable q] (h : q) (h1 : p) : if decide q = true then p else r := by rw [decide_eq_true h, if_pos rfl]; exact h1
theorem ite_df {q p r : Prop} [Decidable q] (h : ¬q) (h1 : r) : if decide q = true then p else r := by rw [decide_eq_false h, if_neg (by simp)]; exact h1
section
variable {w : World} {A : Around} {env : Env} {g : Heap} {bs : List (Str × Option Value)} {mu : List (Addr × Sp)} {names : List (Str × NameKind)} {cl : List (Str × Addr)} {N : SS → Prop} {R : Value → SS → Prop} {rest : List Stmt}
theorem G_glob {x : Str} {pos : Pos} {v : Value} {P : Value → SS → Prop} {σ : SS} (E : EnvIs env names cl) (hx : (x, NameKind.globalImplicit) ∈ names) (e : nsIn (hd.heap_39 w.params) mainGlobals x = some (some v)) (p : P v σ) :
    TS (cx w) A env σ (eval (.Name x pos) env) P := TS_global E hx e p
theorem G_blt {x : Str} {pos : Pos} {v : Value} {P : Value → SS → Prop} {σ : SS} (E : EnvIs env names cl) (hx : (x, NameKind.globalImplicit) ∈ names) (e : nsIn (hd.heap_39 w.params) mainGlobals x = some none) (hv : bootBuiltins x = some v) (p : P v σ) :
    TS (cx w) A env σ (eval (.Name x pos) env) P := TS_builtin E hx e hv p
theorem G_cw0 {pos : Pos} {f : Value} {args : List Expr} {P : Value → SS → Prop} {σ : SS} (hf : keepIn (hd.heap_39 w.params) f = true) (H : EvL (cx w) A env σ args fun vs σ1 => TS (cx w) A env σ1 (call f vs) P) (hn : noStar args = true := by rfl) :
    TS (cx w) A env σ (callWith pos f [] (backTo pos (starEach args env)) []) P := F_cw0 (CallOk.k hf) H hn
theorem G_cw1 {pos : Pos} {f x : Value} {args : List Expr} {P : Value → SS → Prop} {σ : SS} (hf : keepIn (hd.heap_39 w.params) f = true) (H : EvL (cx w) A env σ args fun vs σ1 => TS (cx w) A env σ1 (call f (x :: vs)) P) (hn : noStar args = true := by rfl) :
    TS (cx w) A env σ (callWith pos f [x] (backTo pos (starEach args env)) []) P := F_cw1 (CallOk.k hf) H hn
theorem G_getAttr {x C dx : Addr} {fs : List (Str × Value)} {name : Str} {v : Value} {expr : Bool} {P : Value → SS → Prop} (I : RdF w g mu x (.inst C dx)) (D : RdF w g mu dx (.dict fs)) (hm : (name, v) ∈ fs) (ok : attrOk (hd.heap_39 w.params) C name = true) (hv : handedIn v = true)
    (p : P v ⟨g, bs, mu⟩) : TS (cx w) A env ⟨g, bs, mu⟩ (getAttr (.ref x) name expr) P := F_getAttr I D hm ok hv p
theorem G_getMeth {x C dx : Addr} {fs : List (Str × Value)} {name : Str} {f : Addr} {pl : Sem Bool} {P : Value × List Value → SS → Prop} (I : RdF w g mu x (.inst C dx)) (D : RdF w g mu dx (.dict fs)) (hf : findIn (hd.heap_39 w.params) (.ref C) name = some (some (.ref f)))
    (ok : methOk (hd.heap_39 w.params) C name f = true) (hm : (fs.all fun p => !(p.1 == name)) = true) (p : P (.ref f, [.ref x]) ⟨g, bs, mu⟩) : TS (cx w) A env ⟨g, bs, mu⟩ (getMethod (.ref x) name pl) P := F_getMeth I D hf ok hm p
theorem G_setAttr {x C dx : Addr} {fs fs' : List (Str × Value)} {name : Str} {v : Value} {mu'} {P : Unit → SS → Prop} (I : RdF w g mu x (.inst C dx)) (U : Upd1 dx (.dict fs) (.dict fs') mu mu') (S : SetF name v fs fs') (ok : setOk (hd.heap_39 w.params) C name = true)
    (hz : decide (fs.length ≤ 1000) = true) (p : P () ⟨g, bs, mu'⟩) : TS (cx w) A env ⟨g, bs, mu⟩ (setAttr (.ref x) name v) P := F_setAttr I U S ok hz p
theorem G_addAttr {x C dx : Addr} {fs fs' : List (Str × Value)} {name : Str} {v : Value} {mu'} {P : Unit → SS → Prop} (I : RdF w g mu x (.inst C dx)) (U : Upd1 dx (.dict fs) (.dict fs') mu mu') (S : AddF name v fs fs') (hm : (fs.all fun p => !(p.1 == name)) = true)
    (ok : setOk (hd.heap_39 w.params) C name = true) (hz : decide (fs.length < 1000) = true) (p : P () ⟨g, bs, mu'⟩) : TS (cx w) A env ⟨g, bs, mu⟩ (setAttr (.ref x) name v) P := F_addAttr I U S.eq hm ok hz p

theorem TS_isNoneRef {a : Addr} {P : Value → SS → Prop} {σ : SS} {c : Cx} (p : P (.bool false) σ) : TS c A env σ (compareOp .Is (.ref a) .none) P := TS_is rfl p
theorem TS_isNoneNone {P : Value → SS → Prop} {σ : SS} {c : Cx} (p : P (.bool true) σ) : TS c A env σ (compareOp .Is .none .none) P := TS_is rfl p
theorem TS_isNoneInt {i : Int} {t : Tok} {P : Value → SS → Prop} {σ : SS} {c : Cx} (p : P (.bool false) σ) : TS c A env σ (compareOp .Is (.int i t) .none) P := TS_is rfl p
theorem TS_isNotNoneRef {a : Addr} {P : Value → SS → Prop} {σ : SS} {c : Cx} (p : P (.bool true) σ) : TS c A env σ (compareOp .IsNot (.ref a) .none) P := TS_isNot rfl p
theorem TS_isNotNoneNone {P : Value → SS → Prop} {σ : SS} {c : Cx} (p : P (.bool false) σ) : TS c A env σ (compareOp .IsNot .none .none) P := TS_isNot rfl p

/-- a def's promise, its arguments by place -/
theorem C_def {n : Nat} {g : Heap} {mu : List (Addr × Sp)} {name qual : Str} {params : Arguments} {body : List Stmt} {scope : Scope} {dV kV doc pm cdv ct oc : Value} {an od : Option Addr} {osl : Array (Option Value)} {f : Addr} {args : List Value} {P}
    (M : Rm A (n + 1)) (others : List Str) (ho : (hd.heap_39 w.params).lookup f = some ⟨oc, od, .func (fnOf name qual params body scope dV kV doc pm an cdv ct), osl⟩) (hcd : codeIn (hd.heap_39 w.params) cdv qual = true)
    (hbind : ∀ s : Shared, (hd.heap_39 w.params).In s.heap → BindsTo s (fnOf name qual params body scope dV kV doc pm an cdv ct) ⟨args, []⟩ ((params.args.map (·.arg)).zip args)) (hok : okNames scope.names = true) (hnd : decide (((params.args.map (·.arg)).zip args).map (·.1) ++ others).Nodup = true)
    (hloc : ((((params.args.map (·.arg)).zip args)).all fun x => decide (scope.names.lookup x.1 = some .local)) = true) (hcell : (scope.names.all fun x => decide (x.2 ≠ .cell)) = true)
    (hco : scope.isCoroutine = false) (hgen : scope.isGenerator = false) (hk : scope.kind = .function)
    (h : ∀ env, EnvIs env scope.names [] → Rm (A.deeper env) n → XS (cx w) (A.deeper env) env ⟨g, bsInit ((params.args.map (·.arg)).zip args) others, mu⟩ body (Out (cx w) g P .none) (Out (cx w) g P)) : CC (cx w) A g mu (.call (.ref f) ⟨args, []⟩) P :=
  CC_def M ho hcd hbind others hok hnd hloc hcell hco hgen hk h

/-- a def's promise, its arguments by place, some of its names in cells -/
theorem C_defC {n : Nat} {g : Heap} {mu : List (Addr × Sp)} {name qual : Str} {params : Arguments} {body : List Stmt} {scope : Scope} {dV kV doc pm cdv ct oc : Value} {an od : Option Addr} {osl : Array (Option Value)} {f : Addr} {args : List Value} {P}
    (M : Rm A (n + 1)) (others cnames : List Str) (lb cb : List (Str × Value)) (cv : List (Option Value)) (ho : (hd.heap_39 w.params).lookup f = some ⟨oc, od, .func (fnOf name qual params body scope dV kV doc pm an cdv ct), osl⟩) (hcd : codeIn (hd.heap_39 w.params) cdv qual = true)
    (hbind : ∀ s : Shared, (hd.heap_39 w.params).In s.heap → BindsTo s (fnOf name qual params body scope dV kV doc pm an cdv ct) ⟨args, []⟩ ((params.args.map (·.arg)).zip args)) (hok : okNames scope.names = true)
    (hlb : ((params.args.map (·.arg)).zip args).filter (fun p => decide (scope.names.lookup p.1 = some .local)) = lb) (hcb : ((params.args.map (·.arg)).zip args).filter (fun p => !decide (scope.names.lookup p.1 = some .local)) = cb) (hnd : decide (lb.map (·.1) ++ others).Nodup = true)
    (hcn : (cellsFrom 0 scope.names []).map (·.1) = cnames) (hcnd : decide cnames.Nodup = true) (hcv : cnames.map (fun x => cb.reverse.lookup x) = cv)
    (hkd : ((((params.args.map (·.arg)).zip args)).all fun x => decide (scope.names.lookup x.1 = some .local) || (decide (scope.names.lookup x.1 = some .cell) && decide (x.1 ∈ cnames))) = true)
    (hco : scope.isCoroutine = false) (hgen : scope.isGenerator = false) (hk : scope.kind = .function)
    (h : ∀ env as, as.length = cnames.length → EnvIs env scope.names (cnames.zip as) → Rm (A.deeper env) n → XS (cx w) (A.deeper env) env ⟨g, bsInit lb others, as.zip (cv.map Sp.cell) ++ mu⟩ body (Out (cx w) g P .none) (Out (cx w) g P)) : CC (cx w) A g mu (.call (.ref f) ⟨args, []⟩) P :=
  CC_defC M ho hcd hbind others cnames hok hlb hcb hnd hcn hcnd hcv hkd hco hgen hk h

theorem F_for0 {c : Cx} {target iter : Expr} {body : List Stmt} {pos : Pos} {m : Nat} {σ : SS} (M : Rm A m) (H : TS c A env σ (eval iter env) fun xv σ1 => ∃ a, xv = .ref a ∧ At c.w σ1.g a (.tup []) ∧ XS c A env σ1 rest N R)
    (hs : ∀ x, foldedSetIterable iter env x = pure x := by intro _; rfl) : XS c A env σ (.For target iter body [] pos :: rest) N R :=
  XS_for (TS.mono H (by
    rintro _ ⟨g1, bs1, mu1⟩ ⟨a, rfl, ha, X⟩
    refine ⟨0, _, mu1, fun i σ' => σ' = ⟨g1, bs1, mu1⟩, Iter_tup0 M ha, rfl, ?_, ?_, ?_⟩
    · rintro i _ rfl; exact Keeps.refl _
    · intro i _ _ _ _ _ hi; (first | lia | omega)
    · rintro _ rfl; exact X)) hs

theorem filterMap_short {α β : Type} (f : α → Option β) : ∀ l : List α, (l.any fun x => (f x).isNone) = true → (l.filterMap f).length < l.length
  | [], h => by simp at h
  | x :: r, h => by
    rw [List.any_cons] at h
    cases hx : f x with
    | none =>
      rw [List.filterMap_cons_none hx]
      have := List.length_filterMap_le f r
      simp only [List.length_cons]
      (first | lia | omega)
    | some y =>
      rw [List.filterMap_cons_some hx]
      rw [hx] at h
      have := filterMap_short f r (by simpa using h)
      simp only [List.length_cons]
      (first | lia | omega)
theorem swap_none {c : Cx} (E : EnvIs env names cl) {ts vs : List Expr} {k k' : Nat} {p q : Pos} (h : (ts.any fun t => match t with | .Name id _ => !(names.lookup id == some NameKind.local) | _ => true) = true) : swappedStores [.Tuple ts k p] (.Tuple vs k' q) env = pure none := by
  unfold swappedStores
  dsimp only
  split
  · rfl
  split
  · rfl
  rw [if_pos]
  rw [Bool.or_eq_true]
  refine .inl (bne_iff_ne.mpr (Nat.ne_of_lt (filterMap_short _ ts ?_)))
  rw [List.any_eq_true] at h ⊢
  obtain ⟨t, ht, e⟩ := h
  refine ⟨t, ht, ?_⟩
  cases t <;> first
    | rfl
    | (rename_i id pos
       dsimp only at e ⊢
       have hk : env.kindOf id = names.lookup id := by unfold Env.kindOf; rw [E.same]
       rw [hk]
       rw [Bool.not_eq_true'] at e
       rw [e]
       rfl)

/-- all that may turn is kept for good -/
theorem Out.all {c : Cx} {P} {v : Value} {g0 : Heap} (k : Keeps g0 g) (h : ∀ g', Keeps g g' → (∀ a sp, (a, sp) ∈ mu → At c.w g' a sp) → P v g' []) : Out c g0 P v ⟨g, bs, mu⟩ :=
  ⟨mu, [], by simp, k, fun g' q r => h g' q fun a sp hm => r (a, sp) hm⟩
theorem Out.drop1 {c : Cx} {P} {v : Value} {g0 : Heap} {a1 : Addr} {s1 : Sp} (k : Keeps g0 g) (h : ∀ g', Keeps g g' → At c.w g' a1 s1 → P v g' mu) : Out c g0 P v ⟨g, bs, (a1, s1) :: mu⟩ :=
  ⟨[(a1, s1)], mu, List.Perm.refl _, k, fun g' q r => h g' q (r _ (.head _))⟩
theorem Out.drop2 {c : Cx} {P} {v : Value} {g0 : Heap} {a1 a2 : Addr} {s1 s2 : Sp} (k : Keeps g0 g) (h : ∀ g', Keeps g g' → At c.w g' a1 s1 → At c.w g' a2 s2 → P v g' mu) : Out c g0 P v ⟨g, bs, (a1, s1) :: (a2, s2) :: mu⟩ :=
  ⟨[(a1, s1), (a2, s2)], mu, List.Perm.refl _, k, fun g' q r => h g' q (r _ (.head _)) (r _ (.tail _ (.head _)))⟩
theorem Out.drop3 {c : Cx} {P} {v : Value} {g0 : Heap} {a1 a2 a3 : Addr} {s1 s2 s3 : Sp} (k : Keeps g0 g) (h : ∀ g', Keeps g g' → At c.w g' a1 s1 → At c.w g' a2 s2 → At c.w g' a3 s3 → P v g' mu) : Out c g0 P v ⟨g, bs, (a1, s1) :: (a2, s2) :: (a3, s3) :: mu⟩ :=
  ⟨[(a1, s1), (a2, s2), (a3, s3)], mu, List.Perm.refl _, k, fun g' q r => h g' q (r _ (.head _)) (r _ (.tail _ (.head _))) (r _ (.tail _ (.tail _ (.head _))))⟩
theorem Out.pure {c : Cx} {P} {v : Value} {g0 : Heap} (k : Keeps g0 g) (h : ∀ g', Keeps g g' → P v g' mu) : Out c g0 P v ⟨g, bs, mu⟩ := ⟨[], mu, List.Perm.refl _, k, fun g' q _ => h g' q⟩
end
section
variable {c : Cx} {A : Around} {env : Env} {σ : SS} {x i : Int} {tx : Tok} {k : Nat} {pos : Pos} {Q : Value → SS → Prop}
theorem TS_iadd (p : ∀ z, Q (.int (x + i) z) σ) : TS c A env σ (eval (.Constant (.int i) k pos) env) (fun b σ2 => TS c A env σ2 (binaryOp .Add (.int x tx) b) Q) := TS_int fun _ => TS_add p
theorem TS_isub (p : ∀ z, Q (.int (x - i) z) σ) : TS c A env σ (eval (.Constant (.int i) k pos) env) (fun b σ2 => TS c A env σ2 (binaryOp .Sub (.int x tx) b) Q) := TS_int fun _ => TS_sub p
theorem TS_ieq (p : Q (.bool (decide (x = i))) σ) : TS c A env σ (eval (.Constant (.int i) k pos) env) (fun b σ2 => TS c A env σ2 (compareOp .Eq (.int x tx) b) Q) := TS_int fun _ => TS_eq p
theorem TS_ine (p : Q (.bool (decide (x ≠ i))) σ) : TS c A env σ (eval (.Constant (.int i) k pos) env) (fun b σ2 => TS c A env σ2 (compareOp .NotEq (.int x tx) b) Q) := TS_int fun _ => TS_ne p
theorem TS_igt (p : Q (.bool (decide (i < x))) σ) : TS c A env σ (eval (.Constant (.int i) k pos) env) (fun b σ2 => TS c A env σ2 (compareOp .Gt (.int x tx) b) Q) := TS_int fun _ => TS_gt p
end
theorem F_itup {c : Cx} {A : Around} {env : Env} {g : Heap} {bs : List (Str × Option Value)} {mu : List (Addr × Sp)} {value slice : Expr} {l : Addr} {vs : List Value} {k : Int} {kk : Nat} {pos : Pos} {x : Value} {Q : Value → SS → Prop} (Rl : RdF c.w g mu l (.tup vs)) (h0 : 0 ≤ k) (h1 : k < 1000) (hx : vs[k.toNat]? = some x) (p : Q x ⟨g, bs, mu⟩)
    (hs : ∀ t, subscripted slice false (.ref l) (.int k t) = operate [.ref l, .int k t] (getItem (.ref l) (.int k t))) : TS c A env ⟨g, bs, mu⟩ (eval (.Constant (.int k) kk pos) env) (fun i σ2 => TS c A env σ2 (subscriptTail value slice (.ref l) i) Q) :=
  TS_int fun t => F_tup Rl h0 h1 hx p (hs t)
/-- what follows by a name of its own -/
theorem XS_genN {c : Cx} {A : Around} {env : Env} {σ : SS} {ss : List Stmt} {N : SS → Prop} {R : Value → SS → Prop} (H : ∀ N2 : SS → Prop, (∀ σ, N σ → N2 σ) → XS c A env σ ss N2 R) : XS c A env σ ss N R := H N fun _ h => h
theorem Nn.back {N0 N : SS → Prop} {σ : SS} (h : ∀ σ, N0 σ → N σ) (p : N0 σ) : N σ := h σ p
theorem XS_whileG {c : Cx} {A : Around} {env : Env} {σ : SS} {rest : List Stmt} {N : SS → Prop} {R : Value → SS → Prop} {test : Expr} {body : List Stmt} {pos : Pos} (Inv : Nat → SS → Prop) (n : Nat) (h0 : Inv n σ)
    (turn : ∀ n σ, ∀ N2 : SS → Prop, (∀ σ2, (∃ m, m < n ∧ Inv m σ2) → N2 σ2) → Inv n σ → TS c A env σ (isTrue test env (eval test env)) fun b σ1 => if b then XS c A env σ1 body N2 R else XS c A env σ1 rest N R) :
    XS c A env σ (.While test body [] pos :: rest) N R := XS_while Inv n h0 fun n σ hi => turn n σ _ (fun _ h => h) hi
/-- the promise and the depth by names of their own, for the walk -/
theorem XS_gen {c : Cx} {A : Around} {env : Env} {σ : SS} {ss : List Stmt} {O : Value → SS → Prop} {n : Nat} (M : Rm A n) (H : ∀ (A2 : Around) (R : Value → SS → Prop), Rm A2 n → O = R → XS c A2 env σ ss (R .none) R) : XS c A env σ ss (O .none) O := H A O M rfl
theorem Out.back {O R : Value → SS → Prop} {v : Value} {σ : SS} (h : O = R) (p : O v σ) : R v σ := h ▸ p
set_option maxHeartbeats 4000000
theorem fillK : hd.heap_39 = hd.heap_39 ∧ PySem.Challenge.rw_sq0006_01 = PySem.Challenge.rw_sq0006_01 := by
  k_fill
  exact ⟨rfl, rfl⟩
local macro_rules | `(tactic| tb_rel) => `(tactic| first
  | (with_reducible assumption)
  | (with_reducible exact Keeps.refl _)
  | ((with_reducible refine' Keeps.trans ?k1 ?k2); (case k2 => with_reducible assumption); tb_rel)
  | ((with_reducible refine' At.mono ?k1 ?k2); (case k1 => with_reducible assumption); (case k2 => tb_rel)))
local macro_rules | `(tactic| tb_start) => `(tactic| with_reducible first
  | ((try refine RdF.m ?_); (repeat (first | exact List.mem_cons_self | refine List.mem_cons_of_mem _ ?_)); done)
  | (refine RdF.g ?_; tb_rel)
  | ((repeat (first | exact SetL.head | exact Upd1.head | exact SetF.head | exact AddF.nil | apply SetL.tail | apply Upd1.tail | apply SetF.tail | apply AddF.cons)); done))
local macro_rules | `(tactic| got_up) => `(tactic| (
  (case ho => k_is); (case hcd => k_is); (case hbind => first | exact fun s _ => BindsTo.of_eq rfl | (intro s X; refine' binds_K X rfl ?h1 ?h2 ?h3 ?h4; (case h1 => k_is); (case h2 => exact rfl); (case h3 => exact rfl); (case h4 => exact rfl))); (case hok => decide +kernel); (case hnd => kernel_rfl); (case hloc => kernel_rfl); (case hcell => kernel_rfl)
  (case hco => exact rfl); (case hgen => exact rfl); (case hk => exact rfl)))
local macro_rules | `(tactic| kwd_less) => `(tactic| first | decide | (first | lia | omega) | (simp only [List.length_append, List.length_cons, List.length_nil, List.length_take, List.length_drop, List.length_replicate, List.length_map] at *; (first | lia | omega)))
local macro_rules | `(tactic| k_units) => `(tactic| (
  repeat (case zs => tb_start)
  fail_if_success (case' zs => skip)
  repeat (first | (case zi => k_is) | (case zk => kernel_rfl) | (case zr => exact rfl) | (case zd => decide))
  fail_if_success (first | (case' zi => skip) | (case' zk => skip) | (case' zr => skip) | (case' zd => skip))
  repeat (first | (case zu => with_unfolding_all rfl) | (case zv => intro _; with_unfolding_all rfl) | (case zb => exact of_decide_eq_true (by kernel_rfl)) | (case zt => tb_start) | (case zm => first | exact Boot.len | exact Boot.min | exact Boot.max | exact Boot.range | exact Boot.zip | exact Boot.abs | exact Boot.enumerate))
  repeat (case zl => kwd_less)
  fail_if_success (first | (case' zu => skip) | (case' zv => skip) | (case' zb => skip) | (case' zt => skip) | (case' zm => skip) | (case' zl => skip))))
local macro_rules | `(tactic| kt_ors) => `(tactic| repeat (first
  | ((with_reducible show TS _ _ _ _ (eval _ _) _); (first
    | ((with_reducible refine' F_local (by assumption) ?zs.a ?zs.b ?_); k_units)
    | ((with_reducible first | refine TS_Call ?_ | refine' TS_Attribute ?_ ?zu.a | refine TS_BinOp ?_); k_units)
    | ((with_reducible refine' F_itup ?zs.a ?zd.a ?zd.b ?zr.a ?_ ?zv.a); k_units)
    | ((with_reducible first | refine' TS_iadd ?_ | refine' TS_isub ?_ | refine TS_ieq ?_ | refine TS_ine ?_ | refine TS_igt ?_ | refine' TS_int ?_); intros)
    | ((with_reducible refine' G_glob (by assumption) ?zs.a ?zi.a ?_); k_units)
    | ((with_reducible refine' F_cell (by assumption) ?zs.a ?zs.b ?zb.a ?zt.a ?_); k_units)
    | ((with_reducible refine' G_blt (by assumption) ?zs.a ?zi.a ?zm.a ?_); k_units)
    | ((with_reducible first | refine TS_sliceTo ?_ | refine TS_sliceFrom ?_ | refine TS_Subscript ?_ | refine' TS_MethCall ?_ ?zr.a | refine' F_Tuple ?_ ?zr.a ?zd.a | refine' F_List ?_ ?zr.a ?zd.a | refine TS_none ?_ | refine TS_bool ?_ | refine' TS_Compare1 ?_ ?zu.a | refine TS_UnaryOp ?_ | refine TS_IfExp ?_ | refine TS_BoolOp ?_ | refine' TS_Compare2 ?_ ?zu.a); k_units)))
  | (with_reducible first | refine L_cons ?_ | refine L_nil ?_)
  | ((with_reducible show TS _ _ _ _ _ _); (first
    | ((with_reducible first
      | refine' G_getAttr ?zs.a ?zs.b ?zs.c ?zk.a ?zr.a ?_ | refine TS_truthyB ?_ | refine' TS_isTrue1 ?_ ?zu.a | refine' F_cw0 CallOk.b ?_ ?zr.a | refine' G_cw0 ?zi.a ?_ ?zr.a | refine' F_cw1 CallOk.b ?_ ?zr.a | refine' G_cw1 ?zi.a ?_ ?zr.a | refine TS_or_cons ?_ | refine TS_isTrueBool ?_ | refine TS_and_cons ?_ | refine TS_eq ?_ | refine TS_or_nil ?_ | refine TS_ne ?_ | refine TS_and_nil ?_ | refine TS_lt ?_
      | refine' F_tup ?zs.a ?zd.a ?zd.b ?zr.a ?_ ?zu.a | refine' F_append ?zs.a ?zl.a ?_ | refine TS_isNoneNone ?_ | refine TS_ge ?_ | refine TS_boAnd ?_ | refine TS_boOr ?_ | refine TS_bo1 ?_ | refine TS_gt ?_ | refine TS_le ?_ | refine TS_isNoneInt ?_ | refine TS_isNotNoneRef ?_ | refine TS_isNotNoneNone ?_ | refine TS_isTrueNot ?_ | refine TS_isNoneRef ?_ | refine' TS_isTrue2 ?_ ?zu.a | refine' F_cw0 CallOk.t ?_ ?zr.a | refine' TS_isTrueV ?_ ?zr.a); k_units)
    | ((with_reducible first | refine' TS_add ?_ | refine' TS_sub ?_ | refine' TS_neg ?_ | refine' TS_mod ?zl.a ?_); k_units; intros)
    | ((with_reducible refine' G_getMeth ?zs.a ?zs.b ?zi.a ?zk.a ?zk.b ?_); k_units)
    | ((with_reducible refine' G_setAttr ?zs.a ?zs.b ?zs.c ?zk.a ?zk.b ?_); k_units)
    | ((with_reducible refine' G_addAttr ?zs.a ?zs.b ?zs.c ?zk.a ?zk.b ?zk.c ?_); k_units)
    | ((with_reducible refine' F_lenI ?zs.a ?zl.a ?_); k_units; intro _)
    | ((with_reducible refine' F_lenL ?zs.a ?zl.a ?_); k_units; intro _)
    | ((with_reducible refine' F_concatI ?zs.a ?zs.b ?zl.a ?_); k_units; intro _)
    | ((with_reducible refine' F_concat ?zs.a ?zs.b ?zl.a ?_); k_units; intro _)
    | ((with_reducible refine' F_mAppend ?zs.a ?_); k_units)
    | ((with_reducible refine' F_mPop ?zs.a ?_); k_units)
    | ((with_reducible refine' F_neE (by assumption) ?zs.a ?zs.b ?_); k_units)
    | ((with_reducible refine' F_neEI (by assumption) ?zs.a ?zs.b ?_); k_units)
    | ((with_reducible refine' F_eqE (by assumption) ?zs.a ?zs.b ?_); k_units)
    | ((with_reducible first | refine' TS_max (by assumption) ?_ | refine' TS_min (by assumption) ?_); intros)))
  | ((with_reducible show XS _ _ _ _ _ _ _); (first
    | ((with_reducible first | refine XS_nil ?_ | refine XS_ret ?_ | refine' XS_setattr ?_ ?zr.a | refine XS_if ?_ | refine' XS_expr (by assumption) ?_ ?zr.a | refine' XS_setitem ?_ ?zr.a); k_units)
    | ((with_reducible refine' F_asg (by assumption) ?zs.a ?_ ?zr.a); k_units)
    | ((with_reducible refine' F_swp (by assumption) (swapped2 (by assumption) ?zs.a ?zs.b ?zd.a ?zd.b ?zr.a ?zr.b ?zr.c) ?_ ?zr.e); k_units)
    | ((with_reducible refine' F_swp (by assumption) (swapped3 (by assumption) ?zs.a ?zs.b ?zs.c ?zd.a ?zd.b ?zr.a ?zr.b ?zr.c) ?_ ?zr.f); k_units)
    | ((with_reducible refine' F_unp (by assumption) ?_ ?zr.a ?zr.b ?zr.c); k_units)
    | ((with_reducible refine' F_unp (by assumption) ?_ ?zr.a ?zr.b (swap_none (c := cx (by assumption)) (by assumption) ?zk.a)); k_units)
    | ((with_reducible refine' F_asgCell (by assumption) ?zs.a ?zs.b ?zb.a ?_ ?zr.a); k_units)))
  | ((with_reducible first
    | refine ite_f ?_ | refine Out.back (by assumption) ?_ | refine' StN.mk ?zs.a ?_ | refine ite_t ?_ | refine' N_cons (by assumption) ?zs.a ?zs.b ?_ | refine A_nil ?_ | refine Nn.back (by assumption) ?_ | refine N_nil ?_ | refine' UnpK.mk ?zs.a ?zr.a ?_ | refine' SwpK.mk2 ?zs.a ?_ | refine A_attr ?_ | refine ite_nt ?_ | refine' SwpK.mk3 ?zs.a ?_ | refine ite_nf ?_ | refine' StC.mk ?zs.a ?_); k_units)
  | ((with_reducible first | refine TupK.mk ?_ | refine LstK.mk ?_); intros)
  | ((with_reducible refine' A_name (by assumption) ?zs.a ?zs.b ?_); k_units)
  | ((with_reducible refine' A_cell (by assumption) ?zs.a ?zs.b ?zb.a ?zt.a ?_); k_units)))
local macro_rules | `(tactic| one_item) => `(tactic| (kt_ors; repeat' (refine ite_d (fun _ => ?_) (fun _ => ?_) <;> kt_ors)))
theorem is_raw_ok {w : World} {A : Around} (M : Rm A 1) (g : Heap) (i : Int) (t : Tok) :
    CC (cx w) A g [] (.call (.ref 57) ⟨[.int i t], []⟩) (fun v g' mu' => mu' = [] ∧ v = .bool (decide (128 ≤ i ∧ i < 160))) := by
  refine' C_def M [] ?ho ?hcd ?hbind ?hok ?hnd ?hloc ?hcell ?hco ?hgen ?hk ?h
  got_up
  intro env E M
  dsimp only [bsInit, List.map, List.zip, List.zipWith, List.nil_append, List.cons_append, List.append_nil] at *
  one_item
  all_goals
    (try refine Out.back hRR ?_)
    refine Out.pure (by tb_rel) fun _ _ => ⟨rfl, ?_⟩
    congr 1
    simp <;> (first | lia | omega)

theorem is_control_ok {w : World} {A : Around} (M : Rm A 1) (g : Heap) (i : Int) (t : Tok) :
    CC (cx w) A g [] (.call (.ref 50) ⟨[.int i t], []⟩) (fun v g' mu' => mu' = [] ∧ v = .bool (decide ((0 ≤ i ∧ i < 32 ∧ i ≠ 10 ∧ i ≠ 9) ∨ i = 127))) := by
  refine' C_def M [] ?ho ?hcd ?hbind ?hok ?hnd ?hloc ?hcell ?hco ?hgen ?hk ?h
  got_up
  intro env E M
  dsimp only [bsInit, List.map, List.zip, List.zipWith, List.nil_append, List.cons_append, List.append_nil] at *
  one_item
  all_goals
    (try refine Out.back hRR ?_)
    refine Out.pure (by tb_rel) fun _ _ => ⟨rfl, ?_⟩
    congr 1
    rw [decide_eq_decide]; (first | lia | omega)

/-! ## the view -/
structure ViewAt (w : World) (g : Heap) (x dx l : Addr) (t : Tok) (text : List Int) (f : Int) : Prop where
  i : At w g x (.inst 138 dx)
  d : At w g dx (.dict [("codes", .ref l), ("first", .int f t)])
  c : At w g l (.intl text)
  n : text.length ≤ 100
theorem ViewAt.mono {w : World} {g h : Heap} {x dx l t text f} (v : ViewAt w g x dx l t text f) (k : Keeps g h) : ViewAt w h x dx l t text f := ⟨v.i.mono k, v.d.mono k, v.c.mono k, v.n⟩
theorem view_init_ok {w : World} {A : Around} (M : Rm A 1) (g : Heap) {x dx l : Addr} {t : Tok} {f : Int} :
    CC (cx w) A g [(x, .inst 138 dx), (dx, .dict [])] (.call (.ref 86) ⟨[.ref x, .ref l, .int f t], []⟩) (fun v g' mu' => v = .none ∧ mu' = [] ∧ At w g' x (.inst 138 dx) ∧ At w g' dx (.dict [("codes", .ref l), ("first", .int f t)])) := by
  refine' C_def M [] ?ho ?hcd ?hbind ?hok ?hnd ?hloc ?hcell ?hco ?hgen ?hk ?h
  got_up
  intro env E M
  dsimp only [bsInit, List.map, List.zip, List.zipWith, List.nil_append, List.cons_append, List.append_nil] at *
  kt_ors
  (try refine Out.back hRR ?_)
  exact Out.all (by tb_rel) fun g' k h => ⟨rfl, rfl, h _ _ (by tb_start), h _ _ (by tb_start)⟩

theorem view_begin_ok {w : World} {A : Around} (M : Rm A 1) (g : Heap) {x dx l : Addr} {t : Tok} {text : List Int} {f : Int} (V : ViewAt w g x dx l t text f) :
    CC (cx w) A g [] (.call (.ref 93) ⟨[.ref x], []⟩) (fun v g' mu' => mu' = [] ∧ v = .int f t) := by
  refine' C_def M [] ?ho ?hcd ?hbind ?hok ?hnd ?hloc ?hcell ?hco ?hgen ?hk ?h
  got_up
  intro env E M
  dsimp only [bsInit, List.map, List.zip, List.zipWith, List.nil_append, List.cons_append, List.append_nil] at *
  obtain ⟨h1, h2, h3, h4⟩ := V
  kt_ors
  (try refine Out.back hRR ?_)
  exact Out.pure (by tb_rel) fun _ _ => ⟨rfl, rfl⟩

theorem view_end_ok {w : World} {A : Around} (M : Rm A 1) (g : Heap) {x dx l : Addr} {t : Tok} {text : List Int} {f : Int} (V : ViewAt w g x dx l t text f) :
    CC (cx w) A g [] (.call (.ref 100) ⟨[.ref x], []⟩) (fun v g' mu' => mu' = [] ∧ ∃ t, v = .int (f + text.length) t) := by
  refine' C_def M [] ?ho ?hcd ?hbind ?hok ?hnd ?hloc ?hcell ?hco ?hgen ?hk ?h
  got_up
  intro env E M
  dsimp only [bsInit, List.map, List.zip, List.zipWith, List.nil_append, List.cons_append, List.append_nil] at *
  obtain ⟨h1, h2, h3, h4⟩ := V
  kt_ors
  (try refine Out.back hRR ?_)
  exact Out.pure (by tb_rel) fun _ _ => ⟨rfl, _, rfl⟩

theorem view_faces_ok {w : World} {A : Around} (M : Rm A 1) (g : Heap) {x : Value} {i : Int} {t : Tok} :
    CC (cx w) A g [] (.call (.ref 114) ⟨[x, .int i t], []⟩) (fun v g' mu' => mu' = [] ∧ ∃ a, v = .ref a ∧ At w g' a (.tup [])) := by
  refine' C_def M [] ?ho ?hcd ?hbind ?hok ?hnd ?hloc ?hcell ?hco ?hgen ?hk ?h
  got_up
  intro env E M
  dsimp only [bsInit, List.map, List.zip, List.zipWith, List.nil_append, List.cons_append, List.append_nil] at *
  kt_ors
  (try refine Out.back hRR ?_)
  exact Out.pure (by tb_rel) fun _ k => ⟨rfl, _, rfl, At.mono (by assumption) k⟩
theorem view_strings_ok {w : World} {A : Around} (M : Rm A 1) (g : Heap) {x : Value} {i : Int} {t : Tok} :
    CC (cx w) A g [] (.call (.ref 135) ⟨[x, .int i t], []⟩) (fun v g' mu' => mu' = [] ∧ ∃ a, v = .ref a ∧ At w g' a (.tup [])) := by
  refine' C_def M [] ?ho ?hcd ?hbind ?hok ?hnd ?hloc ?hcell ?hco ?hgen ?hk ?h
  got_up
  intro env E M
  dsimp only [bsInit, List.map, List.zip, List.zipWith, List.nil_append, List.cons_append, List.append_nil] at *
  kt_ors
  (try refine Out.back hRR ?_)
  exact Out.pure (by tb_rel) fun _ k => ⟨rfl, _, rfl, At.mono (by assumption) k⟩
theorem view_hidden_ok {w : World} {A : Around} (M : Rm A 1) (g : Heap) {x : Value} {i : Int} {t : Tok} :
    CC (cx w) A g [] (.call (.ref 121) ⟨[x, .int i t], []⟩) (fun v g' mu' => mu' = [] ∧ ∃ t, v = .int 0 t) := by
  refine' C_def M [] ?ho ?hcd ?hbind ?hok ?hnd ?hloc ?hcell ?hco ?hgen ?hk ?h
  got_up
  intro env E M
  dsimp only [bsInit, List.map, List.zip, List.zipWith, List.nil_append, List.cons_append, List.append_nil] at *
  kt_ors
  (try refine Out.back hRR ?_)
  exact Out.pure (by tb_rel) fun _ k => ⟨rfl, _, rfl⟩
theorem view_shown_ok {w : World} {A : Around} (M : Rm A 1) (g : Heap) {x : Value} {i : Int} {t : Tok} :
    CC (cx w) A g [] (.call (.ref 128) ⟨[x, .int i t], []⟩) (fun v g' mu' => mu' = [] ∧ v = .none) := by
  refine' C_def M [] ?ho ?hcd ?hbind ?hok ?hnd ?hloc ?hcell ?hco ?hgen ?hk ?h
  got_up
  intro env E M
  dsimp only [bsInit, List.map, List.zip, List.zipWith, List.nil_append, List.cons_append, List.append_nil] at *
  kt_ors
  (try refine Out.back hRR ?_)
  exact Out.pure (by tb_rel) fun _ k => ⟨rfl, rfl⟩
def codeAt (text : List Int) (f p : Int) : Int := if f ≤ p ∧ p < f + text.length then (text[(p - f).toNat]?).getD 0 else -1
theorem view_code_ok {w : World} {A : Around} (M : Rm A 2) (g : Heap) {x dx l : Addr} {t u : Tok} {text : List Int} {f p : Int} (V : ViewAt w g x dx l t text f) :
    CC (cx w) A g [] (.call (.ref 107) ⟨[.ref x, .int p u], []⟩) (fun v g' mu' => mu' = [] ∧ ∃ t, v = .int (codeAt text f p) t) := by
  refine' C_def M [] ?ho ?hcd ?hbind ?hok ?hnd ?hloc ?hcell ?hco ?hgen ?hk ?h
  got_up
  intro env E M
  dsimp only [bsInit, List.map, List.zip, List.zipWith, List.nil_append, List.cons_append, List.append_nil] at *
  obtain ⟨h1, h2, h3, h4⟩ := id V
  kt_ors
  refine F_call0 (view_begin_ok M g V) ?_
  rintro _ g1 k1 rfl
  kt_ors
  refine ite_d (fun h5 => ?_) (fun h5 => ?_)
  · kt_ors
    refine F_call0 (view_end_ok M g1 (V.mono (by tb_rel))) ?_
    rintro _ g2 k2 ⟨t2, rfl⟩
    kt_ors
    refine ite_d (fun h6 => ?_) (fun h6 => ?_)
    · kt_ors
      have hi : (p - f).toNat < text.length := by (first | lia | omega)
      refine F_itemI (by tb_start) (by (first | lia | omega)) (by (first | lia | omega)) (List.getElem?_eq_getElem hi) ?_
      intro _
      (try refine Out.back hRR ?_)
      exact Out.pure (by tb_rel) fun _ _ => ⟨rfl, _, by rw [codeAt, if_pos ⟨h5, h6⟩, List.getElem?_eq_getElem hi]; rfl⟩
    · kt_ors
      (try refine Out.back hRR ?_)
      exact Out.pure (by tb_rel) fun _ _ => ⟨rfl, _, by rw [codeAt, if_neg (fun h => h6 h.2)]⟩
  · kt_ors
    (try refine Out.back hRR ?_)
    exact Out.pure (by tb_rel) fun _ _ => ⟨rfl, _, by rw [codeAt, if_neg (fun h => h5 h.1)]⟩
set_option maxHeartbeats 4000000

/-! ## options, faces -/
structure OptAt (w : World) (g : Heap) (x dx : Addr) (t u : Tok) : Prop where
  i : At w g x (.inst 39 dx)
  d : At w g dx (.dict [("tab_width", .int 8 t), ("has_carets", .bool true), ("truncates", .bool false), ("wraps_words", .bool false), ("hscroll", .int 0 u)])
theorem OptAt.mono {w : World} {g h : Heap} {x dx t u} (v : OptAt w g x dx t u) (k : Keeps g h) : OptAt w h x dx t u := ⟨v.i.mono k, v.d.mono k⟩
structure TabAt (w : World) (g : Heap) (x dx : Addr) (a b c : Value) : Prop where
  i : At w g x (.inst 484 dx)
  d : At w g dx (.dict [("by_name", a), ("looks", b), ("numbers", c)])
theorem TabAt.mono {w : World} {g h : Heap} {x dx a b c} (v : TabAt w g x dx a b c) (k : Keeps g h) : TabAt w h x dx a b c := ⟨v.i.mono k, v.d.mono k⟩

def shownOf (code col : Int) : List Int := if code = 9 then List.replicate (8 - col % 8).toNat 32 else if code = 1 then [94, 65] else [code]

theorem ints_replicate (n : Nat) (z : Int) (t : Tok) : IntsAre (List.replicate n (Value.int z t)) (List.replicate n z) := by
  induction n with
  | zero => exact .nil
  | succ n ih => rw [List.replicate_succ, List.replicate_succ]; exact .cons _ _ ih

theorem shown_codes_ok {w : World} {A : Around} (M : Rm A 2) (g : Heap) {x dx : Addr} {t u t' u' : Tok} {code col : Int} (V : OptAt w g x dx t u) (hc : code = 97 ∨ code = 98 ∨ code = 99 ∨ code = 9 ∨ code = 1) (h0 : 0 ≤ col) :
    CC (cx w) A g [] (.call (.ref 71) ⟨[.int code t', .int col u', .ref x], []⟩) (fun v g' mu' => mu' = [] ∧ ∃ a, v = .ref a ∧ At w g' a (.intl (shownOf code col))) := by
  refine' C_def M [] ?ho ?hcd ?hbind ?hok ?hnd ?hloc ?hcell ?hco ?hgen ?hk ?h
  got_up
  intro env E M
  dsimp only [bsInit, List.map, List.zip, List.zipWith, List.nil_append, List.cons_append, List.append_nil] at *
  obtain ⟨h1, h2⟩ := id V
  kt_ors
  refine ite_d (fun h5 => by (first | lia | omega)) (fun h5 => ?_)
  kt_ors
  refine ite_d (fun h6 => ?_) (fun h6 => ?_)
  · kt_ors
    subst h6
    have hm := Int.emod_nonneg col (show (8 : Int) ≠ 0 by decide)
    have hl := Int.emod_lt_of_pos col (show (0 : Int) < 8 by decide)
    refine F_repeat (by tb_start) (by (first | lia | omega)) (by (first | lia | omega)) ?_
    intro a
    (try refine Out.back hRR ?_)
    refine Out.all (by tb_rel) fun g' k h => ⟨rfl, a, rfl, ?_⟩
    rw [shownOf, if_pos rfl]
    exact At.ofList (h a _ (by tb_start)) (ints_replicate _ _ _)
  · kt_ors
    refine F_call0 (is_raw_ok (M.le (by decide)) g code t') ?_
    rintro _ g1 k1 rfl
    kt_ors
    refine ite_df (by (first | lia | omega)) ?_
    kt_ors
    refine F_call0 (is_control_ok (M.le (by decide)) g1 code t') ?_
    rintro _ g2 k2 rfl
    kt_ors
    refine ite_d (fun h7 => ?_) (fun h7 => ?_)
    · kt_ors
      refine F_call0 (is_control_ok (M.le (by decide)) g2 code t') ?_
      rintro _ g3 k3 rfl
      kt_ors
      refine ite_dt h7 ?_
      kt_ors
      refine ite_df (by (first | lia | omega)) ?_
      kt_ors
      (try refine Out.back hRR ?_)
      refine Out.all (by tb_rel) fun g' k h => ⟨rfl, _, rfl, ?_⟩
      rw [shownOf, if_neg h6, if_pos (by (first | lia | omega))]
      refine At.ofList (h _ _ (by tb_start)) ?_
      have e : code + 64 = 65 := by (first | lia | omega)
      rw [e]
      exact .cons _ _ (.cons _ _ .nil)
    · kt_ors
      refine F_call0 (is_control_ok (M.le (by decide)) g2 code t') ?_
      rintro _ g3 k3 rfl
      kt_ors
      refine ite_df h7 ?_
      kt_ors
      (try refine Out.back hRR ?_)
      refine Out.all (by tb_rel) fun g' k h => ⟨rfl, _, rfl, ?_⟩
      rw [shownOf, if_neg h6, if_neg (by (first | lia | omega))]
      exact At.ofList (h _ _ (by tb_start)) (.cons _ _ .nil)

theorem number_of_ok {w : World} {A : Around} (M : Rm A 2) (g : Heap) {x : Value} {a : Addr} (h1 : At w g a (.tup [])) :
    CC (cx w) A g [] (.call (.ref 474) ⟨[x, .ref a], []⟩) (fun v g' mu' => mu' = [] ∧ ∃ t, v = .int 0 t) := by
  refine' C_def M ["look"] ?ho ?hcd ?hbind ?hok ?hnd ?hloc ?hcell ?hco ?hgen ?hk ?h
  got_up
  intro env E M
  refine XS_gen M fun A2 RR M hRR => ?_
  dsimp only [bsInit, List.map, List.zip, List.zipWith, List.nil_append, List.cons_append, List.append_nil] at *
  kt_ors
  refine TS_eqD (da := .tuple []) (db := .tuple []) M (.tup (by tb_rel) .nil) (.tup (by tb_rel) .nil) (by decide) ?_
  rw [show PyData.eqv (.tuple []) (.tuple []) = true from by decide]
  kt_ors
  (try refine Out.back hRR ?_)
  exact Out.pure (by tb_rel) fun _ _ => ⟨rfl, _, rfl⟩

theorem is_break_ok {w : World} {A : Around} (M : Rm A 3) (g : Heap) {x dx l : Addr} {t u : Tok} {text : List Int} {f p : Int} (V : ViewAt w g x dx l t text f) :
    CC (cx w) A g [] (.call (.ref 170) ⟨[.ref x, .int p u], []⟩) (fun v g' mu' => mu' = [] ∧ v = .bool (decide (codeAt text f p = 10))) := by
  refine' C_def M [] ?ho ?hcd ?hbind ?hok ?hnd ?hloc ?hcell ?hco ?hgen ?hk ?h
  got_up
  intro env E M
  refine XS_gen M fun A2 RR M hRR => ?_
  dsimp only [bsInit, List.map, List.zip, List.zipWith, List.nil_append, List.cons_append, List.append_nil] at *
  obtain ⟨h1, h2, h3, h4⟩ := id V
  kt_ors
  refine F_call0 (view_code_ok (M.le (by decide)) g V) ?_
  rintro _ g1 k1 ⟨t1, rfl⟩
  kt_ors
  refine ite_d (fun h5 => ?_) (fun h5 => ?_)
  · kt_ors
    refine F_call0 (view_hidden_ok (M.le (by decide)) g1) ?_
    rintro _ g2 k2 ⟨t2, rfl⟩
    kt_ors
    refine ite_dt rfl ?_
    kt_ors
    refine F_call0 (view_shown_ok (M.le (by decide)) g2) ?_
    rintro _ g3 k3 rfl
    kt_ors
    (try refine Out.back hRR ?_)
    exact Out.pure (by tb_rel) fun _ _ => ⟨rfl, by rw [decide_eq_true h5]⟩
  · kt_ors
    (try refine Out.back hRR ?_)
    exact Out.pure (by tb_rel) fun _ _ => ⟨rfl, by rw [decide_eq_false h5]⟩

/-! ## Signs -/
theorem signs_init_ok {w : World} {A : Around} (M : Rm A 1) (g : Heap) {x dx : Addr} {a b c : Value} :
    CC (cx w) A g [(x, .inst 159 dx), (dx, .dict [])] (.call (.ref 156) ⟨[.ref x, a, b, c], []⟩) (fun v g' mu' => v = .none ∧ mu' = [] ∧ At w g' x (.inst 159 dx) ∧ At w g' dx (.dict [("rows", a), ("after", b), ("reach", c)])) := by
  refine' C_def M [] ?ho ?hcd ?hbind ?hok ?hnd ?hloc ?hcell ?hco ?hgen ?hk ?h
  got_up
  intro env E M
  refine XS_gen M fun A2 RR M hRR => ?_
  dsimp only [bsInit, List.map, List.zip, List.zipWith, List.nil_append, List.cons_append, List.append_nil] at *
  kt_ors
  (try refine Out.back hRR ?_)
  exact Out.all (by tb_rel) fun g' k h => ⟨rfl, rfl, h _ _ (by tb_start), h _ _ (by tb_start)⟩
inductive Q_signs_make_ok (w : World) (a : Value) (b : Value) (c : Value) (v : Value) (g' : Heap) : Prop
  | mk : ∀ x dx, (v = .ref x) → (At w g' x (.inst 159 dx)) → (At w g' dx (.dict [("rows", a), ("after", b), ("reach", c)])) → Q_signs_make_ok w a b c v g'
theorem signs_make_ok {w : World} {A : Around} (M : Rm A 2) (g : Heap) {a b c : Value} :
    CC (cx w) A g [] (.call (.ref 159) ⟨[a, b, c], []⟩) (fun v g' mu' => mu' = [] ∧ Q_signs_make_ok w a b c v g') := by
  refine CC_make (fI := 156) (by kernel_rfl) (by kernel_rfl) (by kernel_rfl) fun x dx => ?_
  refine (signs_init_ok (M.make) g).mono ?_
  rintro v g' mu' k ⟨rfl, rfl, a1, a2⟩
  exact ⟨rfl, rfl, x, dx, rfl, a1, a2⟩
theorem string_signs_ok {w : World} {A : Around} (M : Rm A 3) (g : Heap) {x dx l : Addr} {t u : Tok} {text : List Int} {f p : Int} {tab : Value} (V : ViewAt w g x dx l t text f) :
    CC (cx w) A g [] (.call (.ref 182) ⟨[.ref x, tab, .int p u], []⟩) (fun v g' mu' => mu' = [] ∧ ∃ a, v = .ref a ∧ At w g' a (.list [])) := by
  refine' C_defC M ["found", "codes", "faces"] ["face"] [("view", .ref x), ("table", tab), ("place", .int p u)] [] [none] ?ho ?hcd ?hbind ?hok ?hlb ?hcb ?hnd ?hcn ?hcnd ?hcv ?hkd ?hco ?hgen ?hk ?h
  (case ho => k_is); (case hcd => k_is); (case hbind => exact fun s _ => BindsTo.of_eq rfl); (case hok => decide +kernel); (case hlb => exact rfl); (case hcb => exact rfl); (case hnd => kernel_rfl); (case hcn => exact rfl); (case hcnd => kernel_rfl); (case hcv => exact rfl); (case hkd => kernel_rfl); (case hco => exact rfl); (case hgen => exact rfl); (case hk => exact rfl)
  intro env as hl E M
  obtain ⟨c1, rfl⟩ := List.length_eq_one_iff.mp hl
  refine XS_gen M fun A2 RR M hRR => ?_
  dsimp only [bsInit, List.map, List.zip, List.zipWith, List.nil_append, List.cons_append, List.append_nil] at *
  obtain ⟨h1, h2, h3, h4⟩ := id V
  kt_ors
  refine' F_for0 M ?_ ?k9
  case k9 => intro _; rfl
  kt_ors
  refine F_call0 (view_strings_ok (M.le (by decide)) g) ?_
  rintro _ g1 k1 ⟨a1, rfl, h5⟩
  refine ⟨_, rfl, h5, ?_⟩
  kt_ors
  (try refine Out.back hRR ?_)
  exact Out.all (by tb_rel) fun g' k h => ⟨rfl, _, rfl, h _ _ (by tb_start)⟩

/-- what stands at a place of the view -/
structure SignAt (w : World) (g : Heap) (x dx l : Addr) (t u : Tok) (text : List Int) (f p : Int) : Prop where
  i : At w g x (.inst 159 dx)
  d : At w g dx (.dict [("rows", .ref l), ("after", .int (if p < f + text.length then p + 1 else p) t), ("reach", .int (p + 1) u)])
  r : if p < f + text.length then ∃ a t1 t2 t3, At w g l (.list [.ref a]) ∧ At w g a (.tup [.int (codeAt text f p) t1, .int 0 t2, .int p t3]) else At w g l (.list [])
theorem SignAt.mono {w : World} {g h : Heap} {x dx l t u text f p} (v : SignAt w g x dx l t u text f p) (k : Keeps g h) : SignAt w h x dx l t u text f p := by
  refine ⟨v.i.mono k, v.d.mono k, ?_⟩
  have := v.r
  split at this
  · rename_i q
    rw [if_pos q]
    obtain ⟨a, t1, t2, t3, e1, e2⟩ := this
    exact ⟨a, t1, t2, t3, e1.mono k, e2.mono k⟩
  · rename_i q
    rw [if_neg q]
    exact this.mono k
theorem SignAt.past {w : World} {g : Heap} {x dx l : Addr} {t u : Tok} {text : List Int} {f p : Int} (h : ¬ p < f + text.length) (i : At w g x (.inst 159 dx)) (d : At w g dx (.dict [("rows", .ref l), ("after", .int p t), ("reach", .int (p + 1) u)])) (r : At w g l (.list [])) : SignAt w g x dx l t u text f p :=
  ⟨i, by rw [if_neg h]; exact d, by rw [if_neg h]; exact r⟩
theorem SignAt.here {w : World} {g : Heap} {x dx l : Addr} {t u : Tok} {text : List Int} {f p : Int} {a : Addr} {t1 t2 t3 : Tok} (h : p < f + text.length) (i : At w g x (.inst 159 dx)) (d : At w g dx (.dict [("rows", .ref l), ("after", .int (p + 1) t), ("reach", .int (p + 1) u)])) (r : At w g l (.list [.ref a]))
    (e : At w g a (.tup [.int (codeAt text f p) t1, .int 0 t2, .int p t3])) : SignAt w g x dx l t u text f p :=
  ⟨i, by rw [if_pos h]; exact d, by rw [if_pos h]; exact ⟨a, t1, t2, t3, r, e⟩⟩
def SignIs (w : World) (g : Heap) (v : Value) (text : List Int) (f p : Int) : Prop := ∃ x dx l t u, v = .ref x ∧ SignAt w g x dx l t u text f p

theorem signs_at_ok {w : World} {A : Around} (M : Rm A 4) (g : Heap) {x dx l y dy : Addr} {t u : Tok} {text : List Int} {f p : Int} {a b c : Value} (V : ViewAt w g x dx l t text f) (T : TabAt w g y dy a b c) :
    CC (cx w) A g [] (.call (.ref 194) ⟨[.ref x, .ref y, .int p u], []⟩) (fun v g' mu' => mu' = [] ∧ SignIs w g' v text f p) := by
  refine' C_defC M ["ahead", "shown", "codes", "faces", "end"] ["face", "place"] [("view", .ref x), ("table", .ref y)] [("place", .int p u)] [none, some (.int p u)] ?ho ?hcd ?hbind ?hok ?hlb ?hcb ?hnd ?hcn ?hcnd ?hcv ?hkd ?hco ?hgen ?hk ?h
  (case ho => k_is); (case hcd => k_is); (case hbind => exact fun s _ => BindsTo.of_eq rfl); (case hok => decide +kernel); (case hlb => exact rfl); (case hcb => exact rfl); (case hnd => kernel_rfl); (case hcn => exact rfl); (case hcnd => kernel_rfl); (case hcv => exact rfl); (case hkd => kernel_rfl); (case hco => exact rfl); (case hgen => exact rfl); (case hk => exact rfl)
  intro env as hl E M
  obtain ⟨c1, c2, rfl⟩ : ∃ a b, as = [a, b] := by match as, hl with | [a, b], _ => exact ⟨a, b, rfl⟩
  refine XS_gen M fun A2 RR M hRR => ?_
  dsimp only [bsInit, List.map, List.zip, List.zipWith, List.nil_append, List.cons_append, List.append_nil] at *
  obtain ⟨h1, h2, h3, h4⟩ := id V
  obtain ⟨h5, h6⟩ := id T
  kt_ors
  refine F_call0 (string_signs_ok (M.le (by decide)) g V) ?_
  rintro _ g1 k1 ⟨a1, rfl, h7⟩
  kt_ors
  refine F_call0 (view_end_ok (M.le (by decide)) g1 (V.mono (by tb_rel))) ?_
  rintro _ g2 k2 ⟨t1, rfl⟩
  kt_ors
  refine ite_d (fun h8 => ?_) (fun h8 => ?_)
  · kt_ors
    refine F_call0 (signs_make_ok (M.le (by decide)) g2) ?_
    rintro _ g3 k3 ⟨x3, d3, rfl, h9, h10⟩
    (try refine Out.back hRR ?_)
    exact Out.all (by tb_rel) fun g' k h => ⟨rfl, x3, d3, a1, _, _, rfl, .past (by (first | lia | omega)) (h9.mono k) (h10.mono k) (At.mono h7 (by tb_rel))⟩
  · kt_ors
    refine F_call0 (view_hidden_ok (M.le (by decide)) g2) ?_
    rintro _ g3 k3 ⟨t3, rfl⟩
    kt_ors
    refine ite_df (by simp) ?_
    kt_ors
    refine F_call0 (view_shown_ok (M.le (by decide)) g3) ?_
    rintro _ g4 k4 rfl
    kt_ors
    refine F_call0 (view_faces_ok (M.le (by decide)) g4) ?_
    rintro _ g5 k5 ⟨a5, rfl, h11⟩
    kt_ors
    refine F_call0 (number_of_ok (M.le (by decide)) g5 h11) ?_
    rintro _ g6 k6 ⟨t6, rfl⟩
    kt_ors
    refine F_call0 (view_code_ok (M.le (by decide)) g6 (V.mono (by tb_rel))) ?_
    rintro _ g7 k7 ⟨t7, rfl⟩
    kt_ors
    refine F_call0 (signs_make_ok (M.le (by decide)) _) ?_
    rintro _ g9 k9 ⟨x3, d3, rfl, h9, h10⟩
    dsimp only [List.nil_append, List.cons_append]
    (try refine Out.back hRR ?_)
    exact Out.all (by tb_rel) fun g' k h => ⟨rfl, x3, d3, _, _, _, rfl, .here (by (first | lia | omega)) (h9.mono k) (h10.mono k) (h _ _ (by tb_start)) (by tb_rel)⟩
/-- a walk's fields -/
inductive WalkD (w : World) (g : Heap) (x y : Addr) (text : List Int) (f p n r : Int) (fs : List (Str × Value)) : Prop
  | mk : ∀ tp tn tr sx ds l t u, (fs = ([("view", .ref x), ("table", .ref y), ("place", .int p tp), ("number", .int n tn), ("here", .ref sx), ("reach", .int r tr)] : List (Str × Value))) → (SignAt w g sx ds l t u text f p) → WalkD w g x y text f p n r fs
theorem WalkD.mono {w : World} {g h : Heap} {x y text f p n r fs} (d : WalkD w g x y text f p n r fs) (k : Keeps g h) : WalkD w h x y text f p n r fs :=
  let ⟨tp, tn, tr, sx, ds, l, t, u, e, s⟩ := d; ⟨tp, tn, tr, sx, ds, l, t, u, e, s.mono k⟩
inductive Q_walk_init_ok (w : World) (x : Addr) (y : Addr) (wx : Addr) (wd : Addr) (text : List Int) (f : Int) (p : Int) (n : Int) (v : Value) (g' : Heap) (mu' : List (Addr × Sp)) : Prop
  | mk : (v = .none) → ∀ fs, (mu' = [(wd, .dict fs)]) → (At w g' wx (.inst 239 wd)) → (WalkD w g' x y text f p n (p + 1) fs) → Q_walk_init_ok w x y wx wd text f p n v g' mu'
theorem walk_init_ok {w : World} {A : Around} (M : Rm A 5) (g : Heap) {x dx l y dy sp wx wd : Addr} {t u t' : Tok} {text : List Int} {f p n : Int} {a b c : Value} (V : ViewAt w g x dx l t text f) (T : TabAt w g y dy a b c) (S : At w g sp (.tup [.int p u, .int n t'])) :
    CC (cx w) A g [(wx, .inst 239 wd), (wd, .dict [])] (.call (.ref 208) ⟨[.ref wx, .ref x, .ref y, .ref sp], []⟩) (Q_walk_init_ok w x y wx wd text f p n) := by
  refine' C_def M [] ?ho ?hcd ?hbind ?hok ?hnd ?hloc ?hcell ?hco ?hgen ?hk ?h
  got_up
  intro env E M
  refine XS_gen M fun A2 RR M hRR => ?_
  dsimp only [bsInit, List.map, List.zip, List.zipWith, List.nil_append, List.cons_append, List.append_nil] at *
  kt_ors
  refine F_call0 (signs_at_ok (M.le (by decide)) g V T) ?_
  rintro _ g1 k1 ⟨x1, d1, l1, t1, u1, rfl, H1⟩
  obtain ⟨h1, h2, h3⟩ := id H1
  kt_ors
  (try refine Out.back hRR ?_)
  exact Out.drop1 (by tb_rel) fun g' k h => ⟨rfl, _, rfl, h, _, _, _, _, _, _, _, _, rfl, H1.mono k⟩
inductive Q_walk_make_ok (w : World) (x : Addr) (y : Addr) (text : List Int) (f : Int) (p : Int) (n : Int) (v : Value) (g' : Heap) (mu' : List (Addr × Sp)) : Prop
  | mk : ∀ wx wd fs, (v = .ref wx) → (mu' = [(wd, .dict fs)]) → (At w g' wx (.inst 239 wd)) → (WalkD w g' x y text f p n (p + 1) fs) → Q_walk_make_ok w x y text f p n v g' mu'
theorem walk_make_ok {w : World} {A : Around} (M : Rm A 6) (g : Heap) {x dx l y dy sp : Addr} {t u t' : Tok} {text : List Int} {f p n : Int} {a b c : Value} (V : ViewAt w g x dx l t text f) (T : TabAt w g y dy a b c) (S : At w g sp (.tup [.int p u, .int n t'])) :
    CC (cx w) A g [] (.call (.ref 239) ⟨[.ref x, .ref y, .ref sp], []⟩) (Q_walk_make_ok w x y text f p n) := by
  refine CC_make (fI := 208) (by kernel_rfl) (by kernel_rfl) (by kernel_rfl) fun wx wd => ?_
  refine (walk_init_ok (M.make) g V T S).mono ?_
  rintro v g' mu' k ⟨rfl, fs, rfl, a1, a2⟩
  exact ⟨rfl, wx, wd, fs, rfl, rfl, a1, a2⟩

def Q_walk_settle_ok (w : World) (x : Addr) (y : Addr) (wd : Addr) (text : List Int) (f : Int) (p : Int) (n : Int) (r : Int) (v : Value) (g' : Heap) (mu' : List (Addr × Sp)) : Prop := v = .bool (decide (p + n < f + text.length)) ∧ ∃ fs', mu' = [(wd, .dict fs')] ∧ WalkD w g' x y text f (p + n) 0 (if n = 1 then max r (p + 2) else r) fs'
theorem walk_settle_ok {w : World} {A : Around} (M : Rm A 5) (g : Heap) {x dx l y dy wx wd : Addr} {t : Tok} {text : List Int} {f p n r : Int} {a b c : Value} {fs : List (Str × Value)} (V : ViewAt w g x dx l t text f) (T : TabAt w g y dy a b c)
    (I : At w g wx (.inst 239 wd)) (D : WalkD w g x y text f p n r fs) (h0 : 0 ≤ n) (h1 : n ≤ 1) (h2 : p + n ≤ f + text.length) :
    CC (cx w) A g [(wd, .dict fs)] (.call (.ref 215) ⟨[.ref wx], []⟩) (Q_walk_settle_ok w x y wd text f p n r) := by
  refine' C_def M [] ?ho ?hcd ?hbind ?hok ?hnd ?hloc ?hcell ?hco ?hgen ?hk ?h
  got_up
  intro env E M
  refine XS_gen M fun A2 RR M hRR => ?_
  dsimp only [bsInit, List.map, List.zip, List.zipWith, List.nil_append, List.cons_append, List.append_nil] at *
  refine XS_whileG (fun k σ => ∃ g' fs' p' n' r', σ = ⟨g', [(Str.ofString "self", some (Value.ref wx))], [(wd, .dict fs')]⟩ ∧ Keeps g g' ∧ WalkD w g' x y text f p' n' r' fs' ∧ 0 ≤ n' ∧ n' ≤ 1 ∧ p' + n' = p + n ∧ (if n' = 1 then max r' (p' + 2) else r') = (if n = 1 then max r (p + 2) else r) ∧ k = n'.toNat)
    n.toNat ⟨g, fs, p, n, r, rfl, .refl g, D, h0, h1, rfl, rfl, rfl⟩ ?_
  rintro k _ NN hNN ⟨g1, fs1, p1, n1, r1, rfl, k1, ⟨tp, tn, tr, sx, ds, ls, ts, us, rfl, H1⟩, a0, a1, a2, a3, rfl⟩
  obtain ⟨e1, e2, e3⟩ := id H1
  obtain ⟨v1, v2, v3, v4⟩ := id V
  obtain ⟨b1, b2⟩ := id T
  split at e3
  · rename_i hp
    obtain ⟨s1, u1, u2, u3, q1, q2⟩ := e3
    rw [if_pos hp] at e2
    kt_ors
    refine ite_d (fun h5 => ?_) (fun h5 => ?_)
    · have hn : n1 = 1 := by simp at h5; (first | lia | omega)
      subst hn
      rw [if_pos rfl] at a3
      kt_ors
      refine F_call0 (view_end_ok (M.le (by decide)) g1 (V.mono (by tb_rel))) ?_
      rintro _ g2 k2 ⟨t2, rfl⟩
      kt_ors
      refine ite_df (by (first | lia | omega)) ?_
      kt_ors
      refine F_call0 (signs_at_ok (M.le (by decide)) g2 (V.mono (by tb_rel)) (T.mono (by tb_rel))) ?_
      rintro _ g3 k3 ⟨x3, d3, l3, t3, u3, rfl, H3⟩
      obtain ⟨f1, f2, f3⟩ := id H3
      kt_ors
      refine ⟨0, by decide, g3, _, p1 + 1, 0, max r1 (p1 + 1 + 1), rfl, by tb_rel, ⟨_, _, _, _, _, _, _, _, rfl, H3⟩, by decide, by decide, by (first | lia | omega), ?_, rfl⟩
      rw [if_neg (by decide), ← a3, show p1 + 1 + 1 = p1 + 2 by (first | lia | omega)]
    · have hn : n1 = 0 := by simp at h5; (first | lia | omega)
      subst hn
      rw [if_neg (by decide)] at a3
      have hp2 : p + n < f + text.length := by (first | lia | omega)
      have e4 : p1 = p + n := by (first | lia | omega)
      subst e4
      kt_ors
      delta Q_walk_settle_ok
      rw [← a3]
      (try refine Out.back hRR ?_)
      exact Out.pure (by tb_rel) fun g' k => ⟨by rw [decide_eq_true hp2], _, rfl, _, _, _, _, _, _, _, _, rfl, H1.mono k⟩
  · rename_i hp
    rw [if_neg hp] at e2
    have hn : n1 = 0 := by (first | lia | omega)
    subst hn
    rw [if_neg (by decide)] at a3
    have hp2 : ¬ p + n < f + text.length := by (first | lia | omega)
    have e4 : p1 = p + n := by (first | lia | omega)
    subst e4
    kt_ors
    refine ite_dt (by simp) ?_
    kt_ors
    refine F_call0 (view_end_ok (M.le (by decide)) g1 (V.mono (by tb_rel))) ?_
    rintro _ g2 k2 ⟨t2, rfl⟩
    kt_ors
    refine ite_dt (by (first | lia | omega)) ?_
    kt_ors
    delta Q_walk_settle_ok
    rw [← a3]
    (try refine Out.back hRR ?_)
    exact Out.pure (by tb_rel) fun g' k => ⟨by rw [decide_eq_false hp2], _, rfl, _, _, _, _, _, _, _, _, rfl, H1.mono (by tb_rel)⟩
def SignV (w : World) (g : Heap) (text : List Int) (f p : Int) (v : Value) : Prop :=
  (p < f + text.length ∧ ∃ a t1 t2 t3, v = .ref a ∧ At w g a (.tup [.int (codeAt text f p) t1, .int 0 t2, .int p t3])) ∨ (¬ p < f + text.length ∧ v = .none)
inductive Q_walk_sign_ok (w : World) (x : Addr) (y : Addr) (wd : Addr) (text : List Int) (f : Int) (p : Int) (n : Int) (r : Int) (v : Value) (g' : Heap) (mu' : List (Addr × Sp)) : Prop
  | mk : (SignV w g' text f (p + n) v) → ∀ fs', (mu' = [(wd, .dict fs')]) → (WalkD w g' x y text f (p + n) 0 (if n = 1 then max r (p + 2) else r) fs') → Q_walk_sign_ok w x y wd text f p n r v g' mu'
theorem walk_sign_ok {w : World} {A : Around} (M : Rm A 6) (g : Heap) {x dx l y dy wx wd : Addr} {t : Tok} {text : List Int} {f p n r : Int} {a b c : Value} {fs : List (Str × Value)} (V : ViewAt w g x dx l t text f) (T : TabAt w g y dy a b c)
    (I : At w g wx (.inst 239 wd)) (D : WalkD w g x y text f p n r fs) (h0 : 0 ≤ n) (h1 : n ≤ 1) (h2 : p + n ≤ f + text.length) :
    CC (cx w) A g [(wd, .dict fs)] (.call (.ref 222) ⟨[.ref wx], []⟩) (Q_walk_sign_ok w x y wd text f p n r) := by
  refine' C_def M [] ?ho ?hcd ?hbind ?hok ?hnd ?hloc ?hcell ?hco ?hgen ?hk ?h
  got_up
  intro env E M
  refine XS_gen M fun A2 RR M hRR => ?_
  dsimp only [bsInit, List.map, List.zip, List.zipWith, List.nil_append, List.cons_append, List.append_nil] at *
  obtain ⟨tp, tn, tr, sx, ds, ls, ts, us, rfl, H1⟩ := id D
  kt_ors
  refine F_call (walk_settle_ok (M.le (by decide)) g V T I D h0 h1 h2) (List.Perm.refl _) ?_
  rintro _ g1 _ k1 ⟨rfl, fs1, rfl, D1⟩
  obtain ⟨tp1, tn1, tr1, sx1, ds1, ls1, ts1, us1, rfl, H2⟩ := id D1
  obtain ⟨e1, e2, e3⟩ := id H2
  dsimp only [List.cons_append, List.nil_append]
  kt_ors
  refine ite_d (fun h5 => ?_) (fun h5 => ?_)
  · rw [if_pos h5] at e3
    obtain ⟨s1, u1, u2, u3, q1, q2⟩ := e3
    kt_ors
    refine F_item (k := 0) (by tb_start) (by decide) (by decide) rfl ?_
    (try refine Out.back hRR ?_)
    exact Out.pure (by tb_rel) fun g' k => ⟨.inl ⟨h5, s1, u1, u2, u3, rfl, q2.mono k⟩, _, rfl, D1.mono k⟩
  · kt_ors
    (try refine Out.back hRR ?_)
    exact Out.pure (by tb_rel) fun g' k => ⟨.inr ⟨h5, rfl⟩, _, rfl, D1.mono k⟩
inductive Q_walk_step_ok (w : World) (x : Addr) (y : Addr) (wd : Addr) (text : List Int) (f : Int) (p : Int) (n : Int) (r : Int) (v : Value) (g' : Heap) (mu' : List (Addr × Sp)) : Prop
  | mk : ∀ fs', (mu' = [(wd, .dict fs')]) → (WalkD w g' x y text f p (n + 1) r fs') → Q_walk_step_ok w x y wd text f p n r v g' mu'
theorem walk_step_ok {w : World} {A : Around} (M : Rm A 1) (g : Heap) {x y wx wd : Addr} {text : List Int} {f p n r : Int} {fs : List (Str × Value)}
    (I : At w g wx (.inst 239 wd)) (D : WalkD w g x y text f p n r fs) :
    CC (cx w) A g [(wd, .dict fs)] (.call (.ref 229) ⟨[.ref wx], []⟩) (Q_walk_step_ok w x y wd text f p n r) := by
  refine' C_def M [] ?ho ?hcd ?hbind ?hok ?hnd ?hloc ?hcell ?hco ?hgen ?hk ?h
  got_up
  intro env E M
  refine XS_gen M fun A2 RR M hRR => ?_
  dsimp only [bsInit, List.map, List.zip, List.zipWith, List.nil_append, List.cons_append, List.append_nil] at *
  obtain ⟨tp, tn, tr, sx, ds, ls, ts, us, rfl, H1⟩ := id D
  kt_ors
  (try refine Out.back hRR ?_)
  exact Out.pure (by tb_rel) fun g' k => ⟨_, rfl, _, _, _, _, _, _, _, _, rfl, H1.mono k⟩
inductive Q_walk_spot_ok (w : World) (x : Addr) (y : Addr) (wd : Addr) (text : List Int) (f : Int) (p : Int) (n : Int) (r : Int) (a : Value) (v : Value) (g' : Heap) (mu' : List (Addr × Sp)) : Prop
  | mk : ((∃ a t1 t2, v = .ref a ∧ At w g' a (.tup [.int (p + n) t1, .int 0 t2]))) → ∀ fs', (mu' = [(wd, .dict fs')]) → (WalkD w g' x y text f (p + n) 0 (if n = 1 then max r (p + 2) else r) fs') → Q_walk_spot_ok w x y wd text f p n r a v g' mu'
theorem walk_spot_ok {w : World} {A : Around} (M : Rm A 6) (g : Heap) {x dx l y dy wx wd : Addr} {t : Tok} {text : List Int} {f p n r : Int} {a b c : Value} {fs : List (Str × Value)} (V : ViewAt w g x dx l t text f) (T : TabAt w g y dy a b c)
    (I : At w g wx (.inst 239 wd)) (D : WalkD w g x y text f p n r fs) (h0 : 0 ≤ n) (h1 : n ≤ 1) (h2 : p + n ≤ f + text.length) :
    CC (cx w) A g [(wd, .dict fs)] (.call (.ref 236) ⟨[.ref wx], []⟩) (Q_walk_spot_ok w x y wd text f p n r a) := by
  refine' C_def M [] ?ho ?hcd ?hbind ?hok ?hnd ?hloc ?hcell ?hco ?hgen ?hk ?h
  got_up
  intro env E M
  refine XS_gen M fun A2 RR M hRR => ?_
  dsimp only [bsInit, List.map, List.zip, List.zipWith, List.nil_append, List.cons_append, List.append_nil] at *
  obtain ⟨tp, tn, tr, sx, ds, ls, ts, us, rfl, H1⟩ := id D
  kt_ors
  refine F_call (walk_settle_ok (M.le (by decide)) g V T I D h0 h1 h2) (List.Perm.refl _) ?_
  rintro _ g1 _ k1 ⟨rfl, fs1, rfl, D1⟩
  obtain ⟨tp1, tn1, tr1, sx1, ds1, ls1, ts1, us1, rfl, H2⟩ := id D1
  dsimp only [List.cons_append, List.nil_append]
  kt_ors
  (try refine Out.back hRR ?_)
  exact Out.pure (by tb_rel) fun g' k => ⟨⟨_, _, _, rfl, At.mono (by assumption) k⟩, _, rfl, D1.mono (by tb_rel)⟩

/-! ## rows -/
inductive Q_row_init_ok (w : World) (rx : Addr) (rd : Addr) (sp : Addr) (t : Tok) (tc : Tok) (p : Int) (col : Int) (v : Value) (g' : Heap) (mu' : List (Addr × Sp)) : Prop
  | mk : (v = .none) → (At w g' rx (.inst 274 rd)) → ∀ gl tm, (mu' = [(gl, .list []), (rd, .dict [("start", .ref sp), ("column", .int col tc), ("end", .ref sp), ("next_column", .int col tc), ("glyphs", .ref gl), ("is_line_end", .bool false), ("is_break", .bool false), ("is_end", .bool false), ("mark", .int 32 tm), ("reach", .int p t)])]) → Q_row_init_ok w rx rd sp t tc p col v g' mu'
theorem row_init_ok {w : World} {A : Around} (M : Rm A 1) (g : Heap) {rx rd sp : Addr} {t u tc : Tok} {p n col : Int} (S : At w g sp (.tup [.int p t, .int n u])) :
    CC (cx w) A g [(rx, .inst 274 rd), (rd, .dict [])] (.call (.ref 257) ⟨[.ref rx, .ref sp, .int col tc], []⟩) (Q_row_init_ok w rx rd sp t tc p col) := by
  refine' C_def M [] ?ho ?hcd ?hbind ?hok ?hnd ?hloc ?hcell ?hco ?hgen ?hk ?h
  got_up
  intro env E M
  refine XS_gen M fun A2 RR M hRR => ?_
  dsimp only [bsInit, List.map, List.zip, List.zipWith, List.nil_append, List.cons_append, List.append_nil] at *
  kt_ors
  (try refine Out.back hRR ?_)
  exact ⟨[(rx, .inst 274 rd)], _, List.Perm.swap _ _ _, by tb_rel, fun g' k h => ⟨rfl, h _ (.head _), _, _, rfl⟩⟩
inductive Q_row_make_ok (w : World) (sp : Addr) (t : Tok) (tc : Tok) (p : Int) (col : Int) (v : Value) (g' : Heap) (mu' : List (Addr × Sp)) : Prop
  | mk : ∀ rx rd, (v = .ref rx) → (At w g' rx (.inst 274 rd)) → ∀ gl tm, (mu' = [(gl, .list []), (rd, .dict [("start", .ref sp), ("column", .int col tc), ("end", .ref sp), ("next_column", .int col tc), ("glyphs", .ref gl), ("is_line_end", .bool false), ("is_break", .bool false), ("is_end", .bool false), ("mark", .int 32 tm), ("reach", .int p t)])]) → Q_row_make_ok w sp t tc p col v g' mu'
theorem row_make_ok {w : World} {A : Around} (M : Rm A 2) (g : Heap) {sp : Addr} {t u tc : Tok} {p n col : Int} (S : At w g sp (.tup [.int p t, .int n u])) :
    CC (cx w) A g [] (.call (.ref 274) ⟨[.ref sp, .int col tc], []⟩) (Q_row_make_ok w sp t tc p col) := by
  refine CC_make (fI := 257) (by kernel_rfl) (by kernel_rfl) (by kernel_rfl) fun rx rd => ?_
  refine (row_init_ok (M.make) g S).mono ?_
  rintro v g' mu' k ⟨rfl, a1, gl, tm, a2⟩
  exact ⟨rfl, rx, rd, rfl, a1, gl, tm, a2⟩
inductive Q_row_stop_ok (w : World) (x : Addr) (y : Addr) (wd : Addr) (rd : Addr) (tc : Tok) (text : List Int) (f : Int) (p : Int) (n : Int) (r : Int) (rr : Int) (col : Int) (v1 : Value) (v2 : Value) (v5 : Value) (v6 : Value) (v7 : Value) (v8 : Value) (v9 : Value) (v : Value) (g' : Heap) (mu' : List (Addr × Sp)) : Prop
  | mk : (v = .none) → ∀ ws' e t1 t2 tr', (mu' = [(wd, .dict ws'), (rd, .dict [("start", v1), ("column", v2), ("end", .ref e), ("next_column", .int col tc), ("glyphs", v5), ("is_line_end", v6), ("is_break", v7), ("is_end", v8), ("mark", v9), ("reach", .int (max rr (if n = 1 then max r (p + 2) else r)) tr')])]) → (At w g' e (.tup [.int (p + n) t1, .int 0 t2])) → (WalkD w g' x y text f (p + n) 0 (if n = 1 then max r (p + 2) else r) ws') → Q_row_stop_ok w x y wd rd tc text f p n r rr col v1 v2 v5 v6 v7 v8 v9 v g' mu'
theorem row_stop_ok {w : World} {A : Around} (M : Rm A 7) (g : Heap) {x dx l y dy wx wd rx rd : Addr} {t tr tc : Tok} {text : List Int} {f p n r rr col : Int} {a b c : Value} {ws : List (Str × Value)} {v1 v2 v3 v4 v5 v6 v7 v8 v9 : Value} (V : ViewAt w g x dx l t text f) (T : TabAt w g y dy a b c)
    (I : At w g wx (.inst 239 wd)) (J : At w g rx (.inst 274 rd)) (D : WalkD w g x y text f p n r ws) (h0 : 0 ≤ n) (h1 : n ≤ 1) (h2 : p + n ≤ f + text.length) :
    CC (cx w) A g [(rd, .dict [("start", v1), ("column", v2), ("end", v3), ("next_column", v4), ("glyphs", v5), ("is_line_end", v6), ("is_break", v7), ("is_end", v8), ("mark", v9), ("reach", .int rr tr)]), (wd, .dict ws)] (.call (.ref 264) ⟨[.ref rx, .ref wx, .int col tc], []⟩)
      (Q_row_stop_ok w x y wd rd tc text f p n r rr col v1 v2 v5 v6 v7 v8 v9) := by
  refine' C_def M [] ?ho ?hcd ?hbind ?hok ?hnd ?hloc ?hcell ?hco ?hgen ?hk ?h
  got_up
  intro env E M
  refine XS_gen M fun A2 RR M hRR => ?_
  dsimp only [bsInit, List.map, List.zip, List.zipWith, List.nil_append, List.cons_append, List.append_nil] at *
  obtain ⟨tp, tn, tr1, sx, ds, ls, ts, us, rfl, H1⟩ := id D
  kt_ors
  refine F_call (walk_spot_ok (M.le (by decide)) g V T I D h0 h1 h2) (List.Perm.swap _ _ _) ?_
  rintro _ g1 _ k1 ⟨⟨e, t1, t2, rfl, he⟩, ws1, rfl, D1⟩
  obtain ⟨tp1, tn1, tr2, sx1, ds1, ls1, ts1, us1, rfl, H2⟩ := id D1
  dsimp only [List.cons_append, List.nil_append]
  kt_ors
  (try refine Out.back hRR ?_)
  exact Out.pure (by tb_rel) fun g' k => ⟨rfl, _, e, t1, t2, _, rfl, he.mono k, D1.mono k⟩

/-- the glyphs of a row -/
def gd (q : Int × Int) : PyData := .tuple [.int q.1, .int 0, .int q.2]
inductive Q_put_sign_ok (w : World) (rd : Addr) (gl : Addr) (p : Int) (xs : List Int) (vs : List Value) (v1 : Value) (v2 : Value) (v3 : Value) (v4 : Value) (v6 : Value) (v7 : Value) (v8 : Value) (v9 : Value) (v10 : Value) (v : Value) (g' : Heap) (mu' : List (Addr × Sp)) : Prop
  | mk : (v = .none) → ∀ us, (mu' = [(gl, .list (vs ++ us)), (rd, .dict [("start", v1), ("column", v2), ("end", v3), ("next_column", v4), ("glyphs", .ref gl), ("is_line_end", v6), ("is_break", v7), ("is_end", v8), ("mark", v9), ("reach", v10)])]) → (DpAll w g' us ((xs.map fun z => (z, p)).map gd)) → Q_put_sign_ok w rd gl p xs vs v1 v2 v3 v4 v6 v7 v8 v9 v10 v g' mu'
theorem put_sign_ok {w : World} {A : Around} (M : Rm A 2) (g : Heap) {rx rd gl sg cs : Addr} {code p : Int} {t0 t1 t2 : Tok} {xs : List Int} {vs : List Value} {v1 v2 v3 v4 v6 v7 v8 v9 v10 : Value} (J : At w g rx (.inst 274 rd))
    (S : At w g sg (.tup [.int code t0, .int 0 t1, .int p t2])) (C : At w g cs (.intl xs)) (hz : vs.length + xs.length ≤ 100) :
    CC (cx w) A g [(gl, .list vs), (rd, .dict [("start", v1), ("column", v2), ("end", v3), ("next_column", v4), ("glyphs", .ref gl), ("is_line_end", v6), ("is_break", v7), ("is_end", v8), ("mark", v9), ("reach", v10)])] (.call (.ref 285) ⟨[.ref rx, .ref sg, .ref cs], []⟩)
      (Q_put_sign_ok w rd gl p xs vs v1 v2 v3 v4 v6 v7 v8 v9 v10) := by
  refine' C_def M ["code"] ?ho ?hcd ?hbind ?hok ?hnd ?hloc ?hcell ?hco ?hgen ?hk ?h
  got_up
  intro env E M
  refine XS_gen M fun A2 RR M hRR => ?_
  dsimp only [bsInit, List.map, List.zip, List.zipWith, List.nil_append, List.cons_append, List.append_nil] at *
  refine' XS_for ?_ ?k9
  case k9 => intro _; rfl
  kt_ors
  refine ⟨xs.length, _, _, fun i σ => ∃ g' o us, σ = ⟨g', [("row", some (.ref rx)), ("sign", some (.ref sg)), ("codes", some (.ref cs)), ("code", o)], [(gl, .list (vs ++ us)), (rd, .dict [("start", v1), ("column", v2), ("end", v3), ("next_column", v4), ("glyphs", .ref gl), ("is_line_end", v6), ("is_break", v7), ("is_end", v8), ("mark", v9), ("reach", v10)])]⟩ ∧ Keeps g g' ∧
    DpAll w g' us (((xs.take i).map fun z => (z, p)).map gd), Iter_ints M C, ⟨g, none, [], by simp, .refl _, .nil⟩, ?_, ?_, ?_⟩
  · rintro i _ ⟨g', o, us, rfl, k, _⟩; exact k
  · rintro i g' bs' mu' v g2 hi ⟨g1, o, us, e, k1, d1⟩ k2 ⟨z, tz, hx, rfl⟩
    cases e
    have hl := d1.len
    simp only [List.length_map, List.length_take] at hl
    refine TS_assignName E (by tb_start) ⟨_, by tb_start, ?_⟩
    kt_ors
    dsimp only at *
    refine' ⟨?_, ?_, us ++ [?_], ?k1, ?k2, ?k3⟩
    case k1 => rw [List.append_assoc]
    case k2 => tb_rel
    case k3 =>
      rw [List.take_add_one, hx]
      simp only [Option.toList, List.map_append, List.map_cons, List.map_nil]
      exact DpAll.app (d1.mono (by tb_rel)) (.cons (.tup (by tb_rel) (.cons (.int _ _) (.cons (.int _ _) (.cons (.int _ _) .nil)))) .nil)
  · rintro _ ⟨g1, o, us, rfl, k1, d1⟩
    rw [List.take_length] at d1
    kt_ors
    (try refine Out.back hRR ?_)
    exact Out.pure (by tb_rel) fun g' k => ⟨rfl, us, rfl, d1.mono k⟩
abbrev rowD (v1 v2 v3 v4 v5 v6 v7 v8 v9 v10 : Value) : List (Str × Value) := [("start", v1), ("column", v2), ("end", v3), ("next_column", v4), ("glyphs", v5), ("is_line_end", v6), ("is_break", v7), ("is_end", v8), ("mark", v9), ("reach", v10)]
inductive Q_end_of_line_none (w : World) (wd : Addr) (rd : Addr) (tc : Tok) (p : Int) (r : Int) (rr : Int) (col : Int) (v1 : Value) (v2 : Value) (v5 : Value) (v6 : Value) (v7 : Value) (v9 : Value) (v : Value) (g' : Heap) (mu' : List (Addr × Sp)) : Prop
  | mk : (v = .none) → ∀ ws' e t1 t2 tr', (mu' = [(wd, .dict ws'), (rd, .dict (rowD v1 v2 (.ref e) (.int col tc) v5 v6 v7 (.bool true) v9 (.int (max rr r) tr')))]) → (At w g' e (.tup [.int p t1, .int 0 t2])) → Q_end_of_line_none w wd rd tc p r rr col v1 v2 v5 v6 v7 v9 v g' mu'
theorem end_of_line_none {w : World} {A : Around} (M : Rm A 8) (g : Heap) {x dx l y dy wx wd rx rd : Addr} {t tr tc : Tok} {text : List Int} {f p r rr col : Int} {a b c : Value} {ws : List (Str × Value)} {v1 v2 v3 v4 v5 v6 v7 v9 : Value} (V : ViewAt w g x dx l t text f) (T : TabAt w g y dy a b c)
    (I : At w g wx (.inst 239 wd)) (J : At w g rx (.inst 274 rd)) (D : WalkD w g x y text f p 0 r ws) (h2 : p ≤ f + text.length) :
    CC (cx w) A g [(rd, .dict (rowD v1 v2 v3 v4 v5 v6 v7 (.bool false) v9 (.int rr tr))), (wd, .dict ws)] (.call (.ref 292) ⟨[.ref rx, .ref wx, .none, .int col tc], []⟩)
      (Q_end_of_line_none w wd rd tc p r rr col v1 v2 v5 v6 v7 v9) := by
  refine' C_def M [] ?ho ?hcd ?hbind ?hok ?hnd ?hloc ?hcell ?hco ?hgen ?hk ?h
  got_up
  intro env E M
  refine XS_gen M fun A2 RR M hRR => ?_
  dsimp only [bsInit, List.map, List.zip, List.zipWith, List.nil_append, List.cons_append, List.append_nil] at *
  dsimp only [rowD] at *
  kt_ors
  refine F_call (row_stop_ok (M.le (by decide)) g V T I J D (by decide) (by decide) (by (first | lia | omega))) (List.Perm.refl _) ?_
  rintro _ g1 _ k1 ⟨rfl, ws', e, t1, t2, tr', rfl, he, D1⟩
  rw [if_neg (by decide)] at *
  rw [show p + 0 = p by (first | lia | omega)] at he
  dsimp only [List.cons_append, List.nil_append]
  kt_ors
  (try refine Out.back hRR ?_)
  exact Out.pure (by tb_rel) fun g' k => ⟨rfl, _, _, _, _, _, rfl, he.mono k⟩

inductive Q_end_of_line_some (w : World) (wd : Addr) (rd : Addr) (p : Int) (r : Int) (rr : Int) (v1 : Value) (v2 : Value) (v5 : Value) (v9 : Value) (v : Value) (g' : Heap) (mu' : List (Addr × Sp)) : Prop
  | mk : (v = .none) → ∀ ws' e t1 t2 tr' tz, (mu' = [(wd, .dict ws'), (rd, .dict (rowD v1 v2 (.ref e) (.int 0 tz) v5 (.bool true) (.bool true) (.bool false) v9 (.int (max rr (max r (p + 2))) tr')))]) → (At w g' e (.tup [.int (p + 1) t1, .int 0 t2])) → Q_end_of_line_some w wd rd p r rr v1 v2 v5 v9 v g' mu'
theorem end_of_line_some {w : World} {A : Around} (M : Rm A 8) (g : Heap) {x dx l y dy wx wd rx rd sg : Addr} {t tr tc u1 u2 u3 : Tok} {text : List Int} {f p r rr col : Int} {a b c : Value} {ws : List (Str × Value)} {v1 v2 v3 v4 v5 v9 : Value} (V : ViewAt w g x dx l t text f) (T : TabAt w g y dy a b c)
    (I : At w g wx (.inst 239 wd)) (J : At w g rx (.inst 274 rd)) (D : WalkD w g x y text f p 0 r ws) (h2 : p < f + text.length) (hp : 0 ≤ p) (S : At w g sg (.tup [.int 10 u1, .int 0 u2, .int p u3])) (hc : codeAt text f p = 10) :
    CC (cx w) A g [(rd, .dict (rowD v1 v2 v3 v4 v5 (.bool false) (.bool false) (.bool false) v9 (.int rr tr))), (wd, .dict ws)] (.call (.ref 292) ⟨[.ref rx, .ref wx, .ref sg, .int col tc], []⟩)
      (Q_end_of_line_some w wd rd p r rr v1 v2 v5 v9) := by
  refine' C_def M [] ?ho ?hcd ?hbind ?hok ?hnd ?hloc ?hcell ?hco ?hgen ?hk ?h
  got_up
  intro env E M
  refine XS_gen M fun A2 RR M hRR => ?_
  dsimp only [bsInit, List.map, List.zip, List.zipWith, List.nil_append, List.cons_append, List.append_nil] at *
  dsimp only [rowD] at *
  obtain ⟨tp, tn, tr0, sx, ds, ls, ts, us, rfl, H1⟩ := id D
  kt_ors
  refine F_call (walk_step_ok (M.le (by decide)) g I D) (List.Perm.swap _ _ _) ?_
  rintro _ g1 _ k1 ⟨ws1, rfl, D1⟩
  obtain ⟨tp1, tn1, tr1, sx1, ds1, ls1, ts1, us1, rfl, H2⟩ := id D1
  dsimp only [List.cons_append, List.nil_append]
  kt_ors
  refine ite_dt (by (first | lia | omega)) ?_
  kt_ors
  refine F_call0 (is_break_ok (M.le (by decide)) g1 (V.mono (by tb_rel))) ?_
  rintro _ g2 k2 rfl
  rw [decide_eq_true hc]
  kt_ors
  refine F_call (row_stop_ok (M.le (by decide)) g2 (V.mono (by tb_rel)) (T.mono (by tb_rel)) (At.mono I (by tb_rel)) (At.mono J (by tb_rel)) (D1.mono (by tb_rel)) (by decide) (by decide) (by (first | lia | omega))) (List.Perm.swap _ _ _) ?_
  rintro _ g3 _ k3 ⟨rfl, ws', e, t1, t2, tr', rfl, he, D3⟩
  rw [if_pos (by decide)] at *
  dsimp only [List.cons_append, List.nil_append]
  kt_ors
  (try refine Out.back hRR ?_)
  exact Out.pure (by tb_rel) fun g' k => ⟨rfl, _, _, _, _, _, _, rfl, At.mono he k⟩
inductive Q_overflow_a (w : World) (wd : Addr) (rd : Addr) (gl : Addr) (xs : List Int) (p : Int) (r : Int) (rr : Int) (col : Int) (room : Int) (vs : List Value) (v1 : Value) (v2 : Value) (v6 : Value) (v7 : Value) (v8 : Value) (v9 : Value) (v : Value) (g' : Heap) (mu' : List (Addr × Sp)) : Prop
  | mk : (v = .none) → ∀ ws' e t1 t2 tr' tz us, (mu' = [(wd, .dict ws'), (rd, .dict (rowD v1 v2 (.ref e) (.int (col + xs.length) tz) (.ref gl) v6 v7 v8 v9 (.int (max rr (max r (p + 2))) tr'))), (gl, .list (vs ++ us))]) → (At w g' e (.tup [.int (p + 1) t1, .int 0 t2])) → (DpAll w g' us (((xs.take (room - vs.length).toNat).map fun z => (z, p)).map gd)) → Q_overflow_a w wd rd gl xs p r rr col room vs v1 v2 v6 v7 v8 v9 v g' mu'
theorem overflow_a {w : World} {A : Around} (M : Rm A 8) (g : Heap) {x dx l y dy wx wd rx rd sg cs gl : Addr} {t tr tc tm u1 u2 u3 : Tok} {text xs : List Int} {f p r rr col room code : Int} {a b c : Value} {vs : List Value} {ws : List (Str × Value)} {v1 v2 v3 v4 v6 v7 v8 v9 : Value} (V : ViewAt w g x dx l t text f) (T : TabAt w g y dy a b c)
    (I : At w g wx (.inst 239 wd)) (J : At w g rx (.inst 274 rd)) (D : WalkD w g x y text f p 0 r ws) (h2 : p < f + text.length) (S : At w g sg (.tup [.int code u1, .int 0 u2, .int p u3])) (C : At w g cs (.intl xs)) (hv : vs.length ≤ 10) (hx : xs.length ≤ 10) (hr : 0 ≤ room)
    (ha : (code = 9 ∧ (vs.length : Int) < room) ∨ vs.length = 0) :
    CC (cx w) A g [(gl, .list vs), (rd, .dict (rowD v1 v2 v3 v4 (.ref gl) v6 v7 v8 v9 (.int rr tr))), (wd, .dict ws)] (.call (.ref 299) ⟨[.ref rx, .ref wx, .ref sg, .ref cs, .int col tc, .int room tm, .none], []⟩)
      (Q_overflow_a w wd rd gl xs p r rr col room vs v1 v2 v6 v7 v8 v9) := by
  refine' C_def M ["used"] ?ho ?hcd ?hbind ?hok ?hnd ?hloc ?hcell ?hco ?hgen ?hk ?h
  got_up
  intro env E M
  refine XS_gen M fun A2 RR M hRR => ?_
  dsimp only [bsInit, List.map, List.zip, List.zipWith, List.nil_append, List.cons_append, List.append_nil] at *
  dsimp only [rowD] at *
  obtain ⟨tp, tn, tr0, sx, ds, ls, ts, us, rfl, H1⟩ := id D
  one_item
  all_goals first
    | (exfalso; (first | lia | omega))
    | skip
  all_goals
    refine Or.inr (SlKI.mk (by tb_start) (by (first | lia | omega)) (by (first | lia | omega)) ?_)
    intro cs2
    kt_ors
    refine F_seal1 ?_
    intro g1 k1 hcs2
    refine F_call (put_sign_ok (M.le (by decide)) g1 (At.mono J (by tb_rel)) (At.mono S (by tb_rel)) hcs2 (by simp only [List.length_take]; (first | lia | omega))) (List.Perm.refl _) ?_
    rintro _ g2 _ k2 ⟨rfl, us2, rfl, hus⟩
    dsimp only [List.cons_append, List.nil_append]
    kt_ors
    refine F_call (walk_step_ok (M.le (by decide)) g2 (At.mono I (by tb_rel)) (D.mono (by tb_rel))) ((List.Perm.cons _ (List.Perm.swap _ _ _)).trans (List.Perm.swap _ _ _)) ?_
    rintro _ g3 _ k3 ⟨ws3, rfl, D3⟩
    obtain ⟨tp3, tn3, tr3, sx3, ds3, ls3, ts3, us3, rfl, H3⟩ := id D3
    dsimp only [List.cons_append, List.nil_append]
    kt_ors
    refine F_call (row_stop_ok (M.le (by decide)) g3 (V.mono (by tb_rel)) (T.mono (by tb_rel)) (At.mono I (by tb_rel)) (At.mono J (by tb_rel)) (D3.mono (by tb_rel)) (by decide) (by decide) (by (first | lia | omega))) ((List.Perm.cons _ (List.Perm.swap _ _ _)).trans (List.Perm.swap _ _ _)) ?_
    rintro _ g4 _ k4 ⟨rfl, ws4, e4, t4, t5, tr4, rfl, he, D4⟩
    rw [if_pos (by decide)] at *
    dsimp only [List.cons_append, List.nil_append]
    kt_ors
    (try refine Out.back hRR ?_)
    exact Out.pure (by tb_rel) fun g' k => ⟨rfl, _, _, _, _, _, _, us2, rfl, At.mono he k, hus.mono (by tb_rel)⟩
inductive Q_overflow_b (w : World) (wd : Addr) (rd : Addr) (gl : Addr) (tc : Tok) (p : Int) (r : Int) (rr : Int) (col : Int) (vs : List Value) (v1 : Value) (v2 : Value) (v6 : Value) (v7 : Value) (v8 : Value) (v9 : Value) (v : Value) (g' : Heap) (mu' : List (Addr × Sp)) : Prop
  | mk : (v = .none) → ∀ ws' e t1 t2 tr', (mu' = [(wd, .dict ws'), (rd, .dict (rowD v1 v2 (.ref e) (.int col tc) (.ref gl) v6 v7 v8 v9 (.int (max rr r) tr'))), (gl, .list vs)]) → (At w g' e (.tup [.int p t1, .int 0 t2])) → Q_overflow_b w wd rd gl tc p r rr col vs v1 v2 v6 v7 v8 v9 v g' mu'
theorem overflow_b {w : World} {A : Around} (M : Rm A 8) (g : Heap) {x dx l y dy wx wd rx rd sg gl : Addr} {cs : Value} {t tr tc tm u1 u2 u3 : Tok} {text : List Int} {f p r rr col room code : Int} {a b c : Value} {vs : List Value} {ws : List (Str × Value)} {v1 v2 v3 v4 v6 v7 v8 v9 : Value} (V : ViewAt w g x dx l t text f) (T : TabAt w g y dy a b c)
    (I : At w g wx (.inst 239 wd)) (J : At w g rx (.inst 274 rd)) (D : WalkD w g x y text f p 0 r ws) (h2 : p < f + text.length) (S : At w g sg (.tup [.int code u1, .int 0 u2, .int p u3])) (hv : vs.length ≤ 10)
    (ha : ¬ ((code = 9 ∧ (vs.length : Int) < room) ∨ vs.length = 0)) :
    CC (cx w) A g [(gl, .list vs), (rd, .dict (rowD v1 v2 v3 v4 (.ref gl) v6 v7 v8 v9 (.int rr tr))), (wd, .dict ws)] (.call (.ref 299) ⟨[.ref rx, .ref wx, .ref sg, cs, .int col tc, .int room tm, .none], []⟩)
      (Q_overflow_b w wd rd gl tc p r rr col vs v1 v2 v6 v7 v8 v9) := by
  refine' C_def M ["used"] ?ho ?hcd ?hbind ?hok ?hnd ?hloc ?hcell ?hco ?hgen ?hk ?h
  got_up
  intro env E M
  refine XS_gen M fun A2 RR M hRR => ?_
  dsimp only [bsInit, List.map, List.zip, List.zipWith, List.nil_append, List.cons_append, List.append_nil] at *
  dsimp only [rowD] at *
  obtain ⟨tp, tn, tr0, sx, ds, ls, ts, us, rfl, H1⟩ := id D
  one_item
  all_goals first
    | (exfalso; (first | lia | omega))
    | skip
  all_goals
    refine F_call (row_stop_ok (M.le (by decide)) g V T I J D (by decide) (by decide) (by (first | lia | omega))) ((List.Perm.swap _ _ _).trans (List.Perm.cons _ (List.Perm.swap _ _ _))) ?_
    rintro _ g4 _ k4 ⟨rfl, ws4, e4, t4, t5, tr4, rfl, he, D4⟩
    rw [if_neg (by decide)] at *
    rw [show p + 0 = p by (first | lia | omega)] at he
    dsimp only [List.cons_append, List.nil_append]
    kt_ors
    (try refine Out.back hRR ?_)
    exact Out.pure (by tb_rel) fun g' k => ⟨rfl, _, _, _, _, _, rfl, At.mono he k⟩

/-! ## a row -/
structure RE where
  stop : Int
  ncol : Int
  reach : Int
  le : Bool
  en : Bool
  mark : Int
  gl : List (Int × Int)
def rowGo (room : Int) : List Int → Int → Int → List (Int × Int) → RE
  | [], p, col, gl => ⟨p, col, p + 1, false, true, 32, gl⟩
  | c :: r, p, col, gl =>
    if c = 10 then ⟨p + 1, 0, p + 2, true, false, 32, gl⟩
    else if (gl.length : Int) + (shownOf c col).length > room then
      if (c = 9 ∧ (gl.length : Int) < room) ∨ gl.length = 0 then ⟨p + 1, col + (shownOf c col).length, p + 2, false, false, 92, gl ++ ((shownOf c col).take (room - gl.length).toNat).map fun z => (z, p)⟩
      else ⟨p, col, p + 1, false, false, 92, gl⟩
    else rowGo room r (p + 1) (col + (shownOf c col).length) (gl ++ (shownOf c col).map fun z => (z, p))
structure LR where
  start : Int
  col : Int
  e : RE
def lrow (room : Int) (text : List Int) (f p col : Int) : LR := ⟨p, col, rowGo room (text.drop (p - f).toNat) p col []⟩

structure RowAt (w : World) (g : Heap) (rx rd sp ep gl : Addr) (vs : List Value) (tc tn tm tr t1 t2 t3 t4 : Tok) (r : LR) : Prop where
  i : At w g rx (.inst 274 rd)
  d : At w g rd (.dict (rowD (.ref sp) (.int r.col tc) (.ref ep) (.int r.e.ncol tn) (.ref gl) (.bool r.e.le) (.bool r.e.le) (.bool r.e.en) (.int r.e.mark tm) (.int r.e.reach tr)))
  s : At w g sp (.tup [.int r.start t1, .int 0 t2])
  e : At w g ep (.tup [.int r.e.stop t3, .int 0 t4])
  l : At w g gl (.list vs)
  g : DpAll w g vs (r.e.gl.map gd)
inductive RowIs (w : World) (g : Heap) (v : Value) (r : LR) : Prop
  | mk : ∀ rx rd sp ep gl vs tc tn tm tr t1 t2 t3 t4, (v = .ref rx) → (RowAt w g rx rd sp ep gl vs tc tn tm tr t1 t2 t3 t4 r) → RowIs w g v r
theorem RowAt.mono {w : World} {g h : Heap} {rx rd sp ep gl vs tc tn tm tr t1 t2 t3 t4 r} (x : RowAt w g rx rd sp ep gl vs tc tn tm tr t1 t2 t3 t4 r) (k : Keeps g h) : RowAt w h rx rd sp ep gl vs tc tn tm tr t1 t2 t3 t4 r :=
  ⟨x.i.mono k, x.d.mono k, x.s.mono k, x.e.mono k, x.l.mono k, x.g.mono k⟩
theorem RowIs.mono {w : World} {g h : Heap} {v r} (x : RowIs w g v r) (k : Keeps g h) : RowIs w h v r := by
  obtain ⟨rx, rd, sp, ep, gl, vs, tc, tn, tm, tr, t1, t2, t3, t4, e, R⟩ := x
  exact ⟨rx, rd, sp, ep, gl, vs, tc, tn, tm, tr, t1, t2, t3, t4, e, R.mono k⟩
theorem shownOf_len (c col : Int) : (shownOf c col).length ≤ 8 := by
  unfold shownOf
  split
  · simp
    have := Int.emod_nonneg col (show (8 : Int) ≠ 0 by decide)
    (first | lia | omega)
  · split <;> simp
theorem TS_permM {c : Cx} {A : Around} {env : Env} {g : Heap} {bs : List (Str × Option Value)} {mu mu' : List (Addr × Sp)} {α : Type} {t : Sem α} {P : α → SS → Prop} (hp : mu.Perm mu') (H : TS c A env ⟨g, bs, mu'⟩ t P) : TS c A env ⟨g, bs, mu⟩ t P := by
  rintro rest h ⟨oL, n, G, nd⟩
  exact H rest h ⟨oL, n, G.perm hp, nd⟩
def okc (c : Int) : Prop := c = 97 ∨ c = 98 ∨ c = 99 ∨ c = 9 ∨ c = 1 ∨ c = 10
theorem drop_at {text : List Int} {f q : Int} (h1 : f ≤ q) (h2 : q < f + text.length) : text.drop (q - f).toNat = codeAt text f q :: text.drop (q + 1 - f).toNat := by
  have hi : (q - f).toNat < text.length := by (first | lia | omega)
  rw [List.drop_eq_getElem_cons hi, codeAt, if_pos ⟨h1, h2⟩, List.getElem?_eq_getElem hi, show (q + 1 - f).toNat = (q - f).toNat + 1 by (first | lia | omega)]
  rfl
theorem code_ok {text : List Int} {f q : Int} (hT : ∀ c ∈ text, okc c) (h1 : f ≤ q) (h2 : q < f + text.length) : okc (codeAt text f q) := by
  have hi : (q - f).toNat < text.length := by (first | lia | omega)
  rw [codeAt, if_pos ⟨h1, h2⟩, List.getElem?_eq_getElem hi]
  exact hT _ (List.getElem_mem hi)

theorem RowIs.of {w : World} {g : Heap} {rx rd sp ep gl : Addr} {vs : List Value} {tc tn tm tr t1 t2 t3 t4 : Tok} {st cl : Int} {re : RE} {stop ncol reach mark : Int} {le en : Bool} {gs : List (Int × Int)} (e : re = ⟨stop, ncol, reach, le, en, mark, gs⟩) (i : At w g rx (.inst 274 rd))
    (d : At w g rd (.dict (rowD (.ref sp) (.int cl tc) (.ref ep) (.int ncol tn) (.ref gl) (.bool le) (.bool le) (.bool en) (.int mark tm) (.int reach tr)))) (s : At w g sp (.tup [.int st t1, .int 0 t2])) (ee : At w g ep (.tup [.int stop t3, .int 0 t4])) (l : At w g gl (.list vs)) (gg : DpAll w g vs (gs.map gd)) : RowIs w g (.ref rx) ⟨st, cl, re⟩ := by
  subst e
  exact ⟨rx, rd, sp, ep, gl, vs, tc, tn, tm, tr, t1, t2, t3, t4, rfl, i, d, s, ee, l, gg⟩

inductive FoldJ (w : World) (g3 : Heap) (x y sp ox wx wd rx rd gla sp2 : Addr) (tw tc tm3 t3 : Tok) (text : List Int) (f p col width : Int) (k : Nat) (σ : SS) : Prop
  | mk : ∀ g' bs' mu' fs p' n' col' tcol' vs gl sgv csv trm, (σ = ⟨g', bs', mu'⟩) → (bs' = ([("view", some (.ref x)), ("table", some (.ref y)), ("spot", some (.ref sp)), ("column", some (.int col' tcol')), ("width", some (.int width tw)), ("options", some (.ref ox)), ("walk", some (.ref wx)), ("room", some (.int (width - 1) trm)), ("last_break", some .none), ("row", some (.ref rx)), ("sign", sgv), ("codes", csv)] : List (Str × Option Value))) → (mu'.Perm [(gla, .list vs), (rd, .dict (rowD (.ref sp2) (.int col tc) (.ref sp2) (.int col tc) (.ref gla) (.bool false) (.bool false) (.bool false) (.int 32 tm3) (.int p t3))), (wd, .dict fs)]) → (Keeps g3 g') → (WalkD w g' x y text f p' n' (p' + 1) fs) → (0 ≤ n') → (n' ≤ 1) → (p ≤ p' + n') → (p' + n' ≤ f + text.length) → (0 ≤ col') → (DpAll w g' vs (gl.map gd)) → ((gl.length : Int) ≤ width - 1) → (rowGo (width - 1) (text.drop (p' + n' - f).toNat) (p' + n') col' gl = rowGo (width - 1) (text.drop (p - f).toNat) p col []) → (k = (f + text.length - (p' + n')).toNat) → FoldJ w g3 x y sp ox wx wd rx rd gla sp2 tw tc tm3 t3 text f p col width k σ
theorem folded_row_ok {w : World} {A : Around} (M : Rm A 9) (g : Heap) {x dx l y dy sp ox od : Addr} {t u u' tc tw to uo : Tok} {text : List Int} {f p col width : Int} {a b c : Value} (V : ViewAt w g x dx l t text f) (T : TabAt w g y dy a b c) (O : OptAt w g ox od to uo)
    (S : At w g sp (.tup [.int p u, .int 0 u'])) (hf : 1 ≤ f) (hp : f ≤ p) (hp2 : p ≤ f + text.length) (hcol : 0 ≤ col) (hw : 3 ≤ width) (hw2 : width ≤ 6) (hT : ∀ c ∈ text, okc c) :
    CC (cx w) A g [] (.call (.ref 306) ⟨[.ref x, .ref y, .ref sp, .int col tc, .int width tw, .ref ox], []⟩) (fun v g' mu' => mu' = [] ∧ RowIs w g' v (lrow (width - 1) text f p col)) := by
  refine' C_def M ["walk", "room", "last_break", "row", "sign", "codes"] ?ho ?hcd ?hbind ?hok ?hnd ?hloc ?hcell ?hco ?hgen ?hk ?h
  got_up
  intro env E M
  refine XS_gen M fun A2 RR M hRR => ?_
  dsimp only [bsInit, List.map, List.zip, List.zipWith, List.nil_append, List.cons_append, List.append_nil] at *
  obtain ⟨o1, o2⟩ := id O
  kt_ors
  refine F_call (walk_make_ok (M.le (by decide)) g V T S) (List.Perm.refl _) ?_
  rintro _ g1 _ k1 ⟨wx, wd, fs1, rfl, rfl, I1, D1⟩
  dsimp only [List.cons_append, List.nil_append]
  obtain ⟨tp1, tn1, tr1, sx1, ds1, ls1, ts1, us1, rfl, H1⟩ := id D1
  kt_ors
  refine F_call (walk_spot_ok (M.le (by decide)) _ (V.mono (by tb_rel)) (T.mono (by tb_rel)) (At.mono I1 (by tb_rel)) (D1.mono (by tb_rel)) (by decide) (by decide) (by (first | lia | omega))) (List.Perm.refl _) ?_
  rintro _ g2 _ k2 ⟨⟨sp2, t3, t4, rfl, S2⟩, fs2, rfl, D2⟩
  rw [if_neg (by decide)] at *
  dsimp only [List.cons_append, List.nil_append]
  kt_ors
  refine F_call (row_make_ok (M.le (by decide)) g2 S2) (List.Perm.refl _) ?_
  rintro _ g3 _ k3 ⟨rx, rd, rfl, J3, gla, tm3, rfl⟩
  dsimp only [List.cons_append, List.nil_append]
  kt_ors
  rw [show p + 0 = p by (first | lia | omega)] at *
  refine XS_whileG (FoldJ w g3 x y sp ox wx wd rx rd gla sp2 tw tc tm3 t3 text f p col width)
    _ ⟨_, _, _, _, p, 0, col, _, [], [], _, _, _, rfl, rfl, List.Perm.refl _, .refl _, D2.mono (by tb_rel), by decide, by decide, by (first | lia | omega), by (first | lia | omega), hcol, .nil, by simp; (first | lia | omega), by rw [show p + 0 = p by (first | lia | omega)], rfl⟩ ?_
  rintro k _ NN hNN ⟨g4, _, mu4, fs4, p4, n4, col4, tcol4, vs4, gl4, sgv, csv, trm, rfl, rfl, hperm, k4, D4, a0, a1, a2, a3, a4, d4, a5, a6, rfl⟩
  refine TS_permM hperm ?_
  have hl4 := d4.len
  simp only [List.length_map] at hl4
  dsimp only [rowD]
  obtain ⟨tp4, tn4, tr4, sx4, ds4, ls4, ts4, us4, rfl, H4⟩ := id D4
  kt_ors
  refine F_call (walk_sign_ok (M.le (by decide)) g4 (V.mono (by tb_rel)) (T.mono (by tb_rel)) (At.mono I1 (by tb_rel)) D4 a0 a1 a3) ((List.Perm.cons _ (List.Perm.swap _ _ _)).trans (List.Perm.swap _ _ _)) ?_
  rintro sv g5 _ k5 ⟨SV, fs5, rfl, D5⟩
  have er : (if n4 = 1 then max (p4 + 1) (p4 + 2) else p4 + 1) = p4 + n4 + 1 := by split <;> (first | lia | omega)
  rw [er] at D5
  generalize hq : p4 + n4 = q at *
  obtain ⟨tp5, tn5, tr5, sx5, ds5, ls5, ts5, us5, rfl, H5⟩ := id D5
  dsimp only [List.cons_append, List.nil_append]
  rcases SV with ⟨hlt, sg, t6, t7, t8, rfl, Sg⟩ | ⟨hge, rfl⟩
  · rw [drop_at (by (first | lia | omega)) hlt] at a6
    have hc := code_ok hT (by (first | lia | omega) : f ≤ q) hlt
    generalize hcd : codeAt text f q = code at *
    kt_ors
    refine ite_d (fun h10 => ?_) (fun h10 => ?_)
    · subst h10
      kt_ors
      refine F_call (end_of_line_some (M.le (by decide)) g5 (V.mono (by tb_rel)) (T.mono (by tb_rel)) (At.mono I1 (by tb_rel)) (At.mono J3 (by tb_rel)) D5 hlt (by (first | lia | omega)) Sg hcd) ((List.Perm.cons _ (List.Perm.swap _ _ _)).trans (List.Perm.swap _ _ _)) ?_
      rintro _ g6 _ k6 ⟨rfl, ws6, e6, t61, t62, tr6, tz6, rfl, he6⟩
      rw [show max p (max (q + 1) (q + 2)) = q + 2 by (first | lia | omega)]
      dsimp only [List.cons_append, List.nil_append, rowD]
      kt_ors
      (try refine Out.back hRR ?_)
      refine Out.all (by tb_rel) fun g' k h => ⟨rfl, RowIs.of (stop := q + 1) (ncol := 0) (reach := q + 2) (mark := 32) (le := true) (en := false) (gs := gl4) ?_ (At.mono J3 (by tb_rel)) (h _ _ (by tb_start)) (At.mono S2 (by tb_rel)) (At.mono he6 (by tb_rel)) (h _ _ (by tb_start)) (d4.mono (by tb_rel))⟩
      exact a6.symm.trans (by rw [rowGo, if_pos rfl])
    · kt_ors
      refine F_call0 (shown_codes_ok (M.le (by decide)) g5 (O.mono (by tb_rel)) (by rcases hc with h | h | h | h | h | h <;> simp_all) a4) ?_
      rintro _ g6 k6 ⟨cs, rfl, Cs⟩
      have hsl := shownOf_len code col4
      kt_ors
      refine ite_d (fun hov => ?_) (fun hov => ?_)
      · by_cases hcase : (code = 9 ∧ (vs4.length : Int) < width - 1) ∨ vs4.length = 0
        · kt_ors
          refine F_call (overflow_a (M.le (by decide)) g6 (V.mono (by tb_rel)) (T.mono (by tb_rel)) (At.mono I1 (by tb_rel)) (At.mono J3 (by tb_rel)) (D5.mono (by tb_rel)) hlt (At.mono Sg (by tb_rel)) Cs (by (first | lia | omega)) (by (first | lia | omega)) (by (first | lia | omega)) hcase) ((List.Perm.swap _ _ _).trans (List.Perm.cons _ (List.Perm.swap _ _ _))) ?_
          rintro _ g7 _ k7 ⟨rfl, ws7, e7, t71, t72, tr7, tz7, us7, rfl, he7, hu7⟩
          rw [show max p (max (q + 1) (q + 2)) = q + 2 by (first | lia | omega)]
          dsimp only [List.cons_append, List.nil_append, rowD]
          kt_ors
          (try refine Out.back hRR ?_)
          refine Out.all (by tb_rel) fun g' k h => ⟨rfl, RowIs.of (stop := q + 1) (ncol := col4 + (shownOf code col4).length) (reach := q + 2) (mark := 92) (le := false) (en := false) (gs := gl4 ++ ((shownOf code col4).take (width - 1 - gl4.length).toNat).map fun z => (z, q)) ?_ (At.mono J3 (by tb_rel)) (h _ _ (by tb_start)) (At.mono S2 (by tb_rel)) (At.mono he7 (by tb_rel)) (h _ _ (by tb_start)) ?_⟩
          · exact a6.symm.trans (by rw [rowGo, if_neg h10, if_pos (by (first | lia | omega)), if_pos (by rw [hl4]; exact hcase)])
          · rw [List.map_append, hl4]
            exact (d4.mono (by tb_rel)).app (hu7.mono (by tb_rel))
        · kt_ors
          refine F_call (overflow_b (M.le (by decide)) g6 (V.mono (by tb_rel)) (T.mono (by tb_rel)) (At.mono I1 (by tb_rel)) (At.mono J3 (by tb_rel)) (D5.mono (by tb_rel)) hlt (At.mono Sg (by tb_rel)) (by (first | lia | omega)) hcase) ((List.Perm.swap _ _ _).trans (List.Perm.cons _ (List.Perm.swap _ _ _))) ?_
          rintro _ g7 _ k7 ⟨rfl, ws7, e7, t71, t72, tr7, rfl, he7⟩
          rw [show max p (q + 1) = q + 1 by (first | lia | omega)]
          dsimp only [List.cons_append, List.nil_append, rowD]
          kt_ors
          (try refine Out.back hRR ?_)
          refine Out.all (by tb_rel) fun g' k h => ⟨rfl, RowIs.of (stop := q) (ncol := col4) (reach := q + 1) (mark := 92) (le := false) (en := false) (gs := gl4) ?_ (At.mono J3 (by tb_rel)) (h _ _ (by tb_start)) (At.mono S2 (by tb_rel)) (At.mono he7 (by tb_rel)) (h _ _ (by tb_start)) (d4.mono (by tb_rel))⟩
          exact a6.symm.trans (by rw [rowGo, if_neg h10, if_pos (by (first | lia | omega)), if_neg (by rw [hl4]; exact hcase)])
      · kt_ors
        refine F_call (put_sign_ok (M.le (by decide)) g6 (At.mono J3 (by tb_rel)) (At.mono Sg (by tb_rel)) Cs (by (first | lia | omega))) ((List.Perm.swap _ _ _).trans (List.Perm.cons _ (List.Perm.swap _ _ _))) ?_
        rintro _ g7 _ k7 ⟨rfl, us7, rfl, hu7⟩
        dsimp only [List.cons_append, List.nil_append]
        kt_ors
        refine F_call (walk_step_ok (M.le (by decide)) g7 (At.mono I1 (by tb_rel)) (D5.mono (by tb_rel))) ((List.Perm.cons _ (List.Perm.swap _ _ _)).trans (List.Perm.swap _ _ _)) ?_
        rintro _ g8 _ k8 ⟨fs8, rfl, D8⟩
        dsimp only [List.cons_append, List.nil_append]
        kt_ors
        refine ⟨(f + text.length - (q + 1)).toNat, by (first | lia | omega), g8, _, _, fs8, q, 1, col4 + (shownOf code col4).length, _, vs4 ++ us7, gl4 ++ (shownOf code col4).map fun z => (z, q), _, _, trm, rfl, rfl, (List.Perm.swap _ _ _).trans (List.Perm.cons _ (List.Perm.swap _ _ _)), by tb_rel, D8, by decide, by decide, by (first | lia | omega), by (first | lia | omega), by (first | lia | omega), ?_, ?_, ?_, rfl⟩
        · rw [List.map_append]
          exact (d4.mono (by tb_rel)).app (hu7.mono (by tb_rel))
        · rw [List.length_append, List.length_map]; (first | lia | omega)
        · rw [← a6, rowGo, if_neg h10, if_neg (by (first | lia | omega))]
  · have hqe : q = f + text.length := by (first | lia | omega)
    have hnil : text.drop (q - f).toNat = [] := List.drop_eq_nil_of_le (by (first | lia | omega))
    rw [hnil] at a6
    kt_ors
    refine F_call (end_of_line_none (M.le (by decide)) g5 (V.mono (by tb_rel)) (T.mono (by tb_rel)) (At.mono I1 (by tb_rel)) (At.mono J3 (by tb_rel)) D5 (by (first | lia | omega))) ((List.Perm.cons _ (List.Perm.swap _ _ _)).trans (List.Perm.swap _ _ _)) ?_
    rintro _ g6 _ k6 ⟨rfl, ws6, e6, t61, t62, tr6, rfl, he6⟩
    rw [show max p (q + 1) = q + 1 by (first | lia | omega)]
    dsimp only [List.cons_append, List.nil_append, rowD]
    kt_ors
    (try refine Out.back hRR ?_)
    refine Out.all (by tb_rel) fun g' k h => ⟨rfl, RowIs.of (stop := q) (ncol := col4) (reach := q + 1) (mark := 32) (le := false) (en := true) (gs := gl4) ?_ (At.mono J3 (by tb_rel)) (h _ _ (by tb_start)) (At.mono S2 (by tb_rel)) (At.mono he6 (by tb_rel)) (h _ _ (by tb_start)) (d4.mono (by tb_rel))⟩
    exact a6.symm.trans (by rw [rowGo])
theorem cNames_eq {env : Env} {names : List (Str × NameKind)} {cl : List (Str × Addr)} {scope : Scope} {cn : List (Str × NameKind)} (E : EnvIs env names cl) (h : (scope.names.map fun p => if (p.2 == NameKind.free && names.lookup p.1 == some .cell) = true then (p.1, NameKind.cell) else p) = cn) : cNames env scope = cn := by
  rw [← h]
  unfold cNames relabel
  dsimp only
  refine List.map_congr_left fun p _ => ?_
  obtain ⟨n, k⟩ := p
  dsimp only
  have hk : env.kindOf n = names.lookup n := by unfold Env.kindOf; rw [E.same]
  have hf : (env.scope.kind == ScopeKind.function) = true := by rw [E.kind]; rfl
  rw [hk, hf, Bool.and_true]
theorem bs1 {bs : List (Str × Option Value)} {k : Str} (h : bs.map (·.1) = [k]) : ∃ o, bs = [(k, o)] := by
  obtain ⟨⟨a, o⟩, r, rfl, e1, e2⟩ := List.map_eq_cons_iff.mp h
  cases e1
  cases List.map_eq_nil_iff.mp e2
  exact ⟨o, rfl⟩
theorem bs2 {bs : List (Str × Option Value)} {k l : Str} (h : bs.map (·.1) = [k, l]) : ∃ o p, bs = [(k, o), (l, p)] := by
  obtain ⟨⟨a, o⟩, r, rfl, e1, e2⟩ := List.map_eq_cons_iff.mp h
  cases e1
  obtain ⟨p, rfl⟩ := bs1 e2
  exact ⟨o, p, rfl⟩
theorem bs3 {bs : List (Str × Option Value)} {k l m : Str} (h : bs.map (·.1) = [k, l, m]) : ∃ o p q, bs = [(k, o), (l, p), (m, q)] := by
  obtain ⟨⟨a, o⟩, r, rfl, e1, e2⟩ := List.map_eq_cons_iff.mp h
  cases e1
  obtain ⟨p, q, rfl⟩ := bs2 e2
  exact ⟨o, p, q, rfl⟩
theorem Dp.tup3 {w : World} {g : Heap} {v : Value} {a b c : Int} (d : Dp w g v (.tuple [.int a, .int b, .int c])) : ∃ x t1 t2 t3, v = .ref x ∧ At w g x (.tup [.int a t1, .int b t2, .int c t3]) := by
  obtain ⟨x, vs, rfl, h, r⟩ := d.tupE
  obtain ⟨t1, vs1, rfl, r1⟩ := r.ci
  obtain ⟨t2, vs2, rfl, r2⟩ := r1.ci
  obtain ⟨t3, vs3, rfl, r3⟩ := r2.ci
  cases r3.n
  exact ⟨_, _, _, _, rfl, h⟩

theorem laid_row_ok {w : World} {A : Around} (M : Rm A 10) (g : Heap) {x dx l y dy sp ox od : Addr} {t u u' tc tw to uo : Tok} {text : List Int} {f p col width : Int} {a b c : Value} (V : ViewAt w g x dx l t text f) (T : TabAt w g y dy a b c) (O : OptAt w g ox od to uo)
    (S : At w g sp (.tup [.int p u, .int 0 u'])) (hf : 1 ≤ f) (hp : f ≤ p) (hp2 : p ≤ f + text.length) (hcol : 0 ≤ col) (hw : 3 ≤ width) (hw2 : width ≤ 6) (hT : ∀ c ∈ text, okc c) :
    CC (cx w) A g [] (.call (.ref 320) ⟨[.ref x, .ref y, .ref sp, .int col tc, .int width tw, .ref ox], []⟩) (fun v g' mu' => mu' = [] ∧ RowIs w g' v (lrow (width - 1) text f p col)) := by
  refine' C_def M [] ?ho ?hcd ?hbind ?hok ?hnd ?hloc ?hcell ?hco ?hgen ?hk ?h
  got_up
  intro env E M
  refine XS_gen M fun A2 RR M hRR => ?_
  dsimp only [bsInit, List.map, List.zip, List.zipWith, List.nil_append, List.cons_append, List.append_nil] at *
  obtain ⟨o1, o2⟩ := id O
  kt_ors
  refine F_call0 (folded_row_ok (M.le (by decide)) g V T O S hf hp hp2 hcol hw hw2 hT) ?_
  rintro v g1 k1 R
  (try refine Out.back hRR ?_)
  exact Out.pure (by tb_rel) fun g' k => ⟨rfl, R.mono k⟩

inductive Q_moved_spot_ok (w : World) (p : Int) (n : Int) (m : Int) (v : Value) (g' : Heap) : Prop
  | mk : ∀ a t1 t2, (v = .ref a) → (At w g' a (.tup [.int (p + m) t1, .int n t2])) → Q_moved_spot_ok w p n m v g'
theorem moved_spot_ok {w : World} {A : Around} (M : Rm A 1) (g : Heap) {sp : Addr} {t u tm : Tok} {p n m : Int} (S : At w g sp (.tup [.int p t, .int n u])) :
    CC (cx w) A g [] (.call (.ref 390) ⟨[.ref sp, .int m tm], []⟩) (fun v g' mu' => mu' = [] ∧ Q_moved_spot_ok w p n m v g') := by
  refine' C_def M [] ?ho ?hcd ?hbind ?hok ?hnd ?hloc ?hcell ?hco ?hgen ?hk ?h
  got_up
  intro env E M
  refine XS_gen M fun A2 RR M hRR => ?_
  dsimp only [bsInit, List.map, List.zip, List.zipWith, List.nil_append, List.cons_append, List.append_nil] at *
  kt_ors
  (try refine Out.back hRR ?_)
  exact Out.pure (by tb_rel) fun g' k => ⟨rfl, _, _, _, rfl, At.mono (by assumption) k⟩

def shiftE (e : RE) (m : Int) : RE := ⟨e.stop + m, e.ncol, e.reach + m, e.le, e.en, e.mark, e.gl.map fun q => (q.1, q.2 + m)⟩
def shiftR (r : LR) (m : Int) : LR := ⟨r.start + m, r.col, shiftE r.e m⟩
theorem moved_row_ok {w : World} {A : Around} (M : Rm A 3) (g : Heap) {v : Value} {tm : Tok} {m : Int} {r : LR} (R : RowIs w g v r) (hp : ∀ q ∈ r.e.gl, 0 ≤ q.2) (hl : r.e.gl.length ≤ 100) :
    CC (cx w) A g [] (.call (.ref 395) ⟨[v, .int m tm], []⟩) (fun v' g' mu' => mu' = [] ∧ RowIs w g' v' (shiftR r m)) := by
  obtain ⟨rx, rd, sp, ep, gl, vs, tc, tn, tmk, tr, t1, t2, t3, t4, rfl, R1⟩ := id R
  refine' C_defC M ["found"] ["more"] [("row", .ref rx)] [("more", .int m tm)] [some (.int m tm)] ?ho ?hcd ?hbind ?hok ?hlb ?hcb ?hnd ?hcn ?hcnd ?hcv ?hkd ?hco ?hgen ?hk ?h
  (case ho => k_is); (case hcd => k_is); (case hbind => exact fun s _ => BindsTo.of_eq rfl); (case hok => decide +kernel); (case hlb => exact rfl); (case hcb => exact rfl); (case hnd => kernel_rfl); (case hcn => exact rfl); (case hcnd => kernel_rfl); (case hcv => exact rfl); (case hkd => kernel_rfl); (case hco => exact rfl); (case hgen => exact rfl); (case hk => exact rfl)
  intro env as hl E M
  obtain ⟨c1, rfl⟩ := List.length_eq_one_iff.mp hl
  refine XS_gen M fun A2 RR M hRR => ?_
  dsimp only [bsInit, List.map, List.zip, List.zipWith, List.nil_append, List.cons_append, List.append_nil] at *
  obtain ⟨r1, r2, r3, r4, r5, r6⟩ := id R1
  kt_ors
  refine F_call0 (moved_spot_ok (M.le (by decide)) g r3) ?_
  rintro _ g1 k1 ⟨s1, t5, t6, rfl, S1⟩
  kt_ors
  refine F_call (row_make_ok (M.le (by decide)) g1 S1) (List.Perm.refl _) ?_
  rintro _ g2 _ k2 ⟨rx2, rd2, rfl, J2, gl2, tm2, rfl⟩
  dsimp only [List.cons_append, List.nil_append]
  kt_ors
  refine F_call0 (moved_spot_ok (M.le (by decide)) g2 (At.mono r4 (by tb_rel))) ?_
  rintro _ g3 k3 ⟨s3, t7, t8, rfl, S3⟩
  kt_ors
  refine' TS_comp (fr := [("more", c1)]) (keys := ["code", "face", "place"]) (cn := [(".0", .local), ("code", .local), ("face", .local), ("place", .local), ("more", .cell)]) M E rfl ?k1 ?k2 rfl ?k3 (cNames_eq E rfl) ?k4 ?k5 ?k7 ?k6
  case k1 => kernel_rfl
  case k2 => kernel_rfl
  case k3 => intro q hq; simp only [List.mem_singleton] at hq; subst hq; exact rfl
  case k4 => decide +kernel
  case k5 => kernel_rfl
  case k6 => intro _; rfl
  kt_ors
  have hlen := r6.len
  simp only [List.length_map] at hlen
  refine ⟨vs.length, _, _, fun i ys g' mu' => mu' = [(gl2, Sp.list []), (rd2, Sp.dict (rowD (.ref s1) (.int r.col tc) (.ref s3) (.int r.e.ncol tn) (.ref gl2) (.bool false) (.bool false) (.bool false) (.int 32 tm2) (.int (r.start + m) t5))), (c1, Sp.cell (some (Value.int m tm)))] ∧ Keeps g3 g' ∧
    DpAll w g' ys (((r.e.gl.take i).map fun q => (q.1, q.2 + m)).map gd), Iter_list M (.inr ⟨_, _, _, rfl⟩) (At.mono r5 (by tb_rel)), by (first | lia | omega), ⟨?_, ?_⟩, ⟨rfl, .refl _, .nil⟩, ?_⟩
  · rintro i ys g' mu' ⟨_, k, d⟩
    refine ⟨k, ?_⟩
    have := d.len
    simp only [List.length_map, List.length_take] at this
    (first | lia | omega)
  · rintro env' i ys g4 mu4 v g5 bsC E' hi ⟨rfl, k4, d4⟩ k5 hv hb
    obtain ⟨b1, b2, b3, rfl⟩ := bs3 hb
    obtain ⟨d, hd, dv⟩ := (r6.mono (h := g5) (by tb_rel)).get hv
    rw [List.getElem?_map, Option.map_eq_some_iff] at hd
    obtain ⟨q, hq, rfl⟩ := hd
    obtain ⟨a5, u1, u2, u3, rfl, A5⟩ := dv.tup3
    have hq0 := hp q (List.mem_of_getElem? hq)
    refine TS_assignTuple M rfl (.inl A5) rfl ?_
    dsimp only [rowD]
    kt_ors
    refine ⟨rfl, show _ ∧ _ from ⟨rfl, ite_t ?_⟩⟩
    have E2 := E'
    change EnvIs env' _ [("more", c1)] at E2
    kt_ors
    refine ite_dt hq0 ?_
    kt_ors
    dsimp only at *
    refine ⟨rfl, rfl, by tb_rel, ?_⟩
    rw [List.take_add_one, hq]
    simp only [Option.toList, List.map_append, List.map_cons, List.map_nil]
    exact DpAll.app (d4.mono (by tb_rel)) (.cons (.tup (by tb_rel) (.cons (.int _ _) (.cons (.int _ _) (.cons (.int _ _) .nil)))) .nil)
  · rintro D ys g' mu' ⟨rfl, k, d⟩
    dsimp only [rowD]
    kt_ors
    rw [show vs.length = r.e.gl.length by (first | lia | omega), List.take_length] at d
    (try refine Out.back hRR ?_)
    refine Out.all (by tb_rel) fun g' k h => ⟨rfl, RowIs.of (re := shiftE r.e m) rfl (At.mono J2 (by tb_rel)) (h _ _ (by tb_start)) (At.mono S1 (by tb_rel)) (At.mono S3 (by tb_rel)) (h _ _ (by tb_start)) (d.mono k)⟩
def LogD (e : Int) (ah : Option Int) (b m : Int) (fs : List (Str × Value)) : Prop :=
  (ah = none ∧ ∃ t1 t3 t4, fs = ([("end", .int e t1), ("ahead", .none), ("behind", .int b t3), ("more", .int m t4)] : List (Str × Value))) ∨
  (∃ a, ah = some a ∧ ∃ t1 t2 t3 t4, fs = ([("end", .int e t1), ("ahead", .int a t2), ("behind", .int b t3), ("more", .int m t4)] : List (Str × Value)))
theorem LogD.shape {e b m : Int} {ah : Option Int} {fs : List (Str × Value)} (D : LogD e ah b m fs) : ∃ v1 v2 v3 v4, fs = ([("end", v1), ("ahead", v2), ("behind", v3), ("more", v4)] : List (Str × Value)) := by
  rcases D with ⟨_, t1, t3, t4, rfl⟩ | ⟨a, _, t1, t2, t3, t4, rfl⟩
  · exact ⟨_, _, _, _, rfl⟩
  · exact ⟨_, _, _, _, rfl⟩
inductive Q_changes_init_ok (w : World) (lx : Addr) (ld : Addr) (e : Int) (v : Value) (g' : Heap) (mu' : List (Addr × Sp)) : Prop
  | mk : (v = .none) → (At w g' lx (.inst 358 ld)) → ∀ fs, (mu' = [(ld, .dict fs)]) → (LogD e none 0 0 fs) → Q_changes_init_ok w lx ld e v g' mu'
theorem changes_init_ok {w : World} {A : Around} (M : Rm A 1) (g : Heap) {lx ld : Addr} {e : Int} {t : Tok} :
    CC (cx w) A g [(lx, .inst 358 ld), (ld, .dict [])] (.call (.ref 334) ⟨[.ref lx, .int e t], []⟩) (Q_changes_init_ok w lx ld e) := by
  refine' C_def M [] ?ho ?hcd ?hbind ?hok ?hnd ?hloc ?hcell ?hco ?hgen ?hk ?h
  got_up
  intro env E M
  refine XS_gen M fun A2 RR M hRR => ?_
  dsimp only [bsInit, List.map, List.zip, List.zipWith, List.nil_append, List.cons_append, List.append_nil] at *
  kt_ors
  (try refine Out.back hRR ?_)
  exact Out.drop1 (by tb_rel) fun g' k h => ⟨rfl, h, _, rfl, .inl ⟨rfl, _, _, _, rfl⟩⟩
inductive Q_changes_make_ok (w : World) (e : Int) (v : Value) (g' : Heap) (mu' : List (Addr × Sp)) : Prop
  | mk : ∀ lx ld fs, (v = .ref lx) → (At w g' lx (.inst 358 ld)) → (mu' = [(ld, .dict fs)]) → (LogD e none 0 0 fs) → Q_changes_make_ok w e v g' mu'
theorem changes_make_ok {w : World} {A : Around} (M : Rm A 2) (g : Heap) {e : Int} {t : Tok} :
    CC (cx w) A g [] (.call (.ref 358) ⟨[.int e t], []⟩) (Q_changes_make_ok w e) := by
  refine CC_make (fI := 334) (by kernel_rfl) (by kernel_rfl) (by kernel_rfl) fun lx ld => ?_
  refine (changes_init_ok (M.make) g).mono ?_
  rintro v g' mu' k ⟨rfl, a1, fs, rfl, a2⟩
  exact ⟨rfl, lx, ld, fs, rfl, a1, rfl, a2⟩
inductive Q_note_ok (ld : Addr) (e : Int) (b : Int) (m : Int) (st : Int) (oe : Int) (ne : Int) (ah : Option Int) (v : Value) (g' : Heap) (mu' : List (Addr × Sp)) : Prop
  | mk : (v = .none) → ∀ fs', (mu' = [(ld, .dict fs')]) → (LogD e (some (match ah with | none => st | some a => min a st)) (match ah with | none => e + m - oe | some _ => min b (e + m - oe)) (m + ne - oe) fs') → Q_note_ok ld e b m st oe ne ah v g' mu'
theorem note_ok {w : World} {A : Around} (M : Rm A 1) (g : Heap) {lx ld : Addr} {e b m st oe ne : Int} {ah : Option Int} {t u v : Tok} {fs : List (Str × Value)} (I : At w g lx (.inst 358 ld)) (D : LogD e ah b m fs) :
    CC (cx w) A g [(ld, .dict fs)] (.call (.ref 341) ⟨[.ref lx, .int st t, .int oe u, .int ne v], []⟩) (Q_note_ok ld e b m st oe ne ah) := by
  refine' C_def M ["now", "tail"] ?ho ?hcd ?hbind ?hok ?hnd ?hloc ?hcell ?hco ?hgen ?hk ?h
  got_up
  intro env E M
  refine XS_gen M fun A2 RR M hRR => ?_
  dsimp only [bsInit, List.map, List.zip, List.zipWith, List.nil_append, List.cons_append, List.append_nil] at *
  rcases D with ⟨rfl, t1, t3, t4, rfl⟩ | ⟨a, rfl, t1, t2, t3, t4, rfl⟩
  · kt_ors
    (try refine Out.back hRR ?_)
    exact Out.pure (by tb_rel) fun g' k => ⟨rfl, _, rfl, .inr ⟨_, rfl, _, _, _, _, rfl⟩⟩
  · kt_ors
    (try refine Out.back hRR ?_)
    exact Out.pure (by tb_rel) fun g' k => ⟨rfl, _, rfl, .inr ⟨_, rfl, _, _, _, _, rfl⟩⟩
theorem old_tail_ok {w : World} {A : Around} (M : Rm A 1) (g : Heap) {lx ld : Addr} {e b m : Int} {ah : Option Int} {fs : List (Str × Value)} (I : At w g lx (.inst 358 ld)) (D : LogD e ah b m fs) :
    CC (cx w) A g [(ld, .dict fs)] (.call (.ref 348) ⟨[.ref lx], []⟩) (fun v g' mu' => mu' = [(ld, .dict fs)] ∧ ∃ t, v = .int (e - b) t) := by
  refine' C_def M [] ?ho ?hcd ?hbind ?hok ?hnd ?hloc ?hcell ?hco ?hgen ?hk ?h
  got_up
  intro env E M
  refine XS_gen M fun A2 RR M hRR => ?_
  dsimp only [bsInit, List.map, List.zip, List.zipWith, List.nil_append, List.cons_append, List.append_nil] at *
  rcases D with ⟨rfl, t1, t3, t4, rfl⟩ | ⟨a, rfl, t1, t2, t3, t4, rfl⟩
  · kt_ors
    (try refine Out.back hRR ?_)
    exact Out.pure (by tb_rel) fun g' k => ⟨rfl, _, rfl⟩
  · kt_ors
    (try refine Out.back hRR ?_)
    exact Out.pure (by tb_rel) fun g' k => ⟨rfl, _, rfl⟩
theorem is_none_ok {w : World} {A : Around} (M : Rm A 1) (g : Heap) {lx ld : Addr} {e b m : Int} {ah : Option Int} {fs : List (Str × Value)} (I : At w g lx (.inst 358 ld)) (D : LogD e ah b m fs) :
    CC (cx w) A g [(ld, .dict fs)] (.call (.ref 355) ⟨[.ref lx], []⟩) (fun v g' mu' => mu' = [(ld, .dict fs)] ∧ v = .bool ah.isNone) := by
  refine' C_def M [] ?ho ?hcd ?hbind ?hok ?hnd ?hloc ?hcell ?hco ?hgen ?hk ?h
  got_up
  intro env E M
  refine XS_gen M fun A2 RR M hRR => ?_
  dsimp only [bsInit, List.map, List.zip, List.zipWith, List.nil_append, List.cons_append, List.append_nil] at *
  rcases D with ⟨rfl, t1, t3, t4, rfl⟩ | ⟨a, rfl, t1, t2, t3, t4, rfl⟩
  · kt_ors
    (try refine Out.back hRR ?_)
    exact Out.pure (by tb_rel) fun g' k => ⟨rfl, rfl⟩
  · kt_ors
    (try refine Out.back hRR ?_)
    exact Out.pure (by tb_rel) fun g' k => ⟨rfl, rfl⟩

theorem again_init_ok {w : World} {A : Around} (M : Rm A 1) (g : Heap) {x d : Addr} {a b : Value} :
    CC (cx w) A g [(x, .inst 379 d), (d, .dict [])] (.call (.ref 376) ⟨[.ref x, a, b], []⟩) (fun v g' mu' => v = .none ∧ mu' = [] ∧ At w g' x (.inst 379 d) ∧ At w g' d (.dict [("rows", a), ("fresh", b)])) := by
  refine' C_def M [] ?ho ?hcd ?hbind ?hok ?hnd ?hloc ?hcell ?hco ?hgen ?hk ?h
  got_up
  intro env E M
  refine XS_gen M fun A2 RR M hRR => ?_
  dsimp only [bsInit, List.map, List.zip, List.zipWith, List.nil_append, List.cons_append, List.append_nil] at *
  kt_ors
  (try refine Out.back hRR ?_)
  exact Out.all (by tb_rel) fun g' k h => ⟨rfl, rfl, h _ _ (by tb_start), h _ _ (by tb_start)⟩
inductive Q_again_make_ok (w : World) (a : Value) (b : Value) (v : Value) (g' : Heap) : Prop
  | mk : ∀ x d, (v = .ref x) → (At w g' x (.inst 379 d)) → (At w g' d (.dict [("rows", a), ("fresh", b)])) → Q_again_make_ok w a b v g'
theorem again_make_ok {w : World} {A : Around} (M : Rm A 2) (g : Heap) {a b : Value} :
    CC (cx w) A g [] (.call (.ref 379) ⟨[a, b], []⟩) (fun v g' mu' => mu' = [] ∧ Q_again_make_ok w a b v g') := by
  refine CC_make (fI := 376) (by kernel_rfl) (by kernel_rfl) (by kernel_rfl) fun x d => ?_
  refine (again_init_ok (M.make) g).mono ?_
  rintro v g' mu' k ⟨rfl, rfl, a1, a2⟩
  exact ⟨rfl, rfl, x, d, rfl, a1, a2⟩

/-! ## rows kept -/
inductive RowsAre (w : World) (g : Heap) : List Value → List LR → Prop
  | nil : RowsAre w g [] []
  | cons {v vs r rs} : RowIs w g v r → RowsAre w g vs rs → RowsAre w g (v :: vs) (r :: rs)
theorem RowsAre.mono {w : World} {g h : Heap} (k : Keeps g h) {vs rs} (x : RowsAre w g vs rs) : RowsAre w h vs rs := by
  induction x with
  | nil => exact .nil
  | cons a _ ih => exact .cons (a.mono k) ih
theorem RowsAre.len {w : World} {g : Heap} {vs rs} (x : RowsAre w g vs rs) : vs.length = rs.length := by
  induction x with
  | nil => rfl
  | cons _ _ ih => simp [ih]
theorem RowsAre.get {w : World} {g : Heap} {vs rs} (x : RowsAre w g vs rs) : ∀ {k : Nat} {r : LR}, rs[k]? = some r → ∃ v, vs[k]? = some v ∧ RowIs w g v r := by
  induction x with
  | nil => intro k r h; simp at h
  | cons a _ ih =>
    intro k r h
    cases k with
    | zero => simp at h; subst h; exact ⟨_, rfl, a⟩
    | succ k => simp at h ⊢; exact ih h
theorem RowsAre.take {w : World} {g : Heap} {vs rs} (x : RowsAre w g vs rs) : ∀ k, RowsAre w g (vs.take k) (rs.take k) := by
  induction x with
  | nil => intro k; simp; exact .nil
  | cons a _ ih =>
    intro k
    cases k with
    | zero => simp; exact .nil
    | succ k => simp; exact .cons a (ih k)
theorem RowsAre.app {w : World} {g : Heap} {vs rs us ss} (x : RowsAre w g vs rs) (y : RowsAre w g us ss) : RowsAre w g (vs ++ us) (rs ++ ss) := by
  induction x with
  | nil => exact y
  | cons a _ ih => exact .cons a ih

/-- how many rows stay: all, or those that reach no further than the first change -/
def keptOf (ah : Option Int) (p col : Int) : List LR → Nat
  | [] => 0
  | r :: rs => if r.start ≠ p ∨ r.col ≠ col then 0 else match ah with
    | none => (r :: rs).length
    | some a => ((r :: rs).takeWhile fun r => decide (r.e.reach ≤ a)).length
theorem X_seal {c : Cx} {A : Around} {env : Env} {g : Heap} {bs : List (Str × Option Value)} {mu e mu' : List (Addr × Sp)} {ss : List Stmt} {N : SS → Prop} {R : Value → SS → Prop} (hp : mu.Perm (e ++ mu'))
    (k : ∀ g', Keeps g g' → (∀ p ∈ e, At c.w g' p.1 p.2) → XS c A env ⟨g', bs, mu'⟩ ss N R) : XS c A env ⟨g, bs, mu⟩ ss N R := F_seal hp k
theorem X_permM {c : Cx} {A : Around} {env : Env} {g : Heap} {bs : List (Str × Option Value)} {mu mu' : List (Addr × Sp)} {ss : List Stmt} {N : SS → Prop} {R : Value → SS → Prop} (hp : mu.Perm mu') (k : XS c A env ⟨g, bs, mu'⟩ ss N R) : XS c A env ⟨g, bs, mu⟩ ss N R := TS_permM hp k
theorem eqv_spot (a b : Int) : PyData.eqv (.tuple [.int a, .int 0]) (.tuple [.int b, .int 0]) = decide (a = b) := by
  simp only [PyData.eqv, PyData.eqvAll, Bool.and_true, beq_self_eq_true]
  by_cases h : a = b <;> simp [h]
theorem tw_step {α : Type} (p : α → Bool) : ∀ (l : List α) (n : Nat), n ≤ (l.takeWhile p).length →
    (∀ x, l[n]? = some x → p x = true → n + 1 ≤ (l.takeWhile p).length) ∧ (l[n]? = none → n = (l.takeWhile p).length) ∧ (∀ x, l[n]? = some x → p x = false → n = (l.takeWhile p).length)
  | [], n, h => by simp at h; subst h; simp
  | a :: r, 0, h => by
    refine ⟨fun x hx hp => ?_, fun hx => by simp at hx, fun x hx hp => ?_⟩
    · simp at hx; subst hx; rw [List.takeWhile_cons_of_pos hp]; simp
    · simp at hx; subst hx; rw [List.takeWhile_cons_of_neg (by simp [hp])]; rfl
  | a :: r, n + 1, h => by
    cases hp : p a with
    | false => rw [List.takeWhile_cons_of_neg (by simp [hp])] at h; simp at h
    | true =>
      rw [List.takeWhile_cons_of_pos hp] at h ⊢
      simp only [List.length_cons, Nat.add_le_add_iff_right] at h ⊢
      obtain ⟨h1, h2, h3⟩ := tw_step p r n h
      simp only [List.getElem?_cons_succ]
      exact ⟨fun x a b => by have := h1 x a b; (first | lia | omega), fun a => by have := h2 a; (first | lia | omega), fun x a b => by have := h3 x a b; (first | lia | omega)⟩
theorem tw_le {α : Type} (p : α → Bool) (l : List α) : (l.takeWhile p).length ≤ l.length := by
  induction l with
  | nil => simp
  | cons a r ih => rw [List.takeWhile_cons]; split <;> simp; (first | lia | omega)

theorem keptOf_ne {ah : Option Int} {p col : Int} {r : LR} {rs : List LR} (h : r.start ≠ p ∨ r.col ≠ col) : keptOf ah p col (r :: rs) = 0 := by
  unfold keptOf; exact if_pos h
theorem keptOf_none {p col : Int} {r : LR} {rs : List LR} (h : ¬ (r.start ≠ p ∨ r.col ≠ col)) : keptOf none p col (r :: rs) = (r :: rs).length := by
  unfold keptOf; exact if_neg h
theorem keptOf_some {a p col : Int} {r : LR} {rs : List LR} (h : ¬ (r.start ≠ p ∨ r.col ≠ col)) : keptOf (some a) p col (r :: rs) = ((r :: rs).takeWhile fun r => decide (r.e.reach ≤ a)).length := by
  unfold keptOf; exact if_neg h

inductive KeptJ (g : Heap) (l lx sp ld : Addr) (e a b m col : Int) (tc q1 q2 q3 q4 : Tok) (rs : List LR) (k : Nat) (σ : SS) : Prop
  | mk : ∀ g' n tn, (σ = ⟨g', [("rows", some (.ref l)), ("changes", some (.ref lx)), ("spot", some (.ref sp)), ("column", some (.int col tc)), ("count", some (.int (n : Nat) tn))], [(ld, .dict [("end", .int e q1), ("ahead", .int a q2), ("behind", .int b q3), ("more", .int m q4)])]⟩) → (Keeps g g') → (n ≤ (rs.takeWhile fun r => decide (r.e.reach ≤ a)).length) → (k = rs.length - n) → KeptJ g l lx sp ld e a b m col tc q1 q2 q3 q4 rs k σ
theorem kept_count_ok {w : World} {A : Around} (M : Rm A 3) (g : Heap) {l lx ld sp : Addr} {vs : List Value} {rs : List LR} {e b m p col : Int} {ah : Option Int} {t1 t2 tc : Tok} {fs : List (Str × Value)} (L : At w g l (.list vs)) (R : RowsAre w g vs rs) (hz : rs.length ≤ 50)
    (I : At w g lx (.inst 358 ld)) (D : LogD e ah b m fs) (S : At w g sp (.tup [.int p t1, .int 0 t2])) :
    CC (cx w) A g [(ld, .dict fs)] (.call (.ref 402) ⟨[.ref l, .ref lx, .ref sp, .int col tc], []⟩) (fun v g' mu' => mu' = [(ld, .dict fs)] ∧ ∃ t, v = .int (keptOf ah p col rs) t) := by
  refine' C_def M ["count"] ?ho ?hcd ?hbind ?hok ?hnd ?hloc ?hcell ?hco ?hgen ?hk ?h
  got_up
  intro env E M
  refine XS_gen M fun A2 RR M hRR => ?_
  dsimp only [bsInit, List.map, List.zip, List.zipWith, List.nil_append, List.cons_append, List.append_nil] at *
  obtain ⟨v1, v2, v3, v4, rfl⟩ := D.shape
  have hlen := R.len
  kt_ors
  refine ite_d (fun h1 => ?_) (fun h1 => ?_)
  · cases R with
    | cons => simp at h1
    | nil =>
      kt_ors
      (try refine Out.back hRR ?_)
      exact Out.drop1 (by tb_rel) fun g' k h => ⟨rfl, _, rfl⟩
  · cases R with
    | nil => simp at h1
    | @cons v0 vs0 r rs0 R0 Rr =>
      obtain ⟨rx, rd, sp0, ep, gl, gvs, tc0, tn, tmk, tr, u1, u2, u3, u4, rfl, R1⟩ := id R0
      obtain ⟨r1, r2, r3, r4, r5, r6⟩ := id R1
      kt_ors
      refine F_item (k := 0) (by tb_start) (by decide) (by decide) rfl ?_
      kt_ors
      refine TS_neD M (.tup r3 (.cons (.int _ _) (.cons (.int _ _) .nil))) (.tup S (.cons (.int _ _) (.cons (.int _ _) .nil))) (by kernel_rfl) ?_
      rw [eqv_spot]
      kt_ors
      refine ite_nd (fun h2 => ?_) (fun h2 => ?_)
      · kt_ors
        (try refine Out.back hRR ?_)
        exact Out.drop1 (by tb_rel) fun g' k h => ⟨rfl, _, by rw [keptOf_ne (.inl h2)]; rfl⟩
      kt_ors
      refine F_item (k := 0) (by tb_start) (by decide) (by decide) rfl ?_
      kt_ors
      refine ite_d (fun h3 => ?_) (fun h3 => ?_)
      · kt_ors
        (try refine Out.back hRR ?_)
        exact Out.drop1 (by tb_rel) fun g' k h => ⟨rfl, _, by rw [keptOf_ne (.inr h3)]; rfl⟩
      have h23 : ¬ (r.start ≠ p ∨ r.col ≠ col) := by (first | lia | omega)
      kt_ors
      refine F_call (is_none_ok (M.le (by decide)) g I D) (List.Perm.swap _ _ _) ?_
      rintro _ g1 _ k1 ⟨rfl, rfl⟩
      dsimp only [List.cons_append, List.nil_append]
      rcases id D with ⟨rfl, q1, q3, q4, e4⟩ | ⟨a, rfl, q1, q2, q3, q4, e4⟩
      · cases e4
        dsimp only [Option.isNone]
        kt_ors
        (try refine Out.back hRR ?_)
        exact ⟨[_], _, List.Perm.swap _ _ _, by tb_rel, fun g' k h => ⟨rfl, _, by rw [keptOf_none h23, ← hlen]⟩⟩
      · cases e4
        dsimp only [Option.isNone]
        kt_ors
        rw [keptOf_some h23] at hRR
        have hR := R0
        generalize hrs : r :: rs0 = rs at *
        have RR : RowsAre w g (Value.ref rx :: vs0) rs := by rw [← hrs]; exact .cons R0 Rr
        generalize hvs : Value.ref rx :: vs0 = vs at *
        refine X_seal (e := [(_, Sp.list [])]) (mu' := [(ld, _)]) (List.Perm.swap _ _ _) ?_
        intro g2 k2 _
        refine XS_whileG (KeptJ g l lx sp ld e a b m col tc q1 q2 q3 q4 rs)
              rs.length ⟨g2, 0, _, rfl, by tb_rel, Nat.zero_le _, rfl⟩ ?_
        rintro k _ NN hNN ⟨g3, n, tn3, rfl, k3, hn, rfl⟩
        obtain ⟨w1, w2, w3⟩ := tw_step (fun r => decide (r.e.reach ≤ a)) rs n hn
        have hle := tw_le (fun r : LR => decide (r.e.reach ≤ a)) rs
        kt_ors
        refine ite_d (fun h5 => ?_) (fun h5 => ?_)
        · have hnl : n < rs.length := by (first | lia | omega)
          obtain ⟨v5, hv5, R5⟩ := RR.get (List.getElem?_eq_getElem hnl)
          generalize hr5 : rs[n] = r5' at *
          have hg5 : rs[n]? = some r5' := by rw [List.getElem?_eq_getElem hnl, hr5]
          obtain ⟨rx5, rd5, sp5, ep5, gl5, gvs5, tc5, tn5, tmk5, tr5, x1, x2, x3, x4, rfl, R6⟩ := id R5
          obtain ⟨y1, y2, y3, y4, y5, y6⟩ := id R6
          kt_ors
          refine F_item (x := .ref rx5) (by tb_start) (by (first | lia | omega)) (by (first | lia | omega)) (by simpa using hv5) ?_
          kt_ors
          refine ite_d (fun h6 => ?_) (fun h6 => ?_)
          · kt_ors
            have := w1 _ hg5 (by simpa using h6)
            exact ⟨rs.length - (n + 1), by (first | lia | omega), g3, n + 1, _, rfl, k3, this, rfl⟩
          · kt_ors
            have := w3 _ hg5 (by simpa using h6)
            (try refine Out.back hRR ?_)
            exact Out.pure (by tb_rel) fun g' k => ⟨rfl, _, by rw [← this]⟩
        · kt_ors
          have := w2 (List.getElem?_eq_none (by (first | lia | omega)))
          (try refine Out.back hRR ?_)
          exact Out.pure (by tb_rel) fun g' k => ⟨rfl, _, by rw [← this]⟩
def tlOf (ah : Option Int) (eb : Int) (r : LR) : Bool := match ah with | none => true | some _ => decide (eb < r.start)
theorem atKey_stored {xs : List (List Int × Addr × Value)} {k : List Int} {a : Addr} {v : Value} (k' : List Int) : (atKey (storedH xs k a v) k').map (·.2) = if k' = k then some v else (atKey xs k').map (·.2) := by
  have find_put : ∀ l : List (List Int × Addr × Value), (((l.map (putAt k v)).find? fun x => decide (x.1 = k')).map (·.2)).map (·.2) = if k' = k then (((l.find? fun x => decide (x.1 = k')).map (·.2)).map fun _ => v) else ((l.find? fun x => decide (x.1 = k')).map (·.2)).map (·.2) := by
    intro l
    induction l with
    | nil => by_cases h : k' = k <;> simp [h]
    | cons y r ih =>
      have e1 : (putAt k v y).1 = y.1 := by unfold putAt; split <;> rfl
      rw [List.map_cons, List.find?_cons, List.find?_cons, e1]
      by_cases hy : y.1 = k'
      · rw [decide_eq_true hy]
        simp only [Option.map_some]
        by_cases h : k' = k
        · rw [if_pos h]; unfold putAt; rw [if_pos (hy.trans h)]
        · rw [if_neg h]; unfold putAt; rw [if_neg (fun q => h (hy.symm.trans q))]
      · rw [decide_eq_false hy]
        exact ih
  unfold storedH
  split
  · rename_i hs
    unfold atKey
    rw [find_put]
    by_cases h : k' = k
    · rw [if_pos h, if_pos h]
      subst h
      unfold atKey at hs
      obtain ⟨p, hp⟩ := Option.isSome_iff_exists.mp hs
      rw [hp]
      rfl
    · rw [if_neg h, if_neg h]
  · rename_i hs
    unfold atKey at hs ⊢
    rw [List.find?_append]
    by_cases h : k' = k
    · subst h
      rw [if_pos rfl]
      have hn : (xs.find? fun x => decide (x.1 = k')) = none := by
        cases q : (xs.find? fun x => decide (x.1 = k')) with
        | none => rfl
        | some y => rw [q] at hs; simp at hs
      rw [hn]
      simp
    · rw [if_neg h]
      have hz : ([(k, a, v)].find? fun x => decide (x.1 = k')) = none := by simp [Ne.symm h]
      rw [hz, Option.or_none]
def StartsOk (xs : List (List Int × Addr × Value)) (ah : Option Int) (eb m : Int) (rs : List LR) : Prop :=
  (∀ k v, (atKey xs k).map (·.2) = some v → ∃ (i : Nat) (t : Tok) (r : LR), v = .int i t ∧ rs[i]? = some r ∧ tlOf ah eb r = true ∧ k = [r.start + m, 0, r.col]) ∧
  (∀ r ∈ rs, tlOf ah eb r = true → ((atKey xs [r.start + m, 0, r.col]).map (·.2)).isSome = true)
theorem StartsOk.skip {xs : List (List Int × Addr × Value)} {ah : Option Int} {eb m : Int} {rs : List LR} {i : Nat} {r : LR} (S : StartsOk xs ah eb m (rs.take i)) (hr : rs[i]? = some r) (ht : tlOf ah eb r = false) : StartsOk xs ah eb m (rs.take (i + 1)) := by
  have e : rs.take (i + 1) = rs.take i ++ [r] := by rw [List.take_add_one, hr]; rfl
  refine ⟨fun k v h => ?_, fun r' hr' ht' => ?_⟩
  · obtain ⟨j, t, r', e1, e2, e3⟩ := S.1 k v h
    refine ⟨j, t, r', e1, ?_, e3⟩
    have hj := (List.getElem?_eq_some_iff.mp e2).1
    rw [e, List.getElem?_append_left hj]; exact e2
  · rw [e] at hr'
    rcases List.mem_append.mp hr' with h | h
    · exact S.2 r' h ht'
    · simp only [List.mem_singleton] at h
      subst h
      rw [ht] at ht'; cases ht'
theorem StartsOk.add {xs : List (List Int × Addr × Value)} {ah : Option Int} {eb m : Int} {rs : List LR} {i : Nat} {r : LR} {a : Addr} {t : Tok} (S : StartsOk xs ah eb m (rs.take i)) (hr : rs[i]? = some r) (ht : tlOf ah eb r = true) : StartsOk (storedH xs [r.start + m, 0, r.col] a (.int i t)) ah eb m (rs.take (i + 1)) := by
  have hi := (List.getElem?_eq_some_iff.mp hr).1
  have e : rs.take (i + 1) = rs.take i ++ [r] := by rw [List.take_add_one, hr]; rfl
  have hl : (rs.take i).length = i := by rw [List.length_take]; (first | lia | omega)
  refine ⟨fun k v h => ?_, fun r' hr' ht' => ?_⟩
  · rw [atKey_stored] at h
    split at h
    · rename_i hk
      cases h
      refine ⟨i, t, r, rfl, ?_, ht, hk⟩
      rw [e, List.getElem?_append_right (by (first | lia | omega)), hl]
      simp
    · obtain ⟨j, t, r', e1, e2, e3⟩ := S.1 k v h
      refine ⟨j, t, r', e1, ?_, e3⟩
      have hj := (List.getElem?_eq_some_iff.mp e2).1
      rw [e, List.getElem?_append_left hj]; exact e2
  · rw [atKey_stored]
    split
    · rfl
    · rename_i hk
      rw [e] at hr'
      rcases List.mem_append.mp hr' with h | h
      · exact S.2 r' h ht'
      · simp only [List.mem_singleton] at h
        subst h
        exact absurd rfl hk

inductive TailJ (w : World) (g : Heap) (l lx d ld : Addr) (e b m : Int) (q1 q3 q4 : Tok) (rs : List LR) (i : Nat) (σ : SS) : Prop
  | mk : ∀ g' o' xs o1 o2 o3 o4 mu', (σ = ⟨g', [("rows", some (.ref l)), ("changes", some (.ref lx)), ("found", some (.ref d)), ("number", o1), ("row", o2), ("place", o3), ("sign", o4)], mu'⟩) → (mu'.Perm [(d, .raw o'), (ld, .dict [("end", .int e q1), ("ahead", .none), ("behind", .int b q3), ("more", .int m q4)])]) → (Keeps g g') → (DK (cx w) g' o' xs) → (xs.length ≤ i) → (StartsOk xs none (e - b) m (rs.take i)) → TailJ w g l lx d ld e b m q1 q3 q4 rs i σ
inductive TailK (w : World) (g : Heap) (l lx d ld : Addr) (e a b m : Int) (q1 q2 q3 q4 : Tok) (rs : List LR) (i : Nat) (σ : SS) : Prop
  | mk : ∀ g' o' xs o1 o2 o3 o4 mu', (σ = ⟨g', [("rows", some (.ref l)), ("changes", some (.ref lx)), ("found", some (.ref d)), ("number", o1), ("row", o2), ("place", o3), ("sign", o4)], mu'⟩) → (mu'.Perm [(d, .raw o'), (ld, .dict [("end", .int e q1), ("ahead", .int a q2), ("behind", .int b q3), ("more", .int m q4)])]) → (Keeps g g') → (DK (cx w) g' o' xs) → (xs.length ≤ i) → (StartsOk xs (some a) (e - b) m (rs.take i)) → TailK w g l lx d ld e a b m q1 q2 q3 q4 rs i σ
inductive Q_tail_starts_ok (w : World) (ld : Addr) (rs : List LR) (e : Int) (b : Int) (m : Int) (ah : Option Int) (fs : List (Str × Value)) (v : Value) (g' : Heap) (mu' : List (Addr × Sp)) : Prop
  | mk : (mu' = [(ld, .dict fs)]) → ∀ d o xs, (v = .ref d) → (At w g' d (.raw o)) → (DK (cx w) g' o xs) → ((d == sysModules) = false) → (StartsOk xs ah (e - b) m rs) → Q_tail_starts_ok w ld rs e b m ah fs v g' mu'
theorem tail_starts_ok {w : World} {A : Around} (M : Rm A 3) (g : Heap) {l lx ld : Addr} {vs : List Value} {rs : List LR} {e b m : Int} {ah : Option Int} {fs : List (Str × Value)} (L : At w g l (.list vs)) (R : RowsAre w g vs rs) (hz : rs.length ≤ 50)
    (I : At w g lx (.inst 358 ld)) (D : LogD e ah b m fs) :
    CC (cx w) A g [(ld, .dict fs)] (.call (.ref 409) ⟨[.ref l, .ref lx], []⟩) (Q_tail_starts_ok w ld rs e b m ah fs) := by
  refine' C_def M ["found", "number", "row", "place", "sign"] ?ho ?hcd ?hbind ?hok ?hnd ?hloc ?hcell ?hco ?hgen ?hk ?h
  got_up
  intro env E M
  refine XS_gen M fun A2 RR M hRR => ?_
  dsimp only [bsInit, List.map, List.zip, List.zipWith, List.nil_append, List.cons_append, List.append_nil] at *
  have hlen := R.len
  rcases id D with ⟨rfl, q1, q3, q4, rfl⟩ | ⟨a, rfl, q1, q2, q3, q4, rfl⟩
  · kt_ors
    refine TS_dict0 ?_
    intro d o hDK hsys
    kt_ors
    refine' XS_for ?_ ?k9
    case k9 => intro _; rfl
    kt_ors
    exact "enumerate"
    kt_ors
    refine TS_enumerate (by tb_start) ?_
    intro ee it oi ho
    refine ⟨vs.length, _, _, TailJ w g l lx d ld e b m q1 q3 q4 rs,
      Iter_enum M (by tb_rel) ho, ⟨g, o, [], _, _, _, _, _, rfl, List.Perm.refl _, .refl g, hDK, by simp, ⟨fun k v h => by simp [atKey] at h, fun r h => by simp at h⟩⟩, ?_, ?_, ?_⟩
    · rintro i _ ⟨g', o', xs, o1, o2, o3, o4, mu', rfl, _, k, _⟩; exact k
    · rintro i g' bs' mu' v g2 hi ⟨g1, o', xs, o1, o2, o3, o4, mu1, e0, hpm, k1, dk1, hxl, so⟩ k2 ⟨tt, a2, x2, rfl, hx2, A2⟩
      cases e0
      refine TS_permM hpm ?_
      have hir : i < rs.length := by (first | lia | omega)
      obtain ⟨v5, hv5, R5⟩ := R.get (List.getElem?_eq_getElem hir)
      rw [hx2] at hv5
      cases hv5
      generalize hr5 : rs[i] = r5 at *
      have hg5 : rs[i]? = some r5 := by rw [List.getElem?_eq_getElem hir, hr5]
      obtain ⟨rx5, rd5, sp5, ep5, gl5, gvs5, tc5, tn5, tmk5, tr5, x1, x2, x3, x4, rfl, R6⟩ := id R5
      obtain ⟨y1, y2, y3, y4, y5, y6⟩ := id R6
      refine TS_assignTuple M rfl (.inl A2) rfl ?_
      kt_ors
      refine F_call (is_none_ok (M.le (by decide)) g2 (At.mono I (by tb_rel)) D) (List.Perm.swap _ _ _) ?_
      rintro _ g3 _ k3 ⟨rfl, rfl⟩
      dsimp only [List.cons_append, List.nil_append, Option.isNone]
      kt_ors
      refine F_call0 (moved_spot_ok (M.le (by decide)) _ (At.mono y3 (by tb_rel))) ?_
      rintro _ g6 k6 ⟨a6, t61, t62, rfl, A6⟩
      kt_ors
      refine TS_setItemK (zs := [r5.start + m, 0, r5.col]) (xs := xs) M (dk1.mono (by tb_rel)) (by assumption) (.cons (.cons (.cons .nil))) (by tb_start) (by (first | lia | omega)) ?_
      intro o7 mu7 dk7 U7
      cases U7 with
      | tail U7 =>
        cases U7 with
        | tail U7 => cases U7
        | head =>
          kt_ors
          exact ⟨_, o7, _, _, _, _, _, _, rfl, List.Perm.swap _ _ _, by tb_rel, dk7, by unfold storedH; split <;> simp <;> (first | lia | omega), so.add hg5 rfl⟩
    · rintro _ ⟨g1, o', xs, o1, o2, o3, o4, mu1, rfl, hpm, k1, dk1, hxl, so⟩
      refine X_permM hpm ?_
      rw [show vs.length = rs.length from hlen, List.take_length] at so
      kt_ors
      (try refine Out.back hRR ?_)
      exact Out.drop1 (by tb_rel) fun g' k h => ⟨rfl, d, o', xs, rfl, h, dk1.mono k, hsys, so⟩
  · kt_ors
    refine TS_dict0 ?_
    intro d o hDK hsys
    kt_ors
    refine' XS_for ?_ ?k9
    case k9 => intro _; rfl
    kt_ors
    exact "enumerate"
    kt_ors
    refine TS_enumerate (by tb_start) ?_
    intro ee it oi ho
    refine ⟨vs.length, _, _, TailK w g l lx d ld e a b m q1 q2 q3 q4 rs,
      Iter_enum M (by tb_rel) ho, ⟨g, o, [], _, _, _, _, _, rfl, List.Perm.refl _, .refl g, hDK, by simp, ⟨fun k v h => by simp [atKey] at h, fun r h => by simp at h⟩⟩, ?_, ?_, ?_⟩
    · rintro i _ ⟨g', o', xs, o1, o2, o3, o4, mu', rfl, _, k, _⟩; exact k
    · rintro i g' bs' mu' v g2 hi ⟨g1, o', xs, o1, o2, o3, o4, mu1, e0, hpm, k1, dk1, hxl, so⟩ k2 ⟨tt, a2, x2, rfl, hx2, A2⟩
      cases e0
      refine TS_permM hpm ?_
      have hir : i < rs.length := by (first | lia | omega)
      obtain ⟨v5, hv5, R5⟩ := R.get (List.getElem?_eq_getElem hir)
      rw [hx2] at hv5
      cases hv5
      generalize hr5 : rs[i] = r5 at *
      have hg5 : rs[i]? = some r5 := by rw [List.getElem?_eq_getElem hir, hr5]
      obtain ⟨rx5, rd5, sp5, ep5, gl5, gvs5, tc5, tn5, tmk5, tr5, x1, x2, x3, x4, rfl, R6⟩ := id R5
      obtain ⟨y1, y2, y3, y4, y5, y6⟩ := id R6
      refine TS_assignTuple M rfl (.inl A2) rfl ?_
      kt_ors
      refine F_call (is_none_ok (M.le (by decide)) g2 (At.mono I (by tb_rel)) D) (List.Perm.swap _ _ _) ?_
      rintro _ g3 _ k3 ⟨rfl, rfl⟩
      dsimp only [List.cons_append, List.nil_append, Option.isNone]
      kt_ors
      refine F_call (old_tail_ok (M.le (by decide)) g3 (At.mono I (by tb_rel)) D) (List.Perm.refl _) ?_
      rintro _ g4 _ k4 ⟨rfl, t4, rfl⟩
      dsimp only [List.cons_append, List.nil_append]
      kt_ors
      refine ite_d (fun h7 => ?_) (fun h7 => ?_)
      · kt_ors
        refine F_call0 (moved_spot_ok (M.le (by decide)) _ (At.mono y3 (by tb_rel))) ?_
        rintro _ g6 k6 ⟨a6, t61, t62, rfl, A6⟩
        kt_ors
        refine TS_setItemK (zs := [r5.start + m, 0, r5.col]) (xs := xs) M (dk1.mono (by tb_rel)) (by assumption) (.cons (.cons (.cons .nil))) (by tb_start) (by (first | lia | omega)) ?_
        intro o7 mu7 dk7 U7
        cases U7 with
        | tail U7 =>
          cases U7 with
          | tail U7 => cases U7
          | head =>
            kt_ors
            exact ⟨_, o7, _, _, _, _, _, _, rfl, List.Perm.swap _ _ _, by tb_rel, dk7, by unfold storedH; split <;> simp <;> (first | lia | omega), so.add hg5 (by simp [tlOf]; (first | lia | omega))⟩
      · kt_ors
        exact ⟨_, o', xs, _, _, _, _, _, rfl, List.Perm.swap _ _ _, by tb_rel, dk1.mono (by tb_rel), by (first | lia | omega), so.skip hg5 (by simp [tlOf]; (first | lia | omega))⟩
    · rintro _ ⟨g1, o', xs, o1, o2, o3, o4, mu1, rfl, hpm, k1, dk1, hxl, so⟩
      refine X_permM hpm ?_
      rw [show vs.length = rs.length from hlen, List.take_length] at so
      kt_ors
      (try refine Out.back hRR ?_)
      exact Out.drop1 (by tb_rel) fun g' k h => ⟨rfl, d, o', xs, rfl, h, dk1.mono k, hsys, so⟩
def rowsGo (room : Int) (text : List Int) (f : Int) : Nat → Int → Int → List LR
  | 0, _, _ => []
  | n + 1, p, col => lrow room text f p col :: if (lrow room text f p col).e.en = true then [] else rowsGo room text f n (lrow room text f p col).e.stop (lrow room text f p col).e.ncol
/-- what follows after some rows -/
def restOf (room : Int) (text : List Int) (f : Int) (n : Nat) (p col : Int) (F : List LR) : List LR :=
  match F.getLast? with
  | none => rowsGo room text f n p col
  | some r => if r.e.en = true then [] else rowsGo room text f (n - F.length) r.e.stop r.e.ncol
theorem rowsGo_split (room : Int) (text : List Int) (f : Int) : ∀ (n : Nat) (p col : Int) (k : Nat), k ≤ (rowsGo room text f n p col).length →
    rowsGo room text f n p col = (rowsGo room text f n p col).take k ++ restOf room text f n p col ((rowsGo room text f n p col).take k)
  | _, p, col, 0, _ => by simp [restOf]
  | 0, p, col, k + 1, h => by simp [rowsGo] at h
  | n + 1, p, col, k + 1, h => by
    rw [rowsGo] at h ⊢
    by_cases he : (lrow room text f p col).e.en = true
    · rw [if_pos he] at h ⊢
      simp only [List.length_cons, List.length_nil] at h
      have : k = 0 := by (first | lia | omega)
      subst this
      simp [restOf, he]
    · rw [if_neg he] at h ⊢
      simp only [List.length_cons, Nat.add_le_add_iff_right] at h
      have ih := rowsGo_split room text f n (lrow room text f p col).e.stop (lrow room text f p col).e.ncol k h
      rw [List.take_succ_cons, List.cons_append]
      congr 1
      generalize hL : rowsGo room text f n (lrow room text f p col).e.stop (lrow room text f p col).e.ncol = L at *
      refine ih.trans ?_
      congr 1
      unfold restOf
      rcases hT : L.take k with _ | ⟨y, ys⟩
      · simp [he, hL]
      · rw [List.getLast?_cons_cons]
        obtain ⟨z, hz⟩ : ∃ z, (y :: ys).getLast? = some z := ⟨_, List.getLast?_eq_some_getLast (by simp)⟩
        rw [hz]
        have e1 : ((lrow room text f p col) :: y :: ys).length = (y :: ys).length + 1 := rfl
        rw [e1, Nat.add_sub_add_right]
theorem rowsGo_len (room : Int) (text : List Int) (f : Int) : ∀ (n : Nat) (p col : Int), (rowsGo room text f n p col).length ≤ n
  | 0, _, _ => by simp [rowsGo]
  | n + 1, p, col => by
    rw [rowsGo]
    split
    · simp
    · have := rowsGo_len room text f n (lrow room text f p col).e.stop (lrow room text f p col).e.ncol
      simp; (first | lia | omega)
theorem rowGo_bounds (room f : Int) : ∀ (l : List Int) (p col : Int) (gl : List (Int × Int)), 0 ≤ col → p ≤ (rowGo room l p col gl).stop ∧ (rowGo room l p col gl).stop ≤ p + l.length ∧ 0 ≤ (rowGo room l p col gl).ncol
  | [], p, col, gl, h => by simp [rowGo]; (first | lia | omega)
  | c :: r, p, col, gl, h => by
    rw [rowGo]
    have hs := Int.natCast_nonneg (shownOf c col).length
    split
    · simp; (first | lia | omega)
    · split
      · split
        · simp; (first | lia | omega)
        · simp; (first | lia | omega)
      · obtain ⟨h1, h2, h3⟩ := rowGo_bounds room f r (p + 1) (col + (shownOf c col).length) (gl ++ (shownOf c col).map fun z => (z, p)) (by (first | lia | omega))
        refine ⟨by (first | lia | omega), ?_, h3⟩
        simp only [List.length_cons]
        (first | lia | omega)
theorem lrow_bounds {room : Int} {text : List Int} {f p col : Int} (h1 : f ≤ p) (h2 : p ≤ f + text.length) (h : 0 ≤ col) :
    p ≤ (lrow room text f p col).e.stop ∧ (lrow room text f p col).e.stop ≤ f + text.length ∧ 0 ≤ (lrow room text f p col).e.ncol := by
  obtain ⟨a, b, c⟩ := rowGo_bounds room f (text.drop (p - f).toNat) p col [] h
  refine ⟨a, ?_, c⟩
  rw [List.length_drop] at b
  exact Int.le_trans b (by (first | lia | omega))
def movedOf (ah : Option Int) (eb m : Int) (rs : List LR) : List (Int × Int) := (rs.filter (tlOf ah eb)).map fun r => (r.start + m, r.col)
def freshOf (mv : List (Int × Int)) (l : List LR) : Nat := l.countP fun r => !mv.contains (r.start, r.col)
theorem freshOf_app (mv : List (Int × Int)) (l k : List LR) : freshOf mv (l ++ k) = freshOf mv l + freshOf mv k := by unfold freshOf; rw [List.countP_append]
theorem keptOf_le (ah : Option Int) (p col : Int) (rs : List LR) : keptOf ah p col rs ≤ rs.length := by
  cases rs with
  | nil => simp [keptOf]
  | cons r rs =>
    by_cases h : r.start ≠ p ∨ r.col ≠ col
    · rw [keptOf_ne h]; simp
    · cases ah with
      | none => rw [keptOf_none h]; exact Nat.le_refl _
      | some a => rw [keptOf_some h]; exact tw_le _ _

theorem RowsAre.last {w : World} {g : Heap} {vs : List Value} {rs : List LR} (x : RowsAre w g vs rs) (h : rs ≠ []) : ∃ vs' v rs' r, vs = vs' ++ [v] ∧ rs = rs' ++ [r] ∧ RowIs w g v r ∧ RowsAre w g vs' rs' := by
  induction x with
  | nil => exact absurd rfl h
  | @cons v0 vs r0 rs a t ih =>
    cases t with
    | nil => exact ⟨[], v0, [], r0, rfl, rfl, a, .nil⟩
    | cons b t2 =>
      obtain ⟨vs', v, rs', r, e1, e2, R, T⟩ := ih (by simp)
      exact ⟨v0 :: vs', v, r0 :: rs', r, by rw [e1]; rfl, by rw [e2]; rfl, R, .cons a T⟩
theorem if_join {c : Cx} {A : Around} {env : Env} {σ : SS} {ss1 ss2 : List Stmt} {N' : SS → Prop} {R : Value → SS → Prop} {q : Prop} [Decidable q] (N : SS → Prop) (h1 : q → XS c A env σ ss1 N R) (h2 : ¬q → XS c A env σ ss2 N R) (k : ∀ σ, N σ → N' σ) :
    if decide q = true then XS c A env σ ss1 N' R else XS c A env σ ss2 N' R := by
  have mono : ∀ ss, XS c A env σ ss N R → XS c A env σ ss N' R := fun ss H => TS.mono H fun f σ' h => by
    cases f <;> first | exact k _ h | exact h
  by_cases h : q
  · rw [decide_eq_true h, if_pos rfl]; exact mono _ (h1 h)
  · rw [decide_eq_false h, if_neg (by simp)]; exact mono _ (h2 h)
theorem fresh_none {xs : List (List Int × Addr × Value)} {ah : Option Int} {eb m : Int} {rs : List LR} {room : Int} {text : List Int} {f p col : Int} (so : StartsOk xs ah eb m rs) (hq : (atKey xs [p, 0, col]).map (·.2) = none) : freshOf (movedOf ah eb m rs) [lrow room text f p col] = 1 := by
  unfold freshOf
  rw [List.countP_singleton, if_pos]
  rw [Bool.not_eq_true', ← Bool.not_eq_true, List.contains_iff_mem]
  intro h
  unfold movedOf at h
  obtain ⟨r, hr, e⟩ := List.mem_map.mp h
  rw [List.mem_filter] at hr
  have h2 := so.2 r hr.1 hr.2
  have e' : r.start + m = p ∧ r.col = col := by simpa [lrow] using e
  rw [e'.1, e'.2, hq] at h2
  cases h2
theorem fresh_some {ah : Option Int} {eb m : Int} {rs : List LR} {room : Int} {text : List Int} {f p col : Int} {r : LR} (hr : r ∈ rs) (ht : tlOf ah eb r = true) (h1 : p = r.start + m) (h2 : col = r.col) : freshOf (movedOf ah eb m rs) [lrow room text f p col] = 0 := by
  unfold freshOf
  rw [List.countP_singleton, if_neg]
  rw [Bool.not_eq_true, Bool.not_eq_false', List.contains_iff_mem]
  unfold movedOf
  refine List.mem_map.mpr ⟨r, List.mem_filter.mpr ⟨hr, ht⟩, ?_⟩
  rw [h1, h2]; rfl
def SpotOf (p col : Int) (F : List LR) (p' col' : Int) : Prop := match F.getLast? with | none => p' = p ∧ col' = col | some r => p' = r.e.stop ∧ col' = r.e.ncol
theorem rowsGo_mem {room : Int} {text : List Int} {f : Int} : ∀ (n : Nat) (p col : Int), f ≤ p → p ≤ f + text.length → 0 ≤ col → ∀ r ∈ rowsGo room text f n p col,
    r = lrow room text f r.start r.col ∧ f ≤ r.start ∧ r.start ≤ f + text.length ∧ 0 ≤ r.col ∧ f ≤ r.e.stop ∧ r.e.stop ≤ f + text.length ∧ 0 ≤ r.e.ncol
  | 0, _, _, _, _, _, r, h => by simp [rowsGo] at h
  | n + 1, p, col, h1, h2, h3, r, h => by
    rw [rowsGo] at h
    obtain ⟨b1, b2, b3⟩ := lrow_bounds (room := room) h1 h2 h3
    rcases List.mem_cons.mp h with h | h
    · subst h
      exact ⟨rfl, h1, h2, h3, by show f ≤ _; (first | lia | omega), b2, b3⟩
    · split at h
      · cases h
      · exact rowsGo_mem n _ _ (by (first | lia | omega)) b2 b3 r h

inductive LaidN (w : World) (g3 : Heap) (l lx x y fd ox ld : Addr) (height : Nat) (th tw : Tok) (width f p col : Int) (vk : List Value) (K : Nat) (fs : List (Str × Value)) (rs : List LR) (text : List Int) (σ : SS) : Prop
  | mk : ∀ g' mu' e sp4 t41 t42 p4 col4 tcol tfr, (σ = ⟨g', [("rows", some (.ref l)), ("changes", some (.ref lx)), ("view", some (.ref x)), ("table", some (.ref y)), ("spot", some (.ref sp4)), ("column", some (.int col4 tcol)), ("height", some (.int height th)), ("width", some (.int width tw)), ("options", some (.ref ox)), ("found", some (.ref fd)), ("fresh", some (.int 0 tfr)), ("starts", none), ("number", none)], mu'⟩) → (mu'.Perm (e ++ [(fd, .list vk), (ld, .dict fs)])) → (Keeps g3 g') → (At w g' sp4 (.tup [.int p4 t41, .int 0 t42])) → (SpotOf p col (rs.take K) p4 col4) → (f ≤ p4) → (p4 ≤ f + text.length) → (0 ≤ col4) → LaidN w g3 l lx x y fd ox ld height th tw width f p col vk K fs rs text σ
inductive LaidJ (w : World) (g6 : Heap) (l lx x y fd ox ld d : Addr) (height : Nat) (th tw : Tok) (width f p col e b m : Int) (vs : List Value) (K : Nat) (fs : List (Str × Value)) (rs later : List LR) (text : List Int) (ah : Option Int) (k : Nat) (σ : SS) : Prop
  | mk : ∀ g' mu' ee vf F sp' t1' t2' p' col' tcol' fr tfr' nv, (σ = ⟨g', [("rows", some (.ref l)), ("changes", some (.ref lx)), ("view", some (.ref x)), ("table", some (.ref y)), ("spot", some (.ref sp')), ("column", some (.int col' tcol')), ("height", some (.int height th)), ("width", some (.int width tw)), ("options", some (.ref ox)), ("found", some (.ref fd)), ("fresh", some (.int (fr : Nat) tfr')), ("starts", some (.ref d)), ("number", nv)], mu'⟩) → (mu'.Perm (ee ++ [(fd, .list vf), (ld, .dict fs)])) → (Keeps g6 g') → (RowsAre w g' vf F) → (vf.take K = vs.take K) → (K ≤ F.length) → (F.length ≤ height) → (later = F ++ restOf (width - 1) text f height p col F) → (fr = freshOf (movedOf ah (e - b) m rs) (F.drop K)) → (At w g' sp' (.tup [.int p' t1', .int 0 t2'])) → (SpotOf p col F p' col') → (f ≤ p') → (p' ≤ f + text.length) → (0 ≤ col') → (k = height - F.length) → LaidJ w g6 l lx x y fd ox ld d height th tw width f p col e b m vs K fs rs later text ah k σ
inductive Q_laid_again_ok (w : World) (ld : Addr) (text : List Int) (f : Int) (p : Int) (col : Int) (width : Int) (height : Nat) (vs : List Value) (rs : List LR) (e : Int) (b : Int) (m : Int) (ah : Option Int) (fs : List (Str × Value)) (v : Value) (g' : Heap) (mu' : List (Addr × Sp)) : Prop
  | mk : (mu' = [(ld, .dict fs)]) → ∀ ax ad l2 vs2 tn, (v = .ref ax) → (At w g' ax (.inst 379 ad)) → (At w g' ad (.dict [("rows", .ref l2), ("fresh", .int (freshOf (movedOf ah (e - b) m rs) ((rowsGo (width - 1) text f height p col).drop (keptOf ah p col rs))) tn)])) → (At w g' l2 (.list vs2)) → (RowsAre w g' vs2 (rowsGo (width - 1) text f height p col)) → (vs2.take (keptOf ah p col rs) = vs.take (keptOf ah p col rs)) → Q_laid_again_ok w ld text f p col width height vs rs e b m ah fs v g' mu'
set_option maxHeartbeats 4000000 in
theorem laid_again_ok {w : World} {A : Around} (M : Rm A 12) (g : Heap) {x dx lt y dy sp ox od l lx ld : Addr} {t u u' tc th tw to uo : Tok} {text : List Int} {f p col width : Int} {height : Nat} {a0 b0 c0 : Value} {vs : List Value} {rs : List LR} {e b m : Int} {ah : Option Int} {fs : List (Str × Value)}
    (V : ViewAt w g x dx lt t text f) (T : TabAt w g y dy a0 b0 c0) (O : OptAt w g ox od to uo) (S : At w g sp (.tup [.int p u, .int 0 u'])) (hf : 1 ≤ f) (hp : f ≤ p) (hp2 : p ≤ f + text.length) (hcol : 0 ≤ col) (hw : 3 ≤ width) (hw2 : width ≤ 6) (hh : 1 ≤ height) (hh2 : height ≤ 6) (hT : ∀ c ∈ text, okc c)
    (L : At w g l (.list vs)) (R : RowsAre w g vs rs) (hz : rs.length ≤ 50) (I : At w g lx (.inst 358 ld)) (D : LogD e ah b m fs)
    (hk : rs.take (keptOf ah p col rs) = (rowsGo (width - 1) text f height p col).take (keptOf ah p col rs)) (hm : ∀ r ∈ rs, tlOf ah (e - b) r = true → shiftR r m = lrow (width - 1) text f (r.start + m) r.col) (hg : ∀ r ∈ rs, (∀ q ∈ r.e.gl, 0 ≤ q.2) ∧ r.e.gl.length ≤ 100) :
    CC (cx w) A g [(ld, .dict fs)] (.call (.ref 416) ⟨[.ref l, .ref lx, .ref x, .ref y, .ref sp, .int col tc, .int height th, .int width tw, .ref ox], []⟩)
      (Q_laid_again_ok w ld text f p col width height vs rs e b m ah fs) := by
  refine' C_def M ["found", "fresh", "starts", "number"] ?ho ?hcd ?hbind ?hok ?hnd ?hloc ?hcell ?hco ?hgen ?hk ?h
  got_up
  intro env E M
  refine XS_gen M fun A2 RR M hRR => ?_
  dsimp only [bsInit, List.map, List.zip, List.zipWith, List.nil_append, List.cons_append, List.append_nil] at *
  have hlen := R.len
  kt_ors
  refine F_call (walk_make_ok (M.le (by decide)) g V T S) (List.Perm.refl _) ?_
  rintro _ g1 _ k1 ⟨wx, wd, fs1, rfl, rfl, I1, D1⟩
  dsimp only [List.cons_append, List.nil_append]
  obtain ⟨tp1, tn1, tr1, sx1, ds1, ls1, ts1, us1, rfl, H1⟩ := id D1
  kt_ors
  refine F_call (walk_spot_ok (M.le (by decide)) _ (V.mono (by tb_rel)) (T.mono (by tb_rel)) (At.mono I1 (by tb_rel)) (D1.mono (by tb_rel)) (by decide) (by decide) (by (first | lia | omega))) (List.Perm.refl _) ?_
  rintro _ g2 _ k2 ⟨⟨sp2, t3, t4, rfl, S2⟩, fs2, rfl, D2⟩
  rw [if_neg (by decide)] at *
  rw [show p + 0 = p by (first | lia | omega)] at *
  dsimp only [List.cons_append, List.nil_append]
  kt_ors
  refine F_call (kept_count_ok (M.le (by decide)) g2 (At.mono L (by tb_rel)) (R.mono (by tb_rel)) hz (At.mono I (by tb_rel)) D S2) (List.Perm.swap _ _ _) ?_
  rintro _ g3 _ k3 ⟨rfl, t5, rfl⟩
  dsimp only [List.cons_append, List.nil_append]
  generalize hK : keptOf ah p col rs = K at *
  have hKl : K ≤ rs.length := by rw [← hK]; exact keptOf_le _ _ _ _
  kt_ors
  refine Or.inl (SlK.mk (c := cx w) (vs := vs) (by tb_start) (by (first | lia | omega)) (by (first | lia | omega)) ?_)
  intro fd
  kt_ors
  rw [Int.toNat_natCast]
  have hbnd := rowsGo_mem (room := width - 1) (text := text) (f := f) height p col hp hp2 hcol
  generalize hlat : rowsGo (width - 1) text f height p col = later at *
  have Rk := R.take K
  have hKlat : K ≤ later.length := by
    have := congrArg List.length hk
    rw [List.length_take, List.length_take] at this
    (first | lia | omega)
  refine if_join (LaidN w g3 l lx x y fd ox ld height th tw width f p col (vs.take K) K fs rs text) ?_ ?_ ?_
  · intro hne
    obtain ⟨vf1, x1, F1, r1, e1, e2, R1, _⟩ := Rk.last (by intro h; rw [← List.length_eq_zero_iff, ← Rk.len] at h; exact hne h)
    have hr1 : r1 ∈ later := by
      have : r1 ∈ rs.take K := by rw [e2]; simp
      rw [hk] at this
      exact List.mem_of_mem_take this
    obtain ⟨b1, b2, b3, b4, b5, b6, b7⟩ := hbnd r1 hr1
    have hvl : vf1.length ≤ 1000 := by
      have := congrArg List.length e1
      simp only [List.length_append, List.length_take, List.length_cons, List.length_nil] at this
      (first | lia | omega)
    obtain ⟨rx5, rd5, sp5, ep5, gl5, gvs5, tc5, tn5, tmk5, tr5, z1, z2, z3, z4, rfl, R6⟩ := id R1
    obtain ⟨y1, y2, y3, y4, y5, y6⟩ := id R6
    rw [e1]
    kt_ors
    refine F_last (vs := vf1) (by tb_start) hvl ?_
    kt_ors
    refine F_last (vs := vf1) (by tb_start) hvl ?_
    kt_ors
    exact ⟨_, _, [_, _], ep5, z3, z4, _, _, _, _, rfl, (List.Perm.cons _ ((List.Perm.cons _ (List.Perm.swap _ _ _)).trans (List.Perm.swap _ _ _))), by tb_rel, At.mono y4 (by tb_rel), by rw [e2]; unfold SpotOf; rw [List.getLast?_append]; exact ⟨rfl, rfl⟩, b5, b6, b7⟩
  · intro he
    have hK0 : rs.take K = [] := by
      have : (vs.take K).length = 0 := by (first | lia | omega)
      rw [← List.length_eq_zero_iff, ← Rk.len]; exact this
    kt_ors
    exact ⟨_, _, [_, _], sp2, t3, t4, p, col, tc, _, rfl, (List.Perm.cons _ ((List.Perm.cons _ (List.Perm.swap _ _ _)).trans (List.Perm.swap _ _ _))), by tb_rel, At.mono S2 (by tb_rel), by rw [hK0]; exact ⟨rfl, rfl⟩, hp, hp2, hcol⟩
  · rintro _ ⟨g4, mu4, e4, sp4, t41, t42, p4, col4, tcol, tfr, rfl, hpm, k4, S4, hsp, hb1, hb2, hb3⟩
    refine X_seal hpm ?_
    intro g5 k5 _
    kt_ors
    refine F_call (tail_starts_ok (M.le (by decide)) g5 (At.mono L (by tb_rel)) (R.mono (by tb_rel)) hz (At.mono I (by tb_rel)) D) (List.Perm.swap _ _ _) ?_
    rintro _ g6 _ k6 ⟨rfl, d, o, xs, rfl, Ad, DKd, hsys, so⟩
    dsimp only [List.cons_append, List.nil_append]
    kt_ors
    refine XS_whileG (LaidJ w g6 l lx x y fd ox ld d height th tw width f p col e b m vs K fs rs later text ah)
      _ ⟨g6, _, [], vs.take K, rs.take K, sp4, t41, t42, p4, col4, tcol, 0, tfr, _, rfl, List.Perm.swap _ _ _, .refl _, Rk.mono (by tb_rel), by rw [List.take_take, Nat.min_self], ?_, ?_, ?_, ?_, At.mono S4 (by tb_rel), hsp, hb1, hb2, hb3, rfl⟩ ?_
    · rw [List.length_take]; (first | lia | omega)
    · rw [List.length_take]; have := rowsGo_len (width - 1) text f height p col; rw [hlat] at this; (first | lia | omega)
    · have := rowsGo_split (width - 1) text f height p col K (by rw [hlat]; exact hKlat)
      rw [hlat] at this
      rw [hk]; exact this
    · rw [List.drop_eq_nil_of_le (by rw [List.length_take]; (first | lia | omega))]; rfl
    rintro k _ NN hNN ⟨g7, mu7, ee7, vf, F, sp7, t71, t72, p7, col7, tcol7, fr, tfr7, nv, rfl, hpm7, k7, RF, hvk, hKF, hFh, hlf, hfr, S7, hsp7, c1, c2, c3, rfl⟩
    refine F_seal hpm7 ?_
    intro g8 k8 _
    have hvf := RF.len
    obtain ⟨tmore, hmore⟩ : ∃ t, ((Str.ofString "more"), Value.int m t) ∈ fs := by
      rcases D with ⟨_, q1, q3, q4, rfl⟩ | ⟨a, _, q1, q2, q3, q4, rfl⟩
      · exact ⟨q4, by simp⟩
      · exact ⟨q4, by simp⟩
    have hdone : F.length = height → restOf (width - 1) text f height p col F = [] := by
      intro h
      unfold restOf
      cases hF : F.getLast? with
      | none => rw [List.getLast?_eq_none_iff] at hF; rw [hF] at h; simp at h; (first | lia | omega)
      | some r =>
        dsimp only
        rw [h, Nat.sub_self]
        split <;> rfl
    kt_ors
    refine ite_d (fun h9 => ?_) (fun h9 => ?_)
    · kt_ors
      have hbody : (F = [] ∨ ∃ r, F.getLast? = some r ∧ r.e.en = false) → restOf (width - 1) text f height p col F = lrow (width - 1) text f p7 col7 :: restOf (width - 1) text f height p col (F ++ [lrow (width - 1) text f p7 col7]) := by
        intro h
        have hn : height - F.length = (height - (F.length + 1)) + 1 := by (first | lia | omega)
        have e1 : restOf (width - 1) text f height p col F = rowsGo (width - 1) text f (height - F.length) p7 col7 := by
          unfold SpotOf at hsp7
          unfold restOf
          rcases h with h | ⟨r, h1, h2⟩
          · subst h
            simp only [List.getLast?_nil] at hsp7
            obtain ⟨rfl, rfl⟩ := hsp7
            simp
          · rw [h1] at hsp7
            rw [h1]
            obtain ⟨rfl, rfl⟩ := hsp7
            simp [h2]
        rw [e1, hn, rowsGo]
        congr 1
        unfold restOf
        rw [List.getLast?_append]
        simp
      have hlast : F ≠ [] → ∃ vf1 x1 F1 r1, vf = vf1 ++ [x1] ∧ F = F1 ++ [r1] ∧ RowIs w g7 x1 r1 ∧ RowsAre w g7 vf1 F1 := RF.last
      by_cases hF0 : F = []
      · refine ite_dt (by rw [hvf, hF0]; rfl) ?_
        have hnext := hbody (.inl hF0)
        kt_ors
        refine TS_getMethDict (DKd.mono (by tb_rel)) (by tb_start) ?_
        kt_ors
        refine TS_dictGet (zs := [p7, 0, col7]) M (DKd.mono (by tb_rel)) (by assumption) (.cons (.cons (.cons .nil))) (by tb_start) hsys ?_
        cases hq : (atKey xs [p7, 0, col7]).map (·.2) with
        | none =>
          simp only [Option.getD_none]
          kt_ors
          refine F_call0 (laid_row_ok (M.le (by decide)) _ (V.mono (by tb_rel)) (T.mono (by tb_rel)) (O.mono (by tb_rel)) (At.mono S7 (by tb_rel)) hf c1 c2 c3 hw hw2 hT) ?_
          rintro v5 g9 k9 R9
          kt_ors
          obtain ⟨rxb, rdb, spb, epb, glb, gvb, tcb, tnb, tmb, trb, zb1, zb2, zb3, zb4, rfl, RB⟩ := id R9
          obtain ⟨yb1, yb2, yb3, yb4, yb5, yb6⟩ := id RB
          obtain ⟨bb1, bb2, bb3⟩ := lrow_bounds (room := width - 1) c1 c2 c3
          refine F_last (vs := vf) (by tb_start) (by (first | lia | omega)) ?_
          kt_ors
          refine F_last (vs := vf) (by tb_start) (by (first | lia | omega)) ?_
          kt_ors
          exact ⟨height - (F.length + 1), by (first | lia | omega), _, _, [_], vf ++ [_], F ++ [lrow (width - 1) text f p7 col7], epb, zb3, zb4, _, _, _, (fr + 1), _, _, rfl, List.Perm.refl _, by tb_rel, (RF.mono (by tb_rel)).app (.cons (R9.mono (by tb_rel)) .nil), by rw [List.take_append_of_le_length (by (first | lia | omega))]; exact hvk, by simp; (first | lia | omega), by simp; (first | lia | omega), by rw [List.append_assoc, List.singleton_append, ← hnext]; exact hlf, by rw [List.drop_append_of_le_length (by (first | lia | omega)), freshOf_app, ← hfr]; congr 1; exact (fresh_none so hq).symm, At.mono yb4 (by tb_rel), by unfold SpotOf; rw [List.getLast?_append]; exact ⟨rfl, rfl⟩, by (first | lia | omega), bb2, bb3, by simp⟩
        | some nv5 =>
          obtain ⟨ix, tix, rr, rfl, hrr, htl, hkey⟩ := so.1 _ _ hq
          simp only [Option.getD_some]
          obtain ⟨v6, hv6, R6'⟩ := R.get hrr
          have hrm : rr ∈ rs := List.mem_of_getElem? hrr
          obtain ⟨hgp, hgl5⟩ := hg rr hrm
          simp only [List.cons.injEq, and_true, true_and] at hkey
          obtain ⟨hk1, hk2⟩ := hkey
          have hsh := hm rr hrm htl
          have hix := (List.getElem?_eq_some_iff.mp hrr).1
          kt_ors
          refine F_item (x := v6) (by tb_start) (by (first | lia | omega)) (by (first | lia | omega)) (by simpa using hv6) ?_
          kt_ors
          refine G_getAttr (x := lx) (C := 358) (dx := ld) (fs := fs) (by tb_start) (by tb_start) hmore (by kernel_rfl) rfl ?_
          kt_ors
          refine F_call0 (moved_row_ok (M.le (by decide)) _ (R6'.mono (by tb_rel)) hgp hgl5) ?_
          rintro v5 g9 k9 R9
          rw [hsh, ← hk1, ← hk2] at R9
          kt_ors
          obtain ⟨rxb, rdb, spb, epb, glb, gvb, tcb, tnb, tmb, trb, zb1, zb2, zb3, zb4, rfl, RB⟩ := id R9
          obtain ⟨yb1, yb2, yb3, yb4, yb5, yb6⟩ := id RB
          obtain ⟨bb1, bb2, bb3⟩ := lrow_bounds (room := width - 1) c1 c2 c3
          refine F_last (vs := vf) (by tb_start) (by (first | lia | omega)) ?_
          kt_ors
          refine F_last (vs := vf) (by tb_start) (by (first | lia | omega)) ?_
          kt_ors
          exact ⟨height - (F.length + 1), by (first | lia | omega), _, _, [_], vf ++ [_], F ++ [lrow (width - 1) text f p7 col7], epb, zb3, zb4, _, _, _, fr, _, _, rfl, List.Perm.refl _, by tb_rel, (RF.mono (by tb_rel)).app (.cons (R9.mono (by tb_rel)) .nil), by rw [List.take_append_of_le_length (by (first | lia | omega))]; exact hvk, by simp; (first | lia | omega), by simp; (first | lia | omega), by rw [List.append_assoc, List.singleton_append, ← hnext]; exact hlf, by rw [List.drop_append_of_le_length (by (first | lia | omega)), freshOf_app, ← hfr]; exact (congrArg (fr + ·) (fresh_some hrm htl hk1 hk2)).symm, At.mono yb4 (by tb_rel), by unfold SpotOf; rw [List.getLast?_append]; exact ⟨rfl, rfl⟩, by (first | lia | omega), bb2, bb3, by simp⟩
      · obtain ⟨vf1, x1, F1, r1, ev1, eF1, RR1, _⟩ := hlast hF0
        refine ite_df (by rw [hvf]; simpa using hF0) ?_
        obtain ⟨rxa, rda, spa, epa, gla, gva, tca, tna, tma, tra, za1, za2, za3, za4, rfl, RA⟩ := id RR1
        obtain ⟨ya1, ya2, ya3, ya4, ya5, ya6⟩ := id RA
        have hvl : vf1.length ≤ 1000 := by have := congrArg List.length ev1; simp at this; (first | lia | omega)
        rw [ev1]
        kt_ors
        refine F_last (vs := vf1) (by tb_start) hvl ?_
        kt_ors
        rw [← ev1]
        have hgl : F.getLast? = some r1 := by rw [eF1, List.getLast?_append]; rfl
        cases hen : r1.e.en with
        | true =>
          kt_ors
          have hfin : later = F := by
            rw [hlf]
            unfold restOf
            rw [hgl]
            simp [hen]
          refine Or.inl (SlK.mk (c := cx w) (vs := vf) (by tb_start) (by (first | lia | omega)) (by (first | lia | omega)) ?_)
          intro l9
          rw [Int.toNat_natCast, List.take_of_length_le (by (first | lia | omega))]
          kt_ors
          refine F_call0 (again_make_ok (M.le (by decide)) _) ?_
          rintro _ g9 k9 ⟨ax, ad, rfl, A9, B9⟩
          subst hK hlat
          (try refine Out.back hRR ?_)
          exact Out.drop3 (by tb_rel) fun g' k h1 h2 h3 => ⟨rfl, ax, ad, l9, vf, _, rfl, A9.mono k, by rw [hfin, ← hfr]; exact B9.mono k, h1, by rw [hfin]; exact RF.mono (by tb_rel), hvk⟩
        | false =>
          have hnext := hbody (.inr ⟨r1, hgl, hen⟩)
          kt_ors
          refine TS_getMethDict (DKd.mono (by tb_rel)) (by tb_start) ?_
          kt_ors
          refine TS_dictGet (zs := [p7, 0, col7]) M (DKd.mono (by tb_rel)) (by assumption) (.cons (.cons (.cons .nil))) (by tb_start) hsys ?_
          cases hq : (atKey xs [p7, 0, col7]).map (·.2) with
          | none =>
            simp only [Option.getD_none]
            kt_ors
            refine F_call0 (laid_row_ok (M.le (by decide)) _ (V.mono (by tb_rel)) (T.mono (by tb_rel)) (O.mono (by tb_rel)) (At.mono S7 (by tb_rel)) hf c1 c2 c3 hw hw2 hT) ?_
            rintro v5 g9 k9 R9
            kt_ors
            obtain ⟨rxb, rdb, spb, epb, glb, gvb, tcb, tnb, tmb, trb, zb1, zb2, zb3, zb4, rfl, RB⟩ := id R9
            obtain ⟨yb1, yb2, yb3, yb4, yb5, yb6⟩ := id RB
            obtain ⟨bb1, bb2, bb3⟩ := lrow_bounds (room := width - 1) c1 c2 c3
            refine F_last (vs := vf) (by tb_start) (by (first | lia | omega)) ?_
            kt_ors
            refine F_last (vs := vf) (by tb_start) (by (first | lia | omega)) ?_
            kt_ors
            exact ⟨height - (F.length + 1), by (first | lia | omega), _, _, [_], vf ++ [_], F ++ [lrow (width - 1) text f p7 col7], epb, zb3, zb4, _, _, _, (fr + 1), _, _, rfl, List.Perm.refl _, by tb_rel, (RF.mono (by tb_rel)).app (.cons (R9.mono (by tb_rel)) .nil), by rw [List.take_append_of_le_length (by (first | lia | omega))]; exact hvk, by simp; (first | lia | omega), by simp; (first | lia | omega), by rw [List.append_assoc, List.singleton_append, ← hnext]; exact hlf, by rw [List.drop_append_of_le_length (by (first | lia | omega)), freshOf_app, ← hfr]; congr 1; exact (fresh_none so hq).symm, At.mono yb4 (by tb_rel), by unfold SpotOf; rw [List.getLast?_append]; exact ⟨rfl, rfl⟩, by (first | lia | omega), bb2, bb3, by simp⟩
          | some nv5 =>
            obtain ⟨ix, tix, rr, rfl, hrr, htl, hkey⟩ := so.1 _ _ hq
            simp only [Option.getD_some]
            obtain ⟨v6, hv6, R6'⟩ := R.get hrr
            have hrm : rr ∈ rs := List.mem_of_getElem? hrr
            obtain ⟨hgp, hgl5⟩ := hg rr hrm
            simp only [List.cons.injEq, and_true, true_and] at hkey
            obtain ⟨hk1, hk2⟩ := hkey
            have hsh := hm rr hrm htl
            have hix := (List.getElem?_eq_some_iff.mp hrr).1
            kt_ors
            refine F_item (x := v6) (by tb_start) (by (first | lia | omega)) (by (first | lia | omega)) (by simpa using hv6) ?_
            kt_ors
            refine G_getAttr (x := lx) (C := 358) (dx := ld) (fs := fs) (by tb_start) (by tb_start) hmore (by kernel_rfl) rfl ?_
            kt_ors
            refine F_call0 (moved_row_ok (M.le (by decide)) _ (R6'.mono (by tb_rel)) hgp hgl5) ?_
            rintro v5 g9 k9 R9
            rw [hsh, ← hk1, ← hk2] at R9
            kt_ors
            obtain ⟨rxb, rdb, spb, epb, glb, gvb, tcb, tnb, tmb, trb, zb1, zb2, zb3, zb4, rfl, RB⟩ := id R9
            obtain ⟨yb1, yb2, yb3, yb4, yb5, yb6⟩ := id RB
            obtain ⟨bb1, bb2, bb3⟩ := lrow_bounds (room := width - 1) c1 c2 c3
            refine F_last (vs := vf) (by tb_start) (by (first | lia | omega)) ?_
            kt_ors
            refine F_last (vs := vf) (by tb_start) (by (first | lia | omega)) ?_
            kt_ors
            exact ⟨height - (F.length + 1), by (first | lia | omega), _, _, [_], vf ++ [_], F ++ [lrow (width - 1) text f p7 col7], epb, zb3, zb4, _, _, _, fr, _, _, rfl, List.Perm.refl _, by tb_rel, (RF.mono (by tb_rel)).app (.cons (R9.mono (by tb_rel)) .nil), by rw [List.take_append_of_le_length (by (first | lia | omega))]; exact hvk, by simp; (first | lia | omega), by simp; (first | lia | omega), by rw [List.append_assoc, List.singleton_append, ← hnext]; exact hlf, by rw [List.drop_append_of_le_length (by (first | lia | omega)), freshOf_app, ← hfr]; exact (congrArg (fr + ·) (fresh_some hrm htl hk1 hk2)).symm, At.mono yb4 (by tb_rel), by unfold SpotOf; rw [List.getLast?_append]; exact ⟨rfl, rfl⟩, by (first | lia | omega), bb2, bb3, by simp⟩
    · kt_ors
      have hF : F.length = height := by (first | lia | omega)
      rw [hdone hF, List.append_nil] at hlf
      refine Or.inl (SlK.mk (c := cx w) (vs := vf) (by tb_start) (by (first | lia | omega)) (by (first | lia | omega)) ?_)
      intro l9
      rw [Int.toNat_natCast, List.take_of_length_le (by (first | lia | omega))]
      kt_ors
      refine F_call0 (again_make_ok (M.le (by decide)) _) ?_
      rintro _ g9 k9 ⟨ax, ad, rfl, A9, B9⟩
      subst hK hlat
      (try refine Out.back hRR ?_)
      exact Out.drop2 (by tb_rel) fun g' k h1 h2 => ⟨rfl, ax, ad, l9, vf, _, rfl, A9.mono k, by rw [hlf, ← hfr]; exact B9.mono k, h1, by rw [hlf]; exact RF.mono (by tb_rel), hvk⟩
theorem view_make_ok {w : World} {A : Around} (M : Rm A 2) (g : Heap) {l : Addr} {t : Tok} {text : List Int} {f : Int} (L : At w g l (.intl text)) (hn : text.length ≤ 100) :
    CC (cx w) A g [] (.call (.ref 138) ⟨[.ref l, .int f t], []⟩) (fun v g' mu' => mu' = [] ∧ ∃ x dx, v = .ref x ∧ ViewAt w g' x dx l t text f) := by
  refine CC_make (fI := 86) (by kernel_rfl) (by kernel_rfl) (by kernel_rfl) fun x dx => ?_
  refine (view_init_ok (M.make) g).mono ?_
  rintro v g' mu' k ⟨rfl, rfl, a1, a2⟩
  exact ⟨rfl, rfl, x, dx, rfl, a1, a2, L.mono k, hn⟩
/-! # the plain law: rows and changes -/
theorem rowGo_reach (room : Int) : ∀ (l : List Int) (p col : Int) (gl : List (Int × Int)), p + 1 ≤ (rowGo room l p col gl).reach
  | [], p, col, gl => by simp [rowGo]
  | c :: r, p, col, gl => by
    rw [rowGo]
    split
    · simp
    · split
      · split <;> simp
      · have := rowGo_reach room r (p + 1) (col + (shownOf c col).length) (gl ++ (shownOf c col).map fun z => (z, p))
        (first | lia | omega)
theorem rowGo_prefix (room : Int) : ∀ (l l' : List Int) (p col : Int) (gl : List (Int × Int)) (k : Nat), l.take k = l'.take k → k ≤ l.length → k ≤ l'.length → (rowGo room l p col gl).reach ≤ p + k → rowGo room l' p col gl = rowGo room l p col gl
  | [], l', p, col, gl, k, _, h1, _, h3 => by
    have := rowGo_reach room [] p col gl
    simp at h1
    (first | lia | omega)
  | c :: r, l', p, col, gl, 0, _, _, _, h3 => by
    have := rowGo_reach room (c :: r) p col gl
    (first | lia | omega)
  | c :: r, [], p, col, gl, k + 1, _, _, h2, _ => by simp at h2
  | c :: r, c' :: r', p, col, gl, k + 1, h0, h1, h2, h3 => by
    simp only [List.take_succ_cons, List.cons.injEq] at h0
    obtain ⟨rfl, h0⟩ := h0
    simp only [List.length_cons, Nat.add_le_add_iff_right] at h1 h2
    rw [rowGo] at h3 ⊢
    rw [rowGo]
    split
    · rfl
    · rename_i hc
      rw [if_neg hc] at h3
      split
      · rfl
      · rename_i ho
        rw [if_neg ho] at h3
        exact rowGo_prefix room r r' _ _ _ k h0 h1 h2 (by (first | lia | omega))
theorem rowGo_shift (room m : Int) : ∀ (l : List Int) (p col : Int) (gl : List (Int × Int)), rowGo room l (p + m) col (gl.map fun q => (q.1, q.2 + m)) = shiftE (rowGo room l p col gl) m
  | [], p, col, gl => by simp [rowGo, shiftE]; (first | lia | omega)
  | c :: r, p, col, gl => by
    rw [rowGo, rowGo]
    simp only [List.length_map]
    split
    · simp [shiftE]; (first | lia | omega)
    · split
      · have hg : (gl.map fun q => (q.1, q.2 + m)).length = gl.length := by simp
        split
        · simp [shiftE, Function.comp_def]; (first | lia | omega)
        · simp [shiftE]; (first | lia | omega)
      · have := rowGo_shift room m r (p + 1) (col + (shownOf c col).length) (gl ++ (shownOf c col).map fun z => (z, p))
        rw [show p + m + 1 = p + 1 + m by (first | lia | omega), ← this]
        congr 1
        simp [Function.comp_def]
/-! # the plain law: two texts with a common head and a common tail -/
structure Rel (t0 t1 : List Int) (a b : Nat) : Prop where
  pre : t0.take a = t1.take a
  a0 : a ≤ t0.length
  a1 : a ≤ t1.length
  suf : t0.drop (t0.length - b) = t1.drop (t1.length - b)
  b0 : b ≤ t0.length
  b1 : b ≤ t1.length
theorem Rel.one (t fr : List Int) {s e : Nat} (h1 : s ≤ e) (h2 : e ≤ t.length) : Rel t (t.take s ++ fr ++ t.drop e) s (t.length - e) := by
  have hs : (t.take s).length = s := by rw [List.length_take]; (first | lia | omega)
  refine ⟨?_, by (first | lia | omega), ?_, ?_, by (first | lia | omega), ?_⟩
  · rw [List.append_assoc, List.take_append_of_le_length (by (first | lia | omega)), List.take_take, Nat.min_self]
  · simp only [List.length_append, hs]; (first | lia | omega)
  · have e1 : (t.take s ++ fr ++ t.drop e).length - (t.length - e) = (t.take s ++ fr).length := by
      simp only [List.length_append, List.length_drop]; (first | lia | omega)
    rw [e1, List.drop_left, show t.length - (t.length - e) = e by (first | lia | omega)]
  · simp only [List.length_append, List.length_drop]; (first | lia | omega)
theorem Rel.less {t0 t1 : List Int} {a b a' b' : Nat} (R : Rel t0 t1 a b) (ha : a' ≤ a) (hb : b' ≤ b) : Rel t0 t1 a' b' := by
  obtain ⟨h1, h2, h3, h4, h5, h6⟩ := R
  refine ⟨?_, by (first | lia | omega), by (first | lia | omega), ?_, by (first | lia | omega), by (first | lia | omega)⟩
  · have := congrArg (List.take a') h1
    rwa [List.take_take, List.take_take, Nat.min_eq_left ha] at this
  · have := congrArg (List.drop (b - b')) h4
    rw [List.drop_drop, List.drop_drop] at this
    rwa [show t0.length - b + (b - b') = t0.length - b' by (first | lia | omega), show t1.length - b + (b - b') = t1.length - b' by (first | lia | omega)] at this
theorem Rel.trans {t0 t1 t2 : List Int} {a b : Nat} (R : Rel t0 t1 a b) (S : Rel t1 t2 a b) : Rel t0 t2 a b :=
  ⟨R.pre.trans S.pre, R.a0, S.a1, R.suf.trans S.suf, R.b0, S.b1⟩
theorem kept_rows (room f : Int) {t0 t1 : List Int} {a b : Nat} (R : Rel t0 t1 a b) : ∀ (n : Nat) (p col : Int), f ≤ p → p ≤ f + t0.length → 0 ≤ col →
    (rowsGo room t0 f n p col).take ((rowsGo room t0 f n p col).takeWhile fun r => decide (r.e.reach ≤ f + a)).length = (rowsGo room t1 f n p col).take ((rowsGo room t0 f n p col).takeWhile fun r => decide (r.e.reach ≤ f + a)).length
  | 0, p, col, _, _, _ => by simp [rowsGo]
  | n + 1, p, col, h1, h2, h3 => by
    obtain ⟨b1, b2, b3⟩ := lrow_bounds (room := room) h1 h2 h3
    by_cases h : (lrow room t0 f p col).e.reach ≤ f + a
    · have hr := rowGo_reach room (t0.drop (p - f).toNat) p col []
      have hx : p + 1 ≤ f + a := Int.le_trans hr h
      have hp := rowGo_prefix room (t0.drop (p - f).toNat) (t1.drop (p - f).toNat) p col [] (a - (p - f).toNat)
        (by
          have := congrArg (List.drop (p - f).toNat) R.pre
          rwa [List.drop_take, List.drop_take] at this)
        (by rw [List.length_drop]; have := R.a0; (first | lia | omega)) (by rw [List.length_drop]; have := R.a1; (first | lia | omega)) (Int.le_trans h (by (first | lia | omega)))
      have hl : lrow room t1 f p col = lrow room t0 f p col := by unfold lrow; rw [hp]
      have ih := kept_rows room f R n (lrow room t0 f p col).e.stop (lrow room t0 f p col).e.ncol (by (first | lia | omega)) b2 b3
      rw [rowsGo, rowsGo, hl]
      rw [List.takeWhile_cons_of_pos (by simpa using h), List.length_cons, List.take_succ_cons, List.take_succ_cons]
      split
      · rfl
      · rw [ih]
    · rw [rowsGo]
      rw [List.takeWhile_cons_of_neg (by simpa using h)]
      simp
theorem kept_ok (room f : Int) {t0 t1 : List Int} {a b : Nat} (R : Rel t0 t1 a b) (n : Nat) (p0 p1 : Int) (h1 : f ≤ p0) (h2 : p0 ≤ f + t0.length) :
    (rowsGo room t0 f n p0 0).take (keptOf (some (f + a)) p1 0 (rowsGo room t0 f n p0 0)) = (rowsGo room t1 f n p1 0).take (keptOf (some (f + a)) p1 0 (rowsGo room t0 f n p0 0)) := by
  cases n with
  | zero => simp [rowsGo]
  | succ n =>
    by_cases h : p0 = p1
    · subst h
      have := kept_rows room f R (n + 1) p0 0 h1 h2 (Int.le_refl _)
      have e : keptOf (some (f + a)) p0 0 (rowsGo room t0 f (n + 1) p0 0) = ((rowsGo room t0 f (n + 1) p0 0).takeWhile fun r => decide (r.e.reach ≤ f + a)).length := by
        rw [rowsGo]
        exact keptOf_some (by simp [lrow])
      rw [e]; exact this
    · have e : keptOf (some (f + a)) p1 0 (rowsGo room t0 f (n + 1) p0 0) = 0 := by
        rw [rowsGo]
        exact keptOf_ne (.inl h)
      rw [e]; rfl
theorem moved_ok (room f : Int) {t0 t1 : List Int} {a b : Nat} (R : Rel t0 t1 a b) (n : Nat) (p0 : Int) (h1 : f ≤ p0) (h2 : p0 ≤ f + t0.length) (o : Option Int) :
    ∀ r ∈ rowsGo room t0 f n p0 0, tlOf (some (f + a)) (f + t0.length - b) r = true → shiftR r ((t1.length : Int) - t0.length) = lrow room t1 f (r.start + ((t1.length : Int) - t0.length)) r.col := by
  intro r hr ht
  obtain ⟨c1, c2, c3, c4, _⟩ := rowsGo_mem n p0 0 h1 h2 (Int.le_refl _) r hr
  have ht' : f + (t0.length : Int) - b < r.start := by simpa [tlOf] using ht
  generalize hs : r.start = s at *
  generalize hc : r.col = col at *
  subst c1
  have e := rowGo_shift room ((t1.length : Int) - t0.length) (t0.drop (s - f).toNat) s col []
  have e2 : t0.drop (s - f).toNat = t1.drop (s + ((t1.length : Int) - t0.length) - f).toNat := by
    have hb0 := R.b0
    have hb1 := R.b1
    have := congrArg (List.drop ((s - f).toNat - (t0.length - b))) R.suf
    rw [List.drop_drop, List.drop_drop] at this
    rw [show t0.length - b + ((s - f).toNat - (t0.length - b)) = (s - f).toNat by (first | lia | omega)] at this
    rw [this]
    congr 1
    (first | lia | omega)
  unfold shiftR lrow
  dsimp only
  rw [← e, e2]
  rfl
theorem rowGo_glyphs (room : Int) : ∀ (l : List Int) (p col : Int) (gl : List (Int × Int)), 0 ≤ p → 0 ≤ room → (gl.length : Int) ≤ room → (∀ q ∈ gl, 0 ≤ q.2) →
    (∀ q ∈ (rowGo room l p col gl).gl, 0 ≤ q.2) ∧ ((rowGo room l p col gl).gl.length : Int) ≤ room
  | [], p, col, gl, _, _, h2, h3 => by rw [rowGo]; exact ⟨h3, h2⟩
  | c :: r, p, col, gl, h0, h1, h2, h3 => by
    rw [rowGo]
    split
    · exact ⟨h3, h2⟩
    · split
      · split
        · refine ⟨fun q hq => ?_, ?_⟩
          · rcases List.mem_append.mp hq with hq | hq
            · exact h3 q hq
            · obtain ⟨z, _, rfl⟩ := List.mem_map.mp hq; exact h0
          · simp only [List.length_append, List.length_map, List.length_take]; (first | lia | omega)
        · exact ⟨h3, h2⟩
      · rename_i hn
        refine rowGo_glyphs room r (p + 1) _ _ (by (first | lia | omega)) h1 ?_ fun q hq => ?_
        · simp only [List.length_append, List.length_map]; (first | lia | omega)
        · rcases List.mem_append.mp hq with hq | hq
          · exact h3 q hq
          · obtain ⟨z, _, rfl⟩ := List.mem_map.mp hq; exact h0
theorem glyphs_ok (room f : Int) (t0 : List Int) (n : Nat) (p0 : Int) (h1 : f ≤ p0) (h2 : p0 ≤ f + t0.length) (hf : 1 ≤ f) (hr : 0 ≤ room) (hr2 : room ≤ 100) :
    ∀ r ∈ rowsGo room t0 f n p0 0, (∀ q ∈ r.e.gl, 0 ≤ q.2) ∧ r.e.gl.length ≤ 100 := by
  intro r h
  obtain ⟨c1, c2, c3, c4, _⟩ := rowsGo_mem n p0 0 h1 h2 (Int.le_refl _) r h
  have := rowGo_glyphs room (t0.drop (r.start - f).toNat) r.start r.col [] (by (first | lia | omega)) hr (by simpa using hr) (by simp)
  rw [c1]
  exact ⟨this.1, by have := this.2; show (rowGo room (t0.drop (r.start - f).toNat) r.start r.col []).gl.length ≤ 100; (first | lia | omega)⟩
theorem shiftR_zero (r : LR) : shiftR r 0 = r := by
  obtain ⟨s, c, ⟨a1, a2, a3, a4, a5, a6, a7⟩⟩ := r
  unfold shiftR shiftE
  simp
theorem keptOf_all (room f : Int) (t : List Int) (n : Nat) (p : Int) : keptOf none p 0 (rowsGo room t f n p 0) = (rowsGo room t f n p 0).length := by
  cases n with
  | zero => simp [rowsGo, keptOf]
  | succ n => rw [rowsGo]; exact keptOf_none (by simp [lrow])
theorem C_defB {w : World} {A : Around} {n : Nat} {g : Heap} {mu : List (Addr × Sp)} {name qual : Str} {params : Arguments} {body : List Stmt} {scope : Scope} {dV kV doc pm cdv ct oc : Value} {an od : Option Addr} {osl : Array (Option Value)} {f : Addr} {args : List Value} {P}
    (M : Rm A (n + 1)) (others : List Str) (binds : List (Str × Value)) (ho : (hd.heap_39 w.params).lookup f = some ⟨oc, od, .func (fnOf name qual params body scope dV kV doc pm an cdv ct), osl⟩) (hcd : codeIn (hd.heap_39 w.params) cdv qual = true)
    (hbind : ∀ s : Shared, (hd.heap_39 w.params).In s.heap → BindsTo s (fnOf name qual params body scope dV kV doc pm an cdv ct) ⟨args, []⟩ binds) (hok : okNames scope.names = true) (hnd : decide (binds.map (·.1) ++ others).Nodup = true)
    (hloc : (binds.all fun x => decide (scope.names.lookup x.1 = some .local)) = true) (hcell : (scope.names.all fun x => decide (x.2 ≠ .cell)) = true)
    (hco : scope.isCoroutine = false) (hgen : scope.isGenerator = false) (hk : scope.kind = .function)
    (h : ∀ env, EnvIs env scope.names [] → Rm (A.deeper env) n → XS (cx w) (A.deeper env) env ⟨g, bsInit binds others, mu⟩ body (Out (cx w) g P .none) (Out (cx w) g P)) : CC (cx w) A g mu (.call (.ref f) ⟨args, []⟩) P :=
  CC_def M ho hcd hbind others hok hnd hloc hcell hco hgen hk h
theorem options_init_ok {w : World} {A : Around} (M : Rm A 1) (g : Heap) {x dx : Addr} :
    CC (cx w) A g [(x, .inst 39 dx), (dx, .dict [])] (.call (.ref 36) ⟨[.ref x], []⟩) (fun v g' mu' => v = .none ∧ mu' = [] ∧ ∃ t u, OptAt w g' x dx t u) := by
  refine' C_defB M [] [("self", .ref x), ("tab_width", .int 8 ?t1), ("has_carets", .bool true), ("truncates", .bool false), ("wraps_words", .bool false), ("hscroll", .int 0 ?t2)] ?ho ?hcd ?hbind ?hok ?hnd ?hloc ?hcell ?hco ?hgen ?hk ?h
  got_up
  intro env E M
  dsimp only [bsInit, List.map, List.zip, List.zipWith, List.nil_append, List.cons_append, List.append_nil] at *
  kt_ors
  (try refine Out.back hRR ?_)
  exact Out.all (by tb_rel) fun g' k h => ⟨rfl, rfl, _, _, h _ _ (by tb_start), h _ _ (by tb_start)⟩
theorem options_make_ok {w : World} {A : Around} (M : Rm A 2) (g : Heap) :
    CC (cx w) A g [] (.call (.ref 39) ⟨[], []⟩) (fun v g' mu' => mu' = [] ∧ ∃ x dx t u, v = .ref x ∧ OptAt w g' x dx t u) := by
  refine CC_make (fI := 36) (by kernel_rfl) (by kernel_rfl) (by kernel_rfl) fun x dx => ?_
  refine (options_init_ok (M.make) g).mono ?_
  rintro v g' mu' k ⟨rfl, rfl, t, u, a1⟩
  exact ⟨rfl, rfl, x, dx, t, u, rfl, a1⟩
theorem face_init_ok {w : World} {A : Around} (M : Rm A 1) (g : Heap) {x dx : Addr} {pv : Value} :
    CC (cx w) A g [(x, .inst 437 dx), (dx, .dict [])] (.call (.ref 434) ⟨[.ref x, pv], []⟩) (fun v g' mu' => v = .none ∧ mu' = []) := by
  refine' C_defB M [] [("self", .ref x), ("parts", pv), ("parents", ?pv2)] ?ho ?hcd ?hbind ?hok ?hnd ?hloc ?hcell ?hco ?hgen ?hk ?h
  got_up
  intro env E M
  dsimp only [bsInit, List.map, List.zip, List.zipWith, List.nil_append, List.cons_append, List.append_nil] at *
  kt_ors
  (try refine Out.back hRR ?_)
  exact Out.all (by tb_rel) fun g' k h => ⟨rfl, rfl⟩
theorem face_make_ok {w : World} {A : Around} (M : Rm A 2) (g : Heap) {pv : Value} :
    CC (cx w) A g [] (.call (.ref 437) ⟨[pv], []⟩) (fun v g' mu' => mu' = [] ∧ ∃ x, v = .ref x) := by
  refine CC_make (fI := 434) (by kernel_rfl) (by kernel_rfl) (by kernel_rfl) fun x dx => ?_
  refine (face_init_ok (M.make) g).mono ?_
  rintro v g' mu' k ⟨rfl, rfl⟩
  exact ⟨rfl, rfl, x, rfl⟩
section
variable {c : Cx} {A : Around} {env : Env} {g : Heap} {bs : List (Str × Option Value)} {mu : List (Addr × Sp)}
theorem TS_dictPutStr {d : Addr} {x : Str} {t : Tok} {v : Value} {P : Unit → SS → Prop} (p : ∀ o', P () ⟨g, bs, (d, .raw o') :: mu⟩) :
    TS c A env ⟨g, bs, (d, .raw { cls := .type "dict", data := .dict #[] }) :: mu⟩ (dictSet d (.str x t) v) P :=
  TS.of fun rs s G => by
    obtain ⟨oL, nL, GC, nd⟩ := G
    have e : s.heap.get? d = some { cls := .type "dict", data := .dict #[] } := by
      obtain ⟨⟨o', e, ok⟩, _⟩ := GC.own _ (.head _)
      cases ok; exact e
    refine wpAny_dictSet_pairs (knd := PySem.strKind c.prog c.w) (k := x) (kvs := []) (by simp [PySem.strKind, Value.isStrOf]) ⟨_, #[], 0, e, ⟨rfl, rfl, rfl⟩, rfl, (by intro x hx; simp at hx), .nil, List.nodup_nil⟩ fun h' hm' hs' => ?_
    obtain ⟨o', es, ep, e', _⟩ := hm'
    exact ⟨⟨⟨g, bs, (d, .raw o') :: mu⟩, ⟨oL, nL, GC.upd Upd1.head hs' ⟨o', e', rfl⟩, nd⟩, p o'⟩, rfl⟩
theorem TS_dictPutTup {d a : Addr} {zs : List Int} {vs : List Value} {v : Value} {P : Unit → SS → Prop} {m : Nat} (M : Rm A (m + 1)) (K : At c.w g a (.tup vs)) (i : IntVs zs vs)
    (p : ∀ o', P () ⟨g, bs, (d, .raw o') :: mu⟩) : TS c A env ⟨g, bs, (d, .raw { cls := .type "dict", data := .dict #[] }) :: mu⟩ (dictSet d (.ref a) v) P :=
  TS.of fun rs s G => by
    obtain ⟨oL, nL, GC, nd⟩ := G
    have e : s.heap.get? d = some { cls := .type "dict", data := .dict #[] } := by
      obtain ⟨⟨o', e, ok⟩, _⟩ := GC.own _ (.head _)
      cases ok; exact e
    refine wpAny_dictSet_heap (knd := KD c) (k := zs) (xs := []) (show A.units < cLine from M.u) (At.key (GC.getG K) i) ⟨_, #[], 0, e, ⟨rfl, rfl, rfl⟩, rfl, rfl, (fun _ h => nomatch h), List.nodup_nil⟩ fun h' hm' hs' => ?_
    obtain ⟨o', es, ep, e', _⟩ := hm'
    exact ⟨⟨⟨g, bs, (d, .raw o') :: mu⟩, ⟨oL, nL, GC.upd Upd1.head hs' ⟨o', e', rfl⟩, nd⟩, p o'⟩, rfl⟩
/-- what stands in the kept part of the heap -/
theorem TS_base {α : Type} {t : Sem α} {P : α → SS → Prop} (k : Base c.K g → TS c A env ⟨g, bs, mu⟩ t P) : TS c A env ⟨g, bs, mu⟩ t P := fun rest h G => by
  obtain ⟨oL, nL, GC, nd⟩ := id G
  exact k GC.base rest h G
end
theorem plain_at {w : World} {g : Heap} (b : Base (hd.heap_39 w.params) g) : ∃ vs, At w g 417 (.tup vs) ∧ IntVs [0, 0, 0, 0, 0, 0] vs := by
  exact ⟨_, ⟨_, b.X 417 (tupOb [.int 0 _, .int 0 _, .int 0 _, .int 0 _, .int 0 _, .int 0 _] _) (by k_is), _, rfl⟩, .cons (.cons (.cons (.cons (.cons (.cons .nil)))))⟩
theorem table_init_ok {w : World} {A : Around} (M : Rm A 3) (g : Heap) {x dx : Addr} :
    CC (cx w) A g [(x, .inst 484 dx), (dx, .dict [])] (.call (.ref 455) ⟨[.ref x], []⟩) (fun v g' mu' => v = .none ∧ mu' = [] ∧ ∃ a b c, TabAt w g' x dx a b c) := by
  refine' C_def M [] ?ho ?hcd ?hbind ?hok ?hnd ?hloc ?hcell ?hco ?hgen ?hk ?h
  got_up
  intro env E M
  refine XS_gen M fun A2 RR M hRR => ?_
  dsimp only [bsInit, List.map, List.zip, List.zipWith, List.nil_append, List.cons_append, List.append_nil] at *
  kt_ors
  refine TS_base fun B => ?_
  obtain ⟨pvs, PA, PI⟩ := plain_at B
  refine TS_Dict1 ?_
  intro d1
  kt_ors
  refine F_call0 (face_make_ok (M.le (by decide)) g) ?_
  rintro _ g1 k1 ⟨fx, rfl⟩
  kt_ors
  refine TS_dictPutStr ?_
  intro o1
  kt_ors
  refine TS_Dict1 ?_
  intro d2
  kt_ors
  refine TS_dictPutTup M (At.mono PA (by tb_rel)) PI ?_
  intro o2
  kt_ors
  (try refine Out.back hRR ?_)
  exact Out.all (by tb_rel) fun g' k h => ⟨rfl, rfl, _, _, _, h _ _ (by tb_start), h _ _ (by tb_start)⟩
theorem table_make_ok {w : World} {A : Around} (M : Rm A 4) (g : Heap) :
    CC (cx w) A g [] (.call (.ref 484) ⟨[], []⟩) (fun v g' mu' => mu' = [] ∧ ∃ x dx a b c, v = .ref x ∧ TabAt w g' x dx a b c) := by
  refine CC_make (fI := 455) (by kernel_rfl) (by kernel_rfl) (by kernel_rfl) fun x dx => ?_
  refine (table_init_ok (M.make) g).mono ?_
  rintro v g' mu' k ⟨rfl, rfl, a, b, c, h⟩
  exact ⟨rfl, rfl, x, dx, a, b, c, rfl, h⟩
inductive Q_law_draw_ok (dk : Addr) (many : Int) (v : Value) (g' : Heap) (mu' : List (Addr × Sp)) : Prop
  | mk : ∀ z t ys, (v = .int z t) → (0 ≤ z) → (z < many) → (mu' = [(dk, .intl ys)]) → (ys.length ≤ 63) → Q_law_draw_ok dk many v g' mu'
theorem law_draw_ok {w : World} {A : Around} (M : Rm A 1) (g : Heap) {dk : Addr} {xs : List Int} {many : Int} {tm : Tok} (hz : xs.length ≤ 63) (hm : 0 < many) :
    CC (cx w) A g [(dk, .intl xs)] (.call (.ref 495) ⟨[.ref dk, .int many tm], []⟩) (Q_law_draw_ok dk many) := by
  refine' C_def M [] ?ho ?hcd ?hbind ?hok ?hnd ?hloc ?hcell ?hco ?hgen ?hk ?h
  got_up
  intro env E M
  refine XS_gen M fun A2 RR M hRR => ?_
  dsimp only [bsInit, List.map, List.zip, List.zipWith, List.nil_append, List.cons_append, List.append_nil] at *
  cases xs with
  | nil =>
    kt_ors
    refine ite_df (by simp) ?_
    kt_ors
    (try refine Out.back hRR ?_)
    exact Out.drop1 (by tb_rel) fun g' k h => ⟨_, _, _, rfl, Int.le_refl _, hm, rfl, by simp⟩
  | cons x xs =>
    simp only [List.length_cons] at hz
    kt_ors
    refine ite_dt (by simp) ?_
    kt_ors
    refine F_pop0 (by tb_start) (by (first | lia | omega)) ?_
    intro u
    kt_ors
    (try refine Out.back hRR ?_)
    exact Out.drop1 (by tb_rel) fun g' k h => ⟨_, _, _, rfl, Int.emod_nonneg _ (by (first | lia | omega)), Int.emod_lt_of_pos _ hm, rfl, by (first | lia | omega)⟩
theorem law_shown_ok {w : World} {A : Around} (M : Rm A 1) (g : Heap) {code col : Int} {t1 t2 : Tok} :
    CC (cx w) A g [] (.call (.ref 507) ⟨[.int code t1, .int col t2], []⟩) (fun v g' mu' => mu' = [] ∧ ∃ a, v = .ref a ∧ At w g' a (.intl (shownOf code col))) := by
  refine' C_def M [] ?ho ?hcd ?hbind ?hok ?hnd ?hloc ?hcell ?hco ?hgen ?hk ?h
  got_up
  intro env E M
  refine XS_gen M fun A2 RR M hRR => ?_
  dsimp only [bsInit, List.map, List.zip, List.zipWith, List.nil_append, List.cons_append, List.append_nil] at *
  kt_ors
  refine ite_d (fun h1 => ?_) (fun h1 => ?_)
  · kt_ors
    have hm := Int.emod_nonneg col (show (8 : Int) ≠ 0 by decide)
    have hl := Int.emod_lt_of_pos col (show (0 : Int) < 8 by decide)
    refine F_repeat (by tb_start) (by (first | lia | omega)) (by (first | lia | omega)) ?_
    intro a
    (try refine Out.back hRR ?_)
    refine Out.all (by tb_rel) fun g' k h => ⟨rfl, a, rfl, ?_⟩
    rw [shownOf, if_pos h1]
    exact At.ofList (h a _ (by tb_start)) (ints_replicate _ _ _)
  · kt_ors
    refine ite_d (fun h2 => ?_) (fun h2 => ?_)
    · kt_ors
      (try refine Out.back hRR ?_)
      refine Out.all (by tb_rel) fun g' k h => ⟨rfl, _, rfl, ?_⟩
      rw [shownOf, if_neg h1, if_pos h2]
      exact At.ofList (h _ _ (by tb_start)) (.cons _ _ (.cons _ _ .nil))
    · kt_ors
      (try refine Out.back hRR ?_)
      refine Out.all (by tb_rel) fun g' k h => ⟨rfl, _, rfl, ?_⟩
      rw [shownOf, if_neg h1, if_neg h2]
      exact At.ofList (h _ _ (by tb_start)) (.cons _ _ .nil)
theorem pick8 {t1 t2 t3 t4 t5 t6 t7 t8 : Tok} {z : Int} (h0 : 0 ≤ z) (h1 : z < 8) : ∃ x t, ([.int 97 t1, .int 98 t2, .int 10 t3, .int 97 t4, .int 9 t5, .int 1 t6, .int 10 t7, .int 99 t8] : List Value)[z.toNat]? = some (.int x t) ∧ okc x := by
  have : z = 0 ∨ z = 1 ∨ z = 2 ∨ z = 3 ∨ z = 4 ∨ z = 5 ∨ z = 6 ∨ z = 7 := by (first | lia | omega)
  rcases this with rfl | rfl | rfl | rfl | rfl | rfl | rfl | rfl <;> exact ⟨_, _, rfl, by unfold okc; decide⟩
theorem F_pick8 {c : Cx} {A : Around} {env : Env} {g : Heap} {bs : List (Str × Option Value)} {mu : List (Addr × Sp)} {value slice : Expr} {l : Addr} {t1 t2 t3 t4 t5 t6 t7 t8 : Tok} {z : Int} {t : Tok} {P : Value → SS → Prop}
    (Rl : RdF c.w g mu l (.list [.int 97 t1, .int 98 t2, .int 10 t3, .int 97 t4, .int 9 t5, .int 1 t6, .int 10 t7, .int 99 t8])) (h0 : 0 ≤ z) (h1 : z < 8) (p : ∀ x u, okc x → P (.int x u) ⟨g, bs, mu⟩)
    (hs : subscripted slice false (.ref l) (.int z t) = operate [.ref l, .int z t] (getItem (.ref l) (.int z t)) := by with_unfolding_all rfl) : TS c A env ⟨g, bs, mu⟩ (subscriptTail value slice (.ref l) (.int z t)) P := by
  obtain ⟨x, u, hx, hox⟩ := pick8 (t1 := t1) (t2 := t2) (t3 := t3) (t4 := t4) (t5 := t5) (t6 := t6) (t7 := t7) (t8 := t8) h0 h1
  exact F_item Rl h0 (by (first | lia | omega)) hx (p x u hox) hs
theorem ints_snoc {vs : List Value} {xs : List Int} {x : Int} {t : Tok} (i : IntsAre vs xs) : IntsAre (vs ++ [.int x t]) (xs ++ [x]) := by
  induction i with
  | nil => exact .cons _ _ .nil
  | cons _ _ _ ih => exact .cons _ _ ih
inductive Q_law_signs_ok (w : World) (dk : Addr) (many : Nat) (v : Value) (g' : Heap) (mu' : List (Addr × Sp)) : Prop
  | mk : ∀ a ts ys, (v = .ref a) → (At w g' a (.intl ts)) → (ts.length = many) → ((∀ c ∈ ts, okc c)) → (mu' = [(dk, .intl ys)]) → (ys.length ≤ 63) → Q_law_signs_ok w dk many v g' mu'
theorem law_signs_ok {w : World} {A : Around} (M : Rm A 3) (g : Heap) {dk : Addr} {xs : List Int} {many : Nat} {tm : Tok} (hz : xs.length ≤ 63) (hm : many ≤ 100) :
    CC (cx w) A g [(dk, .intl xs)] (.call (.ref 500) ⟨[.ref dk, .int many tm], []⟩) (Q_law_signs_ok w dk many) := by
  refine' C_defC M [] ["deck"] [("many", .int many tm)] [("deck", .ref dk)] [some (.ref dk)] ?ho ?hcd ?hbind ?hok ?hlb ?hcb ?hnd ?hcn ?hcnd ?hcv ?hkd ?hco ?hgen ?hk ?h
  (case ho => k_is); (case hcd => k_is); (case hbind => exact fun s _ => BindsTo.of_eq rfl); (case hok => decide +kernel); (case hlb => exact rfl); (case hcb => exact rfl); (case hnd => kernel_rfl); (case hcn => exact rfl); (case hcnd => kernel_rfl); (case hcv => exact rfl); (case hkd => kernel_rfl); (case hco => exact rfl); (case hgen => exact rfl); (case hk => exact rfl)
  intro env as hl E M
  obtain ⟨c1, rfl⟩ := List.length_eq_one_iff.mp hl
  refine XS_gen M fun A2 RR M hRR => ?_
  dsimp only [bsInit, List.map, List.zip, List.zipWith, List.nil_append, List.cons_append, List.append_nil] at *
  kt_ors
  refine' TS_comp (fr := [("deck", c1)]) (keys := ["nth"]) (cn := [(".0", .local), ("nth", .local), ("_law_draw", .globalImplicit), ("deck", .cell)]) M E rfl ?k1 ?k2 rfl ?k3 (cNames_eq E rfl) ?k4 ?k5 ?k7 ?k6
  case k1 => kernel_rfl
  case k2 => kernel_rfl
  case k3 => intro q hq; simp only [List.mem_singleton] at hq; subst hq; exact rfl
  case k4 => decide +kernel
  case k5 => kernel_rfl
  case k6 => intro _; rfl
  kt_ors
  exact "range"
  kt_ors
  refine TS_range ?_
  intro r1 g1 u1 u2 k1 R1
  refine ⟨many, _, _, fun i vs g' mu' => ∃ ys ts, mu'.Perm [(dk, .intl ys), (c1, Sp.cell (some (Value.ref dk)))] ∧ ys.length ≤ 63 ∧ Keeps g1 g' ∧ IntsAre vs ts ∧ ts.length = i ∧ (∀ c ∈ ts, okc c),
    Iter_range M R1 (by (first | lia | omega)), by (first | lia | omega), ⟨?_, ?_⟩, ⟨xs, [], List.Perm.swap _ _ _, hz, .refl _, .nil, rfl, by simp⟩, ?_⟩
  · rintro i vs g' mu' ⟨ys, ts, _, _, k, d, e, _⟩
    exact ⟨k, by rw [ints_len d]; (first | lia | omega)⟩
  · rintro env' i vs g4 mu4 v g5 bsC E' hi ⟨ys, ts, hpm, hys, k4, d4, e4, ho⟩ k5 ⟨tv, rfl⟩ hb
    obtain ⟨b1, rfl⟩ := bs1 hb
    refine TS_permM hpm ?_
    have E2 := E'
    change EnvIs env' _ [("deck", c1)] at E2
    refine TS_assignName E2 (by tb_start) ⟨_, by tb_start, ?_⟩
    refine ⟨rfl, show _ ∧ _ from ⟨rfl, ite_t ?_⟩⟩
    kt_ors
    refine F_call (law_draw_ok (M.le (by decide)) g5 hys (by decide)) (List.Perm.swap _ _ _) ?_
    rintro _ g6 _ k6 ⟨z, tz, ys6, rfl, hz0, hz1, rfl, hy6⟩
    dsimp only [List.cons_append, List.nil_append]
    kt_ors
    refine F_seal (e := [(_, Sp.list _)]) (mu' := [(dk, .intl ys6), (c1, Sp.cell (some (Value.ref dk)))]) (List.Perm.swap _ _ _) ?_
    intro g7 k7 h7
    refine F_pick8 (.inl (h7 _ (.head _))) hz0 hz1 ?_
    intro x u hx
    refine ⟨rfl, ys6, ts ++ [x], List.Perm.refl _, hy6, by tb_rel, ints_snoc d4, by simp [e4], fun c hc => ?_⟩
    rcases List.mem_append.mp hc with h | h
    · exact ho c h
    · rw [List.mem_singleton.mp h]; exact hx
  · rintro D vs g' mu' ⟨ys, ts, hpm, hys, k, d, e, ho⟩
    kt_ors
    (try refine Out.back hRR ?_)
    exact ⟨[(D, .list vs), (c1, _)], [(dk, .intl ys)], List.Perm.cons _ (hpm.trans (List.Perm.swap _ _ _)), by tb_rel, fun g2 k2 h2 => ⟨D, ts, ys, rfl, At.ofList (h2 _ (.head _)) d, e, ho, rfl, hys⟩⟩
/-- seal what a tree made, ahead of what follows -/
theorem TS_post {α : Type} {c : Cx} {A : Around} {env : Env} {σ : SS} {t : Sem α} {P : α → SS → Prop} (H : TS c A env σ t fun a σ' => ∃ e mu', σ'.mu.Perm (e ++ mu') ∧ ∀ g', Keeps σ'.g g' → (∀ p ∈ e, At c.w g' p.1 p.2) → P a ⟨g', σ'.bs, mu'⟩) : TS c A env σ t P :=
  fun rest h G => (H rest h G).mono fun a h' ⟨σ', ⟨oL, n, G', nd⟩, e, mu', hp, k⟩ => by
    obtain ⟨g', G2, q, r⟩ := GoodC.seal (gone := []) (rest := (env.locals, oL) :: rest) (G'.perm hp)
    exact ⟨⟨g', σ'.bs, mu'⟩, ⟨oL, n, G2, nd⟩, k g' q r⟩
def gp (q : Int × Int) : PyData := .tuple [.int q.1, .int q.2]
def rdat (r : LR) : PyData := .list [.int r.start, .int r.col, .int r.e.stop, .int r.e.ncol, .int r.e.reach, .bool r.e.le, .bool r.e.en, .int r.e.mark, .list (r.e.gl.map gp)]
theorem rdat_of {w : World} {g : Heap} {v : Value} {r : LR} {a1 a2 a3 a4 a5 stop ncol reach mark : Int} {le en : Bool} {gs : List (Int × Int)} (x : Dp w g v (.list [.int a1, .int a2, .int a3, .int a4, .int a5, .bool le, .bool en, .int mark, .list (gs.map gp)])) (e : r.e = ⟨stop, ncol, reach, le, en, mark, gs⟩) (h1 : a1 = r.start) (h2 : a2 = r.col) (h3 : a3 = stop) (h4 : a4 = ncol) (h5 : a5 = reach) : Dp w g v (rdat r) := by
  subst h1 h2 h3 h4 h5
  unfold rdat
  rw [e]
  exact x
theorem row_end {w : World} {g : Heap} {t rl : Addr} {u1 u2 : Tok} {r : LR} {f a1 a2 a3 a4 a5 a6 a7 stop ncol reach mark : Int} {le en : Bool} {gs : List (Int × Int)} (T : At w g t (.tup [.ref rl, .int a6 u1, .int a7 u2])) {us : List Value} (hl : At w g rl (.list us)) (hu : DpAll w g us [.int a1, .int a2, .int a3, .int a4, .int a5, .bool le, .bool en, .int mark, .list (gs.map gp)])
    (e : r.e = ⟨stop, ncol, reach, le, en, mark, gs⟩) (h1 : a1 = r.start) (h2 : a2 = r.col) (h3 : a3 = stop) (h4 : a4 = ncol) (h5 : a5 = reach) (h6 : a6 = stop - f) (h7 : a7 = ncol) :
    ∃ t' rl u1 u2, Value.ref t = .ref t' ∧ At w g t' (.tup [.ref rl, .int (r.e.stop - f) u1, .int r.e.ncol u2]) ∧ Dp w g (.ref rl) (rdat r) := by
  refine ⟨t, rl, u1, u2, rfl, ?_, rdat_of (.list hl hu) e h1 h2 h3 h4 h5⟩
  rw [e]
  subst h6 h7
  exact T
theorem drop_ix {text : List Int} {i : Int} (h0 : 0 ≤ i) (h1 : i < text.length) : ∃ c, text[i.toNat]? = some c ∧ c ∈ text ∧ text.drop i.toNat = c :: text.drop (i + 1).toNat := by
  have hi : i.toNat < text.length := by (first | lia | omega)
  refine ⟨text[i.toNat], List.getElem?_eq_getElem hi, List.getElem_mem hi, ?_⟩
  rw [List.drop_eq_getElem_cons hi, show (i + 1).toNat = i.toNat + 1 by (first | lia | omega)]
theorem glyph_comp {w : World} {A : Around} {m : Nat} (M : Rm A m) {g : Heap} {gla c1 c2 : Addr} {vs : List Value} {xs : List Int} {f a : Int} {u1 u2 : Tok} {n : Nat} {q1 q2 q3 q4 q5 q6 : Pos} :
    CompJ (cx w) A (.Name "code" q1) (.Tuple [.Name "code" q2, .BinOp (.Name "first" q3) .Add (.Name "at" q4) q5] 0 q6) [] [(".0", .local), ("code", .local), ("at", .cell), ("first", .cell)] [("first", c2), ("at", c1)] ["code"] n (fun i v _ => ∃ z t, xs[i]? = some z ∧ v = .int z t) g
      (fun i ys g' mu' => mu' = [(gla, .list vs), (c1, .cell (some (.int a u1))), (c2, .cell (some (.int f u2)))] ∧ Keeps g g' ∧ DpAll w g' ys (((xs.take i).map fun z => (z, f + a)).map gp)) := by
  refine ⟨?_, ?_⟩
  · rintro i ys g' mu' ⟨_, k, d⟩
    refine ⟨k, ?_⟩
    have := d.len
    simp only [List.length_map, List.length_take] at this
    (first | lia | omega)
  · rintro env' i ys g4 mu4 v g5 bsC E hi ⟨rfl, k4, d4⟩ k5 ⟨z, tz, hz, rfl⟩ hb
    obtain ⟨b1, rfl⟩ := bs1 hb
    refine TS_assignName E (by tb_start) ⟨_, by tb_start, ?_⟩
    refine ⟨rfl, show _ ∧ _ from ⟨rfl, ite_t ?_⟩⟩
    dsimp only
    refine F_Tuple ?_ rfl (by simp)
    kt_ors
    refine ⟨rfl, rfl, by tb_rel, ?_⟩
    rw [List.take_add_one, hz]
    simp only [Option.toList, List.map_append, List.map_cons, List.map_nil]
    exact DpAll.app (d4.mono (by tb_rel)) (.cons (.tup (by tb_rel) (.cons (.int _ _) (.cons (.int _ _) .nil))) .nil)
inductive LrowJ (w : World) (g : Heap) (lt c1 c2 : Addr) (text : List Int) (f at0 col room : Int) (t1 t2 t3 t4 : Tok) (k : Nat) (σ : SS) : Prop
  | mk : ∀ g' mu' e, ∀ (at4 : Int), ∀ ta col4 tcol gla vs gl shv, (σ = ⟨g', [("text", some (.ref lt)), ("column", some (.int col4 tcol)), ("room", some (.int room t4)), ("start", some (.int at0 t2)), ("where", some (.int col t3)), ("glyphs", some (.ref gla)), ("shown", shv), ("reach", none), ("ends", none)], mu'⟩) → (mu'.Perm (e ++ [(gla, .list vs), (c1, .cell (some (.int at4 ta))), (c2, .cell (some (.int f t1)))])) → (Keeps g g') → (DpAll w g' vs (gl.map gp)) → (0 ≤ at4) → (at4 ≤ text.length) → (0 ≤ col4) → ((gl.length : Int) ≤ room) → (rowGo room (text.drop at4.toNat) (f + at4) col4 gl = rowGo room (text.drop at0.toNat) (f + at0) col []) → (k = ((text.length : Int) - at4).toNat) → LrowJ w g lt c1 c2 text f at0 col room t1 t2 t3 t4 k σ
inductive Q_law_row_ok (w : World) (text : List Int) (f : Int) (at0 : Int) (col : Int) (room : Int) (v : Value) (g' : Heap) : Prop
  | mk : ∀ t rl u1 u2, (v = .ref t) → (At w g' t (.tup [.ref rl, .int ((lrow room text f (f + at0) col).e.stop - f) u1, .int (lrow room text f (f + at0) col).e.ncol u2])) → (Dp w g' (.ref rl) (rdat (lrow room text f (f + at0) col))) → Q_law_row_ok w text f at0 col room v g'
theorem Q_law_row_ok.of {w : World} {text : List Int} {f at0 col room : Int} {v : Value} {g' : Heap} (h : ∃ t rl u1 u2, v = .ref t ∧ At w g' t (.tup [.ref rl, .int ((lrow room text f (f + at0) col).e.stop - f) u1, .int (lrow room text f (f + at0) col).e.ncol u2]) ∧ Dp w g' (.ref rl) (rdat (lrow room text f (f + at0) col))) : Q_law_row_ok w text f at0 col room v g' := by
  obtain ⟨t, rl, u1, u2, h1, h2, h3⟩ := h
  exact ⟨t, rl, u1, u2, h1, h2, h3⟩
set_option maxHeartbeats 4000000 in
theorem law_row_ok {w : World} {A : Around} (M : Rm A 3) (g : Heap) {lt : Addr} {text : List Int} {f at0 col room : Int} {t1 t2 t3 t4 : Tok} (L : At w g lt (.intl text)) (hn : text.length ≤ 100) (h0 : 0 ≤ at0) (h1 : at0 ≤ text.length) (hc : 0 ≤ col) (hr : 2 ≤ room) (hr2 : room ≤ 5) :
    CC (cx w) A g [] (.call (.ref 512) ⟨[.ref lt, .int f t1, .int at0 t2, .int col t3, .int room t4], []⟩) (fun v g' mu' => mu' = [] ∧ Q_law_row_ok w text f at0 col room v g') := by
  refine' C_defC M ["start", "where", "glyphs", "shown", "reach", "ends"] ["at", "first"] [("text", .ref lt), ("column", .int col t3), ("room", .int room t4)] [("first", .int f t1), ("at", .int at0 t2)] [some (.int at0 t2), some (.int f t1)] ?ho ?hcd ?hbind ?hok ?hlb ?hcb ?hnd ?hcn ?hcnd ?hcv ?hkd ?hco ?hgen ?hk ?h
  (case ho => k_is); (case hcd => k_is); (case hbind => exact fun s _ => BindsTo.of_eq rfl); (case hok => decide +kernel); (case hlb => exact rfl); (case hcb => exact rfl); (case hnd => kernel_rfl); (case hcn => exact rfl); (case hcnd => kernel_rfl); (case hcv => exact rfl); (case hkd => kernel_rfl); (case hco => exact rfl); (case hgen => exact rfl); (case hk => exact rfl)
  intro env as hl E M
  obtain ⟨c1, c2, rfl⟩ : ∃ a b, as = [a, b] := by match as, hl with | [a, b], _ => exact ⟨a, b, rfl⟩
  refine XS_gen M fun A2 RR M hRR => ?_
  dsimp only [bsInit, List.map, List.zip, List.zipWith, List.nil_append, List.cons_append, List.append_nil] at *
  have hlrow : (lrow room text f (f + at0) col).e = rowGo room (text.drop at0.toNat) (f + at0) col [] := by
    unfold lrow
    dsimp only
    rw [show (f + at0 - f).toNat = at0.toNat by (first | lia | omega)]
  kt_ors
  refine XS_whileG (LrowJ w g lt c1 c2 text f at0 col room t1 t2 t3 t4) _ ⟨_, _, [], at0, t2, col, t3, _, [], [], _, rfl, List.Perm.refl _, by tb_rel, .nil, h0, h1, hc, by simp; (first | lia | omega), rfl, rfl⟩ ?_
  rintro k _ NN hNN ⟨g3, mu3, e3, at4, ta, col4, tcol, gla, vs, gl, shv, rfl, hpm, k3, d3, a0, a1, a2, a3, a4, rfl⟩
  rw [← hlrow] at a4
  refine F_seal hpm ?_
  intro g4 k4 _
  have hgl := d3.len
  simp only [List.length_map] at hgl
  kt_ors
  refine ite_d (fun hlt => ?_) (fun hge => ?_)
  · obtain ⟨code, hcode, hmem, hdrop⟩ := drop_ix (text := text) a0 hlt
    rw [hdrop] at a4
    have hsl := shownOf_len code col4
    kt_ors
    refine F_itemI (x := code) (by tb_start) (by (first | lia | omega)) (by (first | lia | omega)) hcode ?_
    intro u1
    kt_ors
    refine ite_d (fun h10 => ?_) (fun h10 => ?_)
    · kt_ors
      refine F_itemI (x := code) (by tb_start) (by (first | lia | omega)) (by (first | lia | omega)) hcode ?_
      intro u2
      kt_ors
      refine F_call0 (law_shown_ok (M.le (by decide)) g4) ?_
      rintro _ g5 k5 ⟨cs, rfl, Cs⟩
      kt_ors
      refine ite_d (fun hov => ?_) (fun hov => ?_)
      · kt_ors
        refine F_itemI (x := code) (by tb_start) (by (first | lia | omega)) (by (first | lia | omega)) hcode ?_
        intro u3
        kt_ors
        by_cases hA : code = 9 ∧ (vs.length : Int) < room
        · refine ite_dt hA.1 ?_
          kt_ors
          refine ite_dt hA.2 ?_
          kt_ors
          refine' TS_comp (fr := [("at", c1), ("first", c2)]) (keys := ["code"]) (cn := [(".0", .local), ("code", .local), ("at", .cell), ("first", .cell)]) M E rfl ?m1 ?m2 rfl ?m3 (cNames_eq E rfl) ?m4 ?m5 ?m7 ?m6
          case m1 => kernel_rfl
          case m2 => kernel_rfl
          case m3 => intro q hq; simp only [List.mem_cons, List.not_mem_nil, or_false] at hq; rcases hq with hq | hq <;> (subst hq; exact rfl)
          case m4 => decide +kernel
          case m5 => kernel_rfl
          case m6 => intro _; rfl
          refine TS_post ?_
          kt_ors
          refine Or.inr (SlKI.mk (c := cx w) (by tb_start) (by (first | lia | omega)) (by (first | lia | omega)) ?_)
          intro sl
          (try refine Out.back hRR ?_)
          refine ⟨[_], [(gla, .list vs), (c1, .cell (some (.int at4 ta))), (c2, .cell (some (.int f t1)))], List.Perm.refl _, ?_⟩
          intro g6 k6 h6
          refine ⟨_, _, _, _, Iter_ints M (h6 _ (.head _)), by rw [List.length_take]; (first | lia | omega), glyph_comp M (gla := gla) (vs := vs) (f := f) (a := at4), ⟨rfl, .refl _, .nil⟩, ?_⟩
          rintro D ys g7 mu7 ⟨rfl, k7, d7⟩
          rw [List.take_length] at d7
          have hd7 := d7.len
          simp only [List.length_map] at hd7
          kt_ors
          kt_ors
          (try refine Out.back hRR ?_)
          refine Out.all (by tb_rel) fun g' k h => ⟨rfl, .of (row_end (a1 := f + at0) (a2 := col) (a3 := f + (at4 + 1)) (a4 := col4 + (shownOf code col4).length) (a5 := f + (at4 + 2)) (stop := f + at4 + 1) (ncol := col4 + (shownOf code col4).length) (reach := f + at4 + 2) (le := false) (en := false) (mark := 92) (gs := gl ++ ((shownOf code col4).take (room - vs.length).toNat).map fun z => (z, f + at4)) (At.mono (by assumption) (by tb_rel)) (h _ _ (by tb_start)) ?_ (a4.symm.trans (by rw [rowGo, if_neg h10, if_pos (by (first | lia | omega)), if_pos (.inl (by rw [← hgl] at hA; exact hA)), hgl])) rfl rfl (by (first | lia | omega)) rfl (by (first | lia | omega)) (by (first | lia | omega)) rfl)⟩
          exact .cons (.int _ _) (.cons (.int _ _) (.cons (.int _ _) (.cons (.int _ _) (.cons (.int _ _) (.cons (.bool _) (.cons (.bool _) (.cons (.int _ _) (.cons (.list (h _ _ (by tb_start)) (by rw [List.map_append]; exact (d3.mono (by tb_rel)).app (d7.mono (by tb_rel)))) .nil))))))))
        · by_cases hB : vs.length = 0
          · refine ite_df (by (first | lia | omega)) ?_
            kt_ors
            refine ite_dt hB ?_
            kt_ors
            refine' TS_comp (fr := [("at", c1), ("first", c2)]) (keys := ["code"]) (cn := [(".0", .local), ("code", .local), ("at", .cell), ("first", .cell)]) M E rfl ?n1 ?n2 rfl ?n3 (cNames_eq E rfl) ?n4 ?n5 ?n7 ?n6
            case n1 => kernel_rfl
            case n2 => kernel_rfl
            case n3 => intro q hq; simp only [List.mem_cons, List.not_mem_nil, or_false] at hq; rcases hq with hq | hq <;> (subst hq; exact rfl)
            case n4 => decide +kernel
            case n5 => kernel_rfl
            case n6 => intro _; rfl
            refine TS_post ?_
            kt_ors
            refine Or.inr (SlKI.mk (c := cx w) (by tb_start) (by (first | lia | omega)) (by (first | lia | omega)) ?_)
            intro sl
            (try refine Out.back hRR ?_)
            refine ⟨[_, _], [(gla, .list vs), (c1, .cell (some (.int at4 ta))), (c2, .cell (some (.int f t1)))], List.Perm.refl _, ?_⟩
            intro g6 k6 h6
            refine ⟨_, _, _, _, Iter_ints M (h6 _ (.head _)), by rw [List.length_take]; (first | lia | omega), glyph_comp M (gla := gla) (vs := vs) (f := f) (a := at4), ⟨rfl, .refl _, .nil⟩, ?_⟩
            rintro D ys g7 mu7 ⟨rfl, k7, d7⟩
            rw [List.take_length] at d7
            have hd7 := d7.len
            simp only [List.length_map] at hd7
            kt_ors
            kt_ors
            (try refine Out.back hRR ?_)
            refine Out.all (by tb_rel) fun g' k h => ⟨rfl, .of (row_end (a1 := f + at0) (a2 := col) (a3 := f + (at4 + 1)) (a4 := col4 + (shownOf code col4).length) (a5 := f + (at4 + 2)) (stop := f + at4 + 1) (ncol := col4 + (shownOf code col4).length) (reach := f + at4 + 2) (le := false) (en := false) (mark := 92) (gs := gl ++ ((shownOf code col4).take (room - vs.length).toNat).map fun z => (z, f + at4)) (At.mono (by assumption) (by tb_rel)) (h _ _ (by tb_start)) ?_ (a4.symm.trans (by rw [rowGo, if_neg h10, if_pos (by (first | lia | omega)), if_pos (.inr (by (first | lia | omega))), hgl])) rfl rfl (by (first | lia | omega)) rfl (by (first | lia | omega)) (by (first | lia | omega)) rfl)⟩
            exact .cons (.int _ _) (.cons (.int _ _) (.cons (.int _ _) (.cons (.int _ _) (.cons (.int _ _) (.cons (.bool _) (.cons (.bool _) (.cons (.int _ _) (.cons (.list (h _ _ (by tb_start)) (by rw [List.map_append]; exact (d3.mono (by tb_rel)).app (d7.mono (by tb_rel)))) .nil))))))))
          · by_cases h9 : code = 9
            · refine ite_dt h9 ?_
              kt_ors
              refine ite_df (by (first | lia | omega)) ?_
              kt_ors
              refine ite_df hB ?_
              kt_ors
              (try refine Out.back hRR ?_)
              refine Out.all (by tb_rel) fun g' k h => ⟨rfl, .of (row_end (a1 := f + at0) (a2 := col) (a3 := f + at4) (a4 := col4) (a5 := f + (at4 + 1)) (stop := f + at4) (ncol := col4) (reach := f + at4 + 1) (le := false) (en := false) (mark := 92) (gs := gl) (At.mono (by assumption) (by tb_rel)) (h _ _ (by tb_start)) ?_ (a4.symm.trans (by rw [rowGo, if_neg h10, if_pos (by (first | lia | omega)), if_neg (by (first | lia | omega))])) rfl rfl (by (first | lia | omega)) rfl (by (first | lia | omega)) (by (first | lia | omega)) rfl)⟩
              exact .cons (.int _ _) (.cons (.int _ _) (.cons (.int _ _) (.cons (.int _ _) (.cons (.int _ _) (.cons (.bool _) (.cons (.bool _) (.cons (.int _ _) (.cons (.list (h _ _ (by tb_start)) (d3.mono (by tb_rel))) .nil))))))))
            · refine ite_df h9 ?_
              kt_ors
              refine ite_df hB ?_
              kt_ors
              (try refine Out.back hRR ?_)
              refine Out.all (by tb_rel) fun g' k h => ⟨rfl, .of (row_end (a1 := f + at0) (a2 := col) (a3 := f + at4) (a4 := col4) (a5 := f + (at4 + 1)) (stop := f + at4) (ncol := col4) (reach := f + at4 + 1) (le := false) (en := false) (mark := 92) (gs := gl) (At.mono (by assumption) (by tb_rel)) (h _ _ (by tb_start)) ?_ (a4.symm.trans (by rw [rowGo, if_neg h10, if_pos (by (first | lia | omega)), if_neg (by (first | lia | omega))])) rfl rfl (by (first | lia | omega)) rfl (by (first | lia | omega)) (by (first | lia | omega)) rfl)⟩
              exact .cons (.int _ _) (.cons (.int _ _) (.cons (.int _ _) (.cons (.int _ _) (.cons (.int _ _) (.cons (.bool _) (.cons (.bool _) (.cons (.int _ _) (.cons (.list (h _ _ (by tb_start)) (d3.mono (by tb_rel))) .nil))))))))
      · kt_ors
        kt_ors
        refine' TS_comp (fr := [("at", c1), ("first", c2)]) (keys := ["code"]) (cn := [(".0", .local), ("code", .local), ("at", .cell), ("first", .cell)]) M E rfl ?o1 ?o2 rfl ?o3 (cNames_eq E rfl) ?o4 ?o5 ?o7 ?o6
        case o1 => kernel_rfl
        case o2 => kernel_rfl
        case o3 => intro q hq; simp only [List.mem_cons, List.not_mem_nil, or_false] at hq; rcases hq with hq | hq <;> (subst hq; exact rfl)
        case o4 => decide +kernel
        case o5 => kernel_rfl
        case o6 => intro _; rfl
        refine TS_post ?_
        kt_ors
        (try refine Out.back hRR ?_)
        refine ⟨[], [(gla, .list vs), (c1, .cell (some (.int at4 ta))), (c2, .cell (some (.int f t1)))], List.Perm.refl _, ?_⟩
        intro g6 k6 h6
        refine ⟨_, _, _, _, Iter_ints M (At.mono Cs (by tb_rel)), by (first | lia | omega), glyph_comp M (gla := gla) (vs := vs) (f := f) (a := at4), ⟨rfl, .refl _, .nil⟩, ?_⟩
        rintro D ys g7 mu7 ⟨rfl, k7, d7⟩
        rw [List.take_length] at d7
        have hd7 := d7.len
        simp only [List.length_map] at hd7
        kt_ors
        refine ⟨((text.length : Int) - (at4 + 1)).toNat, by (first | lia | omega), _, _, [_, _], at4 + 1, _, _, _, _, vs ++ ys, gl ++ (shownOf code col4).map (fun z => (z, f + at4)), _, rfl, (List.Perm.swap _ _ _).trans (List.Perm.cons _ (List.Perm.swap _ _ _)), by tb_rel, by rw [List.map_append]; exact (d3.mono (by tb_rel)).app (d7.mono (by tb_rel)), by (first | lia | omega), by (first | lia | omega), by (first | lia | omega), ?_, ?_, rfl⟩
        · rw [List.length_append, List.length_map]; (first | lia | omega)
        · rw [← hlrow, ← a4, rowGo, if_neg h10, if_neg (by (first | lia | omega)), show f + at4 + 1 = f + (at4 + 1) by (first | lia | omega)]
    · kt_ors
      refine ite_df (by (first | lia | omega)) ?_
      kt_ors
      (try refine Out.back hRR ?_)
      refine Out.all (by tb_rel) fun g' k h => ⟨rfl, .of (row_end (a1 := f + at0) (a2 := col) (a3 := f + at4 + 1) (a4 := 0) (a5 := f + at4 + 2) (stop := f + at4 + 1) (ncol := 0) (reach := f + at4 + 2) (le := true) (en := false) (mark := 32) (gs := gl) (At.mono (by assumption) (by tb_rel)) (h _ _ (by tb_start)) ?_ (a4.symm.trans (by rw [rowGo, if_pos (by (first | lia | omega))])) rfl rfl (by (first | lia | omega)) rfl (by (first | lia | omega)) (by (first | lia | omega)) rfl)⟩
      exact .cons (.int _ _) (.cons (.int _ _) (.cons (.int _ _) (.cons (.int _ _) (.cons (.int _ _) (.cons (.bool _) (.cons (.bool _) (.cons (.int _ _) (.cons (.list (h _ _ (by tb_start)) (d3.mono (by tb_rel))) .nil))))))))
  · have hnil : text.drop at4.toNat = [] := List.drop_eq_nil_of_le (by (first | lia | omega))
    rw [hnil] at a4
    kt_ors
    refine ite_dt (by (first | lia | omega)) ?_
    kt_ors
    (try refine Out.back hRR ?_)
    refine Out.all (by tb_rel) fun g' k h => ⟨rfl, .of (row_end (a1 := f + at0) (a2 := col) (a3 := f + at4) (a4 := col4) (a5 := f + at4 + 1) (stop := f + at4) (ncol := col4) (reach := f + at4 + 1) (le := false) (en := true) (mark := 32) (gs := gl) (At.mono (by assumption) (by tb_rel)) (h _ _ (by tb_start)) ?_ (a4.symm.trans (by rw [rowGo])) rfl rfl (by (first | lia | omega)) rfl (by (first | lia | omega)) (by (first | lia | omega)) rfl)⟩
    exact .cons (.int _ _) (.cons (.int _ _) (.cons (.int _ _) (.cons (.int _ _) (.cons (.int _ _) (.cons (.bool _) (.cons (.bool _) (.cons (.int _ _) (.cons (.list (h _ _ (by tb_start)) (d3.mono (by tb_rel))) .nil))))))))
theorem rest_step {room : Int} {text : List Int} {f : Int} {n : Nat} {p col p' col' : Int} {F : List LR} (hsp : SpotOf p col F p' col') (hlt : F.length < n) (h : F = [] ∨ ∃ r, F.getLast? = some r ∧ r.e.en = false) : restOf room text f n p col F = lrow room text f p' col' :: restOf room text f n p col (F ++ [lrow room text f p' col']) := by
  have hn : n - F.length = (n - (F.length + 1)) + 1 := by (first | lia | omega)
  have e1 : restOf room text f n p col F = rowsGo room text f (n - F.length) p' col' := by
    unfold SpotOf at hsp
    unfold restOf
    rcases h with h | ⟨r, h1, h2⟩
    · subst h
      simp only [List.getLast?_nil] at hsp
      obtain ⟨rfl, rfl⟩ := hsp
      simp
    · rw [h1] at hsp
      rw [h1]
      obtain ⟨rfl, rfl⟩ := hsp
      simp [h2]
  rw [e1, hn, rowsGo]
  congr 1
  unfold restOf
  rw [List.getLast?_append]
  simp
theorem rest_full {room : Int} {text : List Int} {f : Int} {n : Nat} {p col : Int} {F : List LR} (hn : 1 ≤ n) (h : F.length = n) : restOf room text f n p col F = [] := by
  unfold restOf
  cases hF : F.getLast? with
  | none => rw [List.getLast?_eq_none_iff] at hF; rw [hF] at h; simp at h; (first | lia | omega)
  | some r =>
    dsimp only
    rw [h, Nat.sub_self]
    split <;> rfl
theorem rest_end {room : Int} {text : List Int} {f : Int} {n : Nat} {p col : Int} {F : List LR} {r : LR} (h : F.getLast? = some r) (he : r.e.en = true) : restOf room text f n p col F = [] := by
  unfold restOf
  rw [h]
  simp [he]
theorem Dp.row {w : World} {g : Heap} {v : Value} {r : LR} (d : Dp w g v (rdat r)) : ∃ a t1 t2 t3 t4 t5 tm gv, v = .ref a ∧ At w g a (.list [.int r.start t1, .int r.col t2, .int r.e.stop t3, .int r.e.ncol t4, .int r.e.reach t5, .bool r.e.le, .bool r.e.en, .int r.e.mark tm, gv]) ∧ Dp w g gv (.list (r.e.gl.map gp)) := by
  obtain ⟨a, vs, rfl, h, x⟩ := d.listE
  obtain ⟨t1, vs1, e1, x1⟩ := x.ci
  obtain ⟨t2, vs2, e2, x2⟩ := x1.ci
  obtain ⟨t3, vs3, e3, x3⟩ := x2.ci
  obtain ⟨t4, vs4, e4, x4⟩ := x3.ci
  obtain ⟨t5, vs5, e5, x5⟩ := x4.ci
  obtain ⟨vs6, e6, x6⟩ := x5.cb
  obtain ⟨vs7, e7, x7⟩ := x6.cb
  obtain ⟨t6, vs8, e8, x8⟩ := x7.ci
  obtain ⟨v, vs9, e9, y, x9⟩ := x8.c
  rw [e1, e2, e3, e4, e5, e6, e7, e8, e9, x9.n] at h
  exact ⟨_, _, _, _, _, _, _, _, rfl, h, y⟩
theorem rows_last {w : World} {g : Heap} : ∀ {vs : List Value} {F : List LR}, DpAll w g vs (F.map rdat) → F ≠ [] → ∃ vs' v F' r, vs = vs' ++ [v] ∧ F = F' ++ [r] ∧ Dp w g v (rdat r)
  | vs, [], _, h => absurd rfl h
  | vs, [r], d, _ => by
    cases d with
    | cons d1 x => cases x; exact ⟨[], _, [], r, rfl, rfl, d1⟩
  | vs, r :: q :: F, d, _ => by
    cases d with
    | @cons v us _ _ d1 x =>
      obtain ⟨vs', u, F', s, e1, e2, y⟩ := rows_last (F := q :: F) x (by simp)
      exact ⟨v :: vs', u, r :: F', s, by rw [e1]; rfl, by rw [e2]; rfl, y⟩
inductive LrowsJ (w : World) (g : Heap) (lt : Addr) (text : List Int) (f at0 room : Int) (height : Nat) (t1 t3 t4 : Tok) (k : Nat) (σ : SS) : Prop
  | mk : ∀ g' mu' e, ∀ (at4 : Int), ∀ ta col4 tcol fd vs F ov, (σ = ⟨g', [("text", some (.ref lt)), ("first", some (.int f t1)), ("at", some (.int at4 ta)), ("room", some (.int room t3)), ("height", some (.int height t4)), ("found", some (.ref fd)), ("column", some (.int col4 tcol)), ("own", ov)], mu'⟩) → (mu'.Perm (e ++ [(fd, .list vs)])) → (Keeps g g') → (DpAll w g' vs (F.map rdat)) → (0 ≤ at4) → (at4 ≤ text.length) → (0 ≤ col4) → (F.length ≤ height) → (rowsGo room text f height (f + at0) 0 = F ++ restOf room text f height (f + at0) 0 F) → (SpotOf (f + at0) 0 F (f + at4) col4) → (k = height - F.length) → LrowsJ w g lt text f at0 room height t1 t3 t4 k σ
inductive Q_law_rows_ok (w : World) (text : List Int) (f : Int) (at0 : Int) (room : Int) (height : Nat) (v : Value) (g' : Heap) : Prop
  | mk : ∀ l vs, (v = .ref l) → (At w g' l (.list vs)) → (DpAll w g' vs ((rowsGo room text f height (f + at0) 0).map rdat)) → Q_law_rows_ok w text f at0 room height v g'
set_option maxHeartbeats 4000000 in
theorem law_rows_ok {w : World} {A : Around} (M : Rm A 4) (g : Heap) {lt : Addr} {text : List Int} {f at0 room : Int} {height : Nat} {t1 t2 t3 t4 : Tok} (L : At w g lt (.intl text)) (hn : text.length ≤ 100) (h0 : 0 ≤ at0) (h1 : at0 ≤ text.length) (hr : 2 ≤ room) (hr2 : room ≤ 5) (hh : 1 ≤ height) (hh2 : height ≤ 6) :
    CC (cx w) A g [] (.call (.ref 519) ⟨[.ref lt, .int f t1, .int at0 t2, .int room t3, .int height t4], []⟩) (fun v g' mu' => mu' = [] ∧ Q_law_rows_ok w text f at0 room height v g') := by
  refine' C_def M ["found", "column", "own"] ?ho ?hcd ?hbind ?hok ?hnd ?hloc ?hcell ?hco ?hgen ?hk ?h
  got_up
  intro env E M
  refine XS_gen M fun A2 RR M hRR => ?_
  dsimp only [bsInit, List.map, List.zip, List.zipWith, List.nil_append, List.cons_append, List.append_nil] at *
  kt_ors
  refine XS_whileG (LrowsJ w g lt text f at0 room height t1 t3 t4) _ ⟨_, _, [], at0, t2, 0, _, _, [], [], _, rfl, List.Perm.refl _, by tb_rel, .nil, h0, h1, by decide, by simp, ?_, ⟨rfl, rfl⟩, rfl⟩ ?_
  · unfold restOf; simp
  rintro k _ NN hNN ⟨g3, mu3, e3, at4, ta, col4, tcol, fd, vs, F, ov, rfl, hpm, k3, d3, a0, a1, a2, hF, hlat, hsp, rfl⟩
  refine F_seal hpm ?_
  intro g4 k4 _
  have hfl := d3.len
  simp only [List.length_map] at hfl
  obtain ⟨b1, b2, b3⟩ := lrow_bounds (room := room) (text := text) (f := f) (p := f + at4) (col := col4) (by (first | lia | omega)) (by (first | lia | omega)) a2
  have hstep : F.length < height → (F = [] ∨ ∃ r, F.getLast? = some r ∧ r.e.en = false) → rowsGo room text f height (f + at0) 0 = (F ++ [lrow room text f (f + at4) col4]) ++ restOf room text f height (f + at0) 0 (F ++ [lrow room text f (f + at4) col4]) := by
    intro hlt h
    rw [List.append_assoc, List.singleton_append, ← rest_step hsp hlt h]
    exact hlat
  kt_ors
  refine ite_d (fun hlt => ?_) (fun hge => ?_)
  · kt_ors
    by_cases hF0 : F = []
    · refine ite_dt (by rw [← hfl, hF0]; rfl) ?_
      have hs := hstep (by (first | lia | omega)) (.inl hF0)
      kt_ors
      refine F_call0 (law_row_ok (M.le (by decide)) _ (At.mono L (by tb_rel)) hn a0 a1 a2 hr hr2) ?_
      rintro _ g5 k5 ⟨tp, rl, u1, u2, rfl, T5, D5⟩
      kt_ors
      refine ⟨height - (F.length + 1), by (first | lia | omega), _, _, [_], _, _, _, _, _, vs ++ [_], F ++ [lrow room text f (f + at4) col4], _, rfl, List.Perm.refl _, by tb_rel, ?_, by (first | lia | omega), by (first | lia | omega), b3, by simp; (first | lia | omega), hs, ?_, by simp⟩
      · rw [List.map_append]; exact (d3.mono (by tb_rel)).app (.cons (D5.mono (by tb_rel)) .nil)
      · unfold SpotOf; rw [List.getLast?_append]; exact ⟨by show f + _ = (lrow room text f (f + at4) col4).e.stop; (first | lia | omega), rfl⟩
    · refine ite_df (by intro h; exact hF0 (List.length_eq_zero_iff.mp (by (first | lia | omega)))) ?_
      obtain ⟨vf1, x1, F1, r1, e1, e2, y1⟩ := rows_last d3 hF0
      obtain ⟨ra, s1, s2, s3, s4, s5, sm, gv, rfl, R1, R2⟩ := y1.row
      have hvl : vf1.length ≤ 1000 := by have := congrArg List.length e1; simp at this; (first | lia | omega)
      have hgl : F.getLast? = some r1 := by rw [e2, List.getLast?_append]; rfl
      rw [e1]
      kt_ors
      refine F_last (vs := vf1) (by tb_start) hvl ?_
      kt_ors
      refine F_item (k := 6) (by tb_start) (by decide) (by decide) rfl ?_
      rw [← e1]
      cases hen : r1.e.en with
      | true =>
        kt_ors
        (try refine Out.back hRR ?_)
        exact Out.all (by tb_rel) fun g' k h => ⟨rfl, fd, vs, rfl, h _ _ (by tb_start), by rw [hlat, rest_end hgl hen, List.append_nil]; exact d3.mono (by tb_rel)⟩
      | false =>
        have hs := hstep (by (first | lia | omega)) (.inr ⟨r1, hgl, hen⟩)
        kt_ors
        refine F_call0 (law_row_ok (M.le (by decide)) _ (At.mono L (by tb_rel)) hn a0 a1 a2 hr hr2) ?_
        rintro _ g5 k5 ⟨tp, rl, u1, u2, rfl, T5, D5⟩
        kt_ors
        refine ⟨height - (F.length + 1), by (first | lia | omega), _, _, [_], _, _, _, _, _, vs ++ [_], F ++ [lrow room text f (f + at4) col4], _, rfl, List.Perm.refl _, by tb_rel, ?_, by (first | lia | omega), by (first | lia | omega), b3, by simp; (first | lia | omega), hs, ?_, by simp⟩
        · rw [List.map_append]; exact (d3.mono (by tb_rel)).app (.cons (D5.mono (by tb_rel)) .nil)
        · unfold SpotOf; rw [List.getLast?_append]; exact ⟨by show f + _ = (lrow room text f (f + at4) col4).e.stop; (first | lia | omega), rfl⟩
  · kt_ors
    (try refine Out.back hRR ?_)
    exact Out.all (by tb_rel) fun g' k h => ⟨rfl, fd, vs, rfl, h _ _ (by tb_start), by rw [hlat, rest_full hh (by (first | lia | omega)), List.append_nil]; exact d3.mono (by tb_rel)⟩
theorem law_line_ok {w : World} {A : Around} (M : Rm A 1) (g : Heap) {lt : Addr} {text : List Int} {at0 : Int} {t1 : Tok} (L : At w g lt (.intl text)) (hn : text.length ≤ 100) (h0 : 0 ≤ at0) (h1 : at0 ≤ text.length) :
    CC (cx w) A g [] (.call (.ref 526) ⟨[.ref lt, .int at0 t1], []⟩) (fun v g' mu' => mu' = [] ∧ ∃ z t, v = .int z t ∧ 0 ≤ z ∧ z ≤ text.length) := by
  refine' C_def M [] ?ho ?hcd ?hbind ?hok ?hnd ?hloc ?hcell ?hco ?hgen ?hk ?h
  got_up
  intro env E M
  refine XS_gen M fun A2 RR M hRR => ?_
  dsimp only [bsInit, List.map, List.zip, List.zipWith, List.nil_append, List.cons_append, List.append_nil] at *
  refine XS_whileG (fun k σ => ∃ g', ∃ (at4 : Int), ∃ ta, σ = ⟨g', [("text", some (.ref lt)), ("at", some (.int at4 ta))], []⟩ ∧ Keeps g g' ∧ 0 ≤ at4 ∧ at4 ≤ text.length ∧ k = at4.toNat) _ ⟨_, at0, t1, rfl, .refl _, h0, h1, rfl⟩ ?_
  rintro k _ NN hNN ⟨g3, at4, ta, rfl, k3, a0, a1, rfl⟩
  kt_ors
  refine ite_d (fun h => ?_) (fun h => ?_)
  · obtain ⟨code, hcode, hmem, hdrop⟩ := drop_ix (text := text) (i := at4 - 1) (by (first | lia | omega)) (by (first | lia | omega))
    kt_ors
    refine F_itemI (x := code) (by tb_start) (by (first | lia | omega)) (by (first | lia | omega)) hcode ?_
    intro u1
    kt_ors
    refine ite_d (fun h10 => ?_) (fun h10 => ?_)
    · kt_ors
      exact ⟨(at4 - 1).toNat, by (first | lia | omega), _, at4 - 1, _, rfl, by tb_rel, by (first | lia | omega), by (first | lia | omega), rfl⟩
    · kt_ors
      (try refine Out.back hRR ?_)
      exact Out.pure (by tb_rel) fun g' k => ⟨rfl, _, _, rfl, a0, a1⟩
  · kt_ors
    (try refine Out.back hRR ?_)
    exact Out.pure (by tb_rel) fun g' k => ⟨rfl, _, _, rfl, a0, a1⟩
def ahOf (ah : Option Int) (x : Int) : Option Int := some (match ah with | none => x | some a => min a x)
def bOf (ah : Option Int) (b x : Int) : Int := match ah with | none => x | some _ => min b x
theorem cut_len (text ts : List Int) {n1 st : Nat} (h : n1 ≤ text.length) : (text.take n1 ++ ts ++ text.drop st).length = n1 + ts.length + (text.length - st) := by
  rw [List.length_append, List.length_append, List.length_take_of_le h, List.length_drop]
theorem cut_more {m f : Int} {n1 a l st : Nat} (h : st ≤ l) : m + (f + n1 + a) - (f + st) = m + (((n1 + a + (l - st) : Nat) : Int) - l) := by (first | lia | omega)
theorem cut_rest {e m f : Int} {l st : Nat} (h : st ≤ l) (hm : e + m = f + l) : e + m - (f + st) = ((l - st : Nat) : Int) := by (first | lia | omega)
theorem cut_min {l a b : Nat} : min (l : Int) (a + b) = ((min l (a + b) : Nat) : Int) := by (first | lia | omega)
inductive Q_law_changed_ok (w : World) (dk : Addr) (ld : Addr) (text : List Int) (f : Int) (e : Int) (b : Int) (m : Int) (ah : Option Int) (v : Value) (g' : Heap) (mu' : List (Addr × Sp)) : Prop
  | mk : ∀ ys fs' t lt' text' u1 u2, ∀ (s tl : Nat), (mu' = [(dk, .intl ys), (ld, .dict fs')]) → (ys.length ≤ 63) → (v = .ref t) → (At w g' t (.tup [.ref lt', .int (f + s) u1, .int tl u2])) → (At w g' lt' (.intl text')) → (text'.length ≤ text.length + 3) → ((∀ c ∈ text', okc c)) → (Rel text text' s tl) → (LogD e (ahOf ah (f + (s : Int))) (bOf ah b tl) (m + ((text'.length : Int) - text.length)) fs') → Q_law_changed_ok w dk ld text f e b m ah v g' mu'
set_option maxHeartbeats 4000000 in
theorem law_changed_ok {w : World} {A : Around} (M : Rm A 4) (g : Heap) {dk lt lx ld : Addr} {xs text : List Int} {f e b m : Int} {ah : Option Int} {t1 : Tok} {fs : List (Str × Value)} (hz : xs.length ≤ 63) (L : At w g lt (.intl text)) (hn : text.length ≤ 90) (hT : ∀ c ∈ text, okc c) (I : At w g lx (.inst 358 ld)) (D : LogD e ah b m fs) (hm : e + m = f + text.length) :
    CC (cx w) A g [(dk, .intl xs), (ld, .dict fs)] (.call (.ref 543) ⟨[.ref dk, .ref lt, .int f t1, .ref lx], []⟩) (Q_law_changed_ok w dk ld text f e b m ah) := by
  refine' C_def M ["start", "stop", "fresh"] ?ho ?hcd ?hbind ?hok ?hnd ?hloc ?hcell ?hco ?hgen ?hk ?h
  got_up
  intro env E M
  refine XS_gen M fun A2 RR M hRR => ?_
  dsimp only [bsInit, List.map, List.zip, List.zipWith, List.nil_append, List.cons_append, List.append_nil] at *
  obtain ⟨v1, v2, v3, v4, rfl⟩ := D.shape
  kt_ors
  refine F_call (law_draw_ok (M.le (by decide)) g hz (by (first | lia | omega))) (List.Perm.refl _) ?_
  rintro _ g1 _ k1 ⟨z1, tz1, ys1, rfl, ha1, hb1, rfl, hy1⟩
  dsimp only [List.cons_append, List.nil_append]
  kt_ors
  refine F_call (law_draw_ok (M.le (by decide)) g1 hy1 (by decide)) (List.Perm.refl _) ?_
  rintro _ g2 _ k2 ⟨z2, tz2, ys2, rfl, ha2, hb2, rfl, hy2⟩
  dsimp only [List.cons_append, List.nil_append]
  kt_ors
  refine F_call (law_draw_ok (M.le (by decide)) g2 hy2 (by decide)) (List.Perm.refl _) ?_
  rintro _ g3 _ k3 ⟨z3, tz3, ys3, rfl, ha3, hb3, rfl, hy3⟩
  dsimp only [List.cons_append, List.nil_append]
  obtain ⟨n3, rfl⟩ := Int.eq_ofNat_of_zero_le ha3
  obtain ⟨n1, rfl⟩ := Int.eq_ofNat_of_zero_le ha1
  obtain ⟨n2, rfl⟩ := Int.eq_ofNat_of_zero_le ha2
  kt_ors
  refine F_call (law_signs_ok (M.le (by decide)) g3 hy3 (by (first | lia | omega))) (List.Perm.refl _) ?_
  rintro _ g4 _ k4 ⟨fr, ts, ys4, rfl, Fr, hl4, ho4, rfl, hy4⟩
  dsimp only [List.cons_append, List.nil_append]
  kt_ors
  rw [cut_min]
  have hst1 : min text.length (n1 + n2) ≤ text.length := Nat.min_le_left _ _
  have hst2 : n1 ≤ min text.length (n1 + n2) := Nat.le_min.mpr ⟨by (first | lia | omega), Nat.le_add_right _ _⟩
  have hst3 : min text.length (n1 + n2) ≤ n1 + n2 := Nat.min_le_right _ _
  generalize min text.length (n1 + n2) = st at *
  refine F_call (note_ok (M.le (by decide)) g4 (At.mono I (by tb_rel)) D) (List.Perm.swap _ _ _) ?_
  rintro _ g5 _ k5 ⟨rfl, fs5, rfl, D5⟩
  dsimp only [List.cons_append, List.nil_append]
  kt_ors
  refine Or.inr (SlKI.mk (c := cx w) (by tb_start) (by (first | lia | omega)) (by (first | lia | omega)) ?_)
  intro sl
  kt_ors
  refine Or.inr (SlKI.mk (c := cx w) (by tb_start) (by (first | lia | omega)) (by (first | lia | omega)) ?_)
  intro sl2
  kt_ors
  rw [Int.toNat_natCast, Int.toNat_natCast]
  rename_i T6
  have e3 : (text.length : Int) - st = ((text.length - st : Nat) : Int) := (Int.ofNat_sub hst1).symm
  have e4 := cut_len text ts (st := st) (Nat.le_trans hst2 hst1)
  rw [e3] at T6
  have D6 : LogD e (ahOf ah (f + (n1 : Int))) (bOf ah b ((text.length - st : Nat) : Int)) (m + (((text.take n1 ++ ts ++ text.drop st).length : Int) - text.length)) fs5 := by
    rw [cut_rest hst1 hm, cut_more hst1, ← e4] at D5
    cases ah <;> exact D5
  (try refine Out.back hRR ?_)
  refine ⟨[_, _, _, _], [(dk, .intl ys4), (ld, .dict fs5)], List.Perm.cons _ (List.Perm.cons _ (List.Perm.cons _ (List.Perm.cons _ (List.Perm.swap _ _ _)))), by tb_rel, fun g' k h => ⟨ys4, fs5, _, _, _, _, _, n1, text.length - st, rfl, hy4, rfl, T6.mono k, h _ (.head _), ?_, fun c hc => ?_, ?_, D6⟩⟩
  · rw [e4]; (first | lia | omega)
  · rcases List.mem_append.mp hc with hc | hc
    · rcases List.mem_append.mp hc with hc | hc
      · exact hT c (List.mem_of_mem_take hc)
      · exact ho4 c hc
    · exact hT c (List.mem_of_mem_drop hc)
  · exact Rel.one text ts (by (first | lia | omega)) (by (first | lia | omega))
theorem swaps_local {env : Env} {names : List (Str × NameKind)} {cl : List (Str × Addr)} {elt : Expr} {gens : List Comprehension} {scope : Scope} {pos px : Pos} {line : Nat} {x : Str} (E : EnvIs env names cl) (hx : (x, NameKind.local) ∈ names) (hl : (px.line == pos.line) = true) (hn : (scope.names.any fun p => p.1 == x && (p.2 == .local || p.2 == .cell)) = false) :
    swapsWith (.ListComp elt gens scope pos) (some (.Name x px)) line env = pure true := by
  have h1 : env.blockKind = .function := by unfold Env.blockKind; rw [E.kind]; rfl
  show (pure (env.blockKind == .function && env.kindOf x == some .local && px.line == pos.line && !(scope.names.any fun p => p.1 == x && (p.2 == .local || p.2 == .cell))) : Sem Bool) = pure true
  rw [h1, E.kindOf hx, hl, hn]
  rfl
theorem swaps_cell {env : Env} {names : List (Str × NameKind)} {cl : List (Str × Addr)} {elt : Expr} {gens : List Comprehension} {scope : Scope} {pos px : Pos} {line : Nat} {x : Str} (E : EnvIs env names cl) (hx : (x, NameKind.cell) ∈ names) :
    swapsWith (.ListComp elt gens scope pos) (some (.Name x px)) line env = pure false := by
  show (pure (env.blockKind == .function && env.kindOf x == some .local && px.line == pos.line && !(scope.names.any fun p => p.1 == x && (p.2 == .local || p.2 == .cell))) : Sem Bool) = pure false
  rw [E.kindOf hx]
  cases env.blockKind <;> rfl
inductive ReadJ (w : World) (g : Heap) (l : Addr) (rs : List LR) (i : Nat) (σ : SS) : Prop
  | mk : ∀ g' mu' e fd us o1 o2 o3, (σ = ⟨g', [("rows_here", some (.ref l)), ("found", some (.ref fd)), ("row", o1), ("glyphs", o2), ("ends", o3)], mu'⟩) → (mu'.Perm (e ++ [(fd, .list us)])) → (Keeps g g') → (DpAll w g' us ((rs.take i).map rdat)) → ReadJ w g l rs i σ
inductive Q_law_read_ok (w : World) (rs : List LR) (v : Value) (g' : Heap) : Prop
  | mk : ∀ a us, (v = .ref a) → (At w g' a (.list us)) → (DpAll w g' us (rs.map rdat)) → Q_law_read_ok w rs v g'
set_option maxHeartbeats 4000000 in
theorem law_read_ok {w : World} {A : Around} (M : Rm A 2) (g : Heap) {l : Addr} {vs : List Value} {rs : List LR} (L : At w g l (.list vs)) (R : RowsAre w g vs rs) (hz : rs.length ≤ 50) (hg : ∀ r ∈ rs, r.e.gl.length ≤ 100) :
    CC (cx w) A g [] (.call (.ref 531) ⟨[.ref l], []⟩) (fun v g' mu' => mu' = [] ∧ Q_law_read_ok w rs v g') := by
  refine' C_def M ["found", "row", "glyphs", "ends"] ?ho ?hcd ?hbind ?hok ?hnd ?hloc ?hcell ?hco ?hgen ?hk ?h
  got_up
  intro env E M
  refine XS_gen M fun A2 RR M hRR => ?_
  dsimp only [bsInit, List.map, List.zip, List.zipWith, List.nil_append, List.cons_append, List.append_nil] at *
  have hlen := R.len
  kt_ors
  refine' XS_for ?_ ?k9
  case k9 => intro _; rfl
  kt_ors
  refine ⟨vs.length, _, _, ReadJ w g l rs,
    Iter_list M (.inl ⟨_, _, rfl⟩) L, ⟨_, _, [], _, [], _, _, _, rfl, List.Perm.refl _, by tb_rel, .nil⟩, ?_, ?_, ?_⟩
  · rintro i _ ⟨g', mu', e, fd, us, o1, o2, o3, rfl, _, k, _⟩; exact k
  · rintro i g' bs' mu' v g2 hi ⟨g1, mu1, e1, fd, us, o1, o2, o3, e0, hpm, k1, d1⟩ k2 hv
    cases e0
    refine F_seal hpm ?_
    intro g3 k3 _
    have hul := d1.len
    simp only [List.length_map, List.length_take] at hul
    have hir : i < rs.length := by (first | lia | omega)
    obtain ⟨v5, hv5, R5⟩ := (R.mono (h := g3) (by tb_rel)).get (List.getElem?_eq_getElem hir)
    rw [hv] at hv5
    cases hv5
    generalize hr5 : rs[i] = r5 at *
    have hg5 : rs[i]? = some r5 := by rw [List.getElem?_eq_getElem hir, hr5]
    have hgl5 := hg r5 (List.mem_of_getElem? hg5)
    obtain ⟨rx5, rd5, sp5, ep5, gl5, gvs5, tc5, tn5, tmk5, tr5, x1, x2, x3, x4, rfl, R6⟩ := id R5
    obtain ⟨y1, y2, y3, y4, y5, y6⟩ := id R6
    have hy6 := y6.len
    simp only [List.length_map] at hy6
    refine TS_assignName E (by tb_start) ⟨_, by tb_start, ?_⟩
    refine' XS_assignComp (fr := []) (keys := ["code", "face", "place"]) (cn := [(".0", .local), ("code", .local), ("face", .local), ("place", .local)]) M E (by tb_start) (swaps_local E (by tb_start) rfl (by kernel_rfl)) rfl ?k1 ?k2 rfl ?k3 (cNames_eq E rfl) ?k4 ?k5 ?k7 ?k6
    case k1 => kernel_rfl
    case k2 => kernel_rfl
    case k3 => intro q hq; cases hq
    case k4 => decide +kernel
    case k5 => kernel_rfl
    case k6 => intro _; rfl
    dsimp only
    kt_ors
    refine ⟨gvs5.length, _, _, fun j ys g' mu' => mu' = [(fd, .list us)] ∧ Keeps g3 g' ∧ DpAll w g' ys ((r5.e.gl.take j).map gp), Iter_list M (.inr ⟨_, _, _, rfl⟩) (At.mono y5 (by tb_rel)), by (first | lia | omega), ⟨?_, ?_⟩, ⟨rfl, .refl _, .nil⟩, ?_⟩
    · rintro j ys g' mu' ⟨_, k, d⟩
      refine ⟨k, ?_⟩
      have := d.len
      simp only [List.length_map, List.length_take] at this
      (first | lia | omega)
    · rintro env' j ys g4 mu4 v g5 bsC E' hj ⟨rfl, k4, d4⟩ k5 hv hb
      obtain ⟨b1, b2, b3, rfl⟩ := bs3 hb
      obtain ⟨d, hd, dv⟩ := (y6.mono (h := g5) (by tb_rel)).get hv
      rw [List.getElem?_map, Option.map_eq_some_iff] at hd
      obtain ⟨q, hq, rfl⟩ := hd
      obtain ⟨a5, u1, u2, u3, rfl, A5⟩ := dv.tup3
      refine TS_assignTuple M rfl (.inl A5) rfl ?_
      have E2 := E'
      change EnvIs env' _ [] at E2
      kt_ors
      refine ⟨rfl, show _ ∧ _ from ⟨rfl, ite_t ?_⟩⟩
      kt_ors
      refine ⟨rfl, rfl, by tb_rel, ?_⟩
      rw [List.take_add_one, hq]
      simp only [Option.toList, List.map_append, List.map_cons, List.map_nil]
      exact DpAll.app (d4.mono (by tb_rel)) (.cons (.tup (by tb_rel) (.cons (.int _ _) (.cons (.int _ _) .nil))) .nil)
    · rintro D ys g4 mu4 ⟨rfl, k4, d4⟩
      rw [show gvs5.length = r5.e.gl.length by (first | lia | omega), List.take_length] at d4
      kt_ors
      refine ite_df (by simp) ?_
      refine F_seal (e := [_, _, _, _]) (mu' := [(fd, _)]) (List.Perm.refl _) ?_
      intro g6 k6 h6
      kt_ors
      refine ite_df (by simp) ?_
      kt_ors
      refine TS_neD M (.bool r5.e.le) (.bool r5.e.le) (by kernel_rfl) ?_
      rw [show PyData.eqv (.bool r5.e.le) (.bool r5.e.le) = true from by cases r5.e.le <;> rfl]
      kt_ors
      refine ⟨_, _, [], fd, us ++ [_], _, _, _, rfl, List.Perm.refl _, by tb_rel, ?_⟩
      rw [List.take_add_one, hg5]
      simp only [Option.toList, List.map_append, List.map_cons, List.map_nil]
      exact (d1.mono (by tb_rel)).app (.cons (.list (h6 _ (.head _)) (.cons (.int _ _) (.cons (.int _ _) (.cons (.int _ _) (.cons (.int _ _) (.cons (.int _ _) (.cons (.bool _) (.cons (.bool _) (.cons (.int _ _) (.cons (.list (h6 (D, _) (.tail _ (.tail _ (.tail _ (.head _))))) (d4.mono (by tb_rel))) .nil)))))))))) .nil)
  · rintro _ ⟨g1, mu1, e1, fd, us, o1, o2, o3, rfl, hpm, k1, d1⟩
    refine X_seal hpm ?_
    intro g3 k3 _
    kt_ors
    rw [hlen, List.take_length] at d1
    (try refine Out.back hRR ?_)
    exact Out.all (by tb_rel) fun g' k h => ⟨rfl, fd, us, rfl, h _ _ (by tb_start), d1.mono (by tb_rel)⟩
theorem execs_app (env : Env) (l2 : List Stmt) : ∀ l1 : List Stmt, execs (l1 ++ l2) env = (execs l1 env >>= fun f => match f with | .next => execs l2 env | f => pure f)
  | [] => by
    have : execs [] env = pure .next := rfl
    rw [List.nil_append, this, pure_bind]
  | st :: r => by
    rw [List.cons_append, execs_cons, execs_cons, bind_assoc]
    refine bind_congr fun f => ?_
    cases f with
    | next => exact execs_app env l2 r
    | ret v => exact (pure_bind _ _).symm
    | brk => exact (pure_bind _ _).symm
    | cont => exact (pure_bind _ _).symm
theorem XS_cut {c : Cx} {A : Around} {env : Env} {σ : SS} {ss : List Stmt} {N : SS → Prop} {R : Value → SS → Prop} (n : Nat) (N0 : SS → Prop) (H1 : XS c A env σ (ss.take n) N0 R) (H2 : ∀ σ', N0 σ' → XS c A env σ' (ss.drop n) N R) : XS c A env σ ss N R := by
  have e : ss = ss.take n ++ ss.drop n := (List.take_append_drop n ss).symm
  rw [e]
  unfold XS
  rw [execs_app]
  refine TS.bind (TS.mono H1 fun f σ' h => ?_)
  cases f with
  | next => exact H2 σ' h
  | ret v => exact TS.pure h
  | brk => exact h.elim
  | cont => exact h.elim
theorem eqv_two (a b c d : Int) : PyData.eqv (.list [.int a, .int b]) (.list [.int c, .int d]) = decide (a = c ∧ b = d) := by
  simp only [PyData.eqv, PyData.eqvAll, Bool.and_true]
  by_cases h : a = c <;> by_cases h2 : b = d <;> simp [h, h2]
theorem eqv_gp (q r : Int × Int) : PyData.eqv (gp q) (gp r) = decide (q = r) := by
  obtain ⟨a, b⟩ := q
  obtain ⟨c, d⟩ := r
  simp only [gp, PyData.eqv, PyData.eqvAll, Bool.and_true, Prod.mk.injEq]
  by_cases h : a = c <;> by_cases h2 : b = d <;> simp [h, h2]
theorem any_gp (q : Int × Int) : ∀ l : List (Int × Int), ((l.map gp).any fun y => PyData.eqv y (gp q)) = l.contains q
  | [] => rfl
  | r :: l => by
    rw [List.map_cons, List.any_cons, any_gp q l, eqv_gp, List.contains_cons]
    by_cases h : r = q
    · subst h; rw [decide_eq_true rfl, beq_self_eq_true]
    · rw [decide_eq_false h, beq_eq_false_iff_ne.mpr (Ne.symm h)]
theorem movedOf_snoc {ah : Option Int} {eb m : Int} {rs : List LR} {i : Nat} {r : LR} (h : rs[i]? = some r) : movedOf ah eb m (rs.take (i + 1)) = movedOf ah eb m (rs.take i) ++ if tlOf ah eb r = true then [(r.start + m, r.col)] else [] := by
  unfold movedOf
  rw [List.take_add_one, h]
  simp only [Option.toList, List.filter_append, List.map_append, List.filter_cons, List.filter_nil]
  congr 1
  split <;> rfl
theorem freshOf_snoc {mv : List (Int × Int)} {l : List LR} {i : Nat} {r : LR} (h : l[i]? = some r) : freshOf mv (l.take (i + 1)) = freshOf mv (l.take i) + if mv.contains (r.start, r.col) = true then 0 else 1 := by
  rw [List.take_add_one, h, freshOf_app]
  congr 1
  simp only [freshOf, Option.toList, List.countP_singleton]
  cases mv.contains (r.start, r.col) <;> rfl
inductive FreshN (g : Heap) (l1 l2 mk c1 c2 c3 c4 : Addr) (a b e m p col : Int) (t1 t2 t3 t4 : Tok) (rs : List LR) (σ : SS) : Prop
  | mk : ∀ g' mu' ee tk, (σ = ⟨g', [("elder", some (.ref l1)), ("later", some (.ref l2)), ("marks", some (.ref mk)), ("ahead", some (.int a t1)), ("kept", some (.int (keptOf (some a) p col rs : Nat) tk))], mu'⟩) → (mu'.Perm (ee ++ [(c1, .cell none), (c2, .cell (some (.int m t4))), (c3, .cell (some (.int e t3))), (c4, .cell (some (.int b t2)))])) → (Keeps g g') → FreshN g l1 l2 mk c1 c2 c3 c4 a b e m p col t1 t2 t3 t4 rs σ
inductive Q_law_fresh_ok (rs : List LR) (later : List LR) (a : Int) (b : Int) (e : Int) (m : Int) (p : Int) (col : Int) (v : Value) (g' : Heap) : Prop
  | mk : ∀ t, (v = .int (freshOf (movedOf (some a) (e - b) m rs) (later.drop (keptOf (some a) p col rs))) t) → Q_law_fresh_ok rs later a b e m p col v g'
set_option maxHeartbeats 4000000 in
theorem law_fresh_ok {w : World} {A : Around} (M : Rm A 2) (g : Heap) {l1 l2 mk : Addr} {vs1 vs2 : List Value} {rs later : List LR} {r0 : LR} {a b e m p col : Int} {t1 t2 t3 t4 : Tok} (L1 : At w g l1 (.list vs1)) (D1 : DpAll w g vs1 (rs.map rdat)) (L2 : At w g l2 (.list vs2)) (D2 : DpAll w g vs2 (later.map rdat)) (hz : rs.length ≤ 50) (hz2 : later.length ≤ 50)
    (h0 : later[0]? = some r0) (hp : r0.start = p) (hc : r0.col = col) (K : At w g mk (.tup [.int a t1, .int b t2, .int e t3, .int m t4])) :
    CC (cx w) A g [] (.call (.ref 536) ⟨[.ref l1, .ref l2, .ref mk], []⟩) (fun v g' mu' => mu' = [] ∧ Q_law_fresh_ok rs later a b e m p col v g') := by
  refine' C_defC M ["ahead", "kept"] ["moved", "by", "end", "behind"] [("elder", .ref l1), ("later", .ref l2), ("marks", .ref mk)] [] [none, none, none, none] ?ho ?hcd ?hbind ?hok ?hlb ?hcb ?hnd ?hcn ?hcnd ?hcv ?hkd ?hco ?hgen ?hk ?h
  (case ho => k_is); (case hcd => k_is); (case hbind => exact fun s _ => BindsTo.of_eq rfl); (case hok => decide +kernel); (case hlb => exact rfl); (case hcb => exact rfl); (case hnd => kernel_rfl); (case hcn => exact rfl); (case hcnd => kernel_rfl); (case hcv => exact rfl); (case hkd => kernel_rfl); (case hco => exact rfl); (case hgen => exact rfl); (case hk => exact rfl)
  intro env as hl E M
  obtain ⟨c1, c2, c3, c4, rfl⟩ : ∃ a b c d, as = [a, b, c, d] := by match as, hl with | [a, b, c, d], _ => exact ⟨a, b, c, d, rfl⟩
  refine XS_gen M fun A2 RR M hRR => ?_
  dsimp only [bsInit, List.map, List.zip, List.zipWith, List.nil_append, List.cons_append, List.append_nil] at *
  have hl1 := D1.len
  have hl2 := D2.len
  simp only [List.length_map] at hl1 hl2
  refine XS_cut 3 (FreshN g l1 l2 mk c1 c2 c3 c4 a b e m p col t1 t2 t3 t4 rs) ?_ ?_
  · dsimp only [List.take]
    kt_ors
    refine ite_d (fun hne => ?_) (fun hne => ?_)
    · cases rs with
      | nil => exact absurd hl1.symm hne
      | cons r rs =>
        cases D1 with
        | @cons v1 vs1 _ _ d1 D1 =>
          obtain ⟨ra, s1, s2, s3, s4, s5, sm, gv, rfl, R1, R2⟩ := d1.row
          obtain ⟨v2, hv2, d2⟩ := D2.get' (k := 0) (d := rdat r0) (by rw [List.getElem?_map, h0]; rfl)
          obtain ⟨rb, y1, y2, y3, y4, y5, ym, gv2, rfl, Q1, Q2⟩ := d2.row
          kt_ors
          refine F_item (k := 0) (by tb_start) (by decide) (by decide) rfl ?_
          kt_ors
          refine Or.inl (SlK.mk (c := cx w) (by tb_start) (by decide) (by simp) ?_)
          intro sl1
          kt_ors
          refine F_item (k := 0) (by tb_start) (by decide) (by decide) (by simpa using hv2) ?_
          kt_ors
          refine Or.inl (SlK.mk (c := cx w) (by tb_start) (by decide) (by simp) ?_)
          intro sl2
          kt_ors
          refine F_seal (e := [_, _, _]) (mu' := [(c1, .cell none), (c2, .cell (some (.int m t4))), (c3, .cell (some (.int e t3))), (c4, .cell (some (.int b t2)))]) (List.Perm.refl _) ?_
          intro g5 k5 h5
          refine TS_eqD M (.list (h5 (sl1, _) (.tail _ (.head _))) (.cons (.int _ _) (.cons (.int _ _) .nil))) (.list (h5 (sl2, _) (.head _)) (.cons (.int _ _) (.cons (.int _ _) .nil))) (by kernel_rfl) ?_
          rw [eqv_two]
          have D0 : DpAll w g (.ref ra :: vs1) ((r :: rs).map rdat) := .cons (.list R1 (.cons (.int _ _) (.cons (.int _ _) (.cons (.int _ _) (.cons (.int _ _) (.cons (.int _ _) (.cons (.bool _) (.cons (.bool _) (.cons (.int _ _) (.cons R2 .nil)))))))))) D1
          kt_ors
          refine ite_d (fun h23 => ?_) (fun h23 => ?_)
          · have hK : keptOf (some a) p col (r :: rs) = ((r :: rs).takeWhile fun r => decide (r.e.reach ≤ a)).length := keptOf_some (by (first | lia | omega))
            generalize hrs : r :: rs = rr at *
            generalize hvs : Value.ref ra :: vs1 = vv at *
            kt_ors
            refine XS_whileG (fun k σ => ∃ g' n tn, σ = ⟨g', [("elder", some (.ref l1)), ("later", some (.ref l2)), ("marks", some (.ref mk)), ("ahead", some (.int a t1)), ("kept", some (.int (n : Nat) tn))], [(c1, .cell none), (c2, .cell (some (.int m t4))), (c3, .cell (some (.int e t3))), (c4, .cell (some (.int b t2)))]⟩ ∧ Keeps g g' ∧ n ≤ (rr.takeWhile fun r => decide (r.e.reach ≤ a)).length ∧ k = rr.length - n)
              rr.length ⟨g5, 0, _, rfl, by tb_rel, Nat.zero_le _, rfl⟩ ?_
            rintro k _ NN hNN ⟨g6, n, tn6, rfl, k6, hn, rfl⟩
            obtain ⟨w1, w2, w3⟩ := tw_step (fun r => decide (r.e.reach ≤ a)) rr n hn
            have hle := tw_le (fun r : LR => decide (r.e.reach ≤ a)) rr
            kt_ors
            refine ite_d (fun h5 => ?_) (fun h5 => ?_)
            · have hnl : n < rr.length := by (first | lia | omega)
              obtain ⟨v5, hv5, R5⟩ := D0.get' (k := n) (d := rdat rr[n]) (by rw [List.getElem?_map, List.getElem?_eq_getElem hnl]; rfl)
              generalize hr5 : rr[n] = r5' at *
              have hg5 : rr[n]? = some r5' := by rw [List.getElem?_eq_getElem hnl, hr5]
              obtain ⟨rc, z1, z2, z3, z4, z5, zm, gv5, rfl, S1, S2⟩ := R5.row
              kt_ors
              refine F_item (x := .ref rc) (by tb_start) (by (first | lia | omega)) (by (first | lia | omega)) (by simpa using hv5) ?_
              kt_ors
              refine F_item (k := 4) (by tb_start) (by decide) (by decide) rfl ?_
              kt_ors
              refine ite_d (fun h6 => ?_) (fun h6 => ?_)
              · kt_ors
                have := w1 _ hg5 (by simpa using h6)
                exact ⟨rr.length - (n + 1), by (first | lia | omega), g6, n + 1, _, rfl, k6, this, rfl⟩
              · kt_ors
                have := w3 _ hg5 (by simpa using h6)
                exact ⟨g6, _, [], _, by rw [hK, ← this]; rfl, List.Perm.refl _, by tb_rel⟩
            · kt_ors
              have := w2 (List.getElem?_eq_none (by (first | lia | omega)))
              exact ⟨g6, _, [], _, by rw [hK, ← this]; rfl, List.Perm.refl _, by tb_rel⟩
          · kt_ors
            exact ⟨g5, _, [], _, by rw [keptOf_ne (by (first | lia | omega))]; rfl, List.Perm.refl _, by tb_rel⟩
    · have hrs : rs = [] := by
        rw [← List.length_eq_zero_iff]; (first | lia | omega)
      subst hrs
      kt_ors
      exact ⟨_, _, [_], _, rfl, List.Perm.refl _, by tb_rel⟩
  · rintro _ ⟨g1, mu1, ee, tk, rfl, hpm, k1⟩
    refine X_seal hpm ?_
    intro g2 k2 _
    dsimp only [List.drop]
    have hKl := keptOf_le (some a) p col rs
    generalize hK : keptOf (some a) p col rs = kk at *
    refine F_asgCell E (by tb_start) (by tb_start) (of_decide_eq_true (by kernel_rfl)) ?_ (swaps_cell E (by tb_start))
    refine' TS_comp (fr := [("behind", c4), ("by", c2), ("end", c3)]) (keys := ["own"]) (cn := [(".0", .local), ("own", .local), ("behind", .cell), ("by", .cell), ("end", .cell)]) M E rfl ?k1 ?k2 rfl ?k3 (cNames_eq E rfl) ?k4 ?k5 ?k7 ?k6
    case k1 => kernel_rfl
    case k2 => kernel_rfl
    case k3 => intro q hq; simp only [List.mem_cons, List.not_mem_nil, or_false] at hq; rcases hq with hq | hq | hq <;> (subst hq; exact rfl)
    case k4 => decide +kernel
    case k5 => kernel_rfl
    case k6 => intro _; rfl
    kt_ors
    refine ⟨vs1.length, _, _, fun i ys g' mu' => mu' = [(c1, .cell none), (c2, .cell (some (.int m t4))), (c3, .cell (some (.int e t3))), (c4, .cell (some (.int b t2)))] ∧ Keeps g2 g' ∧ DpAll w g' ys ((movedOf (some a) (e - b) m (rs.take i)).map gp) ∧ (movedOf (some a) (e - b) m (rs.take i)).length ≤ i, Iter_list M (.inl ⟨_, _, rfl⟩) (At.mono L1 (by tb_rel)), by (first | lia | omega), ⟨?_, ?_⟩, ⟨rfl, .refl _, .nil, by simp [movedOf]⟩, ?_⟩
    · rintro i ys g' mu' ⟨_, k, d, hl⟩
      refine ⟨k, ?_⟩
      have := d.len
      simp only [List.length_map] at this
      (first | lia | omega)
    · rintro env' i ys g4 mu4 v g5 bsC E' hi ⟨rfl, k4, d4, hl4⟩ k5 hv hb
      obtain ⟨b1, rfl⟩ := bs1 hb
      have hir : i < rs.length := by (first | lia | omega)
      obtain ⟨v5, hv5, R5⟩ := D1.get' (k := i) (d := rdat rs[i]) (by rw [List.getElem?_map, List.getElem?_eq_getElem hir]; rfl)
      rw [hv] at hv5
      cases hv5
      have hg5 : rs[i]? = some rs[i] := List.getElem?_eq_getElem hir
      generalize rs[i] = r5 at *
      obtain ⟨rc, z1, z2, z3, z4, z5, zm, gv5, rfl, S1, S2⟩ := R5.row
      have hsn := movedOf_snoc (ah := some a) (eb := e - b) (m := m) hg5
      have E2 := E'
      change EnvIs env' _ [("end", c3), ("by", c2), ("behind", c4)] at E2
      refine TS_assignName E2 (by tb_start) ⟨_, by tb_start, ?_⟩
      refine ⟨rfl, ?_⟩
      dsimp only
      change TS _ _ _ _ _ _
      kt_ors
      refine F_item (k := 0) (by tb_start) (by decide) (by decide) rfl ?_
      kt_ors
      refine ⟨rfl, ite_d (fun ht => ?_) (fun ht => ?_)⟩
      · rw [if_pos (by simpa [tlOf] using ht)] at hsn
        kt_ors
        refine F_item (k := 0) (by tb_start) (by decide) (by decide) rfl ?_
        kt_ors
        refine F_item (k := 1) (by tb_start) (by decide) (by decide) rfl ?_
        kt_ors
        refine ⟨rfl, rfl, by tb_rel, ?_, ?_⟩
        · rw [hsn, List.map_append]
          exact DpAll.app (d4.mono (by tb_rel)) (.cons (.tup (by tb_rel) (.cons (.int _ _) (.cons (.int _ _) .nil))) .nil)
        · rw [hsn, List.length_append]; simp; (first | lia | omega)
      · rw [if_neg (by simpa [tlOf] using ht), List.append_nil] at hsn
        exact ⟨rfl, by tb_rel, by rw [hsn]; exact d4.mono (by tb_rel), by rw [hsn]; (first | lia | omega)⟩
    · rintro D ys g4 mu4 ⟨rfl, k4, d4, hl4⟩
      rw [hl1.symm, List.take_length] at d4
      kt_ors
      refine F_seal1 ?_
      intro g5 k5 DA
      generalize hmv : movedOf (some a) (e - b) m rs = mv at *
      refine' TS_comp (fr := [("moved", c1)]) (keys := ["own"]) (cn := [(".0", .local), ("own", .local), ("moved", .cell)]) M E rfl ?m1 ?m2 rfl ?m3 (cNames_eq E rfl) ?m4 ?m5 ?m7 ?m6
      case m1 => kernel_rfl
      case m2 => kernel_rfl
      case m3 => intro q hq; simp only [List.mem_cons, List.not_mem_nil, or_false] at hq; subst hq; exact rfl
      case m4 => decide +kernel
      case m5 => kernel_rfl
      case m6 => intro _; rfl
      refine TS_post ?_
      dsimp only
      kt_ors
      refine Or.inl (SlK.mk (c := cx w) (vs := vs2) (by tb_start) (by (first | lia | omega)) (by (first | lia | omega)) ?_)
      intro sl
      (try refine Out.back hRR ?_)
      refine ⟨[_], [(c1, .cell (some (.ref D))), (c2, .cell (some (.int m t4))), (c3, .cell (some (.int e t3))), (c4, .cell (some (.int b t2)))], List.Perm.refl _, ?_⟩
      intro g6 k6 h6
      rw [Int.toNat_natCast] at h6
      have LA : At w g6 sl (.list (vs2.drop kk)) := h6 _ (.head _)
      refine ⟨(vs2.drop kk).length, _, _, fun i ys g' mu' => mu' = [(c1, .cell (some (.ref D))), (c2, .cell (some (.int m t4))), (c3, .cell (some (.int e t3))), (c4, .cell (some (.int b t2)))] ∧ Keeps g6 g' ∧ ys.length = freshOf mv ((later.drop kk).take i) ∧ ys.length ≤ i, Iter_list M (.inl ⟨_, _, rfl⟩) LA, by rw [List.length_drop]; (first | lia | omega), ⟨?_, ?_⟩, ⟨rfl, .refl _, by simp [freshOf], by simp⟩, ?_⟩
      · rintro i ys g' mu' ⟨_, k, d, hl⟩
        exact ⟨k, hl⟩
      · rintro env' i ys g7 mu7 v g8 bsC E' hi ⟨rfl, k7, d7, hl7⟩ k8 hv hb
        obtain ⟨b1, rfl⟩ := bs1 hb
        rw [List.length_drop] at hi
        have hir : kk + i < later.length := by (first | lia | omega)
        rw [List.getElem?_drop] at hv
        obtain ⟨v5, hv5, R5⟩ := D2.get' (k := kk + i) (d := rdat later[kk + i]) (by rw [List.getElem?_map, List.getElem?_eq_getElem hir]; rfl)
        rw [hv] at hv5
        cases hv5
        have hg5 : (later.drop kk)[i]? = some later[kk + i] := by rw [List.getElem?_drop]; exact List.getElem?_eq_getElem hir
        generalize later[kk + i] = r5 at *
        obtain ⟨rc, z1, z2, z3, z4, z5, zm, gv5, rfl, S1, S2⟩ := R5.row
        have hsn := freshOf_snoc (mv := mv) hg5
        have E2 := E'
        change EnvIs env' _ [("moved", c1)] at E2
        refine TS_assignName E2 (by tb_start) ⟨_, by tb_start, ?_⟩
        refine ⟨rfl, ?_⟩
        dsimp only
        change TS _ _ _ _ _ _
        kt_ors
        refine F_item (k := 0) (by tb_start) (by decide) (by decide) rfl ?_
        kt_ors
        refine F_item (k := 1) (by tb_start) (by decide) (by decide) rfl ?_
        kt_ors
        refine TS_notInD M (d := gp (r5.start, r5.col)) (ds := mv.map gp) (.tup (by assumption) (.cons (.int _ _) (.cons (.int _ _) .nil))) (.list (At.mono DA (by tb_rel)) (d4.mono (by tb_rel))) (by kernel_rfl) ?_
        rw [any_gp]
        cases hct : mv.contains (r5.start, r5.col) with
        | true =>
          rw [hct, if_pos rfl, Nat.add_zero] at hsn
          kt_ors
          refine ⟨rfl, ?_⟩
          kt_ors
          exact ⟨rfl, by tb_rel, by rw [hsn]; exact d7, by (first | lia | omega)⟩
        | false =>
          rw [hct, if_neg (by simp)] at hsn
          kt_ors
          refine ⟨rfl, ?_⟩
          kt_ors
          exact ⟨rfl, rfl, by tb_rel, by rw [hsn, List.length_append]; simp [d7], by simp; (first | lia | omega)⟩
      · rintro D2 ys2 g7 mu7 ⟨rfl, k7, d7, hl7⟩
        rw [List.take_of_length_le (by rw [List.length_drop, List.length_drop]; (first | lia | omega))] at d7
        kt_ors
        subst hmv hK
        (try refine Out.back hRR ?_)
        exact Out.all (by tb_rel) fun g' k h => ⟨rfl, _, by rw [← d7]⟩
theorem depth_gps : ∀ l : List (Int × Int), PyData.depthAll (l.map gp) ≤ 2
  | [] => by simp [PyData.depthAll]
  | q :: l => by
    have := depth_gps l
    simp only [List.map_cons, PyData.depthAll, gp, PyData.depth]
    (first | lia | omega)
theorem depth_rdat (r : LR) : (rdat r).depth ≤ 5 := by
  have := depth_gps r.e.gl
  simp only [rdat, PyData.depthAll, PyData.depth]
  (first | lia | omega)
theorem depth_rdats : ∀ l : List LR, PyData.depthAll (l.map rdat) ≤ 5
  | [] => by simp [PyData.depthAll]
  | r :: l => by
    have := depth_rdats l
    have := depth_rdat r
    simp only [List.map_cons, PyData.depthAll]
    (first | lia | omega)
theorem depth_list (l : List LR) : (PyData.list (l.map rdat)).depth ≤ 6 := by
  have := depth_rdats l
  simp only [PyData.depth]
  (first | lia | omega)
theorem eqv_gps : ∀ l : List (Int × Int), PyData.eqvAll (l.map gp) (l.map gp) = true
  | [] => rfl
  | q :: l => by simp only [List.map_cons, PyData.eqvAll, eqv_gp, eqv_gps l, decide_true, Bool.and_self]
theorem eqv_rdat (r : LR) : PyData.eqv (rdat r) (rdat r) = true := by
  simp only [rdat, PyData.eqv, PyData.eqvAll, eqv_gps, beq_self_eq_true, Bool.and_self]
theorem eqv_rdats : ∀ l : List LR, PyData.eqvAll (l.map rdat) (l.map rdat) = true
  | [] => rfl
  | r :: l => by simp only [List.map_cons, PyData.eqvAll, eqv_rdat, eqv_rdats l, Bool.and_self]
theorem eqv_list (l : List LR) : PyData.eqv (.list (l.map rdat)) (.list (l.map rdat)) = true := by
  simp only [PyData.eqv, eqv_rdats]
theorem TS_neRows {c : Cx} {A : Around} {env : Env} {g : Heap} {bs : List (Str × Option Value)} {mu : List (Addr × Sp)} {l1 l2 : Addr} {vs1 vs2 : List Value} {rs : List LR} {m : Nat} {P : Value → SS → Prop} (M : Rm A (m + 1)) (L1 : At c.w g l1 (.list vs1)) (D1 : DpAll c.w g vs1 (rs.map rdat)) (L2 : At c.w g l2 (.list vs2)) (D2 : DpAll c.w g vs2 (rs.map rdat)) (p : P (.bool false) ⟨g, bs, mu⟩) :
    TS c A env ⟨g, bs, mu⟩ (compareOp .NotEq (.ref l1) (.ref l2)) P := by
  have h := depth_list rs
  refine TS_neD M (.list L1 D1) (.list L2 D2) (decide_eq_true (by (first | lia | omega))) ?_
  rw [eqv_list]
  exact p
theorem F_pick2 {c : Cx} {A : Around} {env : Env} {g : Heap} {bs : List (Str × Option Value)} {mu : List (Addr × Sp)} {value slice : Expr} {l : Addr} {t1 t2 : Tok} {z : Int} {t : Tok} {P : Value → SS → Prop}
    (Rl : RdF c.w g mu l (.list [.int 1 t1, .int 4 t2])) (h0 : 0 ≤ z) (h1 : z < 2) (p : ∀ x u, (x = 1 ∨ x = 4) → P (.int x u) ⟨g, bs, mu⟩)
    (hs : subscripted slice false (.ref l) (.int z t) = operate [.ref l, .int z t] (getItem (.ref l) (.int z t)) := by with_unfolding_all rfl) : TS c A env ⟨g, bs, mu⟩ (subscriptTail value slice (.ref l) (.int z t)) P := by
  have : z = 0 ∨ z = 1 := by (first | lia | omega)
  rcases this with rfl | rfl
  · exact F_item Rl h0 (by (first | lia | omega)) rfl (p 1 _ (.inl rfl)) hs
  · exact F_item Rl h0 (by (first | lia | omega)) rfl (p 4 _ (.inr rfl)) hs
theorem fresh_all (l : List LR) : freshOf [] l = l.length := by
  unfold freshOf
  simp
theorem movedOf_nil (ah : Option Int) (eb m : Int) : movedOf ah eb m [] = [] := rfl
def MinOf (ss : List Int) (x : Int) : Prop := ss = [x] ∨ ∃ a b, ss = [a, b] ∧ x = min a b
theorem TS_minOf {c : Cx} {A : Around} {env : Env} {g : Heap} {bs : List (Str × Option Value)} {mu : List (Addr × Sp)} {l : Addr} {ss : List Int} {x : Int} {m : Nat} {P : Value → SS → Prop} (M : Rm A m) (hl : RdF c.w g mu l (.intl ss)) (h : MinOf ss x) (p : ∀ z, P (.int x z) ⟨g, bs, mu⟩) : TS c A env ⟨g, bs, mu⟩ (call (.builtin "min") [.ref l]) P := by
  rcases h with rfl | ⟨a, b, rfl, rfl⟩
  · exact TS_min1 M hl p
  · exact TS_min2 M hl p
/-- the changes of a round so far: where they begin, what stands behind them -/
def ChSt (f : Int) (t0 t1 : List Int) (j : Nat) (ss tt : List Int) (ah : Option Int) (b : Int) : Prop :=
  (j = 0 ∧ ss = [] ∧ tt = [] ∧ t1 = t0 ∧ ah = none ∧ b = 0) ∨
  (∃ a1 b1 : Nat, j = 1 ∧ ss = [f + a1] ∧ tt = [(b1 : Int)] ∧ ah = some (f + a1) ∧ b = b1 ∧ Rel t0 t1 a1 b1) ∨
  (∃ a1 b1 a2 b2 : Nat, j = 2 ∧ ss = [f + a1, f + a2] ∧ tt = [(b1 : Int), (b2 : Int)] ∧ ah = some (min (f + a1) (f + a2)) ∧ b = min (b1 : Int) b2 ∧ Rel t0 t1 (min a1 a2) (min b1 b2))
theorem ChSt.step {f : Int} {t0 t1 t2 : List Int} {j : Nat} {ss tt : List Int} {ah : Option Int} {b : Int} {s tl : Nat} (C : ChSt f t0 t1 j ss tt ah b) (R : Rel t1 t2 s tl) (hj : j < 2) : ChSt f t0 t2 (j + 1) (ss ++ [f + s]) (tt ++ [(tl : Int)]) (ahOf ah (f + s)) (bOf ah b tl) := by
  rcases C with ⟨rfl, rfl, rfl, rfl, rfl, rfl⟩ | ⟨a1, b1, rfl, rfl, rfl, rfl, rfl, R1⟩ | ⟨a1, b1, a2, b2, rfl, _⟩
  · exact .inr (.inl ⟨s, tl, rfl, rfl, rfl, rfl, rfl, R⟩)
  · exact .inr (.inr ⟨a1, b1, s, tl, rfl, rfl, rfl, rfl, rfl, (R1.less (Nat.min_le_left _ _) (Nat.min_le_left _ _)).trans (R.less (Nat.min_le_right _ _) (Nat.min_le_right _ _))⟩)
  · (first | lia | omega)
theorem ChSt.done {f : Int} {t0 t1 : List Int} {j : Nat} {ss tt : List Int} {ah : Option Int} {b : Int} (C : ChSt f t0 t1 j ss tt ah b) (hj : 1 ≤ j) : ∃ a1 b1 : Nat, MinOf ss (f + a1) ∧ MinOf tt b1 ∧ ah = some (f + a1) ∧ b = b1 ∧ Rel t0 t1 a1 b1 := by
  rcases C with ⟨rfl, _⟩ | ⟨a1, b1, rfl, rfl, rfl, rfl, rfl, R1⟩ | ⟨a1, b1, a2, b2, rfl, rfl, rfl, rfl, rfl, R1⟩
  · (first | lia | omega)
  · exact ⟨a1, b1, .inl rfl, .inl rfl, rfl, rfl, R1⟩
  · refine ⟨min a1 a2, min b1 b2, .inr ⟨_, _, rfl, by (first | lia | omega)⟩, .inr ⟨_, _, rfl, by (first | lia | omega)⟩, by congr 1; (first | lia | omega), by (first | lia | omega), R1⟩
theorem rowsGo_head (room f : Int) (t : List Int) {n : Nat} (p col : Int) (h : 1 ≤ n) : (rowsGo room t f n p col)[0]? = some (lrow room t f p col) := by
  cases n with
  | zero => (first | lia | omega)
  | succ n => rw [rowsGo]; rfl
theorem same_ok (room f : Int) (t : List Int) (n : Nat) (p0 : Int) (h1 : f ≤ p0) (h2 : p0 ≤ f + t.length) (o : Option Int) (eb : Int) : ∀ r ∈ rowsGo room t f n p0 0, tlOf o eb r = true → shiftR r 0 = lrow room t f (r.start + 0) r.col := by
  intro r hr _
  obtain ⟨c1, _⟩ := rowsGo_mem n p0 0 h1 h2 (Int.le_refl _) r hr
  rw [shiftR_zero, Int.add_zero]
  exact c1
theorem fresh_none_left (mv : List (Int × Int)) (room f : Int) (t : List Int) (n : Nat) (p : Int) : freshOf mv ((rowsGo room t f n p 0).drop (keptOf none p 0 (rowsGo room t f n p 0))) = 0 := by
  rw [keptOf_all, List.drop_length]; rfl
theorem take_same {α : Type} {xs ys : List α} {k : Nat} (h : xs.take k = ys.take k) (h1 : xs.length = k) (h2 : ys.length = k) : xs = ys := by
  rwa [List.take_of_length_le (by (first | lia | omega)), List.take_of_length_le (by (first | lia | omega))] at h
structure Dims (f wd : Int) (ht : Nat) : Prop where
  f1 : 1 ≤ f
  w1 : 3 ≤ wd
  w2 : wd ≤ 6
  h1 : 1 ≤ ht
  h2 : ht ≤ 6
  r2 : 2 ≤ wd - 1
  r5 : wd - 1 ≤ 5
  r0 : 0 ≤ wd - 1
  r9 : wd - 1 ≤ 100
theorem Dims.of {f wd : Int} {ht : Nat} (hf : f = 1 ∨ f = 4) (w1 : 3 ≤ wd) (w2 : wd ≤ 6) (h1 : 1 ≤ ht) (h2 : ht ≤ 6) : Dims f wd ht :=
  ⟨by (first | lia | omega), w1, w2, h1, h2, by (first | lia | omega), by (first | lia | omega), by (first | lia | omega), by (first | lia | omega)⟩
theorem rowsGo_50 {room f p col : Int} {t : List Int} {n : Nat} (h : n ≤ 6) : (rowsGo room t f n p col).length ≤ 50 := by
  have := rowsGo_len room t f n p col
  (first | lia | omega)
theorem X_recast {c : Cx} {A : Around} {env : Env} {g : Heap} {bs : List (Str × Option Value)} {mu : List (Addr × Sp)} {a : Addr} {sp sp' : Sp} {ss : List Stmt} {N : SS → Prop} {R : Value → SS → Prop} (hi : ∀ o, sp.ok c.w o → sp'.ok c.w o) (H : XS c A env ⟨g, bs, (a, sp') :: mu⟩ ss N R) : XS c A env ⟨g, bs, (a, sp) :: mu⟩ ss N R :=
  TS_recast hi Upd1.head H
theorem TS_sliceScript {c : Cx} {A : Around} {env : Env} {value hi : Expr} {p pos : Pos} {P : Value → SS → Prop} {σ : SS} {g0 : Heap} {l : Addr} {vs : List Value} {xs : List Int} (hl : g0.IsList l vs.toArray) (i : IntsAre vs xs) (hz : xs.length ≤ 1000)
    (H : TS c A env σ (eval value env) fun o σ1 => TS c A env σ1 (eval hi env) fun v σ2 => ∃ n t, o = .ref l ∧ v = .int n t ∧ 0 ≤ n ∧ Keeps g0 σ2.g ∧ ∀ a, P (.ref a) ⟨σ2.g, σ2.bs, (a, .intl (xs.take n.toNat)) :: σ2.mu⟩) :
    TS c A env σ (eval (.Subscript value (.Slice none (some hi) none p) pos) env) P :=
  TS.of fun rs s G => Subscript_ (H.run G fun o s1 σ1 G1 H1 q1 => wpAny_Slice (wpAny_evalPart_none (wpAny_evalPart_some (H1.run G1 fun v s2 σ2 G2 K q2 => wpAny_evalPart_none (by
    obtain ⟨n, t, rfl, rfl, h0, kk, k⟩ := K
    have hl2 : s2.heap.IsList l vs.toArray := by
      obtain ⟨o, e, r⟩ := hl
      exact ⟨o, G2.keep _ _ (kk _ _ e), r⟩
    refine slice_core (out := vs.take n.toNat) (sp := .intl (xs.take n.toNat)) G2 hl2 (by rw [ints_len i]; exact hz) .none (.int n t) ?_ ⟨_, 0, rfl, ints_take i _⟩ fun a s3 G3 q3 => ⟨⟨_, G3, k a⟩, (q1.trans q2).trans q3⟩
    have := slicePick_upto' vs.toArray n.toNat
    rw [Int.toNat_of_nonneg h0] at this
    exact this)))))
structure LawSt (w : World) (g : Heap) (f wd : Int) (ht : Nat) (lt y ox : Addr) (a0 : Int) (du lx ld ax : Addr) (fs : List (Str × Value)) (text : List Int) : Prop where
  dm : Dims f wd ht
  L : At w g lt (.intl text)
  ok : ∀ c ∈ text, okc c
  T : ∃ yd a b c, TabAt w g y yd a b c
  O : ∃ od t u, OptAt w g ox od t u
  p0 : 0 ≤ a0
  p1 : a0 ≤ text.length
  D : ∃ vs, At w g du (.list vs) ∧ DpAll w g vs ((rowsGo (wd - 1) text f ht (f + a0) 0).map rdat)
  I : At w g lx (.inst 358 ld)
  G : LogD (f + text.length) none 0 0 fs
  S : ∃ ad l2 vs2 fv, At w g ax (.inst 379 ad) ∧ At w g ad (.dict [("rows", .ref l2), ("fresh", fv)]) ∧ At w g l2 (.list vs2) ∧ RowsAre w g vs2 (rowsGo (wd - 1) text f ht (f + a0) 0)
theorem LawSt.mono {w : World} {g h : Heap} {f wd : Int} {ht : Nat} {lt y ox : Addr} {a0 : Int} {du lx ld ax : Addr} {fs : List (Str × Value)} {text : List Int} (x : LawSt w g f wd ht lt y ox a0 du lx ld ax fs text) (k : Keeps g h) : LawSt w h f wd ht lt y ox a0 du lx ld ax fs text := by
  obtain ⟨dm, L, ok, ⟨yd, a, b, c, T⟩, ⟨od, t, u, O⟩, p0, p1, ⟨vs, D1, D2⟩, I, G, ⟨ad, l2, vs2, fv, S1, S2, S3, S4⟩⟩ := x
  exact ⟨dm, L.mono k, ok, ⟨yd, a, b, c, T.mono k⟩, ⟨od, t, u, O.mono k⟩, p0, p1, ⟨vs, D1.mono k, D2.mono k⟩, I.mono k, G, ⟨ad, l2, vs2, fv, S1.mono k, S2.mono k, S3.mono k, S4.mono k⟩⟩
inductive lawN0 (w : World) (g : Heap) (sl : Addr) (σ : SS) : Prop
  | mk : ∀ g' mu' ee dk tf tw th lt y ox a0 ta du lx ld ax fs, ∀ (xs text : List Int) (f wd : Int) (ht : Nat), ∀ o1 o2 o3 o4 o5 o6 o7 o8 o9 o10 o11 o12 o13, (σ = ⟨g', [("script", some (.ref sl)), ("deck", some (.ref dk)), ("first", some (.int f tf)), ("width", some (.int wd tw)), ("height", some (.int (ht : Nat) th)), ("text", some (.ref lt)), ("faces", some (.ref y)), ("options", some (.ref ox)), ("at", some (.int a0 ta)), ("due", some (.ref du)), ("log", some (.ref lx)), ("shown", some (.ref ax)), ("lap", o1), ("end", o2), ("starts", o3), ("tails", o4), ("grown", o5), ("nth", o6), ("start", o7), ("tail", o8), ("place", o9), ("view", o10), ("later", o11), ("many", o12), ("again_here", o13)], mu'⟩) → (mu'.Perm (ee ++ [(dk, .intl xs), (ld, .dict fs)])) → (Keeps g g') → (xs.length ≤ 63) → (LawSt w g' f wd ht lt y ox a0 du lx ld ax fs text) → (text.length ≤ 25) → lawN0 w g sl σ
inductive lawJ1 (w : World) (g4 : Heap) (sl dk : Addr) (tf tw th : Tok) (y ox : Addr) (f wd : Int) (ht : Nat) (i : Nat) (σ : SS) : Prop
  | mk : ∀ g' mu' ee lt a0 ta du lx ld ax fs, ∀ (xs text : List Int), ∀ o1 o2 o3 o4 o5 o6 o7 o8 o9 o10 o11 o12 o13, (σ = ⟨g', [("script", some (.ref sl)), ("deck", some (.ref dk)), ("first", some (.int f tf)), ("width", some (.int wd tw)), ("height", some (.int (ht : Nat) th)), ("text", some (.ref lt)), ("faces", some (.ref y)), ("options", some (.ref ox)), ("at", some (.int a0 ta)), ("due", some (.ref du)), ("log", some (.ref lx)), ("shown", some (.ref ax)), ("lap", o1), ("end", o2), ("starts", o3), ("tails", o4), ("grown", o5), ("nth", o6), ("start", o7), ("tail", o8), ("place", o9), ("view", o10), ("later", o11), ("many", o12), ("again_here", o13)], mu'⟩) → (mu'.Perm (ee ++ [(dk, .intl xs), (ld, .dict fs)])) → (Keeps g4 g') → (xs.length ≤ 63) → (LawSt w g' f wd ht lt y ox a0 du lx ld ax fs text) → (text.length ≤ 25 + 6 * i) → lawJ1 w g4 sl dk tf tw th y ox f wd ht i σ
inductive lawJ2 (w : World) (g8 : Heap) (sl dk : Addr) (tf tw th : Tok) (y ox : Addr) (f wd : Int) (ht : Nat) (a0 : Int) (ta : Tok) (du lx ld ax : Addr) (text : List Int) (i : Nat) (tv : Tok) (o9 o10 o11 o12 o13 : Option Value) (j : Nat) (σ : SS) : Prop
  | mk : ∀ g' mu' ee lt1 te tg sa sv tb tv1 ss tt ah b fs1, ∀ (xs1 text1 : List Int), ∀ o6 o7 o8, (σ = ⟨g', [("script", some (.ref sl)), ("deck", some (.ref dk)), ("first", some (.int f tf)), ("width", some (.int wd tw)), ("height", some (.int (ht : Nat) th)), ("text", some (.ref lt1)), ("faces", some (.ref y)), ("options", some (.ref ox)), ("at", some (.int a0 ta)), ("due", some (.ref du)), ("log", some (.ref lx)), ("shown", some (.ref ax)), ("lap", (some (.int i tv))), ("end", (some (.int (f + (text.length : Int)) te))), ("starts", (some (.ref sa))), ("tails", (some (.ref tb))), ("grown", (some (.int (text.length : Nat) tg))), ("nth", o6), ("start", o7), ("tail", o8), ("place", o9), ("view", o10), ("later", o11), ("many", o12), ("again_here", o13)], mu'⟩) → (mu'.Perm (ee ++ [(dk, .intl xs1), (ld, .dict fs1)])) → (Keeps g8 g') → (xs1.length ≤ 63) → (At w g' lt1 (.intl text1)) → ((∀ c ∈ text1, okc c)) → (text1.length ≤ text.length + 3 * j) → (RdF w g' ee sa (.list sv)) → (RdF w g' ee tb (.list tv1)) → (IntsAre sv ss) → (IntsAre tv1 tt) → (ss.length = j) → (tt.length = j) → (ChSt f text text1 j ss tt ah b) → (LogD (f + text.length) ah b ((text1.length : Int) - text.length) fs1) → lawJ2 w g8 sl dk tf tw th y ox f wd ht a0 ta du lx ld ax text i tv o9 o10 o11 o12 o13 j σ
inductive lawN1 (w : World) (g6 : Heap) (sl dk : Addr) (tf tw th : Tok) (y ox : Addr) (f wd : Int) (ht : Nat) (a0 : Int) (ta : Tok) (du lx ld ax : Addr) (text : List Int) (i : Nat) (tv : Tok) (o9 o10 o11 o12 o13 : Option Value) (σ : SS) : Prop
  | mk : ∀ g' mu' ee lt1 te tg sa tb ss tt fs1, ∀ (xs1 text1 : List Int) (a1 b1 : Nat), ∀ o6 o7 o8, (σ = ⟨g', [("script", some (.ref sl)), ("deck", some (.ref dk)), ("first", some (.int f tf)), ("width", some (.int wd tw)), ("height", some (.int (ht : Nat) th)), ("text", some (.ref lt1)), ("faces", some (.ref y)), ("options", some (.ref ox)), ("at", some (.int a0 ta)), ("due", some (.ref du)), ("log", some (.ref lx)), ("shown", some (.ref ax)), ("lap", (some (.int i tv))), ("end", (some (.int (f + (text.length : Int)) te))), ("starts", (some (.ref sa))), ("tails", (some (.ref tb))), ("grown", (some (.int (text.length : Nat) tg))), ("nth", o6), ("start", o7), ("tail", o8), ("place", o9), ("view", o10), ("later", o11), ("many", o12), ("again_here", o13)], mu'⟩) → (mu'.Perm (ee ++ [(dk, .intl xs1), (ld, .dict fs1)])) → (Keeps g6 g') → (xs1.length ≤ 63) → (At w g' lt1 (.intl text1)) → ((∀ c ∈ text1, okc c)) → (text1.length ≤ text.length + 6) → (At w g' sa (.intl ss)) → (At w g' tb (.intl tt)) → (MinOf ss (f + a1)) → (MinOf tt b1) → (Rel text text1 a1 b1) → (LogD (f + text.length) (some (f + a1)) b1 ((text1.length : Int) - text.length) fs1) → lawN1 w g6 sl dk tf tw th y ox f wd ht a0 ta du lx ld ax text i tv o9 o10 o11 o12 o13 σ
inductive lawN2 (w : World) (g8 : Heap) (sl dk : Addr) (tf tw th : Tok) (y ox : Addr) (f wd : Int) (ht : Nat) (a0 : Int) (ta : Tok) (du lx ld ax : Addr) (text : List Int) (i : Nat) (tv : Tok) (lt1 : Addr) (te tg : Tok) (sa tb : Addr) (fs1 : List (Str × Value)) (text1 : List Int) (o6 o7 o8 o10 o11 o12 o13 : Option Value) (σ : SS) : Prop
  | mk : ∀ g' z tz, ∀ (xs2 : List Int), (σ = ⟨g', [("script", some (.ref sl)), ("deck", some (.ref dk)), ("first", some (.int f tf)), ("width", some (.int wd tw)), ("height", some (.int (ht : Nat) th)), ("text", some (.ref lt1)), ("faces", some (.ref y)), ("options", some (.ref ox)), ("at", some (.int a0 ta)), ("due", some (.ref du)), ("log", some (.ref lx)), ("shown", some (.ref ax)), ("lap", (some (.int i tv))), ("end", (some (.int (f + (text.length : Int)) te))), ("starts", (some (.ref sa))), ("tails", (some (.ref tb))), ("grown", (some (.int (text.length : Nat) tg))), ("nth", o6), ("start", o7), ("tail", o8), ("place", (some (.int z tz))), ("view", o10), ("later", o11), ("many", o12), ("again_here", o13)], [(dk, .intl xs2), (ld, .dict fs1)]⟩) → (Keeps g8 g') → (xs2.length ≤ 63) → (0 ≤ z) → (z ≤ text1.length) → lawN2 w g8 sl dk tf tw th y ox f wd ht a0 ta du lx ld ax text i tv lt1 te tg sa tb fs1 text1 o6 o7 o8 o10 o11 o12 o13 σ
set_option maxHeartbeats 40000000 in
theorem law_ok {w : World} {A : Around} (M : Rm A 20) (g : Heap) {sl : Addr} {vs0 : List Value} {xs0 : List Int} (S : g.IsList sl vs0.toArray) (I0 : IntsAre vs0 xs0) (hx : xs0.length ≤ 63) :
    CC (cx w) A g [] (.call (.ref 548) ⟨[.ref sl], []⟩) (fun v g' mu' => v = .bool true) := by
  refine' C_def M ["deck", "first", "width", "height", "text", "faces", "options", "at", "due", "log", "shown", "lap", "end", "starts", "tails", "grown", "nth", "start", "tail", "place", "view", "later", "many", "again_here"] ?ho ?hcd ?hbind ?hok ?hnd ?hloc ?hcell ?hco ?hgen ?hk ?h
  got_up
  intro env E M
  refine XS_gen M fun A2 RR M hRR => ?_
  dsimp only [bsInit, List.map, List.zip, List.zipWith, List.nil_append, List.cons_append, List.append_nil] at *
  refine XS_cut 8 (lawN0 w g sl) ?_ ?_
  · dsimp only [List.take]
    refine' XS_assignComp (fr := []) (keys := ["cell"]) (cn := [(".0", .local), ("cell", .local), ("abs", .globalImplicit)]) M E (by tb_start) (swaps_local E (by tb_start) rfl (by kernel_rfl)) rfl ?k1 ?k2 rfl ?k3 (cNames_eq E rfl) ?k4 ?k5 ?k7 ?k6
    case k1 => kernel_rfl
    case k2 => kernel_rfl
    case k3 => intro q hq; cases hq
    case k4 => decide +kernel
    case k5 => kernel_rfl
    case k6 => intro _; rfl
    refine TS_post ?_
    refine TS_sliceScript S I0 (by (first | lia | omega)) ?_
    kt_ors
    refine ⟨63, _, rfl, rfl, by decide, .refl _, ?_⟩
    intro s1
    (try refine Out.back hRR ?_)
    refine ⟨[_], [], List.Perm.refl _, ?_⟩
    intro g1 k1 h1
    have S1 := h1 _ (.head _)
    refine ⟨_, _, _, fun i ys g' mu' => mu' = [] ∧ Keeps g1 g' ∧ ∃ zs, IntsAre ys zs ∧ zs.length = i, Iter_ints M S1, by rw [List.length_take]; (first | lia | omega), ⟨?_, ?_⟩, ⟨rfl, .refl _, [], .nil, rfl⟩, ?_⟩
    · rintro i ys g' mu' ⟨_, k, zs, d, e⟩
      exact ⟨k, by rw [ints_len d]; (first | lia | omega)⟩
    · rintro env' i ys g4 mu4 v g5 bsC E' hi ⟨rfl, k4, zs, d4, e4⟩ k5 ⟨z, tz, hz, rfl⟩ hb
      obtain ⟨b1, rfl⟩ := bs1 hb
      have E2 := E'
      change EnvIs env' _ [] at E2
      refine TS_assignName E2 (by tb_start) ⟨_, by tb_start, ?_⟩
      refine ⟨rfl, show _ ∧ _ from ⟨rfl, ite_t ?_⟩⟩
      dsimp only
      kt_ors
      refine TS_abs ?_
      intro u
      exact ⟨rfl, rfl, by tb_rel, zs ++ [_], ints_snoc d4, by simp [e4]⟩
    · rintro dk ys g2 mu2 ⟨rfl, k2, zs, d2, e2⟩
      rw [List.length_take] at e2
      have hz : zs.length ≤ 63 := by (first | lia | omega)
      refine StN.mk (by tb_start) ?_
      refine X_recast (sp' := .intl zs) (toIntl d2) ?_
      kt_ors
      refine F_call (law_draw_ok (M.le (by decide)) g2 hz (by decide)) (List.Perm.swap _ _ _) ?_
      rintro _ g3 _ k3 ⟨z3, tz3, ys3, rfl, ha3, hb3, rfl, hy3⟩
      dsimp only [List.cons_append, List.nil_append]
      kt_ors
      refine F_seal (e := [(_, .list _)]) (mu' := [(dk, .intl ys3)]) (List.Perm.swap _ _ _) ?_
      intro g4 k4 h4
      refine F_pick2 (.inl (h4 _ (.head _))) ha3 hb3 ?_
      intro f tf hf
      kt_ors
      refine F_call (law_draw_ok (M.le (by decide)) g4 hy3 (by decide)) (List.Perm.refl _) ?_
      rintro _ g5 _ k5 ⟨z5, tz5, ys5, rfl, ha5, hb5, rfl, hy5⟩
      dsimp only [List.cons_append, List.nil_append]
      kt_ors
      refine F_call (law_draw_ok (M.le (by decide)) g5 hy5 (by decide)) (List.Perm.refl _) ?_
      rintro _ g6 _ k6 ⟨z6, tz6, ys6, rfl, ha6, hb6, rfl, hy6⟩
      dsimp only [List.cons_append, List.nil_append]
      obtain ⟨n6, rfl⟩ := Int.eq_ofNat_of_zero_le ha6
      kt_ors
      rw [show (2 + (n6 : Int)) = ((2 + n6 : Nat) : Int) by (first | lia | omega)]
      obtain ⟨ht, hht⟩ : ∃ ht, ht = 2 + n6 := ⟨_, rfl⟩
      obtain ⟨wd, hwd⟩ : ∃ wd, wd = 3 + z5 := ⟨_, rfl⟩
      rw [← hht, ← hwd]
      have dm : Dims f wd ht := .of hf (by (first | lia | omega)) (by (first | lia | omega)) (by (first | lia | omega)) (by (first | lia | omega))
      refine F_call (law_draw_ok (M.le (by decide)) _ hy6 (by decide)) (List.Perm.refl _) ?_
      rintro _ g7 _ k7 ⟨z7, tz7, ys7, rfl, ha7, hb7, rfl, hy7⟩
      dsimp only [List.cons_append, List.nil_append]
      obtain ⟨n7, rfl⟩ := Int.eq_ofNat_of_zero_le ha7
      kt_ors
      rw [show (4 + (n7 : Int)) = ((4 + n7 : Nat) : Int) by (first | lia | omega)]
      refine F_call (law_signs_ok (M.le (by decide)) _ hy7 (by (first | lia | omega))) (List.Perm.refl _) ?_
      rintro _ g8 _ k8 ⟨lt, text, ys8, rfl, Lt, hlen, hok, rfl, hy8⟩
      dsimp only [List.cons_append, List.nil_append]
      kt_ors
      have hn1 : text.length ≤ 100 := by (first | lia | omega)
      refine F_call0 (table_make_ok (M.le (by decide)) _) ?_
      rintro _ g9 k9 ⟨y, yd, ya, yb, yc, rfl, T9⟩
      kt_ors
      refine F_call0 (options_make_ok (M.le (by decide)) _) ?_
      rintro _ g10 k10 ⟨ox, od, to, uo, rfl, O10⟩
      kt_ors
      refine F_call0 (law_rows_ok (M.le (by decide)) _ (At.mono Lt (by tb_rel)) hn1 (by decide) (Int.natCast_nonneg _) dm.r2 dm.r5 dm.h1 dm.h2) ?_
      rintro _ g11 k11 ⟨du, dvs, rfl, Du, DD⟩
      have hdl := DD.len
      rw [List.length_map] at hdl
      have hrl := rowsGo_len (wd - 1) text f ht (f + 0) 0
      kt_ors
      refine F_call (changes_make_ok (M.le (by decide)) _) (tm := []) (List.Perm.refl _) ?_
      rintro _ g12 _ k12 ⟨lx, ld, fs, rfl, I12, rfl, G12⟩
      dsimp only [List.cons_append, List.nil_append]
      kt_ors
      refine F_call0 (view_make_ok (M.le (by decide)) _ (At.mono Lt (by tb_rel)) hn1) ?_
      rintro _ g13 k13 ⟨vx, vdx, rfl, V13⟩
      kt_ors
      refine F_seal1 ?_
      intro g14 k14 E14
      refine F_call (laid_again_ok (M.le (by decide)) _ (V13.mono (by tb_rel)) (T9.mono (by tb_rel)) (O10.mono (by tb_rel)) (At.mono (by assumption) (by tb_rel)) dm.f1 (Int.le_refl _) (Int.le_add_of_nonneg_right (Int.natCast_nonneg _)) (by decide) dm.w1 dm.w2 dm.h1 dm.h2 hok E14 .nil (by simp) (At.mono I12 (by tb_rel)) G12 (by simp [keptOf]) (fun _ h => nomatch h) (fun _ h => nomatch h)) (List.Perm.refl _) ?_
      rintro _ g15 _ k15 ⟨rfl, ax, ad, l2, vs2, tn, rfl, A1, A2, A3, A4, A5⟩
      dsimp only [List.cons_append, List.nil_append]
      rw [Int.add_zero] at DD hrl hdl
      have HG := glyphs_ok (wd - 1) f text ht f (Int.le_refl _) (Int.le_add_of_nonneg_right (Int.natCast_nonneg _)) dm.f1 dm.r0 dm.r9
      kt_ors
      refine F_call0 (law_read_ok (M.le (by decide)) _ A3 A4 (rowsGo_50 dm.h2) (fun r hr => (HG r hr).2)) ?_
      rintro _ g16 k16 ⟨ra, us, rfl, R1, R2⟩
      kt_ors
      refine TS_neRows M R1 R2 (At.mono Du (by tb_rel)) (DD.mono (by tb_rel)) ?_
      kt_ors
      refine ite_df ?_ ?_
      · rw [movedOf_nil, fresh_all, List.length_drop]; simp only [keptOf]; (first | lia | omega)
      kt_ors
      refine ⟨_, _, [], dk, tf, _, _, lt, y, ox, 0, _, du, lx, ld, ax, fs, ys8, text, f, wd, ht, _, _, _, _, _, _, _, _, _, _, _, _, _, rfl, List.Perm.swap _ _ _, by tb_rel, hy8, ⟨dm, At.mono Lt (by tb_rel), hok, ⟨_, _, _, _, T9.mono (by tb_rel)⟩, ⟨_, _, _, O10.mono (by tb_rel)⟩, by decide, Int.natCast_nonneg _, ⟨dvs, At.mono Du (by tb_rel), ?_⟩, At.mono I12 (by tb_rel), G12, ⟨_, _, _, _, At.mono A1 (by tb_rel), At.mono A2 (by tb_rel), At.mono A3 (by tb_rel), ?_⟩⟩, by (first | lia | omega)⟩
      · rw [Int.add_zero]; exact DD.mono (by tb_rel)
      · rw [Int.add_zero]; exact A4.mono (by tb_rel)
  · rintro _ ⟨g1, mu1, ee, dk, tf, tw, th, lt, y, ox, a0, ta, du, lx, ld, ax, fs, xs, text, f, wd, ht, o1, o2, o3, o4, o5, o6, o7, o8, o9, o10, o11, o12, o13, rfl, hpm, k1, hxs, St, hn⟩
    refine X_seal hpm ?_
    intro g2 k2 _
    replace St := St.mono k2
    dsimp only [List.drop]
    refine' XS_for ?_ ?k9
    case k9 => intro _; rfl
    kt_ors
    exact "range"
    kt_ors
    refine F_call (law_draw_ok (M.le (by decide)) _ hxs (by decide)) (List.Perm.refl _) ?_
    rintro _ g3 _ k3 ⟨z3, tz3, ys3, rfl, ha3, hb3, rfl, hy3⟩
    dsimp only [List.cons_append, List.nil_append]
    obtain ⟨n3, rfl⟩ := Int.eq_ofNat_of_zero_le ha3
    kt_ors
    rw [show (1 + (n3 : Int)) = ((1 + n3 : Nat) : Int) by (first | lia | omega)]
    refine TS_range ?_
    intro r1 g4 u1 u2 k4 R1
    refine ⟨1 + n3, _, _, lawJ1 w g4 sl dk tf tw th y ox f wd ht, Iter_range M R1 (by (first | lia | omega)), ⟨g4, _, [], lt, a0, ta, du, lx, ld, ax, fs, ys3, text, _, _, _, _, _, _, _, _, _, _, _, _, _, rfl, List.Perm.refl _, .refl _, hy3, St.mono (by tb_rel), by (first | lia | omega)⟩, ?_, ?_, ?_⟩
    · rintro i _ ⟨g', mu', ee, lt, a0, ta, du, lx, ld, ax, fs, xs, text, o1, o2, o3, o4, o5, o6, o7, o8, o9, o10, o11, o12, o13, rfl, _, k, _⟩; exact k
    · clear St hpm hn R1
      rintro i g' bs' mu' v g5 hi ⟨gq, mq, ee, lt, a0, ta, du, lx, ld, ax, fs, xs, text, o1, o2, o3, o4, o5, o6, o7, o8, o9, o10, o11, o12, o13, e0, hpm, k5, hxs, St, hn⟩ k5b ⟨tv, rfl⟩
      cases e0
      refine F_seal hpm ?_
      intro g6 k6 _
      replace St := St.mono (k5b.trans k6)
      obtain ⟨dm, L, hok, ⟨yd, tA, tB, tC, T⟩, ⟨od, to, uo, O⟩, p0, p1, ⟨dvs, D1, D2⟩, I, G, ⟨ad, l2, vs2, fv, S1, S2, S3, S4⟩⟩ := St
      refine TS_assignName E (by tb_start) ⟨_, by tb_start, ?_⟩
      dsimp only
      refine XS_genN fun NN hNN => ?_
      refine XS_cut 2 (lawN1 w g6 sl dk tf tw th y ox f wd ht a0 ta du lx ld ax text i tv o9 o10 o11 o12 o13) ?_ ?_
      · dsimp only [List.take]
        refine XS_genN fun NN hNN => ?_
        kt_ors
        refine' XS_for ?_ ?m9
        case m9 => intro _; rfl
        kt_ors
        exact "range"
        kt_ors
        refine F_call (law_draw_ok (M.le (by decide)) _ hxs (by decide)) ((List.Perm.cons _ (List.Perm.swap _ _ _)).trans (List.Perm.swap _ _ _)) ?_
        rintro _ g7 _ k7 ⟨z7, tz7, ys7, rfl, ha7, hb7, rfl, hy7⟩
        dsimp only [List.cons_append, List.nil_append]
        obtain ⟨n7, rfl⟩ := Int.eq_ofNat_of_zero_le ha7
        kt_ors
        rw [show (1 + (n7 : Int)) = ((1 + n7 : Nat) : Int) by (first | lia | omega)]
        refine TS_range ?_
        intro r2 g8 u3 u4 k8 R2
        refine ⟨1 + n7, _, _, lawJ2 w g8 sl dk tf tw th y ox f wd ht a0 ta du lx ld ax text i tv o9 o10 o11 o12 o13, Iter_range M R2 (by (first | lia | omega)), ⟨g8, _, [_, _], lt, _, _, _, [], _, [], [], [], none, 0, fs, ys7, text, _, _, _, rfl, ((List.Perm.swap _ _ _).trans (List.Perm.cons _ (List.Perm.swap _ _ _))), .refl _, hy7, At.mono L (by tb_rel), hok, by (first | lia | omega), .inr (.tail _ (.head _)), .inr (.head _), .nil, .nil, rfl, rfl, .inl ⟨rfl, rfl, rfl, rfl, rfl, rfl⟩, by rw [Int.sub_self]; exact G⟩, ?_, ?_, ?_⟩
        · rintro j _ ⟨g', mu', ee, lt1, te, tg, sa, sv, tb, tv1, ss, tt, ah, b, fs1, xs1, text1, o6, o7, o8, rfl, _, k, _⟩; exact k
        · clear hpm hxs L
          rintro j g' bs' mu' v g9 hj ⟨gr, mr, ee2, lt1, te, tg, sa, sv, tb, tv1, ss, tt, ah, b, fs1, xs1, text1, o6, o7, o8, e0, hpm2, k9, hxs1, L1, hok1, hn1, RA, RB, IA, IB, la, lb, C, G1⟩ k9b ⟨tv9, rfl⟩
          cases e0
          refine F_seal hpm2 ?_
          intro g10 k10 he10
          have SA : At w g10 sa (.list sv) := RA.elim (fun h => h.mono (k9b.trans k10)) (fun h => he10 _ h)
          have SB : At w g10 tb (.list tv1) := RB.elim (fun h => h.mono (k9b.trans k10)) (fun h => he10 _ h)
          have hsl := ints_len IA
          have htl := ints_len IB
          refine TS_assignName E (by tb_start) ⟨_, by tb_start, ?_⟩
          dsimp only
          refine XS_genN fun NN hNN => ?_
          kt_ors
          refine F_call (law_changed_ok (M.le (by decide)) _ hxs1 (L1.mono (k9b.trans k10)) (by (first | lia | omega)) hok1 (At.mono I (by tb_rel)) G1 (by (first | lia | omega))) (List.Perm.refl _) ?_
          rintro _ g11 _ k11 ⟨ys11, fs11, tp, lt2, text2, u5, u6, s, tl, rfl, hy11, rfl, TP, L2, hl2, hok2, R3, G2⟩
          dsimp only [List.cons_append, List.nil_append]
          kt_ors
          refine ⟨_, _, [_, _, _, _], lt2, te, tg, _, sv ++ [_], _, tv1 ++ [_], ss ++ [f + (s : Int)], tt ++ [(tl : Int)], ahOf ah (f + s), bOf ah b tl, fs11, ys11, text2, _, _, _, rfl, List.Perm.refl _, by tb_rel, hy11, L2.mono (by tb_rel), hok2, by (first | lia | omega), .inr (.tail _ (.tail _ (.head _))), .inr (.head _), ints_snoc IA, ints_snoc IB, by simp [la], by simp [lb], C.step R3 (by (first | lia | omega)), ?_⟩
          rw [show (text2.length : Int) - text.length = (text1.length : Int) - text.length + ((text2.length : Int) - text1.length) by (first | lia | omega)]
          exact G2
        · clear hpm hxs L
          rintro _ ⟨gr, mr, ee2, lt1, te, tg, sa, sv, tb, tv1, ss, tt, ah, b, fs1, xs1, text1, o6, o7, o8, rfl, hpm2, k9, hxs1, L1, hok1, hn1, RA, RB, IA, IB, la, lb, C, G1⟩
          refine X_seal hpm2 ?_
          intro g10 k10 he10
          have SA : At w g10 sa (.list sv) := RA.elim (fun h => h.mono k10) (fun h => he10 _ h)
          have SB : At w g10 tb (.list tv1) := RB.elim (fun h => h.mono k10) (fun h => he10 _ h)
          obtain ⟨a1, b1, mA, mB, rfl, rfl, R3⟩ := C.done (by (first | lia | omega))
          kt_ors
          exact ⟨g10, _, [], lt1, te, tg, sa, tb, ss, tt, fs1, xs1, text1, a1, b1, _, _, _, rfl, List.Perm.refl _, by tb_rel, hxs1, L1.mono (by tb_rel), hok1, by (first | lia | omega), At.ofList SA IA, At.ofList SB IB, mA, mB, R3, G1⟩
      · clear hpm hxs
        rintro _ ⟨g7, mu7, ee7, lt1, te, tg, sa, tb, ss, tt, fs1, xs1, text1, a1, b1, o6, o7, o8, rfl, hpm7, k7, hxs1, L1, hok1, hn1, SA, SB, mA, mB, R1, G1⟩
        refine X_seal hpm7 ?_
        intro g8 k8 _
        dsimp only [List.drop]
        refine XS_cut 1 (lawN2 w g8 sl dk tf tw th y ox f wd ht a0 ta du lx ld ax text i tv lt1 te tg sa tb fs1 text1 o6 o7 o8 o10 o11 o12 o13) ?_ ?_
        · dsimp only [List.take]
          refine XS_genN fun NN hNN => ?_
          kt_ors
          refine F_call (law_draw_ok (M.le (by decide)) _ hxs1 (by decide)) (List.Perm.refl _) ?_
          rintro _ g9 _ k9 ⟨z9, tz9, ys9, rfl, ha9, hb9, rfl, hy9⟩
          dsimp only [List.cons_append, List.nil_append]
          kt_ors
          refine ite_d (fun h => ?_) (fun h => ?_)
          · kt_ors
            exact ⟨_, _, _, ys9, rfl, by tb_rel, hy9, by (first | lia | omega), by (first | lia | omega)⟩
          · kt_ors
            refine F_call (law_draw_ok (M.le (by decide)) _ hy9 (by (first | lia | omega))) (List.Perm.refl _) ?_
            rintro _ g10 _ k10 ⟨z10, tz10, ys10, rfl, ha10, hb10, rfl, hy10⟩
            dsimp only [List.cons_append, List.nil_append]
            kt_ors
            exact ⟨_, _, _, ys10, rfl, by tb_rel, hy10, by (first | lia | omega), by (first | lia | omega)⟩
        · rintro _ ⟨g9, z, tz, xs2, rfl, k9, hxs2, hz0, hz1⟩
          have hn2 : text1.length ≤ 100 := by (first | lia | omega)
          dsimp only [List.drop]
          kt_ors
          refine F_call0 (law_line_ok (M.le (by decide)) _ (L1.mono (by tb_rel)) hn2 hz0 hz1) ?_
          rintro _ g10 k10 ⟨p, tp, rfl, hp0, hp1⟩
          kt_ors
          refine F_call0 (view_make_ok (M.le (by decide)) _ (L1.mono (by tb_rel)) hn2) ?_
          rintro _ g11 k11 ⟨vx, vdx, rfl, V⟩
          kt_ors
          refine F_call0 (law_rows_ok (M.le (by decide)) _ (L1.mono (by tb_rel)) hn2 hp0 hp1 dm.r2 dm.r5 dm.h1 dm.h2) ?_
          rintro _ g12 k12 ⟨lr, lvs, rfl, LR1, LR2⟩
          have hll := LR2.len
          rw [List.length_map] at hll
          have hrl := rowsGo_len (wd - 1) text f ht (f + a0) 0
          have hrl2 := rowsGo_len (wd - 1) text1 f ht (f + p) 0
          kt_ors
          refine TS_minOf M (.inl (SA.mono (by tb_rel))) mA ?_
          intro tmn1
          kt_ors
          refine TS_minOf M (.inl (SB.mono (by tb_rel))) mB ?_
          intro tmn2
          kt_ors
          refine F_call0 (law_fresh_ok (p := f + p) (col := 0) (M.le (by decide)) _ (D1.mono (by tb_rel)) (D2.mono (by tb_rel)) (LR1.mono (by tb_rel)) (LR2.mono (by tb_rel)) (rowsGo_50 dm.h2) (rowsGo_50 dm.h2) (rowsGo_head _ _ _ _ _ dm.h1) rfl rfl (At.mono (by assumption) (by tb_rel))) ?_
          rintro _ g13 k13 ⟨tmany, rfl⟩
          kt_ors
          have hfa : f ≤ f + a0 := Int.le_add_of_nonneg_right p0
          have hpa : f ≤ f + p := Int.le_add_of_nonneg_right hp0
          have hpb : f + p ≤ f + text1.length := Int.add_le_add_left hp1 f
          have hfb : f + a0 ≤ f + text.length := Int.add_le_add_left p1 f
          have HG1 := glyphs_ok (wd - 1) f text ht (f + a0) hfa hfb dm.f1 dm.r0 dm.r9
          have HG2 := glyphs_ok (wd - 1) f text1 ht (f + p) hpa hpb dm.f1 dm.r0 dm.r9
          refine F_call (laid_again_ok (M.le (by decide)) _ (V.mono (by tb_rel)) (T.mono (by tb_rel)) (O.mono (by tb_rel)) (At.mono (by assumption) (by tb_rel)) dm.f1 hpa hpb (by decide) dm.w1 dm.w2 dm.h1 dm.h2 hok1 (S3.mono (by tb_rel)) (S4.mono (by tb_rel)) (rowsGo_50 dm.h2) (I.mono (by tb_rel)) G1 (kept_ok (wd - 1) f R1 ht (f + a0) (f + p) hfa hfb) (moved_ok (wd - 1) f R1 ht (f + a0) hfa hfb none) HG1) (List.Perm.swap _ _ _) ?_
          rintro _ g14 _ k14 ⟨rfl, ax2, ad2, l3, vs3, tn2, rfl, A1, A2, A3, A4, _⟩
          dsimp only [List.cons_append, List.nil_append]
          kt_ors
          refine F_call0 (law_read_ok (M.le (by decide)) _ A3 A4 (rowsGo_50 dm.h2) (fun r hr => (HG2 r hr).2)) ?_
          rintro _ g15 k15 ⟨ra, us, rfl, Rd1, Rd2⟩
          kt_ors
          refine TS_neRows M Rd1 Rd2 (LR1.mono (by tb_rel)) (LR2.mono (by tb_rel)) ?_
          kt_ors
          refine ite_df (by simp) ?_
          kt_ors
          refine F_call (changes_make_ok (M.le (by decide)) _) (tm := []) (List.Perm.refl _) ?_
          rintro _ g16 _ k16 ⟨lx2, ld2, fs2, rfl, I2, rfl, G3⟩
          dsimp only [List.cons_append, List.nil_append]
          kt_ors
          refine F_call (laid_again_ok (M.le (by decide)) _ (V.mono (by tb_rel)) (T.mono (by tb_rel)) (O.mono (by tb_rel)) (At.mono (by assumption) (by tb_rel)) dm.f1 hpa hpb (by decide) dm.w1 dm.w2 dm.h1 dm.h2 hok1 (A3.mono (by tb_rel)) (A4.mono (by tb_rel)) (rowsGo_50 dm.h2) (I2.mono (by tb_rel)) G3 rfl (same_ok (wd - 1) f text1 ht (f + p) hpa hpb none _) HG2) (List.Perm.refl _) ?_
          rintro _ g17 _ k17 ⟨rfl, ax3, ad3, l4, vs4, tn3, rfl, B1, B2, B3, B4, B5⟩
          dsimp only [List.cons_append, List.nil_append]
          rw [fresh_none_left] at B2
          rw [keptOf_all] at B5
          have hvs : vs4 = vs3 := take_same B5 B4.len A4.len
          subst hvs
          have hB4 := B4.len
          have hh2 := dm.h2
          kt_ors
          refine ite_df (by simp) ?_
          kt_ors
          refine' TS_comp (fr := []) (keys := ["one", "other"]) (cn := [(".0", .local), ("one", .local), ("other", .local)]) M E rfl ?p1 ?p2 rfl ?p3 (cNames_eq E rfl) ?p4 ?p5 ?p7 ?p6
          case p1 => kernel_rfl
          case p2 => kernel_rfl
          case p3 => intro q hq; cases hq
          case p4 => decide +kernel
          case p5 => kernel_rfl
          case p6 => intro _; rfl
          kt_ors
          exact "zip"
          kt_ors
          refine TS_zip (by tb_start) (by tb_start) ?_
          intro zz TI TO i1 i2 oa ob Z
          refine ⟨_, _, _, fun i ys g' mu' => mu' = [(ld2, .dict fs2), (ld, .dict fs1), (dk, .intl xs2)] ∧ Keeps g17 g' ∧ ys = [], Iter_zip M B3 (A3.mono (by tb_rel)) Z, by (first | lia | omega), ⟨?_, ?_⟩, ⟨rfl, .refl _, rfl⟩, ?_⟩
          · rintro i ys g' mu' ⟨_, k, rfl⟩; exact ⟨k, by simp⟩
          · rintro env' j ys g18 mu18 v g19 bsC E' hj ⟨rfl, k18, rfl⟩ k19 ⟨tq, x, x', rfl, hx1, hx2, AT⟩ hb
            obtain ⟨b1, b2, rfl⟩ := bs2 hb
            rw [hx1] at hx2
            cases hx2
            have hjl : j < (rowsGo (wd - 1) text1 f ht (f + p) 0).length := by (first | lia | omega)
            obtain ⟨v5, hv5, R5⟩ := B4.get (List.getElem?_eq_getElem hjl)
            rw [hx1] at hv5
            cases hv5
            obtain ⟨rx5, rd5, sp5, ep5, gl5, gvs5, tc5, tn5, tmk5, tr5, y1, y2, y3, y4, rfl, R6⟩ := id R5
            refine TS_assignTuple M rfl (.inl AT) rfl ?_
            have E2 := E'
            change EnvIs env' _ [] at E2
            kt_ors
            refine ⟨rfl, ?_⟩
            change TS _ _ _ _ _ _
            kt_ors
            refine TS_isNotSelf ?_
            kt_ors
            refine ⟨rfl, ?_⟩
            kt_ors
            exact ⟨rfl, by tb_rel, rfl⟩
          · rintro D ys g18 mu18 ⟨rfl, k18, rfl⟩
            kt_ors
            refine ite_df (by simp) ?_
            kt_ors
            refine ite_df (by (first | lia | omega)) ?_
            kt_ors
            exact ⟨_, _, [_, _, _], lt1, p, _, lr, lx2, ld2, ax2, fs2, xs2, text1, _, _, _, _, _, _, _, _, _, _, _, _, _, rfl, List.Perm.cons _ (List.Perm.cons _ (List.perm_append_comm (l₁ := [_]) (l₂ := [_, _]))), by tb_rel, hxs2, ⟨dm, L1.mono (by tb_rel), hok1, ⟨_, _, _, _, T.mono (by tb_rel)⟩, ⟨_, _, _, O.mono (by tb_rel)⟩, hp0, hp1, ⟨lvs, LR1.mono (by tb_rel), LR2.mono (by tb_rel)⟩, I2.mono (by tb_rel), G3, ⟨ad2, l3, _, _, A1.mono (by tb_rel), A2.mono (by tb_rel), A3.mono (by tb_rel), A4.mono (by tb_rel)⟩⟩, by (first | lia | omega)⟩
    · rintro _ ⟨gq, mq, ee, lt, a0, ta, du, lx, ld, ax, fs, xs, text, o1, o2, o3, o4, o5, o6, o7, o8, o9, o10, o11, o12, o13, rfl, hpm, k5, hxs, St, hn⟩
      kt_ors
      (try refine Out.back hRR ?_)
      exact Out.pure (by tb_rel) fun _ _ => rfl
theorem law_at (w : World) : nsIn (hd.heap_39 w.params) mainGlobals "law" = some (some (.ref 548)) := by k_is
theorem good_top {w : World} {g : Heap} {p : Program} {loose mean mg mb} (T : Top p loose mean mg mb g) (X : (hd.heap_39 w.params).In g) : GoodC w (hd.heap_39 w.params) g [] [] g :=
  ⟨⟨X, ⟨_, T.g⟩, ⟨_, T.b, T.builtins⟩, T.nolimit⟩, .refl _, (fun _ h => nomatch h), (fun _ h => nomatch h), List.nodup_nil⟩
theorem rm_caller : Rm callerA 20 := ⟨rfl, by decide, by decide⟩
theorem law_runs {w : World} {s : Shared} {fa sl : Addr} {vs0 : List Value} {xs0 : List Int} {p : Program} {loose mean mg mb} {Q : Value → Shared → Prop} {E : Value → Shared → Prop} (T : Top p loose mean mg mb s.heap) (X : (hd.heap_39 w.params).In s.heap) (hmg : mg "law" = some (.ref fa)) (S : s.heap.IsList sl vs0.toArray) (I0 : IntsAre vs0 xs0) (hx : xs0.length ≤ 63)
    (h : ∀ s', Sim s s' → Keeps s.heap s'.heap → Q (.bool true) s') : wpAny (model PySem.Challenge.rw_sq0006_01.row.prog w) callerA (call (.ref fa) [.ref sl]) Q E s := by
  have e : mg "law" = some (.ref 548) := mg_of X T.g (law_at w)
  rw [hmg] at e
  cases e
  refine wpAny_call (codeAny_mono (law_ok (w := w) rm_caller s.heap S I0 hx [] s (good_top T X)) fun r s' hr => ?_)
  obtain ⟨v, rfl, q, g', mu', G', k, rfl⟩ := hr
  exact h s' q (k.trans G'.keep)
theorem kin_eq {K K' : Frag} {h : Heap} (e : K = K') (x : K.In h) : K'.In h := e ▸ x
theorem fin.tw10007411396671696613 : True := trivial
theorem fin.tw10070804522480449196 : True := trivial
theorem fin.tw1012361349325877821 : True := trivial
theorem fin.tw1014637456484912126 : True := trivial
theorem fin.tw10234915967203826555 : True := trivial
theorem fin.tw10242451874928486539 : True := trivial
theorem fin.tw10279692637995926009 : True := trivial
theorem fin.tw10329872625359487480 : True := trivial
theorem fin.tw10383673109516279431 : True := trivial
theorem fin.tw10391319463526535247 : True := trivial
theorem fin.tw10393886385942881009 : True := trivial
theorem fin.tw10511823565363050587 : True := trivial
theorem fin.tw10567028658651823492 : True := trivial
theorem fin.tw10580198807604790814 : True := trivial
theorem fin.tw10599938827571368224 : True := trivial
theorem fin.tw10671828304227620169 : True := trivial
theorem fin.tw10696652717036330658 : True := trivial
theorem fin.tw10699407837109476802 : True := trivial
theorem fin.tw10708223146118651492 : True := trivial
theorem fin.tw10751089155417173751 : True := trivial
theorem fin.tw10782327089294195420 : True := trivial
theorem fin.tw1080700006314346644 : True := trivial
theorem fin.tw10807920368746810246 : True := trivial
theorem fin.tw10818889477481085253 : True := trivial
theorem fin.tw10829458402184033698 : True := trivial
theorem fin.tw10844054185645899528 : True := trivial
theorem fin.tw10852849658779182186 : True := trivial
theorem fin.tw10875463905939285979 : True := trivial
theorem fin.tw1088692219920020602 : True := trivial
theorem fin.tw10895054467252067526 : True := trivial
theorem fin.tw10907391636593693970 : True := trivial
theorem fin.tw10925335251469727208 : True := trivial
theorem fin.tw10936777179133785780 : True := trivial
theorem fin.tw10939691994893167182 : True := trivial
theorem fin.tw11039862389202566683 : True := trivial
theorem fin.tw11040825799340251285 : True := trivial
theorem fin.tw1105837973531982728 : True := trivial
theorem fin.tw11061592194353771069 : True := trivial
theorem fin.tw11079828417688620724 : True := trivial
theorem fin.tw111200028466390044 : True := trivial
theorem fin.tw11147117730913898307 : True := trivial
theorem fin.tw11154830654865731599 : True := trivial
theorem fin.tw11192643925408225281 : True := trivial
theorem fin.tw11209750170652599755 : True := trivial
theorem fin.tw11227884535216515135 : True := trivial
theorem fin.tw11273041486466551846 : True := trivial
theorem fin.tw11277574374343807151 : True := trivial
theorem fin.tw1128348596072947701 : True := trivial
theorem fin.tw11293339424137598113 : True := trivial
theorem fin.tw11298980531735778240 : True := trivial
theorem fin.tw11336253725339858928 : True := trivial
theorem fin.tw11414119711712004833 : True := trivial
theorem fin.tw11414674201277728305 : True := trivial
theorem fin.tw11454252539852477091 : True := trivial
theorem fin.tw11466478281803324712 : True := trivial
theorem fin.tw11575174756993882273 : True := trivial
theorem fin.tw11587955951900863698 : True := trivial
theorem fin.tw11607805686811502034 : True := trivial
theorem fin.tw11615019562542576733 : True := trivial
theorem fin.tw11670595312785385485 : True := trivial
theorem fin.tw11897717083992391400 : True := trivial
theorem fin.tw11936995450923721628 : True := trivial
theorem fin.tw11953781441336167498 : True := trivial
theorem fin.tw1202912048536075021 : True := trivial
theorem fin.tw12093786417800195236 : True := trivial
theorem fin.tw1209720653154232198 : True := trivial
theorem fin.tw12118000046449163591 : True := trivial
theorem fin.tw12135189313929291683 : True := trivial
theorem fin.tw12149302876761508202 : True := trivial
theorem fin.tw12180539936304867106 : True := trivial
theorem fin.tw12212933522069011988 : True := trivial
theorem fin.tw12284014389350100970 : True := trivial
theorem fin.tw12292906935544458286 : True := trivial
theorem fin.tw12347537446847802165 : True := trivial
theorem fin.tw12355744275394475900 : True := trivial
theorem fin.tw12356021495744459628 : True := trivial
theorem fin.tw12409915417874342407 : True := trivial
theorem fin.tw12448240930570709186 : True := trivial
theorem fin.tw12449532186833594164 : True := trivial
theorem fin.tw12494888245299231016 : True := trivial
theorem fin.tw1252854909445205041 : True := trivial
theorem fin.tw12557769604369416430 : True := trivial
theorem fin.tw12563120071689314576 : True := trivial
theorem fin.tw12629903358213643309 : True := trivial
theorem fin.tw12649782002744950493 : True := trivial
theorem fin.tw12696600883282566439 : True := trivial
theorem fin.tw12711679700452659978 : True := trivial
theorem fin.tw12740692763255036000 : True := trivial
theorem fin.tw12751662967071866640 : True := trivial
theorem fin.tw12809788781938459499 : True := trivial
theorem fin.tw12829507556594621215 : True := trivial
theorem fin.tw12833947400113492166 : True := trivial
theorem fin.tw12847644182280273618 : True := trivial
theorem fin.tw12876064707754696378 : True := trivial
theorem fin.tw12876116671307685997 : True := trivial
theorem fin.tw12932903420030652473 : True := trivial
theorem fin.tw12946824338688289833 : True := trivial
theorem fin.tw12962497063298326498 : True := trivial
theorem fin.tw12996517811204074000 : True := trivial
theorem fin.tw13021059552284102479 : True := trivial
theorem fin.tw13093503161671486093 : True := trivial
theorem fin.tw13158425560686309300 : True := trivial
theorem fin.tw13162651487661262736 : True := trivial
theorem fin.tw13177410634674063896 : True := trivial
theorem fin.tw13199158710529813207 : True := trivial
theorem fin.tw13294311002278339166 : True := trivial
theorem fin.tw13295704053362595847 : True := trivial
theorem fin.tw13360279666012451719 : True := trivial
theorem fin.tw13383306551100868464 : True := trivial
theorem fin.tw13467322939085005891 : True := trivial
theorem fin.tw13516622038369049944 : True := trivial
theorem fin.tw13574545013463194659 : True := trivial
theorem fin.tw13724452099449386491 : True := trivial
theorem fin.tw13790858721211988464 : True := trivial
theorem fin.tw13814004702073501669 : True := trivial
theorem fin.tw13815853411582834384 : True := trivial
theorem fin.tw13870153662132920491 : True := trivial
theorem fin.tw13898374239775968522 : True := trivial
theorem fin.tw13925877587632400325 : True := trivial
theorem fin.tw13929302177132474383 : True := trivial
theorem fin.tw1397303283331804279 : True := trivial
theorem fin.tw14134379338385194387 : True := trivial
theorem fin.tw14139026862911339306 : True := trivial
theorem fin.tw14198118354399789447 : True := trivial
theorem fin.tw14210890002308233579 : True := trivial
theorem fin.tw1422313219903470601 : True := trivial
theorem fin.tw14239432107786713131 : True := trivial
theorem fin.tw14245171486683049214 : True := trivial
theorem fin.tw14254621764821748828 : True := trivial
theorem fin.tw14279960228734115912 : True := trivial
theorem fin.tw14333544728242365436 : True := trivial
theorem fin.tw14345562132136545540 : True := trivial
theorem fin.tw14347400895652799225 : True := trivial
theorem fin.tw14431720936831517352 : True := trivial
theorem fin.tw1450881378762983150 : True := trivial
theorem fin.tw14517287926952318261 : True := trivial
theorem fin.tw14541005305830221311 : True := trivial
theorem fin.tw14560573928864763818 : True := trivial
theorem fin.tw14568449535678555946 : True := trivial
theorem fin.tw14574801432027512755 : True := trivial
theorem fin.tw14637358334870819178 : True := trivial
theorem fin.tw14679806638718605512 : True := trivial
theorem fin.tw14786503066443513839 : True := trivial
theorem fin.tw14814673180317915700 : True := trivial
theorem fin.tw14838103818555229697 : True := trivial
theorem fin.tw14855157385224911753 : True := trivial
theorem fin.tw15094949803261831281 : True := trivial
theorem fin.tw15144710454662140524 : True := trivial
theorem fin.tw15149952090015108872 : True := trivial
theorem fin.tw15225332579556243176 : True := trivial
theorem fin.tw15234240111613058569 : True := trivial
theorem fin.tw15309079848183770524 : True := trivial
theorem fin.tw15344004072050561172 : True := trivial
theorem fin.tw1535588207084551279 : True := trivial
theorem fin.tw15373703851562958014 : True := trivial
theorem fin.tw15420473929338048412 : True := trivial
theorem fin.tw1544503264643628384 : True := trivial
theorem fin.tw1545086475593560577 : True := trivial
theorem fin.tw15459455144867644326 : True := trivial
theorem fin.tw15476544859757588837 : True := trivial
theorem fin.tw15523922138108190246 : True := trivial
theorem fin.tw15533503492667675913 : True := trivial
theorem fin.tw15566928917628492161 : True := trivial
theorem fin.tw15590172107835277464 : True := trivial
theorem fin.tw1560641971993327685 : True := trivial
theorem fin.tw15675102808854859970 : True := trivial
theorem fin.tw15688172546075569117 : True := trivial
theorem fin.tw15741700470354863883 : True := trivial
theorem fin.tw15815952407149668801 : True := trivial
theorem fin.tw15832999045522443761 : True := trivial
theorem fin.tw15942684835789789487 : True := trivial
theorem fin.tw15989303212955285315 : True := trivial
theorem fin.tw16103849850496634939 : True := trivial
theorem fin.tw1613116972386908190 : True := trivial
theorem fin.tw16196181902256332553 : True := trivial
theorem fin.tw16237762584071213788 : True := trivial
theorem fin.tw1625080806587739848 : True := trivial
theorem fin.tw16252508478716706905 : True := trivial
theorem fin.tw16256441300576474876 : True := trivial
theorem fin.tw16269368082590959529 : True := trivial
theorem fin.tw16275787546110486726 : True := trivial
theorem fin.tw16285329926789087883 : True := trivial
theorem fin.tw16307707646766795581 : True := trivial
theorem fin.tw16332831945792503637 : True := trivial
theorem fin.tw1635022588487117616 : True := trivial
theorem fin.tw16401934584784274106 : True := trivial
theorem fin.tw16448676403291746579 : True := trivial
theorem fin.tw16488607150827929282 : True := trivial
theorem fin.tw16502652511500755 : True := trivial
theorem fin.tw16510490156224867327 : True := trivial
theorem fin.tw16530489862217454893 : True := trivial
theorem fin.tw16540275574145912595 : True := trivial
theorem fin.tw16570786720924097770 : True := trivial
theorem fin.tw16584127079891442865 : True := trivial
theorem fin.tw16656299143469825513 : True := trivial
theorem fin.tw1666694428299288667 : True := trivial
theorem fin.tw16708981103961760564 : True := trivial
theorem fin.tw16798467561266328274 : True := trivial
theorem fin.tw16906536467411238026 : True := trivial
theorem fin.tw16934629359412608497 : True := trivial
theorem fin.tw16958243865122950064 : True := trivial
theorem fin.tw17041991840579044601 : True := trivial
theorem fin.tw17067295170570645592 : True := trivial
theorem fin.tw17108682257543074861 : True := trivial
theorem fin.tw17123178472405020103 : True := trivial
theorem fin.tw17130245016438642246 : True := trivial
theorem fin.tw1713156846745171867 : True := trivial
theorem fin.tw17132207802985990308 : True := trivial
theorem fin.tw17149882997012438147 : True := trivial
theorem fin.tw17164383140453370395 : True := trivial
theorem fin.tw17197158672614542318 : True := trivial
theorem fin.tw17260493314774615805 : True := trivial
theorem fin.tw17347454772498655404 : True := trivial
theorem fin.tw17362494058136835672 : True := trivial
theorem fin.tw17416127249078093707 : True := trivial
theorem fin.tw17425937995043322649 : True := trivial
theorem fin.tw17430205856086898164 : True := trivial
theorem fin.tw17449020081951674710 : True := trivial
theorem fin.tw17495881415371897999 : True := trivial
theorem fin.tw17512474026176034454 : True := trivial
theorem fin.tw17570509445847580414 : True := trivial
theorem fin.tw17570709534508481193 : True := trivial
theorem fin.tw17628183408451194143 : True := trivial
theorem fin.tw17637551073024348614 : True := trivial
theorem fin.tw17656766251404061198 : True := trivial
theorem fin.tw17662344363894024548 : True := trivial
theorem fin.tw17698704350827878285 : True := trivial
theorem fin.tw17701328389417463424 : True := trivial
theorem fin.tw17717364068325071970 : True := trivial
theorem fin.tw17719728818120068181 : True := trivial
theorem fin.tw17743408960866722510 : True := trivial
theorem fin.tw17784850919643140607 : True := trivial
theorem fin.tw17801579834951734752 : True := trivial
theorem fin.tw17861066769153400444 : True := trivial
theorem fin.tw17869975865946814897 : True := trivial
theorem fin.tw17896612028031085017 : True := trivial
theorem fin.tw17933470926392208243 : True := trivial
theorem fin.tw17963964198891936676 : True := trivial
theorem fin.tw17971676594858020690 : True := trivial
theorem fin.tw18085205558954209793 : True := trivial
theorem fin.tw18105942590061964161 : True := trivial
theorem fin.tw18164189302063226315 : True := trivial
theorem fin.tw1819255440876223710 : True := trivial
theorem fin.tw18195182924450695511 : True := trivial
theorem fin.tw18230178534529381785 : True := trivial
theorem fin.tw18255404467826089762 : True := trivial
theorem fin.tw18295790063311454060 : True := trivial
theorem fin.tw18373065035072037172 : True := trivial
theorem fin.tw18387650150990424433 : True := trivial
theorem fin.tw1852177515930521313 : True := trivial
theorem fin.tw1921391257341544841 : True := trivial
theorem fin.tw1951045429614898598 : True := trivial
theorem fin.tw1976505206021243879 : True := trivial
theorem fin.tw1982079694162106894 : True := trivial
theorem fin.tw2067723777617599883 : True := trivial
theorem fin.tw2086631506510373192 : True := trivial
theorem fin.tw2090205506522743130 : True := trivial
theorem fin.tw216489041496292469 : True := trivial
theorem fin.tw220677088936066577 : True := trivial
theorem fin.tw2236755162388048479 : True := trivial
theorem fin.tw2304379251839397102 : True := trivial
theorem fin.tw2305881189932309285 : True := trivial
theorem fin.tw2316539691658765527 : True := trivial
theorem fin.tw2321816554428607280 : True := trivial
theorem fin.tw2377308710366028375 : True := trivial
theorem fin.tw2462912638960843985 : True := trivial
theorem fin.tw2503846163805864124 : True := trivial
theorem fin.tw2512408688544751470 : True := trivial
theorem fin.tw251868834278440796 : True := trivial
theorem fin.tw2565351972500760935 : True := trivial
theorem fin.tw2617349483901765261 : True := trivial
theorem fin.tw2656788454239962097 : True := trivial
theorem fin.tw2671655128345628175 : True := trivial
theorem fin.tw2775396313129547428 : True := trivial
theorem fin.tw2789213428527533208 : True := trivial
theorem fin.tw2824846461999071874 : True := trivial
theorem fin.tw2910385600587045654 : True := trivial
theorem fin.tw2976117146107443816 : True := trivial
theorem fin.tw3004984022683251337 : True := trivial
theorem fin.tw3029852977388229646 : True := trivial
theorem fin.tw3105451386036433885 : True := trivial
theorem fin.tw3112429581023547943 : True := trivial
theorem fin.tw3117844165210426507 : True := trivial
theorem fin.tw3124765327168595093 : True := trivial
theorem fin.tw3125960719983571848 : True := trivial
theorem fin.tw3173534031939492945 : True := trivial
theorem fin.tw3199103547748192838 : True := trivial
theorem fin.tw3211687289105081006 : True := trivial
theorem fin.tw3263211703599914710 : True := trivial
theorem fin.tw3268265519342814607 : True := trivial
theorem fin.tw3314143786362844604 : True := trivial
theorem fin.tw333583748066197110 : True := trivial
theorem fin.tw3343445320678177929 : True := trivial
theorem fin.tw3404873503106905745 : True := trivial
theorem fin.tw3432132637015033673 : True := trivial
theorem fin.tw3456623496861543869 : True := trivial
theorem fin.tw3459265974087741279 : True := trivial
theorem fin.tw3592197515014444004 : True := trivial
theorem fin.tw3598329298470268980 : True := trivial
theorem fin.tw3599858809825778643 : True := trivial
theorem fin.tw3683778510129048087 : True := trivial
theorem fin.tw373065315874586923 : True := trivial
theorem fin.tw3762306804915933987 : True := trivial
theorem fin.tw3780939710592286428 : True := trivial
theorem fin.tw3788772014149755174 : True := trivial
theorem fin.tw3794220679723124481 : True := trivial
theorem fin.tw3810570522144960214 : True := trivial
theorem fin.tw3812028171767442716 : True := trivial
theorem fin.tw3857263333814641470 : True := trivial
theorem fin.tw3885313090954376144 : True := trivial
theorem fin.tw3906754673857718949 : True := trivial
theorem fin.tw3955986520655104412 : True := trivial
theorem fin.tw3974152918291533672 : True := trivial
theorem fin.tw3975253019698251321 : True := trivial
theorem fin.tw3998398428148030388 : True := trivial
theorem fin.tw4013537778516871869 : True := trivial
theorem fin.tw4040260094072895976 : True := trivial
theorem fin.tw4043148821406017626 : True := trivial
theorem fin.tw4100293265295638779 : True := trivial
theorem fin.tw4131476155260995623 : True := trivial
theorem fin.tw4144819383078699286 : True := trivial
theorem fin.tw4162185377826839926 : True := trivial
theorem fin.tw4170516301191304579 : True := trivial
theorem fin.tw4171678462856256454 : True := trivial
theorem fin.tw4180101509539245183 : True := trivial
theorem fin.tw4209717502836232480 : True := trivial
theorem fin.tw4218790737952374519 : True := trivial
theorem fin.tw4265850918314828415 : True := trivial
theorem fin.tw4312942655851389009 : True := trivial
theorem fin.tw4326780796455107134 : True := trivial
theorem fin.tw4395496475954998127 : True := trivial
theorem fin.tw4424551920762525699 : True := trivial
theorem fin.tw4443050520305737185 : True := trivial
theorem fin.tw4485317993302519759 : True := trivial
theorem fin.tw452842511749404161 : True := trivial
theorem fin.tw4570111826955561243 : True := trivial
theorem fin.tw4588413851689716618 : True := trivial
theorem fin.tw4598667867955821814 : True := trivial
theorem fin.tw4613182775407389354 : True := trivial
theorem fin.tw4640724917100965312 : True := trivial
theorem fin.tw4704539128875821333 : True := trivial
theorem fin.tw4719063310657182621 : True := trivial
theorem fin.tw4723787954990577340 : True := trivial
theorem fin.tw4754365596532378047 : True := trivial
theorem fin.tw4768634762848416435 : True := trivial
theorem fin.tw4769821431679368130 : True := trivial
theorem fin.tw4806268862455609328 : True := trivial
theorem fin.tw480829909506669009 : True := trivial
theorem fin.tw4868334931027891882 : True := trivial
theorem fin.tw4878226113927451544 : True := trivial
theorem fin.tw4879674094562380441 : True := trivial
theorem fin.tw4898026214463823928 : True := trivial
theorem fin.tw4928979718650693569 : True := trivial
theorem fin.tw4950403968356008110 : True := trivial
theorem fin.tw500868675978126160 : True := trivial
theorem fin.tw5011121235533021005 : True := trivial
theorem fin.tw5027962914972470204 : True := trivial
theorem fin.tw5071919506433949198 : True := trivial
theorem fin.tw5073790198343104882 : True := trivial
theorem fin.tw5098551885099359569 : True := trivial
theorem fin.tw5102460946473063141 : True := trivial
theorem fin.tw5106123347721008290 : True := trivial
theorem fin.tw5115476493328737885 : True := trivial
theorem fin.tw5196160543931855155 : True := trivial
theorem fin.tw5227809002895711924 : True := trivial
theorem fin.tw5235635437763446565 : True := trivial
theorem fin.tw5250828734511838712 : True := trivial
theorem fin.tw5293390819737331289 : True := trivial
theorem fin.tw5320702786494000081 : True := trivial
theorem fin.tw544173102793226557 : True := trivial
theorem fin.tw5634151482396758240 : True := trivial
theorem fin.tw5647864574477489665 : True := trivial
theorem fin.tw5678346346211369953 : True := trivial
theorem fin.tw5679570950571409650 : True := trivial
theorem fin.tw5697329851534765875 : True := trivial
theorem fin.tw5734618986648460908 : True := trivial
theorem fin.tw5776136370200156792 : True := trivial
theorem fin.tw5897612983314593646 : True := trivial
theorem fin.tw5918270172994372947 : True := trivial
theorem fin.tw5962627729488381771 : True := trivial
theorem fin.tw6058378993454661626 : True := trivial
theorem fin.tw6068950659093879613 : True := trivial
theorem fin.tw6081921254191324426 : True := trivial
theorem fin.tw6127190174262240918 : True := trivial
theorem fin.tw612862322836996645 : True := trivial
theorem fin.tw6144012678527597917 : True := trivial
theorem fin.tw6207176494656529804 : True := trivial
theorem fin.tw6323506392446703087 : True := trivial
theorem fin.tw6341822008880759003 : True := trivial
theorem fin.tw6381419901266130222 : True := trivial
theorem fin.tw6388184931127306564 : True := trivial
theorem fin.tw6400248389586479577 : True := trivial
theorem fin.tw6435670951450185984 : True := trivial
theorem fin.tw6454446336052903152 : True := trivial
theorem fin.tw6455845175183424153 : True := trivial
theorem fin.tw6461409362072667662 : True := trivial
theorem fin.tw6474043946942992101 : True := trivial
theorem fin.tw6485783843944922600 : True := trivial
theorem fin.tw6515953530934532768 : True := trivial
theorem fin.tw6531376189190222733 : True := trivial
theorem fin.tw6567050819087999508 : True := trivial
theorem fin.tw6577878126316647860 : True := trivial
theorem fin.tw6634307039904815820 : True := trivial
theorem fin.tw6650461044873433052 : True := trivial
theorem fin.tw6667815254911646788 : True := trivial
theorem fin.tw670465573061467203 : True := trivial
theorem fin.tw6712194924023145494 : True := trivial
theorem fin.tw6718411051458867188 : True := trivial
theorem fin.tw6766378078585498003 : True := trivial
theorem fin.tw6766580051018981234 : True := trivial
theorem fin.tw6846200578177281708 : True := trivial
theorem fin.tw6878024787957991413 : True := trivial
theorem fin.tw6968583824967984638 : True := trivial
theorem fin.tw7000300075881102575 : True := trivial
theorem fin.tw7177338460636591580 : True := trivial
theorem fin.tw7237211504229103197 : True := trivial
theorem fin.tw7249652514872940865 : True := trivial
theorem fin.tw7282745182861764756 : True := trivial
theorem fin.tw7321584467024264148 : True := trivial
theorem fin.tw7334248845499685764 : True := trivial
theorem fin.tw7380833856163905736 : True := trivial
theorem fin.tw744865244796547220 : True := trivial
theorem fin.tw7451905468542833597 : True := trivial
theorem fin.tw7468727024169554154 : True := trivial
theorem fin.tw7470013935711676318 : True := trivial
theorem fin.tw7547296005191728479 : True := trivial
theorem fin.tw757079261281740938 : True := trivial
theorem fin.tw7571835004317744807 : True := trivial
theorem fin.tw7613857476909055813 : True := trivial
theorem fin.tw7613945582906998725 : True := trivial
theorem fin.tw7661832156752021035 : True := trivial
theorem fin.tw7675655780812522254 : True := trivial
theorem fin.tw7773504467932542270 : True := trivial
theorem fin.tw7779959011674639804 : True := trivial
theorem fin.tw7786677914034681988 : True := trivial
theorem fin.tw7803649310394182010 : True := trivial
theorem fin.tw7822013112032934038 : True := trivial
theorem fin.tw7830602891274557492 : True := trivial
theorem fin.tw7830629276484211593 : True := trivial
theorem fin.tw783483362715066742 : True := trivial
theorem fin.tw7845872953664198349 : True := trivial
theorem fin.tw7890596953891613788 : True := trivial
theorem fin.tw7929640520542984453 : True := trivial
theorem fin.tw7930893340574950883 : True := trivial
theorem fin.tw7976502392129159676 : True := trivial
theorem fin.tw799341379326975648 : True := trivial
theorem fin.tw7995362448368537469 : True := trivial
theorem fin.tw8018989035897545986 : True := trivial
theorem fin.tw8025084765662995669 : True := trivial
theorem fin.tw803859442106103436 : True := trivial
theorem fin.tw807531904560671035 : True := trivial
theorem fin.tw8088732932480780420 : True := trivial
theorem fin.tw8119881530291889089 : True := trivial
theorem fin.tw8126443298418566877 : True := trivial
theorem fin.tw8261031787919469916 : True := trivial
theorem fin.tw8269367382603917829 : True := trivial
theorem fin.tw8272817396058243321 : True := trivial
theorem fin.tw8281523328739849912 : True := trivial
theorem fin.tw8288733244629462318 : True := trivial
theorem fin.tw8289400949097046189 : True := trivial
theorem fin.tw8330952907988395303 : True := trivial
theorem fin.tw8352470293576582857 : True := trivial
theorem fin.tw8383268338085895543 : True := trivial
theorem fin.tw8399098705505230059 : True := trivial
theorem fin.tw8408514402456403777 : True := trivial
theorem fin.tw8416529770105884409 : True := trivial
theorem fin.tw846297522682114974 : True := trivial
theorem fin.tw8472697214298850164 : True := trivial
theorem fin.tw848606289541702500 : True := trivial
theorem fin.tw8559517257967667466 : True := trivial
theorem fin.tw8569027658895312972 : True := trivial
theorem fin.tw8590288500278120515 : True := trivial
theorem fin.tw8614737586434602478 : True := trivial
theorem fin.tw8643116662766533202 : True := trivial
theorem fin.tw8656503046869711584 : True := trivial
theorem fin.tw8668149382578428375 : True := trivial
theorem fin.tw876206183137641144 : True := trivial
theorem fin.tw8776770756819070316 : True := trivial
theorem fin.tw8823646848978868743 : True := trivial
theorem fin.tw884059145510264010 : True := trivial
theorem fin.tw8896352889252549814 : True := trivial
theorem fin.tw8919302590299486024 : True := trivial
theorem fin.tw8947099994592609211 : True := trivial
theorem fin.tw895571856199123645 : True := trivial
theorem fin.tw8999559765510592377 : True := trivial
theorem fin.tw9000015914152043466 : True := trivial
theorem fin.tw9001875181463519149 : True := trivial
theorem fin.tw9059937348426287209 : True := trivial
theorem fin.tw9218923581257491847 : True := trivial
theorem fin.tw9221430085559818832 : True := trivial
theorem fin.tw9247658263007524724 : True := trivial
theorem fin.tw9260378047223084069 : True := trivial
theorem fin.tw9297318355482256503 : True := trivial
theorem fin.tw9363291351745731410 : True := trivial
theorem fin.tw9387745189664136937 : True := trivial
theorem fin.tw9509447333196811905 : True := trivial
theorem fin.tw9524518906428321964 : True := trivial
theorem fin.tw9544026089342320630 : True := trivial
theorem fin.tw9610726530385051774 : True := trivial
theorem fin.tw9712136527352899355 : True := trivial
theorem fin.tw9725021084223525626 : True := trivial
theorem fin.tw9746214513668125432 : True := trivial
theorem fin.tw9746901515087519452 : True := trivial
theorem fin.tw9757074474933493440 : True := trivial
theorem fin.tw9806666330580929782 : True := trivial
theorem fin.tw982560976839675504 : True := trivial
theorem fin.tw9825859731914700964 : True := trivial
theorem fin.tw9913140749668108558 : True := trivial
theorem fin.tw9917203430921899224 : True := trivial
theorem fin.tw9962418760945406050 : True := trivial
theorem fin.tw9997704412844104603 : True := trivial
theorem fin.tw999798209818781672 : True := trivial
set_option Elab.async true
set_option maxHeartbeats 8000000 in
theorem fin : PySem.Challenge.rw_sq0006_01.Holds := by
  w_on; o_law; k_head; (case hw => w_witness2)
  k_fill
  intro w s₀ s₁ mg mb G Y fa o pm cd doc dV kV ho hd hcd hD hmg hg args vals as hpre hlay hrd hwl hlo
  have KX := kIn_of Y
  have KY := kin_eq (K' := Mine.hd.heap_39 w.params) (by kernel_rfl) KX
  refine Ground.open G ?_
  intro T B D TE TW
  have hfa := hmg
  wrow_args hpre hlay hrd hwl hlo
  clear hd hD hcd ho
  refine Mine.law_runs T KY hfa (by assumption) (by assumption) (by omega) ?_
  intro s' q k
  have e1 : s'.os = s₁.os := by rw [q]
  have e2 : s'.gens = #[] := by rw [q]; exact hg
  refine GoodW.toG ⟨.inl ⟨.bool true, .bool true, [], rfl, ?_, .bool true, ?_, ?_⟩, k, e1, e2⟩
  · intro cls
    rfl
  · wrow_post
  · intro _; exact ⟨List.nodup_nil, fun _ h => nomatch h⟩
set_option Elab.async false
end Mine
theorem PySem.Challenge.cw_sq0006_01_holds : PySem.Challenge.rw_sq0006_01.Holds :=
  Mine.fin
