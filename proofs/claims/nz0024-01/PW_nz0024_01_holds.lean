import PyProof.Rows.All
import Wide.All
import OpenK.AllK
import Wide.FinOn
import PySem.Challenge.RW_nz0024_01
set_option Elab.async false

section
open PySem PySem.W PyProof.Rows
namespace Mine
/-! ## small eliminators: they keep the proofs' terms small -/
theorem nos {α : Type} {a : α} {C : Prop} (h : (Option.none : Option α) = some a) : C := by cases h
theorem nos2 {α : Type} {a : α} {C : Prop} (h : some a = (Option.none : Option α)) : C := by cases h
theorem nof {C : Prop} (h : false = true) : C := by cases h
theorem nof2 {C : Prop} (h : true = false) : C := by cases h
theorem iteT {α : Type} {c : Prop} [Decidable c] {x y : Option α} {r : α} (h : (if c then x else y) = some r) (hc : c) : x = some r := by rw [if_pos hc] at h; exact h
theorem iteF {α : Type} {c : Prop} [Decidable c] {x y : Option α} {r : α} (h : (if c then x else y) = some r) (hc : ¬ c) : y = some r := by rw [if_neg hc] at h; exact h
theorem bd1 {α β : Type} {x : Option α} {f : α → Option β} {b : β} {C : Prop} (h : x.bind f = some b) (k : ∀ a, x = some a → f a = some b → C) : C := by
  obtain ⟨a, h1, h2⟩ := Option.bind_eq_some_iff.mp h
  exact k a h1 h2
theorem bd2 {α α' β : Type} {x : Option (α × α')} {f : α × α' → Option β} {b : β} {C : Prop} (h : x.bind f = some b) (k : ∀ a a', x = some (a, a') → f (a, a') = some b → C) : C :=
  bd1 h fun a => k a.1 a.2
theorem soE {α β : Type} {C : α → β → Prop} {a a' : α} {b b' : β} (h : some (a, b) = some (a', b')) (k : C a b) : C a' b' := by cases h; exact k
theorem iteSE {α : Type} {c : Prop} [Decidable c] {x : Option α} {y : α} {C : Prop} (h : (if c then x else Option.none) = some y) (k : c → x = some y → C) : C := by
  split at h
  · exact k ‹_› h
  · (first | exact nos h | exact nof h | exact nos2 h | exact nof2 h | cases h)
theorem iteNE {α : Type} {c : Prop} [Decidable c] {x : Option α} {y : α} {C : Prop} (h : (if c then Option.none else x) = some y) (k : ¬ c → x = some y → C) : C := by
  split at h
  · (first | exact nos h | exact nof h | exact nos2 h | exact nof2 h | cases h)
  · exact k ‹_› h
/-- a large part is named -/
theorem genF {α : Type} {P : α → Prop} {a : α} {C : Prop} (h : P a) (k : ∀ F, F = a → P F → C) : C := k a rfl h
/-- the goal is kept out of sight while hypotheses are opened -/
theorem hide {G : Prop} (k : ∀ g : Prop, (G → g) → g) : G := k G id

/-! ## abstract values, abstract heaps -/
inductive V where
  | none | bool (b : Bool) | int (i : Int) | str (x : Str)
  | tup (l : List V) | lst (l : List V) | obj (C i : Nat) | ref (i : Nat)

inductive AO where
  | lst (l : List V)
  | ins (fs : List (Str × V))
  | sd (fs : List (Str × V))
  | im (k : Nat)

abbrev En := List (Str × V)
abbrev Hp := List AO
abbrev Nm := List (Str × NameKind)

/-! ## worlds -/
structure Wd where
  J : Addr → Option Obj
  ρ : Nat → Addr
  n : Nat

structure Wd.Le (W W' : Wd) : Prop where
  J : ∀ a o, W.J a = some o → W'.J a = some o
  ρ : ∀ i, i < W.n → W'.ρ i = W.ρ i
  n : W.n ≤ W'.n

theorem Wd.Le.refl (W : Wd) : W.Le W := ⟨fun _ _ h => h, fun _ _ => rfl, Nat.le_refl _⟩
theorem Wd.Le.trans {W W' W'' : Wd} (h : W.Le W') (k : W'.Le W'') : W.Le W'' :=
  ⟨fun a o e => k.J a o (h.J a o e), fun i hi => (k.ρ i (Nat.lt_of_lt_of_le hi h.n)).trans (h.ρ i hi), Nat.le_trans h.n k.n⟩

noncomputable abbrev tupO (vs : List Value) (k : Nat) : Obj := { cls := .type "tuple", data := .seq vs.toArray k }
noncomputable abbrev lstO (vs : List Value) (k : Nat) : Obj := { cls := .type "list", data := .seq vs.toArray k }

mutual
inductive VR (W : Wd) : Value → V → Prop
  | none : VR W .none .none
  | bool (b : Bool) : VR W (.bool b) (.bool b)
  | int (i : Int) (t : Tok) : VR W (.int i t) (.int i)
  | str (x : Str) (t : Tok) : VR W (.str x t) (.str x)
  | tup {a : Addr} {vs : List Value} {k : Nat} {l : List V} : W.J a = some (tupO vs k) → VRs W vs l → VR W (.ref a) (.tup l)
  | lst {a : Addr} {vs : List Value} {k : Nat} {l : List V} : W.J a = some (lstO vs k) → VRs W vs l → VR W (.ref a) (.lst l)
  | obj {a : Addr} {C i : Nat} : i < W.n → W.J a = some (instObj C (W.ρ i)) → VR W (.ref a) (.obj C i)
  | ref {i : Nat} : i < W.n → VR W (.ref (W.ρ i)) (.ref i)
inductive VRs (W : Wd) : List Value → List V → Prop
  | nil : VRs W [] []
  | cons {v : Value} {vs : List Value} {x : V} {l : List V} : VR W v x → VRs W vs l → VRs W (v :: vs) (x :: l)
end

section
variable {W : Wd} {a : Value} {vs : List Value} {C : Value → Prop} {D : List Value → Prop}
@[elab_as_elim] theorem VR.noneC (h : VR W a .none) (k : C .none) : C a := by cases h; exact k
@[elab_as_elim] theorem VR.boolC {b : Bool} (h : VR W a (.bool b)) (k : C (.bool b)) : C a := by cases h; exact k
@[elab_as_elim] theorem VR.intC {i : Int} (h : VR W a (.int i)) (k : ∀ t, C (.int i t)) : C a := by cases h; exact k _
@[elab_as_elim] theorem VR.strC {x : Str} (h : VR W a (.str x)) (k : ∀ t, C (.str x t)) : C a := by cases h; exact k _
@[elab_as_elim] theorem VR.tupC {l : List V} (h : VR W a (.tup l)) (k : ∀ p vs n, W.J p = some (tupO vs n) → VRs W vs l → C (.ref p)) : C a := by cases h with | tup e r => exact k _ _ _ e r
@[elab_as_elim] theorem VR.lstC {l : List V} (h : VR W a (.lst l)) (k : ∀ p vs n, W.J p = some (lstO vs n) → VRs W vs l → C (.ref p)) : C a := by cases h with | lst e r => exact k _ _ _ e r
@[elab_as_elim] theorem VR.objC {c i : Nat} (h : VR W a (.obj c i)) (k : ∀ p, i < W.n → W.J p = some (instObj c (W.ρ i)) → C (.ref p)) : C a := by cases h with | obj e r => exact k _ e r
@[elab_as_elim] theorem VR.refC {i : Nat} (h : VR W a (.ref i)) (k : i < W.n → C (.ref (W.ρ i))) : C a := by cases h with | ref e => exact k e
@[elab_as_elim] theorem VRs.nilC (h : VRs W vs []) (k : D []) : D vs := by cases h; exact k
@[elab_as_elim] theorem VRs.consC {x : V} {l : List V} (h : VRs W vs (x :: l)) (k : ∀ v r, VR W v x → VRs W r l → D (v :: r)) : D vs := by cases h with | cons e r => exact k _ _ e r
end
theorem VR.mono {W W' : Wd} (h : W.Le W') {v : Value} {x : V} (a : VR W v x) : VR W' v x :=
  VR.rec (motive_1 := fun v x _ => VR W' v x) (motive_2 := fun vs l _ => VRs W' vs l) .none .bool .int .str (fun e _ r => .tup (h.J _ _ e) r) (fun e _ r => .lst (h.J _ _ e) r)
    (fun hi e => .obj (Nat.lt_of_lt_of_le hi h.n) (by rw [h.ρ _ hi]; exact h.J _ _ e)) (fun hi => by rw [← h.ρ _ hi]; exact .ref (Nat.lt_of_lt_of_le hi h.n)) .nil (fun _ _ a r => .cons a r) a
theorem VRs.mono {W W' : Wd} (h : W.Le W') {vs : List Value} {l : List V} (a : VRs W vs l) : VRs W' vs l := by
  induction vs generalizing l with
  | nil => cases a; exact .nil
  | cons v vs ih => cases a with | cons a r => exact .cons (a.mono h) (ih r)

section
variable {W : Wd} {v : Value} {vs ws : List Value} {x : V} {l k : List V}
theorem VRs.length (h : VRs W vs l) : vs.length = l.length := by
  induction vs generalizing l with
  | nil => cases h; rfl
  | cons v vs ih => cases h with | cons _ r => rw [List.length_cons, List.length_cons, ih r]
theorem VRs.append (h : VRs W vs l) (g : VRs W ws k) : VRs W (vs ++ ws) (l ++ k) := by
  induction vs generalizing l with
  | nil => cases h; exact g
  | cons v vs ih => cases h with | cons a r => exact .cons a (ih r)
theorem VRs.get (h : VRs W vs l) {i : Nat} {x : V} (e : l[i]? = some x) : ∃ v, vs[i]? = some v ∧ VR W v x := by
  induction vs generalizing l i with
  | nil => cases h; simp at e
  | cons v vs ih =>
    cases h with
    | cons a r =>
      cases i with
      | zero => simp at e; subst e; exact ⟨v, rfl, a⟩
      | succ i => exact ih r (by simpa using e)
theorem VRs.get' (h : VRs W vs l) {i : Nat} {v : Value} (e : vs[i]? = some v) : ∃ x, l[i]? = some x ∧ VR W v x := by
  induction vs generalizing l i with
  | nil => simp at e
  | cons u vs ih =>
    cases h with
    | cons a r =>
      cases i with
      | zero => simp at e; subst e; exact ⟨_, rfl, a⟩
      | succ i => exact ih r (by simpa using e)
theorem VRs.set (h : VRs W vs l) (g : VR W v x) (i : Nat) : VRs W (vs.set i v) (l.set i x) := by
  induction vs generalizing l i with
  | nil => cases h; exact .nil
  | cons u vs ih =>
    cases h with
    | cons a r =>
      cases i with
      | zero => exact .cons g r
      | succ i => exact .cons a (ih r i)
theorem VRs.take (h : VRs W vs l) (i : Nat) : VRs W (vs.take i) (l.take i) := by
  induction vs generalizing l i with
  | nil => cases h; cases i <;> exact .nil
  | cons u vs ih =>
    cases h with
    | cons a r =>
      cases i with
      | zero => exact .nil
      | succ i => exact .cons a (ih r i)
theorem VRs.drop (h : VRs W vs l) (i : Nat) : VRs W (vs.drop i) (l.drop i) := by
  induction vs generalizing l i with
  | nil => cases h; cases i <;> exact .nil
  | cons u vs ih =>
    cases h with
    | cons a r =>
      cases i with
      | zero => exact .cons a r
      | succ i => exact ih r i
theorem VRs.one (h : VR W v x) : VRs W [v] [x] := .cons h .nil
theorem VRs.snoc (h : VRs W vs l) (g : VR W v x) : VRs W (vs ++ [v]) (l ++ [x]) := h.append (.one g)
end

/-! ## the concrete heap of an abstract one -/
section
variable (prog : Program) (w : World)

/-- the attribute dict of an object -/
inductive FsR (W : Wd) : List DictEntry → List (Str × V) → Prop
  | nil : FsR W [] []
  | cons {h : Int} {x : Str} {t : Tok} {v : Value} {es : List DictEntry} {y : V} {fs : List (Str × V)} : VR W v y → FsR W es fs → FsR W (⟨h, .str x t, v⟩ :: es) ((x, y) :: fs)

inductive KvR (W : Wd) : List (Str × Value) → List (Str × V) → Prop
  | nil : KvR W [] []
  | cons {x : Str} {v : Value} {es : List (Str × Value)} {y : V} {fs : List (Str × V)} : VR W v y → KvR W es fs → KvR W ((x, v) :: es) ((x, y) :: fs)

noncomputable def OR (W : Wd) (h : Heap) (a : Addr) : AO → Prop
  | .lst l => ∃ vs k, h.get? a = some (lstO vs k) ∧ VRs W vs l
  | .ins fs => ∃ es k, h.get? a = some (dictOf es k) ∧ FsR W es fs
  | .sd fs => ∃ kvs, h.DictOf (strKind prog w) a kvs ∧ KvR W kvs fs
  | .im k => ∃ kvs, h.DictOf (intKind prog w) a kvs ∧ kvs.length ≤ k

theorem FsR.mono {W W' : Wd} (h : W.Le W') : ∀ {es : List DictEntry} {fs : List (Str × V)}, FsR W es fs → FsR W' es fs
  | _, _, .nil => .nil
  | _, _, .cons a r => .cons (a.mono h) (FsR.mono h r)
theorem KvR.mono {W W' : Wd} (h : W.Le W') : ∀ {es : List (Str × Value)} {fs : List (Str × V)}, KvR W es fs → KvR W' es fs
  | _, _, .nil => .nil
  | _, _, .cons a r => .cons (a.mono h) (KvR.mono h r)

variable {prog w}
theorem OR.mono {W W' : Wd} {h h' : Heap} {a : Addr} {o : AO} (l : W.Le W') (k : ∀ ob, h.get? a = some ob → h'.get? a = some ob) (x : OR prog w W h a o) : OR prog w W' h' a o := by
  cases o with
  | lst vs => obtain ⟨vs, n, e, r⟩ := x; exact ⟨vs, n, k _ e, r.mono l⟩
  | ins fs => obtain ⟨es, n, e, r⟩ := x; exact ⟨es, n, k _ e, r.mono l⟩
  | sd fs => obtain ⟨es, e, r⟩ := x; exact ⟨es, e.at k, r.mono l⟩
  | im n => obtain ⟨es, e, r⟩ := x; exact ⟨es, e.at k, r⟩
theorem OR.some {W : Wd} {h : Heap} {a : Addr} {o : AO} (x : OR prog w W h a o) : ∃ ob, h.get? a = some ob := by
  cases o with
  | lst vs => obtain ⟨vs, n, e, r⟩ := x; exact ⟨_, e⟩
  | ins fs => obtain ⟨es, n, e, r⟩ := x; exact ⟨_, e⟩
  | sd fs => obtain ⟨es, ⟨ob, _, _, e, _⟩, r⟩ := x; exact ⟨_, e⟩
  | im n => obtain ⟨es, ⟨ob, _, _, e, _⟩, r⟩ := x; exact ⟨_, e⟩

variable (prog w)
structure WR (H : Heap) (W : Wd) (hp : Hp) (h : Heap) : Prop where
  n_eq : W.n = hp.length
  base : ∀ a o, H.get? a = some o → W.J a = some o
  jle : ∀ a o, W.J a = some o → h.get? a = some o
  jr : ∀ i, i < W.n → W.J (W.ρ i) = none
  inj : ∀ i j, i < W.n → j < W.n → W.ρ i = W.ρ j → i = j
  ob : ∀ i o, hp[i]? = some o → OR prog w W h (W.ρ i) o
end

/-- what a step may do; own: the frame's own addresses, which it may turn -/
structure Ext (own : List Addr) (W : Wd) (s : Shared) (W' : Wd) (s' : Shared) : Prop where
  le : W.Le W'
  same : ∃ h' tk, s' = { s with heap := h', toks := tk }
  keep : ∀ b o, b ∉ own → (∀ i, i < W.n → W.ρ i ≠ b) → s.heap.get? b = some o → s'.heap.get? b = some o
  alive : ∀ b o, s.heap.get? b = some o → ∃ o', s'.heap.get? b = some o'
  freshJ : ∀ b o, W.J b = none → W'.J b = some o → s.heap.get? b = none
  freshR : ∀ i, W.n ≤ i → i < W'.n → s.heap.get? (W'.ρ i) = none

theorem Ext.refl (own : List Addr) (W : Wd) (s : Shared) : Ext own W s W s :=
  ⟨.refl W, ⟨s.heap, s.toks, rfl⟩, fun _ _ _ _ e => e, fun _ o e => ⟨o, e⟩, fun b o e e' => (by rw [e] at e'; cases e'), fun i h1 h2 => absurd h2 (Nat.not_lt.mpr h1)⟩

theorem Ext.trans {own : List Addr} {W W' W'' : Wd} {s s' s'' : Shared} (a : Ext own W s W' s') (b : Ext own W' s' W'' s'') : Ext own W s W'' s'' := by
  have dead : ∀ c, s'.heap.get? c = none → s.heap.get? c = none := fun c e => by
    cases q : s.heap.get? c with
    | none => rfl
    | some o => obtain ⟨o', z⟩ := a.alive c o q; rw [e] at z; cases z
  refine ⟨a.le.trans b.le, ?_, ?_, ?_, ?_, ?_⟩
  · obtain ⟨h1, t1, e1⟩ := a.same
    obtain ⟨h2, t2, e2⟩ := b.same
    exact ⟨h2, t2, by rw [e2, e1]⟩
  · intro c o hc hr e
    have e1 := a.keep c o hc hr e
    refine b.keep c o hc (fun i hi q => ?_) e1
    by_cases hlt : i < W.n
    · exact hr i hlt ((a.le.ρ i hlt).symm.trans q)
    · have := a.freshR i (Nat.not_lt.mp hlt) hi
      rw [q, e] at this; cases this
  · intro c o e
    obtain ⟨o', e'⟩ := a.alive c o e
    exact b.alive c o' e'
  · intro c o e e'
    cases q : W'.J c with
    | none => exact dead c (b.freshJ c o q e')
    | some o' => exact a.freshJ c o' e q
  · intro i h1 h2
    by_cases hlt : i < W'.n
    · rw [b.le.ρ i hlt]; exact a.freshR i h1 hlt
    · exact dead _ (b.freshR i (Nat.not_lt.mp hlt) h2)

theorem Ext.weaken {own : List Addr} {W W' : Wd} {s s' : Shared} (a : Ext [] W s W' s') : Ext own W s W' s' :=
  ⟨a.le, a.same, fun b o _ h e => a.keep b o (by simp) h e, a.alive, a.freshJ, a.freshR⟩
theorem Ext.os {own : List Addr} {W W' : Wd} {s s' : Shared} (a : Ext own W s W' s') : s'.os = s.os ∧ s'.gens = s.gens := by
  obtain ⟨h, t, rfl⟩ := a.same; exact ⟨rfl, rfl⟩

theorem Ext.tok (own : List Addr) (W : Wd) (s : Shared) (tk : Nat) : Ext own W s W { s with toks := tk } :=
  ⟨.refl W, ⟨s.heap, tk, rfl⟩, fun _ _ _ _ e => e, fun _ o e => ⟨o, e⟩, fun b o e e' => (by rw [e] at e'; cases e'), fun i h1 h2 => absurd h2 (Nat.not_lt.mpr h1)⟩

/-- a heap that only grew, the abstract heap as it was -/
theorem Ext.grow {W : Wd} {s : Shared} {h' : Heap} {tk : Nat} (own : List Addr) (k : ∀ b o, s.heap.get? b = some o → h'.get? b = some o) : Ext own W s W { s with heap := h', toks := tk } :=
  ⟨.refl W, ⟨h', tk, rfl⟩, fun b o _ _ e => k b o e, fun b o e => ⟨o, k b o e⟩, fun b o e e' => (by rw [e] at e'; cases e'), fun i h1 h2 => absurd h2 (Nat.not_lt.mpr h1)⟩

section
variable {prog : Program} {w : World} {H : Heap} {W : Wd} {hp : Hp} {h h' : Heap}
theorem WR.grow (x : WR prog w H W hp h) (k : ∀ b o, h.get? b = some o → h'.get? b = some o) : WR prog w H W hp h' :=
  ⟨x.n_eq, x.base, fun a o e => k a o (x.jle a o e), x.jr, x.inj, fun i o e => (x.ob i o e).mono (.refl W) fun ob q => k _ ob q⟩
theorem WR.lt (x : WR prog w H W hp h) {i : Nat} {o : AO} (e : hp[i]? = some o) : i < W.n := by
  rw [x.n_eq]; exact (List.getElem?_eq_some_iff.mp e).1
theorem WR.alive (x : WR prog w H W hp h) {i : Nat} (hi : i < W.n) : ∃ ob, h.get? (W.ρ i) = some ob := by
  have : i < hp.length := x.n_eq ▸ hi
  exact (x.ob i hp[i] (by simp [this])).some
theorem WR.inK (x : WR prog w H W hp h) {K : Frag} (k : K.In H) : K.In h := k.keeps fun b o e => x.jle b o (x.base b o e)
theorem WR.keepH (x : WR prog w H W hp h) : ∀ b o, H.get? b = some o → h.get? b = some o := fun b o e => x.jle b o (x.base b o e)

/-- a new object that will not change -/
noncomputable def Wd.add (W : Wd) (a : Addr) (o : Obj) : Wd := { W with J := fun b => if b = a then some o else W.J b }
theorem Wd.le_add {W : Wd} {a : Addr} {o : Obj} (e : W.J a = none) : W.Le (W.add a o) :=
  ⟨fun b ob q => by
    show (if b = a then some o else W.J b) = some ob
    by_cases z : b = a
    · subst z; rw [e] at q; cases q
    · rw [if_neg z]; exact q, fun _ _ => rfl, Nat.le_refl _⟩
theorem Wd.add_self {W : Wd} {a : Addr} {o : Obj} : (W.add a o).J a = some o := by
  show (if a = a then some o else W.J a) = some o
  rw [if_pos rfl]
theorem WR.noneJ (x : WR prog w H W hp h) {a : Addr} (e : h.get? a = none) : W.J a = none := by
  cases q : W.J a with
  | none => rfl
  | some o => have := x.jle a o q; rw [e] at this; cases this
theorem WR.neR (x : WR prog w H W hp h) {a : Addr} (e : h.get? a = none) {i : Nat} (hi : i < W.n) : W.ρ i ≠ a := fun q => by
  obtain ⟨ob, z⟩ := x.alive hi
  rw [q, e] at z; cases z

theorem WR.push (x : WR prog w H W hp h) (o : Obj) (hf : o.isFreed = false) : WR prog w H (W.add h.objs.size o) hp (h.push o) := by
  have fresh : h.get? h.objs.size = none := by
    cases q : h.get? h.objs.size with
    | none => rfl
    | some ob => exact absurd (Heap.lt_size q) (Nat.lt_irrefl _)
  have le : W.Le (W.add h.objs.size o) := Wd.le_add (x.noneJ fresh)
  refine ⟨x.n_eq, fun a ob e => le.J _ _ (x.base a ob e), fun a ob e => ?_, fun i hi => ?_, x.inj, fun i ob e => (x.ob i ob e).mono le fun _ q => Heap.get?_push_of_some o q⟩
  · change (if a = h.objs.size then some o else W.J a) = some ob at e
    by_cases z : a = h.objs.size
    · rw [if_pos z] at e; cases e; subst z; exact Heap.get?_push_size _ hf
    · rw [if_neg z] at e; exact Heap.get?_push_of_some o (x.jle a ob e)
  · show (if W.ρ i = h.objs.size then some o else W.J (W.ρ i)) = none
    rw [if_neg (x.neR fresh hi)]; exact x.jr i hi

theorem fresh_size (h : Heap) : h.get? h.objs.size = none := by
  cases q : h.get? h.objs.size with
  | none => rfl
  | some ob => exact absurd (Heap.lt_size q) (Nat.lt_irrefl _)

theorem Ext.push {s : Shared} (x : WR prog w H W hp s.heap) (own : List Addr) (o : Obj) : Ext own W s (W.add s.heap.objs.size o) { s with heap := s.heap.push o } := by
  refine ⟨Wd.le_add (x.noneJ (fresh_size _)), ⟨_, _, rfl⟩, fun b ob _ _ e => Heap.get?_push_of_some o e, fun b ob e => ⟨ob, Heap.get?_push_of_some o e⟩, fun b ob e e' => ?_, fun i h1 h2 => absurd h2 (Nat.not_lt.mpr h1)⟩
  change (if b = s.heap.objs.size then some o else W.J b) = some ob at e'
  by_cases z : b = s.heap.objs.size
  · subst z; exact fresh_size _
  · rw [if_neg z, e] at e'; cases e'

/-- a new object that may change: the next index -/
noncomputable def Wd.new (W : Wd) (a : Addr) : Wd := { J := W.J, ρ := fun i => if i = W.n then a else W.ρ i, n := W.n + 1 }
theorem Wd.le_new (W : Wd) (a : Addr) : W.Le (W.new a) :=
  ⟨fun _ _ e => e, fun i hi => by show (if i = W.n then a else W.ρ i) = W.ρ i; rw [if_neg (Nat.ne_of_lt hi)], Nat.le_succ _⟩
theorem Wd.new_self (W : Wd) (a : Addr) : (W.new a).ρ W.n = a := by
  show (if W.n = W.n then a else W.ρ W.n) = a
  rw [if_pos rfl]

theorem WR.new (x : WR prog w H W hp h) {a : Addr} {ao : AO} (fresh : h.get? a = none) (k : ∀ b o, h.get? b = some o → h'.get? b = some o) (ho : OR prog w (W.new a) h' a ao) : WR prog w H (W.new a) (hp ++ [ao]) h' := by
  have le := Wd.le_new W a
  refine ⟨?_, x.base, fun b o e => k b o (x.jle b o e), fun i hi => ?_, fun i j hi hj e => ?_, fun i o e => ?_⟩
  · show W.n + 1 = _; rw [List.length_append, x.n_eq]; rfl
  · show W.J (if i = W.n then a else W.ρ i) = none
    by_cases z : i = W.n
    · rw [if_pos z]; exact x.noneJ fresh
    · rw [if_neg z]; exact x.jr i (Nat.lt_of_le_of_ne (Nat.le_of_lt_succ hi) z)
  · change (if i = W.n then a else W.ρ i) = (if j = W.n then a else W.ρ j) at e
    by_cases z : i = W.n <;> by_cases y : j = W.n
    · rw [z, y]
    · rw [if_pos z, if_neg y] at e; exact absurd e.symm (x.neR fresh (Nat.lt_of_le_of_ne (Nat.le_of_lt_succ hj) y))
    · rw [if_neg z, if_pos y] at e; exact absurd e (x.neR fresh (Nat.lt_of_le_of_ne (Nat.le_of_lt_succ hi) z))
    · rw [if_neg z, if_neg y] at e; exact x.inj i j (Nat.lt_of_le_of_ne (Nat.le_of_lt_succ hi) z) (Nat.lt_of_le_of_ne (Nat.le_of_lt_succ hj) y) e
  · by_cases z : i < hp.length
    · rw [List.getElem?_append_left z] at e
      have hi : i < W.n := x.n_eq ▸ z
      rw [le.ρ i hi]
      exact (x.ob i o e).mono le fun _ q => k _ _ q
    · have hl : i < (hp ++ [ao]).length := (List.getElem?_eq_some_iff.mp e).1
      rw [List.length_append, List.length_singleton] at hl
      have hi : i = hp.length := by omega
      subst hi
      simp at e
      subst e
      rw [← x.n_eq, Wd.new_self]; exact ho
theorem Ext.new {s : Shared} {a : Addr} {tk : Nat} (own : List Addr) (fresh : s.heap.get? a = none) (k : ∀ b o, s.heap.get? b = some o → h'.get? b = some o) : Ext own W s (W.new a) { s with heap := h', toks := tk } :=
  ⟨Wd.le_new W a, ⟨_, _, rfl⟩, fun b ob _ _ e => k b ob e, fun b ob e => ⟨ob, k b ob e⟩, fun b ob e e' => (by change W.J b = some ob at e'; rw [e] at e'; cases e'), fun i h1 h2 => by
    have : i = W.n := Nat.le_antisymm (Nat.le_of_lt_succ h2) h1
    subst this; rw [Wd.new_self]; exact fresh⟩

/-- an object of the abstract heap turned -/
theorem WR.upd (x : WR prog w H W hp h) {i : Nat} {ao : AO} (hi : i < W.n) (hs : Heap.SameBut (W.ρ i) h h') (ho : OR prog w W h' (W.ρ i) ao) : WR prog w H W (hp.set i ao) h' := by
  refine ⟨by rw [List.length_set]; exact x.n_eq, x.base, fun a o e => (hs.2 a fun q => ?_).trans (x.jle a o e), x.jr, x.inj, fun j o e => ?_⟩
  · subst q; rw [x.jr i hi] at e; cases e
  · by_cases z : j = i
    · subst z
      rw [List.getElem?_set_self (x.n_eq ▸ hi)] at e
      cases e; exact ho
    · rw [List.getElem?_set_ne (Ne.symm z)] at e
      refine (x.ob j o e).mono (.refl W) fun _ q => (hs.2 _ fun y => z (x.inj j i (x.lt e) hi y)).trans q
theorem Ext.upd {s : Shared} {i : Nat} {tk : Nat} (own : List Addr) (hi : i < W.n) (hs : Heap.SameBut (W.ρ i) s.heap h') (ha : ∃ o, h'.get? (W.ρ i) = some o) : Ext own W s W { s with heap := h', toks := tk } := by
  refine ⟨.refl W, ⟨_, _, rfl⟩, fun b ob _ hr e => (hs.2 b (Ne.symm (hr i hi))).trans e, fun b ob e => ?_, fun b o e e' => (by rw [e] at e'; cases e'), fun i h1 h2 => absurd h2 (Nat.not_lt.mpr h1)⟩
  by_cases z : b = W.ρ i
  · subst z; exact ha
  · exact ⟨ob, (hs.2 b z).trans e⟩
end
end Mine
end

section
open PySem PySem.W PyProof.Rows
namespace Mine
/-! ## the evaluator -/
noncomputable def put (x : Str) (v : V) : En → En
  | [] => [(x, v)]
  | (y, w) :: r => if y = x then (y, v) :: r else (y, w) :: put x v r

structure Cx where
  fns : List (Str × Addr)
  clss : List (Str × Addr × Addr)
  flds : List (Addr × List Str)
  meths : List (Addr × List (Str × Addr))

abbrev Rs (α : Type) := Option (α × Hp)
abbrev Call := Addr → List V → Hp → Rs V

noncomputable def lineMax : Nat := 1000

/-- what a list, a tuple or a made list holds -/
noncomputable def itemsOf (hp : Hp) : V → Option (List V)
  | .tup l => some l
  | .lst l => some l
  | .ref i => (match hp[i]? with | some (.lst l) => some l | _ => Option.none)
  | _ => Option.none

/-- ints, and tuples and lists of them -/
noncomputable def dOk : Nat → V → Bool
  | 0, v => (match v with | .int _ => true | _ => false)
  | n + 1, v => (match v with | .int _ => true | .tup l => l.all (dOk n) | .lst l => l.all (dOk n) | _ => false)

mutual
noncomputable def vEq : V → V → Bool
  | .none, y => (match y with | .none => true | _ => false)
  | .bool a, y => (match y with | .bool b => a == b | _ => false)
  | .int a, y => (match y with | .int b => a == b | _ => false)
  | .str a, y => (match y with | .str b => a == b | _ => false)
  | .tup l, y => (match y with | .tup m => vEqs l m | _ => false)
  | .lst l, y => (match y with | .lst m => vEqs l m | _ => false)
  | .obj C i, y => (match y with | .obj D j => C == D && i == j | _ => false)
  | .ref i, y => (match y with | .ref j => i == j | _ => false)
noncomputable def vEqs : List V → List V → Bool
  | [], m => (match m with | [] => true | _ :: _ => false)
  | x :: l, m => (match m with | [] => false | y :: m => vEq x y && vEqs l m)
end
mutual
theorem vEq_iff : ∀ (x y : V), vEq x y = true ↔ x = y
  | .none, y => by cases y <;> simp [vEq]
  | .bool a, y => by cases y <;> simp [vEq]
  | .int a, y => by cases y <;> simp [vEq]
  | .str a, y => by cases y <;> simp [vEq]
  | .tup l, y => by cases y <;> simp [vEq, vEqs_iff l]
  | .lst l, y => by cases y <;> simp [vEq, vEqs_iff l]
  | .obj C i, y => by cases y <;> simp [vEq]
  | .ref i, y => by cases y <;> simp [vEq]
theorem vEqs_iff : ∀ (l m : List V), vEqs l m = true ↔ l = m
  | [], m => by cases m <;> simp [vEqs]
  | x :: l, m => by cases m <;> simp [vEqs, vEq_iff x, vEqs_iff l]
end
noncomputable def fsEq : List (Str × V) → List (Str × V) → Bool
  | [], m => (match m with | [] => true | _ :: _ => false)
  | p :: l, m => (match m with | [] => false | q :: m => p.1 == q.1 && vEq p.2 q.2 && fsEq l m)
theorem fsEq_iff : ∀ (l m : List (Str × V)), fsEq l m = true ↔ l = m
  | [], m => by cases m <;> simp [fsEq]
  | (x, u) :: l, m => by
    cases m with
    | nil => simp [fsEq]
    | cons p m => obtain ⟨y, v⟩ := p; simp [fsEq, vEq_iff, fsEq_iff l]
noncomputable def aoEq (x y : AO) : Bool := match x with
  | .lst l => (match y with | .lst m => vEqs l m | _ => false)
  | .ins l => (match y with | .ins m => fsEq l m | _ => false)
  | .sd l => (match y with | .sd m => fsEq l m | _ => false)
  | .im j => (match y with | .im k => j == k | _ => false)
theorem aoEq_iff (x y : AO) : aoEq x y = true ↔ x = y := by
  cases x <;> cases y <;> simp [aoEq, vEqs_iff, fsEq_iff]
noncomputable def hpEq : Hp → Hp → Bool
  | [], m => (match m with | [] => true | _ :: _ => false)
  | x :: l, m => (match m with | [] => false | y :: m => aoEq x y && hpEq l m)
theorem hpEq_iff : ∀ (l m : Hp), hpEq l m = true ↔ l = m
  | [], m => by cases m <;> simp [hpEq]
  | x :: l, m => by cases m <;> simp [hpEq, aoEq_iff, hpEq_iff l]

noncomputable def deref (hp : Hp) : V → V
  | .ref i => (match hp[i]? with | some (.lst l) => .lst l | _ => .ref i)
  | v => v

noncomputable def int2 {α : Type} (a b : V) (f : Int → Int → Option α) : Option α := match a with
  | .int x => (match b with | .int y => f x y | _ => Option.none)
  | _ => Option.none
theorem int2E {α : Type} {a b : V} {f : Int → Int → Option α} {r : α} {C : Prop} (h : int2 a b f = some r) (k : ∀ x y, a = .int x → b = .int y → f x y = some r → C) : C := by
  cases a with
  | int x => cases b with
    | int y => exact k x y rfl rfl h
    | _ => exact nos h
  | _ => exact nos h
noncomputable def binop (op : Operator) (a b : V) : Option V :=
  match op with
  | .Add => (match a with
    | .tup l => (match b with
      | .tup k => if l.length + k.length ≤ lineMax then some (.tup (l ++ k)) else Option.none
      | _ => Option.none)
    | _ => int2 a b fun x y => some (.int (x + y)))
  | .Sub => int2 a b fun x y => some (.int (x - y))
  | .Mult => int2 a b fun x y => if 0 ≤ x ∧ x < 4294967296 ∧ 0 ≤ y ∧ y < 4294967296 then some (.int (x * y)) else Option.none
  | .Mod => int2 a b fun x y => if y = 0 then Option.none else some (.int (x.fmod y))
  | _ => Option.none

/-- l == [] or l != [] of a list whose items are not looked at, data else -/
noncomputable def dEq (x y : V) : Option Bool := if dOk 6 x && dOk 6 y then some (vEq x y) else Option.none
noncomputable def eqD (x y : V) : Option Bool := match x with
  | .bool a => (match y with | .bool b => some (a == b) | _ => Option.none)
  | .str a => (match y with | .str b => some (a == b) | _ => Option.none)
  | .lst l => (match y with
    | .lst m => (match l with
      | [] => (match m with | [] => dEq (.lst []) (.lst []) | _ :: _ => some false)
      | a :: l => (match m with | [] => some false | b :: m => dEq (.lst (a :: l)) (.lst (b :: m))))
    | y => dEq (.lst l) y)
  | x => dEq x y
noncomputable def eqV (hp : Hp) (a b : V) : Option Bool := eqD (deref hp a) (deref hp b)

noncomputable def inV (x : V) (l : List V) : Option Bool := if dOk 6 x && l.all (dOk 6) then some (l.any fun y => vEq y x) else Option.none

noncomputable def cmpV (hp : Hp) (op : CmpOp) (a b : V) : Option Bool :=
  match op with
  | .Lt => int2 a b fun x y => some (decide (x < y))
  | .LtE => int2 a b fun x y => some (decide (x ≤ y))
  | .Gt => int2 a b fun x y => some (decide (y < x))
  | .GtE => int2 a b fun x y => some (decide (y ≤ x))
  | .Is => (match b with
    | .none => (match a with | .none => some true | .tup _ => some false | _ => Option.none)
    | _ => Option.none)
  | .Eq => eqV hp a b
  | .NotEq => (eqV hp a b).map (!·)
  | .In => (itemsOf hp b).bind (inV a)
  | _ => Option.none

noncomputable def atV (l : List V) (k : Int) : Option V :=
  if 0 ≤ k then l[k.toNat]? else if k = -1 then l.getLast? else Option.none

noncomputable def field (fs : List (Str × V)) (x : Str) : Option V := fs.lookup x

noncomputable def bounds : V → Option Int
  | .int i => some i
  | _ => Option.none

noncomputable def isAsc : List Int → Bool
  | a :: b :: r => decide (a < b) && isAsc (b :: r)
  | _ => true

noncomputable def intsOf : List V → Option (List Int)
  | [] => some []
  | .int i :: r => (intsOf r).bind fun l => some (i :: l)
  | _ => Option.none

noncomputable def boolsOf : List V → Option (List Bool)
  | [] => some []
  | .bool i :: r => (boolsOf r).bind fun l => some (i :: l)
  | _ => Option.none

noncomputable def minL (a : Int) (l : List Int) : Int := l.foldl (fun m b => if b < m then b else m) a

noncomputable def builtinV (hp : Hp) (id : Str) (args : List V) : Option V :=
  if id = "len" then (match args with
    | [v] => (itemsOf hp v).bind fun l => if l.length ≤ lineMax then some (.int l.length) else Option.none
    | _ => Option.none)
  else if id = "min" then (match args with
    | [.int a, .int b] => some (.int (if b < a then b else a))
    | [.tup l] => (intsOf l).bind fun
      | a :: r => some (.int (minL a r))
      | [] => Option.none
    | _ => Option.none)
  else if id = "max" then (match args with
    | [.int a, .int b] => some (.int (if b > a then b else a))
    | _ => Option.none)
  else if id = "sorted" then (match args with
    | [.lst l] => (intsOf l).bind fun ns => if isAsc ns && Nat.ble ns.length 60 then some (.lst l) else Option.none
    | _ => Option.none)
  else if id = "tuple" then (match args with
    | [.tup l] => some (.tup l)
    | [v] => (itemsOf hp v).bind fun l => if l.length ≤ lineMax then some (.tup l) else Option.none
    | _ => Option.none)
  else if id = "all" then (match args with
    | [v] => (itemsOf hp v).bind fun l => (boolsOf l).bind fun bs => some (.bool (bs.all fun b => b))
    | _ => Option.none)
  else Option.none

/-- what is bound of the outer names within a comprehension -/
noncomputable def captured (sc : Nm) (env : En) : En := env.filter fun p => sc.lookup p.1 == some .free

/-- a comprehension's scope: a function's, each name once, its free names bound in the frame -/
noncomputable def scOk (scope : Scope) (sc : Nm) (env : En) : Bool :=
  scope.kind == .function && (scope.names.all fun x => match x.2 with
    | .local | .cell => scope.names.lookup x.1 == some x.2
    | .free => scope.names.lookup x.1 == some .free && (env.lookup x.1).isSome && (sc.lookup x.1 == some .cell || sc.lookup x.1 == some .free)
    | .globalImplicit => scope.names.lookup x.1 == some .globalImplicit
    | _ => false) && (scope.names.lookup ("__debug__" : Str)).isNone && (scope.names.lookup ("__classdict__" : Str)).isNone

noncomputable def relab (sc : Nm) (outer : Nm) : Nm := sc.map fun (n, k) => if (k == .free && outer.lookup n == some .cell) then (n, .cell) else (n, k)

noncomputable def isGl (sc : Nm) (x : Str) : Bool := match sc.lookup x with
  | some .globalImplicit => true
  | _ => false
/-- an attribute that the class of the object keeps in its dict -/
noncomputable def isFld (cx : Cx) (C : Nat) (x : Str) : Bool := match cx.flds.lookup C with
  | some l => l.contains x
  | Option.none => false
noncomputable def mayStore (sc : Nm) (x : Str) : Bool := match sc.lookup x with
  | some .local | some .cell => true
  | _ => false

inductive Fl where
  | next | ret (v : V)

/-- a value that may be left unused -/
noncomputable def unitV (v : V) (env : En) (hp : Hp) : Option (Fl × En × Hp) := match v with
  | .none | .bool _ | .int _ => some (.next, env, hp)
  | _ => Option.none
noncomputable def tgtNames : List Expr → Option (List Str)
  | [] => some []
  | .Name x _ :: r => (tgtNames r).bind fun l => some (x :: l)
  | _ => Option.none

noncomputable def putAll : List Str → List V → En → En
  | x :: xs, v :: vs, e => putAll xs vs (put x v e)
  | _, _, e => e

/-- the target of a for: a name, or a tuple of names -/
noncomputable def bindT (sc : Nm) (t : Expr) (v : V) (env : En) : Option En :=
  match t with
  | .Name x _ => if mayStore sc x then some (put x v env) else Option.none
  | .Tuple ts _ _ => (tgtNames ts).bind fun xs => (match v with
    | .tup l => if l.length = xs.length ∧ xs.all (mayStore sc) ∧ l.length ≤ lineMax then some (putAll xs l env) else Option.none
    | _ => Option.none)
  | _ => Option.none

/-- no star, no slice, no set display -/
noncomputable def plainE : Expr → Bool
  | .Starred _ _ | .Slice _ _ _ _ | .Set _ _ _ => false
  | _ => true

/-- a comprehension's target: names that are not bound yet -/
noncomputable def bindC (sc : Nm) (t : Expr) (v : V) (env : En) : Option En :=
  match t with
  | .Name x _ => if (env.lookup x).isNone then bindT sc t v env else Option.none
  | .Tuple ts _ _ => (tgtNames ts).bind fun xs => if xs.Nodup ∧ xs.all (fun x => (env.lookup x).isNone) then bindT sc t v env else Option.none
  | _ => Option.none

noncomputable def rangeV (k : Int) : List V := (List.range k.toNat).map fun (i : Nat) => V.int (i : Int)

/-- the turns over written items -/
noncomputable def forL (step : V → En → Hp → Option (Fl × En × Hp)) : List V → En → Hp → Option (Fl × En × Hp)
  | [], env, hp => some (.next, env, hp)
  | v :: r, env, hp => (step v env hp).bind fun (fl, env1, hp1) => match fl with
    | .next => forL step r env1 hp1
    | .ret v => some (.ret v, env1, hp1)

noncomputable def compL (step : V → Hp → Rs (List V)) : List V → Hp → Rs (List V)
  | [], hp => some ([], hp)
  | v :: r, hp => (step v hp).bind fun (l, hp1) => (compL step r hp1).bind fun (k, hp2) => some (l ++ k, hp2)

noncomputable def whileL (test : En → Hp → Rs Bool) (body : En → Hp → Option (Fl × En × Hp)) : Nat → En → Hp → Option (Fl × En × Hp)
  | 0, _, _ => Option.none
  | n + 1, env, hp => (test env hp).bind fun (b, hp1) => if b then (body env hp1).bind fun (fl, env1, hp2) => (match fl with
      | .next => whileL test body n env1 hp2
      | .ret v => some (.ret v, env1, hp2))
    else some (.next, env, hp1)

/-- the list that is walked must stand as it stood -/
noncomputable def stands (src : V) (l : List V) (hp : Hp) : Bool :=
  match src with
  | .ref i => (match hp[i]? with | some (.lst m) => vEqs m l | _ => false)
  | _ => true

/-- the written text keys of a dict display -/
noncomputable def evKs : List (Option Expr) → Option (List Str)
  | [] => some []
  | some (.Constant (.str x) _ _) :: r => (evKs r).bind fun l => some (x :: l)
  | _ => Option.none

noncomputable def sliceV (a : V) (lo up : Option Int) (l : List V) : Option (List V) :=
  match a with
  | .tup _ => Option.none
  | _ => match lo with
    | Option.none => (match up with
      | some k => if 0 ≤ k ∧ l.length ≤ lineMax then some (l.take k.toNat) else Option.none
      | Option.none => Option.none)
    | some k => (match up with
      | Option.none => if 0 ≤ k ∧ l.length ≤ lineMax then some (l.drop k.toNat) else Option.none
      | some _ => Option.none)

noncomputable def sdOf : Option AO → Option (List (Str × V))
  | some (.sd fs) => some fs
  | _ => Option.none
theorem sdOf_eq {o : Option AO} {fs : List (Str × V)} (h : sdOf o = some fs) : o = some (.sd fs) := by
  cases o with
  | none => exact nos h
  | some ob => cases ob with
    | sd l => cases h; rfl
    | _ => exact nos h
noncomputable def subV (hp : Hp) (a j : V) : Option V :=
  match j with
  | .str x => (match a with
    | .ref i => (sdOf hp[i]?).bind fun fs => fs.lookup x
    | _ => Option.none)
  | .int k => (itemsOf hp a).bind fun l => if l.length ≤ lineMax then atV l k else Option.none
  | _ => Option.none

noncomputable def guardR {α : Type} (b : Bool) (x : Option α) : Option α := if b then x else Option.none


section
mutual
noncomputable def evE (cx : Cx) (Φ : Call) : Nat → Nm → Expr → En → Hp → Rs V
  | 0, _, _, _, _ => Option.none
  | n + 1, sc, e, env, hp =>
    match e with
    | .Constant c _ _ => (match c with
      | .none => some (.none, hp)
      | .bool b => some (.bool b, hp)
      | .int i => some (.int i, hp)
      | .str x => some (.str x, hp)
      | _ => Option.none)
    | .Name x _ => (env.lookup x).bind fun v => some (v, hp)
    | .Tuple es _ _ => (evEs cx Φ n sc es env hp).bind fun (vs, hp1) => if vs.length ≤ lineMax then some (.tup vs, hp1) else Option.none
    | .List es _ => (evEs cx Φ n sc es env hp).bind fun (vs, hp1) => if vs.length ≤ lineMax then some (.lst vs, hp1) else Option.none
    | .BinOp l op r _ => (evE cx Φ n sc l env hp).bind fun (a, hp1) => (evE cx Φ n sc r env hp1).bind fun (b, hp2) => (binop op a b).bind fun v => some (v, hp2)
    | .UnaryOp .USub x _ => (evE cx Φ n sc x env hp).bind fun (a, hp1) => (match a with | .int i => some (.int (-i), hp1) | _ => Option.none)
    | .UnaryOp .Not x _ => (evE cx Φ n sc x env hp).bind fun (a, hp1) => (match a with | .bool b => some (.bool (!b), hp1) | _ => Option.none)
    | .BoolOp op [x, y] _ => (evE cx Φ n sc x env hp).bind fun (a, hp1) => (match op, a with
      | .And, .bool false => some (.bool false, hp1)
      | .Or, .bool true => some (.bool true, hp1)
      | _, .bool _ => evE cx Φ n sc y env hp1
      | _, _ => Option.none)
    | .IfExp t x y _ => (tst cx Φ n sc t env hp).bind fun (b, hp1) => if b then evE cx Φ n sc x env hp1 else evE cx Φ n sc y env hp1
    | .Compare l ops rs _ => (evE cx Φ n sc l env hp).bind fun (a, hp1) => (chain cx Φ n sc a ops rs env hp1).bind fun (b, hp2) => some (.bool b, hp2)
    | .Attribute (.Name o _) attr _ => (env.lookup o).bind fun
      | .obj C i => (match hp[i]? with
        | some (.ins fs) => if isFld cx C attr then (fs.lookup attr).bind fun v => some (v, hp) else Option.none
        | _ => Option.none)
      | _ => Option.none
    | .Subscript o (.Slice lo up Option.none _) _ => (evE cx Φ n sc o env hp).bind fun (a, hp1) => (evO cx Φ n sc lo env hp1).bind fun (x, hp2) => (evO cx Φ n sc up env hp2).bind fun (y, hp3) =>
      (itemsOf hp3 a).bind fun l => (sliceV a x y l).bind fun k => some (.lst k, hp3)
    | .Subscript o i _ => (evE cx Φ n sc o env hp).bind fun (a, hp1) => (evE cx Φ n sc i env hp1).bind fun (j, hp2) => (subV hp2 a j).bind fun v => some (v, hp2)
    | .ListComp elt gens scope _ => compV cx Φ n sc elt gens scope env hp
    | .Call f args [] pos => (match f with
      | .Name id _ => if ¬ isGl sc id then Option.none else
        (match cx.fns.lookup id with
        | some a => (evEs cx Φ n sc args env hp).bind fun (vs, hp1) => Φ a vs hp1
        | Option.none => (match cx.clss.lookup id with
          | some (C, fI) => (evEs cx Φ n sc args env hp).bind fun (vs, hp1) =>
            (Φ fI (.obj C hp1.length :: vs) (hp1 ++ [.ins []])).bind fun (v, hp2) => (match v with | .none => some (.obj C hp1.length, hp2) | _ => Option.none)
          | Option.none => (evEs cx Φ n sc args env hp).bind fun (vs, hp1) => (builtinV hp1 id vs).bind fun v => some (v, hp1)))
      | .Attribute (.Name o _) name ap => if ¬ (ap.endLine == pos.line && Nat.ble args.length 9) then Option.none else (env.lookup o).bind fun
        | .obj C i => (cx.meths.lookup C).bind fun ms => (ms.lookup name).bind fun f => (match hp[i]? with
          | some (.ins fs) => if (fs.lookup name).isSome then Option.none else (evEs cx Φ n sc args env hp).bind fun (vs, hp1) => Φ f (.obj C i :: vs) hp1
          | _ => Option.none)
        | .ref i => methV cx Φ n sc i name args env hp
        | _ => Option.none
      | .Attribute (.Attribute (.Name o _) attr _) name ap => if ¬ (ap.endLine == pos.line && Nat.ble args.length 9) then Option.none else (env.lookup o).bind fun
        | .obj C i => (match hp[i]? with
          | some (.ins fs) => if isFld cx C attr then (fs.lookup attr).bind fun
            | .ref j => methV cx Φ n sc j name args env hp
            | _ => Option.none
            else Option.none
          | _ => Option.none)
        | _ => Option.none
      | _ => Option.none)
    | _ => Option.none
noncomputable def evO (cx : Cx) (Φ : Call) : Nat → Nm → Option Expr → En → Hp → Rs (Option Int)
  | 0, _, _, _, _ => Option.none
  | n + 1, sc, e, env, hp => match e with
    | Option.none => some (Option.none, hp)
    | some e => (evE cx Φ n sc e env hp).bind fun (a, hp1) => (match a with | .int i => some (some i, hp1) | _ => Option.none)
noncomputable def evEs (cx : Cx) (Φ : Call) : Nat → Nm → List Expr → En → Hp → Rs (List V)
  | 0, _, _, _, _ => Option.none
  | n + 1, sc, es, env, hp => match es with
    | [] => some ([], hp)
    | e :: r => (evE cx Φ n sc e env hp).bind fun (v, hp1) => (evEs cx Φ n sc r env hp1).bind fun (vs, hp2) => some (v :: vs, hp2)
noncomputable def methV (cx : Cx) (Φ : Call) : Nat → Nm → Nat → Str → List Expr → En → Hp → Rs V
  | 0, _, _, _, _, _, _ => Option.none
  | n + 1, sc, i, name, args, env, hp =>
    if name = "append" then (match args with
      | [e] => (match hp[i]? with
        | some (.lst _) => (evM cx Φ n sc e env hp).bind fun (v, hp1) => (match hp1[i]? with
          | some (.lst l) => if l.length ≤ lineMax then some (.none, hp1.set i (.lst (l ++ [v]))) else Option.none
          | _ => Option.none)
        | _ => Option.none)
      | _ => Option.none)
    else if name = "pop" then (match args, hp[i]? with
      | [], some (.lst l) => if l.length ≤ lineMax then l.getLast?.bind fun v => some (v, hp.set i (.lst l.dropLast)) else Option.none
      | _, _ => Option.none)
    else Option.none
/-- a value whose list or dict may be changed later -/
noncomputable def evM (cx : Cx) (Φ : Call) : Nat → Nm → Expr → En → Hp → Rs V
  | 0, _, _, _, _ => Option.none
  | n + 1, sc, e, env, hp => match e with
    | .List [] _ => some (.ref hp.length, hp ++ [.lst []])
    | .Dict [] [] _ => some (.ref hp.length, hp ++ [.im 0])
    | .Dict ks vs _ => (evKs ks).bind fun names => (evEs cx Φ n sc vs env hp).bind fun (l, hp1) =>
      if l.length = names.length ∧ names.Nodup ∧ l.length ≤ 15 ∧ l ≠ [] then some (.ref hp1.length, hp1 ++ [.sd (names.zip l)]) else Option.none
    | .Tuple es _ _ => (evMs cx Φ n sc es env hp).bind fun (vs, hp1) => if vs.length ≤ lineMax then some (.tup vs, hp1) else Option.none
    | .Subscript o (.Slice lo up Option.none p) p' => (evE cx Φ n sc (.Subscript o (.Slice lo up Option.none p) p') env hp).bind fun (a, hp1) => (match a with
      | .lst l => some (.ref hp1.length, hp1 ++ [.lst l])
      | _ => Option.none)
    | .Call (.Name id p) [a] [] p' =>
      if id = "list" then (if ¬ isGl sc id then Option.none else (evE cx Φ n sc a env hp).bind fun (v, hp1) => (match v with
        | .tup _ => Option.none
        | v => (itemsOf hp1 v).bind fun l => if l.length ≤ lineMax then some (.ref hp1.length, hp1 ++ [.lst l]) else Option.none))
      else evE cx Φ n sc (.Call (.Name id p) [a] [] p') env hp
    | e => evE cx Φ n sc e env hp
noncomputable def evMs (cx : Cx) (Φ : Call) : Nat → Nm → List Expr → En → Hp → Rs (List V)
  | 0, _, _, _, _ => Option.none
  | n + 1, sc, es, env, hp => match es with
    | [] => some ([], hp)
    | e :: r => (evM cx Φ n sc e env hp).bind fun (v, hp1) => (evMs cx Φ n sc r env hp1).bind fun (vs, hp2) => some (v :: vs, hp2)
noncomputable def chain (cx : Cx) (Φ : Call) : Nat → Nm → V → List CmpOp → List Expr → En → Hp → Rs Bool
  | 0, _, _, _, _, _, _ => Option.none
  | n + 1, sc, a, ops, rs, env, hp => match ops, rs with
    | [op], [r] => if behindInMarks op r then Option.none else (evE cx Φ n sc r env hp).bind fun (b, hp1) => (cmpV hp1 op a b).bind fun c => some (c, hp1)
    | op :: op' :: ops, r :: r' :: rs => (evE cx Φ n sc r env hp).bind fun (b, hp1) => (cmpV hp1 op a b).bind fun c => if c then chain cx Φ n sc b (op' :: ops) (r' :: rs) env hp1 else some (false, hp1)
    | _, _ => Option.none
noncomputable def tst (cx : Cx) (Φ : Call) : Nat → Nm → Expr → En → Hp → Rs Bool
  | 0, _, _, _, _ => Option.none
  | n + 1, sc, e, env, hp => match e with
    | .UnaryOp .Not x _ => (tst cx Φ n sc x env hp).bind fun (b, hp1) => some (!b, hp1)
    | .BoolOp op [x, y] _ => (tst cx Φ n sc x env hp).bind fun (b, hp1) => (match op, b with
      | .And, false => some (false, hp1)
      | .Or, true => some (true, hp1)
      | _, _ => tst cx Φ n sc y env hp1)
    | .Compare l ops rs _ => (evE cx Φ n sc l env hp).bind fun (a, hp1) => chain cx Φ n sc a ops rs env hp1
    | .IfExp _ _ _ _ => Option.none
    | .BoolOp _ _ _ => Option.none
    | e => (evE cx Φ n sc e env hp).bind fun (a, hp1) => (match a with | .bool b => some (b, hp1) | _ => Option.none)
/-- the tests of a comprehension -/
noncomputable def tsts (cx : Cx) (Φ : Call) : Nat → Nm → List Expr → En → Hp → Rs Bool
  | 0, _, _, _, _ => Option.none
  | n + 1, sc, es, env, hp => match es with
    | [] => some (true, hp)
    | e :: r => (tst cx Φ n sc e env hp).bind fun (b, hp1) => if b then tsts cx Φ n sc r env hp1 else some (false, hp1)
/-- what is walked: the value (nothing for a range) and its items -/
noncomputable def evI (cx : Cx) (Φ : Call) : Nat → Nm → Expr → En → Hp → Rs (V × List V)
  | 0, _, _, _, _ => Option.none
  | n + 1, sc, e, env, hp => match e with
    | .Call (.Name id p) [a] [] p' =>
      if id = "range" then (if ¬ isGl sc id then Option.none else (evE cx Φ n sc a env hp).bind fun (v, hp1) => (match v with
        | .int k => if 0 ≤ k ∧ k ≤ 1000 then some ((V.none, rangeV k), hp1) else Option.none
        | _ => Option.none))
      else (evE cx Φ n sc (.Call (.Name id p) [a] [] p') env hp).bind fun (v, hp1) => (itemsOf hp1 v).bind fun l => if l.length ≤ lineMax then some ((v, l), hp1) else Option.none
    | e => (evE cx Φ n sc e env hp).bind fun (v, hp1) => (itemsOf hp1 v).bind fun l => if l.length ≤ lineMax then some ((v, l), hp1) else Option.none
noncomputable def compV (cx : Cx) (Φ : Call) : Nat → Nm → Expr → List Comprehension → Scope → En → Hp → Rs V
  | 0, _, _, _, _, _, _ => Option.none
  | n + 1, sc, elt, gens, scope, env, hp => if ¬ scOk scope sc env then Option.none else match gens with
    | [] => Option.none
    | ⟨t, it, ifs, as⟩ :: gs => (match gs with
      | [] => if as = 0 then (evI cx Φ n sc it env hp).bind fun (sl, hp1) =>
      (compL (fun v hq => (bindC scope.names t v (captured scope.names env)).bind fun en => (tsts cx Φ n (relab scope.names sc) ifs en hq).bind fun (b, hq1) =>
        if b then (evE cx Φ n (relab scope.names sc) elt en hq1).bind fun (x, hq2) => guardR (stands sl.1 sl.2 hq2) (some ([x], hq2))
        else guardR (stands sl.1 sl.2 hq1) (some ([], hq1))) sl.2 hp1).bind fun (l, hp2) => if l.length ≤ lineMax then some (.lst l, hp2) else Option.none else Option.none
      | ⟨t', it', ifs', as'⟩ :: r => (match r with
        | _ :: _ => Option.none
        | [] => (match ifs with
          | _ :: _ => Option.none
          | [] => if as = 0 ∧ as' = 0 then if ¬ plainE it' then Option.none else (evI cx Φ n sc it env hp).bind fun (sl, hp1) =>
      (compL (fun v hq => (bindC scope.names t v (captured scope.names env)).bind fun en => (evI cx Φ n (relab scope.names sc) it' en hq).bind fun (sl', hq1) =>
        (compL (fun u hr => (bindC scope.names t' u en).bind fun en' => (tsts cx Φ n (relab scope.names sc) ifs' en' hr).bind fun (b, hr1) =>
          if b then (evE cx Φ n (relab scope.names sc) elt en' hr1).bind fun (x, hr2) => guardR (stands sl'.1 sl'.2 hr2) (some ([x], hr2))
          else guardR (stands sl'.1 sl'.2 hr1) (some ([], hr1))) sl'.2 hq1).bind fun (l, hqe) => guardR (stands sl.1 sl.2 hqe) (some (l, hqe))) sl.2 hp1).bind fun (l, hp2) => if l.length ≤ lineMax then some (.lst l, hp2) else Option.none else Option.none)))
end

noncomputable def setF (x : Str) (v : V) : List (Str × V) → List (Str × V)
  | [] => [(x, v)]
  | (y, w) :: r => if y = x then (y, v) :: r else (y, w) :: setF x v r

noncomputable def setInt (hp : Hp) (i : Nat) (k : Int) (v : V) : Option AO → Option Hp
  | some (.lst l) => if l.length ≤ lineMax then (if 0 ≤ k ∧ k < l.length then some (hp.set i (.lst (l.set k.toNat v)))
      else if k = -1 ∧ l ≠ [] then some (hp.set i (.lst (l.set (l.length - 1) v))) else Option.none) else Option.none
  | some (.im k) => if k ≤ lineMax then some (hp.set i (.im (k + 1))) else Option.none
  | _ => Option.none
noncomputable def setSub (hp : Hp) (o j v : V) : Option Hp :=
  match o with
  | .ref i => (match j with
    | .int k => setInt hp i k v hp[i]?
    | .str x => (sdOf hp[i]?).bind fun fs => if (fs.lookup x).isSome ∧ fs.length ≤ lineMax then some (hp.set i (.sd (setF x v fs))) else Option.none
    | _ => Option.none)
  | _ => Option.none

noncomputable def setAttrV (cx : Cx) (hp : Hp) (o : V) (attr : Str) (v : V) : Option Hp :=
  match o with
  | .obj C i => (match hp[i]? with
    | some (.ins fs) => if fs.length ≤ 100 ∧ isFld cx C attr then some (hp.set i (.ins (setF attr v fs))) else Option.none
    | _ => Option.none)
  | _ => Option.none

noncomputable def pair2 {α : Type} (ts : List Expr) (l : List V) (f : Expr → Expr → V → V → Option α) : Option α := match ts with
  | [t1, t2] => (match l with
    | [v1, v2] => f t1 t2 v1 v2
    | _ => Option.none)
  | _ => Option.none
noncomputable def asgn1 {α : Type} (t : Expr) (a : Str → α) (b : List Expr → α) (c : α) : α := match t with
  | .Name x _ => a x
  | .Tuple ts _ _ => b ts
  | _ => c
theorem asgn1E {α : Type} {t : Expr} {a : Str → α} {b : List Expr → α} {c r : α} {C : Prop} (h : asgn1 t a b c = r) (k1 : ∀ x p, t = .Name x p → a x = r → C) (k2 : ∀ ts kk tp, t = .Tuple ts kk tp → b ts = r → C) (k3 : c = r → C) : C := by
  cases t with
  | Name x p => exact k1 x p rfl h
  | Tuple ts kk tp => exact k2 ts kk tp rfl h
  | _ => exact k3 h
/-- a store into a target that is no name -/
noncomputable def asT (cx : Cx) (Φ : Call) (n : Nat) (sc : Nm) (t : Expr) (v : V) (env : En) (hp : Hp) : Option Hp :=
  match t with
  | .Attribute (.Name o _) attr _ => (env.lookup o).bind fun ov => setAttrV cx hp ov attr v
  | .Subscript o i _ => (evE cx Φ n sc o env hp).bind fun (ov, hp1) => (evE cx Φ n sc i env hp1).bind fun (iv, hp2) => setSub hp2 ov iv v
  | _ => Option.none

/-- no display of constants alone -/
noncomputable def swapOk : Expr → Bool
  | .Tuple vs _ _ => !(vs.all (constantsAlone 8))
  | _ => true

mutual
noncomputable def exS (cx : Cx) (Φ : Call) : Nat → Nm → Stmt → En → Hp → Option (Fl × En × Hp)
  | 0, _, _, _, _ => Option.none
  | n + 1, sc, st, env, hp => match st with
    | .Expr (.Call f args kws p) _ => (evE cx Φ n sc (.Call f args kws p) env hp).bind fun (v, hp1) => unitV v env hp1
    | .Return (some e) _ => (evE cx Φ n sc e env hp).bind fun (v, hp1) => some (.ret v, env, hp1)
    | .Return Option.none _ => some (.ret .none, env, hp)
    | .Assign [t] e _ => asgn1 t (fun x => (evM cx Φ n sc e env hp).bind fun (v, hp1) => if mayStore sc x then some (.next, put x v env, hp1) else Option.none)
      (fun ts => if ¬ swapOk e then Option.none else (evM cx Φ n sc e env hp).bind fun (v, hp1) => (match v with
      | .tup l => (match tgtNames ts with
        | some xs => if l.length = xs.length ∧ xs.Nodup ∧ xs.all (mayStore sc) ∧ l.length ≤ lineMax then some (.next, putAll xs l env, hp1) else Option.none
        | Option.none => pair2 ts l fun t1 t2 v1 v2 => (asT cx Φ n sc t1 v1 env hp1).bind fun hp2 => (asT cx Φ n sc t2 v2 env hp2).bind fun hp3 => some (.next, env, hp3))
      | _ => Option.none))
      ((evM cx Φ n sc e env hp).bind fun (v, hp1) => (asT cx Φ n sc t v env hp1).bind fun hp2 => some (.next, env, hp2))
    | .If t b o _ => (tst cx Φ n sc t env hp).bind fun (c, hp1) => (if c then exSs cx Φ n sc b env hp1 else exSs cx Φ n sc o env hp1).bind fun (fl, env1, hp2) => some (fl, env1.take env.length, hp2)
    | .For t it b [] _ => (evI cx Φ n sc it env hp).bind fun (sl, hp1) =>
      forL (fun v en hq => (bindT sc t v en).bind fun en1 => (exSs cx Φ n sc b en1 hq).bind fun (fl, en2, hq1) => guardR (stands sl.1 sl.2 hq1) (some (fl, en2.take env.length, hq1))) sl.2 env hp1
    | .While t b [] _ => whileL (fun en hq => tst cx Φ n sc t en hq) (fun en hq => (exSs cx Φ n sc b en hq).bind fun (fl, en2, hq1) => some (fl, en2.take env.length, hq1)) 200 env hp
    | _ => Option.none
noncomputable def exSs (cx : Cx) (Φ : Call) : Nat → Nm → List Stmt → En → Hp → Option (Fl × En × Hp)
  | 0, _, _, _, _ => Option.none
  | n + 1, sc, ss, env, hp => match ss with
    | [] => some (.next, env, hp)
    | s :: r => (exS cx Φ n sc s env hp).bind fun (fl, env1, hp1) => (match fl with
      | .next => exSs cx Φ n sc r env1 hp1
      | .ret v => some (.ret v, env1, hp1))
end

/-! ## the functions -/
structure Fn where
  addr : Addr
  params : List Str
  names : Nm
  body : List Stmt
  pure : Bool

mutual
/-- no reference into what may change -/
noncomputable def noRef : V → Bool
  | .ref _ | .obj _ _ => false
  | .tup l | .lst l => noRefs l
  | _ => true
noncomputable def noRefs : List V → Bool
  | [] => true
  | v :: l => noRef v && noRefs l
end

/-- a made list that is handed back: from here on it does not change -/
noncomputable def froz (n : Nat) (hp : Hp) : V → Option V
  | .ref i => if n ≤ i then (match hp[i]? with | some (.lst l) => if noRefs l then some (.lst l) else Option.none | _ => Option.none) else Option.none
  | v => if noRef v then some v else Option.none

noncomputable def fuel : Nat := 60

noncomputable def flV : Fl → V
  | .ret v => v
  | .next => .none

/-- a method whose first statement calls the __init__ of the class above -/
structure Sup where
  addr : Addr
  base : Addr
  C : Addr
  params : List Str
  names : Nm
  args : List Expr
  rest : List Stmt

noncomputable def supF (cx : Cx) (Φ : Call) (su : Sup) (vs : List V) (hp : Hp) : Rs V :=
  match vs with
  | .obj C i :: _ => if C = su.C ∧ vs.length = su.params.length then
      (evEs cx Φ fuel su.names su.args (su.params.zip vs) hp).bind fun (us, hp1) => (Φ su.base (.obj C i :: us) hp1).bind fun (_, hp2) =>
        (exSs cx Φ fuel su.names su.rest (su.params.zip vs) hp2).bind fun (fl, _, hp3) => some (flV fl, hp3)
    else Option.none
  | _ => Option.none

noncomputable def callF (cx : Cx) (su : Sup) (fs : List Fn) : Nat → Call
  | 0 => fun _ _ _ => Option.none
  | k + 1 => fun a vs hp => if a = su.addr then supF cx (callF cx su fs k) su vs hp else match fs.find? fun f => f.addr == a with
    | Option.none => Option.none
    | some f => if vs.length = f.params.length then
        (exSs cx (callF cx su fs k) fuel f.names f.body (f.params.zip vs) hp).bind fun (fl, _, hp1) =>
          if f.pure then guardR (hpEq (hp1.take hp.length) hp) ((froz hp.length hp1 (flV fl)).bind fun v => some (v, hp)) else some (flV fl, hp1)
      else Option.none
end
end Mine
end

section
open PySem PySem.W PyProof.Rows
namespace Mine
/-- the frame: names of the abstract environment are bound to their values -/
structure EnvOK (st sc : Nm) (E : Env) (own : List Addr) (env : En) (W : Wd) (h : Heap) : Prop where
  names : E.scope.names = sc
  kind : E.scope.kind = .function
  glob : E.globals = mainGlobals
  blt : E.builtins = builtinsNs
  nodbg : sc.lookup ("__debug__" : Str) = none
  nocls : sc.lookup ("__classdict__" : Str) = none
  locO : E.locals ∈ own
  ns : ∃ m, h.Ns E.locals m ∧ ∀ x v, env.lookup x = some v → sc.lookup x = some .local → ∃ val, m x = some val ∧ VR W val v
  cel : ∀ x v, env.lookup x = some v → sc.lookup x ≠ some .local → ∃ c val, E.cells.lookup x = some c ∧ h.IsCell c (some val) ∧ VR W val v
  knd : ∀ x v, env.lookup x = some v → sc.lookup x = some .local ∨ sc.lookup x = some .cell ∨ sc.lookup x = some .free
  ownJ : ∀ a ∈ own, W.J a = none
  ownR : ∀ a ∈ own, ∀ i, i < W.n → W.ρ i ≠ a
  ownA : ∀ a ∈ own, ∃ o, h.get? a = some o
  cellA : ∀ x c, E.cells.lookup x = some c → (∃ v, h.IsCell c v) ∧ c ≠ E.locals ∧ ∀ i, i < W.n → W.ρ i ≠ c
  cellI : ∀ x y c, E.cells.lookup x = some c → E.cells.lookup y = some c → x = y
  stor : ∀ x, mayStore st x = true → sc.lookup x = some .local ∨ (sc.lookup x = some .cell ∧ ∃ c, E.cells.lookup x = some c ∧ c ∈ own)

structure Room (k : Nat) (A : Around) : Prop where
  hd : A.handled = none
  dep : A.depth + 2 * k + 10 < 1000
  un : A.units + 20 * k + 200 < 9900

theorem Room.lim {k : Nat} {A : Around} (r : Room k A) : A.depth < recursionLimit := by
  have := r.dep
  show A.depth < 1000
  omega
theorem Room.line {k : Nat} {A : Around} (r : Room k A) : A.units < cLine := by
  have := r.un
  show A.units < 9900
  omega

section
variable {prog : Program} {w : World} {H : Heap} {st sc : Nm} {E : Env} {own : List Addr} {env : En} {W W' : Wd} {hp hp' : Hp} {s s' : Shared}

/-- a step of another frame, or an expression -/
theorem EnvOK.ext (x : EnvOK st sc E own env W s.heap) (e : Ext [] W s W' s') : EnvOK st sc E own env W' s'.heap := by
  have kp : ∀ b o, (∀ i, i < W.n → W.ρ i ≠ b) → s.heap.get? b = some o → s'.heap.get? b = some o := fun b o h q => e.keep b o (by simp) h q
  have nj : ∀ a o, W.J a = none → s.heap.get? a = some o → W'.J a = none := fun a o h1 h2 => by
    cases q : W'.J a with
    | none => rfl
    | some o' => have := e.freshJ a o' h1 q; rw [h2] at this; (first | exact nos this | exact nof this | exact nos2 this | exact nof2 this | cases this)
  have nr : ∀ a o, (∀ i, i < W.n → W.ρ i ≠ a) → s.heap.get? a = some o → ∀ i, i < W'.n → W'.ρ i ≠ a := fun a o h1 h2 i hi q => by
    by_cases hlt : i < W.n
    · exact h1 i hlt ((e.le.ρ i hlt).symm.trans q)
    · have := e.freshR i (Nat.not_lt.mp hlt) hi
      rw [q, h2] at this; (first | exact nos this | exact nof this | exact nos2 this | exact nof2 this | cases this)
  have kc : ∀ c v, (∀ i, i < W.n → W.ρ i ≠ c) → s.heap.IsCell c v → s'.heap.IsCell c v := fun c v h ⟨o, ho, hd⟩ => ⟨o, kp c o h ho, hd⟩
  refine ⟨x.names, x.kind, x.glob, x.blt, x.nodbg, x.nocls, x.locO, ?_, ?_, x.knd, ?_, ?_, ?_, ?_, x.cellI, x.stor⟩
  · obtain ⟨m, hn, hm⟩ := x.ns
    refine ⟨m, hn.at' fun o q => kp _ o (x.ownR _ x.locO) q, fun y v h1 h2 => ?_⟩
    refine hide fun g_ t_ => ?_
    obtain ⟨val, a, b⟩ := hm y v h1 h2
    refine t_ ?_; clear t_ g_
    exact ⟨val, a, b.mono e.le⟩
  · intro y v h1 h2
    refine hide fun g_ t_ => ?_
    obtain ⟨c, val, a, b, d⟩ := x.cel y v h1 h2
    refine t_ ?_; clear t_ g_
    exact ⟨c, val, a, kc c _ (x.cellA y c a).2.2 b, d.mono e.le⟩
  · intro a ha
    obtain ⟨o, ho⟩ := x.ownA a ha
    exact nj a o (x.ownJ a ha) ho
  · intro a ha
    obtain ⟨o, ho⟩ := x.ownA a ha
    exact nr a o (x.ownR a ha) ho
  · intro a ha
    obtain ⟨o, ho⟩ := x.ownA a ha
    exact ⟨o, kp a o (x.ownR a ha) ho⟩
  · intro y c hc
    refine hide fun g_ t_ => ?_
    obtain ⟨⟨v, hv⟩, h1, h3⟩ := x.cellA y c hc
    obtain ⟨o, ho, _⟩ := id hv
    refine t_ ?_; clear t_ g_
    exact ⟨⟨v, kc c v h3 hv⟩, h1, nr c o h3 ho⟩

/-- forgetting names -/
theorem EnvOK.sub {env' : En} {h : Heap} (x : EnvOK st sc E own env W h) (hs : ∀ y v, env'.lookup y = some v → env.lookup y = some v) : EnvOK st sc E own env' W h := by
  refine ⟨x.names, x.kind, x.glob, x.blt, x.nodbg, x.nocls, x.locO, ?_, fun y v h1 h2 => x.cel y v (hs y v h1) h2, fun y v h1 => x.knd y v (hs y v h1), x.ownJ, x.ownR, x.ownA, x.cellA, x.cellI, x.stor⟩
  refine hide fun g_ t_ => ?_
  obtain ⟨m, hn, hm⟩ := x.ns
  refine t_ ?_; clear t_ g_
  exact ⟨m, hn, fun y v h1 h2 => hm y v (hs y v h1) h2⟩

theorem lookup_take : ∀ (env : En) (k : Nat) (y : Str) (v : V), (env.take k).lookup y = some v → env.lookup y = some v
  | [], k, y, v, h => by cases k <;> simp at h
  | (z, u) :: r, 0, y, v, h => by simp at h
  | (z, u) :: r, k + 1, y, v, h => by
    rw [List.take_succ_cons, List.lookup_cons] at h
    rw [List.lookup_cons]
    cases q : y == z with
    | true => rw [q] at h; exact h
    | false => rw [q] at h; exact lookup_take r k y v h
theorem lookup_filter (p : Str → Bool) : ∀ (env : En) (y : Str) (v : V), (env.filter fun q => p q.1).lookup y = some v → env.lookup y = some v ∧ p y = true
  | [], y, v, h => by simp at h
  | (z, u) :: r, y, v, h => by
    rw [List.filter_cons] at h
    rw [List.lookup_cons]
    by_cases hp : p z = true
    · simp only [hp, if_true] at h
      rw [List.lookup_cons] at h
      cases q : y == z with
      | true => rw [q] at h; rw [beq_iff_eq.mp q]; exact ⟨h, hp⟩
      | false => rw [q] at h; exact lookup_filter p r y v h
    · simp only [hp] at h
      have ih := lookup_filter p r y v h
      cases q : y == z with
      | true => rw [beq_iff_eq.mp q] at ih; exact absurd ih.2 hp
      | false => exact ih
theorem EnvOK.take {h : Heap} (x : EnvOK st sc E own env W h) (k : Nat) : EnvOK st sc E own (env.take k) W h := x.sub fun y v => lookup_take env k y v

theorem lookup_put (x : Str) (v : V) : ∀ (env : En) (y : Str), (put x v env).lookup y = if y = x then some v else env.lookup y
  | [], y => by
    by_cases h : y = x
    · subst h; simp [put]
    · have : (y == x) = false := by simpa using h
      simp [put, h, List.lookup, this]
  | (z, u) :: r, y => by
    unfold put
    by_cases hz : z = x
    · rw [if_pos hz]; subst hz
      rw [List.lookup_cons, List.lookup_cons]
      by_cases h : y = z
      · subst h; simp
      · have : (y == z) = false := by simpa using h
        simp [h, this]
    · rw [if_neg hz, List.lookup_cons, List.lookup_cons, lookup_put x v r y]
      by_cases h : y = z
      · subst h
        simp [hz]
      · have : (y == z) = false := by simpa using h
        simp [this]

/-- a name is stored -/
theorem store_ok {M : Model} {A : Around} {x : Str} {v : V} {val : Value} {Q : Unit → Shared → Prop} {Ex : Value → Shared → Prop} (wr : WR prog w H W hp s.heap) (x0 : EnvOK st sc E own env W s.heap) (hm : mayStore st x = true) (hv : VR W val v)
    (h : ∀ s', Ext own W s W s' → WR prog w H W hp s'.heap → EnvOK st sc E own (put x v env) W s'.heap → Q () s') : wpAny M A (storeName E x val) Q Ex s := by
  have nj : ∀ a ∈ own, ∀ b o, W.J b = some o → b ≠ a := fun a ha b o e q => by rw [q, x0.ownJ a ha] at e; (first | exact nos e | exact nof e | exact nos2 e | exact nof2 e | cases e)
  have base : ∀ a ∈ own, ∀ h', Heap.SameBut a s.heap h' → (∃ o, h'.get? a = some o) → ∀ tk, Ext own W s W { s with heap := h', toks := tk } ∧ WR prog w H W hp h' := by
    intro a ha h' hs hal tk
    refine ⟨⟨.refl W, ⟨_, _, rfl⟩, fun b o hb _ e => (hs.2 b fun q => hb (q ▸ ha)).trans e, fun b o e => ?_, fun b o e e' => (by rw [e] at e'; cases e'), fun i h1 h2 => absurd h2 (Nat.not_lt.mpr h1)⟩,
      ⟨wr.n_eq, wr.base, fun b o e => (hs.2 b (nj a ha b o e)).trans (wr.jle b o e), wr.jr, wr.inj, fun i o e => (wr.ob i o e).mono (.refl W) fun ob q => (hs.2 _ (x0.ownR a ha i (wr.lt e))).trans q⟩⟩
    by_cases z : b = a
    · subst z; exact hal
    · exact ⟨o, (hs.2 b z).trans e⟩
  have kindOf : E.kindOf x = sc.lookup x := by unfold Env.kindOf; rw [x0.names]
  refine hide fun g_ t_ => ?_
  obtain ⟨m, hn, hm'⟩ := x0.ns
  refine t_ ?_; clear t_ g_
  rcases x0.stor x hm with hl | ⟨hc, c, hcl, hco⟩
  · refine wpAny_storeName_local (by rw [kindOf]; exact hl) hn (fun h' hn' hs => ?_) (by rw [x0.kind]; rfl)
    refine hide fun g_ t_ => ?_
    obtain ⟨o, _, _, ho, _⟩ := id hn'
    obtain ⟨b1, b2⟩ := base _ x0.locO h' hs ⟨o, ho⟩ (s.toks + 1)
    refine t_ ?_; clear t_ g_
    refine h _ b1 b2 ⟨x0.names, x0.kind, x0.glob, x0.blt, x0.nodbg, x0.nocls, x0.locO, ⟨_, hn', fun y u h1 h2 => ?_⟩, fun y u h1 h2 => ?_, fun y u h1 => ?_, x0.ownJ, x0.ownR, fun a ha => ?_, fun y c hc => ?_, x0.cellI, x0.stor⟩
    · rw [lookup_put] at h1
      by_cases z : y = x
      · rw [if_pos z] at h1; cases h1; exact ⟨val, by simp [z], hv⟩
      · rw [if_neg z] at h1
        refine hide fun g_ t_ => ?_
        obtain ⟨u', a, b⟩ := hm' y u h1 h2
        refine t_ ?_; clear t_ g_
        exact ⟨u', by simp [z, a], b⟩
    · rw [lookup_put] at h1
      by_cases z : y = x
      · subst z; exact absurd hl h2
      · rw [if_neg z] at h1
        refine hide fun g_ t_ => ?_
        obtain ⟨c, u', a, b, d⟩ := x0.cel y u h1 h2
        refine t_ ?_; clear t_ g_
        exact ⟨c, u', a, b.sameBut hs (x0.cellA y c a).2.1, d⟩
    · rw [lookup_put] at h1
      by_cases z : y = x
      · subst z; exact .inl hl
      · rw [if_neg z] at h1; exact x0.knd y u h1
    · obtain ⟨o, ho⟩ := x0.ownA a ha
      exact b1.alive a o ho
    · obtain ⟨⟨v', hv'⟩, r1, r3⟩ := x0.cellA y c hc
      exact ⟨⟨v', hv'.sameBut hs r1⟩, r1, r3⟩
  · obtain ⟨⟨v0, hv0⟩, r1, r3⟩ := x0.cellA x c hcl
    refine wpAny_storeName_cell x0.kind (by rw [kindOf]; exact hc) hcl hv0 fun h' hc' hs => ?_
    refine hide fun g_ t_ => ?_
    obtain ⟨o, ho, _⟩ := id hc'
    obtain ⟨b1, b2⟩ := base _ hco h' hs ⟨o, ho⟩ s.toks
    refine t_ ?_; clear t_ g_
    refine h _ b1 b2 ⟨x0.names, x0.kind, x0.glob, x0.blt, x0.nodbg, x0.nocls, x0.locO, ⟨m, hn.sameBut hs (Ne.symm r1), fun y u h1 h2 => ?_⟩, fun y u h1 h2 => ?_, fun y u h1 => ?_, x0.ownJ, x0.ownR, fun a ha => ?_, fun y c' hc'' => ?_, x0.cellI, x0.stor⟩
    · rw [lookup_put] at h1
      by_cases z : y = x
      · subst z; rw [hc] at h2; (first | exact nos h2 | exact nof h2 | exact nos2 h2 | exact nof2 h2 | cases h2)
      · rw [if_neg z] at h1; exact hm' y u h1 h2
    · rw [lookup_put] at h1
      by_cases z : y = x
      · rw [if_pos z] at h1; cases h1; subst z; exact ⟨c, val, hcl, hc', hv⟩
      · rw [if_neg z] at h1
        refine hide fun g_ t_ => ?_
        obtain ⟨c', u', a, b, d⟩ := x0.cel y u h1 h2
        refine t_ ?_; clear t_ g_
        exact ⟨c', u', a, b.sameBut hs fun q => z (x0.cellI y x c' a (q ▸ hcl)), d⟩
    · rw [lookup_put] at h1
      by_cases z : y = x
      · subst z; exact .inr (.inl hc)
      · rw [if_neg z] at h1; exact x0.knd y u h1
    · obtain ⟨o, ho⟩ := x0.ownA a ha
      exact b1.alive a o ho
    · obtain ⟨⟨v', hv'⟩, q1, q3⟩ := x0.cellA y c' hc''
      refine ⟨?_, q1, q3⟩
      by_cases z : c' = c
      · subst z; exact ⟨_, hc'⟩
      · exact ⟨v', hv'.sameBut hs z⟩

/-- a name is read -/
theorem name_ok {M : Model} {A : Around} {x : Str} {pos : Pos} {v : V} {Q : Value → Shared → Prop} {Ex : Value → Shared → Prop} (x0 : EnvOK st sc E own env W s.heap) (hx : env.lookup x = some v)
    (h : ∀ val, VR W val v → Q val s) : wpAny M A (eval (.Name x pos) E) Q Ex s := by
  have kindOf : E.kindOf x = sc.lookup x := by unfold Env.kindOf; rw [x0.names]
  have hd : (x == ("__debug__" : Str)) = false := by
    cases q : x == ("__debug__" : Str) with
    | false => rfl
    | true =>
      have e := beq_iff_eq.mp q
      subst e
      rcases x0.knd _ v hx with k | k | k <;> rw [x0.nodbg] at k <;> cases k
  refine wpAny_Name ?_ hd
  by_cases hl : sc.lookup x = some .local
  · obtain ⟨m, hn, hm⟩ := x0.ns
    refine hide fun g_ t_ => ?_
    obtain ⟨val, a, b⟩ := hm x v hx hl
    refine t_ ?_; clear t_ g_
    exact wpAny_loadName_local x0.kind (by rw [kindOf]; exact hl) hn a (h val b)
  · obtain ⟨c, val, a, b, d⟩ := x0.cel x v hx hl
    rcases x0.knd x v hx with k | k | k
    · exact absurd k hl
    · exact wpAny_loadName_cell x0.kind (by rw [kindOf]; exact k) a b (h val d)
    · refine wpAny_loadName_free x0.kind (by rw [kindOf]; exact k) a b (h val d) ?_
      cases q : x == ("__classdict__" : Str) with
      | false => rfl
      | true =>
        have e := beq_iff_eq.mp q
        subst e
        rw [x0.nocls] at k; cases k
end
end Mine
end

section
open PySem PySem.W PyProof.Rows PySem.Spec PySem.SeqAt
namespace Mine
/-! ## data as the library reads it -/
mutual
noncomputable def pd : V → PyData
  | .int i => .int i
  | .tup l => .tuple (pds l)
  | .lst l => .list (pds l)
  | _ => .none
noncomputable def pds : List V → List PyData
  | [] => []
  | v :: l => pd v :: pds l
end
theorem pds_map : ∀ l, pds l = l.map pd
  | [] => rfl
  | v :: l => by rw [pds, pds_map l]; rfl

theorem reads_all {W : Wd} {h : Heap} (jle : ∀ a o, W.J a = some o → h.get? a = some o) {n : Nat} (ih : ∀ {v x}, VR W v x → dOk n x = true → ∃ as, Reads h v (pd x) as) :
    ∀ {vs : List Value} {l : List V}, VRs W vs l → l.all (dOk n) = true → ∃ as, ReadsAll h vs (pds l) as
  | _, _, .nil, _ => ⟨_, .nil⟩
  | _, _, .cons a r, hk => by
    rw [List.all_cons, Bool.and_eq_true] at hk
    obtain ⟨as, q⟩ := ih a hk.1
    obtain ⟨bs, p⟩ := reads_all jle ih r hk.2
    rw [pds]
    exact ⟨_, .cons q p⟩
theorem reads_of {W : Wd} {h : Heap} (jle : ∀ a o, W.J a = some o → h.get? a = some o) : ∀ (n : Nat) {v : Value} {x : V}, VR W v x → dOk n x = true → ∃ as, Reads h v (pd x) as := by
  intro n
  induction n with
  | zero =>
    intro v x hv hk
    (first | exact nos hv | exact nof hv | exact nos2 hv | exact nof2 hv | cases hv) <;> first | (simp [dOk] at hk; done) | exact ⟨_, .int _ _⟩
  | succ n ih =>
    intro v x hv hk
    cases hv with
    | int i t => exact ⟨_, .int _ _⟩
    | tup e r =>
      obtain ⟨as, q⟩ := reads_all jle ih r (by simpa [dOk] using hk)
      rw [pd]
      exact ⟨as, reads_tuple_at (jle _ _ e) rfl rfl (by simpa using q)⟩
    | lst e r =>
      obtain ⟨as, q⟩ := reads_all jle ih r (by simpa [dOk] using hk)
      rw [pd]
      exact ⟨_, reads_list_at (jle _ _ e) rfl rfl (by simpa using q)⟩
    | _ => simp [dOk] at hk
theorem lay_of : ∀ (n : Nat) (x : V), dOk n x = true → (pd x).canLay0 = true ∧ (pd x).depth ≤ n := by
  have all : ∀ (n : Nat), (∀ x, dOk n x = true → (pd x).canLay0 = true ∧ (pd x).depth ≤ n) → ∀ l : List V, l.all (dOk n) = true → PyData.canLayAll0 (pds l) = true ∧ PyData.depthAll (pds l) ≤ n := by
    intro n ih l
    induction l with
    | nil => intro _; simp [pds, PyData.canLayAll0, PyData.depthAll]
    | cons d ds hi =>
      intro h
      rw [List.all_cons, Bool.and_eq_true] at h
      have h1 := ih d h.1
      have h2 := hi h.2
      simp only [pds, PyData.canLayAll0, PyData.depthAll, h1.1, h2.1, Bool.and_self, true_and]
      have a1 := h1.2
      have a2 := h2.2
      omega
  intro n
  induction n with
  | zero => intro x h; cases x <;> simp_all [dOk, pd, PyData.canLay0, PyData.depth]
  | succ n ih =>
    intro x h
    cases x with
    | int i => simp [pd, PyData.canLay0, PyData.depth]
    | tup l =>
      have q := all n ih l (by simpa [dOk] using h)
      have q2 := q.2
      simp only [pd, PyData.canLay0, PyData.depth, q.1, true_and]
      omega
    | lst l =>
      have q := all n ih l (by simpa [dOk] using h)
      have q2 := q.2
      simp only [pd, PyData.canLay0, PyData.depth, q.1, true_and]
      omega
    | _ => simp [dOk] at h
theorem dOk_cases {n : Nat} {x : V} (h : dOk n x = true) : (∃ i, x = .int i) ∨ (∃ m l, x = .tup l ∧ n = m + 1 ∧ l.all (dOk m) = true) ∨ (∃ m l, x = .lst l ∧ n = m + 1 ∧ l.all (dOk m) = true) := by
  cases x with
  | int i => exact .inl ⟨i, rfl⟩
  | tup l =>
    cases n with
    | zero => simp [dOk] at h
    | succ m => exact .inr (.inl ⟨m, l, rfl, rfl, by rw [dOk] at h; exact h⟩)
  | lst l =>
    cases n with
    | zero => simp [dOk] at h
    | succ m => exact .inr (.inr ⟨m, l, rfl, rfl, by rw [dOk] at h; exact h⟩)
  | _ => cases n <;> simp [dOk] at h
theorem eqv_all {n : Nat} (ih : ∀ (k : Nat) (x y : V), dOk n x = true → dOk k y = true → (PyData.eqv (pd x) (pd y) = true ↔ x = y)) (k : Nat) : ∀ (l m : List V), l.all (dOk n) = true → m.all (dOk k) = true → (PyData.eqvAll (pds l) (pds m) = true ↔ l = m)
  | [], [], _, _ => by rw [pds, PyData.eqvAll]; exact ⟨fun _ => rfl, fun _ => rfl⟩
  | [], _ :: _, _, _ => by rw [pds, pds, PyData.eqvAll]; exact ⟨fun h => (nomatch h), fun h => (nomatch h)⟩
  | _ :: _, [], _, _ => by rw [pds, pds, PyData.eqvAll]; exact ⟨fun h => (nomatch h), fun h => (nomatch h)⟩
  | x :: l, y :: m, h1, h2 => by
    rw [List.all_cons, Bool.and_eq_true] at h1 h2
    rw [pds, pds, PyData.eqvAll, Bool.and_eq_true, ih k x y h1.1 h2.1, eqv_all ih k l m h1.2 h2.2, List.cons.injEq]
theorem eqv_of : ∀ (n k : Nat) (x y : V), dOk n x = true → dOk k y = true → (PyData.eqv (pd x) (pd y) = true ↔ x = y) := by
  intro n
  induction n with
  | zero =>
    intro k x y h1 h2
    obtain ⟨i, rfl⟩ | ⟨_, _, _, q, _⟩ | ⟨_, _, _, q, _⟩ := dOk_cases h1
    · obtain ⟨j, rfl⟩ | ⟨_, _, rfl, _, _⟩ | ⟨_, _, rfl, _, _⟩ := dOk_cases h2
      · rw [pd, pd, PyData.eqv, beq_iff_eq, V.int.injEq]
      · rw [pd, pd, PyData.eqv]; exact ⟨fun h => (nomatch h), fun h => (nomatch h)⟩
      · rw [pd, pd, PyData.eqv]; exact ⟨fun h => (nomatch h), fun h => (nomatch h)⟩
    · (first | exact nos q | exact nof q | exact nos2 q | exact nof2 q | cases q)
    · (first | exact nos q | exact nof q | exact nos2 q | exact nof2 q | cases q)
  | succ n ih =>
    intro k x y h1 h2
    obtain ⟨i, rfl⟩ | ⟨n', l, rfl, q, h1⟩ | ⟨n', l, rfl, q, h1⟩ := dOk_cases h1
    · obtain ⟨j, rfl⟩ | ⟨_, _, rfl, _, _⟩ | ⟨_, _, rfl, _, _⟩ := dOk_cases h2
      · rw [pd, pd, PyData.eqv, beq_iff_eq, V.int.injEq]
      · rw [pd, pd, PyData.eqv]; exact ⟨fun h => (nomatch h), fun h => (nomatch h)⟩
      · rw [pd, pd, PyData.eqv]; exact ⟨fun h => (nomatch h), fun h => (nomatch h)⟩
    · (first | exact nos q | exact nof q | exact nos2 q | exact nof2 q | cases q)
      obtain ⟨j, rfl⟩ | ⟨k, m, rfl, _, h2⟩ | ⟨k, m, rfl, _, h2⟩ := dOk_cases h2
      · rw [pd, pd, PyData.eqv]; exact ⟨fun h => (nomatch h), fun h => (nomatch h)⟩
      · rw [pd, pd, PyData.eqv, eqv_all ih k l m h1 h2, V.tup.injEq]
      · rw [pd, pd, PyData.eqv]; exact ⟨fun h => (nomatch h), fun h => (nomatch h)⟩
    · (first | exact nos q | exact nof q | exact nos2 q | exact nof2 q | cases q)
      obtain ⟨j, rfl⟩ | ⟨k, m, rfl, _, h2⟩ | ⟨k, m, rfl, _, h2⟩ := dOk_cases h2
      · rw [pd, pd, PyData.eqv]; exact ⟨fun h => (nomatch h), fun h => (nomatch h)⟩
      · rw [pd, pd, PyData.eqv]; exact ⟨fun h => (nomatch h), fun h => (nomatch h)⟩
      · rw [pd, pd, PyData.eqv, eqv_all ih k l m h1 h2, V.lst.injEq]
theorem vEq_of {n k : Nat} {x y : V} (h1 : dOk n x = true) (h2 : dOk k y = true) : PyData.eqv (pd x) (pd y) = vEq x y := by
  have := eqv_of n k x y h1 h2
  rw [← vEq_iff] at this
  cases h : vEq x y with
  | true => exact this.mpr h
  | false => exact Bool.eq_false_iff.mpr fun z => by rw [this.mp z] at h; (first | exact nos h | exact nof h | exact nos2 h | exact nof2 h | cases h)

section
variable {prog : Program} {w : World} {H : Heap} {W : Wd} {hp : Hp} {s : Shared} {k : Nat} {A : Around} {Ex : Value → Shared → Prop} {a b : Value} {x y : V}

/-- a list or tuple and its items -/
theorem items_at (wr : WR prog w H W hp s.heap) (va : VR W a x) {l : List V} (e : itemsOf hp x = some l) :
    ∃ addr vs n, a = .ref addr ∧ VRs W vs l ∧ ((x = .tup l ∧ s.heap.get? addr = some (tupO vs n)) ∨ ((∀ m, x ≠ .tup m) ∧ s.heap.get? addr = some (lstO vs n) ∧ deref hp x = .lst l)) := by
  cases va with
  | tup q r => simp [itemsOf] at e; subst e; exact ⟨_, _, _, rfl, r, .inl ⟨rfl, wr.jle _ _ q⟩⟩
  | lst q r => simp [itemsOf] at e; subst e; exact ⟨_, _, _, rfl, r, .inr ⟨fun _ z => (nomatch z), wr.jle _ _ q, rfl⟩⟩
  | @ref i hi =>
    simp only [itemsOf] at e
    cases z : hp[i]? with
    | none => rw [z] at e; (first | exact nos e | exact nof e | exact nos2 e | exact nof2 e | cases e)
    | some ao =>
      rw [z] at e
      cases ao <;> simp only [reduceCtorEq, Option.some.injEq] at e
      subst e
      obtain ⟨vs, n, h1, h2⟩ := wr.ob i _ z
      exact ⟨_, vs, n, rfl, h2, .inr ⟨fun _ q => (nomatch q), h1, by simp [deref, z]⟩⟩
  | _ => simp [itemsOf] at e

/-- equal as data -/
theorem reads_deref (wr : WR prog w H W hp s.heap) (va : VR W a x) {n : Nat} (hk : dOk n (deref hp x) = true) : ∃ as, Reads s.heap a (pd (deref hp x)) as := by
  cases va with
  | @ref i hi =>
    simp only [deref] at hk ⊢
    cases z : hp[i]? with
    | none => rw [z] at hk; cases n <;> simp [dOk] at hk
    | some ao =>
      rw [z] at hk
      cases ao with
      | lst l =>
        obtain ⟨vs, m, h1, h2⟩ := wr.ob i _ z
        simp only at hk ⊢
        cases n with
        | zero => simp [dOk] at hk
        | succ n =>
          obtain ⟨as, q⟩ := reads_all wr.jle (reads_of wr.jle n) h2 (by simpa [dOk] using hk)
          rw [pd]
          exact ⟨_, reads_list_at h1 rfl rfl (by simpa using q)⟩
      | _ => cases n <;> simp [dOk] at hk
  | none => exact reads_of wr.jle n .none hk
  | bool _ => exact reads_of wr.jle n (.bool _) hk
  | int _ t => exact reads_of wr.jle n (.int _ t) hk
  | str _ t => exact reads_of wr.jle n (.str _ t) hk
  | tup e r => exact reads_of wr.jle n (.tup e r) hk
  | lst e r => exact reads_of wr.jle n (.lst e r) hk
  | obj e r => exact reads_of wr.jle n (.obj e r) hk

theorem deref_cases (hp : Hp) (x : V) : deref hp x = x ∨ ∃ i l, x = .ref i ∧ hp[i]? = some (.lst l) ∧ deref hp x = .lst l := by
  cases x with
  | ref i =>
    cases z : hp[i]? with
    | none => left; simp [deref, z]
    | some ao => cases ao <;> first | (right; exact ⟨_, _, rfl, z, by simp [deref, z]⟩) | (left; simp [deref, z])
  | _ => left; rfl
theorem itemsOf_deref {l : List V} (h : deref hp x = .lst l) : itemsOf hp x = some l := by
  rcases deref_cases hp x with e | ⟨i, m, rfl, e, e'⟩
  · rw [e] at h; subst h; rfl
  · rw [e'] at h; cases h; simp [itemsOf, e]

theorem list_of (wr : WR prog w H W hp s.heap) (va : VR W a x) {l : List V} (h : deref hp x = .lst l) : ∃ addr vs n, a = .ref addr ∧ VRs W vs l ∧ s.heap.get? addr = some (lstO vs n) := by
  obtain ⟨addr, vs, n, e1, e2, e3⟩ := items_at wr va (itemsOf_deref h)
  rcases e3 with ⟨rfl, _⟩ | ⟨_, e3, _⟩
  · simp [deref] at h
  · exact ⟨addr, vs, n, e1, e2, e3⟩

theorem rows_len (wr : WR prog w H W hp s.heap) (va : VR W a x) (vb : VR W b y) (rm : Room k A) {l m : List V} (h1 : deref hp x = .lst l) (h2 : deref hp y = .lst m) (hl : l.length ≠ m.length) :
    RcAt A s a b false ∧ RcNeAt A s a b true := by
  obtain ⟨p, vs, n, rfl, r1, q1⟩ := list_of wr va h1
  obtain ⟨p', vs', n', rfl, r2, q2⟩ := list_of wr vb h2
  have hs : (vs.toArray.size != vs'.toArray.size) = true := by rw [bne_iff_ne]; rw [List.size_toArray, List.size_toArray, r1.length, r2.length]; exact hl
  exact ⟨RcAt.lists_lengths ⟨_, q1, rfl, _, rfl⟩ ⟨_, q2, rfl, _, rfl⟩ hs rm.line, RcNeAt.lists_lengths ⟨_, q1, rfl, _, rfl⟩ ⟨_, q2, rfl, _, rfl⟩ hs rm.line⟩

theorem eqD_inv {x y : V} {c : Bool} (e : eqD x y = some c) {C : Prop} (k1 : ∀ p q, x = .bool p → y = .bool q → (p == q) = c → C) (k2 : ∀ p q, x = .str p → y = .str q → (p == q) = c → C)
    (k3 : ∀ l m, x = .lst l → y = .lst m → l.length ≠ m.length → false = c → C) (k4 : dEq x y = some c → C) : C := by
  cases x with
  | bool p => cases y with
    | bool q => exact k1 p q rfl rfl (Option.some.inj e)
    | _ => exact nos e
  | str p => cases y with
    | str q => exact k2 p q rfl rfl (Option.some.inj e)
    | _ => exact nos e
  | lst l => cases y with
    | lst m => cases l with
      | nil => cases m with
        | nil => exact k4 e
        | cons _ _ => exact k3 _ _ rfl rfl (by simp) (Option.some.inj e)
      | cons _ _ => cases m with
        | nil => exact k3 _ _ rfl rfl (by simp) (Option.some.inj e)
        | cons _ _ => exact k4 e
    | _ => exact k4 e
  | _ => exact k4 e
theorem deref_eq {hp : Hp} {x p : V} (hp' : ∀ l, p ≠ .lst l) (h : deref hp x = p) : x = p := by
  rcases deref_cases hp x with h2 | ⟨_, _, _, _, h2⟩ <;> rw [h2] at h <;> first | exact h | exact absurd h.symm (hp' _)
theorem eqV_ok (wr : WR prog w H W hp s.heap) (va : VR W a x) (vb : VR W b y) (rm : Room k A) {c : Bool} (e : eqV hp x y = some c) {Q : Value → Shared → Prop} :
    (Q (.bool c) s → wpAny (model prog w) A (compareOp .Eq a b) Q Ex s) ∧ (Q (.bool (!c)) s → wpAny (model prog w) A (compareOp .NotEq a b) Q Ex s) := by
  have data : ∀ {x' y' : V}, x' = deref hp x → y' = deref hp y → (if dOk 6 x' && dOk 6 y' then some (vEq x' y') else Option.none) = some c →
      (Q (.bool c) s → wpAny (model prog w) A (compareOp .Eq a b) Q Ex s) ∧ (Q (.bool (!c)) s → wpAny (model prog w) A (compareOp .NotEq a b) Q Ex s) := by
    rintro _ _ rfl rfl e
    split at e
    · rename_i hk
      rw [Bool.and_eq_true] at hk
      (first | exact nos e | exact nof e | exact nos2 e | exact nof2 e | cases e)
      obtain ⟨as, ra⟩ := reads_deref wr va hk.1
      obtain ⟨bs, rb⟩ := reads_deref wr vb hk.2
      have la := lay_of _ _ hk.1
      have lb := lay_of _ _ hk.2
      have hu : A.units + min (pd (deref hp x)).depth (pd (deref hp y)).depth < cLine := by
        have := rm.un
        have := Nat.min_le_left (pd (deref hp x)).depth (pd (deref hp y)).depth
        show _ < 9900
        have := la.2
        omega
      refine ⟨fun h => compareEq_reads ra rb la.1 lb.1 hu ?_, fun h => compareNe_reads ra rb la.1 lb.1 hu ?_⟩ <;> rw [vEq_of hk.1 hk.2] <;> exact h
    · (first | exact nos e | exact nof e | exact nos2 e | exact nof2 e | cases e)
  refine eqD_inv e (fun p q ha hb hc => ?_) (fun p q ha hb hc => ?_) (fun l m ha hb hn hc => ?_) (fun e => data rfl rfl e)
  · have hx := deref_eq (fun _ h => V.noConfusion h) ha
    have hy := deref_eq (fun _ h => V.noConfusion h) hb
    subst hx hy hc
    (first | refine VR.noneC va ?_ | refine VR.boolC va ?_ | refine VR.intC va fun _ => ?_ | refine VR.strC va fun _ => ?_ | refine VRs.nilC va ?_ | cases va); (first | refine VR.noneC vb ?_ | refine VR.boolC vb ?_ | refine VR.intC vb fun _ => ?_ | refine VR.strC vb fun _ => ?_ | refine VRs.nilC vb ?_ | cases vb)
    exact ⟨eq_bool, fun h => ne_bool (by rw [bne]; exact h)⟩
  · have hx := deref_eq (fun _ h => V.noConfusion h) ha
    have hy := deref_eq (fun _ h => V.noConfusion h) hb
    subst hx hy hc
    (first | refine VR.noneC va ?_ | refine VR.boolC va ?_ | refine VR.intC va fun _ => ?_ | refine VR.strC va fun _ => ?_ | refine VRs.nilC va ?_ | cases va); (first | refine VR.noneC vb ?_ | refine VR.boolC vb ?_ | refine VR.intC vb fun _ => ?_ | refine VR.strC vb fun _ => ?_ | refine VRs.nilC vb ?_ | cases vb)
    exact ⟨PyProof.Rows.eq_str, fun h => PyProof.Rows.ne_str (by rw [bne]; exact h)⟩
  · subst hc
    obtain ⟨r1, r2⟩ := rows_len wr va vb rm ha hb hn
    exact ⟨fun h => r1 prog w Ex Q h, fun h => r2 prog w Ex Q h⟩

theorem inV_ok (wr : WR prog w H W hp s.heap) (va : VR W a x) (vb : VR W b y) (rm : Room k A) {l : List V} (hl : itemsOf hp y = some l) {c : Bool} (e : inV x l = some c) {Q : Value → Shared → Prop} (h : Q (.bool c) s) :
    wpAny (model prog w) A (compareOp .In a b) Q Ex s := by
  unfold inV at e
  split at e
  · rename_i hk
    rw [Bool.and_eq_true] at hk
    (first | exact nos e | exact nof e | exact nos2 e | exact nof2 e | cases e)
    obtain ⟨as, ra⟩ := reads_of wr.jle 6 va hk.1
    have la := lay_of 6 _ hk.1
    obtain ⟨addr, vs, n, rfl, r, q⟩ := items_at wr vb hl
    obtain ⟨bs, rb⟩ := reads_all wr.jle (reads_of wr.jle 6) r hk.2
    have lb := lay_of 7 (.lst l) (by simpa [dOk] using hk.2)
    rw [pd] at lb
    simp only [PyData.canLay0, PyData.depth] at lb
    have hu : A.units + (min (PyData.depthAll (pds l)) (pd x).depth + 2) < cLine := by
      have := rm.un
      have := Nat.min_le_right (PyData.depthAll (pds l)) (pd x).depth
      show _ < 9900
      have := la.2
      omega
    have any : ((pds l).any fun d => PyData.eqv d (pd x)) = l.any fun z => vEq z x := by
      rw [pds_map, List.any_map]
      have : ∀ z ∈ l, PyData.eqv (pd z) (pd x) = vEq z x := fun z hz => vEq_of (List.all_eq_true.mp hk.2 z hz) hk.1
      clear q r rb lb hu hl h
      induction l with
      | nil => rfl
      | cons z l ih =>
        rw [List.any_cons, List.any_cons, ih ⟨hk.1, by have := hk.2; rw [List.all_cons, Bool.and_eq_true] at this; exact this.2⟩ (fun u hu => this u (.tail _ hu))]
        rw [← this z (.head _)]; rfl
    rcases q with ⟨_, q⟩ | ⟨_, q, _⟩
    · refine in_tuple_reads (reads_tuple_at q rfl rfl (by simpa using rb)) ra lb.1 la.1 ?_ (by rw [any]; exact h)
      omega
    · refine in_list_reads (reads_list_at q rfl rfl (by simpa using rb)) ra lb.1 la.1 ?_ (by rw [any]; exact h)
      omega
  · (first | exact nos e | exact nof e | exact nos2 e | exact nof2 e | cases e)

theorem cmp_ok (wr : WR prog w H W hp s.heap) (va : VR W a x) (vb : VR W b y) (rm : Room k A) {op : CmpOp} {c : Bool} (e : cmpV hp op x y = some c) {Q : Value → Shared → Prop} (h : Q (.bool c) s) :
    wpAny (model prog w) A (compareOp op a b) Q Ex s := by
  cases op with
  | Lt => refine int2E e fun i j h1 h2 e => ?_; subst h1 h2; (first | refine VR.noneC va ?_ | refine VR.boolC va ?_ | refine VR.intC va fun _ => ?_ | refine VR.strC va fun _ => ?_ | refine VRs.nilC va ?_ | cases va); (first | refine VR.noneC vb ?_ | refine VR.boolC vb ?_ | refine VR.intC vb fun _ => ?_ | refine VR.strC vb fun _ => ?_ | refine VRs.nilC vb ?_ | cases vb); cases e; exact lt_int h
  | LtE => refine int2E e fun i j h1 h2 e => ?_; subst h1 h2; (first | refine VR.noneC va ?_ | refine VR.boolC va ?_ | refine VR.intC va fun _ => ?_ | refine VR.strC va fun _ => ?_ | refine VRs.nilC va ?_ | cases va); (first | refine VR.noneC vb ?_ | refine VR.boolC vb ?_ | refine VR.intC vb fun _ => ?_ | refine VR.strC vb fun _ => ?_ | refine VRs.nilC vb ?_ | cases vb); cases e; exact le_int h
  | Gt => refine int2E e fun i j h1 h2 e => ?_; subst h1 h2; (first | refine VR.noneC va ?_ | refine VR.boolC va ?_ | refine VR.intC va fun _ => ?_ | refine VR.strC va fun _ => ?_ | refine VRs.nilC va ?_ | cases va); (first | refine VR.noneC vb ?_ | refine VR.boolC vb ?_ | refine VR.intC vb fun _ => ?_ | refine VR.strC vb fun _ => ?_ | refine VRs.nilC vb ?_ | cases vb); cases e; exact gt_int h
  | GtE => refine int2E e fun i j h1 h2 e => ?_; subst h1 h2; (first | refine VR.noneC va ?_ | refine VR.boolC va ?_ | refine VR.intC va fun _ => ?_ | refine VR.strC va fun _ => ?_ | refine VRs.nilC va ?_ | cases va); (first | refine VR.noneC vb ?_ | refine VR.boolC vb ?_ | refine VR.intC vb fun _ => ?_ | refine VR.strC vb fun _ => ?_ | refine VRs.nilC vb ?_ | cases vb); cases e; exact ge_int h
  | Is =>
    cases y with
    | none =>
      cases x with
      | none => (first | refine VR.noneC va ?_ | refine VR.boolC va ?_ | refine VR.intC va fun _ => ?_ | refine VR.strC va fun _ => ?_ | refine VRs.nilC va ?_ | cases va); (first | refine VR.noneC vb ?_ | refine VR.boolC vb ?_ | refine VR.intC vb fun _ => ?_ | refine VR.strC vb fun _ => ?_ | refine VRs.nilC vb ?_ | cases vb); cases e; exact is_none h
      | tup _ => (first | refine VR.noneC va ?_ | refine VR.boolC va ?_ | refine VR.intC va fun _ => ?_ | refine VR.strC va fun _ => ?_ | refine VRs.nilC va ?_ | cases va); (first | refine VR.noneC vb ?_ | refine VR.boolC vb ?_ | refine VR.intC vb fun _ => ?_ | refine VR.strC vb fun _ => ?_ | refine VRs.nilC vb ?_ | cases vb); cases e; exact is_none h
      | _ => exact nos e
    | _ => exact nos e
  | Eq => exact (eqV_ok wr va vb rm e).1 h
  | NotEq =>
    obtain ⟨d, hd, rfl⟩ := Option.map_eq_some_iff.mp e
    exact (eqV_ok wr va vb rm hd).2 h
  | In =>
    obtain ⟨l, hl, he⟩ := Option.bind_eq_some_iff.mp e
    exact inV_ok wr va vb rm hl he h
  | _ => exact nos e
end
end Mine
end

section
open PySem PySem.W PyProof.Rows PySem.Spec PySem.SeqAt
namespace Mine
section
variable {prog : Program} {w : World} {H : Heap} {W : Wd} {hp : Hp} {s : Shared} {k : Nat} {A : Around} {Ex : Value → Shared → Prop} {a b : Value} {x y : V}

theorem size1000 {n : Nat} (h : n ≤ lineMax) : n ≤ sizeLine := by rw [sizeLine_eq]; unfold lineMax at h; omega

/-- a new tuple, a new list that does not change -/
theorem newTup_ok (wr : WR prog w H W hp s.heap) {vs : List Value} {l : List V} (hv : VRs W vs l) {Q : Value → Shared → Prop}
    (h : ∀ W' s' v, Ext [] W s W' s' → WR prog w H W' hp s'.heap → VR W' v (.tup l) → Q v s') : Q (.ref s.heap.objs.size) { s with heap := s.heap.push (tupO vs 0) } := by
  have e := Ext.push (s := s) wr [] (tupO vs 0)
  exact h _ _ _ e (wr.push _ rfl) (.tup Wd.add_self (hv.mono e.le))
theorem newLst_ok (wr : WR prog w H W hp s.heap) {vs : List Value} {l : List V} (hv : VRs W vs l) {Q : Value → Shared → Prop}
    (h : ∀ W' s' v, Ext [] W s W' s' → WR prog w H W' hp s'.heap → VR W' v (.lst l) → Q v s') : Q (.ref s.heap.objs.size) { s with heap := s.heap.push (lstO vs 0) } := by
  have e := Ext.push (s := s) wr [] (lstO vs 0)
  exact h _ _ _ e (wr.push _ rfl) (.lst Wd.add_self (hv.mono e.le))
/-- a new list that may change -/
theorem newRef_ok (wr : WR prog w H W hp s.heap) {vs : List Value} {l : List V} (hv : VRs W vs l) {Q : Value → Shared → Prop}
    (h : ∀ W' s' v, Ext [] W s W' s' → WR prog w H W' (hp ++ [.lst l]) s'.heap → VR W' v (.ref hp.length) → Q v s') : Q (.ref s.heap.objs.size) { s with heap := s.heap.push (lstO vs 0) } := by
  have kp : ∀ b o, s.heap.get? b = some o → (s.heap.push (lstO vs 0)).get? b = some o := fun b o e => Heap.get?_push_of_some _ e
  have e := Ext.new (s := s) (W := W) (tk := s.toks) [] (fresh_size s.heap) kp
  refine h _ _ _ e (wr.new (fresh_size _) kp ⟨vs, 0, Heap.get?_push_size _ rfl, hv.mono e.le⟩) ?_
  have := VR.ref (W := W.new s.heap.objs.size) (i := W.n) (Nat.lt_succ_self _)
  rw [Wd.new_self, wr.n_eq] at this
  exact this
theorem newIm_ok (wr : WR prog w H W hp s.heap) {Q : Value → Shared → Prop}
    (h : ∀ W' s' v, Ext [] W s W' s' → WR prog w H W' (hp ++ [.im 0]) s'.heap → VR W' v (.ref hp.length) → Q v s') : Q (.ref s.heap.objs.size) { s with heap := s.heap.push { cls := .type "dict", data := .dict #[] } } := by
  have kp : ∀ b o, s.heap.get? b = some o → (s.heap.push { cls := .type "dict", data := .dict #[] }).get? b = some o := fun b o e => Heap.get?_push_of_some _ e
  have e := Ext.new (s := s) (W := W) (tk := s.toks) [] (fresh_size s.heap) kp
  refine h _ _ _ e (wr.new (fresh_size _) kp ⟨[], Heap.DictOf.new _, Nat.zero_le _⟩) ?_
  have := VR.ref (W := W.new s.heap.objs.size) (i := W.n) (Nat.lt_succ_self _)
  rw [Wd.new_self, wr.n_eq] at this
  exact this

theorem binop_ok (wr : WR prog w H W hp s.heap) (va : VR W a x) (vb : VR W b y) {op : Operator} {z : V} (e : binop op x y = some z) {Q : Value → Shared → Prop}
    (h : ∀ W' s' v, Ext [] W s W' s' → WR prog w H W' hp s'.heap → VR W' v z → Q v s') : wpAny (model prog w) A (binaryOp op a b) Q Ex s := by
  have int : ∀ i, z = .int i → Q (.int i s.toks) { s with toks := s.toks + 1 } := fun i q => by subst q; exact h W _ _ (.tok _ _ _ _) wr (.int _ _)
  have add : int2 x y (fun i j => some (V.int (i + j))) = some z → wpAny (model prog w) A (binaryOp .Add a b) Q Ex s := fun e => by
    refine int2E e fun i j h1 h2 e => ?_
    subst h1 h2; (first | refine VR.noneC va ?_ | refine VR.boolC va ?_ | refine VR.intC va fun _ => ?_ | refine VR.strC va fun _ => ?_ | refine VRs.nilC va ?_ | cases va); (first | refine VR.noneC vb ?_ | refine VR.boolC vb ?_ | refine VR.intC vb fun _ => ?_ | refine VR.strC vb fun _ => ?_ | refine VRs.nilC vb ?_ | cases vb); cases e; exact add_int (int _ rfl)
  cases op with
  | Sub => refine int2E e fun i j h1 h2 e => ?_; subst h1 h2; (first | refine VR.noneC va ?_ | refine VR.boolC va ?_ | refine VR.intC va fun _ => ?_ | refine VR.strC va fun _ => ?_ | refine VRs.nilC va ?_ | cases va); (first | refine VR.noneC vb ?_ | refine VR.boolC vb ?_ | refine VR.intC vb fun _ => ?_ | refine VR.strC vb fun _ => ?_ | refine VRs.nilC vb ?_ | cases vb); cases e; exact sub_int (int _ rfl)
  | Mult =>
    refine int2E e fun i j h1 h2 e2 => ?_
    subst h1 h2; clear e; (first | refine VR.noneC va ?_ | refine VR.boolC va ?_ | refine VR.intC va fun _ => ?_ | refine VR.strC va fun _ => ?_ | refine VRs.nilC va ?_ | cases va); (first | refine VR.noneC vb ?_ | refine VR.boolC vb ?_ | refine VR.intC vb fun _ => ?_ | refine VR.strC vb fun _ => ?_ | refine VRs.nilC vb ?_ | cases vb)
    · refine iteSE e2 fun hb e => ?_
      cases e
      refine mul_int (int _ rfl) (IntMulOk.of_left ?_)
      unfold Builtin.Int.intBits
      split
      · omega
      · rename_i h0
        have h0' : i ≠ 0 := by simpa using h0
        have : i.natAbs.log2 < 32 := (Nat.log2_lt (by omega)).mpr (by omega)
        omega
  | Mod =>
    refine int2E e fun i j h1 h2 e2 => ?_
    subst h1 h2; clear e; (first | refine VR.noneC va ?_ | refine VR.boolC va ?_ | refine VR.intC va fun _ => ?_ | refine VR.strC va fun _ => ?_ | refine VRs.nilC va ?_ | cases va); (first | refine VR.noneC vb ?_ | refine VR.boolC vb ?_ | refine VR.intC vb fun _ => ?_ | refine VR.strC vb fun _ => ?_ | refine VRs.nilC vb ?_ | cases vb)
    refine iteNE e2 fun hb e => ?_
    cases e; exact mod_int hb (int _ rfl)
  | Add =>
    cases x with
    | tup l => cases y with
      | tup m =>
        · refine iteSE e fun hl e => ?_
          cases e
          refine VR.tupC va fun p vs n q1 r1 => ?_
          cases vb with
          | @tup p' vs' n' _ q2 r2 =>
          have ho := wr.jle _ _ q1
          have ho2 := wr.jle _ _ q2
          by_cases hv : vs = []
          · subst hv
            (first | refine VR.noneC r1 ?_ | refine VR.boolC r1 ?_ | refine VR.intC r1 fun _ => ?_ | refine VR.strC r1 fun _ => ?_ | refine VRs.nilC r1 ?_ | cases r1)
            exact concat_meets ⟨_, ho, rfl⟩ ⟨_, ho2, rfl⟩ noFill_tuple_add seq_tuple_add PySem.F.slot_tuple_add PySem.F.entry_tuple_add (PySem.F.args_tuple_add_2 _ _)
              (tuple_addW0 p p' _ _ n n' none none #[] #[] (by simp)) ⟨ho, ho2, h W s _ (.refl _ _ _) wr (.tup q2 r2)⟩
          · by_cases hw : vs' = []
            · subst hw
              (first | refine VR.noneC r2 ?_ | refine VR.boolC r2 ?_ | refine VR.intC r2 fun _ => ?_ | refine VR.strC r2 fun _ => ?_ | refine VRs.nilC r2 ?_ | cases r2)
              exact concat_meets ⟨_, ho, rfl⟩ ⟨_, ho2, rfl⟩ noFill_tuple_add seq_tuple_add PySem.F.slot_tuple_add PySem.F.entry_tuple_add (PySem.F.args_tuple_add_2 _ _)
                (tuple_addW1 p p' _ _ n n' none none #[] #[] (by simpa using hv) (by simp)) ⟨ho, ho2, by rw [List.append_nil] at h; exact h W s _ (.refl _ _ _) wr (.tup q1 r1)⟩
            · refine concat_meets ⟨_, ho, rfl⟩ ⟨_, ho2, rfl⟩ noFill_tuple_add seq_tuple_add PySem.F.slot_tuple_add PySem.F.entry_tuple_add (PySem.F.args_tuple_add_2 _ _)
                (tuple_addW2 p p' _ _ n n' none none #[] #[] (by simpa using hv) (by simpa using hw) (by rw [List.size_toArray, List.size_toArray, r1.length, r2.length]; exact size1000 hl)) ⟨ho, ho2, ?_⟩
              have : (vs.toArray ++ vs'.toArray) = (vs ++ vs').toArray := by simp
              rw [this]
              exact newTup_ok wr (r1.append r2) h
      | _ => exact nos e
    | _ => exact add e
  | _ => exact nos e

theorem atV_seq {l : List V} {i : Int} {z : V} (e : atV l i = some z) (hl : l.length ≤ lineMax) : -(2 ^ 63) ≤ i ∧ i < 2 ^ 63 ∧ ∃ j, seqIndex? i l.length = some j ∧ l[j]? = some z := by
  unfold lineMax at hl
  unfold atV at e
  split at e
  · rename_i h0
    have hlt := (List.getElem?_eq_some_iff.mp e).1
    refine ⟨by omega, by omega, i.toNat, ?_, e⟩
    unfold seqIndex?
    simp only [Int.not_lt.mpr h0, if_false]
    rw [if_pos]
    simp only [Bool.and_eq_true, decide_eq_true_eq]
    omega
  · split at e
    · rename_i h1
      subst h1
      cases l with
      | nil => simp at e
      | cons u r =>
        refine ⟨by omega, by omega, r.length, ?_, ?_⟩
        · unfold seqIndex?
          simp
          omega
        · rw [List.getLast?_eq_getElem?] at e
          simpa using e
    · (first | exact nos e | exact nof e | exact nos2 e | exact nof2 e | cases e)

/-- an item by its place -/
theorem item_ok (wr : WR prog w H W hp s.heap) (va : VR W a x) {l : List V} (hl : itemsOf hp x = some l) (hs : l.length ≤ lineMax) {i : Int} {t : Tok} {z : V} (e : atV l i = some z) {Q : Value → Shared → Prop}
    (h : ∀ v, VR W v z → Q v s) : wpAny (model prog w) A (getItem a (.int i t)) Q Ex s ∧ ∃ T id, s.TypeIs a T ∧ typeLookup (.type T) "__getitem__" = pure (some (.builtin id)) := by
  refine hide fun g_ t_ => ?_
  obtain ⟨addr, vs, n, rfl, r, q⟩ := items_at wr va hl
  obtain ⟨h1, h2, j, h3, h4⟩ := atV_seq e hs
  obtain ⟨v, hv, rv⟩ := r.get h4
  refine t_ ?_; clear t_ g_
  rcases q with ⟨_, q⟩ | ⟨_, q, _⟩
  · exact ⟨P.getItem_tuple (items := vs.toArray) q h1 h2 (by rw [List.size_toArray, r.length]; exact h3) (by simpa using hv) (h v rv), _, _, ⟨_, q, rfl⟩, F.slot_tuple_getitem.lookup⟩
  · have il : s.heap.IsList addr vs.toArray := ⟨_, q, rfl, _, rfl⟩
    refine ⟨?_, _, _, ⟨_, q, rfl⟩, list_getitem_lookup⟩
    by_cases h0 : 0 ≤ i
    · refine wpAny_getItem_list il h0 h2 (x := v) ?_ (h v rv)
      have : seqIndex? i l.length = some i.toNat := by
        unfold seqIndex? at h3 ⊢
        simp only [Int.not_lt.mpr h0, if_false] at h3 ⊢
        split at h3
        · rename_i c; rw [if_pos c]
        · (first | exact nos h3 | exact nof h3 | exact nos2 h3 | exact nof2 h3 | cases h3)
      rw [h3] at this; (first | exact nos this | exact nof this | exact nos2 this | exact nof2 this | cases this)
      simpa using hv
    · have hn : i < 0 := Int.not_le.mp h0
      unfold seqIndex? at h3
      simp only [hn, if_true] at h3
      split at h3
      · rename_i c
        simp only [Bool.and_eq_true, decide_eq_true_eq] at c
        (first | exact nos h3 | exact nof h3 | exact nos2 h3 | exact nof2 h3 | cases h3)
        refine wpAny_getItem_list_neg il hn (by rw [List.size_toArray, r.length]; omega) h1 (x := v) ?_ (h v rv)
        rw [List.size_toArray, r.length]
        simpa using hv
      · (first | exact nos h3 | exact nof h3 | exact nos2 h3 | exact nof2 h3 | cases h3)
end
end Mine
end

section
open PySem PySem.W PyProof.Rows PySem.Spec PySem.SeqAt PySem.Calls
namespace Mine
section
variable {prog : Program} {w : World} {H : Heap} {W : Wd} {hp : Hp} {s : Shared} {k : Nat} {A : Around} {Ex : Value → Shared → Prop} {a b c : Value} {x y z : V}

theorem setList_exact {l : Addr} {items : Array Value} {n : Nat} {i : Int} {t : Tok} {v : Value} {j : Nat} {Q : Unit → Shared → Prop} (hl : IsL s.heap l items n)
    (hj : (0 ≤ i ∧ i.toNat = j) ∨ (i = -1 ∧ j = items.size - 1)) (hn : j < items.size) (hs : items.size ≤ lineMax)
    (hQ : Q () { s with heap := s.heap.update l (Obj.mapSeq (·.setIfInBounds j v)) }) : wpAny (model prog w) A (setItem (.ref l) (.int i t) v) Q Ex s := by
  unfold lineMax at hs
  unfold setItem
  try with_reducible refine wpAny_holding ?_
  first | refine wpAny_bind (wpAny_pure ?_) | skip
  refine wpAny_bind (wpAny_sequenceKey hl.isList.typeIs (by decide) ?_)
  refine wpAny_bind (wpAny_callSpecial?_slot (name := Str.ofString "__setitem__") hl.isList.typeIs slot_list_setitem
    (wpAny_call_entry slot_list_setitem hl.isList.typeIs entry_list_setitem ?_ (args_list_setitem _ _ _)))
  show wpAny _ _ (Builtin.List.listSubscript? (.int i t) >>= _) _ _ s
  have hx' : items[j]? = some items[j] := Array.getElem?_eq_getElem hn
  rcases hj with ⟨h0, rfl⟩ | ⟨rfl, rfl⟩
  · refine wpAny_bind (wpAny_listSubscript_int (fitsIndex_of h0 (by omega)) ?_)
    obtain ⟨j, rfl⟩ := Int.eq_ofNat_of_zero_le h0
    show wpAny _ _ ((seqItemAt l j >>= fun r => pure (r.map (j, ·))) >>= _) _ _ s
    refine wpAny_bind (wpAny_bind (wpAny_seqItemAt hl rfl (wpAny_pure ?_)))
    have hx'' : items[j]? = some items[j] := hx'
    rw [hx'']
    show wpAny _ _ (setSeqItemAt l j v >>= _) _ _ s
    refine wpAny_bind (wpAny_setSeqItemAt hl rfl ?_)
    first
      | exact wpAny_bind (wpAny_pure (wpAny_pure ⟨.none, rfl, wpAny_pure hQ⟩))
      | exact wpAny_pure ⟨.none, rfl, wpAny_pure hQ⟩
  · refine wpAny_bind (wpAny_listSubscript_int (fitsIndex_neg (by omega) (by omega)) ?_)
    have hidx := seqIndex_neg (k := -1) (n := items.size) (by omega) (by omega)
    have e : (-1 + (items.size : Int)).toNat = items.size - 1 := by omega
    rw [e] at hidx
    show wpAny _ _ ((Builtin.List.listItems (.ref l) >>= fun xs => pure ((seqIndex? (Int.negSucc 0) xs.size).bind fun i => xs[i]?.map (i, ·))) >>= _) _ _ s
    refine wpAny_bind (wpAny_bind ?_)
    show wpAny _ _ (seqItems? (.ref l) >>= _) _ _ s
    refine wpAny_bind (wpAny_seqItems hl rfl (wpAny_pure (wpAny_pure ?_)))
    rw [show (Int.negSucc 0) = -1 from rfl, hidx]
    simp only [Option.bind_some, hx', Option.map_some]
    refine wpAny_bind (wpAny_setSeqItemAt hl rfl ?_)
    first
      | exact wpAny_bind (wpAny_pure (wpAny_pure ⟨.none, rfl, wpAny_pure hQ⟩))
      | exact wpAny_pure ⟨.none, rfl, wpAny_pure hQ⟩

theorem or_set_seq {W : Wd} {h : Heap} {ad : Addr} {vs : List Value} {n : Nat} {l : List V} (e : h.get? ad = some (lstO vs n)) {f : Array Value → Array Value} {ws : List Value} (hf : f vs.toArray = ws.toArray) (hv : VRs W ws l) :
    OR prog w W (h.update ad (Obj.mapSeq f)) ad (.lst l) := by
  have this := IsL.update (h := h) (l := ad) (items := vs.toArray) (n := n) e f
  rw [hf] at this
  exact ⟨ws, _, this, hv⟩

/-- a list of the abstract heap turned -/
theorem turn_ok (wr : WR prog w H W hp s.heap) {i : Nat} (hi : i < W.n) {f : Obj → Obj} {ao : AO} (ho : OR prog w W (s.heap.update (W.ρ i) f) (W.ρ i) ao) {Q : Shared → Prop} {tk : Nat}
    (h : ∀ W' s', Ext [] W s W' s' → WR prog w H W' (hp.set i ao) s'.heap → W'.Le W' → W = W' → Q s') : Q { s with heap := s.heap.update (W.ρ i) f, toks := tk } :=
  h W _ (Ext.upd [] hi (Heap.SameBut.update ..) ho.some) (wr.upd hi (Heap.SameBut.update ..) ho) (.refl _) rfl

theorem getL_cons (nm x : Str) (h : Int) (t : Tok) (v : Value) (es : List DictEntry) : getL nm (⟨h, .str x t, v⟩ :: es) = if x = nm then some (some v) else getL nm es := by
  unfold getL
  by_cases hx : x = nm
  · subst hx
    simp [Value.isStr]
  · have e2 : (Value.str x t).isStr nm = false := by simpa [Value.isStr] using hx
    have e3 : DictEntry.refKey ⟨h, .str x t, v⟩ = false := rfl
    simp [e2, hx, e3]
theorem FsR_get {es : List DictEntry} {fs : List (Str × V)} (r : FsR W es fs) (nm : Str) : (∃ v u, fs.lookup nm = some u ∧ getL nm es = some (some v) ∧ VR W v u) ∨ (fs.lookup nm = none ∧ getL nm es = some none) := by
  induction r with
  | nil => right; exact ⟨rfl, rfl⟩
  | @cons h x t v es y fs hv r ih =>
    rw [getL_cons, List.lookup_cons]
    by_cases hx : x = nm
    · subst hx
      left
      exact ⟨v, y, by simp, by simp, hv⟩
    · have e1 : (nm == x) = false := by simpa using fun q => hx q.symm
      simp only [e1, hx, if_false]
      exact ih
theorem FsR_put {es : List DictEntry} {fs : List (Str × V)} (r : FsR W es fs) {nm : Str} {hsh : Int} {tk : Tok} {v : Value} {u : V} (hv : VR W v u) : FsR W (putL nm hsh (.str nm tk) v es) (setF nm u fs) := by
  induction r with
  | nil => exact .cons hv .nil
  | @cons h x t v' es y fs hv' r ih =>
    unfold putL setF
    by_cases hx : x = nm
    · subst hx
      have e2 : (Value.str x t).isStr x = true := by simp [Value.isStr]
      simp only [e2, if_true]
      exact .cons hv r
    · have e2 : (Value.str x t).isStr nm = false := by simpa [Value.isStr] using hx
      simp only [e2, if_neg hx]
      exact .cons hv' ih
theorem FsR_len {es : List DictEntry} {fs : List (Str × V)} (r : FsR W es fs) : es.length = fs.length := by
  induction r with
  | nil => rfl
  | cons _ _ ih => simp [ih]

/-- what is known of a class of the text -/
structure ClsOK (K : Frag) (C : Addr) (flds : List Str) : Prop where
  ga : findIn K (.ref C) "__getattribute__" = some (some (.builtin "object.__getattribute__"))
  gt : findIn K (.ref C) "__getattr__" = some none
  sa : findIn K (.ref C) "__setattr__" = some (some (.builtin "object.__setattr__"))
  over : plainOver K C = true
  hasDict : hasDictIn K C = true
  noField : ∀ x ∈ flds, findIn K (.ref C) x = some none

theorem inst_at (wr : WR prog w H W hp s.heap) {C i : Nat} {fs : List (Str × V)} (va : VR W a (.obj C i)) (hi : hp[i]? = some (.ins fs)) :
    ∃ p es n, a = .ref p ∧ InstAt s.heap p (instObj C (W.ρ i)) C (some (dictOf es n)) ∧ FsR W es fs ∧ s.heap.get? (W.ρ i) = some (dictOf es n) := by
  refine VR.objC va fun p hlt e => ?_
  obtain ⟨es, n, h1, h2⟩ := wr.ob i _ hi
  exact ⟨p, es, n, rfl, ⟨wr.jle _ _ e, rfl, rfl, h1⟩, h2, h1⟩

theorem getAttr_ok {K : Frag} (X : K.In H) (wr : WR prog w H W hp s.heap) {C i : Nat} {fs : List (Str × V)} {flds : List Str} (va : VR W a (.obj C i)) (hi : hp[i]? = some (.ins fs)) (c : ClsOK K C flds) {attr : Str} (hm : attr ∈ flds) {u : V} (hl : fs.lookup attr = some u)
    {expr : Bool} {Q : Value → Shared → Prop} (h : ∀ v, VR W v u → Q v { s with toks := s.toks + 1 }) : wpAny (model prog w) A (getAttr a attr expr) Q Ex s := by
  obtain ⟨p, es, n, rfl, I, r, _⟩ := inst_at wr va hi
  rcases FsR_get r attr with ⟨v, u', h1, h2, h3⟩ | ⟨h1, _⟩
  · rw [hl] at h1; (first | exact nos h1 | exact nof h1 | exact nos2 h1 | exact nof2 h1 | cases h1)
    have hv : handedIn v = true := by (first | exact nos h3 | exact nof h3 | exact nos2 h3 | exact nof2 h3 | cases h3) <;> rfl
    exact get_value (wr.inK X) I c.ga (findObj_own c.hasDict (c.noField _ hm) rfl h2) hv (h v h3)
  · rw [hl] at h1; (first | exact nos h1 | exact nof h1 | exact nos2 h1 | exact nof2 h1 | cases h1)

theorem method_ok {K : Frag} (X : K.In H) (wr : WR prog w H W hp s.heap) {C i : Nat} {fs : List (Str × V)} {flds : List Str} (va : VR W a (.obj C i)) (hi : hp[i]? = some (.ins fs)) (c : ClsOK K C flds) {name : Str} {f : Addr}
    (hf : findIn K (.ref C) name = some (some (.ref f))) (ht : typeIn K (.ref f) = some (.type "function")) (hn : fs.lookup name = none)
    {pl : Sem Bool} {Q : Value × List Value → Shared → Prop} (h : Q (.ref f, [a]) s) : wpAny (model prog w) A (getMethod a name pl) Q Ex s := by
  obtain ⟨p, es, n, rfl, I, r, _⟩ := inst_at wr va hi
  rcases FsR_get r name with ⟨v, u', h1, h2, h3⟩ | ⟨_, h2⟩
  · rw [hn] at h1; (first | exact nos h1 | exact nof h1 | exact nos2 h1 | exact nof2 h1 | cases h1)
  · refine method_fn (wr.inK X) I c.ga c.gt hf ht ?_ h
    show (lookIn name (dictOf es n)).map _ = _
    rw [lookIn_dict, h2]; rfl

theorem setAttr_ok {K : Frag} (X : K.In H) (wr : WR prog w H W hp s.heap) {C i : Nat} {fs : List (Str × V)} {flds : List Str} (va : VR W a (.obj C i)) (hi : hp[i]? = some (.ins fs)) (c : ClsOK K C flds) {attr : Str} (hm : attr ∈ flds) {u : V} (vb : VR W b u) (hlen : fs.length ≤ 100)
    {Q : Unit → Shared → Prop} (h : ∀ W' s', Ext [] W s W' s' → WR prog w H W' (hp.set i (.ins (setF attr u fs))) s'.heap → Q () s') : wpAny (model prog w) A (setAttr a attr b) Q Ex s := by
  obtain ⟨p, es, n, rfl, I, r, hd⟩ := inst_at wr va hi
  have hlt : i < W.n := wr.lt hi
  have ht : takerIn K C attr = some none := by unfold takerIn; rw [c.noField _ hm]; rfl
  refine set_plain (wr.inK X) I c.sa ?_
  refine osa_open (s := { s with toks := s.toks + 1 }) (wr.inK X) I c.over ht fun bb => ?_
  obtain ⟨cd, hc, hd'⟩ := any_some c.hasDict
  have hz : es.length ≤ 1000 := by rw [FsR_len r]; omega
  refine wpAny_bind (wpAny_pure (wpAny_bind (wpAny_bind (wpAny_loadPart (s := { s with toks := s.toks + 1 }) I.at_ (wpAny_bind (looks_clsIn (wr.inK X) hc _ _ _ _ (fun _ _ e => e) ?_))))))
  rw [hd']
  refine wpAny_pure (a := some (W.ρ i)) (wpAny_bind (wpAny_pure (wpAny_bind ?_)))
  unfold nsSet
  refine wpAny_bind (wpAny_bind (wpAny_askSetting (wpAny_pure (wpAny_bind (wpAny_mkText (wpAny_bind (wpAny_loadPart hd ?_)))))))
  dsimp only
  have hl : ∃ q, getL attr es = some q := by
    rcases FsR_get r attr with ⟨v, u', h1, h2, h3⟩ | ⟨_, h2⟩ <;> exact ⟨_, h2⟩
  have cc : (!es.toArray.any (·.key.isStr attr) && es.toArray.any (·.refKey)) = false := by
    rw [← Array.any_toList, ← Array.any_toList]
    obtain ⟨q, hl⟩ := hl
    unfold getL at hl
    split at hl
    · rename_i en he
      rw [List.any_eq_true.mpr ⟨en, List.mem_of_find?_eq_some he, List.find?_some he⟩]; rfl
    · split at hl
      · (first | exact nos hl | exact nof hl | exact nos2 hl | exact nof2 hl | cases hl)
      · rename_i zz; rw [Bool.not_eq_true] at zz; rw [zz, Bool.and_false]
  rw [aRefKeyMayBeTheName_at, cc]
  refine wpAny_updatePart hd ?_
  have ep : Obj.putName attr (PyData.keyHash w.params attr) (.str attr (s.toks + 1)) b (dictOf es n) = dictOf (putL attr (PyData.keyHash w.params attr) (.str attr (s.toks + 1)) b es) (putN attr es n) := putName_dict _ _ _ _ _ _
  have hg : (s.heap.update (W.ρ i) (Obj.putName attr (PyData.keyHash w.params attr) (.str attr (s.toks + 1)) b)).get? (W.ρ i) = some (dictOf (putL attr (PyData.keyHash w.params attr) (.str attr (s.toks + 1)) b es) (putN attr es n)) := by
    rw [← ep]
    exact Heap.get?_update_self _ hd (by rw [ep]; rfl)
  have hz' : (putL attr (PyData.keyHash w.params attr) (.str attr (s.toks + 1)) b es).length ≤ 1001 := by
    have := FsR_len (FsR_put r (nm := attr) (hsh := PyData.keyHash w.params attr) (tk := s.toks + 1) vb)
    have e2 : ∀ l : List (Str × V), (setF attr u l).length ≤ l.length + 1 := by
      intro l
      induction l with
      | nil => exact Nat.le_refl _
      | cons q l ih =>
        obtain ⟨y', w'⟩ := q
        unfold setF
        split
        · simp
        · simp only [List.length_cons]; omega
    have := e2 fs
    omega
  refine wpAny_bind (wpAny_lookBehind hg (pastItsLine_dict (by rw [List.size_toArray, sizeLine_eq]; omega)) ?_)
  refine wpAny_pure ?_
  exact h W _ (Ext.upd [] hlt (Heap.SameBut.update ..) ⟨_, hg⟩) (wr.upd hlt (Heap.SameBut.update ..) ⟨_, _, hg, FsR_put r vb⟩)
end
end Mine
end

section
open PySem PySem.W PyProof.Rows PySem.Spec PySem.SeqAt PySem.Calls
namespace Mine
section
variable {prog : Program} {w : World} {H : Heap} {W : Wd} {hp : Hp} {s : Shared} {k : Nat} {A : Around} {Ex : Value → Shared → Prop} {a b c : Value} {x y z : V}

theorem KvR_get {kvs : List (Str × Value)} {fs : List (Str × V)} (r : KvR W kvs fs) {nm : Str} {u : V} (e : fs.lookup nm = some u) : ∃ v, PySem.valueAt kvs nm = some v ∧ VR W v u := by
  induction r with
  | nil => (first | exact nos e | exact nof e | exact nos2 e | exact nof2 e | cases e)
  | @cons x v es y fs hv r ih =>
    rw [List.lookup_cons] at e
    unfold PySem.valueAt
    rw [List.find?_cons]
    by_cases hx : x = nm
    · subst hx
      simp at e
      subst e
      exact ⟨v, by simp, hv⟩
    · have e1 : (nm == x) = false := by simpa using fun q => hx q.symm
      rw [e1] at e
      refine hide fun g_ t_ => ?_
      obtain ⟨v', h1, h2⟩ := ih e
      refine t_ ?_; clear t_ g_
      refine ⟨v', ?_, h2⟩
      simp only [hx, decide_false]
      exact h1

theorem subscripted_plain {slice : Expr} {o i : Value} (h : ∀ l u p, slice ≠ .Slice l u none p) : subscripted slice false o i = operate [o, i] (getItem o i) := by
  unfold subscripted
  split
  · exact absurd rfl (h _ _ _)
  · rename_i q; (first | exact nos q | exact nof q | exact nos2 q | exact nof2 q | cases q)
  · rfl

theorem subV_ok (wr : WR prog w H W hp s.heap) (va : VR W a x) (vb : VR W b y) (e : subV hp x y = some z) {value slice : Expr} (hsl : ∀ l u p, slice ≠ .Slice l u none p) {Q : Value → Shared → Prop}
    (h : ∀ v s', Ext [] W s W s' → WR prog w H W hp s'.heap → VR W v z → Q v s') : wpAny (model prog w) A (subscriptTail value slice a b) Q Ex s := by
  cases y with
  | str nm =>
    cases x with
    | ref i =>
      refine bd1 e fun fs hi e => ?_
      refine hide fun g_ t_ => ?_
      obtain ⟨kvs, hd, r⟩ := wr.ob i _ (sdOf_eq hi)
      obtain ⟨v, h1, h2⟩ := KvR_get r e
      refine t_ ?_; clear t_ g_
      (first | refine VR.noneC va ?_ | refine VR.boolC va ?_ | refine VR.intC va fun _ => ?_ | refine VR.strC va fun _ => ?_ | refine VRs.nilC va ?_ | cases va); (first | refine VR.noneC vb ?_ | refine VR.boolC vb ?_ | refine VR.intC vb fun _ => ?_ | refine VR.strC vb fun _ => ?_ | refine VRs.nilC vb ?_ | cases vb)
      exact tail_any hd.typeIs F.slot_dict_getitem.lookup (wpAny_getItem_of (knd := PySem.strKind prog w) (k := nm) (by simp [PySem.strKind, Value.isStrOf]) hd.mapOf h1 (h v _ (.tok _ _ _ _) wr h2)) (subscripted_plain hsl)
    | _ => exact nos e
  | int i =>
    refine bd1 e fun l hl he => ?_
    refine iteSE he fun hs he => ?_
    refine VR.intC vb fun t => ?_
    refine hide fun g_ t_ => ?_
    obtain ⟨g, T, id, hT, hL⟩ := item_ok (A := A) (Ex := Ex) (t := t) wr va hl hs he (Q := Q) fun v hv => h v s (.refl _ _ _) wr hv
    refine t_ ?_; clear t_ g_
    exact tail_any hT hL g (subscripted_plain hsl)
  | _ => exact nos e

theorem slice_ok (wr : WR prog w H W hp s.heap) (va : VR W a x) {l m : List V} (hl : itemsOf hp x = some l) {lo up : Option Int} (hs : sliceV x lo up l = some m) {vl vu : Value} (pl : IsPart vl lo) (pu : IsPart vu up) {value : Expr} {lo' up' : Option Expr} {p : Pos} {Q : Value → Shared → Prop}
    (h : ∀ ks s2, Ext [] W s W s2 → WR prog w H W hp s2.heap → VRs W ks m → Q (.ref s2.heap.objs.size) { s2 with heap := s2.heap.push (lstO ks 0) }) :
    wpAny (model prog w) A (subscriptTail value (.Slice lo' up' none p) a (.ref s.heap.objs.size)) Q Ex { s with heap := s.heap.push { cls := .type "slice", data := .fields #[vl, vu, .none] } } := by
  refine hide fun g_ t_ => ?_
  obtain ⟨addr, vs, n, rfl, r, q⟩ := items_at wr va hl
  refine t_ ?_; clear t_ g_
  rcases q with ⟨rfl, _⟩ | ⟨hnt, q, _⟩
  · unfold sliceV at hs; (first | exact nos hs | exact nof hs | exact nos2 hs | exact nof2 hs | cases hs)
  have il : s.heap.IsList addr vs.toArray := ⟨_, q, rfl, _, rfl⟩
  have kp : ∀ b o, s.heap.get? b = some o → (s.heap.push { cls := .type "slice", data := .fields #[vl, vu, .none] }).get? b = some o := fun b o e => Heap.get?_push_of_some _ e
  have il' := il.at fun o e => kp addr o e
  have hz : l.length ≤ lineMax ∧ ((∃ j : Int, lo = none ∧ up = some j ∧ 0 ≤ j ∧ m = l.take j.toNat) ∨ (∃ j : Int, lo = some j ∧ up = none ∧ 0 ≤ j ∧ m = l.drop j.toNat)) := by
    cases x with
    | tup l' => exact absurd rfl (hnt l')
    | _ =>
      cases lo with
      | none => cases up with
        | none => exact nos hs
        | some j => exact iteSE hs fun hh hs => ⟨hh.2, .inl ⟨_, rfl, rfl, hh.1, (Option.some.inj hs).symm⟩⟩
      | some j => cases up with
        | none => exact iteSE hs fun hh hs => ⟨hh.2, .inr ⟨_, rfl, rfl, hh.1, (Option.some.inj hs).symm⟩⟩
        | some _ => exact nos hs
  have hsz : vs.toArray.size ≤ sizeLine := by rw [List.size_toArray, r.length]; exact size1000 hz.1
  refine tail_any (o := .ref addr) (ops := [.ref s.heap.objs.size, .ref addr]) ⟨_, kp _ _ q, rfl⟩ list_getitem_lookup ?_ rfl
  refine wpAny_getItem_list_slice il' (Heap.IsSliceOf.new _ vl vu .none) pl pu .none (by decide) ?_ hsz
  have fin : ∀ ks : List Value, slicePick vs.toArray lo up none = ks.toArray → VRs W ks m → Q (.ref (s.heap.push { cls := .type "slice", data := .fields #[vl, vu, .none] }).objs.size) { s with heap := (s.heap.push { cls := .type "slice", data := .fields #[vl, vu, .none] }).push { cls := .type "list", data := .seq (slicePick vs.toArray lo up none) } } := fun ks hk hv => by
    rw [hk]
    exact h ks { s with heap := s.heap.push { cls := .type "slice", data := .fields #[vl, vu, .none] } } (.grow [] kp) (wr.grow kp) hv
  rcases hz.2 with ⟨j, rfl, rfl, h0, rfl⟩ | ⟨j, rfl, rfl, h0, rfl⟩
  · obtain ⟨j, rfl⟩ := Int.eq_ofNat_of_zero_le h0
    exact fin (vs.take j) (by have := slicePick_upto' vs.toArray j; simpa using this) (r.take j)
  · obtain ⟨j, rfl⟩ := Int.eq_ofNat_of_zero_le h0
    exact fin (vs.drop j) (by have := slicePick_from' vs.toArray j; simpa using this) (r.drop j)

theorem KvR_len {kvs : List (Str × Value)} {fs : List (Str × V)} (r : KvR W kvs fs) : kvs.length = fs.length := by
  induction r with
  | nil => rfl
  | cons _ _ ih => simp [ih]
theorem KvR_keys {kvs : List (Str × Value)} {fs : List (Str × V)} (r : KvR W kvs fs) : kvs.map (·.1) = fs.map (·.1) := by
  induction r with
  | nil => rfl
  | cons _ _ ih => simp [ih]
theorem KvR_any {kvs : List (Str × Value)} {fs : List (Str × V)} (r : KvR W kvs fs) {nm : Str} (e : (fs.lookup nm).isSome = true) : kvs.any (fun kv => kv.1 = nm) = true := by
  induction r with
  | nil => (first | exact nos e | exact nof e | exact nos2 e | exact nof2 e | cases e)
  | @cons x v es y fs hv r ih =>
    rw [List.lookup_cons] at e
    by_cases hx : x = nm
    · simp [hx]
    · have e1 : (nm == x) = false := by simpa using fun q => hx q.symm
      rw [e1] at e
      rw [List.any_cons, ih e, Bool.or_true]
theorem KvR_map {kvs : List (Str × Value)} {fs : List (Str × V)} (r : KvR W kvs fs) (hn : (fs.map (·.1)).Nodup) {nm : Str} {v : Value} {u : V} (hv : VR W v u) (e : (fs.lookup nm).isSome = true) : KvR W (kvs.map fun kv => if kv.1 = nm then (kv.1, v) else kv) (setF nm u fs) := by
  have same : ∀ {kvs : List (Str × Value)} {fs : List (Str × V)}, KvR W kvs fs → nm ∉ fs.map (·.1) → KvR W (kvs.map fun kv => if kv.1 = nm then (kv.1, v) else kv) fs := by
    intro kvs fs r hm
    induction r with
    | nil => exact .nil
    | @cons x v' es y fs hv' r ih =>
      rw [List.map_cons, List.mem_cons, not_or] at hm
      rw [List.map_cons, if_neg (fun q => hm.1 q.symm)]
      exact .cons hv' (ih hm.2)
  induction r with
  | nil => (first | exact nos e | exact nof e | exact nos2 e | exact nof2 e | cases e)
  | @cons x v' es y fs hv' r ih =>
    rw [List.map_cons, List.nodup_cons] at hn
    rw [List.map_cons]
    unfold setF
    by_cases hx : x = nm
    · subst hx
      simp only [if_true]
      exact .cons hv (same r hn.1)
    · have e1 : (nm == x) = false := by simpa using fun q => hx q.symm
      rw [List.lookup_cons, e1] at e
      simp only [if_neg hx]
      exact .cons hv' (ih hn.2 e)

theorem setSub_ok (wr : WR prog w H W hp s.heap) (va : VR W a x) (vb : VR W b y) (vc : VR W c z) {hp' : Hp} (e : setSub hp x y z = some hp') {Q : Unit → Shared → Prop}
    (h : ∀ s', Ext [] W s W s' → WR prog w H W hp' s'.heap → Q () s') : wpAny (model prog w) A (setItem a b c) Q Ex s := by
  cases x with
  | ref i =>
    refine VR.refC va fun hlt => ?_
    cases y with
    | int j =>
      refine VR.intC vb fun t => ?_
      have e : setInt hp i j z hp[i]? = some hp' := e
      cases hi : hp[i]? with
      | none => rw [hi] at e; exact nos e
      | some ob =>
        rw [hi] at e
        cases ob with
        | lst l =>
          refine iteSE e fun hz e => ?_
          refine hide fun g_ t_ => ?_
          obtain ⟨vs, n, hg, r⟩ := wr.ob i _ hi
          refine t_ ?_; clear t_ g_
          have hsz : vs.toArray.size ≤ lineMax := by rw [List.size_toArray, r.length]; exact hz
          have go : ∀ p : Nat, (0 ≤ j ∧ j.toNat = p) ∨ (j = -1 ∧ p = vs.toArray.size - 1) → p < l.length → hp' = hp.set i (.lst (l.set p z)) → wpAny (model prog w) A (setItem (.ref (W.ρ i)) (.int j t) c) Q Ex s := fun p h1 h2 h3 => by
            refine setList_exact (j := p) hg h1 (by rw [List.size_toArray, r.length]; exact h2) hsz ?_
            have ho : OR prog w W (s.heap.update (W.ρ i) (Obj.mapSeq (·.setIfInBounds p c))) (W.ρ i) (.lst (l.set p z)) := or_set_seq hg (ws := vs.set p c) (by simp) (r.set vc p)
            exact h _ (Ext.upd [] hlt (Heap.SameBut.update ..) ho.some) (h3 ▸ wr.upd hlt (Heap.SameBut.update ..) ho)
          by_cases hj : 0 ≤ j ∧ j < l.length
          · rw [if_pos hj] at e
            exact go j.toNat (.inl ⟨hj.1, rfl⟩) (by omega) (Option.some.inj e).symm
          · rw [if_neg hj] at e
            refine iteSE e fun hj e => ?_
            have := List.length_pos_iff.mpr hj.2
            exact go (l.length - 1) (.inr ⟨hj.1, by rw [List.size_toArray, r.length]⟩) (by omega) (Option.some.inj e).symm
        | im m =>
          refine iteSE e fun hz e => ?_
          cases e
          refine hide fun g_ t_ => ?_
          obtain ⟨kvs, hd, r⟩ := wr.ob i _ hi
          refine t_ ?_; clear t_ g_
          refine wpAny_setItem_pairs (knd := intKind prog w) (k := j) (by simp [intKind, Value.isInt]) hd (fun h' hd' hs => ?_) (size1000 (Nat.le_trans r hz))
          have ho : OR prog w W h' (W.ρ i) (.im (m + 1)) := ⟨_, hd', Nat.le_trans (stored_length_le _ _ _) (Nat.succ_le_succ r)⟩
          exact h _ (Ext.upd [] hlt hs ho.some) (wr.upd hlt hs ho)
        | _ => exact nos e
    | str nm =>
      refine VR.strC vb fun t => ?_
      refine bd1 e fun fs hi e => ?_
      refine iteSE e fun hz e => ?_
      cases e
      refine hide fun g_ t_ => ?_
      obtain ⟨kvs, hd, r⟩ := wr.ob i _ (sdOf_eq hi)
      refine t_ ?_; clear t_ g_
      refine wpAny_setItem_pairs (knd := PySem.strKind prog w) (k := nm) (by simp [PySem.strKind, Value.isStrOf]) hd (fun h' hd' hs => ?_) (by rw [KvR_len r]; exact size1000 hz.2)
      have hst : PySem.stored kvs nm c = kvs.map fun kv => if kv.1 = nm then (kv.1, c) else kv := by unfold PySem.stored; rw [if_pos (KvR_any r hz.1)]
      rw [hst] at hd'
      have hn : (fs.map (·.1)).Nodup := by
        refine hide fun g_ t_ => ?_
        obtain ⟨_, _, _, _, _, _, _, _, hn⟩ := hd
        refine t_ ?_; clear t_ g_
        rw [← KvR_keys r]; exact hn
      have ho : OR prog w W h' (W.ρ i) (.sd (setF nm z fs)) := ⟨_, hd', KvR_map r hn vc hz.1⟩
      exact h _ (Ext.upd [] hlt hs ho.some) (wr.upd hlt hs ho)
    | _ => exact nos e
  | _ => exact nos e

/-- append, pop -/
theorem append_ok {i : Nat} {pos : Pos} {t : Sem Value} {Q : Value → Shared → Prop}
    (h : wpAny (model prog w) A t (fun v s1 => ∃ W1 hp1 l u, WR prog w H W1 hp1 s1.heap ∧ hp1[i]? = some (.lst l) ∧ l.length ≤ lineMax ∧ VR W1 v u ∧ W.ρ i = W1.ρ i ∧
      ∀ s2, Ext [] W1 s1 W1 s2 → WR prog w H W1 (hp1.set i (.lst (l ++ [u]))) s2.heap → Q .none s2) Ex s) :
    wpAny (model prog w) A (callWith pos (.builtin "list.append") [.ref (W.ρ i)] [(false, t)] []) Q Ex s := by
  refine P.append_list (wpAny_mono h (fun v s1 h1 => ?_) fun _ _ e => e)
  refine hide fun g_ t_ => ?_
  obtain ⟨W1, hp1, l, u, wr, hi, hz, hv, hρ, hq⟩ := h1
  obtain ⟨vs, n, hg, r⟩ := wr.ob i _ hi
  refine t_ ?_; clear t_ g_
  rw [hρ]
  refine ⟨vs.toArray, n, by rw [List.size_toArray, r.length]; exact size1000 hz, hg, ?_⟩
  have ho : OR prog w W1 (s1.heap.update (W1.ρ i) (Obj.mapSeq fun xs => xs.push v)) (W1.ρ i) (.lst (l ++ [u])) := or_set_seq hg (ws := vs ++ [v]) (by simp) (r.snoc hv)
  exact hq _ (Ext.upd [] (wr.lt hi) (Heap.SameBut.update ..) ho.some) (wr.upd (wr.lt hi) (Heap.SameBut.update ..) ho)
theorem pop_ok (wr : WR prog w H W hp s.heap) {i : Nat} {pos : Pos} {l : List V} (hi : hp[i]? = some (.lst l)) (hz : l.length ≤ lineMax) {u : V} (hu : l.getLast? = some u) {Q : Value → Shared → Prop}
    (h : ∀ v s2, Ext [] W s W s2 → WR prog w H W (hp.set i (.lst l.dropLast)) s2.heap → VR W v u → Q v s2) :
    wpAny (model prog w) A (callWith pos (.builtin "list.pop") [.ref (W.ρ i)] [] []) Q Ex s := by
  refine hide fun g_ t_ => ?_
  obtain ⟨vs, n, hg, r⟩ := wr.ob i _ hi
  rw [List.getLast?_eq_getElem?] at hu
  obtain ⟨v, hv, rv⟩ := r.get hu
  refine t_ ?_; clear t_ g_
  have hlt : l.length - 1 < l.length := (List.getElem?_eq_some_iff.mp hu).1
  refine P.pop_list (y := v) hg (by rw [List.size_toArray, r.length]; simpa using hv) ?_ (by rw [List.size_toArray, r.length]; exact size1000 hz)
  have ho : OR prog w W (s.heap.update (W.ρ i) (Obj.mapSeq fun xs => xs.eraseIdxIfInBounds (vs.toArray.size - 1))) (W.ρ i) (.lst l.dropLast) := by
    refine or_set_seq hg (ws := vs.dropLast) ?_ ?_
    · have hlt' : vs.toArray.size - 1 < vs.toArray.size := by rw [List.size_toArray, r.length]; omega
      rw [Array.eraseIdxIfInBounds_eq, dif_pos hlt']
      apply Array.ext'
      rw [Array.toList_eraseIdx]
      simp only [List.size_toArray]
      exact List.eraseIdx_eq_dropLast (by rw [r.length]; omega)
    · rw [List.dropLast_eq_take, List.dropLast_eq_take, r.length]; exact r.take _
  exact h v _ (Ext.upd [] (wr.lt hi) (Heap.SameBut.update ..) ho.some) (wr.upd (wr.lt hi) (Heap.SameBut.update ..) ho) rv
end
end Mine
end

section
open PySem PySem.W PyProof.Rows PySem.Spec PySem.SeqAt PySem.Calls
namespace Mine
section
variable {prog : Program} {w : World} {H : Heap} {W : Wd} {hp : Hp} {s : Shared} {k : Nat} {A : Around} {Ex : Value → Shared → Prop} {a b c : Value} {x y z : V}

theorem ints_are {vs : List Value} {l : List V} (r : VRs W vs l) {ns : List Int} (e : intsOf l = some ns) : IntsAre vs ns := by
  induction vs generalizing l ns with
  | nil => (first | refine VR.noneC r ?_ | refine VR.boolC r ?_ | refine VR.intC r fun _ => ?_ | refine VR.strC r fun _ => ?_ | refine VRs.nilC r ?_ | cases r); cases e; exact .nil
  | cons v vs ih =>
    cases r with
    | cons a r =>
      cases a with
      | int i t =>
        simp only [intsOf] at e
        obtain ⟨m, hm, he⟩ := Option.bind_eq_some_iff.mp e
        (first | exact nos he | exact nof he | exact nos2 he | exact nof2 he | cases he)
        exact .cons i t (ih r hm)
      | _ => simp [intsOf] at e
theorem ints_len {l : List V} {ns : List Int} (e : intsOf l = some ns) : l.length = ns.length := by
  induction l generalizing ns with
  | nil => cases e; rfl
  | cons v l ih =>
    cases v with
    | int i =>
      simp only [intsOf] at e
      obtain ⟨m, hm, he⟩ := Option.bind_eq_some_iff.mp e
      (first | exact nos he | exact nof he | exact nos2 he | exact nof2 he | cases he)
      simp [ih hm]
    | _ => simp [intsOf] at e
theorem are_ints {vs : List Value} {ns : List Int} (r : IntsAre vs ns) : VRs W vs (ns.map .int) := by
  induction r with
  | nil => exact .nil
  | cons n t _ ih => exact .cons (.int n t) ih
theorem intsOf_map {l : List V} {ns : List Int} (e : intsOf l = some ns) : l = ns.map .int := by
  induction l generalizing ns with
  | nil => cases e; rfl
  | cons v l ih =>
    cases v with
    | int i =>
      simp only [intsOf] at e
      obtain ⟨m, hm, he⟩ := Option.bind_eq_some_iff.mp e
      (first | exact nos he | exact nof he | exact nos2 he | exact nof2 he | cases he)
      simp [ih hm]
    | _ => simp [intsOf] at e
theorem are_get {vs : List Value} {ns : List Int} (r : IntsAre vs ns) {i : Nat} {v : Value} (e : vs[i]? = some v) : ∃ t, v = .int (ns[i]?.getD 0) t := by
  induction r generalizing i with
  | nil => simp at e
  | cons n t _ ih =>
    cases i with
    | zero => simp at e; subst e; exact ⟨t, rfl⟩
    | succ i => simpa using ih (by simpa using e)
theorem bools_get {vs : List Value} {l : List V} (r : VRs W vs l) {bs : List Bool} (e : boolsOf l = some bs) {i : Nat} {v : Value} (h : vs[i]? = some v) : v = .bool (bs[i]?.getD true) := by
  induction vs generalizing l bs i with
  | nil => simp at h
  | cons u vs ih =>
    cases r with
    | cons a r =>
      cases a with
      | bool p =>
        simp only [boolsOf] at e
        obtain ⟨m, hm, he⟩ := Option.bind_eq_some_iff.mp e
        (first | exact nos he | exact nof he | exact nos2 he | exact nof2 he | cases he)
        cases i with
        | zero => simp at h; subst h; rfl
        | succ i => simpa using ih r hm (by simpa using h)
      | _ => simp [boolsOf] at e
theorem bools_len {l : List V} {ns : List Bool} (e : boolsOf l = some ns) : l.length = ns.length := by
  induction l generalizing ns with
  | nil => cases e; rfl
  | cons v l ih =>
    cases v with
    | bool i =>
      simp only [boolsOf] at e
      obtain ⟨m, hm, he⟩ := Option.bind_eq_some_iff.mp e
      (first | exact nos he | exact nof he | exact nos2 he | exact nof2 he | cases he)
      simp [ih hm]
    | _ => simp [boolsOf] at e
theorem all_range (bs : List Bool) : ((List.range bs.length).all fun i => bs[i]?.getD true) = bs.all fun b => b := by
  induction bs with
  | nil => rfl
  | cons b bs ih =>
    rw [List.length_cons, List.range_succ_eq_map, List.all_cons, List.all_map, List.all_cons]
    congr 1
theorem best_fold (a : Int) (l : List Int) : ∀ j, j ≤ l.length → ((a :: l)[argBest (fun i j => decide (((a :: l)[i]?.getD 0) < ((a :: l)[j]?.getD 0))) j]?.getD 0) = (l.take j).foldl (fun m b => if b < m then b else m) a
  | 0, _ => by simp [argBest]
  | j + 1, h => by
    have ih := best_fold a l j (by omega)
    have hj : j < l.length := h
    rw [argBest, List.take_add_one, List.getElem?_eq_getElem hj, Option.toList_some, List.foldl_append, ← ih]
    simp only [List.foldl_cons, List.foldl_nil]
    have e1 : (a :: l)[j + 1]?.getD 0 = l[j] := by simp [hj]
    by_cases hlt : l[j] < ((a :: l)[argBest (fun i j => decide (((a :: l)[i]?.getD 0) < ((a :: l)[j]?.getD 0))) j]?.getD 0)
    · rw [if_pos hlt, if_pos (by rw [e1]; exact decide_eq_true hlt), e1]
    · rw [if_neg hlt, if_neg (by rw [e1]; simpa using hlt)]
theorem asc_pair : ∀ {l : List Int}, isAsc l = true → l.Pairwise (· ≤ ·)
  | [], _ => .nil
  | [a], _ => by simp
  | a :: b :: r, h => by
    simp only [isAsc, Bool.and_eq_true, decide_eq_true_eq] at h
    have ih := asc_pair h.2
    refine List.pairwise_cons.mpr ⟨fun c hc => ?_, ih⟩
    rcases List.mem_cons.mp hc with rfl | hc
    · omega
    · have := (List.pairwise_cons.mp ih).1 c hc; omega

noncomputable def bVal (id : Str) (s : String) : Value := if id = "tuple" then .type "tuple" else .builtin s

theorem len_ok (wr : WR prog w H W hp s.heap) (va : VR W a x) {l : List V} (e : itemsOf hp x = some l) (hz : l.length ≤ lineMax) {Q : Value → Shared → Prop}
    (h : ∀ s' v, Ext [] W s W s' → WR prog w H W hp s'.heap → VR W v (.int l.length) → Q v s') : wpAny (model prog w) A (call (.builtin "len") [a]) Q Ex s := by
  obtain ⟨addr, vs, n, rfl, r, q⟩ := items_at wr va e
  have hfit : (vs.toArray.size : Int) < 2 ^ 63 := by rw [List.size_toArray, r.length]; unfold lineMax at hz; omega
  have hq : Q (.int vs.toArray.size (s.toks + 1)) { s with toks := s.toks + 1 + 1 } := h _ _ (.tok _ _ _ _) wr (by rw [List.size_toArray, r.length]; exact .int _ _)
  rcases q with ⟨_, q⟩ | ⟨_, q, _⟩
  · exact PyProof.Rows.len_tuple ⟨_, q, rfl, _, rfl⟩ hfit hq
  · exact PyProof.Rows.len_list ⟨_, q, rfl, _, rfl⟩ hfit hq

theorem kept_iter {I : Addr} {o' : Obj} {h : Heap} {h' : Heap} (e : I = h.objs.size) (hk : ∀ b o, b ∉ [I] → (h.push o').get? b = some o → h'.get? b = some o) : ∀ b o, h.get? b = some o → h'.get? b = some o := fun b o q => by
  refine hk b o (fun hm => ?_) (Heap.get?_push_of_some _ q)
  rw [List.mem_singleton] at hm
  rw [hm, e, fresh_size] at q
  (first | exact nos q | exact nof q | exact nos2 q | exact nof2 q | cases q)

theorem minTup_ok (wr : WR prog w H W hp s.heap) (hh : A.handled = none) {l : List V} (va : VR W a (.tup l)) {p : Int} {r : List Int} (e : intsOf l = some (p :: r)) {Q : Value → Shared → Prop}
    (h : ∀ s' v, Ext [] W s W s' → WR prog w H W hp s'.heap → VR W v (.int (minL p r)) → Q v s') : wpAny (model prog w) A (call (.builtin "min") [a]) Q Ex s := by
  refine VR.tupC va fun ad vs n e1 hr => ?_
  have I := ints_are hr e
  have ht : s.heap.IsTuple ad vs.toArray := ⟨_, wr.jle _ _ e1, rfl, _, rfl⟩
  have hne : ad ≠ s.heap.objs.size := fun q => by have := wr.jle _ _ e1; rw [q, fresh_size] at this; (first | exact nos this | exact nof this | exact nos2 this | exact nof2 this | cases this)
  have hlen : vs.length = r.length + 1 := by rw [hr.length, ints_len e]; rfl
  refine call_min_walk (wpAny_pyIter_tuple ht ?_)
  refine ⟨_, _, _, _, _, _, _, rfl, Walks.tuple (A := A.in1) hh _ ad hne vs.toArray, ⟨⟨_, Heap.get?_push_size _ rfl, rfl, rfl⟩, ht.push _⟩, fun c hc => ?_, ?_, CmpOf.ints_lt (fun i => (p :: r)[i]?.getD 0) (fun i v hv => are_get I (by simpa using hv)), fun v h' tk hP hk => ?_⟩
  · show c < (s.heap.push _).objs.size
    rw [Heap.size_push]
    rcases List.mem_cons.mp hc with rfl | hc
    · exact Nat.lt_succ_self _
    · rw [List.mem_singleton] at hc; subst hc
      exact Nat.lt_succ_of_lt (Heap.lt_size (wr.jle _ _ e1))
  · rw [List.size_toArray, hlen]; omega
  · have kp := kept_iter rfl hk
    refine h _ _ (.grow [] kp) (wr.grow kp) ?_
    obtain ⟨t, rfl⟩ := are_get I (i := argBest (fun i j => decide (((p :: r)[i]?.getD 0) < ((p :: r)[j]?.getD 0))) (vs.toArray.size - 1)) (by simpa using hP)
    have := best_fold p r r.length (Nat.le_refl _)
    rw [List.take_length] at this
    rw [List.size_toArray, hlen, Nat.add_sub_cancel, this]
    exact .int _ _

theorem all_ok (wr : WR prog w H W hp s.heap) (hh : A.handled = none) (va : VR W a x) {l : List V} (e : itemsOf hp x = some l) {bs : List Bool} (hb : boolsOf l = some bs) {Q : Value → Shared → Prop}
    (h : ∀ s' v, Ext [] W s W s' → WR prog w H W hp s'.heap → VR W v (.bool (bs.all fun b => b)) → Q v s') : wpAny (model prog w) A (call (.builtin "all") [a]) Q Ex s := by
  obtain ⟨ad, vs, n, rfl, hr, q⟩ := items_at wr va e
  have truth : TruthOf prog w A.in1 (fun i v => vs.toArray[i]? = some v) fun i => bs[i]?.getD true := fun i v s Q E hv hq => by
    have e1 := bools_get hr hb (i := i) (v := v) (by simpa using hv)
    rw [e1]; exact wpAny_truthy_bool hq
  have fin : ∀ h' tk, (∀ b o, s.heap.get? b = some o → h'.get? b = some o) → Q (.bool ((List.range vs.toArray.size).all fun i => bs[i]?.getD true)) { s with heap := h', toks := tk } := fun h' tk kp => by
    refine h _ _ (.grow [] kp) (wr.grow kp) ?_
    rw [List.size_toArray, hr.length, bools_len hb, all_range]
    exact .bool _
  rcases q with ⟨_, q⟩ | ⟨_, q, _⟩
  · have ht : s.heap.IsTuple ad vs.toArray := ⟨_, q, rfl, _, rfl⟩
    have hne : ad ≠ s.heap.objs.size := fun z => by rw [z, fresh_size] at q; (first | exact nos q | exact nof q | exact nos2 q | exact nof2 q | cases q)
    exact call_all_walk (wpAny_pyIter_tuple ht ⟨_, _, _, _, _, _, _, rfl, Walks.tuple (A := A.in1) hh _ ad hne vs.toArray, ⟨⟨_, Heap.get?_push_size _ rfl, rfl, rfl⟩, ht.push _⟩, truth, fun h' tk hk => fin h' tk (kept_iter rfl hk)⟩)
  · have ht : s.heap.IsList ad vs.toArray := ⟨_, q, rfl, _, rfl⟩
    have hne : ad ≠ s.heap.objs.size := fun z => by rw [z, fresh_size] at q; (first | exact nos q | exact nof q | exact nos2 q | exact nof2 q | cases q)
    exact call_all_walk (wpAny_pyIter_list ht ⟨_, _, _, _, _, _, _, rfl, Walks.list (A := A.in1) hh _ ad hne vs.toArray, ⟨⟨_, Heap.get?_push_size _ rfl, rfl, rfl⟩, ht.at fun o e => Heap.get?_push_of_some _ e⟩, truth, fun h' tk hk => fin h' tk (kept_iter rfl hk)⟩)

theorem sorted_ok (wr : WR prog w H W hp s.heap) {l : List V} (va : VR W a (.lst l)) {ns : List Int} (e : intsOf l = some ns) (hs : isAsc ns = true) (hz : ns.length ≤ 60) {Q : Value → Shared → Prop}
    (h : ∀ W' s' v, Ext [] W s W' s' → WR prog w H W' hp s'.heap → VR W' v (.lst l) → Q v s') : wpAny (model prog w) A (call (.builtin "sorted") [a]) Q Ex s := by
  refine VR.lstC va fun ad vs n e1 hr => ?_
  have I := ints_are hr e
  refine PyProof.Rows.sorted_ints (ns := ns) ⟨_, wr.jle _ _ e1, rfl, _, rfl⟩ I (by rw [hr.length, ints_len e]; omega) fun out ns' hI hp' hsort => ?_
  have heq : ns' = ns := hp'.eq_of_pairwise (le := (· ≤ ·)) (fun a b _ _ h1 h2 => Int.le_antisymm h1 h2) hsort (asc_pair hs)
  subst heq
  obtain ⟨ep, he⟩ := PyProof.Rows.sortedAll_at s.heap vs out
  have kp : ∀ b o, s.heap.get? b = some o → (PyProof.Rows.sortedAll s.heap vs out).get? b = some o := fun b o q => PyProof.Rows.sortedAll_old q
  have fr : s.heap.get? (s.heap.objs.size + 1) = none := by
    cases q : s.heap.get? (s.heap.objs.size + 1) with
    | none => rfl
    | some o => exact absurd (Heap.lt_size q) (Nat.not_lt.mpr (Nat.le_succ _))
  have le : W.Le (W.add (s.heap.objs.size + 1) (lstO out.toList ep)) := Wd.le_add (wr.noneJ fr)
  refine h (W.add (s.heap.objs.size + 1) (lstO out.toList ep)) _ _ ⟨le, ⟨_, _, rfl⟩, fun b o _ _ q => kp b o q, fun b o q => ⟨o, kp b o q⟩, fun b o q1 q2 => ?_, fun i h1 h2 => absurd h2 (Nat.not_lt.mpr h1)⟩ ?_ (.lst Wd.add_self ?_)
  · change (if b = s.heap.objs.size + 1 then _ else W.J b) = some o at q2
    by_cases zb : b = s.heap.objs.size + 1
    · subst zb; exact fr
    · rw [if_neg zb, q1] at q2; (first | exact nos q2 | exact nof q2 | exact nos2 q2 | exact nof2 q2 | cases q2)
  · refine ⟨wr.n_eq, fun b o q => le.J _ _ (wr.base b o q), fun b o q => ?_, fun i hi => ?_, wr.inj, fun i o q => (wr.ob i o q).mono le fun _ z => kp _ _ z⟩
    · change (if b = s.heap.objs.size + 1 then some (lstO out.toList ep) else W.J b) = some o at q
      by_cases zb : b = s.heap.objs.size + 1
      · rw [if_pos zb] at q; cases q; subst zb; simpa using he
      · rw [if_neg zb] at q; exact kp _ _ (wr.jle _ _ q)
    · show (if W.ρ i = s.heap.objs.size + 1 then some (lstO out.toList ep) else W.J (W.ρ i)) = none
      rw [if_neg (wr.neR fr hi)]; exact wr.jr i hi
  · rw [intsOf_map e]; exact are_ints hI

/-- tuple(x) -/
theorem tuple_ok (wr : WR prog w H W hp s.heap) (va : VR W a x) {l : List V} (e : itemsOf hp x = some l) (hz : l.length ≤ lineMax) {Q : Value → Shared → Prop}
    (h : ∀ W' s' v, Ext [] W s W' s' → WR prog w H W' hp s'.heap → VR W' v (.tup l) → Q v s') : wpAny (model prog w) A (call (.type "tuple") [a]) Q Ex s := by
  obtain ⟨addr, vs, n, rfl, r, q⟩ := items_at wr va e
  rcases q with ⟨rfl, q⟩ | ⟨_, q, _⟩
  · exact PyProof.Rows.call_tuple_tup ⟨_, q, rfl, _, rfl⟩ (h W s _ (.refl _ _ _) wr va)
  · refine call_tuple_list ⟨_, q, rfl, _, rfl⟩ (fun h' kp => ?_) (by rw [List.size_toArray, r.length]; exact size1000 hz)
    exact newTup_ok (s := { s with heap := h' }) (wr.grow kp) r fun W' s' v q1 q2 q3 => h W' s' v (Ext.trans (.grow [] kp) q1) q2 q3

/-- list(x) -/
theorem list_ok (wr : WR prog w H W hp s.heap) (va : VR W a x) {l : List V} (e : itemsOf hp x = some l) (hz : l.length ≤ lineMax) (hnt : ∀ m, x ≠ .tup m) {Q : Value → Shared → Prop}
    (h : ∀ W' s' v, Ext [] W s W' s' → WR prog w H W' (hp ++ [.lst l]) s'.heap → VR W' v (.ref hp.length) → Q v s') : wpAny (model prog w) A (call (.type "list") [a]) Q Ex s := by
  obtain ⟨addr, vs, n, rfl, r, q⟩ := items_at wr va e
  rcases q with ⟨rfl, q⟩ | ⟨_, q, _⟩
  · exact absurd rfl (hnt _)
  · refine call_list_seq addr (.inl rfl) q rfl rfl (fun h' c' kp hn => ?_) (by rw [List.size_toArray, r.length]; exact size1000 hz)
    refine h (W.new s.heap.objs.size) _ _ (Ext.new [] (fresh_size _) kp) (wr.new (fresh_size _) kp ⟨vs, c', hn, r.mono (Wd.le_new _ _)⟩) ?_
    have := VR.ref (W := W.new s.heap.objs.size) (i := W.n) (Nat.lt_succ_self _)
    rw [Wd.new_self, wr.n_eq] at this
    exact this

/-- which value a builtin's name is -/
noncomputable def bltOf (id : Str) : Option Value :=
  if id = "len" then some (.builtin "len") else if id = "min" then some (.builtin "min") else if id = "max" then some (.builtin "max") else if id = "sorted" then some (.builtin "sorted")
  else if id = "tuple" then some (.type "tuple") else if id = "all" then some (.builtin "all") else none

theorem builtin_ok (wr : WR prog w H W hp s.heap) (hh : A.handled = none) {id : Str} {vals : List Value} {args : List V} (va : VRs W vals args) {z : V} (e : builtinV hp id args = some z) :
    ∃ f, bltOf id = some f ∧ ((∃ i, f = .builtin i) ∨ ∃ t, f = .type t) ∧ ∀ Q : Value → Shared → Prop, (∀ W' s' v, Ext [] W s W' s' → WR prog w H W' hp s'.heap → VR W' v z → Q v s') → wpAny (model prog w) A (call f vals) Q Ex s := by
  unfold builtinV at e
  split at e
  · rename_i hid
    refine ⟨_, by unfold bltOf; rw [if_pos hid], .inl ⟨_, rfl⟩, fun Q h => ?_⟩
    split at e
    · obtain ⟨l, hl, he⟩ := Option.bind_eq_some_iff.mp e
      split at he
      · rename_i hz
        (first | exact nos he | exact nof he | exact nos2 he | exact nof2 he | cases he)
        refine VRs.consC va fun _ _ v1 r => ?_
        cases r; exact len_ok wr v1 hl hz fun s' v q1 q2 q3 => h W s' v q1 q2 q3
      · (first | exact nos he | exact nof he | exact nos2 he | exact nof2 he | cases he)
    · (first | exact nos e | exact nof e | exact nos2 e | exact nof2 e | cases e)
  · rename_i n1
    split at e
    · rename_i hid
      refine ⟨_, by unfold bltOf; rw [if_neg n1, if_pos hid], .inl ⟨_, rfl⟩, fun Q h => ?_⟩
      split at e
      · (first | exact nos e | exact nof e | exact nos2 e | exact nof2 e | cases e)
        refine VRs.consC va fun _ _ v1 r => ?_
        refine VRs.consC r fun _ _ v2 r => ?_
        (first | refine VR.noneC r ?_ | refine VR.boolC r ?_ | refine VR.intC r fun _ => ?_ | refine VR.strC r fun _ => ?_ | refine VRs.nilC r ?_ | cases r); (first | refine VR.noneC v1 ?_ | refine VR.boolC v1 ?_ | refine VR.intC v1 fun _ => ?_ | refine VR.strC v1 fun _ => ?_ | refine VRs.nilC v1 ?_ | cases v1); (first | refine VR.noneC v2 ?_ | refine VR.boolC v2 ?_ | refine VR.intC v2 fun _ => ?_ | refine VR.strC v2 fun _ => ?_ | refine VRs.nilC v2 ?_ | cases v2)
        refine min_two_ints hh fun h' tk kp => h W _ _ (.grow [] kp) (wr.grow kp) ?_
        split
        · exact .int _ _
        · exact .int _ _
      · obtain ⟨ns, hn, he⟩ := Option.bind_eq_some_iff.mp e
        refine VRs.consC va fun _ _ v1 r => ?_
        (first | refine VR.noneC r ?_ | refine VR.boolC r ?_ | refine VR.intC r fun _ => ?_ | refine VR.strC r fun _ => ?_ | refine VRs.nilC r ?_ | cases r)
        cases ns with
        | nil => (first | exact nos he | exact nof he | exact nos2 he | exact nof2 he | cases he)
        | cons p r => cases he; exact minTup_ok wr hh v1 hn fun s' v q1 q2 q3 => h W s' v q1 q2 q3
      · (first | exact nos e | exact nof e | exact nos2 e | exact nof2 e | cases e)
    · rename_i n2
      split at e
      · rename_i hid
        refine ⟨_, by unfold bltOf; rw [if_neg n1, if_neg n2, if_pos hid], .inl ⟨_, rfl⟩, fun Q h => ?_⟩
        split at e
        · (first | exact nos e | exact nof e | exact nos2 e | exact nof2 e | cases e)
          refine VRs.consC va fun _ _ v1 r => ?_
          refine VRs.consC r fun _ _ v2 r => ?_
          (first | refine VR.noneC r ?_ | refine VR.boolC r ?_ | refine VR.intC r fun _ => ?_ | refine VR.strC r fun _ => ?_ | refine VRs.nilC r ?_ | cases r); (first | refine VR.noneC v1 ?_ | refine VR.boolC v1 ?_ | refine VR.intC v1 fun _ => ?_ | refine VR.strC v1 fun _ => ?_ | refine VRs.nilC v1 ?_ | cases v1); (first | refine VR.noneC v2 ?_ | refine VR.boolC v2 ?_ | refine VR.intC v2 fun _ => ?_ | refine VR.strC v2 fun _ => ?_ | refine VRs.nilC v2 ?_ | cases v2)
          refine max_two_ints hh fun h' tk kp => h W _ _ (.grow [] kp) (wr.grow kp) ?_
          split
          · exact .int _ _
          · exact .int _ _
        · (first | exact nos e | exact nof e | exact nos2 e | exact nof2 e | cases e)
      · rename_i n3
        split at e
        · rename_i hid
          refine ⟨_, by unfold bltOf; rw [if_neg n1, if_neg n2, if_neg n3, if_pos hid], .inl ⟨_, rfl⟩, fun Q h => ?_⟩
          split at e
          · obtain ⟨ns, hn, he⟩ := Option.bind_eq_some_iff.mp e
            split at he
            · rename_i hs
              rw [Bool.and_eq_true] at hs
              (first | exact nos he | exact nof he | exact nos2 he | exact nof2 he | cases he)
              refine VRs.consC va fun _ _ v1 r => ?_
              cases r; exact sorted_ok wr v1 hn hs.1 (Nat.le_of_ble_eq_true hs.2) h
            · (first | exact nos he | exact nof he | exact nos2 he | exact nof2 he | cases he)
          · (first | exact nos e | exact nof e | exact nos2 e | exact nof2 e | cases e)
        · rename_i n4
          split at e
          · rename_i hid
            refine ⟨_, by unfold bltOf; rw [if_neg n1, if_neg n2, if_neg n3, if_neg n4, if_pos hid], .inr ⟨_, rfl⟩, fun Q h => ?_⟩
            split at e
            · (first | exact nos e | exact nof e | exact nos2 e | exact nof2 e | cases e)
              refine VRs.consC va fun _ _ v1 r => ?_
              (first | refine VR.noneC r ?_ | refine VR.boolC r ?_ | refine VR.intC r fun _ => ?_ | refine VR.strC r fun _ => ?_ | refine VRs.nilC r ?_ | cases r)
              refine VR.tupC v1 fun _ _ _ e1 hr => ?_
              exact PyProof.Rows.call_tuple_tup ⟨_, wr.jle _ _ e1, rfl, _, rfl⟩ (h W s _ (.refl _ _ _) wr (.tup e1 hr))
            · obtain ⟨l, hl, he⟩ := Option.bind_eq_some_iff.mp e
              split at he
              · rename_i hz
                (first | exact nos he | exact nof he | exact nos2 he | exact nof2 he | cases he)
                refine VRs.consC va fun _ _ v1 r => ?_
                cases r; exact tuple_ok wr v1 hl hz h
              · (first | exact nos he | exact nof he | exact nos2 he | exact nof2 he | cases he)
            · (first | exact nos e | exact nof e | exact nos2 e | exact nof2 e | cases e)
          · rename_i n5
            split at e
            · rename_i hid
              refine ⟨_, by unfold bltOf; rw [if_neg n1, if_neg n2, if_neg n3, if_neg n4, if_neg n5, if_pos hid], .inl ⟨_, rfl⟩, fun Q h => ?_⟩
              split at e
              · obtain ⟨l, hl, he⟩ := Option.bind_eq_some_iff.mp e
                obtain ⟨bs, hb, hz⟩ := Option.bind_eq_some_iff.mp he
                (first | exact nos hz | exact nof hz | exact nos2 hz | exact nof2 hz | cases hz)
                refine VRs.consC va fun _ _ v1 r => ?_
                cases r; exact all_ok wr hh v1 hl hb fun s' v q1 q2 q3 => h W s' v q1 q2 q3
              · (first | exact nos e | exact nof e | exact nos2 e | exact nof2 e | cases e)
            · (first | exact nos e | exact nof e | exact nos2 e | exact nof2 e | cases e)
end
end Mine
end

section
open PySem PySem.W PyProof.Rows PySem.Spec PySem.SeqAt PySem.Calls
namespace Mine
section
variable {prog : Program} {w : World} {H : Heap} {W W' : Wd} {hp hp' : Hp} {s s' : Shared} {k : Nat} {A : Around} {Ex : Value → Shared → Prop} {a b c : Value} {x y z : V}

/-- what is walked: a value of the abstract heap, or a range -/
noncomputable def RI (W : Wd) (hp : Hp) (h : Heap) (a : Value) (src : V × List V) : Prop :=
  (VR W a src.1 ∧ itemsOf hp src.1 = some src.2) ∨ (∃ r kk t u v, a = .ref r ∧ src = (.none, rangeV kk) ∧ (0 ≤ kk ∧ kk ≤ 1000) ∧ IsRange h r 0 kk 1 t u v)

/-- the iterator before its item j -/
noncomputable def ItAt (W : Wd) (h : Heap) (I : Addr) (src : V × List V) (j : Nat) : Prop :=
  (∃ ax, VR W (.ref ax) src.1 ∧ ((∃ m, src.1 = .tup m) ∧ h.IsTupleIter I ax j ∨ (∀ m, src.1 ≠ .tup m) ∧ h.IsListIter I ax j)) ∨
  (∃ kk : Int, src = (.none, rangeV kk) ∧ IsRangeIter h I (0 + (j : Int) * 1) (((kk.toNat : Nat) : Int) - (j : Int)) 1)

/-- what is walked stands -/
noncomputable def StandsI (hp : Hp) (src : V × List V) : Prop := src.1 = .none ∨ itemsOf hp src.1 = some src.2

theorem ItAt.at {I : Addr} {src : V × List V} {j : Nat} {h h' : Heap} (it : ItAt W h I src j) (le : W.Le W') (e : ∀ o, h.get? I = some o → h'.get? I = some o) : ItAt W' h' I src j := by
  rcases it with ⟨ax, v, ⟨m, q⟩ | ⟨m, q⟩⟩ | ⟨kk, m, q⟩
  · exact .inl ⟨ax, v.mono le, .inl ⟨m, Heap.IsTupleIter.at q e⟩⟩
  · exact .inl ⟨ax, v.mono le, .inr ⟨m, Heap.IsListIter.at q e⟩⟩
  · exact .inr ⟨kk, m, e _ q⟩
theorem ItAt.alive {I : Addr} {src : V × List V} {j : Nat} {h : Heap} (it : ItAt W h I src j) : ∃ o, h.get? I = some o := by
  rcases it with ⟨ax, v, ⟨m, o, q, _⟩ | ⟨m, o, q, _⟩⟩ | ⟨kk, m, q⟩ <;> exact ⟨_, q⟩

theorem stands_I {src : V × List V} {l : List V} (hl : src.2 = l) (h0 : StandsI hp src) (hs : stands src.1 src.2 hp' = true) : StandsI hp' src := by
  rcases h0 with h0 | h0
  · exact .inl h0
  · right
    obtain ⟨v, m⟩ := src
    cases v with
    | ref i =>
      simp only [stands] at hs
      split at hs
      · rename_i m' hm
        rw [vEqs_iff] at hs
        subst hs
        simp [itemsOf, hm]
      · (first | exact nos hs | exact nof hs | exact nos2 hs | exact nof2 hs | cases hs)
    | tup l => exact h0
    | lst l => exact h0
    | _ => simp [itemsOf] at h0

/-- a heap that turned at I alone -/
theorem WR.but {h h' : Heap} (wr : WR prog w H W hp h) {I : Addr} (hJ : W.J I = none) (hR : ∀ i, i < W.n → W.ρ i ≠ I) (k : ∀ b o, b ≠ I → h.get? b = some o → h'.get? b = some o) : WR prog w H W hp h' :=
  ⟨wr.n_eq, wr.base, fun b o e => k b o (fun q => by rw [q, hJ] at e; (first | exact nos e | exact nof e | exact nos2 e | exact nof2 e | cases e)) (wr.jle b o e), wr.jr, wr.inj, fun i o e => (wr.ob i o e).mono (.refl W) fun ob q => k _ _ (hR i (wr.lt e)) q⟩
theorem EnvOK.but {st sc : Nm} {E : Env} {own : List Addr} {env : En} {h h' : Heap} (x : EnvOK st sc E own env W h) {I : Addr} (ho : I ∉ own) (hc : ∀ y c, E.cells.lookup y = some c → c ≠ I) (k : ∀ b o, b ≠ I → h.get? b = some o → h'.get? b = some o) : EnvOK st sc E own env W h' := by
  have kc : ∀ c v, c ≠ I → h.IsCell c v → h'.IsCell c v := fun c v hn ⟨o, q, hd⟩ => ⟨o, k c o hn q, hd⟩
  refine ⟨x.names, x.kind, x.glob, x.blt, x.nodbg, x.nocls, x.locO, ?_, fun y v h1 h2 => ?_, x.knd, x.ownJ, x.ownR, fun a ha => ?_, fun y c hy => ?_, x.cellI, x.stor⟩
  · obtain ⟨m, hn, hm⟩ := x.ns
    exact ⟨m, hn.at' fun o q => k _ o (fun z => ho (z ▸ x.locO)) q, hm⟩
  · obtain ⟨c, val, a, b, d⟩ := x.cel y v h1 h2
    exact ⟨c, val, a, kc c _ (hc y c a) b, d⟩
  · obtain ⟨o, q⟩ := x.ownA a ha
    exact ⟨o, k a o (fun z => ho (z ▸ ha)) q⟩
  · obtain ⟨⟨v, hv⟩, r⟩ := x.cellA y c hy
    exact ⟨⟨v, kc c v (hc y c hy) hv⟩, r⟩

theorem Ext.but {own : List Addr} (I : Addr) (hI : I ∈ own) {h' : Heap} {tk : Nat} (k : ∀ b o, b ≠ I → s.heap.get? b = some o → h'.get? b = some o) (ha : ∃ o, h'.get? I = some o) : Ext own W s W { s with heap := h', toks := tk } :=
  ⟨.refl W, ⟨_, _, rfl⟩, fun b o hb _ e => k b o (fun q => hb (q ▸ hI)) e, fun b o e => (by
    by_cases z : b = I
    · subst z; exact ha
    · exact ⟨o, k b o z e⟩), fun b o e e' => (by rw [e] at e'; cases e'), fun i h1 h2 => absurd h2 (Nat.not_lt.mpr h1)⟩

/-- own addresses that are new are not told -/
theorem Ext.drop {own own' : List Addr} (e : Ext own' W s W' s') (h : ∀ b ∈ own', b ∉ own → s.heap.get? b = none) : Ext own W s W' s' :=
  ⟨e.le, e.same, fun b o hb hr q => e.keep b o (fun hm => by rw [h b hm hb] at q; (first | exact nos q | exact nof q | exact nos2 q | exact nof2 q | cases q)) hr q, e.alive, e.freshJ, e.freshR⟩
theorem Ext.dropEnd {own : List Addr} {I : Addr} {s'' : Shared} (e : Ext (I :: own) W s W' s') (hI : s.heap.get? I = none) (hs : ∃ h' tk, s'' = { s' with heap := h', toks := tk }) (k : ∀ b o, b ≠ I → s'.heap.get? b = some o → s''.heap.get? b = some o) : Ext own W s W' s'' := by
  refine ⟨e.le, ?_, fun b o hb hr q => ?_, fun b o q => ?_, e.freshJ, e.freshR⟩
  · obtain ⟨h1, t1, e1⟩ := e.same
    obtain ⟨h2, t2, e2⟩ := hs
    exact ⟨h2, t2, by rw [e2, e1]⟩
  · have hne : b ≠ I := fun z => by rw [z, hI] at q; (first | exact nos q | exact nof q | exact nos2 q | exact nof2 q | cases q)
    exact k b o hne (e.keep b o (by simp [hne, hb]) hr q)
  · have hne : b ≠ I := fun z => by rw [z, hI] at q; (first | exact nos q | exact nof q | exact nos2 q | exact nof2 q | cases q)
    obtain ⟨o', q'⟩ := e.alive b o q
    exact ⟨o', k b o' hne q'⟩
theorem Ext.more {own own' : List Addr} (e : Ext own W s W' s') (h : ∀ b ∈ own, b ∈ own') : Ext own' W s W' s' :=
  ⟨e.le, e.same, fun b o hb hr q => e.keep b o (fun hm => hb (h b hm)) hr q, e.alive, e.freshJ, e.freshR⟩

theorem rangeSize1 (kk : Int) : Builtin.Range.rangeSize 0 kk 1 = ((kk.toNat : Nat) : Int) := by
  unfold Builtin.Range.rangeSize
  rw [if_pos (by decide)]
  split
  · have : (kk - 0 - 1) / 1 = kk - 0 - 1 := Int.ediv_one _
    rw [this]; omega
  · omega

theorem small_ok {kk : Int} (h0 : 0 ≤ kk) (h1 : kk ≤ 1000) : Builtin.Range.small 0 kk 1 = true := by
  unfold Builtin.Range.small
  rw [rangeSize1]
  simp [Builtin.Range.rangeFitsLong]
  omega

/-- iter(x) -/
theorem iter_ok (wr : WR prog w H W hp s.heap) {src : V × List V} (ri : RI W hp s.heap a src) {Q : Value → Shared → Prop}
    (h : ∀ s', (∀ b o, s.heap.get? b = some o → s'.heap.get? b = some o) → Ext [] W s W s' → WR prog w H W hp s'.heap → ItAt W s'.heap s.heap.objs.size src 0 → StandsI hp src → Q (.ref s.heap.objs.size) s') : wpAny (model prog w) A (pyIter a) Q Ex s := by
  have go : ∀ o : Obj, ItAt W (s.heap.push o) s.heap.objs.size src 0 → StandsI hp src → Q (.ref s.heap.objs.size) { s with heap := s.heap.push o } := fun o hi hs => by
    have kp : ∀ b o', s.heap.get? b = some o' → (s.heap.push o).get? b = some o' := fun b o' e => Heap.get?_push_of_some _ e
    exact h { s with heap := s.heap.push o } kp (.grow [] kp) (wr.grow kp) hi hs
  rcases ri with ⟨va, hl⟩ | ⟨r, kk, t, u, v, rfl, e, hk, hr⟩
  · obtain ⟨addr, vs, n, rfl, r, q⟩ := items_at wr va hl
    rcases q with ⟨e, q⟩ | ⟨e, q, _⟩
    · exact wpAny_pyIter_tuple ⟨_, q, rfl, _, rfl⟩ (go _ (.inl ⟨addr, va, .inl ⟨⟨_, e⟩, ⟨_, Heap.get?_push_size _ rfl, rfl, rfl⟩⟩⟩) (.inr hl))
    · exact wpAny_pyIter_list ⟨_, q, rfl, _, rfl⟩ (go _ (.inl ⟨addr, va, .inr ⟨e, ⟨_, Heap.get?_push_size _ rfl, rfl, rfl⟩⟩⟩) (.inr hl))
  · refine wpAny_pyIter_range hr (small_ok hk.1 hk.2) (go _ (.inr ⟨kk, e, ?_⟩) (.inl (by rw [e])))
    rw [rangeSize1]
    have e1 : (0 : Int) + ((0 : Nat) : Int) * 1 = 0 := by simp
    have e2 : ((kk.toNat : Nat) : Int) - ((0 : Nat) : Int) = ((kk.toNat : Nat) : Int) := by simp
    rw [e1, e2]
    exact Heap.get?_push_size _ rfl

theorem rangeV_get {kk : Int} {j : Nat} {u : V} (e : (rangeV kk)[j]? = some u) : u = .int (j : Int) ∧ j < kk.toNat := by
  unfold rangeV at e
  rw [List.getElem?_map] at e
  obtain ⟨i, hi, rfl⟩ := Option.map_eq_some_iff.mp e
  have hlt := (List.getElem?_eq_some_iff.mp hi).1
  rw [List.length_range] at hlt
  rw [List.getElem?_range hlt] at hi
  (first | exact nos hi | exact nof hi | exact nos2 hi | exact nof2 hi | cases hi)
  exact ⟨rfl, hlt⟩

/-- the next item -/
theorem next_ok (wr : WR prog w H W hp s.heap) {I : Addr} (hJ : W.J I = none) (hR : ∀ i, i < W.n → W.ρ i ≠ I) {src : V × List V} {j : Nat} (it : ItAt W s.heap I src j) (hs : StandsI hp src) {u : V} (hu : src.2[j]? = some u) {Q : Option Value → Shared → Prop}
    (h : ∀ v s', (∀ b o, b ≠ I → s.heap.get? b = some o → s'.heap.get? b = some o) → Ext [I] W s W s' → WR prog w H W hp s'.heap → ItAt W s'.heap I src (j + 1) → VR W v u → Q (some v) s') : wpAny (model prog w) A (pyNext (.ref I)) Q Ex s := by
  have go : ∀ v h' tk, Heap.SameBut I s.heap h' → ItAt W h' I src (j + 1) → VR W v u → Q (some v) { s with heap := h', toks := tk } := fun v h' tk sb hi hv => by
    have k : ∀ b o, b ≠ I → s.heap.get? b = some o → h'.get? b = some o := fun b o hb e => (sb.2 b hb).trans e
    exact h v _ k (Ext.but I (by simp) k hi.alive) (wr.but hJ hR k) hi hv
  rcases it with ⟨ax, va, q⟩ | ⟨kk, e, q⟩
  · have hl : itemsOf hp src.1 = some src.2 := by
      rcases hs with e | e
      · rw [e] at va; cases va
      · exact e
    obtain ⟨addr, vs, n, e0, r, p⟩ := items_at wr va hl
    (first | exact nos e0 | exact nof e0 | exact nos2 e0 | exact nof2 e0 | cases e0)
    obtain ⟨v, hv, rv⟩ := r.get hu
    rcases q with ⟨⟨m, e⟩, q⟩ | ⟨e, q⟩
    · rcases p with ⟨_, p⟩ | ⟨e', _⟩
      · exact wpAny_pyNext_tuple_item (items := vs.toArray) q ⟨_, p, rfl, _, rfl⟩ (by simpa using hv) fun h' q' sb => go v h' s.toks sb (.inl ⟨ax, va, .inl ⟨⟨m, e⟩, q'⟩⟩) rv
      · exact absurd e (e' m)
    · rcases p with ⟨e', _⟩ | ⟨_, p, _⟩
      · exact absurd e' (e _)
      · exact wpAny_pyNext_list_item (items := vs.toArray) q ⟨_, p, rfl, _, rfl⟩ (by simpa using hv) fun h' q' sb => go v h' s.toks sb (.inl ⟨ax, va, .inr ⟨e, q'⟩⟩) rv
  · rw [e] at hu
    obtain ⟨rfl, hlt⟩ := rangeV_get hu
    refine wpAny_pyNext_range_item q (by omega) fun h' q' sb => go _ h' _ sb (.inr ⟨kk, e, ?_⟩) ?_
    · have e1 : (0 : Int) + (j : Int) * 1 + 1 = 0 + ((j + 1 : Nat) : Int) * 1 := by push_cast; omega
      have e2 : ((kk.toNat : Nat) : Int) - (j : Int) - 1 = ((kk.toNat : Nat) : Int) - ((j + 1 : Nat) : Int) := by push_cast; omega
      rw [e1, e2] at q'; exact q'
    · have e1 : (0 : Int) + (j : Int) * 1 = (j : Int) := by omega
      rw [e1]; exact .int _ _

/-- no item is left -/
theorem end_ok (wr : WR prog w H W hp s.heap) (hh : A.handled = none) {I : Addr} {src : V × List V} {j : Nat} (it : ItAt W s.heap I src j) (hs : StandsI hp src) (hu : src.2[j]? = none) {Q : Option Value → Shared → Prop}
    (h : ∀ s', (∀ b o, b ≠ I → s.heap.get? b = some o → s'.heap.get? b = some o) → (∃ h' tk, s' = { s with heap := h', toks := tk }) → Q none s') : wpAny (model prog w) A (pyNext (.ref I)) Q Ex s := by
  rcases it with ⟨ax, va, q⟩ | ⟨kk, e, q⟩
  · have hl : itemsOf hp src.1 = some src.2 := by
      rcases hs with e | e
      · rw [e] at va; cases va
      · exact e
    obtain ⟨addr, vs, n, e0, r, p⟩ := items_at wr va hl
    (first | exact nos e0 | exact nof e0 | exact nos2 e0 | exact nof2 e0 | cases e0)
    have hv : vs.toArray[j]? = none := by
      rw [List.getElem?_toArray, List.getElem?_eq_none_iff, r.length]; exact List.getElem?_eq_none_iff.mp hu
    rcases q with ⟨⟨m, e⟩, q⟩ | ⟨e, q⟩
    · rcases p with ⟨_, p⟩ | ⟨e', _⟩
      · exact wpAny_pyNext_tuple_end (items := vs.toArray) hh q ⟨_, p, rfl, _, rfl⟩ hv fun h' sb => h { s with heap := h' } sb ⟨_, _, rfl⟩
      · exact absurd e (e' m)
    · rcases p with ⟨e', _⟩ | ⟨_, p, _⟩
      · exact absurd e' (e _)
      · exact wpAny_pyNext_list_end (items := vs.toArray) hh q ⟨_, p, rfl, _, rfl⟩ hv fun h' sb => h { s with heap := h' } sb ⟨_, _, rfl⟩
  · rw [e] at hu
    have hj : kk.toNat ≤ j := by
      have := List.getElem?_eq_none_iff.mp hu
      simpa [rangeV] using this
    exact wpAny_pyNext_range_end hh q (by omega) fun h' sb => h { s with heap := h' } sb ⟨_, _, rfl⟩

theorem owned_ok {t : Expr} {I : Addr} {v : Value} {src : V × List V} {j : Nat} (it : ItAt W s.heap I src j) {Q : Unit → Shared → Prop} (h : Q () s) : wpAny (model prog w) A (letOwnedTupleGo t (.ref I) v) Q Ex s := by
  unfold letOwnedTupleGo
  have go : ∀ (o : Obj) (n : String) (vs : Array Value), s.heap.get? I = some o → o.cls = .type n → o.data = .fields vs → (["enumerate", "zip", "dict_itemiterator", "dict_reverseitemiterator", "odict_iterator", "itertools.zip_longest", "itertools.pairwise"].contains n) = false →
      wpAny (model prog w) A (do
        let (.ref r, .ref a) := (Value.ref I, v) | return
        let o ← load r
        match o.cls, o.data with
        | .type n, .fields vs =>
          if ["enumerate", "zip", "dict_itemiterator", "dict_reverseitemiterator", "odict_iterator", "itertools.zip_longest", "itertools.pairwise"].contains n && vs[0]? == some (rawInt a) then
            rule "for.unpacks-the-owned-tuple"
            updateField r 0 .none
        | _, _ => pure ()) Q Ex s := by
    intro o n vs h1 h2 h3 h4
    cases v with
    | ref a =>
      refine wpAny_bind (wpAny_load h1 ?_)
      rw [h2, h3]
      dsimp only
      rw [h4]
      exact wpAny_pure h
    | _ => exact wpAny_pure h
  have fin : ∃ o n vs, s.heap.get? I = some o ∧ o.cls = .type n ∧ o.data = .fields vs ∧ (["enumerate", "zip", "dict_itemiterator", "dict_reverseitemiterator", "odict_iterator", "itertools.zip_longest", "itertools.pairwise"].contains n) = false := by
    rcases it with ⟨ax, va, ⟨m, o, h1, h2, h3⟩ | ⟨m, o, h1, h2, h3⟩⟩ | ⟨kk, e, q⟩
    · exact ⟨o, _, _, h1, h2, h3, by decide +kernel⟩
    · exact ⟨o, _, _, h1, h2, h3, by decide +kernel⟩
    · exact ⟨_, _, _, q, rfl, rfl, by decide +kernel⟩
  obtain ⟨o, n, vs, h1, h2, h3, h4⟩ := fin
  split
  · exact go o n vs h1 h2 h3 h4
  · exact go o n vs h1 h2 h3 h4
  · exact wpAny_pure h
end
end Mine
end

section
open PySem PySem.W PyProof.Rows PySem.Spec PySem.SeqAt PySem.Calls
namespace Mine
noncomputable def RoomC (k : Nat) (A : Around) : Prop := A.handled = none ∧ A.depth + 2 * k + 9 < 1000 ∧ A.units + 20 * k + 190 < 9900
theorem Room.c {k : Nat} {A : Around} (r : Room k A) : RoomC k A := ⟨r.hd, by have := r.dep; omega, by have := r.un; omega⟩

section
variable (prog : Program) (w : World) (K : Frag) (H : Heap) (cx : Cx)

noncomputable def Gl (id : Str) (v : Value) : Prop := ∀ (A : Around) (Q : Value → Shared → Prop) (Ex : Value → Shared → Prop) (s : Shared) (env : Env), env.globals = mainGlobals → env.builtins = builtinsNs →
  (∀ b o, H.get? b = some o → s.heap.get? b = some o) → Q v s → wpAny (model prog w) A (loadGlobal env id) Q Ex s

structure GoodCx : Prop where
  inK : K.In H
  fns : ∀ id a, cx.fns.lookup id = some a → Gl prog w H id (.ref a) ∧ keepIn K (.ref a) = true
  clss : ∀ id C f, cx.clss.lookup id = some (C, f) → Gl prog w H id (.ref C) ∧ keepIn K (.ref C) = true ∧ makesIn K C = true ∧ findIn K (.ref C) "__init__" = some (some (.ref f)) ∧ typeIn K (.ref f) = some (.type "function")
  blt : ∀ id v, bltOf id = some v → Gl prog w H id v
  lst : Gl prog w H "list" (.type "list")
  rng : Gl prog w H "range" (.type "range")
  flds : ∀ C l, cx.flds.lookup C = some l → ClsOK K C l
  meths : ∀ C ms, cx.meths.lookup C = some ms → (∃ l, ClsOK K C l) ∧ ∀ name f, ms.lookup name = some f → findIn K (.ref C) name = some (some (.ref f)) ∧ typeIn K (.ref f) = some (.type "function") ∧ keepIn K (.ref f) = true

/-- the functions answer as Φ says -/
noncomputable def CallOK (Φ : Call) (k : Nat) : Prop := ∀ (f : Addr) (vs : List V) (hp : Hp) (v : V) (hp' : Hp), Φ f vs hp = some (v, hp') → ∀ (W : Wd) (s : Shared) (A : Around) (vals : List Value) (R : Result → Shared → Prop),
  WR prog w H W hp s.heap → VRs W vals vs → RoomC k A → (∀ W' s' val, Ext [] W s W' s' → WR prog w H W' hp' s'.heap → VR W' val v → R (.ok (.ret val)) s') → codeAny (model prog w) A (.call (.ref f) ⟨vals, []⟩) R s

/-- a tree of this frame does as the evaluator says -/
noncomputable def Tr (k : Nat) (sc : Nm) (env : En) (hp : Hp) {α β : Type} (t : Env → Sem α) (R : Wd → Heap → α → β → Prop) (b : β) (hp' : Hp) : Prop :=
  ∀ (st : Nm) (E : Env) (own : List Addr) (W : Wd) (s : Shared) (A : Around) (Q : α → Shared → Prop) (Ex : Value → Shared → Prop), WR prog w H W hp s.heap → EnvOK st sc E own env W s.heap → Room k A →
    (∀ W' s' a, Ext [] W s W' s' → WR prog w H W' hp' s'.heap → R W' s'.heap a b → Q a s') → wpAny (model prog w) A (t E) Q Ex s
end

noncomputable def starFree : List Expr → Bool
  | [] => true
  | .Starred _ _ :: _ => false
  | _ :: r => starFree r
noncomputable def notStar : Expr → Bool
  | .Starred _ _ => false
  | _ => true
theorem plain_star {e : Expr} (h : plainE e = true) : notStar e = true := by (first | exact nos e | exact nof e | exact nos2 e | exact nof2 e | cases e) <;> first | rfl | cases h
theorem star_cons {e : Expr} {r : List Expr} (h : notStar e = true) : starFree (e :: r) = starFree r ∧ ∀ env, starEach (e :: r) env = (false, eval e env) :: starEach r env := by
  (first | exact nos e | exact nof e | exact nos2 e | exact nof2 e | cases e) <;> first | exact ⟨rfl, fun _ => rfl⟩ | cases h
theorem star_plain {pos : Pos} {env : Env} : ∀ {es : List Expr}, starFree es = true → (backTo pos (starEach es env)).any (·.1) = false
  | [], _ => rfl
  | e :: r, h => by
    have hn : notStar e = true := by (first | exact nos e | exact nof e | exact nos2 e | exact nof2 e | cases e) <;> first | rfl | exact h
    rw [(star_cons hn).1] at h
    rw [(star_cons hn).2]
    show (false || (backTo pos (starEach r env)).any (·.1)) = false
    rw [star_plain h]; rfl
theorem star_all {pos : Pos} {env : Env} {es : List Expr} (h : starFree es = true) : (backTo pos (starEach es env)).all (fun x => !x.1) = true := by
  have := star_plain (pos := pos) (env := env) h
  rw [List.any_eq_false] at this
  rw [List.all_eq_true]
  intro x hx
  simpa using this x hx

section
variable {prog : Program} {w : World} {K : Frag} {H : Heap} {cx : Cx} {Φ : Call} {k n : Nat}

theorem callV {M : Model} {A : Around} {Q : Value → Shared → Prop} {Ex : Value → Shared → Prop} {s : Shared} {E : Env} {pos : Pos} {f : Value} {first : List Value} {args : List Expr} {P : Heap → Prop} (hs : starFree args = true)
    (hk : ∀ h, P h → ∃ k, (k = Keeper.frame ∨ k = Keeper.machine ∨ k = Keeper.boundFrame) ∧ Looks M h (keeperOf f) k)
    (h : wpAny M A (spliced (backTo pos (starEach args E))) (fun vs s1 => P s1.heap ∧ wpAny M A (call f (first ++ vs) []) Q Ex s1) Ex s) : wpAny M A (callWith pos f first (backTo pos (starEach args E)) []) Q Ex s := by
  refine callWith_of (P := P) (by rw [star_plain hs]; rfl) hk ?_
  cases args with
  | nil =>
    unfold evalArgs
    show wpAny M A (spliced [] >>= _) _ Ex s
    refine wpAny_bind (wpAny_mono h (fun vs s1 h1 => ?_) fun _ _ x => x)
    refine wpAny_bind (wpAny_pure ?_)
    refine wpAny_holding ?_
    exact wpAny_bind (wpAny_pure (wpAny_bind (wpAny_pure (wpAny_pure h1))))
  | cons e r =>
    have hn : notStar e = true := by (first | exact nos e | exact nof e | exact nos2 e | exact nof2 e | cases e) <;> first | rfl | exact hs
    rw [(star_cons hn).2] at h ⊢
    exact evalArgs_plain h
theorem keeps_b {M : Model} {f : Value} (hf : (∃ i, f = .builtin i) ∨ ∃ t, f = .type t) (h : Heap) (_ : True) : ∃ k, (k = Keeper.frame ∨ k = Keeper.machine ∨ k = Keeper.boundFrame) ∧ Looks M h (keeperOf f) k := by
  rcases hf with ⟨i, rfl⟩ | ⟨i, rfl⟩ <;> exact ⟨.machine, .inr (.inl rfl), Looks.of_pure rfl⟩

theorem gl_ok {st sc : Nm} {E : Env} {own : List Addr} {env : En} {W : Wd} {hp : Hp} {s : Shared} {A : Around} {Q : Value → Shared → Prop} {Ex : Value → Shared → Prop} {id : Str} {p : Pos} {v : Value} (wr : WR prog w H W hp s.heap) (x0 : EnvOK st sc E own env W s.heap)
    (hi : isGl sc id = true) (g : Gl prog w H id v) (h : Q v s) : wpAny (model prog w) A (eval (.Name id p) E) Q Ex s := by
  have hl : sc.lookup id = some .globalImplicit := by
    unfold isGl at hi
    split at hi
    · assumption
    · (first | exact nos hi | exact nof hi | exact nos2 hi | exact nof2 hi | cases hi)
  refine Calls.Name_function_global x0.kind ?_ (g A Q Ex s E x0.glob x0.blt wr.keepH h) ?_
  · unfold Env.kindOf; rw [x0.names]; exact hl
  · cases q : id == ("__debug__" : Str) with
    | false => rfl
    | true => rw [beq_iff_eq.mp q, x0.nodbg] at hl; (first | exact nos hl | exact nof hl | exact nos2 hl | exact nof2 hl | cases hl)

theorem methCall {M : Model} {A : Around} {Q : Value → Shared → Prop} {Ex : Value → Shared → Prop} {s : Shared} {env : Env} {o : Expr} {name : Str} {apos pos : Pos} {args : List Expr} (hb : attributeBase o name env (eval o env) = eval o env) (hl : (apos.endLine == pos.line) = true) (hs : starFree args = true) (hn : args.length ≤ 9)
    (h : wpAny M A (eval o env) (fun ov s₁ => ∀ pl, wpAny M A (getMethod ov name pl) (fun fx s₂ => wpAny M A (callWith pos fx.1 fx.2 (backTo pos (starEach args env)) []) Q Ex s₂) Ex s₁) Ex s) :
    wpAny M A (eval (.Call (.Attribute o name apos) args [] pos) env) Q Ex s := by
  rw [arm_eval_Call, hb]
  refine wpAny_bind (wpAny_mono h (fun ov s₁ h₁ => wpAny_bind (wpAny_standAt ?_)) fun _ _ x => x)
  have hform : methodCallForm (args.length + ([] : List Keyword).length) (backTo pos (starEach args env)) (backToKw pos (keywordEach [] env)) = true := by
    unfold methodCallForm
    rw [star_all hs]
    show (true && true && decide (args.length + 0 + 0 < 30)) = true
    simp only [Bool.and_self, Bool.true_and, decide_eq_true_eq]
    omega
  have hpos : methodCallPos true o env apos pos = pure pos := by unfold methodCallPos; simp [hl]
  unfold methodCall
  rw [hform, hpos]
  refine wpAny_bind (wpAny_holding ?_)
  unfold calleeOf
  rw [if_pos rfl]
  exact wpAny_mono (h₁ _) (fun fx s₂ h₂ => wpAny_bind (wpAny_pure h₂)) fun _ _ x => x

end
end Mine
end

section
open PySem PySem.W PyProof.Rows PySem.Spec PySem.SeqAt PySem.Calls
namespace Mine
theorem so {α β : Type} {a a' : α} {b b' : β} (h : some (a, b) = some (a', b')) : a = a' ∧ b = b' := by cases h; exact ⟨rfl, rfl⟩
theorem iteS {α : Type} {c : Prop} [Decidable c] {x : Option α} {y : α} (h : (if c then x else Option.none) = some y) : c ∧ x = some y := by
  by_cases hc : c
  · rw [if_pos hc] at h; exact ⟨hc, h⟩
  · rw [if_neg hc] at h; (first | exact nos h | exact nof h | exact nos2 h | exact nof2 h | cases h)
theorem iteN {α : Type} {c : Prop} [Decidable c] {x : Option α} {y : α} (h : (if c then Option.none else x) = some y) : ¬ c ∧ x = some y := by
  by_cases hc : c
  · rw [if_pos hc] at h; (first | exact nos h | exact nof h | exact nos2 h | exact nof2 h | cases h)
  · rw [if_neg hc] at h; exact ⟨hc, h⟩
theorem bd {α β : Type} {x : Option α} {f : α → Option β} {b : β} (h : x.bind f = some b) : ∃ a, x = some a ∧ f a = some b := Option.bind_eq_some_iff.mp h

theorem evE_plain {cx : Cx} {Φ : Call} {n : Nat} {sc : Nm} {e : Expr} {env : En} {hp : Hp} {r : V × Hp} (h : evE cx Φ n sc e env hp = some r) : plainE e = true := by
  cases n with
  | zero => (first | exact nos h | exact nof h | exact nos2 h | exact nof2 h | cases h)
  | succ n => (first | exact nos e | exact nof e | exact nos2 e | exact nof2 e | cases e) <;> first | rfl | cases h
theorem evM_plain {cx : Cx} {Φ : Call} {n : Nat} {sc : Nm} {e : Expr} {env : En} {hp : Hp} {r : V × Hp} (h : evM cx Φ n sc e env hp = some r) : plainE e = true := by
  cases n with
  | zero => (first | exact nos h | exact nof h | exact nos2 h | exact nof2 h | cases h)
  | succ n => (first | exact nos e | exact nof e | exact nos2 e | exact nof2 e | cases e) <;> first | rfl | (exact evE_plain (cx := cx) (Φ := Φ) (n := n) h)

section
variable (prog : Program) (w : World) (K : Frag) (H : Heap) (cx : Cx) (Φ : Call) (k : Nat)

noncomputable abbrev forTests (es : List Expr) (b : Bool) (E : Env) : Sem Bool := forIn es b fun c r => if r = true then do let ok ← isTrue c E (eval c E); pure (ForInStep.yield ok) else pure (ForInStep.yield r)

noncomputable def CompTr (elt : Expr) (gens : List Comprehension) (scope : Scope) (pos : Pos) (sc : Nm) (env : En) (hp : Hp) (v : V) (hp' : Hp) : Prop :=
  scope.kind = .function ∧ (∀ x ∈ scope.names, x.2 = .local → scope.names.lookup x.1 = some .local) ∧ ∃ g gs, gens = g :: gs ∧ g.is_async = 0 ∧ (∀ E x, foldedSetIterable g.iter E x = pure x) ∧
  ∀ (st : Nm) (E : Env) (own : List Addr) (W : Wd) (s : Shared) (A : Around) (RR : Value → Addr → Result → Shared → Prop) (Ex : Value → Shared → Prop), WR prog w H W hp s.heap → EnvOK st sc E own env W s.heap → Room k A →
    (∀ W' s' acc C m, Ext [] W s W' s' → WR prog w H W' hp' s'.heap → VR W' acc v → s'.heap.Ns C m → s.heap.get? C = none → W'.J C = none → (∀ i, i < W'.n → W'.ρ i ≠ C) → RR acc C (.ok .next) s') →
    ∃ cl, closureFor scope E = pure cl ∧ wpAny (model prog w) A (eval g.iter E) (fun x s₁ => wpAny (model prog w) A (pyIter x) (fun it s₂ => wpAny (model prog w) A (newList []) (fun acc s₃ =>
      wpAny (model prog w) A (newFunctionEnv scope E.globals cl [] E.qual none .none (some E)) (fun cenv s₄ =>
        codeAny (model prog w) A (.compStart (.ListComp elt gens scope pos) 0 it acc { cenv with scope := relabel scope E }) (RR acc cenv.locals) s₄) Ex s₃) Ex s₂) Ex s₁) Ex s

abbrev TrV (sc : Nm) (env : En) (hp : Hp) (t : Env → Sem Value) (v : V) (hp' : Hp) : Prop := Tr prog w H k sc env hp t (fun W _ a b => VR W a b) v hp'
abbrev TrVs (sc : Nm) (env : En) (hp : Hp) (t : Env → Sem (List Value)) (v : List V) (hp' : Hp) : Prop := Tr prog w H k sc env hp t (fun W _ a b => VRs W a b) v hp'
abbrev TrB (sc : Nm) (env : En) (hp : Hp) (t : Env → Sem Bool) (v : Bool) (hp' : Hp) : Prop := Tr prog w H k sc env hp t (fun _ _ a b => a = b) v hp'

structure P (n : Nat) : Prop where
  e : ∀ {sc e env hp v hp'}, evE cx Φ n sc e env hp = some (v, hp') → TrV prog w H k sc env hp (eval e) v hp'
  o : ∀ {sc e env hp v hp'}, evO cx Φ n sc e env hp = some (v, hp') → Tr prog w H k sc env hp (evalPart e) (fun _ _ a b => IsPart a b) v hp'
  es : ∀ {sc es env hp vs hp'}, evEs cx Φ n sc es env hp = some (vs, hp') → starFree es = true ∧ ∀ pos, TrVs prog w H k sc env hp (fun E => spliced (backTo pos (starEach es E))) vs hp'
  mt : ∀ {sc i name args env hp v hp'}, methV cx Φ n sc i name args env hp = some (v, hp') → starFree args = true ∧ (∃ l, hp[i]? = some (.lst l)) ∧ ∃ id, Slot "list" name id ∧ typeOf (.builtin id) = pure (.type "method_descriptor") ∧
    ∀ (pos : Pos) (st : Nm) (E : Env) (own : List Addr) (W : Wd) (s : Shared) (A : Around) (Q : Value → Shared → Prop) (Ex : Value → Shared → Prop), WR prog w H W hp s.heap → EnvOK st sc E own env W s.heap → Room k A →
      (∀ W' s' a, Ext [] W s W' s' → WR prog w H W' hp' s'.heap → VR W' a v → Q a s') → wpAny (model prog w) A (callWith pos (.builtin id) [.ref (W.ρ i)] (backTo pos (starEach args E)) []) Q Ex s
  m : ∀ {sc e env hp v hp'}, evM cx Φ n sc e env hp = some (v, hp') → TrV prog w H k sc env hp (eval e) v hp'
  ms : ∀ {sc es env hp vs hp'}, evMs cx Φ n sc es env hp = some (vs, hp') → starFree es = true ∧ ∀ pos, TrVs prog w H k sc env hp (fun E => spliced (backTo pos (starEach es E))) vs hp'
  ch : ∀ {sc a ops rs env hp b hp'}, chain cx Φ n sc a ops rs env hp = some (b, hp') → ∀ (pos : Pos) (st : Nm) (E : Env) (own : List Addr) (W : Wd) (s : Shared) (A : Around) (av : Value) (Ex : Value → Shared → Prop),
    VR W av a → WR prog w H W hp s.heap → EnvOK st sc E own env W s.heap → Room k A →
      (∀ Q : Value → Shared → Prop, (∀ W' s', Ext [] W s W' s' → WR prog w H W' hp' s'.heap → Q (.bool b) s') → wpAny (model prog w) A (compareChain pos av ops (markedEach ops rs (evalEach rs E))) Q Ex s) ∧
      (∀ Q : Bool → Shared → Prop, (∀ W' s', Ext [] W s W' s' → WR prog w H W' hp' s'.heap → Q b s') → wpAny (model prog w) A (testChain pos av ops (markedEach ops rs (evalEach rs E))) Q Ex s)
  t : ∀ {sc e env hp b hp'}, tst cx Φ n sc e env hp = some (b, hp') → TrB prog w H k sc env hp (fun E => isTrue e E (eval e E)) b hp'
  ts : ∀ {sc es env hp b hp'}, tsts cx Φ n sc es env hp = some (b, hp') → TrB prog w H k sc env hp (forTests es true) b hp'
  i : ∀ {sc e env hp sl hp'}, evI cx Φ n sc e env hp = some (sl, hp') → (∀ E x, foldedSetIterable e E x = pure x) ∧ sl.2.length ≤ lineMax ∧ Tr prog w H k sc env hp (eval e) (fun W h a b => RI W hp' h a b) sl hp'
  c : ∀ {sc elt gens scope env hp v hp'}, compV cx Φ n sc elt gens scope env hp = some (v, hp') → ∀ pos, CompTr prog w H k elt gens scope pos sc env hp v hp'
end

section
variable {prog : Program} {w : World} {K : Frag} {H : Heap} {cx : Cx} {Φ : Call} {k n : Nat}

theorem bool_of {W : Wd} {a : Value} {b : Bool} (h : VR W a (.bool b)) : a = .bool b := by cases h; rfl

theorem step_es (ih : P prog w H cx Φ k n) : ∀ {sc es env hp vs hp'}, evEs cx Φ (n + 1) sc es env hp = some (vs, hp') → starFree es = true ∧ ∀ pos, TrVs prog w H k sc env hp (fun E => spliced (backTo pos (starEach es E))) vs hp' := by
  intro sc es env hp vs hp' h
  cases es with
  | nil =>
    obtain ⟨rfl, rfl⟩ := so h
    exact ⟨rfl, fun pos st E own W s A Q Ex wr x0 rm hQ => wpAny_items_nil (hQ W s [] (.refl _ _ _) wr .nil)⟩
  | cons e r =>
    refine bd2 h ?_; clear h; intro v hp1 h1 h
    refine bd2 h ?_; clear h; intro us hp2 h2 h
    obtain ⟨rfl, rfl⟩ := so h
    have hn := plain_star (evE_plain h1)
    obtain ⟨f2, t2⟩ := ih.es h2
    refine ⟨(star_cons hn).1.trans f2, fun pos st E own W s A Q Ex wr x0 rm hQ => wpAny_items_cons (ih.e h1 st E own W s A _ Ex wr x0 rm fun W1 s1 a e1 wr1 va => ?_) ((star_cons hn).2 E)⟩
    exact t2 pos st E own W1 s1 A _ Ex wr1 (x0.ext e1) rm fun W2 s2 as e2 wr2 vas => hQ W2 s2 _ (e1.trans e2) wr2 (.cons (va.mono e2.le) vas)
theorem step_ms (ih : P prog w H cx Φ k n) : ∀ {sc es env hp vs hp'}, evMs cx Φ (n + 1) sc es env hp = some (vs, hp') → starFree es = true ∧ ∀ pos, TrVs prog w H k sc env hp (fun E => spliced (backTo pos (starEach es E))) vs hp' := by
  intro sc es env hp vs hp' h
  cases es with
  | nil =>
    obtain ⟨rfl, rfl⟩ := so h
    exact ⟨rfl, fun pos st E own W s A Q Ex wr x0 rm hQ => wpAny_items_nil (hQ W s [] (.refl _ _ _) wr .nil)⟩
  | cons e r =>
    refine bd2 h ?_; clear h; intro v hp1 h1 h
    refine bd2 h ?_; clear h; intro us hp2 h2 h
    obtain ⟨rfl, rfl⟩ := so h
    have hn := plain_star (evM_plain h1)
    obtain ⟨f2, t2⟩ := ih.ms h2
    refine ⟨(star_cons hn).1.trans f2, fun pos st E own W s A Q Ex wr x0 rm hQ => wpAny_items_cons (ih.m h1 st E own W s A _ Ex wr x0 rm fun W1 s1 a e1 wr1 va => ?_) ((star_cons hn).2 E)⟩
    exact t2 pos st E own W1 s1 A _ Ex wr1 (x0.ext e1) rm fun W2 s2 as e2 wr2 vas => hQ W2 s2 _ (e1.trans e2) wr2 (.cons (va.mono e2.le) vas)

theorem step_o (ih : P prog w H cx Φ k n) : ∀ {sc e env hp v hp'}, evO cx Φ (n + 1) sc e env hp = some (v, hp') → Tr prog w H k sc env hp (evalPart e) (fun _ _ a b => IsPart a b) v hp' := by
  intro sc e env hp v hp' h
  cases e with
  | none =>
    refine soE h ?_; clear h
    intro st E own W s A Q Ex wr x0 rm hQ
    exact wpAny_pure (hQ W s .none (.refl _ _ _) wr .none)
  | some e =>
    refine bd2 h ?_; clear h; intro a hp1 h1 h
    cases a with
    | int i =>
      refine soE h ?_; clear h
      intro st E own W s A Q Ex wr x0 rm hQ
      rw [evalPart_some]
      exact ih.e h1 st E own W s A _ Ex wr x0 rm fun W1 s1 a e1 wr1 va => by
        cases va with
        | int i t => exact hQ W1 s1 _ e1 wr1 (.int i t)
    | _ => (first | exact nos h | exact nof h | exact nos2 h | exact nof2 h | cases h)

theorem step_ch (ih : P prog w H cx Φ k n) : ∀ {sc a ops rs env hp b hp'}, chain cx Φ (n + 1) sc a ops rs env hp = some (b, hp') → ∀ (pos : Pos) (st : Nm) (E : Env) (own : List Addr) (W : Wd) (s : Shared) (A : Around) (av : Value) (Ex : Value → Shared → Prop),
    VR W av a → WR prog w H W hp s.heap → EnvOK st sc E own env W s.heap → Room k A →
      (∀ Q : Value → Shared → Prop, (∀ W' s', Ext [] W s W' s' → WR prog w H W' hp' s'.heap → Q (.bool b) s') → wpAny (model prog w) A (compareChain pos av ops (markedEach ops rs (evalEach rs E))) Q Ex s) ∧
      (∀ Q : Bool → Shared → Prop, (∀ W' s', Ext [] W s W' s' → WR prog w H W' hp' s'.heap → Q b s') → wpAny (model prog w) A (testChain pos av ops (markedEach ops rs (evalEach rs E))) Q Ex s) := by
  intro sc a ops rs env hp b hp' h pos st E own W s A av Ex va wr x0 rm
  have last : ∀ op r, (if behindInMarks op r then Option.none else (evE cx Φ n sc r env hp).bind fun (b, hp1) => (cmpV hp1 op a b).bind fun c => some (c, hp1)) = some (b, hp') →
      (∀ Q : Value → Shared → Prop, (∀ W' s', Ext [] W s W' s' → WR prog w H W' hp' s'.heap → Q (.bool b) s') → wpAny (model prog w) A (compareChain pos av [op] (markedEach [op] [r] (evalEach [r] E))) Q Ex s) ∧
      (∀ Q : Bool → Shared → Prop, (∀ W' s', Ext [] W s W' s' → WR prog w H W' hp' s'.heap → Q b s') → wpAny (model prog w) A (testChain pos av [op] (markedEach [op] [r] (evalEach [r] E))) Q Ex s) := by
    intro op r h
    refine iteNE h ?_; clear h; intro hm h
    refine bd2 h ?_; clear h; intro c hp1 h1 h
    refine bd1 h ?_; clear h; intro d h2 h
    obtain ⟨rfl, rfl⟩ := so h
    have hme : markedEach [op] [r] (evalEach [r] E) = [eval r E] := by
      show [markedBehindIn op r (eval r E)] = _
      have hm' : behindInMarks op r = false := by simpa using hm
      unfold markedBehindIn
      rw [hm']
    rw [hme]
    refine ⟨fun Q hQ => ?_, fun Q hQ => ?_⟩
    · refine wpAny_bind (wpAny_holding (ih.e h1 st E own W s A _ Ex wr x0 rm fun W1 s1 cv e1 wr1 vc => wpAny_bind (wpAny_standAt (wpAny_operating ?_))))
      exact cmp_ok wr1 (va.mono e1.le) vc rm h2 (hQ W1 s1 e1 wr1)
    · refine wpAny_bind (wpAny_holding (ih.e h1 st E own W s A _ Ex wr x0 rm fun W1 s1 cv e1 wr1 vc => wpAny_bind (wpAny_standAt (wpAny_bind (wpAny_operating ?_)))))
      exact cmp_ok wr1 (va.mono e1.le) vc rm h2 (wpAny_holding (wpAny_truthy_bool (hQ W1 s1 e1 wr1)))
  have more : ∀ op op' ops r r' rs, ((evE cx Φ n sc r env hp).bind fun (b, hp1) => (cmpV hp1 op a b).bind fun c => if c then chain cx Φ n sc b (op' :: ops) (r' :: rs) env hp1 else some (false, hp1)) = some (b, hp') →
      (∀ Q : Value → Shared → Prop, (∀ W' s', Ext [] W s W' s' → WR prog w H W' hp' s'.heap → Q (.bool b) s') → wpAny (model prog w) A (compareChain pos av (op :: op' :: ops) (markedEach (op :: op' :: ops) (r :: r' :: rs) (evalEach (r :: r' :: rs) E))) Q Ex s) ∧
      (∀ Q : Bool → Shared → Prop, (∀ W' s', Ext [] W s W' s' → WR prog w H W' hp' s'.heap → Q b s') → wpAny (model prog w) A (testChain pos av (op :: op' :: ops) (markedEach (op :: op' :: ops) (r :: r' :: rs) (evalEach (r :: r' :: rs) E))) Q Ex s) := by
    intro op op' ops r r' rs h
    refine bd2 h ?_; clear h; intro c hp1 h1 h
    refine bd1 h ?_; clear h; intro d h2 h
    have hme : markedEach (op :: op' :: ops) (r :: r' :: rs) (evalEach (r :: r' :: rs) E) = eval r E :: markedEach (op' :: ops) (r' :: rs) (evalEach (r' :: rs) E) := rfl
    rw [hme]
    refine ⟨fun Q hQ => ?_, fun Q hQ => ?_⟩
    · refine wpAny_bind (wpAny_holding (ih.e h1 st E own W s A _ Ex wr x0 rm fun W1 s1 cv e1 wr1 vc => wpAny_bind (wpAny_standAt (wpAny_bind (wpAny_holding ?_)))))
      refine cmp_ok wr1 (va.mono e1.le) vc rm h2 (wpAny_bind (wpAny_release (wpAny_bind (wpAny_holding (wpAny_truthy_bool ?_)))))
      cases d with
      | true => exact (ih.ch h pos st E own W1 s1 A cv Ex vc wr1 (x0.ext e1) rm).1 Q fun W2 s2 e2 wr2 => hQ W2 s2 (e1.trans e2) wr2
      | false =>
        obtain ⟨rfl, rfl⟩ := so h
        exact wpAny_pure (hQ W1 s1 e1 wr1)
    · refine wpAny_bind (wpAny_holding (ih.e h1 st E own W s A _ Ex wr x0 rm fun W1 s1 cv e1 wr1 vc => wpAny_bind (wpAny_standAt (wpAny_bind (wpAny_holding ?_)))))
      refine cmp_ok wr1 (va.mono e1.le) vc rm h2 (wpAny_bind (wpAny_release (wpAny_bind (wpAny_holding (wpAny_truthy_bool ?_)))))
      cases d with
      | true => exact (ih.ch h pos st E own W1 s1 A cv Ex vc wr1 (x0.ext e1) rm).2 Q fun W2 s2 e2 wr2 => hQ W2 s2 (e1.trans e2) wr2
      | false =>
        obtain ⟨rfl, rfl⟩ := so h
        exact wpAny_pure (hQ W1 s1 e1 wr1)
  cases ops with
  | nil => cases rs <;> (first | exact nos h | exact nof h | exact nos2 h | exact nof2 h | cases h)
  | cons op ops =>
    cases rs with
    | nil => cases ops <;> (first | exact nos h | exact nof h | exact nos2 h | exact nof2 h | cases h)
    | cons r rs =>
      cases ops with
      | nil =>
        cases rs with
        | nil => exact last op r h
        | cons r' rs => (first | exact nos h | exact nof h | exact nos2 h | exact nof2 h | cases h)
      | cons op' ops =>
        cases rs with
        | nil => (first | exact nos h | exact nof h | exact nos2 h | exact nof2 h | cases h)
        | cons r' rs => exact more op op' ops r r' rs h

theorem step_t (ih : P prog w H cx Φ k n) : ∀ {sc e env hp b hp'}, tst cx Φ (n + 1) sc e env hp = some (b, hp') → TrB prog w H k sc env hp (fun E => isTrue e E (eval e E)) b hp' := by
  intro sc e env hp b hp' h
  have val : (∀ E whole, isTrue e E whole = (do let v ← whole; standAt e.pos; holding [v] (truthy v))) → ((evE cx Φ n sc e env hp).bind fun (a, hp1) => (match a with | .bool b => some (b, hp1) | _ => Option.none)) = some (b, hp') → TrB prog w H k sc env hp (fun E => isTrue e E (eval e E)) b hp' := by
    intro he h
    refine bd2 h ?_; clear h; intro a hp1 h1 h
    cases a with
    | bool c =>
      refine soE h ?_; clear h
      intro st E own W s A Q Ex wr x0 rm hQ
      refine wpAny_isTrue_value (ih.e h1 st E own W s A _ Ex wr x0 rm fun W1 s1 a e1 wr1 va => ?_) (he _ _)
      rw [bool_of va]
      exact wpAny_truthy_bool (hQ W1 s1 _ e1 wr1 rfl)
    | _ => (first | exact nos h | exact nof h | exact nos2 h | exact nof2 h | cases h)
  cases e with
  | UnaryOp op x p =>
    cases op with
    | Not =>
      refine bd2 h ?_; clear h; intro a hp1 h1 h
      refine soE h ?_; clear h
      intro st E own W s A Q Ex wr x0 rm hQ
      exact wpAny_isTrue_Not (ih.t h1 st E own W s A _ Ex wr x0 rm fun W1 s1 a e1 wr1 ea => by subst ea; exact hQ W1 s1 _ e1 wr1 rfl)
    | _ => exact val (fun _ _ => rfl) h
  | BoolOp op es p =>
    rcases es with _ | ⟨x, _ | ⟨y, _ | ⟨z, r⟩⟩⟩
    · (first | exact nos h | exact nof h | exact nos2 h | exact nof2 h | cases h)
    · (first | exact nos h | exact nof h | exact nos2 h | exact nof2 h | cases h)
    · refine bd2 h ?_; clear h; intro c hp1 h1 h
      intro st E own W s A Q Ex wr x0 rm hQ
      refine wpAny_isTrue_BoolOp ?_
      cases op with
      | And =>
        refine wpAny_allTrue_And_cons (ih.t h1 st E own W s A _ Ex wr x0 rm fun W1 s1 a e1 wr1 ea => ?_)
        subst ea
        cases a with
        | false =>
          obtain ⟨rfl, rfl⟩ := so h
          exact hQ W1 s1 _ e1 wr1 rfl
        | true =>
          refine wpAny_allTrue_And_cons (ih.t h st E own W1 s1 A _ Ex wr1 (x0.ext e1) rm fun W2 s2 a e2 wr2 ea => ?_)
          subst ea
          cases a with
          | false => exact hQ W2 s2 _ (e1.trans e2) wr2 rfl
          | true => exact wpAny_allTrue_And_nil (hQ W2 s2 _ (e1.trans e2) wr2 rfl)
      | Or =>
        refine wpAny_allTrue_Or_cons (ih.t h1 st E own W s A _ Ex wr x0 rm fun W1 s1 a e1 wr1 ea => ?_)
        subst ea
        cases a with
        | true =>
          obtain ⟨rfl, rfl⟩ := so h
          exact hQ W1 s1 _ e1 wr1 rfl
        | false =>
          refine wpAny_allTrue_Or_cons (ih.t h st E own W1 s1 A _ Ex wr1 (x0.ext e1) rm fun W2 s2 a e2 wr2 ea => ?_)
          subst ea
          cases a with
          | true => exact hQ W2 s2 _ (e1.trans e2) wr2 rfl
          | false => exact wpAny_allTrue_Or_nil (hQ W2 s2 _ (e1.trans e2) wr2 rfl)
    · (first | exact nos h | exact nof h | exact nos2 h | exact nof2 h | cases h)
  | Compare l ops rs p =>
    refine bd2 h ?_; clear h; intro a hp1 h1 h
    intro st E own W s A Q Ex wr x0 rm hQ
    show wpAny (model prog w) A (isTrue (.Compare l ops rs p) E _) Q Ex s
    rw [arm_isTrue_Compare]
    refine wpAny_bind (ih.e h1 st E own W s A _ Ex wr x0 rm fun W1 s1 a e1 wr1 va => ?_)
    exact (ih.ch h p st E own W1 s1 A a Ex va wr1 (x0.ext e1) rm).2 Q fun W2 s2 e2 wr2 => hQ W2 s2 _ (e1.trans e2) wr2 rfl
  | IfExp a b c p => (first | exact nos h | exact nof h | exact nos2 h | exact nof2 h | cases h)
  | _ => exact val (fun _ _ => rfl) h

theorem tests_false {prog : Program} {w : World} {A : Around} {Q : Bool → Shared → Prop} {Ex : Value → Shared → Prop} {s : Shared} {E : Env} (h : Q false s) : ∀ es : List Expr, wpAny (model prog w) A (forTests es false E) Q Ex s
  | [] => wpAny_pure h
  | e :: r => by
    unfold forTests
    rw [List.forIn_cons]
    exact wpAny_bind (wpAny_pure (tests_false h r))
theorem step_ts (ih : P prog w H cx Φ k n) : ∀ {sc es env hp b hp'}, tsts cx Φ (n + 1) sc es env hp = some (b, hp') → TrB prog w H k sc env hp (forTests es true) b hp' := by
  intro sc es env hp b hp' h
  cases es with
  | nil =>
    refine soE h ?_; clear h
    intro st E own W s A Q Ex wr x0 rm hQ
    exact wpAny_pure (hQ W s _ (.refl _ _ _) wr rfl)
  | cons e r =>
    refine bd2 h ?_; clear h; intro c hp1 h1 h
    intro st E own W s A Q Ex wr x0 rm hQ
    unfold forTests
    rw [List.forIn_cons]
    refine wpAny_bind ?_
    rw [if_pos rfl]
    refine wpAny_bind (ih.t h1 st E own W s A _ Ex wr x0 rm fun W1 s1 a e1 wr1 ea => wpAny_pure ?_)
    subst ea
    cases a with
    | true => exact ih.ts h st E own W1 s1 A _ Ex wr1 (x0.ext e1) rm fun W2 s2 a e2 wr2 ea => hQ W2 s2 a (e1.trans e2) wr2 ea
    | false =>
      obtain ⟨rfl, rfl⟩ := so h
      exact tests_false (hQ W1 s1 _ e1 wr1 rfl) r
end
end Mine
end

section
open PySem PySem.W PyProof.Rows PySem.Spec PySem.SeqAt PySem.Calls
namespace Mine
section
variable {prog : Program} {w : World} {K : Frag} {H : Heap} {cx : Cx} {Φ : Call} {k n : Nat}

theorem step_mt (ih : P prog w H cx Φ k n) : ∀ {sc i name args env hp v hp'}, methV cx Φ (n + 1) sc i name args env hp = some (v, hp') → starFree args = true ∧ (∃ l, hp[i]? = some (.lst l)) ∧ ∃ id, Slot "list" name id ∧ typeOf (.builtin id) = pure (.type "method_descriptor") ∧
    ∀ (pos : Pos) (st : Nm) (E : Env) (own : List Addr) (W : Wd) (s : Shared) (A : Around) (Q : Value → Shared → Prop) (Ex : Value → Shared → Prop), WR prog w H W hp s.heap → EnvOK st sc E own env W s.heap → Room k A →
      (∀ W' s' a, Ext [] W s W' s' → WR prog w H W' hp' s'.heap → VR W' a v → Q a s') → wpAny (model prog w) A (callWith pos (.builtin id) [.ref (W.ρ i)] (backTo pos (starEach args E)) []) Q Ex s := by
  intro sc i name args env hp v hp' h
  have h0 := h
  clear h
  simp only [methV] at h0
  split at h0
  · rename_i hn
    subst hn
    rcases args with _ | ⟨e, _ | ⟨e2, r⟩⟩
    · (first | exact nos h0 | exact nof h0 | exact nos2 h0 | exact nof2 h0 | cases h0)
    · dsimp only at h0
      split at h0
      · rename_i l0 hl0
        refine bd2 h0 ?_; clear h0; intro u hp1 h1 h
        dsimp only at h
        split at h
        · rename_i l hl
          refine iteSE h ?_; clear h; intro hz h
          obtain ⟨rfl, rfl⟩ := so h
          have hns := plain_star (evM_plain h1)
          refine ⟨by rw [(star_cons hns).1]; rfl, ⟨_, hl0⟩, "list.append", F.slot_list_append, F.type_list_append, fun pos st E own W s A Q Ex wr x0 rm hQ => ?_⟩
          rw [(star_cons hns).2]
          refine append_ok (i := i) (ih.m h1 st E own W s A _ Ex wr x0 rm fun W1 s1 a e1 wr1 va => ⟨W1, hp1, l, u, wr1, hl, hz, va, (e1.le.ρ i (wr.lt hl0)).symm, fun s2 e2 wr2 => ?_⟩)
          exact hQ W1 s2 .none (e1.trans e2) wr2 .none
        · (first | exact nos h | exact nof h | exact nos2 h | exact nof2 h | cases h)
      · (first | exact nos h0 | exact nof h0 | exact nos2 h0 | exact nof2 h0 | cases h0)
    · (first | exact nos h0 | exact nof h0 | exact nos2 h0 | exact nof2 h0 | cases h0)
  · split at h0
    · rename_i hn
      subst hn
      split at h0
      · rename_i l hl
        refine iteSE h0 ?_; clear h0; intro hz h
        refine bd1 h ?_; clear h; intro u hu h
        obtain ⟨rfl, rfl⟩ := so h
        refine ⟨rfl, ⟨_, hl⟩, "list.pop", F.slot_list_pop, F.type_list_pop, fun pos st E own W s A Q Ex wr x0 rm hQ => ?_⟩
        exact pop_ok wr hl hz hu fun v s2 e2 wr2 va => hQ W s2 v e2 wr2 va
      · (first | exact nos h0 | exact nof h0 | exact nos2 h0 | exact nof2 h0 | cases h0)
    · (first | exact nos h0 | exact nof h0 | exact nos2 h0 | exact nof2 h0 | cases h0)

/-- a method of a list -/
theorem list_meth (ih : P prog w H cx Φ k n) {sc : Nm} {i : Nat} {name : Str} {args : List Expr} {env : En} {hp : Hp} {v : V} {hp' : Hp} (h : methV cx Φ n sc i name args env hp = some (v, hp'))
    {o : Expr} {apos pos : Pos} {st : Nm} {E : Env} {own : List Addr} {W : Wd} {s : Shared} {A : Around} {Q : Value → Shared → Prop} {Ex : Value → Shared → Prop}
    (hb : attributeBase o name E (eval o E) = eval o E) (hl : (apos.endLine == pos.line) = true) (hn : args.length ≤ 9) (wr : WR prog w H W hp s.heap) (x0 : EnvOK st sc E own env W s.heap) (rm : Room k A)
    (ho : ∀ (Q : Value → Shared → Prop), (∀ s', Ext [] W s W s' → WR prog w H W hp s'.heap → Q (.ref (W.ρ i)) s') → wpAny (model prog w) A (eval o E) Q Ex s)
    (hQ : ∀ W' s' a, Ext [] W s W' s' → WR prog w H W' hp' s'.heap → VR W' a v → Q a s') : wpAny (model prog w) A (eval (.Call (.Attribute o name apos) args [] pos) E) Q Ex s := by
  obtain ⟨hs, ⟨l, hl'⟩, id, slot, hty, go⟩ := ih.mt h
  refine methCall hb hl hs hn (ho _ fun s1 e1 wr1 pl => ?_)
  obtain ⟨vs, kk, hg, _⟩ := wr1.ob i _ hl'
  refine getMethod_builtin ⟨_, hg, rfl⟩ PySem.F.plainAttrs_list slot hty (fun a ha => ?_) ?_
  · cases ha; exact ⟨_, hg, rfl⟩
  · exact go pos st E own W s1 A Q Ex wr1 (x0.ext e1) rm fun W2 s2 a e2 wr2 va => hQ W2 s2 a (e1.trans e2) wr2 va

theorem frames_le (a : Args) : (Code.builtin "type.__call__" a).frames ≤ 3 := by
  show (if (Code.builtin "type.__call__" a).isFrame = true then 1 else 0 : Nat) ≤ 3
  split <;> decide
/-- a comprehension as an expression -/
theorem comp_eval {elt : Expr} {gens : List Comprehension} {scope : Scope} {pos : Pos} {sc : Nm} {env : En} {hp : Hp} {v : V} {hp' : Hp} (c : CompTr prog w H k elt gens scope pos sc env hp v hp') : TrV prog w H k sc env hp (eval (.ListComp elt gens scope pos)) v hp' := by
  obtain ⟨hk, hn, g, gs, rfl, ha, hs, go⟩ := c
  obtain ⟨t, it, ifs, as⟩ := g
  dsimp only at ha
  subst ha
  intro st E own W s A Q Ex wr x0 rm hQ
  rw [eval_ListComp]
  obtain ⟨cl, hcl, h⟩ := go st E own W s A (fun acc C => compPost (model prog w) A Ex none Q acc C) Ex wr x0 rm fun W' s' acc C m e1 wr1 va hm hC hJ hR => ⟨m, hm, fun h' sb => by
    have kp : ∀ b o, b ≠ C → s'.heap.get? b = some o → h'.get? b = some o := fun b o hb e => (sb.2 b hb).trans e
    exact hQ W' _ acc (Ext.dropEnd (I := C) (e1.more (fun b hb => by (first | exact nos hb | exact nof hb | exact nos2 hb | exact nof2 hb | cases hb))) hC ⟨h', s'.toks, rfl⟩ kp) (wr1.but hJ hR kp) va⟩
  exact wpAny_comprehension_free (use := none) (g := ⟨t, it, ifs, 0⟩) (gs := gs) rfl (hs E) hcl hk hn h

/-- a call by name -/
theorem fn_call (hg : GoodCx prog w K H cx) (hc : CallOK prog w H Φ k) (ih : P prog w H cx Φ k n) {sc : Nm} {id : Str} {a : Addr} {args : List Expr} {env : En} {hp hp1 : Hp} {vs : List V} {v : V} {hp' : Hp} (h1 : evEs cx Φ n sc args env hp = some (vs, hp1)) (h2 : Φ a vs hp1 = some (v, hp'))
    (hi : isGl sc id = true) (hf : cx.fns.lookup id = some a) (p pos : Pos) : TrV prog w H k sc env hp (eval (.Call (.Name id p) args [] pos)) v hp' := by
  intro st E own W s A Q Ex wr x0 rm hQ
  obtain ⟨g, hkp⟩ := hg.fns id a hf
  obtain ⟨hs, tr⟩ := ih.es h1
  refine wpAny_Call_NameR (gl_ok wr x0 hi g (callV hs (keeps_K hkp) (tr pos st E own W s A _ Ex wr x0 rm fun W1 s1 as e1 wr1 vas => ⟨wr1.inK hg.inK, wpAny_call ?_⟩)))
  exact hc a vs hp1 v hp' h2 W1 s1 A _ _ wr1 vas rm.c fun W2 s2 val e2 wr2 va => hQ W2 s2 val (e1.trans e2) wr2 va

theorem make_call (hg : GoodCx prog w K H cx) (hc : CallOK prog w H Φ k) (ih : P prog w H cx Φ k n) {sc : Nm} {id : Str} {C f : Addr} {args : List Expr} {env : En} {hp hp1 : Hp} {vs : List V} {hp' : Hp} (h1 : evEs cx Φ n sc args env hp = some (vs, hp1)) (h2 : Φ f (.obj C hp1.length :: vs) (hp1 ++ [.ins []]) = some (.none, hp'))
    (hi : isGl sc id = true) (hf : cx.clss.lookup id = some (C, f)) (p pos : Pos) : TrV prog w H k sc env hp (eval (.Call (.Name id p) args [] pos)) (.obj C hp1.length) hp' := by
  intro st E own W s A Q Ex wr x0 rm hQ
  obtain ⟨g, hkp, hm, hin, hty⟩ := hg.clss id C f hf
  obtain ⟨hs, tr⟩ := ih.es h1
  refine wpAny_Call_NameR (gl_ok wr x0 hi g (callV hs (keeps_K hkp) (tr pos st E own W s A _ Ex wr x0 rm fun W1 s1 as e1 wr1 vas => ⟨wr1.inK hg.inK, wpAny_call ?_⟩)))
  have X := wr1.inK hg.inK
  obtain ⟨hh, gg, dd, tt, os⟩ := s1
  refine make_core (makes_of X hm) (looks_findIn X hin) (fun self => bind_fn X self hty) (.inl rfl) ?_
  -- the new world
  have k1 : ∀ b o, hh.get? b = some o → (hh.push emptyDict).get? b = some o := fun b o e => Heap.get?_push_of_some _ e
  have k2 : ∀ b o, (hh.push emptyDict).get? b = some o → ((hh.push emptyDict).push (instObj C hh.objs.size)).get? b = some o := fun b o e => Heap.get?_push_of_some _ e
  have eA : Ext [] W1 ⟨hh, gg, dd, tt, os⟩ (W1.new hh.objs.size) ⟨hh.push emptyDict, gg, dd, tt, os⟩ := Ext.new (s := ⟨hh, gg, dd, tt, os⟩) [] (fresh_size hh) k1
  have wA : WR prog w H (W1.new hh.objs.size) (hp1 ++ [.ins []]) (hh.push emptyDict) := wr1.new (fresh_size hh) k1 ⟨[], 0, Heap.get?_push_size _ rfl, .nil⟩
  have eB := Ext.push (s := ⟨hh.push emptyDict, gg, dd, tt, os⟩) wA [] (instObj C hh.objs.size)
  have wB := wA.push (instObj C hh.objs.size) rfl
  have hsz : (hh.push emptyDict).objs.size = hh.objs.size + 1 := Heap.size_push ..
  have eAB := eA.trans eB
  have hlt : hp1.length < (W1.new hh.objs.size).n := by rw [wA.n_eq]; simp
  have vself : VR ((W1.new hh.objs.size).add (hh.push emptyDict).objs.size (instObj C hh.objs.size)) (.ref (hh.objs.size + 1)) (.obj C hp1.length) := by
    refine .obj hlt ?_
    show (if hh.objs.size + 1 = (hh.push emptyDict).objs.size then _ else _) = some (instObj C ((W1.new hh.objs.size).ρ hp1.length))
    rw [hsz, if_pos rfl, ← wr1.n_eq, Wd.new_self]
  refine hc f _ _ _ _ h2 _ ⟨(hh.push emptyDict).push (instObj C hh.objs.size), gg, dd, tt, os⟩ _ _ _ wB (.cons vself (VRs.mono eAB.le vas)) ?_ fun W2 s2 val e2 wr2 va => ?_
  · have hw : (Code.builtin "type.__call__" ⟨.ref C :: as, []⟩).cUnits ≤ 10 := by
      show 1 + 3 * (Code.builtin "type.__call__" ⟨.ref C :: as, []⟩).frames ≤ 10
      have := frames_le ⟨.ref C :: as, []⟩
      omega
    refine ⟨rm.hd, ?_, ?_⟩
    · have := rm.dep
      show A.depth + 1 + 2 * k + 9 < 1000
      omega
    · have := rm.un
      show A.units + (Code.builtin "type.__call__" ⟨.ref C :: as, []⟩).cUnits + 20 * k + 190 < 9900
      omega
  · (first | refine VR.noneC va ?_ | refine VR.boolC va ?_ | refine VR.intC va fun _ => ?_ | refine VR.strC va fun _ => ?_ | refine VRs.nilC va ?_ | cases va)
    exact ⟨rfl, hQ W2 s2 _ (e1.trans (eAB.trans e2)) wr2 (vself.mono e2.le)⟩

theorem blt_call (hg : GoodCx prog w K H cx) (ih : P prog w H cx Φ k n) {sc : Nm} {id : Str} {args : List Expr} {env : En} {hp hp1 : Hp} {vs : List V} {v : V} (h1 : evEs cx Φ n sc args env hp = some (vs, hp1)) (h2 : builtinV hp1 id vs = some v)
    (hi : isGl sc id = true) (p pos : Pos) : TrV prog w H k sc env hp (eval (.Call (.Name id p) args [] pos)) v hp1 := by
  intro st E own W s A Q Ex wr x0 rm hQ
  obtain ⟨hs, tr⟩ := ih.es h1
  have key : ∃ f, bltOf id = some f ∧ ((∃ i, f = .builtin i) ∨ ∃ t, f = .type t) := by
    have : builtinV hp1 id vs ≠ Option.none := by rw [h2]; exact fun z => (nomatch z)
    unfold builtinV at this
    unfold bltOf
    repeat' split
    all_goals first | exact ⟨_, rfl, .inl ⟨_, rfl⟩⟩ | exact ⟨_, rfl, .inr ⟨_, rfl⟩⟩ | skip
    exfalso
    apply this
    simp_all
  obtain ⟨f, hf, hff⟩ := key
  refine wpAny_Call_NameR (gl_ok wr x0 hi (hg.blt id f hf) (callV hs (P := fun _ => True) (keeps_b hff) (tr pos st E own W s A _ Ex wr x0 rm fun W1 s1 as e1 wr1 vas => ⟨trivial, ?_⟩)))
  obtain ⟨f', hf', _, go⟩ := builtin_ok (A := A) (Ex := Ex) wr1 rm.hd vas h2
  rw [hf] at hf'
  cases hf'
  exact go Q fun W2 s2 val e2 wr2 va => hQ W2 s2 val (e1.trans e2) wr2 va
end
end Mine
end

section
open PySem PySem.W PyProof.Rows PySem.Spec PySem.SeqAt PySem.Calls
namespace Mine
section
variable {prog : Program} {w : World} {K : Frag} {H : Heap} {cx : Cx} {Φ : Call} {k n : Nat}

theorem fld_ok (hg : GoodCx prog w K H cx) {C : Nat} {attr : Str} (h : isFld cx C attr = true) : ∃ l, ClsOK K C l ∧ attr ∈ l := by
  unfold isFld at h
  split at h
  · rename_i l hl; exact ⟨l, hg.flds C l hl, by simpa using h⟩
  · (first | exact nos h | exact nof h | exact nos2 h | exact nof2 h | cases h)

theorem attr_ok (hg : GoodCx prog w K H cx) {o attr : Str} {C i : Nat} {fs : List (Str × V)} {u : V} {env : En} {hp : Hp} {sc : Nm} (h1 : env.lookup o = some (.obj C i)) (h2 : hp[i]? = some (.ins fs)) (h3 : isFld cx C attr = true) (h4 : fs.lookup attr = some u) (p q : Pos) :
    TrV prog w H k sc env hp (eval (.Attribute (.Name o p) attr q)) u hp := by
  intro st E own W s A Q Ex wr x0 rm hQ
  refine hide fun g_ t_ => ?_
  obtain ⟨l, hc, hm⟩ := fld_ok hg h3
  refine t_ ?_; clear t_ g_
  refine Attribute_name (name_ok x0 h1 fun val hv => getAttr_ok hg.inK wr hv h2 hc hm h4 fun v hv' => ?_)
  exact hQ W _ v (.tok _ _ _ _) wr hv'

theorem step_call (hg : GoodCx prog w K H cx) (hc : CallOK prog w H Φ k) (ih : P prog w H cx Φ k n) {sc : Nm} {f : Expr} {args : List Expr} {pos : Pos} {env : En} {hp : Hp} {v : V} {hp' : Hp} (h : evE cx Φ (n + 1) sc (.Call f args [] pos) env hp = some (v, hp')) :
    TrV prog w H k sc env hp (eval (.Call f args [] pos)) v hp' := by
  cases f with
  | Name id p =>
    refine iteNE h ?_; clear h; intro hi h
    have hi : isGl sc id = true := by simpa using hi
    split at h
    · rename_i a ha
      refine bd2 h ?_; clear h; intro vs hp1 h1 h
      exact fn_call hg hc ih h1 h hi ha p pos
    · split at h
      · rename_i C fI hC
        refine bd2 h ?_; clear h; intro vs hp1 h1 h
        refine bd2 h ?_; clear h; intro u hp2 h2 h
        cases u with
        | none =>
          refine soE h ?_; clear h
          exact make_call hg hc ih h1 h2 hi hC p pos
        | _ => (first | exact nos h | exact nof h | exact nos2 h | exact nof2 h | cases h)
      · refine bd2 h ?_; clear h; intro vs hp1 h1 h
        refine bd1 h ?_; clear h; intro u h2 h
        refine soE h ?_; clear h
        exact blt_call hg ih h1 h2 hi p pos
  | Attribute o name ap =>
    cases o with
    | Name o p =>
      refine iteNE h ?_; clear h; intro hl h
      rw [Decidable.not_not, Bool.and_eq_true] at hl
      have hn : args.length ≤ 9 := Nat.le_of_ble_eq_true hl.2
      refine bd1 h ?_; clear h; intro ov h1 h
      cases ov with
      | obj C i =>
        dsimp only at h
        refine bd1 h ?_; clear h; intro ms h2 h
        refine bd1 h ?_; clear h; intro f h3 h
        split at h
        · rename_i fs hfs
          refine iteNE h ?_; clear h; intro hx h
          refine bd2 h ?_; clear h; intro vs hp1 h4 h
          dsimp only at h
          refine hide fun g_ t_ => ?_
          obtain ⟨⟨l, hcl⟩, hms⟩ := hg.meths C ms h2
          obtain ⟨hf, hty, hkp⟩ := hms name f h3
          obtain ⟨hs, tr⟩ := ih.es h4
          refine t_ ?_; clear t_ g_
          have hno : fs.lookup name = Option.none := by
            cases q : fs.lookup name with
            | none => rfl
            | some _ => rw [q] at hx; exact absurd rfl hx
          intro st E own W s A Q Ex wr x0 rm hQ
          refine methCall rfl hl.1 hs hn (name_ok x0 h1 fun val hv pl => method_ok hg.inK wr hv hfs hcl hf hty hno ?_)
          refine callV hs (keeps_K hkp) (tr pos st E own W s A _ Ex wr x0 rm fun W1 s1 as e1 wr1 vas => ⟨wr1.inK hg.inK, wpAny_call ?_⟩)
          exact hc f _ hp1 v hp' h W1 s1 A _ _ wr1 (.cons (hv.mono e1.le) vas) rm.c fun W2 s2 val e2 wr2 va => hQ W2 s2 val (e1.trans e2) wr2 va
        · (first | exact nos h | exact nof h | exact nos2 h | exact nof2 h | cases h)
      | ref i =>
        intro st E own W s A Q Ex wr x0 rm hQ
        refine list_meth ih h rfl hl.1 hn wr x0 rm (fun Q' hq => name_ok x0 h1 fun val hv => ?_) hQ
        (first | exact nos hv | exact nof hv | exact nos2 hv | exact nof2 hv | cases hv)
        exact hq s (.refl _ _ _) wr
      | _ => (first | exact nos h | exact nof h | exact nos2 h | exact nof2 h | cases h)
    | Attribute o2 attr p2 =>
      cases o2 with
      | Name o p =>
        refine iteNE h ?_; clear h; intro hl h
        rw [Decidable.not_not, Bool.and_eq_true] at hl
        have hn : args.length ≤ 9 := Nat.le_of_ble_eq_true hl.2
        refine bd1 h ?_; clear h; intro ov h1 h
        cases ov with
        | obj C i =>
          dsimp only at h
          split at h
          · rename_i fs hfs
            refine iteSE h ?_; clear h; intro hx h
            refine bd1 h ?_; clear h; intro u h3 h
            cases u with
            | ref j =>
              intro st E own W s A Q Ex wr x0 rm hQ
              refine list_meth ih h rfl hl.1 hn wr x0 rm (fun Q' hq => ?_) hQ
              refine hide fun g_ t_ => ?_
              obtain ⟨l, hcl, hm⟩ := fld_ok hg hx
              refine t_ ?_; clear t_ g_
              refine Attribute_name (name_ok x0 h1 fun val hv => getAttr_ok hg.inK wr hv hfs hcl hm h3 fun v hv' => ?_)
              cases hv'
              exact hq _ (.tok _ _ _ _) wr
            | _ => (first | exact nos h | exact nof h | exact nos2 h | exact nof2 h | cases h)
          · (first | exact nos h | exact nof h | exact nos2 h | exact nof2 h | cases h)
        | _ => (first | exact nos h | exact nof h | exact nos2 h | exact nof2 h | cases h)
      | _ => (first | exact nos h | exact nof h | exact nos2 h | exact nof2 h | cases h)
    | _ => (first | exact nos h | exact nof h | exact nos2 h | exact nof2 h | cases h)
  | _ => (first | exact nos h | exact nof h | exact nos2 h | exact nof2 h | cases h)

theorem step_sub (ih : P prog w H cx Φ k n) {sc : Nm} {o i : Expr} {pos : Pos} {env : En} {hp : Hp} {v : V} {hp' : Hp} (h : evE cx Φ (n + 1) sc (.Subscript o i pos) env hp = some (v, hp')) :
    TrV prog w H k sc env hp (eval (.Subscript o i pos)) v hp' := by
  have plain : (∀ l u p, i ≠ .Slice l u none p) → ((evE cx Φ n sc o env hp).bind fun (a, hp1) => (evE cx Φ n sc i env hp1).bind fun (j, hp2) => (subV hp2 a j).bind fun v => some (v, hp2)) = some (v, hp') → TrV prog w H k sc env hp (eval (.Subscript o i pos)) v hp' := by
    intro hsl h
    refine bd2 h ?_; clear h; intro a hp1 h1 h
    refine bd2 h ?_; clear h; intro j hp2 h2 h
    refine bd1 h ?_; clear h; intro u h3 h
    refine soE h ?_; clear h
    intro st E own W s A Q Ex wr x0 rm hQ
    refine Subscript_ (ih.e h1 st E own W s A _ Ex wr x0 rm fun W1 s1 av e1 wr1 va => ih.e h2 st E own W1 s1 A _ Ex wr1 (x0.ext e1) rm fun W2 s2 bv e2 wr2 vb => ?_)
    exact subV_ok wr2 (va.mono e2.le) vb h3 hsl fun v s3 e3 wr3 hv => hQ W2 s3 v ((e1.trans e2).trans e3) wr3 hv
  cases i with
  | Slice lo up st p =>
    cases st with
    | none =>
      refine bd2 h ?_; clear h; intro a hp1 h1 h
      refine bd2 h ?_; clear h; intro x hp2 h2 h
      refine bd2 h ?_; clear h; intro y hp3 h3 h
      refine bd1 h ?_; clear h; intro l h4 h
      refine bd1 h ?_; clear h; intro m h5 h
      refine soE h ?_; clear h
      intro st E own W s A Q Ex wr x0 rm hQ
      refine Subscript_ (ih.e h1 st E own W s A _ Ex wr x0 rm fun W1 s1 av e1 wr1 va => wpAny_Slice (ih.o h2 st E own W1 s1 A _ Ex wr1 (x0.ext e1) rm fun W2 s2 vl e2 wr2 pl => ih.o h3 st E own W2 s2 A _ Ex wr2 ((x0.ext e1).ext e2) rm fun W3 s3 vu e3 wr3 pu => ?_))
      rw [evalPart_none]
      refine wpAny_pure ?_
      refine slice_ok wr3 ((va.mono e2.le).mono e3.le) h4 h5 pl pu fun ks s4 e4 wr4 hk => ?_
      exact newLst_ok wr4 hk fun W5 s5 v e5 wr5 hv => hQ W5 s5 v ((((e1.trans e2).trans e3).trans e4).trans e5) wr5 hv
    | some z => exact plain (fun _ _ _ q => by (first | exact nos q | exact nof q | exact nos2 q | exact nof2 q | cases q)) h
  | _ => exact plain (fun _ _ _ q => by (first | exact nos q | exact nof q | exact nos2 q | exact nof2 q | cases q)) h

theorem step_e (hg : GoodCx prog w K H cx) (hc : CallOK prog w H Φ k) (ih : P prog w H cx Φ k n) : ∀ {sc e env hp v hp'}, evE cx Φ (n + 1) sc e env hp = some (v, hp') → TrV prog w H k sc env hp (eval e) v hp' := by
  intro sc e env hp v hp' h
  cases e with
  | Constant c kk p =>
    cases c with
    | none => refine soE h ?_; clear h; intro st E own W s A Q Ex wr x0 rm hQ; exact wpAny_Constant_none (hQ W s _ (.refl _ _ _) wr .none)
    | bool b => refine soE h ?_; clear h; intro st E own W s A Q Ex wr x0 rm hQ; exact wpAny_Constant_bool (hQ W s _ (.refl _ _ _) wr (.bool b))
    | int i => refine soE h ?_; clear h; intro st E own W s A Q Ex wr x0 rm hQ; exact wpAny_Constant_int (hQ W _ _ (.tok _ _ _ _) wr (.int i _))
    | str x => refine soE h ?_; clear h; intro st E own W s A Q Ex wr x0 rm hQ; exact wpAny_Constant_str (hQ W _ _ (.tok _ _ _ _) wr (.str x _))
    | _ => (first | exact nos h | exact nof h | exact nos2 h | exact nof2 h | cases h)
  | Name x p =>
    refine bd1 h ?_; clear h; intro u h1 h
    refine soE h ?_; clear h
    intro st E own W s A Q Ex wr x0 rm hQ
    exact name_ok x0 h1 fun val hv => hQ W s val (.refl _ _ _) wr hv
  | Tuple es kk p =>
    refine bd2 h ?_; clear h; intro vs hp1 h1 h
    refine iteSE h ?_; clear h; intro hz h
    refine soE h ?_; clear h
    intro st E own W s A Q Ex wr x0 rm hQ
    refine wpAny_Tuple ((ih.es h1).2 p st E own W s A _ Ex wr x0 rm fun W1 s1 as e1 wr1 vas => ⟨by rw [vas.length]; exact size1000 hz, ?_⟩)
    exact newTup_ok wr1 vas fun W2 s2 v e2 wr2 hv => hQ W2 s2 v (e1.trans e2) wr2 hv
  | List es p =>
    refine bd2 h ?_; clear h; intro vs hp1 h1 h
    refine iteSE h ?_; clear h; intro hz h
    refine soE h ?_; clear h
    intro st E own W s A Q Ex wr x0 rm hQ
    refine wpAny_List ((ih.es h1).2 p st E own W s A _ Ex wr x0 rm fun W1 s1 as e1 wr1 vas => ⟨by rw [vas.length]; exact size1000 hz, ?_⟩)
    exact newLst_ok wr1 vas fun W2 s2 v e2 wr2 hv => hQ W2 s2 v (e1.trans e2) wr2 hv
  | BinOp l op r p =>
    refine bd2 h ?_; clear h; intro a hp1 h1 h
    refine bd2 h ?_; clear h; intro b hp2 h2 h
    refine bd1 h ?_; clear h; intro u h3 h
    refine soE h ?_; clear h
    intro st E own W s A Q Ex wr x0 rm hQ
    refine wpAny_BinOp (ih.e h1 st E own W s A _ Ex wr x0 rm fun W1 s1 av e1 wr1 va => ih.e h2 st E own W1 s1 A _ Ex wr1 (x0.ext e1) rm fun W2 s2 bv e2 wr2 vb => ?_)
    exact binop_ok wr2 (va.mono e2.le) vb h3 fun W3 s3 v e3 wr3 hv => hQ W3 s3 v ((e1.trans e2).trans e3) wr3 hv
  | UnaryOp op x p =>
    cases op with
    | USub =>
      refine bd2 h ?_; clear h; intro a hp1 h1 h
      cases a with
      | int i =>
        refine soE h ?_; clear h
        intro st E own W s A Q Ex wr x0 rm hQ
        refine wpAny_UnaryOp (ih.e h1 st E own W s A _ Ex wr x0 rm fun W1 s1 av e1 wr1 va => ?_)
        (first | refine VR.noneC va ?_ | refine VR.boolC va ?_ | refine VR.intC va fun _ => ?_ | refine VR.strC va fun _ => ?_ | refine VRs.nilC va ?_ | cases va)
        exact PyProof.Rows.neg_int (hQ W1 _ _ (e1.trans (.tok _ _ _ _)) wr1 (.int _ _))
      | _ => (first | exact nos h | exact nof h | exact nos2 h | exact nof2 h | cases h)
    | Not =>
      refine bd2 h ?_; clear h; intro a hp1 h1 h
      cases a with
      | bool b =>
        refine soE h ?_; clear h
        intro st E own W s A Q Ex wr x0 rm hQ
        refine wpAny_UnaryOp (ih.e h1 st E own W s A _ Ex wr x0 rm fun W1 s1 av e1 wr1 va => ?_)
        (first | refine VR.noneC va ?_ | refine VR.boolC va ?_ | refine VR.intC va fun _ => ?_ | refine VR.strC va fun _ => ?_ | refine VRs.nilC va ?_ | cases va)
        exact not_value (wpAny_truthy_bool (hQ W1 _ _ e1 wr1 (.bool _)))
      | _ => (first | exact nos h | exact nof h | exact nos2 h | exact nof2 h | cases h)
    | _ => (first | exact nos h | exact nof h | exact nos2 h | exact nof2 h | cases h)
  | BoolOp op es p =>
    rcases es with _ | ⟨x, _ | ⟨y, _ | ⟨z, r⟩⟩⟩
    · (first | exact nos h | exact nof h | exact nos2 h | exact nof2 h | cases h)
    · (first | exact nos h | exact nof h | exact nos2 h | exact nof2 h | cases h)
    · refine bd2 h ?_; clear h; intro c hp1 h1 h
      intro st E own W s A Q Ex wr x0 rm hQ
      cases op with
      | And =>
        refine wpAny_And2 (ih.e h1 st E own W s A _ Ex wr x0 rm fun W1 s1 a e1 wr1 va => ?_)
        cases c with
        | bool b =>
          (first | refine VR.noneC va ?_ | refine VR.boolC va ?_ | refine VR.intC va fun _ => ?_ | refine VR.strC va fun _ => ?_ | refine VRs.nilC va ?_ | cases va)
          cases b with
          | false =>
            refine hide fun g_ t_ => ?_
            obtain ⟨rfl, rfl⟩ := so h
            refine t_ ?_; clear t_ g_
            exact wpAny_truthy_bool (hQ W1 s1 _ e1 wr1 (.bool _))
          | true => exact wpAny_truthy_bool (ih.e h st E own W1 s1 A _ Ex wr1 (x0.ext e1) rm fun W2 s2 a e2 wr2 va => hQ W2 s2 _ (e1.trans e2) wr2 va)
        | _ => (first | exact nos h | exact nof h | exact nos2 h | exact nof2 h | cases h)
      | Or =>
        refine wpAny_Or2 (ih.e h1 st E own W s A _ Ex wr x0 rm fun W1 s1 a e1 wr1 va => ?_)
        cases c with
        | bool b =>
          (first | refine VR.noneC va ?_ | refine VR.boolC va ?_ | refine VR.intC va fun _ => ?_ | refine VR.strC va fun _ => ?_ | refine VRs.nilC va ?_ | cases va)
          cases b with
          | true =>
            refine hide fun g_ t_ => ?_
            obtain ⟨rfl, rfl⟩ := so h
            refine t_ ?_; clear t_ g_
            exact wpAny_truthy_bool (hQ W1 s1 _ e1 wr1 (.bool _))
          | false => exact wpAny_truthy_bool (ih.e h st E own W1 s1 A _ Ex wr1 (x0.ext e1) rm fun W2 s2 a e2 wr2 va => hQ W2 s2 _ (e1.trans e2) wr2 va)
        | _ => (first | exact nos h | exact nof h | exact nos2 h | exact nof2 h | cases h)
    · (first | exact nos h | exact nof h | exact nos2 h | exact nof2 h | cases h)
  | IfExp t x y p =>
    refine bd2 h ?_; clear h; intro c hp1 h1 h
    intro st E own W s A Q Ex wr x0 rm hQ
    refine wpAny_IfExp (ih.t h1 st E own W s A _ Ex wr x0 rm fun W1 s1 a e1 wr1 ea => ?_)
    subst ea
    cases a with
    | true => exact ih.e h st E own W1 s1 A _ Ex wr1 (x0.ext e1) rm fun W2 s2 a e2 wr2 va => hQ W2 s2 _ (e1.trans e2) wr2 va
    | false => exact ih.e h st E own W1 s1 A _ Ex wr1 (x0.ext e1) rm fun W2 s2 a e2 wr2 va => hQ W2 s2 _ (e1.trans e2) wr2 va
  | Compare l ops rs p =>
    refine bd2 h ?_; clear h; intro a hp1 h1 h
    refine bd2 h ?_; clear h; intro c hp2 h2 h
    refine soE h ?_; clear h
    intro st E own W s A Q Ex wr x0 rm hQ
    rw [arm_eval_Compare]
    refine wpAny_bind (ih.e h1 st E own W s A _ Ex wr x0 rm fun W1 s1 a e1 wr1 va => ?_)
    exact (ih.ch h2 p st E own W1 s1 A a Ex va wr1 (x0.ext e1) rm).1 Q fun W2 s2 e2 wr2 => hQ W2 s2 _ (e1.trans e2) wr2 (.bool _)
  | Attribute o attr q =>
    cases o with
    | Name o p =>
      refine bd1 h ?_; clear h; intro ov h1 h
      cases ov with
      | obj C i =>
        dsimp only at h
        split at h
        · rename_i fs hfs
          refine iteSE h ?_; clear h; intro hx h
          refine bd1 h ?_; clear h; intro u h3 h
          refine soE h ?_; clear h
          exact attr_ok hg h1 hfs hx h3 p q
        · (first | exact nos h | exact nof h | exact nos2 h | exact nof2 h | cases h)
      | _ => (first | exact nos h | exact nof h | exact nos2 h | exact nof2 h | cases h)
    | _ => (first | exact nos h | exact nof h | exact nos2 h | exact nof2 h | cases h)
  | Subscript o i p => exact step_sub ih h
  | ListComp elt gens scope p => exact comp_eval (ih.c h p)
  | Call f args kws p =>
    cases kws with
    | nil => exact step_call hg hc ih h
    | cons _ _ => cases f <;> (first | exact nos h | exact nof h | exact nos2 h | exact nof2 h | cases h)
  | _ => (first | exact nos h | exact nof h | exact nos2 h | exact nof2 h | cases h)
end
end Mine
end

section
open PySem PySem.W PyProof.Rows PySem.Spec PySem.SeqAt PySem.Calls
namespace Mine
section
variable {prog : Program} {w : World} {K : Frag} {H : Heap} {cx : Cx} {Φ : Call} {k n : Nat}

theorem folded_plain {e : Expr} (h : plainE e = true) (E : Env) (x : Value) : foldedSetIterable e E x = pure x := by
  (first | exact nos e | exact nof e | exact nos2 e | exact nof2 e | cases e) <;> first | rfl | cases h

theorem step_i (hg : GoodCx prog w K H cx) (ih : P prog w H cx Φ k n) : ∀ {sc e env hp sl hp'}, evI cx Φ (n + 1) sc e env hp = some (sl, hp') → (∀ E x, foldedSetIterable e E x = pure x) ∧ sl.2.length ≤ lineMax ∧ Tr prog w H k sc env hp (eval e) (fun W h a b => RI W hp' h a b) sl hp' := by
  intro sc e env hp sl hp' h
  have plain : ((evE cx Φ n sc e env hp).bind fun (v, hp1) => (itemsOf hp1 v).bind fun l => if l.length ≤ lineMax then some ((v, l), hp1) else Option.none) = some (sl, hp') →
      (∀ E x, foldedSetIterable e E x = pure x) ∧ sl.2.length ≤ lineMax ∧ Tr prog w H k sc env hp (eval e) (fun W h a b => RI W hp' h a b) sl hp' := by
    intro h
    refine bd2 h ?_; clear h; intro v hp1 h1 h
    refine bd1 h ?_; clear h; intro l h2 h
    refine iteSE h ?_; clear h; intro hz h
    obtain ⟨rfl, rfl⟩ := so h
    refine ⟨folded_plain (evE_plain h1), hz, fun st E own W s A Q Ex wr x0 rm hQ => ih.e h1 st E own W s A _ Ex wr x0 rm fun W1 s1 a e1 wr1 va => hQ W1 s1 a e1 wr1 (.inl ⟨va, h2⟩)⟩
  cases e with
  | Call f args kws p' =>
    cases f with
    | Name id p =>
      rcases args with _ | ⟨a, _ | ⟨b, r⟩⟩
      · exact plain h
      · cases kws with
        | nil =>
          by_cases hid : id = "range"
          · subst hid
            refine iteNE h ?_; clear h; intro hi h
            have hi : isGl sc "range" = true := by simpa using hi
            refine bd2 h ?_; clear h; intro v hp1 h1 h
            cases v with
            | int kk =>
              refine iteSE h ?_; clear h; intro hz h
              obtain ⟨rfl, rfl⟩ := so h
              refine ⟨fun _ _ => rfl, ?_, fun st E own W s A Q Ex wr x0 rm hQ => ?_⟩
              · show (rangeV kk).length ≤ lineMax
                unfold rangeV lineMax
                rw [List.length_map, List.length_range]
                omega
              have hn := plain_star (evE_plain h1)
              refine wpAny_Call_NameR (gl_ok wr x0 hi hg.rng (callV (by rw [(star_cons hn).1]; rfl) (P := fun _ => True) (keeps_b (.inr ⟨_, rfl⟩)) (wpAny_items_cons (ih.e h1 st E own W s A _ Ex wr x0 rm fun W1 s1 a e1 wr1 va => wpAny_items_nil ⟨trivial, ?_⟩) ((star_cons hn).2 E))))
              refine VR.intC va fun t => ?_
              refine call_range_1 ?_
              have kp : ∀ b o, s1.heap.get? b = some o → (s1.heap.push { cls := .type "range", data := .fields #[.int 0 s1.toks, .int kk t, .int 1 (s1.toks + 1)] }).get? b = some o := fun b o e => Heap.get?_push_of_some _ e
              exact hQ W1 _ _ (e1.trans (.grow [] kp)) (wr1.grow kp) (.inr ⟨_, kk, _, _, _, rfl, rfl, hz, Heap.get?_push_size _ rfl⟩)
            | _ => (first | exact nos h | exact nof h | exact nos2 h | exact nof2 h | cases h)
          · exact plain (iteF (c := id = "range") h hid)
        | cons _ _ => exact plain h
      · exact plain h
    | _ => exact plain h
  | _ => exact plain h

theorem WR.newAt {W : Wd} {hp : Hp} {h h' : Heap} (x : WR prog w H W hp h) {a : Addr} {ao : AO} (hJ : W.J a = none) (hR : ∀ i, i < W.n → W.ρ i ≠ a) (kk : ∀ b o, b ≠ a → h.get? b = some o → h'.get? b = some o) (ho : OR prog w (W.new a) h' a ao) : WR prog w H (W.new a) (hp ++ [ao]) h' := by
  have y : WR prog w H W hp h' := x.but hJ hR kk
  have le := Wd.le_new W a
  refine ⟨?_, y.base, y.jle, fun i hi => ?_, fun i j hi hj e => ?_, fun i o e => ?_⟩
  · show W.n + 1 = _; rw [List.length_append, x.n_eq]; rfl
  · show W.J (if i = W.n then a else W.ρ i) = none
    by_cases z : i = W.n
    · rw [if_pos z]; exact hJ
    · rw [if_neg z]; exact x.jr i (Nat.lt_of_le_of_ne (Nat.le_of_lt_succ hi) z)
  · change (if i = W.n then a else W.ρ i) = (if j = W.n then a else W.ρ j) at e
    by_cases z : i = W.n <;> by_cases q : j = W.n
    · rw [z, q]
    · rw [if_pos z, if_neg q] at e; exact absurd e.symm (hR j (Nat.lt_of_le_of_ne (Nat.le_of_lt_succ hj) q))
    · rw [if_neg z, if_pos q] at e; exact absurd e (hR i (Nat.lt_of_le_of_ne (Nat.le_of_lt_succ hi) z))
    · rw [if_neg z, if_neg q] at e; exact x.inj i j (Nat.lt_of_le_of_ne (Nat.le_of_lt_succ hi) z) (Nat.lt_of_le_of_ne (Nat.le_of_lt_succ hj) q) e
  · by_cases z : i < hp.length
    · rw [List.getElem?_append_left z] at e
      have hi : i < W.n := x.n_eq ▸ z
      rw [le.ρ i hi]
      exact (y.ob i o e).mono le fun _ q => q
    · have hl : i < (hp ++ [ao]).length := (List.getElem?_eq_some_iff.mp e).1
      rw [List.length_append, List.length_singleton] at hl
      have hi : i = hp.length := by omega
      subst hi
      simp at e
      subst e
      rw [← x.n_eq, Wd.new_self]; exact ho
theorem Ext.newAt {W W1 : Wd} {s s1 : Shared} {a : Addr} {h' : Heap} {tk : Nat} (e : Ext [] W s W1 s1) (hf : s.heap.get? a = none) (kk : ∀ b o, b ≠ a → s1.heap.get? b = some o → h'.get? b = some o) : Ext [] W s (W1.new a) { s1 with heap := h', toks := tk } := by
  have ne : ∀ b o, s.heap.get? b = some o → b ≠ a := fun b o q z => by rw [z, hf] at q; (first | exact nos q | exact nof q | exact nos2 q | exact nof2 q | cases q)
  refine ⟨e.le.trans (Wd.le_new _ _), ?_, fun b o hb hr q => kk b o (ne b o q) (e.keep b o hb hr q), fun b o q => ?_, fun b o q1 q2 => e.freshJ b o q1 q2, fun i h1 h2 => ?_⟩
  · obtain ⟨h1, t1, e1⟩ := e.same
    exact ⟨h', tk, by rw [e1]⟩
  · obtain ⟨o', q'⟩ := e.alive b o q
    exact ⟨o', kk b o' (ne b o q) q'⟩
  · show s.heap.get? (if i = W1.n then a else W1.ρ i) = none
    by_cases z : i = W1.n
    · rw [if_pos z]; exact hf
    · rw [if_neg z]; exact e.freshR i h1 (Nat.lt_of_le_of_ne (Nat.le_of_lt_succ h2) z)

theorem evKs_some : ∀ {ks : List (Option Expr)} {names : List Str}, evKs ks = some names → ks.all (·.isSome) = true ∧ ks.length = names.length
  | [], _, h => by cases h; exact ⟨rfl, rfl⟩
  | Option.none :: _, _, h => by (first | exact nos h | exact nof h | exact nos2 h | exact nof2 h | cases h)
  | some e :: r, names, h => by
    cases e with
    | Constant c kk p =>
      cases c with
      | str x =>
        refine bd1 h ?_; clear h; intro l h1 h
        (first | exact nos h | exact nof h | exact nos2 h | exact nof2 h | cases h)
        obtain ⟨a, b⟩ := evKs_some h1
        exact ⟨by rw [List.all_cons, a]; rfl, by simp [b]⟩
      | _ => (first | exact nos h | exact nof h | exact nos2 h | exact nof2 h | cases h)
    | _ => (first | exact nos h | exact nof h | exact nos2 h | exact nof2 h | cases h)

theorem pairs_ok : ∀ (m : Nat), (∀ j, j ≤ m → P prog w H cx Φ k j) → ∀ {sc : Nm} {vs : List Expr} {env : En} {hp : Hp} {l : List V} {hp' : Hp} {ks : List (Option Expr)} {names : List Str}, evEs cx Φ m sc vs env hp = some (l, hp') → evKs ks = some names → l.length = names.length →
    ∀ (pos : Pos) (st : Nm) (E : Env) (own : List Addr) (W : Wd) (s : Shared) (A : Around) (Q : List (Value × Value) → Shared → Prop) (Ex : Value → Shared → Prop), WR prog w H W hp s.heap → EnvOK st sc E own env W s.heap → Room k A →
      (∀ W' s' prs kvs, Ext [] W s W' s' → WR prog w H W' hp' s'.heap → Carries (PySem.strKind prog w) prs kvs → KvR W' kvs (names.zip l) → Q prs s') → ks.length = vs.length ∧ wpAny (model prog w) A (evalPairs (pairTrees ks vs E pos)) Q Ex s := by
  intro m
  induction m with
  | zero => intro _ sc vs env hp l hp' ks names h; (first | exact nos h | exact nof h | exact nos2 h | exact nof2 h | cases h)
  | succ m ihm =>
    intro ih sc vs env hp l hp' ks names h hk hl pos st E own W s A Q Ex wr x0 rm hQ
    cases vs with
    | nil =>
      obtain ⟨rfl, rfl⟩ := so h
      cases names with
      | cons _ _ => (first | exact nos hl | exact nof hl | exact nos2 hl | exact nof2 hl | cases hl)
      | nil =>
        have := (evKs_some hk).2
        cases ks with
        | cons _ _ => (first | exact nos this | exact nof this | exact nos2 this | exact nof2 this | cases this)
        | nil => exact ⟨rfl, pairTrees_nil_walk (hQ W s [] [] (.refl _ _ _) wr trivial .nil)⟩
    | cons e r =>
      refine bd2 h ?_; clear h; intro v hp1 h1 h
      refine bd2 h ?_; clear h; intro us hp2 h2 h
      obtain ⟨rfl, rfl⟩ := so h
      cases ks with
      | nil => cases hk; (first | exact nos hl | exact nof hl | exact nos2 hl | exact nof2 hl | cases hl)
      | cons ko ks =>
        cases ko with
        | none => (first | exact nos hk | exact nof hk | exact nos2 hk | exact nof2 hk | cases hk)
        | some ke =>
        cases ke with
        | Constant c kk p =>
          cases c with
          | str x =>
            refine bd1 hk ?_; clear hk; intro nms h3 hk
            (first | exact nos hk | exact nof hk | exact nos2 hk | exact nof2 hk | cases hk)
            have hl' : us.length = nms.length := by simpa using hl
            have ihm' := fun W1 s1 wr1 x1 Q' hQ' => ihm (fun j hj => ih j (Nat.le_succ_of_le hj)) h2 h3 hl' pos st E own W1 s1 A Q' Ex wr1 x1 rm hQ'
            refine ⟨?_, pairTrees_cons_walk (wpAny_Constant_str ?_)⟩
            · have a := (evKs_some h3).2
              have : us.length = r.length := by
                have q := (ih m (Nat.le_succ m)).es h2
                clear ihm' ihm ih hQ
                revert h2
                have : ∀ (m : Nat) (r : List Expr) (hp1 : Hp) (us : List V) (hp2 : Hp), evEs cx Φ m sc r env hp1 = some (us, hp2) → us.length = r.length := by
                  intro m
                  induction m with
                  | zero => intro r hp1 us hp2 h; (first | exact nos h | exact nof h | exact nos2 h | exact nof2 h | cases h)
                  | succ m ihm =>
                    intro r hp1 us hp2 h
                    cases r with
                    | nil => obtain ⟨rfl, rfl⟩ := so h; rfl
                    | cons e r =>
                      refine bd2 h ?_; clear h; intro v hp1 h1 h
                      refine bd2 h ?_; clear h; intro us hp2 h2 h
                      obtain ⟨rfl, rfl⟩ := so h
                      simp [ihm _ _ _ _ h2]
                exact this m r hp1 us hp2
              simp [a, ← hl', this]
            · have e0 : Ext [] W s W { s with toks := s.toks + 1 } := .tok _ _ _ _
              refine (ih m (Nat.le_succ m)).e h1 st E own W { s with toks := s.toks + 1 } A _ Ex wr (x0.ext e0) rm fun W1 s1 vv e1 wr1 va => ?_
              refine (ihm' W1 s1 wr1 ((x0.ext e0).ext e1) _ fun W2 s2 prs kvs e2 wr2 hc hkv => ?_).2
              exact hQ W2 s2 _ ((x, vv) :: kvs) ((e0.trans e1).trans e2) wr2 ⟨by simp [PySem.strKind, Value.isStrOf], rfl, hc⟩ (.cons (va.mono e2.le) hkv)
          | _ => (first | exact nos hk | exact nof hk | exact nos2 hk | exact nof2 hk | cases hk)
        | _ => (first | exact nos hk | exact nof hk | exact nos2 hk | exact nof2 hk | cases hk)
end
end Mine
end

section
open PySem PySem.W PyProof.Rows PySem.Spec PySem.SeqAt PySem.Calls
namespace Mine
section
variable {prog : Program} {w : World} {K : Frag} {H : Heap} {cx : Cx} {Φ : Call} {k n : Nat}

theorem KvR_keys_zip {W : Wd} {kvs : List (Str × Value)} {fs : List (Str × V)} (r : KvR W kvs fs) : kvs.map (·.1) = fs.map (·.1) := KvR_keys r

theorem step_m (hg : GoodCx prog w K H cx) (ih : ∀ j, j ≤ n → P prog w H cx Φ k j) : ∀ {sc e env hp v hp'}, evM cx Φ (n + 1) sc e env hp = some (v, hp') → TrV prog w H k sc env hp (eval e) v hp' := by
  have ihn := ih n (Nat.le_refl n)
  intro sc e env hp v hp' h
  cases e with
  | List es p =>
    cases es with
    | nil =>
      refine soE h ?_; clear h
      intro st E own W s A Q Ex wr x0 rm hQ
      refine wpAny_List (wpAny_items_nil ⟨Nat.zero_le _, ?_⟩)
      exact newRef_ok (vs := []) wr .nil fun W1 s1 v e1 wr1 hv => hQ W1 s1 v e1 wr1 hv
    | cons e r => exact ihn.e h
  | Dict ks vs p =>
    have main : ((evKs ks).bind fun names => (evEs cx Φ n sc vs env hp).bind fun (l, hp1) =>
      if l.length = names.length ∧ names.Nodup ∧ l.length ≤ 15 ∧ l ≠ [] then some (.ref hp1.length, hp1 ++ [.sd (names.zip l)]) else Option.none) = some (v, hp') → TrV prog w H k sc env hp (eval (.Dict ks vs p)) v hp' := by
      intro h
      refine bd1 h ?_; clear h; intro names h1 h
      refine bd2 h ?_; clear h; intro l hp1 h2 h
      obtain ⟨⟨z1, z2, z3, z4⟩, h⟩ := iteS h
      refine soE h ?_; clear h
      intro st E own W s A Q Ex wr x0 rm hQ
      obtain ⟨ka, kl⟩ := evKs_some h1
      have kp : ∀ b o, s.heap.get? b = some o → (s.heap.push { cls := .type "dict", data := .dict #[] }).get? b = some o := fun b o e => Heap.get?_push_of_some _ e
      have e0 : Ext [] W s W { s with heap := s.heap.push { cls := .type "dict", data := .dict #[] } } := .grow [] kp
      have hD : (s.heap.push { cls := .type "dict", data := .dict #[] }).DictOf (PySem.strKind prog w) s.heap.objs.size [] := Heap.DictOf.new _
      have hJ0 : W.J s.heap.objs.size = none := wr.noneJ (fresh_size _)
      have hR0 : ∀ i, i < W.n → W.ρ i ≠ s.heap.objs.size := fun i hi => wr.neR (fresh_size _) hi
      have go := pairs_ok n ih h2 h1 z1 p st E own W { s with heap := s.heap.push { cls := .type "dict", data := .dict #[] } } A
      have fin : ∀ (W' : Wd) (s' : Shared) (prs : List (Value × Value)) (kvs : List (Str × Value)), Ext [] W { s with heap := s.heap.push { cls := .type "dict", data := .dict #[] } } W' s' → WR prog w H W' hp1 s'.heap → Carries (PySem.strKind prog w) prs kvs → KvR W' kvs (names.zip l) →
          ∃ kvs, Carries (PySem.strKind prog w) prs kvs ∧ s'.heap.DictOf (PySem.strKind prog w) s.heap.objs.size [] ∧ ∀ h', h'.DictOf (PySem.strKind prog w) s.heap.objs.size (PySem.merged [] kvs) → Heap.SameBut s.heap.objs.size s'.heap h' → Q (.ref s.heap.objs.size) { s' with heap := h', toks := s'.toks + prs.length } := by
        intro W' s' prs kvs e1 wr1 hc hkv
        refine ⟨kvs, hc, hD.at fun o e => e1.keep _ o (by simp) hR0 e, fun h' hd sb => ?_⟩
        have hkeys : kvs.map (·.1) = names := by
          rw [KvR_keys hkv, List.map_fst_zip (by omega)]
        rw [merged_nil_of_nodup kvs (by rw [hkeys]; exact z2)] at hd
        have hal : ∃ o, (s.heap.push { cls := .type "dict", data := .dict #[] }).get? s.heap.objs.size = some o := ⟨_, Heap.get?_push_size _ rfl⟩
        obtain ⟨oD, hoD⟩ := hal
        have hJ1 : W'.J s.heap.objs.size = none := by
          cases q : W'.J s.heap.objs.size with
          | none => rfl
          | some o' => have := e1.freshJ _ o' hJ0 q; rw [hoD] at this; (first | exact nos this | exact nof this | exact nos2 this | exact nof2 this | cases this)
        have hR1 : ∀ i, i < W'.n → W'.ρ i ≠ s.heap.objs.size := fun i hi q => by
          by_cases hlt : i < W.n
          · exact hR0 i hlt ((e1.le.ρ i hlt).symm.trans q)
          · have := e1.freshR i (Nat.not_lt.mp hlt) hi; rw [q, hoD] at this; (first | exact nos this | exact nof this | exact nos2 this | exact nof2 this | cases this)
        have kk : ∀ b o, b ≠ s.heap.objs.size → s'.heap.get? b = some o → h'.get? b = some o := fun b o hb e => (sb.2 b hb).trans e
        refine hQ (W'.new s.heap.objs.size) _ _ (Ext.newAt (e0.trans e1) (fresh_size _) kk) (wr1.newAt hJ1 hR1 kk ⟨kvs, hd, hkv.mono (Wd.le_new _ _)⟩) ?_
        have := VR.ref (W := W'.new s.heap.objs.size) (i := W'.n) (Nat.lt_succ_self _)
        rw [Wd.new_self, wr1.n_eq] at this
        exact this
      refine wpAny_Dict_walk (knd := PySem.strKind prog w) ka ?_ ?_ (by omega) (go _ Ex (wr.grow kp) (x0.ext e0) rm fin).2
      · exact (go (fun _ _ => True) Ex (wr.grow kp) (x0.ext e0) rm (fun _ _ _ _ _ _ _ _ => trivial)).1
      · intro q
        rw [q] at kl
        have : l.length = 0 := by rw [z1, ← kl]; rfl
        exact z4 (List.length_eq_zero_iff.mp this)
    cases ks with
    | nil =>
      cases vs with
      | nil =>
        refine soE h ?_; clear h
        intro st E own W s A Q Ex wr x0 rm hQ
        exact wpAny_Dict_empty (newIm_ok wr fun W1 s1 v e1 wr1 hv => hQ W1 s1 v e1 wr1 hv)
      | cons _ _ => exact main h
    | cons _ _ => exact main h
  | Tuple es kk p =>
    refine bd2 h ?_; clear h; intro vs hp1 h1 h
    refine iteSE h ?_; clear h; intro hz h
    refine soE h ?_; clear h
    intro st E own W s A Q Ex wr x0 rm hQ
    refine wpAny_Tuple ((ihn.ms h1).2 p st E own W s A _ Ex wr x0 rm fun W1 s1 as e1 wr1 vas => ⟨by rw [vas.length]; exact size1000 hz, ?_⟩)
    exact newTup_ok wr1 vas fun W2 s2 v e2 wr2 hv => hQ W2 s2 v (e1.trans e2) wr2 hv
  | Subscript o i p' =>
    cases i with
    | Slice lo up stp p =>
      cases stp with
      | none =>
        refine bd2 h ?_; clear h; intro a hp0 h1 h
        cases a with
        | lst m =>
          refine soE h ?_; clear h
          cases n with
          | zero => (first | exact nos h1 | exact nof h1 | exact nos2 h1 | exact nof2 h1 | cases h1)
          | succ n =>
            have ihm := ih n (Nat.le_succ n)
            refine bd2 h1 ?_; clear h1; intro a hp1 h2 h
            refine bd2 h ?_; clear h; intro x hp2 h3 h
            refine bd2 h ?_; clear h; intro y hp3 h4 h
            refine bd1 h ?_; clear h; intro l h5 h
            obtain ⟨m', h6, h⟩ := bd h
            obtain ⟨e1', rfl⟩ := so h
            cases e1'
            intro st E own W s A Q Ex wr x0 rm hQ
            refine Subscript_ (ihm.e h2 st E own W s A _ Ex wr x0 rm fun W1 s1 av e1 wr1 va => wpAny_Slice (ihm.o h3 st E own W1 s1 A _ Ex wr1 (x0.ext e1) rm fun W2 s2 vl e2 wr2 pl => ihm.o h4 st E own W2 s2 A _ Ex wr2 ((x0.ext e1).ext e2) rm fun W3 s3 vu e3 wr3 pu => ?_))
            rw [evalPart_none]
            refine wpAny_pure ?_
            refine slice_ok wr3 ((va.mono e2.le).mono e3.le) h5 h6 pl pu fun ks s4 e4 wr4 hk => ?_
            exact newRef_ok wr4 hk fun W5 s5 v e5 wr5 hv => hQ W5 s5 v ((((e1.trans e2).trans e3).trans e4).trans e5) wr5 hv
        | _ => (first | exact nos h | exact nof h | exact nos2 h | exact nof2 h | cases h)
      | some _ => exact ihn.e h
    | _ => exact ihn.e h
  | Call f args kws p' =>
    cases f with
    | Name id p =>
      rcases args with _ | ⟨a, _ | ⟨b, r⟩⟩
      · exact ihn.e h
      · cases kws with
        | nil =>
          by_cases hid : id = "list"
          · subst hid
            refine iteNE h ?_; clear h; intro hi h
            have hi : isGl sc "list" = true := by simpa using hi
            refine bd2 h ?_; clear h; intro u hp1 h1 h
            have hn := plain_star (evE_plain h1)
            have go : (∀ m, u ≠ .tup m) → ((itemsOf hp1 u).bind fun l => if l.length ≤ lineMax then some (V.ref hp1.length, hp1 ++ [.lst l]) else Option.none) = some (v, hp') → TrV prog w H k sc env hp (eval (.Call (.Name "list" p) [a] [] p')) v hp' := by
              intro hnt h
              refine bd1 h ?_; clear h; intro l h2 h
              refine iteSE h ?_; clear h; intro hz h
              refine soE h ?_; clear h
              intro st E own W s A Q Ex wr x0 rm hQ
              refine wpAny_Call_NameR (gl_ok wr x0 hi hg.lst (callV (by rw [(star_cons hn).1]; rfl) (P := fun _ => True) (keeps_b (.inr ⟨_, rfl⟩)) (wpAny_items_cons (ihn.e h1 st E own W s A _ Ex wr x0 rm fun W1 s1 a e1 wr1 va => wpAny_items_nil ⟨trivial, ?_⟩) ((star_cons hn).2 E))))
              exact list_ok wr1 va h2 hz hnt fun W2 s2 v e2 wr2 hv => hQ W2 s2 v (e1.trans e2) wr2 hv
            cases u with
            | tup m => (first | exact nos h | exact nof h | exact nos2 h | exact nof2 h | cases h)
            | _ => exact go (fun _ q => by (first | exact nos q | exact nof q | exact nos2 q | exact nof2 q | cases q)) h
          · exact ihn.e (iteF (c := id = "list") h hid)
        | cons _ _ => exact ihn.e h
      · exact ihn.e h
    | _ => exact ihn.e h
  | _ => exact ihn.e h
end
end Mine
end

section
open PySem PySem.W PyProof.Rows PySem.Spec PySem.SeqAt PySem.Calls
namespace Mine
section
variable {prog : Program} {w : World} {H : Heap} {st sc : Nm} {E : Env} {own : List Addr} {env : En} {W : Wd} {hp : Hp} {k n : Nat}

/-- a store of a name, whichever way it is written -/
noncomputable def StoresAs (prog : Program) (w : World) (A : Around) (E : Env) (f : Value → Sem Unit) (x : Str) : Prop :=
  ∀ (v : Value) (Q : Unit → Shared → Prop) (Ex : Value → Shared → Prop) (s : Shared), wpAny (model prog w) A (storeName E x v) Q Ex s → wpAny (model prog w) A (f v) Q Ex s

theorem stores_ok {A : Around} {Ex : Value → Shared → Prop} : ∀ (fs : List (Value → Sem Unit)) (xs : List Str) (vals : List Value) (l : List V) (env : En) (s : Shared) (Q : Unit → Shared → Prop), fs.length = xs.length → (∀ (i : Nat) (f : Value → Sem Unit) (x : Str), fs[i]? = some f → xs[i]? = some x → StoresAs prog w A E f x) → VRs W vals l → vals.length = xs.length → xs.all (mayStore st) = true →
    WR prog w H W hp s.heap → EnvOK st sc E own env W s.heap → (∀ s', Ext own W s W s' → WR prog w H W hp s'.heap → EnvOK st sc E own (putAll xs l env) W s'.heap → Q () s') → wpAny (model prog w) A (assignInOrder fs vals) Q Ex s
  | [], [], [], _, env, s, Q, _, _, hv, _, _, wr, x0, hQ => by (first | refine VR.noneC hv ?_ | refine VR.boolC hv ?_ | refine VR.intC hv fun _ => ?_ | refine VR.strC hv fun _ => ?_ | refine VRs.nilC hv ?_ | cases hv); exact wpAny_pure (hQ s (.refl _ _ _) wr x0)
  | f :: fs, x :: xs, v :: vals, l, env, s, Q, hl, hf, hv, hvl, hm, wr, x0, hQ => by
    cases hv with
    | cons hv1 hv2 =>
    rw [List.all_cons, Bool.and_eq_true] at hm
    show wpAny (model prog w) A (holding vals (f v) >>= fun _ => assignInOrder fs vals) Q Ex s
    refine wpAny_bind (wpAny_holding (hf 0 f x rfl rfl v _ _ _ (store_ok wr x0 hm.1 hv1 fun s1 e1 wr1 x1 => ?_)))
    refine stores_ok fs xs vals _ _ s1 Q (by simpa using hl) (fun i f x h1 h2 => hf (i + 1) f x h1 h2) hv2 (by simpa using hvl) hm.2 wr1 x1 fun s2 e2 wr2 x2 => hQ s2 (e1.trans e2) wr2 x2
  | [], _ :: _, _, _, _, _, _, hl, _, _, _, _, _, _, _ => by (first | exact nos hl | exact nof hl | exact nos2 hl | exact nof2 hl | cases hl)
  | _ :: _, [], _, _, _, _, _, hl, _, _, _, _, _, _, _ => by (first | exact nos hl | exact nof hl | exact nos2 hl | exact nof2 hl | cases hl)
  | [], [], _ :: _, _, _, _, _, _, _, _, hvl, _, _, _, _ => by (first | exact nos hvl | exact nof hvl | exact nos2 hvl | exact nof2 hvl | cases hvl)
  | _ :: _, _ :: _, [], _, _, _, _, _, _, _, hvl, _, _, _, _ => by (first | exact nos hvl | exact nof hvl | exact nos2 hvl | exact nof2 hvl | cases hvl)

theorem stores_name {A : Around} {x : Str} {p : Pos} : StoresAs prog w A E (assign (.Name x p) E) x := fun _ _ _ _ h => wpAny_assign_Name h
theorem stores_bind {A : Around} {x : Str} : StoresAs prog w A E (bindName E x) x := fun _ _ _ _ h => wpAny_bindName h

theorem tgt_each : ∀ {ts : List Expr} {xs : List Str}, tgtNames ts = some xs → (assignEach ts E).length = xs.length ∧ (assignEach ts E).findIdx? (·.1) = none ∧ ∀ (A : Around) (i : Nat) (f : Value → Sem Unit) (x : Str), ((assignEach ts E).map (·.2))[i]? = some f → xs[i]? = some x → StoresAs prog w A E f x
  | [], xs, h => by cases h; exact ⟨rfl, rfl, fun A i f x h => by simp [assignEach] at h⟩
  | e :: r, xs, h => by
    cases e with
    | Name y p =>
      refine bd1 h ?_; clear h; intro l h1 h
      (first | exact nos h | exact nof h | exact nos2 h | exact nof2 h | cases h)
      obtain ⟨a, b, c⟩ := tgt_each h1
      have e1 : assignEach (.Name y p :: r) E = (false, assign (.Name y p) E) :: assignEach r E := rfl
      refine ⟨by rw [e1]; simp [a], by rw [e1, List.findIdx?_cons]; simp [b], fun A i f x h1 h2 => ?_⟩
      rw [e1] at h1
      cases i with
      | zero => simp at h1 h2; subst h1 h2; exact stores_name
      | succ i => exact c A i f x (by simpa using h1) (by simpa using h2)
    | _ => (first | exact nos h | exact nof h | exact nos2 h | exact nof2 h | cases h)

theorem assign_ok {A : Around} {Ex : Value → Shared → Prop} {s : Shared} {Q : Unit → Shared → Prop} {t : Expr} {u : V} {v : Value} {en : En} (hh : A.handled = none) (hb : bindT st t u env = some en) (hv : VR W v u) (wr : WR prog w H W hp s.heap) (x0 : EnvOK st sc E own env W s.heap)
    (hQ : ∀ s', Ext own W s W s' → WR prog w H W hp s'.heap → EnvOK st sc E own en W s'.heap → Q () s') : wpAny (model prog w) A (assign t E v) Q Ex s := by
  cases t with
  | Name x p =>
    refine iteSE hb ?_; clear hb; intro hm h
    (first | exact nos h | exact nof h | exact nos2 h | exact nof2 h | cases h)
    exact wpAny_assign_Name (store_ok wr x0 hm hv hQ)
  | Tuple ts kk p =>
    refine bd1 hb ?_; clear hb; intro xs h1 h
    cases u with
    | tup l =>
      obtain ⟨⟨hl, hm, hz⟩, h⟩ := iteS h
      (first | exact nos h | exact nof h | exact nos2 h | exact nof2 h | cases h)
      refine VR.tupC hv fun a vs n q r => ?_
      obtain ⟨e1, e2, e3⟩ := tgt_each (prog := prog) (w := w) (E := E) h1
      refine wpAny_assign_Tuple hh ⟨_, wr.jle _ _ q, rfl, _, rfl⟩ (by rw [e1, List.size_toArray, r.length, hl]) e2 fun h' he => ?_
      have kp : ∀ b o, s.heap.get? b = some o → h'.get? b = some o := fun b o q => he b o (fun z => by rw [z, fresh_size] at q; (first | exact nos q | exact nof q | exact nos2 q | exact nof2 q | cases q)) q
      have eg : Ext [] W s W { s with heap := h' } := .grow [] kp
      exact stores_ok _ xs vs l env { s with heap := h' } Q (by rw [List.length_map, e1]) (e3 A) r (by rw [r.length, hl]) hm (wr.grow kp) (x0.ext eg) fun s' e wr' x' => hQ s' (eg.weaken.trans e) wr' x'
    | _ => (first | exact nos h | exact nof h | exact nos2 h | exact nof2 h | cases h)
  | _ => (first | exact nos hb | exact nof hb | exact nos2 hb | exact nof2 hb | cases hb)

theorem putAll_keep : ∀ (xs : List Str) (l : List V) (env : En), (∀ x ∈ xs, env.lookup x = Option.none) → ∀ y v, env.lookup y = some v → (putAll xs l env).lookup y = some v := by
  have gen : ∀ (xs : List Str) (l : List V) (env : En) (y : Str), y ∉ xs → (putAll xs l env).lookup y = env.lookup y := by
    intro xs
    induction xs with
    | nil => intro l env y _; cases l <;> rfl
    | cons x xs ih =>
      intro l env y hy
      rw [List.mem_cons, not_or] at hy
      cases l with
      | nil => rfl
      | cons v l =>
        show (putAll xs l (put x v env)).lookup y = _
        rw [ih l _ y hy.2, lookup_put, if_neg hy.1]
  intro xs l env h y v hy
  rw [gen xs l env y fun hm => by rw [h y hm] at hy; cases hy]
  exact hy

/-- the target of a comprehension: what was bound stays bound -/
theorem bindC_ok {t : Expr} {u : V} {en : En} (h : bindC st t u env = some en) : bindT st t u env = some en ∧ ∀ y v, env.lookup y = some v → en.lookup y = some v := by
  cases t with
  | Name x p =>
    refine iteSE h ?_; clear h; intro hn h
    refine ⟨h, ?_⟩
    refine iteSE h ?_; clear h; intro hm h
    (first | exact nos h | exact nof h | exact nos2 h | exact nof2 h | cases h)
    intro y v hy
    rw [lookup_put]
    by_cases z : y = x
    · subst z; rw [hy] at hn; (first | exact nos hn | exact nof hn | exact nos2 hn | exact nof2 hn | cases hn)
    · rw [if_neg z]; exact hy
  | Tuple ts kk p =>
    refine bd1 h ?_; clear h; intro xs h1 h
    refine iteSE h ?_; clear h; intro hn h
    refine ⟨h, ?_⟩
    obtain ⟨xs', h1', h⟩ := bd h
    rw [h1] at h1'
    cases h1'
    cases u with
    | tup l =>
      obtain ⟨⟨hl, hm, hz⟩, h⟩ := iteS h
      (first | exact nos h | exact nof h | exact nos2 h | exact nof2 h | cases h)
      refine putAll_keep xs l env fun x hx => ?_
      have := List.all_eq_true.mp hn.2 x hx
      simpa using this
    | _ => (first | exact nos h | exact nof h | exact nos2 h | exact nof2 h | cases h)
  | _ => (first | exact nos h | exact nof h | exact nos2 h | exact nof2 h | cases h)

/-! ## the frame of a comprehension -/
noncomputable def closL (E : Env) : Nm → List (Str × Addr) → List (Str × Addr)
  | [], acc => acc
  | (x, kd) :: r, acc => closL E r (if kd == .free then (x, (E.cells.lookup x).getD 0) :: acc else acc)

theorem clos_for : ∀ (names : Nm) (acc : List (Str × Addr)), (∀ p ∈ names, p.2 = .free → (E.cells.lookup p.1).isSome = true) →
    (forIn names acc fun x r => if (x.2 == NameKind.free) = true then (do let a ← cellOf E x.1; pure (ForInStep.yield ((x.1, a) :: r))) else pure (ForInStep.yield r) : Sem (List (Str × Addr))) = pure (closL E names acc)
  | [], acc, _ => by rw [List.forIn_nil]; rfl
  | (x, kd) :: r, acc, h => by
    rw [List.forIn_cons]
    unfold closL
    by_cases hk : (kd == NameKind.free) = true
    · have hs := h (x, kd) (.head _) (by simpa using hk)
      obtain ⟨c, hc⟩ := Option.isSome_iff_exists.mp hs
      have hc' : E.cells.lookup x = some c := hc
      simp only [hk, if_true]
      have e1 : cellOf E x = pure c := by unfold cellOf; rw [hc']
      rw [e1, hc']
      simp only [pure_bind]
      exact clos_for r _ fun p hp => h p (.tail _ hp)
    · simp only [hk, Bool.false_eq_true, if_false, pure_bind]
      exact clos_for r _ fun p hp => h p (.tail _ hp)

theorem closureFor_ok {scope : Scope} (h : ∀ p ∈ scope.names, p.2 = .free → (E.cells.lookup p.1).isSome = true) : closureFor scope E = pure (closL E scope.names []) := by
  have := clos_for (E := E) scope.names [] h
  unfold closureFor
  simp only [bind_pure]
  rw [← this]

theorem lookup_app {α : Type} (x : Str) : ∀ (l m : List (Str × α)), (l ++ m).lookup x = (l.lookup x).or (m.lookup x)
  | [], _ => rfl
  | (y, v) :: l, m => by
    rw [List.cons_append, List.lookup_cons, List.lookup_cons]
    cases x == y with
    | true => rfl
    | false => exact lookup_app x l m

theorem closL_app : ∀ (names : Nm) (acc : List (Str × Addr)), closL E names acc = closL E names [] ++ acc
  | [], _ => rfl
  | (x, kd) :: r, acc => by
    unfold closL
    by_cases hk : (kd == NameKind.free) = true
    · rw [if_pos hk, if_pos hk, closL_app r (_ :: acc), closL_app r [_], List.append_assoc]; rfl
    · rw [if_neg hk, if_neg hk, closL_app r acc]
theorem closL_lookup : ∀ (names : Nm) (x : Str), (∀ p ∈ names, p.2 = .free → (E.cells.lookup p.1).isSome = true) → ((x, NameKind.free) ∈ names → (closL E names []).lookup x = E.cells.lookup x) ∧ ((x, NameKind.free) ∉ names → (closL E names []).lookup x = none)
  | [], x, _ => ⟨fun h => (nomatch h), fun _ => rfl⟩
  | (y, kd) :: r, x, h => by
    obtain ⟨i1, i2⟩ := closL_lookup r x fun p hp => h p (.tail _ hp)
    unfold closL
    rw [closL_app, lookup_app]
    by_cases hk : (kd == NameKind.free) = true
    · have hk' : kd = .free := by simpa using hk
      subst hk'
      rw [if_pos hk]
      obtain ⟨c, hc⟩ := Option.isSome_iff_exists.mp (h (y, .free) (.head _) rfl)
      have hc' : E.cells.lookup y = some c := hc
      rw [hc']
      by_cases hm : (x, NameKind.free) ∈ r
      · rw [i1 hm]
        refine ⟨fun _ => ?_, fun hn => absurd (.tail _ hm) hn⟩
        obtain ⟨d, hd⟩ := Option.isSome_iff_exists.mp (h (x, .free) (.tail _ hm) rfl)
        have hd' : E.cells.lookup x = some d := hd
        rw [hd']; rfl
      · rw [i2 hm]
        by_cases hx : x = y
        · subst hx
          exact ⟨fun _ => by simp [hc'], fun hn => absurd (.head _) hn⟩
        · have : (x == y) = false := by simpa using hx
          refine ⟨fun q => ?_, fun _ => by rw [List.lookup_cons, this]; rfl⟩
          rcases List.mem_cons.mp q with q | q
          · exact absurd (Prod.mk.inj q).1 hx
          · exact absurd q hm
    · have hk' : kd ≠ .free := by simpa using hk
      rw [if_neg hk]
      have : (x, NameKind.free) ∈ (y, kd) :: r ↔ (x, NameKind.free) ∈ r := by
        rw [List.mem_cons]
        exact ⟨fun q => q.elim (fun q => absurd (Prod.mk.inj q).2.symm hk') id, .inr⟩
      rw [this]
      simp only [List.lookup_nil, Option.or_none]
      exact ⟨i1, i2⟩

theorem cellsFrom_app : ∀ (names : Nm) (m : Nat) (acc : List (Str × Addr)), cellsFrom m names acc = cellsFrom m names [] ++ acc
  | [], _, _ => rfl
  | (x, kd) :: r, m, acc => by
    unfold cellsFrom
    by_cases hk : (kd == NameKind.cell) = true
    · rw [if_pos hk, if_pos hk, cellsFrom_app r _ (_ :: acc), cellsFrom_app r _ [_], List.append_assoc]; rfl
    · rw [if_neg hk, if_neg hk, cellsFrom_app r m acc]
theorem cellsFrom_mem : ∀ (names : Nm) (m : Nat) (x : Str) (c : Addr), (x, c) ∈ cellsFrom m names [] → (x, NameKind.cell) ∈ names
  | [], _, _, _, h => (nomatch h)
  | (y, kd) :: r, m, x, c, h => by
    unfold cellsFrom at h
    by_cases hk : (kd == NameKind.cell) = true
    · rw [if_pos hk, cellsFrom_app] at h
      rcases List.mem_append.mp h with h | h
      · exact .tail _ (cellsFrom_mem r _ x c h)
      · rw [List.mem_singleton] at h
        obtain ⟨rfl, _⟩ := Prod.mk.inj h
        have hk' : kd = .cell := by simpa using hk
        subst hk'
        exact .head _
    · rw [if_neg hk] at h
      exact .tail _ (cellsFrom_mem r m x c h)
theorem lookup_of_mem {α : Type} {x : Str} : ∀ {l : List (Str × α)}, (∃ c, (x, c) ∈ l) → ∃ c, l.lookup x = some c
  | [], ⟨_, h⟩ => (nomatch h)
  | (y, v) :: l, ⟨c, h⟩ => by
    rw [List.lookup_cons]
    cases hx : x == y with
    | true => exact ⟨v, rfl⟩
    | false =>
      refine lookup_of_mem ⟨c, ?_⟩
      rcases List.mem_cons.mp h with h | h
      · rw [(Prod.mk.inj h).1] at hx; simp at hx
      · exact h
theorem cellsFrom_has : ∀ (names : Nm) (m : Nat) (x : Str), (x, NameKind.cell) ∈ names → ∃ c, (x, c) ∈ cellsFrom m names []
  | (y, kd) :: r, m, x, h => by
    unfold cellsFrom
    by_cases hk : (kd == NameKind.cell) = true
    · rw [if_pos hk, cellsFrom_app]
      rcases List.mem_cons.mp h with h | h
      · obtain ⟨rfl, _⟩ := Prod.mk.inj h
        exact ⟨m, List.mem_append_right _ (.head _)⟩
      · obtain ⟨c, hc⟩ := cellsFrom_has r (m + 1) x h
        exact ⟨c, List.mem_append_left _ hc⟩
    · rw [if_neg hk]
      rcases List.mem_cons.mp h with h | h
      · have := (Prod.mk.inj h).2
        subst this
        exact absurd rfl hk
      · exact cellsFrom_has r m x h
end
end Mine
end

section
open PySem PySem.W PyProof.Rows PySem.Spec PySem.SeqAt PySem.Calls
namespace Mine
section
variable {prog : Program} {w : World} {H : Heap} {st sc : Nm} {E : Env} {own : List Addr} {env : En} {W : Wd} {hp : Hp} {k n : Nat} {s : Shared}

theorem free_cells {scope : Scope} (x0 : EnvOK st sc E own env W s.heap) (hf : ∀ p ∈ scope.names, p.2 = .free → scope.names.lookup p.1 = some .free ∧ (env.lookup p.1).isSome = true ∧ (sc.lookup p.1 = some .cell ∨ sc.lookup p.1 = some .free)) : ∀ p ∈ scope.names, p.2 = .free → (E.cells.lookup p.1).isSome = true := fun p hp hk => by
  obtain ⟨_, h2, h3⟩ := hf p hp hk
  obtain ⟨v, hv⟩ := Option.isSome_iff_exists.mp h2
  obtain ⟨c, val, hc, _⟩ := x0.cel p.1 v hv (fun z => by rcases h3 with h3 | h3 <;> rw [h3] at z <;> cases z)
  rw [hc]; rfl
structure ScOk (scope : Scope) (sc : Nm) (env : En) : Prop where
  kind : scope.kind = .function
  here : ∀ p ∈ scope.names, p.2 = .local ∨ p.2 = .cell → scope.names.lookup p.1 = some p.2
  free : ∀ p ∈ scope.names, p.2 = .free → scope.names.lookup p.1 = some .free ∧ (env.lookup p.1).isSome = true ∧ (sc.lookup p.1 = some .cell ∨ sc.lookup p.1 = some .free)
  dbg : scope.names.lookup ("__debug__" : Str) = none
  cls : scope.names.lookup ("__classdict__" : Str) = none
theorem scOk_ok {scope : Scope} (h : scOk scope sc env = true) : ScOk scope sc env := by
  unfold scOk at h
  simp only [Bool.and_eq_true] at h
  obtain ⟨⟨⟨h1, h2⟩, h3⟩, h4⟩ := h
  rw [List.all_eq_true] at h2
  refine ⟨by simpa using h1, fun p hp hk => ?_, fun p hp hk => ?_, by simpa using h3, by simpa using h4⟩
  · have := h2 p hp
    obtain ⟨x, kd⟩ := p
    rcases hk with hk | hk <;> · simp only at hk; subst hk; simp at this; exact this
  · have := h2 p hp
    obtain ⟨x, kd⟩ := p
    simp only at hk; subst hk
    simp at this
    exact ⟨this.1.1, by simpa using this.1.2, this.2⟩

theorem relab_lookup (outer : Nm) (x : Str) : ∀ names : Nm, (relab names outer).lookup x = (names.lookup x).map fun kd => if (kd == .free && outer.lookup x == some .cell) = true then .cell else kd
  | [] => rfl
  | (y, kd) :: r => by
    have ih := relab_lookup outer x r
    unfold relab at ih ⊢
    rw [List.map_cons]
    cases hx : x == y with
    | true =>
      have e := beq_iff_eq.mp hx
      subst e
      dsimp only
      split
      · rename_i hc; simp only [List.lookup_cons, beq_self_eq_true, Option.map_some]; rw [if_pos hc]
      · rename_i hc; simp only [List.lookup_cons, beq_self_eq_true, Option.map_some]; rw [if_neg hc]
    | false =>
      dsimp only
      split <;> simp only [List.lookup_cons, hx] <;> exact ih
theorem relab_eq (x0 : EnvOK st sc E own env W s.heap) (scope : Scope) : (relabel scope E).names = relab scope.names sc := by
  unfold relabel relab
  dsimp only
  apply List.map_congr_left
  intro p _
  obtain ⟨x, kd⟩ := p
  have : E.kindOf x = sc.lookup x := by unfold Env.kindOf; rw [x0.names]
  dsimp only
  rw [this, x0.kind]
  simp
theorem captured_ok {names : Nm} {x : Str} {v : V} (h : (captured names env).lookup x = some v) : env.lookup x = some v ∧ names.lookup x = some .free := by
  have := lookup_filter (fun y => names.lookup y == some .free) env x v h
  exact ⟨this.1, by simpa using this.2⟩

theorem fresh_ge {h : Heap} {a : Addr} (ha : h.objs.size ≤ a) : h.get? a = none := by
  cases e : h.get? a with
  | none => rfl
  | some o => exact absurd (Heap.lt_size e) (Nat.not_lt.mpr ha)

theorem compEnv_ok {A : Around} {Q : Env → Shared → Prop} {Ex : Value → Shared → Prop} {scope : Scope} (hs : ScOk scope sc env) (wr : WR prog w H W hp s.heap) (x0 : EnvOK st sc E own env W s.heap)
    (h : ∀ (cenv : Env) (own' : List Addr) (s' : Shared), (∀ b o, s.heap.get? b = some o → s'.heap.get? b = some o) → (∃ h', s' = { s with heap := h' }) → EnvOK scope.names (relab scope.names sc) { cenv with scope := relabel scope E } own' (captured scope.names env) W s'.heap →
      (∀ a ∈ own', s.heap.get? a = none) → (∀ x c, cenv.cells.lookup x = some c → c ∉ own' → ∃ y, E.cells.lookup y = some c) → Q cenv s') :
    wpAny (model prog w) A (newFunctionEnv scope E.globals (closL E scope.names []) [] E.qual none .none (some E)) Q Ex s := by
  have hfree : ∀ p ∈ scope.names, p.2 = .free → (E.cells.lookup p.1).isSome = true := fun p hp hk => by
    obtain ⟨_, h2, h3⟩ := hs.free p hp hk
    obtain ⟨v, hv⟩ := Option.isSome_iff_exists.mp h2
    obtain ⟨c, val, hc, _⟩ := x0.cel p.1 v hv (fun z => by rcases h3 with h3 | h3 <;> rw [h3] at z <;> cases z)
    rw [hc]; rfl
  simp only [newFunctionEnv, Option.isSome_some, if_true]
  refine wpAny_bind (wpAny_alloc ?_)
  refine wpAny_bind (wpAny_layCells _ (fun name kind cells => by cases hkc : kind == NameKind.cell <;> simp [hkc]) _ _ _ _ ?_)
  have ok := cellsFrom_ok scope.names (s.heap.push { cls := .type "dict", data := .dict #[] }) (s.heap.objs.size + 1) [] ⟨fun _ _ hm => (nomatch hm), List.Pairwise.nil⟩ (by rw [Heap.size_push]; exact Nat.le_refl _)
  rw [Heap.size_push] at ok
  rw [show ({ s with heap := s.heap.push { cls := .type "dict", data := .dict #[] } } : Shared).heap.objs.size = s.heap.objs.size + 1 from Heap.size_push ..]
  rw [cellsFrom_app]
  refine wpAny_bind (wpAny_pure (wpAny_pure ?_))
  have kp : ∀ b o, s.heap.get? b = some o → (pushCells (s.heap.push { cls := .type "dict", data := .dict #[] }) scope.names).get? b = some o := fun b o e => pushCells_keeps _ _ b o (Heap.get?_push_of_some _ e)
  have newNone : ∀ x c, (x, c) ∈ cellsFrom (s.heap.objs.size + 1) scope.names [] → s.heap.get? c = none := fun x c hm => fresh_ge (Nat.le_of_succ_le (ok.empty x c hm).2)
  have hns : (pushCells (s.heap.push { cls := .type "dict", data := .dict #[] }) scope.names).Ns s.heap.objs.size (fun _ => none) := (Heap.Ns.new s.heap (.type "dict")).keeps (pushCells_keeps _ _)
  have ownNone : ∀ a ∈ s.heap.objs.size :: (cellsFrom (s.heap.objs.size + 1) scope.names []).map (·.2), s.heap.get? a = none := fun a ha => by
    rcases List.mem_cons.mp ha with rfl | ha
    · exact fresh_size _
    · obtain ⟨p, hp, rfl⟩ := List.mem_map.mp ha
      exact newNone p.1 p.2 hp
  have split : ∀ x c, (cellsFrom (s.heap.objs.size + 1) scope.names [] ++ closL E scope.names []).lookup x = some c → (x, c) ∈ cellsFrom (s.heap.objs.size + 1) scope.names [] ∨ E.cells.lookup x = some c := fun x c hc => by
    rw [lookup_app] at hc
    cases q : (cellsFrom (s.heap.objs.size + 1) scope.names []).lookup x with
    | some d => rw [q] at hc; cases hc; exact .inl (mem_of_lookup q)
    | none =>
      rw [q] at hc
      right
      by_cases hm : (x, NameKind.free) ∈ scope.names
      · rw [Option.none_or, (closL_lookup scope.names x hfree).1 hm] at hc; exact hc
      · rw [Option.none_or, (closL_lookup scope.names x hfree).2 hm] at hc; (first | exact nos hc | exact nof hc | exact nos2 hc | exact nof2 hc | cases hc)
  have aliveOld : ∀ x c, E.cells.lookup x = some c → ∃ o, s.heap.get? c = some o := fun x c hc => by
    obtain ⟨⟨v, o, ho, _⟩, _⟩ := x0.cellA x c hc
    exact ⟨o, ho⟩
  have kindL : ∀ x, scope.names.lookup x = some .free → (relab scope.names sc).lookup x = some .cell ∨ (relab scope.names sc).lookup x = some .free := fun x hx => by
    rw [relab_lookup, hx, Option.map_some]
    split
    · exact .inl rfl
    · exact .inr rfl
  refine h _ (s.heap.objs.size :: (cellsFrom (s.heap.objs.size + 1) scope.names []).map (·.2)) _ kp ⟨_, rfl⟩ ?_ ownNone ?_
  · refine ⟨relab_eq x0 scope, hs.kind, x0.glob, x0.blt, ?_, ?_, .head _, ⟨_, hns, fun x v h1 h2 => ?_⟩, fun x v h1 h2 => ?_, fun x v h1 => ?_, fun a ha => wr.noneJ (ownNone a ha), fun a ha i hi => wr.neR (ownNone a ha) hi, fun a ha => ?_, fun x c hc => ?_, fun x y c hx hy => ?_, fun x hx => ?_⟩
    · rw [relab_lookup, hs.dbg]; rfl
    · rw [relab_lookup, hs.cls]; rfl
    · rcases kindL x (captured_ok h1).2 with q | q <;> rw [q] at h2 <;> (first | exact nos h2 | exact nof h2 | exact nos2 h2 | exact nof2 h2 | cases h2)
    · obtain ⟨c1, c2⟩ := captured_ok h1
      have hm : (x, NameKind.free) ∈ scope.names := mem_of_lookup c2
      obtain ⟨_, _, h3⟩ := hs.free _ hm rfl
      obtain ⟨c, val, hc, hcell, hv⟩ := x0.cel x v c1 (fun z => by rcases h3 with h3 | h3 <;> rw [h3] at z <;> cases z)
      refine ⟨c, val, ?_, hcell.keeps kp, hv⟩
      show (cellsFrom (s.heap.objs.size + 1) scope.names [] ++ closL E scope.names []).lookup x = some c
      rw [lookup_app]
      have : (cellsFrom (s.heap.objs.size + 1) scope.names []).lookup x = none := by
        cases q : (cellsFrom (s.heap.objs.size + 1) scope.names []).lookup x with
        | none => rfl
        | some d =>
          have := hs.here _ (cellsFrom_mem _ _ _ _ (mem_of_lookup q)) (.inr rfl)
          rw [c2] at this; (first | exact nos this | exact nof this | exact nos2 this | exact nof2 this | cases this)
      rw [this, Option.none_or, (closL_lookup scope.names x hfree).1 hm]; exact hc
    · rcases kindL x (captured_ok h1).2 with q | q
      · exact .inr (.inl q)
      · exact .inr (.inr q)
    · rcases List.mem_cons.mp ha with rfl | ha
      · obtain ⟨o, _, _, ho, _⟩ := hns
        exact ⟨o, ho⟩
      · obtain ⟨p, hp, rfl⟩ := List.mem_map.mp ha
        obtain ⟨o, ho, _⟩ := (ok.empty p.1 p.2 hp).1
        exact ⟨o, ho⟩
    · rcases split x c hc with hm | hc
      · exact ⟨⟨none, (ok.empty x c hm).1⟩, fun q => by
        have q' : c = s.heap.objs.size := q
        have z := (ok.empty x c hm).2
        rw [q'] at z
        exact Nat.not_succ_le_self _ z, fun i hi => wr.neR (newNone x c hm) hi⟩
      · obtain ⟨⟨v, hv⟩, r1, r3⟩ := x0.cellA x c hc
        refine ⟨⟨v, hv.keeps kp⟩, fun q => ?_, r3⟩
        obtain ⟨o, ho, _⟩ := hv
        change c = s.heap.objs.size at q
        rw [q, fresh_size] at ho; (first | exact nos ho | exact nof ho | exact nos2 ho | exact nof2 ho | cases ho)
    · rcases split x c hx with hm | hx <;> rcases split y c hy with hm' | hy
      · exact name_of_addr ok.apart hm hm'
      · obtain ⟨o, ho⟩ := aliveOld y c hy
        rw [newNone x c hm] at ho; (first | exact nos ho | exact nof ho | exact nos2 ho | exact nof2 ho | cases ho)
      · obtain ⟨o, ho⟩ := aliveOld x c hx
        rw [newNone y c hm'] at ho; (first | exact nos ho | exact nof ho | exact nos2 ho | exact nof2 ho | cases ho)
      · exact x0.cellI x y c hx hy
    · unfold mayStore at hx
      split at hx
      · rename_i q
        left
        rw [relab_lookup, q]; rfl
      · rename_i q
        right
        refine ⟨by rw [relab_lookup, q]; rfl, ?_⟩
        obtain ⟨c, hc⟩ := lookup_of_mem (cellsFrom_has scope.names (s.heap.objs.size + 1) x (mem_of_lookup q))
        refine ⟨c, ?_, .tail _ (List.mem_map.mpr ⟨(x, c), mem_of_lookup hc, rfl⟩)⟩
        show (cellsFrom (s.heap.objs.size + 1) scope.names [] ++ closL E scope.names []).lookup x = some c
        rw [lookup_app, hc]; rfl
      · (first | exact nos hx | exact nof hx | exact nos2 hx | exact nof2 hx | cases hx)
  · intro x c hc hn
    rcases split x c hc with hm | hc
    · exact absurd (.tail _ (List.mem_map.mpr ⟨(x, c), hm, rfl⟩)) hn
    · exact ⟨x, hc⟩
end
end Mine
end

section
open PySem PySem.W PyProof.Rows PySem.Spec PySem.SeqAt PySem.Calls
namespace Mine
section
variable {prog : Program} {w : World} {H : Heap} {cx : Cx} {Φ : Call} {st sc : Nm} {E : Env} {own : List Addr} {env : En} {W W' : Wd} {hp : Hp} {k n : Nat} {s s' : Shared}

/-- an address that neither the abstract heap nor the frame knows -/
structure Free (own : List Addr) (E : Env) (W : Wd) (D : Addr) : Prop where
  J : W.J D = none
  R : ∀ i, i < W.n → W.ρ i ≠ D
  o : D ∉ own
  c : ∀ x c, E.cells.lookup x = some c → c ≠ D
theorem Free.ext {D : Addr} {own' : List Addr} (f : Free own E W D) (e : Ext own' W s W' s') (h : ∃ o, s.heap.get? D = some o) : Free own E W' D := by
  obtain ⟨o, ho⟩ := h
  refine ⟨?_, fun i hi q => ?_, f.o, f.c⟩
  · cases q : W'.J D with
    | none => rfl
    | some o' => have := e.freshJ D o' f.J q; rw [ho] at this; (first | exact nos this | exact nof this | exact nos2 this | exact nof2 this | cases this)
  · by_cases hlt : i < W.n
    · exact f.R i hlt ((e.le.ρ i hlt).symm.trans q)
    · have := e.freshR i (Nat.not_lt.mp hlt) hi; rw [q, ho] at this; (first | exact nos this | exact nof this | exact nos2 this | exact nof2 this | cases this)

noncomputable def AccAt (W : Wd) (h : Heap) (D : Addr) (l : List V) : Prop := ∃ vs k, h.get? D = some (lstO vs k) ∧ VRs W vs l
theorem AccAt.ext {D : Addr} {own' : List Addr} {l : List V} (a : AccAt W s.heap D l) (f : Free own E W D) (e : Ext own' W s W' s') (h : D ∉ own') : AccAt W' s'.heap D l := by
  refine hide fun g_ t_ => ?_
  obtain ⟨vs, kk, q, r⟩ := a
  refine t_ ?_; clear t_ g_
  exact ⟨vs, kk, e.keep D _ h f.R q, r.mono e.le⟩
theorem AccAt.alive {D : Addr} {l : List V} {h : Heap} (a : AccAt W h D l) : ∃ o, h.get? D = some o := let ⟨_, _, q, _⟩ := a; ⟨_, q⟩

/-- iter of an iterator -/
theorem self_ok {I : Addr} {src : V × List V} {j : Nat} {A : Around} {Q : Value → Shared → Prop} {Ex : Value → Shared → Prop} (it : ItAt W s.heap I src j) (h : Q (.ref I) s) : wpAny (model prog w) A (pyIter (.ref I)) Q Ex s := by
  rcases it with ⟨ax, va, ⟨m, q⟩ | ⟨m, q⟩⟩ | ⟨kk, e, q⟩
  · exact wpAny_pyIter_tupleiter q h
  · exact wpAny_pyIter_listiter q h
  · exact wpAny_pyIter_rangeiter q h

theorem accPush {D : Addr} {vs : List Value} {kk : Nat} {x : Value} {A : Around} {Q : Value → Shared → Prop} {Ex : Value → Shared → Prop} (hl : s.heap.get? D = some (lstO vs kk)) (hz : vs.length ≤ sizeLine)
    (h : ∀ h' kk', h'.get? D = some (lstO (vs ++ [x]) kk') → Heap.SameBut D s.heap h' → Q .none { s with heap := h' }) : wpAny (model prog w) A (call (.builtin "list.append") [.ref D, x]) Q Ex s := by
  refine wpAny_list_append_plain (items := vs.toArray) ⟨kk, hl⟩ (fun h' hp sb => ?_) (by rw [List.size_toArray]; exact hz)
  obtain ⟨k2, hp⟩ := hp
  refine h h' k2 ?_ sb
  rw [hp]; simp

/-- a turn of the last clause -/
theorem compLast_rule {A : Around} {R : Result → Shared → Prop} {e : Expr} {d : Nat} {t iter : Expr} {ifs : List Expr} {elt : Expr} {it acc : Value} (hq : Code.quiet (.compLoop e d it acc E) = true) (hu : A.under (.compLoop e d it acc E) = A)
    (hden : (model prog w).den (.compLoop e d it acc E) = (compTurn e d it acc E).onRaise (fun x => do noteFrame x E; theTreesLotGoes x))
    (hturn : compTurn e d it acc E = (do
      standAt iter.pos
      match ← pyNext it with
      | none => pure (.done .next)
      | some v =>
        letOwnedTupleGo t it v
        assign t E v
        let mut ok := true
        for c in ifs do
          if ok then ok ← isTrue c E (eval c E)
        if ok then
          (do let _ ← call (.builtin "list.append") [acc, ← eval elt E])
        again (.compLoop e d it acc E)))
    (I : Nat → Shared → Prop)
    (turn : ∀ n s Ex, I n s → wpAny (model prog w) A (pyNext it) (fun r s₁ => match r with
      | none => R (.ok .next) s₁
      | some v => wpAny (model prog w) A (letOwnedTupleGo t it v) (fun _ s₁' => wpAny (model prog w) A (assign t E v) (fun _ s₂ =>
          wpAny (model prog w) A (forTests ifs true E) (fun ok s₃ =>
            if ok = true then wpAny (model prog w) A (eval elt E) (fun x s₄ =>
              wpAny (model prog w) A (call (.builtin "list.append") [acc, x]) (fun _ s₅ => ∃ m, m < n ∧ I m s₅) Ex s₄) Ex s₃
            else ∃ m, m < n ∧ I m s₃) Ex s₂) Ex s₁') Ex s₁) Ex s)
    (n : Nat) (h : I n s) : codeAny (model prog w) A (.compLoop e d it acc E) R s := by
  refine codeAny_loop hq I (fun n s hI => ?_) n h
  rw [hu, hden]
  refine wpAny_noted ?_
  rw [hturn]
  refine wpAny_bind (wpAny_standAt (wpAny_bind (wpAny_mono (turn n s _ hI) (fun r s₁ h₁ => ?_) fun _ _ h' => h')))
  cases r with
  | none => exact wpAny_pure h₁
  | some v =>
    refine wpAny_bind (wpAny_mono h₁ (fun _ s₁' h₁' => ?_) fun _ _ h' => h')
    refine wpAny_bind (wpAny_mono h₁' (fun _ s₂ h₂ => wpAny_bind (wpAny_mono h₂ (fun ok s₃ h₃ => ?_) fun _ _ h' => h')) fun _ _ h' => h')
    cases ok with
    | false => exact wpAny_pure ⟨rfl, h₃⟩
    | true =>
      exact wpAny_bind (wpAny_bind (wpAny_mono h₃ (fun x s₄ h₄ => wpAny_bind (wpAny_mono h₄ (fun _ s₅ h₅ => wpAny_pure (wpAny_pure ⟨rfl, h₅⟩)) fun _ _ h' => h')) fun _ _ h' => h'))

inductive LoopGo (I D : Addr) (src : V × List V) (step : V → Hp → Rs (List V)) (Lf : List V) (hpe : Hp) (m : Nat) (W : Wd) (h : Heap) (hp : Hp) : Prop
  | mk (j : Nat) (l0 l : List V) (hm : m = src.2.length - j) (hj : j ≤ src.2.length) (it : ItAt W h I src j) (acc : AccAt W h D l0) (hc : compL step (src.2.drop j) hp = some (l, hpe)) (hL : l0 ++ l = Lf)
/-- where a comprehension's loop stands -/
structure LoopAt (prog : Program) (w : World) (H : Heap) (st sc : Nm) (E : Env) (own : List Addr) (base : En) (I D : Addr) (src : V × List V) (W0 : Wd) (s0 : Shared) (step : V → Hp → Rs (List V)) (Lf : List V) (hpe : Hp) (m : Nat) (W : Wd) (s : Shared) (hp : Hp) : Prop where
  ext : Ext (I :: D :: own) W0 s0 W s
  wr : WR prog w H W hp s.heap
  ok : EnvOK st sc E own base W s.heap
  sd : StandsI hp src
  go : LoopGo I D src step Lf hpe m W s.heap hp
  fI : Free own E W I
  fD : Free own E W D

theorem guardS {α : Type} {Pp : Bool} {x : Option α} {y : α} (h : guardR Pp x = some y) : Pp = true ∧ x = some y := by
  unfold guardR at h
  exact iteS h

theorem loop_last {A : Around} {R : Result → Shared → Prop} (ihe : ∀ {sc e env hp v hp'}, evE cx Φ n sc e env hp = some (v, hp') → TrV prog w H k sc env hp (eval e) v hp') (iht : ∀ {sc es env hp b hp'}, tsts cx Φ n sc es env hp = some (b, hp') → TrB prog w H k sc env hp (forTests es true) b hp') (rm : Room k A)
    {e : Expr} {d : Nat} {t iter : Expr} {ifs : List Expr} {elt : Expr} {I D : Addr} (hne : I ≠ D) (hq : Code.quiet (.compLoop e d (.ref I) (.ref D) E) = true) (hu : A.under (.compLoop e d (.ref I) (.ref D) E) = A)
    (hden : (model prog w).den (.compLoop e d (.ref I) (.ref D) E) = (compTurn e d (.ref I) (.ref D) E).onRaise (fun x => do noteFrame x E; theTreesLotGoes x))
    (hturn : compTurn e d (.ref I) (.ref D) E = (do
      standAt iter.pos
      match ← pyNext (.ref I) with
      | none => pure (.done .next)
      | some v =>
        letOwnedTupleGo t (.ref I) v
        assign t E v
        let mut ok := true
        for c in ifs do
          if ok then ok ← isTrue c E (eval c E)
        if ok then
          (do let _ ← call (.builtin "list.append") [.ref D, ← eval elt E])
        again (.compLoop e d (.ref I) (.ref D) E)))
    {base : En} {src : V × List V} {W0 : Wd} {s0 : Shared} {Lf : List V} {hpe : Hp} (hI0 : s0.heap.get? I = none) (hz : Lf.length ≤ lineMax)
    {m : Nat} (h : LoopAt prog w H st sc E own base I D src W0 s0 (fun v hq => (bindC st t v base).bind fun en => (tsts cx Φ n sc ifs en hq).bind fun (b, hq1) =>
        if b then (evE cx Φ n sc elt en hq1).bind fun (x, hq2) => guardR (stands src.1 src.2 hq2) (some ([x], hq2))
        else guardR (stands src.1 src.2 hq1) (some ([], hq1))) Lf hpe m W s hp)
    (post : ∀ W' s', Ext (D :: own) W0 s0 W' s' → WR prog w H W' hpe s'.heap → EnvOK st sc E own base W' s'.heap → Free own E W' D → AccAt W' s'.heap D Lf → R (.ok .next) s') :
    codeAny (model prog w) A (.compLoop e d (.ref I) (.ref D) E) R s := by
  refine genF (P := fun F => LoopAt prog w H st sc E own base I D src W0 s0 F Lf hpe m W s hp) h ?_
  clear h
  intro step hstep h
  refine compLast_rule hq hu hden hturn (fun m s => ∃ W hp, LoopAt prog w H st sc E own base I D src W0 s0 step Lf hpe m W s hp) (fun m s Ex hI => ?_) m ⟨W, hp, h⟩
  refine hide fun g_ t_ => ?_
  obtain ⟨W, hp, h⟩ := hI
  obtain ⟨j, l0, l, rfl, hj, it, acc, hc, hL⟩ := h.go
  refine t_ ?_; clear t_ g_
  cases hu : src.2[j]? with
  | none =>
    have hd : src.2.drop j = [] := List.drop_eq_nil_iff.mpr (List.getElem?_eq_none_iff.mp hu)
    rw [hd] at hc
    refine hide fun g_ t_ => ?_
    obtain ⟨rfl, rfl⟩ := so hc
    rw [List.append_nil] at hL
    subst hL
    refine t_ ?_; clear t_ g_
    refine end_ok h.wr rm.hd it h.sd hu fun s1 kp hs => ?_
    refine hide fun g_ t_ => ?_
    obtain ⟨vs, kk, q1, q2⟩ := acc
    refine t_ ?_; clear t_ g_
    refine post W s1 (h.ext.dropEnd hI0 hs kp) ?_ (h.ok.but h.fI.o h.fI.c kp) h.fD ⟨vs, kk, kp D _ (Ne.symm hne) q1, q2⟩
    exact h.wr.but h.fI.J h.fI.R kp
  | some u =>
    have hlt : j < src.2.length := (List.getElem?_eq_some_iff.mp hu).1
    have hd : src.2.drop j = u :: src.2.drop (j + 1) := by
      rw [List.drop_eq_getElem_cons hlt]
      have : src.2[j] = u := by rw [List.getElem?_eq_getElem hlt] at hu; exact Option.some.inj hu
      rw [this]
    rw [hd] at hc
    refine bd2 hc ?_; clear hc; intro la hpa hc1 hc
    refine bd2 hc ?_; clear hc; intro lb hpb hc2 hc
    refine hide fun g_ t_ => ?_
    obtain ⟨rfl, rfl⟩ := so hc
    refine t_ ?_; clear t_ g_
    rw [hstep] at hc1
    refine bd1 hc1 ?_; clear hc1; intro en hb1 hc1
    refine bd2 hc1 ?_; clear hc1; intro b hq1 ht hc1
    obtain ⟨hb2, hsub⟩ := bindC_ok hb1
    refine next_ok h.wr h.fI.J h.fI.R it h.sd hu fun v s1 kp1 e1 wr1 it1 hv => ?_
    have ok1 := h.ok.but h.fI.o h.fI.c kp1
    have aD : ∃ o, s.heap.get? D = some o := acc.alive
    have aI : ∃ o, s.heap.get? I = some o := it.alive
    have acc1 : AccAt W s1.heap D l0 := acc.ext h.fD e1 (by simpa using Ne.symm hne)
    refine owned_ok it1 ?_
    refine assign_ok rm.hd hb2 hv wr1 ok1 fun s2 e2 wr2 ok2 => ?_
    have acc2 : AccAt W s2.heap D l0 := acc1.ext h.fD e2 h.fD.o
    have it2 : ItAt W s2.heap I src (j + 1) := it1.at (.refl _) fun o q => e2.keep I o h.fI.o h.fI.R q
    refine iht ht st E own W s2 A _ Ex wr2 ok2 rm fun W3 s3 a e3 wr3 ea => ?_
    subst ea
    have ext3 : Ext (I :: D :: own) W0 s0 W3 s3 := ((h.ext.trans (e1.more (by simp))).trans (e2.more (by intro b hb; simp [hb]))).trans (e3.more (by simp))
    have acc3 : AccAt W3 s3.heap D l0 := acc2.ext h.fD e3 (by simp)
    have it3 : ItAt W3 s3.heap I src (j + 1) := it2.at e3.le fun o q => e3.keep I o (by simp) h.fI.R q
    have fI3 : Free own E W3 I := h.fI.ext e3 it2.alive
    have fD3 : Free own E W3 D := h.fD.ext e3 acc2.alive
    have ok3 := ok2.ext e3
    cases a with
    | false =>
      refine hide fun g_ t_ => ?_
      obtain ⟨hst, hc1⟩ := guardS hc1
      obtain ⟨rfl, rfl⟩ := so hc1
      refine t_ ?_; clear t_ g_
      exact ⟨src.2.length - (j + 1), by omega, W3, _, ext3, wr3, ok3.sub hsub, stands_I rfl h.sd hst, ⟨j + 1, l0, lb, rfl, hlt, it3, acc3, hc2, hL⟩, fI3, fD3⟩
    | true =>
      refine bd2 hc1 ?_; clear hc1; intro x hq2 he hc1
      refine hide fun g_ t_ => ?_
      obtain ⟨hst, hc1⟩ := guardS hc1
      obtain ⟨rfl, rfl⟩ := so hc1
      refine t_ ?_; clear t_ g_
      rw [if_pos rfl]
      refine ihe he st E own W3 s3 A _ Ex wr3 ok3 rm fun W4 s4 xv e4 wr4 hx => ?_
      have acc4 : AccAt W4 s4.heap D l0 := acc3.ext fD3 e4 (by simp)
      have it4 : ItAt W4 s4.heap I src (j + 1) := it3.at e4.le fun o q => e4.keep I o (by simp) fI3.R q
      have fI4 : Free own E W4 I := fI3.ext e4 it3.alive
      have fD4 : Free own E W4 D := fD3.ext e4 acc3.alive
      refine hide fun g_ t_ => ?_
      obtain ⟨vs, kk, q1, q2⟩ := acc4
      refine t_ ?_; clear t_ g_
      have hlen : l0.length ≤ lineMax := by
        have : Lf.length = l0.length + ([x] ++ lb).length := by rw [← hL, List.length_append]
        omega
      refine accPush q1 (by rw [q2.length]; exact size1000 hlen) fun h5 kk5 g5 sb5 => ?_
      have kp5 : ∀ b o, b ≠ D → s4.heap.get? b = some o → h5.get? b = some o := fun b o hb q => (sb5.2 b hb).trans q
      have e5 : Ext (I :: D :: own) W4 s4 W4 { s4 with heap := h5 } := Ext.but D (by simp) kp5 ⟨_, g5⟩
      refine ⟨src.2.length - (j + 1), by omega, W4, hq2, (ext3.trans (e4.more (by simp))).trans e5, wr4.but fD4.J fD4.R kp5, ((ok3.ext e4).but fD4.o fD4.c kp5).sub hsub, stands_I rfl h.sd hst, ⟨j + 1, l0 ++ [x], lb, rfl, hlt, it4.at (.refl _) fun o q => kp5 I o hne q, ⟨_, _, g5, q2.snoc hx⟩, hc2, ?_⟩, fI4, fD4⟩
      rw [← hL]; simp
end
end Mine
end

section
open PySem PySem.W PyProof.Rows PySem.Spec PySem.SeqAt PySem.Calls
namespace Mine
section
variable {prog : Program} {w : World} {H : Heap} {cx : Cx} {Φ : Call} {st sc : Nm} {E : Env} {own : List Addr} {env : En} {W W' : Wd} {hp : Hp} {k n : Nat} {s s' : Shared}

/-- from here on the object does not change -/
theorem WR.seal {h : Heap} (x : WR prog w H W hp h) {D : Addr} {o : Obj} (hJ : W.J D = none) (hR : ∀ i, i < W.n → W.ρ i ≠ D) (hD : h.get? D = some o) : WR prog w H (W.add D o) hp h := by
  have le : W.Le (W.add D o) := Wd.le_add hJ
  refine ⟨x.n_eq, fun b ob e => le.J _ _ (x.base b ob e), fun b ob e => ?_, fun i hi => ?_, x.inj, fun i ob e => (x.ob i ob e).mono le fun _ q => q⟩
  · change (if b = D then some o else W.J b) = some ob at e
    by_cases z : b = D
    · rw [if_pos z] at e; cases e; subst z; exact hD
    · rw [if_neg z] at e; exact x.jle b ob e
  · show (if W.ρ i = D then some o else W.J (W.ρ i)) = none
    rw [if_neg (hR i hi)]; exact x.jr i hi
theorem Ext.seal {own : List Addr} {D : Addr} {o : Obj} (e : Ext own W s W' s') (h0 : s.heap.get? D = none) (hJ : W'.J D = none) : Ext own W s (W'.add D o) s' := by
  refine ⟨e.le.trans (Wd.le_add hJ), e.same, e.keep, e.alive, fun b ob q1 q2 => ?_, e.freshR⟩
  change (if b = D then some o else W'.J b) = some ob at q2
  by_cases z : b = D
  · subst z; exact h0
  · rw [if_neg z] at q2; exact e.freshJ b ob q1 q2

theorem newAcc {A : Around} {Q : Value → Shared → Prop} {Ex : Value → Shared → Prop} (h : Q (.ref s.heap.objs.size) { s with heap := s.heap.push (lstO [] 0) }) : wpAny (model prog w) A (newList []) Q Ex s := wpAny_newObj_type h

/-- the end of a comprehension -/
theorem comp_end {own' : List Addr} {CE : Env} {D : Addr} {L : List V} {hpe : Hp} {RR : Value → Addr → Result → Shared → Prop} {s1 : Shared} {W1 : Wd}
    (hQ : ∀ W' s' acc C m, Ext [] W s W' s' → WR prog w H W' hpe s'.heap → VR W' acc (.lst L) → s'.heap.Ns C m → s.heap.get? C = none → W'.J C = none → (∀ i, i < W'.n → W'.ρ i ≠ C) → RR acc C (.ok .next) s')
    (e1 : Ext [] W s W1 s1) (e2 : Ext (D :: own') W1 s1 W' s') (wr : WR prog w H W' hpe s'.heap) (ok : EnvOK st sc CE own' env W' s'.heap) (fD : Free own' CE W' D) (acc : AccAt W' s'.heap D L) (hD0 : s.heap.get? D = none) (hown : ∀ a ∈ own', s.heap.get? a = none) :
    RR (.ref D) CE.locals (.ok .next) s' := by
  obtain ⟨vs, kk, q1, q2⟩ := acc
  obtain ⟨m, hm, _⟩ := ok.ns
  have hC : CE.locals ≠ D := fun z => fD.o (z ▸ ok.locO)
  refine hQ (W'.add D (lstO vs kk)) s' (.ref D) CE.locals m ?_ (wr.seal fD.J fD.R q1) (.lst Wd.add_self (q2.mono (Wd.le_add fD.J))) hm (hown _ ok.locO) ?_ (fun i hi => ok.ownR _ ok.locO i hi)
  · have e12 : Ext (D :: own') W s W' s' := (e1.more (by simp)).trans e2
    refine Ext.seal (e12.drop fun b hb _ => ?_) hD0 fD.J
    rcases List.mem_cons.mp hb with rfl | hb
    · exact hD0
    · exact hown b hb
  · show (if CE.locals = D then some (lstO vs kk) else W'.J CE.locals) = none
    rw [if_neg hC]; exact ok.ownJ _ ok.locO

/-- the start of a comprehension: what is walked, its iterator, the new list, the new frame -/
theorem comp_start {A : Around} {Ex : Value → Shared → Prop} (rm : Room k A) {it : Expr} {src : V × List V} {hp1 hpe : Hp} {L : List V} {scope : Scope} (hs : ScOk scope sc env)
    (hit : Tr prog w H k sc env hp (eval it) (fun W h a b => RI W hp1 h a b) src hp1) (wr : WR prog w H W hp s.heap) (x0 : EnvOK st sc E own env W s.heap) {G : Value → Value → Env → Shared → Prop} {RR : Value → Addr → Result → Shared → Prop}
    (hQ : ∀ W' s' acc C m, Ext [] W s W' s' → WR prog w H W' hpe s'.heap → VR W' acc (.lst L) → s'.heap.Ns C m → s.heap.get? C = none → W'.J C = none → (∀ i, i < W'.n → W'.ρ i ≠ C) → RR acc C (.ok .next) s')
    (h : ∀ (I D : Addr) (CE : Env) (cenv : Env) (own' : List Addr) (W1 : Wd) (s1 s4 : Shared), CE = { cenv with scope := relabel scope E } → I ≠ D → s1.heap.get? I = none → Ext (I :: D :: own') W1 s1 W1 s4 → WR prog w H W1 hp1 s4.heap → EnvOK scope.names (relab scope.names sc) CE own' (captured scope.names env) W1 s4.heap → StandsI hp1 src → ItAt W1 s4.heap I src 0 →
      AccAt W1 s4.heap D [] → Free own' CE W1 I → Free own' CE W1 D → (∀ W' s', Ext (D :: own') W1 s1 W' s' → WR prog w H W' hpe s'.heap → EnvOK scope.names (relab scope.names sc) CE own' (captured scope.names env) W' s'.heap → Free own' CE W' D → AccAt W' s'.heap D L → RR (.ref D) CE.locals (.ok .next) s') → G (.ref I) (.ref D) cenv s4) :
    wpAny (model prog w) A (eval it E) (fun x s₁ => wpAny (model prog w) A (pyIter x) (fun it s₂ => wpAny (model prog w) A (newList []) (fun acc s₃ =>
      wpAny (model prog w) A (newFunctionEnv scope E.globals (closL E scope.names []) [] E.qual none .none (some E)) (fun cenv s₄ => G it acc cenv s₄) Ex s₃) Ex s₂) Ex s₁) Ex s := by
  refine hit st E own W s A _ Ex wr x0 rm fun W1 s1 a e1 wr1 ri => ?_
  refine iter_ok wr1 ri fun s2 kp2 e2 wr2 it2 sd => newAcc ?_
  have kp3 : ∀ b o, s2.heap.get? b = some o → (s2.heap.push (lstO [] 0)).get? b = some o := fun b o e => Heap.get?_push_of_some _ e
  have e3 : Ext [] W1 s2 W1 { s2 with heap := s2.heap.push (lstO [] 0) } := .grow [] kp3
  have x1 := x0.ext e1
  have x3 := (x1.ext e2).ext e3
  have wr3 : WR prog w H W1 hp1 (s2.heap.push (lstO [] 0)) := wr2.grow kp3
  refine compEnv_ok (s := { s2 with heap := s2.heap.push (lstO [] 0) }) hs wr3 x3 fun cenv own' s4 kp4 hs4 ok4 ownN cellN => ?_
  have e4 : Ext [] W1 { s2 with heap := s2.heap.push (lstO [] 0) } W1 s4 := by
    obtain ⟨h4, rfl⟩ := hs4
    exact .grow [] kp4
  have hI1 : s1.heap.get? s1.heap.objs.size = none := fresh_size _
  have aI2 : ∃ o, s2.heap.get? s1.heap.objs.size = some o := it2.alive
  have hD2 : s2.heap.get? s2.heap.objs.size = none := fresh_size _
  have hID : s1.heap.objs.size ≠ s2.heap.objs.size := fun z => by
    obtain ⟨o, ho⟩ := aI2
    rw [z, hD2] at ho; (first | exact nos ho | exact nof ho | exact nos2 ho | exact nof2 ho | cases ho)
  have aD3 : (s2.heap.push (lstO [] 0)).get? s2.heap.objs.size = some (lstO [] 0) := Heap.get?_push_size _ rfl
  have cellAlive : ∀ y c, E.cells.lookup y = some c → ∃ o, s1.heap.get? c = some o := fun y c hc => by
    obtain ⟨⟨v, o, ho, _⟩, _⟩ := x1.cellA y c hc
    exact ⟨o, ho⟩
  have fI : Free own' { cenv with scope := relabel scope E } W1 s1.heap.objs.size := by
    refine ⟨wr1.noneJ hI1, fun i hi => wr1.neR hI1 hi, fun hm => ?_, fun y c hc z => ?_⟩
    · obtain ⟨o, ho⟩ := aI2
      have := ownN _ hm
      rw [kp3 _ _ ho] at this; (first | exact nos this | exact nof this | exact nos2 this | exact nof2 this | cases this)
    · by_cases hm : c ∈ own'
      · obtain ⟨o, ho⟩ := aI2
        have := ownN _ hm
        rw [z, kp3 _ _ ho] at this; (first | exact nos this | exact nof this | exact nos2 this | exact nof2 this | cases this)
      · obtain ⟨y', hy⟩ := cellN y c hc hm
        obtain ⟨o, ho⟩ := cellAlive y' c hy
        rw [z, hI1] at ho; (first | exact nos ho | exact nof ho | exact nos2 ho | exact nof2 ho | cases ho)
  have fD : Free own' { cenv with scope := relabel scope E } W1 s2.heap.objs.size := by
    refine ⟨wr2.noneJ hD2, fun i hi => wr2.neR hD2 hi, fun hm => ?_, fun y c hc z => ?_⟩
    · have := ownN _ hm
      rw [aD3] at this; (first | exact nos this | exact nof this | exact nos2 this | exact nof2 this | cases this)
    · by_cases hm : c ∈ own'
      · have := ownN _ hm
        rw [z, aD3] at this; (first | exact nos this | exact nof this | exact nos2 this | exact nof2 this | cases this)
      · obtain ⟨y', hy⟩ := cellN y c hc hm
        obtain ⟨o, ho⟩ := cellAlive y' c hy
        have := kp2 _ _ ho
        rw [z, hD2] at this; (first | exact nos this | exact nof this | exact nos2 this | exact nof2 this | cases this)
  have dead : ∀ b, s1.heap.get? b = none → s.heap.get? b = none := fun b hb => by
    cases q : s.heap.get? b with
    | none => rfl
    | some o => obtain ⟨o', q'⟩ := e1.alive b o q; rw [hb] at q'; cases q'
  have dead2 : ∀ b, s2.heap.get? b = none → s1.heap.get? b = none := fun b hb => by
    cases q : s1.heap.get? b with
    | none => rfl
    | some o => rw [kp2 b o q] at hb; (first | exact nos hb | exact nof hb | exact nos2 hb | exact nof2 hb | cases hb)
  have dead3 : ∀ b, (s2.heap.push (lstO [] 0)).get? b = none → s2.heap.get? b = none := fun b hb => by
    cases q : s2.heap.get? b with
    | none => rfl
    | some o => rw [kp3 b o q] at hb; (first | exact nos hb | exact nof hb | exact nos2 hb | exact nof2 hb | cases hb)
  refine h _ _ _ cenv own' W1 s1 s4 rfl hID hI1 (((e2.trans e3).trans e4).more (by simp)) (e4.weaken (own := []) |> fun _ => wr3.grow kp4) ok4 sd (it2.at (.refl _) fun o q => kp4 _ _ (kp3 _ _ q)) ⟨[], 0, kp4 _ _ aD3, .nil⟩ fI fD fun W' s' ex wr' ok' fD' acc' => ?_
  exact comp_end hQ e1 ex wr' ok' fD' acc' (dead _ (dead2 _ hD2)) fun b hb => dead _ (dead2 _ (dead3 _ (ownN b hb)))

theorem step_c1 (ihe : ∀ {sc e env hp v hp'}, evE cx Φ n sc e env hp = some (v, hp') → TrV prog w H k sc env hp (eval e) v hp') (iht : ∀ {sc es env hp b hp'}, tsts cx Φ n sc es env hp = some (b, hp') → TrB prog w H k sc env hp (forTests es true) b hp')
    (ihi : ∀ {sc e env hp sl hp'}, evI cx Φ n sc e env hp = some (sl, hp') → (∀ E x, foldedSetIterable e E x = pure x) ∧ sl.2.length ≤ lineMax ∧ Tr prog w H k sc env hp (eval e) (fun W h a b => RI W hp' h a b) sl hp')
    {elt t it : Expr} {ifs : List Expr} {scope : Scope} {v : V} {hp' : Hp} (hso : scOk scope sc env = true)
    (h : ((evI cx Φ n sc it env hp).bind fun (sl, hp1) =>
      (compL (fun v hq => (bindC scope.names t v (captured scope.names env)).bind fun en => (tsts cx Φ n (relab scope.names sc) ifs en hq).bind fun (b, hq1) =>
        if b then (evE cx Φ n (relab scope.names sc) elt en hq1).bind fun (x, hq2) => guardR (stands sl.1 sl.2 hq2) (some ([x], hq2))
        else guardR (stands sl.1 sl.2 hq1) (some ([], hq1))) sl.2 hp1).bind fun (l, hp2) => if l.length ≤ lineMax then some (V.lst l, hp2) else Option.none) = some (v, hp')) (pos : Pos) :
    CompTr prog w H k elt [⟨t, it, ifs, 0⟩] scope pos sc env hp v hp' := by
  refine bd2 h ?_; clear h; intro src hp1 h1 h
  refine bd2 h ?_; clear h; intro l hp2 h2 h
  refine iteSE h ?_; clear h; intro hz h
  refine soE h ?_; clear h
  obtain ⟨hf, hzs, tr⟩ := ihi h1
  have hs := scOk_ok hso
  refine ⟨hs.kind, fun x hx hl => (hs.here x hx (.inl hl)).trans (by rw [hl]), _, _, rfl, rfl, hf, fun st E own W s A RR Ex wr x0 rm hQ => ⟨closL E scope.names [], closureFor_ok (free_cells x0 hs.free), ?_⟩⟩
  refine comp_start (G := fun it' acc cenv s₄ => codeAny (model prog w) A (.compStart (.ListComp elt [⟨t, it, ifs, 0⟩] scope pos) 0 it' acc { cenv with scope := relabel scope E }) (RR acc cenv.locals) s₄) rm hs tr wr x0 hQ ?_
  rintro I D CE cenv own' W1 s1 s4 hCE hID hI1 ex wr4 ok4 sd it4 acc4 fI fD post
  rw [← hCE]
  have hloc : cenv.locals = CE.locals := by rw [hCE]
  rw [hloc]
  have lp : codeAny (model prog w) A (.compLoop (.ListComp elt [⟨t, it, ifs, 0⟩] scope pos) 0 (.ref I) (.ref D) CE) (RR (.ref D) CE.locals) s4 :=
    loop_last ihe iht rm hID rfl rfl rfl rfl hI1 hz ⟨ex, wr4, ok4, sd, ⟨0, [], l, rfl, Nat.zero_le _, it4, acc4, h2, rfl⟩, fI, fD⟩ post
  exact codeAny_compStart_list lp (self_ok it4 lp)
end
end Mine
end

section
open PySem PySem.W PyProof.Rows PySem.Spec PySem.SeqAt PySem.Calls
namespace Mine
section
variable {prog : Program} {w : World} {K : Frag} {H : Heap} {cx : Cx} {Φ : Call} {st sc : Nm} {E : Env} {own : List Addr} {env : En} {W W' : Wd} {hp : Hp} {k n : Nat} {s s' : Shared}

/-- a turn of the first clause of two -/
theorem compFirst_rule {A : Around} {R : Result → Shared → Prop} {e : Expr} {t iter it' : Expr} {it acc : Value} (hq : Code.quiet (.compLoop e 0 it acc E) = true) (hu : A.under (.compLoop e 0 it acc E) = A)
    (hden : (model prog w).den (.compLoop e 0 it acc E) = (compTurn e 0 it acc E).onRaise (fun x => do noteFrame x E; theTreesLotGoes x))
    (hturn : compTurn e 0 it acc E = (do
      standAt iter.pos
      match ← pyNext it with
      | none => pure (.done .next)
      | some v =>
        letOwnedTupleGo t it v
        assign t E v
        let x ← eval it' E
        standAt it'.pos
        let x ← foldedSetIterable it' E x
        let _ ← runOwn (.compStart e 1 (← holding [x] (pyIter x)) acc E) E
        again (.compLoop e 0 it acc E)))
    (hf : ∀ x, foldedSetIterable it' E x = pure x) (I : Nat → Shared → Prop)
    (turn : ∀ n s Ex, I n s → wpAny (model prog w) A (pyNext it) (fun r s₁ => match r with
      | none => R (.ok .next) s₁
      | some v => wpAny (model prog w) A (letOwnedTupleGo t it v) (fun _ s₁' => wpAny (model prog w) A (assign t E v) (fun _ s₂ =>
          wpAny (model prog w) A (eval it' E) (fun x s₃ => wpAny (model prog w) A (pyIter x) (fun i s₄ => ∀ RR : Result → Shared → Prop, (∀ s₅, (∃ m, m < n ∧ I m s₅) → RR (.ok .next) s₅) → codeAny (model prog w) A (.compStart e 1 i acc E) RR s₄) Ex s₃) Ex s₂) Ex s₁') Ex s₁) Ex s)
    (n : Nat) (h : I n s) : codeAny (model prog w) A (.compLoop e 0 it acc E) R s := by
  refine codeAny_loop hq I (fun n s hI => ?_) n h
  rw [hu, hden]
  refine wpAny_noted ?_
  rw [hturn]
  refine wpAny_bind (wpAny_standAt (wpAny_bind (wpAny_mono (turn n s _ hI) (fun r s₁ h₁ => ?_) fun _ _ h' => h')))
  cases r with
  | none => exact wpAny_pure h₁
  | some v =>
    refine wpAny_bind (wpAny_mono h₁ (fun _ s₁' h₁' => ?_) fun _ _ h' => h')
    refine wpAny_bind (wpAny_mono h₁' (fun _ s₂ h₂ => ?_) fun _ _ h' => h')
    refine wpAny_bind (wpAny_mono h₂ (fun x s₃ h₃ => wpAny_bind (wpAny_standAt ?_)) fun _ _ h' => h')
    refine wpAny_bind (wpAny_of_eq (hf x) (wpAny_bind (wpAny_holding (wpAny_mono h₃ (fun i s₄ h₄ => ?_) fun _ _ h' => h'))))
    refine wpAny_bind (wpAny_runOwn (h := none) ?_)
    exact h₄ _ fun s₅ h₅ => wpAny_pure ⟨rfl, h₅⟩

theorem compStart1 {A : Around} {R : Result → Shared → Prop} {elt : Expr} {g1 : Comprehension} {t it : Expr} {ifs : List Expr} {scope : Scope} {pos : Pos} {i acc : Value}
    (h0 : codeAny (model prog w) A (.compLoop (.ListComp elt [g1, ⟨t, it, ifs, 0⟩] scope pos) 1 i acc E) R s)
    (h : ∀ Ex, wpAny (model prog w) A (pyIter i) (fun it' s' => codeAny (model prog w) A (.compLoop (.ListComp elt [g1, ⟨t, it, ifs, 0⟩] scope pos) 1 it' acc E) R s') Ex s) :
    codeAny (model prog w) A (.compStart (.ListComp elt [g1, ⟨t, it, ifs, 0⟩] scope pos) 1 i acc E) R s := by
  refine codeAny_of_tree ?_
  show wpAny _ _ ((compStart (.ListComp elt [g1, ⟨t, it, ifs, 0⟩] scope pos) 1 i acc E).onRaise (fun x => do noteFrame x E; standAt theWindowsPlace)) _ _ s
  refine wpAny_notedAt ?_
  unfold compStart
  show wpAny _ _ (ask >>= _) _ _ s
  refine wpAny_bind (wpAny_askSetting (wpAny_ite ?_))
  split
  · first
      | exact wpAny_bind (wpAny_pure (wpAny_pure (And.intro rfl h0)))
      | exact wpAny_pure (And.intro rfl h0)
  · first
      | exact wpAny_bind (wpAny_rule (wpAny_bind (wpAny_standAt (wpAny_bind (wpAny_mono (h _) (fun it' s' h' => wpAny_pure (And.intro rfl h')) fun _ _ x => x)))))
      | (refine wpAny_bind (wpAny_rule ?_); show wpAny _ _ (standAt it.pos >>= _) _ _ s; exact wpAny_bind (wpAny_standAt (wpAny_bind (wpAny_mono (h _) (fun it' s' h' => wpAny_pure (And.intro rfl h')) fun _ _ x => x))))

theorem step_c2 (ihe : ∀ {sc e env hp v hp'}, evE cx Φ n sc e env hp = some (v, hp') → TrV prog w H k sc env hp (eval e) v hp') (iht : ∀ {sc es env hp b hp'}, tsts cx Φ n sc es env hp = some (b, hp') → TrB prog w H k sc env hp (forTests es true) b hp')
    (ihi : ∀ {sc e env hp sl hp'}, evI cx Φ n sc e env hp = some (sl, hp') → (∀ E x, foldedSetIterable e E x = pure x) ∧ sl.2.length ≤ lineMax ∧ Tr prog w H k sc env hp (eval e) (fun W h a b => RI W hp' h a b) sl hp')
    {elt t it t' it' : Expr} {ifs : List Expr} {scope : Scope} {v : V} {hp' : Hp} (hso : scOk scope sc env = true) (hpl : plainE it' = true)
    (h : ((evI cx Φ n sc it env hp).bind fun (sl, hp1) =>
      (compL (fun v hq => (bindC scope.names t v (captured scope.names env)).bind fun en => (evI cx Φ n (relab scope.names sc) it' en hq).bind fun (sl', hq1) =>
        (compL (fun u hr => (bindC scope.names t' u en).bind fun en' => (tsts cx Φ n (relab scope.names sc) ifs en' hr).bind fun (b, hr1) =>
          if b then (evE cx Φ n (relab scope.names sc) elt en' hr1).bind fun (x, hr2) => guardR (stands sl'.1 sl'.2 hr2) (some ([x], hr2))
          else guardR (stands sl'.1 sl'.2 hr1) (some ([], hr1))) sl'.2 hq1).bind fun (l, hqe) => guardR (stands sl.1 sl.2 hqe) (some (l, hqe))) sl.2 hp1).bind fun (l, hp2) => if l.length ≤ lineMax then some (V.lst l, hp2) else Option.none) = some (v, hp')) (pos : Pos) :
    CompTr prog w H k elt [⟨t, it, [], 0⟩, ⟨t', it', ifs, 0⟩] scope pos sc env hp v hp' := by
  refine bd2 h ?_; clear h; intro src hp1 h1 h
  refine bd2 h ?_; clear h; intro L hp2 h2 h
  refine iteSE h ?_; clear h; intro hz h
  refine soE h ?_; clear h
  refine genF (P := fun F => compL F src.2 hp1 = some (L, hp2)) h2 ?_
  clear h2
  intro F hF h2
  refine hide fun g_ t_ => ?_
  obtain ⟨hf, hzs, tr⟩ := ihi h1
  refine t_ ?_; clear t_ g_
  have hs := scOk_ok hso
  refine ⟨hs.kind, fun x hx hl => (hs.here x hx (.inl hl)).trans (by rw [hl]), _, _, rfl, rfl, hf, fun st E own W s A RR Ex wr x0 rm hQ => ⟨closL E scope.names [], closureFor_ok (free_cells x0 hs.free), ?_⟩⟩
  refine comp_start (G := fun i acc cenv s₄ => codeAny (model prog w) A (.compStart (.ListComp elt [⟨t, it, [], 0⟩, ⟨t', it', ifs, 0⟩] scope pos) 0 i acc { cenv with scope := relabel scope E }) (RR acc cenv.locals) s₄) rm hs tr wr x0 hQ ?_
  rintro I D CE cenv own' W1 s1 s4 hCE hID hI1 ex wr4 ok4 sd it4 acc4 fI fD post
  rw [← hCE]
  have hloc : cenv.locals = CE.locals := by rw [hCE]
  rw [hloc]
  have lp : codeAny (model prog w) A (.compLoop (.ListComp elt [⟨t, it, [], 0⟩, ⟨t', it', ifs, 0⟩] scope pos) 0 (.ref I) (.ref D) CE) (RR (.ref D) CE.locals) s4 := by
    refine compFirst_rule (it' := it') rfl rfl rfl rfl (fun x => folded_plain hpl CE x) (fun m s => ∃ W hp, LoopAt prog w H scope.names (relab scope.names sc) CE own' (captured scope.names env) I D src W1 s1 _ L hp2 m W s hp) (fun m s Ex hI => ?_) _ ⟨W1, hp1, ⟨ex, wr4, ok4, sd, ⟨0, [], L, rfl, Nat.zero_le _, it4, acc4, h2, rfl⟩, fI, fD⟩⟩
    refine hide fun g_ t_ => ?_
    obtain ⟨W, hp, h⟩ := hI
    obtain ⟨j, l0, l, rfl, hj, itj, acc, hc, hL⟩ := h.go
    refine t_ ?_; clear t_ g_
    cases hu : src.2[j]? with
    | none =>
      have hd : src.2.drop j = [] := List.drop_eq_nil_iff.mpr (List.getElem?_eq_none_iff.mp hu)
      rw [hd] at hc
      refine hide fun g_ t_ => ?_
      obtain ⟨rfl, rfl⟩ := so hc
      rw [List.append_nil] at hL
      subst hL
      refine t_ ?_; clear t_ g_
      refine end_ok h.wr rm.hd itj h.sd hu fun s1 kp hs => ?_
      refine hide fun g_ t_ => ?_
      obtain ⟨vs, kk, q1, q2⟩ := acc
      refine t_ ?_; clear t_ g_
      refine post W s1 (h.ext.dropEnd hI1 hs kp) ?_ (h.ok.but h.fI.o h.fI.c kp) h.fD ⟨vs, kk, kp D _ (Ne.symm hID) q1, q2⟩
      exact h.wr.but h.fI.J h.fI.R kp
    | some u =>
      have hlt : j < src.2.length := (List.getElem?_eq_some_iff.mp hu).1
      have hd : src.2.drop j = u :: src.2.drop (j + 1) := by
        rw [List.drop_eq_getElem_cons hlt]
        have : src.2[j] = u := by rw [List.getElem?_eq_getElem hlt] at hu; exact Option.some.inj hu
        rw [this]
      rw [hd] at hc
      refine bd2 hc ?_; clear hc; intro la hpa hc1 hc
      refine bd2 hc ?_; clear hc; intro lb hpb hc2 hc
      refine hide fun g_ t_ => ?_
      obtain ⟨rfl, rfl⟩ := so hc
      refine t_ ?_; clear t_ g_
      rw [hF] at hc1
      refine bd1 hc1 ?_; clear hc1; intro en hb1 hc1
      refine hide fun g_ t_ => ?_
      obtain ⟨⟨src', hq1⟩, ht, hc1⟩ := bd hc1
      refine t_ ?_; clear t_ g_
      refine bd2 hc1 ?_; clear hc1; intro li hqe hin hc1
      refine hide fun g_ t_ => ?_
      obtain ⟨hst, hc1⟩ := guardS hc1
      obtain ⟨rfl, rfl⟩ := so hc1
      obtain ⟨hb2, hsub⟩ := bindC_ok hb1
      refine t_ ?_; clear t_ g_
      refine next_ok h.wr h.fI.J h.fI.R itj h.sd hu fun v s1 kp1 e1 wr1 it1 hv => ?_
      have ok1 := h.ok.but h.fI.o h.fI.c kp1
      have acc1 : AccAt W s1.heap D l0 := acc.ext h.fD e1 (by simpa using Ne.symm hID)
      refine owned_ok it1 ?_
      refine assign_ok rm.hd hb2 hv wr1 ok1 fun s2 e2 wr2 ok2 => ?_
      have acc2 : AccAt W s2.heap D l0 := acc1.ext h.fD e2 h.fD.o
      have it2 : ItAt W s2.heap I src (j + 1) := it1.at (.refl _) fun o q => e2.keep I o h.fI.o h.fI.R q
      refine (ihi ht).2.2 scope.names CE own' W s2 A _ Ex wr2 ok2 rm fun W3 s3 a e3 wr3 ri => ?_
      have acc3 : AccAt W3 s3.heap D l0 := acc2.ext h.fD e3 (by simp)
      have it3 : ItAt W3 s3.heap I src (j + 1) := it2.at e3.le fun o q => e3.keep I o (by simp) h.fI.R q
      have fI3 : Free own' CE W3 I := h.fI.ext e3 it2.alive
      have fD3 : Free own' CE W3 D := h.fD.ext e3 acc2.alive
      have ok3 := ok2.ext e3
      refine iter_ok wr3 ri fun s4 kp4 e4 wr4 it4 sd4 RR' hRR => ?_
      have ok4 := ok3.ext e4
      have acc4 : AccAt W3 s4.heap D l0 := acc3.ext fD3 e4 (by simp)
      have itI4 : ItAt W3 s4.heap I src (j + 1) := it3.at (.refl _) fun o q => kp4 I o q
      have hI3 : s3.heap.get? s3.heap.objs.size = none := fresh_size _
      have ne : ∀ b, (∃ o, s3.heap.get? b = some o) → s3.heap.objs.size ≠ b := fun b ⟨o, q⟩ z => by rw [← z, hI3] at q; (first | exact nos q | exact nof q | exact nos2 q | exact nof2 q | cases q)
      have fI' : Free own' CE W3 s3.heap.objs.size := by
        refine ⟨wr3.noneJ hI3, fun i hi => wr3.neR hI3 hi, fun hm => ?_, fun y c hc z => ?_⟩
        · exact ne _ (ok3.ownA _ hm) rfl
        · obtain ⟨⟨v, o, ho, _⟩, _⟩ := ok3.cellA y c hc
          exact ne c ⟨o, ho⟩ z.symm
      have hneD : s3.heap.objs.size ≠ D := ne D acc3.alive
      have hneI : s3.heap.objs.size ≠ I := ne I it3.alive
      have lin : codeAny (model prog w) A (.compLoop (.ListComp elt [⟨t, it, [], 0⟩, ⟨t', it', ifs, 0⟩] scope pos) 1 (.ref s3.heap.objs.size) (.ref D) CE) RR' s4 := by
        refine loop_last (iter := it') (src := src') (Lf := l0 ++ li) (hpe := hqe) (W0 := W3) (s0 := s3) (base := en) ihe iht rm hneD rfl rfl rfl rfl hI3 ?_ ⟨e4.more (by simp), wr4, ok4, sd4, ⟨0, l0, li, rfl, Nat.zero_le _, it4, acc4, hin, rfl⟩, fI', fD3⟩ fun W5 s5 e5 wr5 ok5 fD5 acc5 => ?_
        · have : L.length = (l0 ++ li).length + lb.length := by rw [← hL]; simp [Nat.add_assoc]
          omega
        · refine hRR s5 ⟨_, ?_, W5, hqe, ?_, wr5, ok5.sub hsub, stands_I rfl h.sd hst, ⟨j + 1, l0 ++ li, lb, rfl, hlt, ?_, acc5, hc2, ?_⟩, ?_, fD5⟩
          · omega
          · refine (((h.ext.trans (e1.more (by simp))).trans (e2.more (by intro b hb; simp [hb]))).trans (e3.more (by simp))).trans (e5.more (by intro b hb; rcases List.mem_cons.mp hb with rfl | hb <;> simp [*]))
          · exact it3.at e5.le fun o q => e5.keep I o (by rw [List.mem_cons, not_or]; exact ⟨hID, fI3.o⟩) fI3.R q
          · rw [← hL]; simp
          · exact fI3.ext e5 it3.alive
      exact compStart1 lin fun Ex => self_ok it4 lin
  exact codeAny_compStart_list lp (self_ok it4 lp)

theorem step_c (ih : P prog w H cx Φ k n) : ∀ {sc elt gens scope env hp v hp'}, compV cx Φ (n + 1) sc elt gens scope env hp = some (v, hp') → ∀ pos, CompTr prog w H k elt gens scope pos sc env hp v hp' := by
  intro sc elt gens scope env hp v hp' h pos
  refine iteNE h ?_; clear h; intro hso h
  have hso : scOk scope sc env = true := by simpa using hso
  rcases gens with _ | ⟨⟨t, it, ifs, as⟩, _ | ⟨⟨t', it', ifs', as'⟩, _ | ⟨g, r⟩⟩⟩
  · (first | exact nos h | exact nof h | exact nos2 h | exact nof2 h | cases h)
  · refine iteSE h ?_; clear h; intro h0 h
    subst h0; exact step_c1 ih.e ih.ts ih.i hso h pos
  · cases ifs with
    | cons _ _ => exact nos h
    | nil =>
      refine iteSE h ?_; clear h; intro h0 h
      obtain ⟨rfl, rfl⟩ := h0
      refine iteNE h ?_; clear h; intro hpl h
      exact step_c2 ih.e ih.ts ih.i hso (by simpa using hpl) h pos
  · exact nos h

/-- all that the evaluator says of expressions is so -/
theorem P_all (hg : GoodCx prog w K H cx) (hc : CallOK prog w H Φ k) : ∀ n, P prog w H cx Φ k n := by
  have gen : ∀ n, ∀ j, j ≤ n → P prog w H cx Φ k j := by
    intro n
    induction n with
    | zero =>
      intro j hj
      have : j = 0 := Nat.le_zero.mp hj
      subst this
      exact ⟨fun h => (nomatch h), fun h => (nomatch h), fun h => (nomatch h), fun h => (nomatch h), fun h => (nomatch h), fun h => (nomatch h), fun h => (nomatch h), fun h => (nomatch h), fun h => (nomatch h), fun h => (nomatch h), fun h => (nomatch h)⟩
    | succ n ih =>
      intro j hj
      rcases Nat.lt_or_ge j (n + 1) with hlt | hge
      · exact ih j (Nat.le_of_lt_succ hlt)
      · have : j = n + 1 := Nat.le_antisymm hj hge
        subst this
        have p := ih n (Nat.le_refl n)
        exact ⟨step_e hg hc p, step_o p, step_es p, step_mt p, step_m hg ih, step_ms p, step_ch p, step_t p, step_ts p, step_i hg p, step_c p⟩
  exact fun n => gen n n (Nat.le_refl n)
end
end Mine
end

section
open PySem PySem.W PyProof.Rows PySem.Spec PySem.SeqAt PySem.Calls
namespace Mine
section
variable {prog : Program} {w : World} {K : Frag} {H : Heap} {cx : Cx} {Φ : Call} {st sc : Nm} {E : Env} {own : List Addr} {env : En} {W W' : Wd} {hp hp' : Hp} {k n : Nat} {s s' : Shared} {A : Around}

theorem setAttrV_ok (hg : GoodCx prog w K H cx) {a b : Value} {x z : V} {attr : Str} (wr : WR prog w H W hp s.heap) (va : VR W a x) (vb : VR W b z) (h : setAttrV cx hp x attr z = some hp') {Q : Unit → Shared → Prop} {Ex : Value → Shared → Prop}
    (hQ : ∀ W' s', Ext [] W s W' s' → WR prog w H W' hp' s'.heap → Q () s') : wpAny (model prog w) A (setAttr a attr b) Q Ex s := by
  unfold setAttrV at h
  split at h
  · rename_i C i
    split at h
    · rename_i fs hfs
      obtain ⟨⟨hz, hx⟩, h⟩ := iteS h
      (first | exact nos h | exact nof h | exact nos2 h | exact nof2 h | cases h)
      obtain ⟨l, hc, hm⟩ := fld_ok hg hx
      exact setAttr_ok hg.inK wr va hfs hc hm vb hz hQ
    · (first | exact nos h | exact nof h | exact nos2 h | exact nof2 h | cases h)
  · (first | exact nos h | exact nof h | exact nos2 h | exact nof2 h | cases h)

theorem asT_ok (hg : GoodCx prog w K H cx) (p : P prog w H cx Φ k n) {t : Expr} {u : V} {val : Value} (h : asT cx Φ n sc t u env hp = some hp') (hv : VR W val u) (wr : WR prog w H W hp s.heap) (x0 : EnvOK st sc E own env W s.heap) (rm : Room k A) {Q : Unit → Shared → Prop} {Ex : Value → Shared → Prop}
    (hQ : ∀ W' s', Ext [] W s W' s' → WR prog w H W' hp' s'.heap → Q () s') : wpAny (model prog w) A (assign t E val) Q Ex s := by
  cases t with
  | Attribute o attr q =>
    cases o with
    | Name o pp =>
      refine bd1 h ?_; clear h; intro ov h1 h
      rw [arm_assign_Attribute]
      refine wpAny_bind (wpAny_holding (name_ok x0 h1 fun ov' hv' => wpAny_bind (wpAny_standAt (wpAny_bind (wpAny_holding ?_)))))
      exact setAttrV_ok hg wr hv' hv h fun W' s' e wr' => wpAny_release (hQ W' s' e wr')
    | _ => (first | exact nos h | exact nof h | exact nos2 h | exact nof2 h | cases h)
  | Subscript o i q =>
    refine bd2 h ?_; clear h; intro ov hp1 h1 h
    refine bd2 h ?_; clear h; intro iv hp2 h2 h
    rw [arm_assign_Subscript]
    refine wpAny_bind (wpAny_holding (p.e h1 st E own W s A _ Ex wr x0 rm fun W1 s1 a e1 wr1 va => wpAny_bind (wpAny_holding (p.e h2 st E own W1 s1 A _ Ex wr1 (x0.ext e1) rm fun W2 s2 b e2 wr2 vb => wpAny_bind (wpAny_standAt (wpAny_bind (wpAny_holding ?_)))))))
    exact setSub_ok wr2 (va.mono e2.le) vb ((hv.mono e1.le).mono e2.le) h fun s3 e3 wr3 => wpAny_release (hQ W2 s3 ((e1.trans e2).trans e3) wr3)
  | _ => (first | exact nos h | exact nof h | exact nos2 h | exact nof2 h | cases h)

theorem tgt_filter (f : Str → Pos → Bool) : ∀ ts : List Expr, (ts.filterMap fun | .Name id pos => if f id pos = true then some id else none | _ => none).length = ts.length → tgtNames ts = some (ts.filterMap fun | .Name id pos => if f id pos = true then some id else none | _ => none)
  | [], _ => rfl
  | t :: r, hl => by
    have le := List.length_filterMap_le (fun | Expr.Name id pos => if f id pos = true then some id else none | _ => none) r
    cases t with
    | Name id pos =>
      rw [List.filterMap_cons] at hl ⊢
      dsimp only at hl ⊢
      by_cases hf : f id pos = true
      · simp only [hf, if_true, List.length_cons, Nat.add_right_cancel_iff] at hl ⊢
        show (tgtNames r).bind _ = _
        rw [tgt_filter f r hl]; rfl
      · simp only [hf] at hl
        simp only [List.length_cons, Bool.false_eq_true, if_false] at hl
        omega
    | _ =>
      rw [List.filterMap_cons] at hl
      dsimp only at hl
      simp only [List.length_cons] at hl
      omega
theorem swapped_cases {ts : List Expr} {kk : Nat} {pp : Pos} {e : Expr} (h : swapOk e = true) : swappedStores [.Tuple ts kk pp] e E = pure none ∨ ∃ names, swappedStores [.Tuple ts kk pp] e E = pure (some names) ∧ tgtNames ts = some names := by
  cases e with
  | Tuple vs k2 p2 =>
    have hc : vs.all (constantsAlone 8) = false := by simpa [swapOk] using h
    unfold swappedStores
    dsimp only
    simp only [hc, Bool.false_eq_true, if_false]
    split
    · exact .inl rfl
    · split
      · exact .inl rfl
      · split
        · exact .inl rfl
        · split
          · exact .inl rfl
          · refine .inr ⟨_, rfl, ?_⟩
            rename_i hlen _
            simp only [Bool.or_eq_true, bne_iff_ne, ne_eq, not_or, Decidable.not_not] at hlen
            exact tgt_filter (fun id pos => E.kindOf id == some .local && pos.line == (ts.head?.map (·.pos.line)).getD 0) ts hlen.1
  | _ => exact .inl rfl
end
end Mine
end

section
open PySem PySem.W PyProof.Rows PySem.Spec PySem.SeqAt PySem.Calls
namespace Mine
section
variable (prog : Program) (w : World) (K : Frag) (H : Heap) (cx : Cx) (Φ : Call) (k : Nat)

noncomputable def FlR (W : Wd) (f : Flow) : Fl → Prop
  | .next => f = .next
  | .ret v => ∃ val, f = .ret val ∧ VR W val v

noncomputable def TrS (sc : Nm) (env : En) (hp : Hp) (t : Env → Sem Flow) (fl : Fl) (env' : En) (hp' : Hp) : Prop :=
  ∀ (E : Env) (own : List Addr) (W : Wd) (s : Shared) (A : Around) (Q : Flow → Shared → Prop) (Ex : Value → Shared → Prop), WR prog w H W hp s.heap → EnvOK sc sc E own env W s.heap → Room k A →
    (∀ W' s' f, Ext own W s W' s' → WR prog w H W' hp' s'.heap → EnvOK sc sc E own env' W' s'.heap → FlR W' f fl → Q f s') → wpAny (model prog w) A (t E) Q Ex s

structure S (n : Nat) : Prop where
  s : ∀ {sc st env hp fl env' hp'}, exS cx Φ n sc st env hp = some (fl, env', hp') → TrS prog w H k sc env hp (exec st) fl env' hp'
  ss : ∀ {sc ss env hp fl env' hp'}, exSs cx Φ n sc ss env hp = some (fl, env', hp') → TrS prog w H k sc env hp (execs ss) fl env' hp'
end

section
variable {prog : Program} {w : World} {K : Frag} {H : Heap} {cx : Cx} {Φ : Call} {st sc : Nm} {E : Env} {own : List Addr} {env : En} {W W' : Wd} {hp hp' : Hp} {k n : Nat} {s s' : Shared} {A : Around}

@[elab_as_elim] theorem so3E {α β γ : Type} {C : α → β → γ → Prop} {a a' : α} {b b' : β} {c c' : γ} (h : some (a, b, c) = some (a', b', c')) (k : C a b c) : C a' b' c' := by cases h; exact k
theorem so3 {α β γ : Type} {a a' : α} {b b' : β} {c c' : γ} (h : some (a, b, c) = some (a', b', c')) : a = a' ∧ b = b' ∧ c = c' := by cases h; exact ⟨rfl, rfl, rfl⟩

theorem swaps_case (e : Expr) (x : Str) (p : Pos) (line : Nat) (E : Env) : (∃ b, swapsWith e (some (.Name x p)) line E = pure b) := by
  (first | exact nos e | exact nof e | exact nos2 e | exact nof2 e | cases e) <;> exact ⟨_, rfl⟩
theorem swaps_false {e : Expr} (x : Str) (p : Pos) (line : Nat) (E : Env) (h : swapsWith e (some (.Name x p)) line E = pure true) (hp : ∀ b : Bool, (pure false : Sem Bool) ≠ pure true) : (∃ a b c d, e = .ListComp a b c d) ∨ (∃ a b c d, e = .SetComp a b c d) ∨ ∃ a b c d f, e = .DictComp a b c d f := by
  (first | exact nos e | exact nof e | exact nos2 e | exact nof2 e | cases e) <;> first | exact .inl ⟨_, _, _, _, rfl⟩ | exact .inr (.inl ⟨_, _, _, _, rfl⟩) | exact .inr (.inr ⟨_, _, _, _, _, rfl⟩) | exact absurd h (hp true)

/-- a name assigned -/
theorem assign_name (P0 : ∀ n, P prog w H cx Φ k n) {x : Str} {e : Expr} {p pos : Pos} {v : V} (h : evM cx Φ n sc e env hp = some (v, hp')) (hm : mayStore sc x = true) : TrS prog w H k sc env hp (exec (.Assign [.Name x p] e pos)) .next (put x v env) hp' := by
  intro E own W s A Q Ex wr x0 rm hQ
  have plain : swapsWith e (some (.Name x p)) pos.line E = pure false → wpAny (model prog w) A (exec (.Assign [.Name x p] e pos) E) Q Ex s := fun hs =>
    wpAny_Assign_Name ((P0 n).m h sc E own W s A _ Ex wr x0 rm fun W1 s1 a e1 wr1 va => store_ok wr1 (x0.ext e1) hm va fun s2 e2 wr2 x2 => hQ W1 s2 .next (e1.weaken.trans e2) wr2 x2 rfl) hs
  obtain ⟨b, hb⟩ := swaps_case e x p pos.line E
  cases b with
  | false => exact plain hb
  | true =>
    cases e with
    | ListComp elt gens scope cp =>
      cases n with
      | zero => (first | exact nos h | exact nof h | exact nos2 h | exact nof2 h | cases h)
      | succ n =>
      cases n with
      | zero => (first | exact nos h | exact nof h | exact nos2 h | exact nof2 h | cases h)
      | succ n =>
      obtain ⟨hk, hn, g, gs, rfl, ha, hf, go⟩ := (P0 n).c (h : compV cx Φ n sc elt gens scope env hp = some (v, hp')) cp
      obtain ⟨t, it, ifs, as⟩ := g
      dsimp only at ha
      subst ha
      rw [exec_Assign_Name_used _ _ _ _ hb]
      refine wpAny_bind (wpAny_standAt (wpAny_bind ?_))
      show wpAny _ A (do let _ ← comprehension (.ListComp elt (⟨t, it, ifs, 0⟩ :: gs) scope cp) scope E _ (newList []) false (eval it E) (some (assign (.Name x p) E))) _ _ s
      obtain ⟨cl, hcl, hh⟩ := go sc E own W s A (fun acc C => compPost (model prog w) A Ex (some (assign (.Name x p) E)) (fun _ s' => Q .next s') acc C) Ex wr x0 rm fun W1 s1 acc C m e1 wr1 va hN hC hJ hR => by
        show wpAny _ A (assign (.Name x p) E acc) _ _ _
        have x1 := x0.ext e1
        have hCo : C ∉ own := fun hm => by
          obtain ⟨o, ho⟩ := x0.ownA C hm
          rw [hC] at ho; (first | exact nos ho | exact nof ho | exact nos2 ho | exact nof2 ho | cases ho)
        have hCc : ∀ y c, E.cells.lookup y = some c → c ≠ C := fun y c hc z => by
          obtain ⟨⟨u, o, ho, _⟩, _⟩ := x0.cellA y c hc
          rw [z, hC] at ho; (first | exact nos ho | exact nof ho | exact nos2 ho | exact nof2 ho | cases ho)
        refine wpAny_assign_Name (store_ok wr1 x1 hm va fun s2 e2 wr2 x2 => ?_)
        refine ⟨m, hN.at' fun o q => e2.keep C o hCo hR q, fun h' sb => ?_⟩
        have kp : ∀ b o, b ≠ C → s2.heap.get? b = some o → h'.get? b = some o := fun b o hb q => (sb.2 b hb).trans q
        exact hQ W1 _ .next (Ext.dropEnd (I := C) ((e1.weaken.trans e2).more (fun b hb => by simp [hb])) hC ⟨h', s2.toks, rfl⟩ kp) (wr2.but hJ hR kp) (x2.but hCo hCc kp) rfl
      refine wpAny_bind (wpAny_mono (wpAny_comprehension_free (use := some (assign (.Name x p) E)) (Q := fun _ s' => Q .next s') (g := ⟨t, it, ifs, 0⟩) (gs := gs) rfl (hf E) hcl hk hn hh) (fun _ s' hq => wpAny_pure (wpAny_pure hq)) fun _ _ e => e)
    | SetComp a b c d => cases n with
      | zero => (first | exact nos h | exact nof h | exact nos2 h | exact nof2 h | cases h)
      | succ n => cases n <;> (first | exact nos h | exact nof h | exact nos2 h | exact nof2 h | cases h)
    | DictComp a b c d f => cases n with
      | zero => (first | exact nos h | exact nof h | exact nos2 h | exact nof2 h | cases h)
      | succ n => cases n <;> (first | exact nos h | exact nof h | exact nos2 h | exact nof2 h | cases h)
    | _ =>
      refine wpAny_Assign_Name ((P0 n).m h sc E own W s A _ Ex wr x0 rm fun W1 s1 a e1 wr1 va => store_ok wr1 (x0.ext e1) hm va fun s2 e2 wr2 x2 => hQ W1 s2 .next (e1.weaken.trans e2) wr2 x2 rfl) (by rfl)
end
end Mine
end

section
open PySem PySem.W PyProof.Rows PySem.Spec PySem.SeqAt PySem.Calls
namespace Mine
section
variable {prog : Program} {w : World} {K : Frag} {H : Heap} {cx : Cx} {Φ : Call} {st sc : Nm} {E : Env} {own : List Addr} {env : En} {W W' : Wd} {hp hp' : Hp} {k n : Nat} {s s' : Shared} {A : Around}

theorem putAll_not : ∀ (xs : List Str) (l : List V) (env : En) (y : Str), y ∉ xs → (putAll xs l env).lookup y = env.lookup y := by
  intro xs
  induction xs with
  | nil => intro l env y _; cases l <;> rfl
  | cons x xs ih =>
    intro l env y hy
    rw [List.mem_cons, not_or] at hy
    cases l with
    | nil => rfl
    | cons v l =>
      show (putAll xs l (put x v env)).lookup y = _
      rw [ih l _ y hy.2, lookup_put, if_neg hy.1]
theorem putAll_at : ∀ (xs : List Str) (l : List V) (env : En) (y : Str) (v : V), xs.Nodup → (y, v) ∈ xs.zip l → (putAll xs l env).lookup y = some v := by
  intro xs
  induction xs with
  | nil => intro l env y v _ h; (first | exact nos h | exact nof h | exact nos2 h | exact nof2 h | cases h)
  | cons x xs ih =>
    intro l env y v hn h
    rw [List.nodup_cons] at hn
    cases l with
    | nil => (first | exact nos h | exact nof h | exact nos2 h | exact nof2 h | cases h)
    | cons u l =>
      show (putAll xs l (put x u env)).lookup y = _
      rw [List.zip_cons_cons] at h
      rcases List.mem_cons.mp h with h | h
      · obtain ⟨rfl, rfl⟩ := Prod.mk.inj h
        rw [putAll_not xs l _ y hn.1, lookup_put, if_pos rfl]
      · exact ih l _ y v hn.2 h
theorem zip_rev {α β : Type} : ∀ (l : List α) (m : List β), l.length = m.length → l.reverse.zip m.reverse = (l.zip m).reverse
  | [], [], _ => rfl
  | a :: l, b :: m, h => by
    have h' : l.length = m.length := by simpa using h
    rw [List.reverse_cons, List.reverse_cons, List.zip_append (by rw [List.length_reverse, List.length_reverse]; exact h'), zip_rev l m h', show (a :: l).zip (b :: m) = (a, b) :: l.zip m from rfl, List.reverse_cons]
    rfl
theorem putAll_rev (xs : List Str) (l : List V) (env : En) (hn : xs.Nodup) (hl : l.length = xs.length) (y : Str) : (putAll xs.reverse l.reverse env).lookup y = (putAll xs l env).lookup y := by
  by_cases hy : y ∈ xs
  · obtain ⟨i, hi, rfl⟩ := List.mem_iff_getElem.mp hy
    have hz : (xs[i], l[i]) ∈ xs.zip l := List.mem_iff_getElem.mpr ⟨i, by rw [List.length_zip]; omega, by simp⟩
    rw [putAll_at xs l env _ _ hn hz, putAll_at _ _ env _ _ (List.pairwise_reverse.mpr (hn.imp Ne.symm)) (by rw [zip_rev _ _ hl.symm]; exact List.mem_reverse.mpr hz)]
  · rw [putAll_not xs l env y hy, putAll_not _ _ env y (by rw [List.mem_reverse]; exact hy)]

theorem VRs.reverse {vs : List Value} {l : List V} (h : VRs W vs l) : VRs W vs.reverse l.reverse := by
  induction vs generalizing l with
  | nil => cases h; exact .nil
  | cons v vs ih =>
    cases h with
    | cons a r => rw [List.reverse_cons, List.reverse_cons]; exact (ih r).snoc a

theorem each1 {t : Expr} {r : List Expr} {E : Env} (h : notStar t = true) : assignEach (t :: r) E = (false, assign t E) :: assignEach r E := by cases t <;> first | rfl | cases h
theorem asT_star {t : Expr} {v : V} {hp hp' : Hp} (h : asT cx Φ n sc t v env hp = some hp') : notStar t = true := by cases t <;> first | rfl | exact nos h
theorem sole_tuple {ts : List Expr} {kk : Nat} {tp : Pos} {e : Expr} {l : Nat} {E : Env} : swapsWithSole [.Tuple ts kk tp] e l E = pure false := by cases e <;> rfl
theorem pair2E {α : Type} {ts : List Expr} {l : List V} {f : Expr → Expr → V → V → Option α} {r : α} {C : Prop} (h : pair2 ts l f = some r) (k : ∀ t1 t2 v1 v2, ts = [t1, t2] → l = [v1, v2] → f t1 t2 v1 v2 = some r → C) : C := by
  rcases ts with _ | ⟨t1, _ | ⟨t2, _ | ⟨t3, q⟩⟩⟩ <;> first | exact nos h | (rcases l with _ | ⟨v1, _ | ⟨v2, _ | ⟨v3, q⟩⟩⟩ <;> first | exact nos h | exact k _ _ _ _ rfl rfl h)
/-- two targets of which not all are names -/
theorem pair_ok (hg : GoodCx prog w K H cx) (P0 : P prog w H cx Φ k n) {t1 t2 : Expr} {v1 v2 : V} {a : Value} {hp1 hp2 hp3 : Hp} {kk : Nat} {tp : Pos} {Q : Flow → Shared → Prop} {Ex : Value → Shared → Prop} (h2 : asT cx Φ n sc t1 v1 env hp1 = some hp2) (h3 : asT cx Φ n sc t2 v2 env hp2 = some hp3)
    (va : VR W a (.tup [v1, v2])) (wr : WR prog w H W hp1 s.heap) (x : EnvOK sc sc E own env W s.heap) (rm : Room k A) (hQ : ∀ W' s', Ext [] W s W' s' → WR prog w H W' hp3 s'.heap → EnvOK sc sc E own env W' s'.heap → Q .next s') :
    wpAny (model prog w) A (do assignAll a [assign (.Tuple [t1, t2] kk tp) E]; pure .next) Q Ex s := by
  cases va with
  | @tup ad vs nn _ q4 r =>
  cases r with
  | @cons a1 vs1 _ _ r1 r =>
  cases r with
  | @cons a2 vs2 _ _ r2 r =>
  cases r
  have he : assignEach [t1, t2] E = [(false, assign t1 E), (false, assign t2 E)] := by rw [each1 (asT_star h2), each1 (asT_star h3)]; rfl
  refine wpAny_bind (wpAny_assign_Tuple rm.hd ⟨_, wr.jle _ _ q4, rfl, _, rfl⟩ (by rw [he]; rfl) (by rw [he]; rfl) fun h' hh => ?_)
  have kp : ∀ b o, s.heap.get? b = some o → h'.get? b = some o := fun b o q => hh b o (fun z => by rw [z, fresh_size] at q; exact nos q) q
  have eg : Ext [] W s W { s with heap := h' } := .grow [] kp
  rw [he]
  show wpAny _ A (holding [a2] (assign t1 E a1) >>= fun _ => holding [] (assign t2 E a2) >>= fun _ => pure ()) _ Ex _
  refine wpAny_bind (wpAny_holding (asT_ok (s := { s with heap := h' }) hg P0 h2 r1 (wr.grow kp) (x.ext eg) rm fun W2 s2 e2 wr2 => wpAny_bind (wpAny_holding ?_)))
  refine asT_ok hg P0 h3 (r2.mono e2.le) wr2 ((x.ext eg).ext e2) rm fun W3 s3 e3 wr3 => wpAny_pure (wpAny_pure ?_)
  exact hQ W3 s3 ((eg.trans e2).trans e3) wr3 (((x.ext eg).ext e2).ext e3)

/-- a tuple assigned -/
theorem assign_tuple (hg : GoodCx prog w K H cx) (P0 : ∀ n, P prog w H cx Φ k n) {ts : List Expr} {kk : Nat} {tp : Pos} {e : Expr} {pos : Pos} {fl : Fl} {env' : En} (h : exS cx Φ (n + 1) sc (.Assign [.Tuple ts kk tp] e pos) env hp = some (fl, env', hp')) :
    TrS prog w H k sc env hp (exec (.Assign [.Tuple ts kk tp] e pos)) fl env' hp' := by
  refine iteNE h ?_; clear h; intro hsw h
  have hsw : swapOk e = true := by simpa using hsw
  refine bd2 h ?_; clear h; intro v hp1 h1 h
  cases v with
  | tup l =>
    dsimp only at h
    intro E own W s A Q Ex wr x0 rm hQ
    rw [exec_Assign, sole_tuple]
    refine wpAny_bind (wpAny_standAt (wpAny_bind (wpAny_pure ?_)))
    rw [if_neg (by decide)]
    refine wpAny_bind ((P0 n).m h1 sc E own W s A _ Ex wr x0 rm fun W1 s1 a e1 wr1 va => ?_)
    have x1 := x0.ext e1
    cases hx : tgtNames ts with
    | some xs =>
      rw [hx] at h
      obtain ⟨⟨hl, hn, hm, hz⟩, h⟩ := iteS h
      obtain ⟨rfl, rfl, rfl⟩ := so3 h
      rcases swapped_cases (E := E) (ts := ts) (kk := kk) (pp := tp) hsw with q | ⟨names, q, q2⟩
      · rw [q]
        refine wpAny_bind (wpAny_pure ?_)
        show wpAny _ A (do assignAll a [assign (.Tuple ts kk tp) E]; pure .next) Q Ex s1
        have hb : bindT sc (.Tuple ts kk tp) (.tup l) env = some (putAll xs l env) := by
          show (tgtNames ts).bind _ = _
          rw [hx, Option.bind_some]
          exact if_pos ⟨hl, hm, hz⟩
        refine wpAny_bind (assign_ok rm.hd hb va wr1 x1 fun s2 e2 wr2 x2 => wpAny_pure ?_)
        exact hQ W1 s2 .next (e1.weaken.trans e2) wr2 x2 rfl
      · rw [q]
        refine wpAny_bind (wpAny_pure ?_)
        have : names = xs := by rw [hx] at q2; exact (Option.some.inj q2).symm
        subst this
        show wpAny _ A (do rule "assign.swapped-stores"; let items ← unpackItems a names.length none; assignInOrder (names.reverse.map fun n => bindName E n) items.reverse; pure .next) Q Ex s1
        refine VR.tupC va fun ad vs nn q4 r => ?_
        refine wpAny_bind (wpAny_rule (wpAny_bind ?_))
        have hsz : names.length = vs.toArray.size := by rw [List.size_toArray, r.length, hl]
        rw [hsz]
        refine wpAny_unpackItems_tuple rm.hd ⟨_, wr1.jle _ _ q4, rfl, _, rfl⟩ fun h' he => ?_
        have kp : ∀ b o, s1.heap.get? b = some o → h'.get? b = some o := fun b o q => he b o (fun z => by rw [z, fresh_size] at q; (first | exact nos q | exact nof q | exact nos2 q | exact nof2 q | cases q)) q
        have eg : Ext [] W1 s1 W1 { s1 with heap := h' } := .grow [] kp
        refine wpAny_bind (stores_ok (st := sc) (sc := sc) (E := E) (own := own) (H := H) (W := W1) (hp := hp1) _ names.reverse vs.reverse l.reverse env { s1 with heap := h' } _ (by simp) (fun i f x z1 z2 => ?_) r.reverse (by rw [List.length_reverse, List.length_reverse, r.length, hl]) (by rw [List.all_reverse]; exact hm) (wr1.grow kp) (x1.ext eg) fun s2 e2 wr2 x2 => wpAny_pure ?_)
        · rw [List.getElem?_map] at z1
          rw [z2] at z1
          cases z1
          exact stores_bind
        · exact hQ W1 s2 .next ((e1.trans eg).weaken.trans e2) wr2 (x2.sub fun y u hy => by rw [putAll_rev names l env hn hl]; exact hy) rfl
    | none =>
      rw [hx] at h
      have hq : swappedStores [.Tuple ts kk tp] e E = pure none := by
        rcases swapped_cases (E := E) (ts := ts) (kk := kk) (pp := tp) hsw with q | ⟨names, q, q2⟩
        · exact q
        · rw [hx] at q2; (first | exact nos q2 | exact nof q2 | exact nos2 q2 | exact nof2 q2 | cases q2)
      refine pair2E h fun t1 t2 v1 v2 et el h => ?_
      refine bd1 h fun hp2 h2 h => ?_
      refine bd1 h fun hp3 h3 h => ?_
      obtain ⟨rfl, rfl, rfl⟩ := so3 h
      rw [hq]
      refine wpAny_bind (wpAny_pure ?_)
      rw [el] at va
      rw [et]
      exact pair_ok (kk := kk) hg (P0 n) h2 h3 va wr1 x1 rm fun W3 s3 e3 wr3 x3 => hQ W3 s3 .next (e1.trans e3).weaken wr3 x3 rfl
  | _ => (first | exact nos h | exact nof h | exact nos2 h | exact nof2 h | cases h)

/-- an attribute or an item assigned -/
theorem assign_other (hg : GoodCx prog w K H cx) (P0 : ∀ n, P prog w H cx Φ k n) {t e : Expr} {pos : Pos} {fl : Fl} {env' : En} (ht : ∀ E b, swapsWith e (some t) b E = pure false) (hs : ∀ E, swappedStores [t] e E = pure none) (hn : notStar t = true)
    (h : ((evM cx Φ n sc e env hp).bind fun (v, hp1) => (asT cx Φ n sc t v env hp1).bind fun hp2 => some (Fl.next, env, hp2)) = some (fl, env', hp')) : TrS prog w H k sc env hp (exec (.Assign [t] e pos)) fl env' hp' := by
  refine bd2 h ?_; clear h; intro v hp1 h1 h
  refine bd1 h ?_; clear h; intro hp2 h2 h
  obtain ⟨rfl, rfl, rfl⟩ := so3 h
  intro E own W s A Q Ex wr x0 rm hQ
  rw [exec_Assign]
  have hs' : swapsWithSole [t] e pos.line E = pure false := ht E _
  rw [hs']
  refine wpAny_bind (wpAny_standAt (wpAny_bind (wpAny_pure ?_)))
  rw [if_neg (by decide)]
  refine wpAny_bind ((P0 n).m h1 sc E own W s A _ Ex wr x0 rm fun W1 s1 a e1 wr1 va => ?_)
  rw [hs E]
  refine wpAny_bind (wpAny_pure ?_)
  have he : assignEach [t] E = [(false, assign t E)] := each1 hn
  rw [he]
  show wpAny _ A (do assignAll a [assign t E]; pure .next) Q Ex s1
  refine wpAny_bind (asT_ok hg (P0 n) h2 va wr1 (x0.ext e1) rm fun W2 s2 e2 wr2 => wpAny_pure ?_)
  exact hQ W2 s2 .next (e1.trans e2).weaken wr2 ((x0.ext e1).ext e2) rfl
end
end Mine
end

section
open PySem PySem.W PyProof.Rows PySem.Spec PySem.SeqAt PySem.Calls
namespace Mine
section
variable {prog : Program} {w : World} {K : Frag} {H : Heap} {cx : Cx} {Φ : Call} {st sc : Nm} {E : Env} {own : List Addr} {env : En} {W W' : Wd} {hp hp' : Hp} {k n : Nat} {s s' : Shared} {A : Around}

inductive ForGo (I : Addr) (src : V × List V) (step : V → En → Hp → Option (Fl × En × Hp)) (R : Fl × En × Hp) (m : Nat) (W : Wd) (h : Heap) (en : En) (hp : Hp) : Prop
  | mk (j : Nat) (hm : m = src.2.length - j) (hj : j ≤ src.2.length) (it : ItAt W h I src j) (hgo : forL step (src.2.drop j) en hp = some R)
/-- where a for stands -/
structure ForAt (prog : Program) (w : World) (H : Heap) (sc : Nm) (E : Env) (own : List Addr) (I : Addr) (src : V × List V) (W0 : Wd) (s0 : Shared) (step : V → En → Hp → Option (Fl × En × Hp)) (R : Fl × En × Hp) (m : Nat) (W : Wd) (s : Shared) (en : En) (hp : Hp) : Prop where
  ext : Ext (I :: own) W0 s0 W s
  wr : WR prog w H W hp s.heap
  ok : EnvOK sc sc E own en W s.heap
  sd : StandsI hp src
  go : ForGo I src step R m W s.heap en hp
  fI : Free own E W I

theorem step_for (P0 : ∀ n, P prog w H cx Φ k n) (ihs : ∀ {sc ss env hp fl env' hp'}, exSs cx Φ n sc ss env hp = some (fl, env', hp') → TrS prog w H k sc env hp (execs ss) fl env' hp') {t it : Expr} {b : List Stmt} {pos : Pos} {fl : Fl} {env' : En}
    (h : exS cx Φ (n + 1) sc (.For t it b [] pos) env hp = some (fl, env', hp')) : TrS prog w H k sc env hp (exec (.For t it b [] pos)) fl env' hp' := by
  refine bd2 h ?_; clear h; intro src hp1 h1 h
  obtain ⟨hf, hz, tr⟩ := (P0 n).i h1
  refine genF (P := fun F => forL F src.2 env hp1 = some (fl, env', hp')) h ?_
  clear h
  intro F hF h
  intro E own W s A Q Ex wr x0 rm hQ
  refine wpAny_For (tr sc E own W s A _ Ex wr x0 rm fun W1 s1 a e1 wr1 ri => iter_ok wr1 ri fun s2 kp2 e2 wr2 it2 sd => ?_) (hf E)
  have x1 := x0.ext e1
  have x2 := x1.ext e2
  have hI1 : s1.heap.get? s1.heap.objs.size = none := fresh_size _
  have fI : Free own E W1 s1.heap.objs.size := by
    refine ⟨wr1.noneJ hI1, fun i hi => wr1.neR hI1 hi, fun hm => ?_, fun y c hc z => ?_⟩
    · obtain ⟨o, ho⟩ := x1.ownA _ hm
      rw [hI1] at ho; (first | exact nos ho | exact nof ho | exact nos2 ho | exact nof2 ho | cases ho)
    · obtain ⟨⟨v, o, ho, _⟩, _⟩ := x1.cellA y c hc
      rw [z, hI1] at ho; (first | exact nos ho | exact nof ho | exact nos2 ho | exact nof2 ho | cases ho)
  have dead : ∀ b, s1.heap.get? b = none → s.heap.get? b = none := fun b hb => by
    cases q : s.heap.get? b with
    | none => rfl
    | some o => obtain ⟨o', q'⟩ := e1.alive b o q; rw [hb] at q'; cases q'
  refine codeAny_forLoop_any (fun m s => ∃ W en hp, ForAt prog w H sc E own s1.heap.objs.size src W1 s1 _ (fl, env', hp') m W s en hp) (fun m s hI => ?_) _ ⟨W1, env, hp1, ⟨e2.more (by simp), wr2, x2, sd, ⟨0, rfl, Nat.zero_le _, it2, h⟩, fI⟩⟩
  obtain ⟨W, en, hp, h⟩ := hI
  obtain ⟨j, rfl, hj, it, hgo⟩ := h.go
  have notI : ∀ W' (s' : Shared), Ext (s1.heap.objs.size :: own) W1 s1 W' s' → Ext own _ _ W' s' := fun W' s' e => (e1.weaken (own := own)).trans (e.drop fun b hb hn => by
    rcases List.mem_cons.mp hb with rfl | hb
    · exact hI1
    · exact absurd hb hn)
  cases hu : src.2[j]? with
  | none =>
    have hd : src.2.drop j = [] := List.drop_eq_nil_iff.mpr (List.getElem?_eq_none_iff.mp hu)
    rw [hd] at hgo
    obtain ⟨rfl, rfl, rfl⟩ := so3 hgo
    refine end_ok h.wr rm.hd it h.sd hu fun s3 kp hs => wpAny_execs_nil ?_
    exact hQ W s3 .next (e1.weaken.trans (h.ext.dropEnd hI1 hs kp)) (h.wr.but h.fI.J h.fI.R kp) (h.ok.but h.fI.o h.fI.c kp) rfl
  | some u =>
    have hlt : j < src.2.length := (List.getElem?_eq_some_iff.mp hu).1
    have hd : src.2.drop j = u :: src.2.drop (j + 1) := by
      rw [List.drop_eq_getElem_cons hlt]
      have : src.2[j] = u := by rw [List.getElem?_eq_getElem hlt] at hu; exact Option.some.inj hu
      rw [this]
    rw [hd] at hgo
    obtain ⟨⟨fl1, en1, hpa⟩, hc1, hgo⟩ := bd hgo
    rw [hF] at hc1
    refine bd1 hc1 ?_; clear hc1; intro ena hb1 hc1
    obtain ⟨⟨flb, enb, hpb⟩, hbody, hc1⟩ := bd hc1
    obtain ⟨hst, hc1⟩ := guardS hc1
    obtain ⟨rfl, rfl, rfl⟩ := so3 hc1
    refine next_ok h.wr h.fI.J h.fI.R it h.sd hu fun v s3 kp3 e3 wr3 it3 hv => owned_ok it3 ?_
    have ok3 := h.ok.but h.fI.o h.fI.c kp3
    refine assign_ok rm.hd hb1 hv wr3 ok3 fun s4 e4 wr4 ok4 => ?_
    have it4 : ItAt W s4.heap s1.heap.objs.size src (j + 1) := it3.at (.refl _) fun o q => e4.keep _ o h.fI.o h.fI.R q
    refine ihs hbody E own W s4 A _ _ wr4 ok4 rm fun W5 s5 f e5 wr5 ok5 hfl => ?_
    have it5 : ItAt W5 s5.heap s1.heap.objs.size src (j + 1) := it4.at e5.le fun o q => e5.keep _ o h.fI.o h.fI.R q
    have fI5 : Free own E W5 s1.heap.objs.size := h.fI.ext e5 it4.alive
    have ext5 : Ext (s1.heap.objs.size :: own) W1 s1 W5 s5 := ((h.ext.trans (e3.more (by simp))).trans (e4.more (by intro b hb; simp [hb]))).trans (e5.more (by intro b hb; simp [hb]))
    cases flb with
    | next =>
      (first | exact nos hfl | exact nof hfl | exact nos2 hfl | exact nof2 hfl | cases hfl)
      exact ⟨src.2.length - (j + 1), by omega, W5, _, _, ext5, wr5, ok5.take _, stands_I rfl h.sd hst, ⟨j + 1, rfl, hlt, it5, hgo⟩, fI5⟩
    | ret v =>
      obtain ⟨val, rfl, hval⟩ := hfl
      obtain ⟨rfl, rfl, rfl⟩ := so3 hgo
      exact hQ W5 s5 _ (notI W5 s5 ext5) wr5 (ok5.take _) ⟨val, rfl, hval⟩

inductive WhileAt (prog : Program) (w : World) (H : Heap) (sc : Nm) (E : Env) (own : List Addr) (W : Wd) (s : Shared) (T : En → Hp → Rs Bool) (F : En → Hp → Option (Fl × En × Hp)) (R : Fl × En × Hp) (m : Nat) (s' : Shared) : Prop
  | mk (W' : Wd) (en : En) (hp1 : Hp) (e1 : Ext own W s W' s') (wr : WR prog w H W' hp1 s'.heap) (x : EnvOK sc sc E own en W' s'.heap) (h : whileL T F m en hp1 = some R)
theorem step_while (P0 : ∀ n, P prog w H cx Φ k n) (ihs : ∀ {sc ss env hp fl env' hp'}, exSs cx Φ n sc ss env hp = some (fl, env', hp') → TrS prog w H k sc env hp (execs ss) fl env' hp') {t : Expr} {b : List Stmt} {pos : Pos} {fl : Fl} {env' : En}
    (h : exS cx Φ (n + 1) sc (.While t b [] pos) env hp = some (fl, env', hp')) : TrS prog w H k sc env hp (exec (.While t b [] pos)) fl env' hp' := by
  have h0 : whileL (fun en hq => tst cx Φ n sc t en hq) (fun en hq => (exSs cx Φ n sc b en hq).bind fun (fl, en2, hq1) => some (fl, en2.take env.length, hq1)) 200 env hp = some (fl, env', hp') := h
  clear h
  refine genF (P := fun F => whileL (fun en hq => tst cx Φ n sc t en hq) F 200 env hp = some (fl, env', hp')) h0 ?_
  clear h0
  intro F hF h0
  intro E own W s A Q Ex wr x0 rm hQ
  refine wpAny_While (codeAny_whileLoop (fun m s' => WhileAt prog w H sc E own W s (fun en hq => tst cx Φ n sc t en hq) F (fl, env', hp') m s') (fun m s1 hI => ?_) 200 ⟨W, env, hp, .refl _ _ _, wr, x0, h0⟩)
  obtain ⟨W1, en, hp1, e1, wr1, x1, hgo⟩ := hI
  cases m with
  | zero => (first | exact nos hgo | exact nof hgo | exact nos2 hgo | exact nof2 hgo | cases hgo)
  | succ m =>
    refine bd2 hgo ?_; clear hgo; intro c hp2 ht hgo
    refine (P0 n).t ht sc E own W1 s1 A _ _ wr1 x1 rm fun W2 s2 c' e2 wr2 ec => ?_
    subst ec
    cases c' with
    | false =>
      obtain ⟨rfl, rfl, rfl⟩ := so3 hgo
      rw [if_neg (by decide)]
      exact wpAny_execs_nil (hQ W2 s2 .next (e1.trans e2.weaken) wr2 (x1.ext e2) rfl)
    | true =>
      rw [if_pos rfl]
      obtain ⟨⟨fl1, en1, hp3⟩, hb, hgo⟩ := bd hgo
      rw [hF] at hb
      obtain ⟨⟨flb, enb, hpb⟩, hbody, hb⟩ := bd hb
      obtain ⟨rfl, rfl, rfl⟩ := so3 hb
      refine ihs hbody E own W2 s2 A _ _ wr2 (x1.ext e2) rm fun W3 s3 f e3 wr3 ok3 hfl => ?_
      have e13 := (e1.trans e2.weaken).trans e3
      cases flb with
      | next =>
        (first | exact nos hfl | exact nof hfl | exact nos2 hfl | exact nof2 hfl | cases hfl)
        exact ⟨m, Nat.lt_succ_self _, W3, _, _, e13, wr3, ok3.take _, hgo⟩
      | ret v =>
        obtain ⟨val, rfl, hval⟩ := hfl
        obtain ⟨rfl, rfl, rfl⟩ := so3 hgo
        exact hQ W3 s3 _ e13 wr3 (ok3.take _) ⟨val, rfl, hval⟩

theorem interactive_no (hk : E.scope.kind = .function) : interactive E = false := by unfold interactive; rw [hk]; rfl

theorem exprS_inv {e : Expr} {pos : Pos} {r : Fl × En × Hp} {C : Prop} (h : exS cx Φ (n + 1) sc (.Expr e pos) env hp = some r) (k : (∀ l E, swapsWith e none l E = pure false) → ((evE cx Φ n sc e env hp).bind fun (v, hp1) => unitV v env hp1) = some r → C) : C := by
  cases e <;> first | exact nos h | exact k (fun _ _ => rfl) h
theorem unitV_ref {v : V} {r : Fl × En × Hp} {p : Addr} (h : unitV v env hp = some r) (va : VR W (.ref p) v) : False := by
  cases va <;> exact nos h
theorem notRef {a : Value} {Pp : Prop} (hn : ∀ p, a ≠ .ref p) (h : Pp) : (match (generalizing := false) a with | .ref _ => False | _ => Pp) := by cases a <;> first | exact h | exact (hn _ rfl).elim
@[elab_as_elim] theorem unitV_inv {v : V} {fl : Fl} {env' : En} {C : Fl → En → Hp → Prop} (h : unitV v env hp = some (fl, env', hp')) (k : C .next env hp) : C fl env' hp' := by
  cases v <;> first | exact nos h | exact so3E h k
noncomputable def isAS : Expr → Bool
  | .Attribute _ _ _ | .Subscript _ _ _ => true
  | _ => false
theorem asT_AS {t : Expr} {v : V} {hp1 hp2 : Hp} (h : asT cx Φ n sc t v env hp1 = some hp2) : isAS t = true := by cases t <;> first | rfl | exact nos h
theorem sw_attr {e o : Expr} {attr : Str} {q : Pos} {b : Nat} {E : Env} : swapsWith e (some (.Attribute o attr q)) b E = pure false := by cases e <;> rfl
theorem sw_sub {e o i : Expr} {q : Pos} {b : Nat} {E : Env} : swapsWith e (some (.Subscript o i q)) b E = pure false := by cases e <;> rfl
theorem ss_attr {e o : Expr} {attr : Str} {q : Pos} {E : Env} : swappedStores [.Attribute o attr q] e E = pure none := by cases e <;> rfl
theorem ss_sub {e o i : Expr} {q : Pos} {E : Env} : swappedStores [.Subscript o i q] e E = pure none := by cases e <;> rfl
theorem as_free {t e : Expr} (h : isAS t = true) : (∀ E b, swapsWith e (some t) b E = pure false) ∧ (∀ E, swappedStores [t] e E = pure none) ∧ notStar t = true := by
  cases t with
  | Attribute o attr q => exact ⟨fun E b => sw_attr, fun E => ss_attr, rfl⟩
  | Subscript o i q => exact ⟨fun E b => sw_sub, fun E => ss_sub, rfl⟩
  | _ => exact nof h
theorem asgn2_none {t t2 e : Expr} {q : List Expr} {pos : Pos} {r : Fl × En × Hp} {C : Prop} (h : exS cx Φ (n + 1) sc (.Assign (t :: t2 :: q) e pos) env hp = some r) : C := by cases t <;> exact nos h
theorem step_s (hg : GoodCx prog w K H cx) (P0 : ∀ n, P prog w H cx Φ k n) (ihs : ∀ {sc ss env hp fl env' hp'}, exSs cx Φ n sc ss env hp = some (fl, env', hp') → TrS prog w H k sc env hp (execs ss) fl env' hp') :
    ∀ {sc st env hp fl env' hp'}, exS cx Φ (n + 1) sc st env hp = some (fl, env', hp') → TrS prog w H k sc env hp (exec st) fl env' hp' := by
  intro sc st env hp fl env' hp' h
  cases st with
  | Expr e pos =>
    refine exprS_inv h fun hsw h => ?_
    refine bd2 h fun v hp1 h1 h => ?_
    have h3 := fun (W : Wd) p => unitV_ref (W := W) (p := p) h
    refine unitV_inv h ?_
    intro E own W s A Q Ex wr x0 rm hQ
    exact wpAny_Expr ((P0 n).e h1 sc E own W s A _ Ex wr x0 rm fun W1 s1 a e1 wr1 va => notRef (fun p q => h3 W1 p (q ▸ va)) (hQ W1 s1 .next e1.weaken wr1 (x0.ext e1) rfl)) (interactive_no x0.kind) (hsw _ _)
  | Return e pos =>
    cases e with
    | none =>
      refine so3E h ?_
      intro E own W s A Q Ex wr x0 rm hQ
      exact wpAny_Return_none (hQ W s _ (.refl _ _ _) wr x0 ⟨.none, rfl, .none⟩)
    | some e =>
      refine bd2 h fun v hp1 h1 h => ?_
      refine so3E h ?_
      intro E own W s A Q Ex wr x0 rm hQ
      exact wpAny_Return_some ((P0 n).e h1 sc E own W s A _ Ex wr x0 rm fun W1 s1 a e1 wr1 va => hQ W1 s1 _ e1.weaken wr1 (x0.ext e1) ⟨a, rfl, va⟩)
  | Assign ts e pos =>
    rcases ts with _ | ⟨t, _ | ⟨t2, r⟩⟩
    · exact nos h
    · refine asgn1E h (fun x p q h => ?_) (fun ts kk tp q _ => ?_) (fun h => ?_)
      · subst q
        refine bd2 h fun v hp1 h1 h => ?_
        refine iteSE h fun hm h => ?_
        refine so3E h ?_
        exact assign_name P0 h1 hm
      · subst q
        exact assign_tuple hg P0 h
      · refine bd2 h fun v hp1 h1 h2 => bd1 h2 fun hp2 h3 _ => ?_
        have f := as_free (e := e) (asT_AS h3)
        exact assign_other hg P0 f.1 f.2.1 f.2.2 h
    · exact asgn2_none h
  | If t b o pos =>
    refine bd2 h ?_; clear h; intro c hp1 h1 h
    obtain ⟨⟨fl1, en1, hp2⟩, h2, h⟩ := bd h
    refine so3E h ?_
    intro E own W s A Q Ex wr x0 rm hQ
    refine wpAny_If ((P0 n).t h1 sc E own W s A _ Ex wr x0 rm fun W1 s1 c' e1 wr1 ec => ?_)
    subst ec
    cases c' with
    | true => exact ihs h2 E own W1 s1 A _ Ex wr1 (x0.ext e1) rm fun W2 s2 f e2 wr2 x2 hf => hQ W2 s2 f (e1.weaken.trans e2) wr2 (x2.take _) hf
    | false => exact ihs h2 E own W1 s1 A _ Ex wr1 (x0.ext e1) rm fun W2 s2 f e2 wr2 x2 hf => hQ W2 s2 f (e1.weaken.trans e2) wr2 (x2.take _) hf
  | For t it b o pos =>
    cases o with
    | nil => exact step_for P0 ihs h
    | cons _ _ => (first | exact nos h | exact nof h | exact nos2 h | exact nof2 h | cases h)
  | While t b o pos =>
    cases o with
    | nil => exact step_while P0 ihs h
    | cons _ _ => (first | exact nos h | exact nof h | exact nos2 h | exact nof2 h | cases h)
  | _ => (first | exact nos h | exact nof h | exact nos2 h | exact nof2 h | cases h)

theorem step_ss (ih : S prog w H cx Φ k n) : ∀ {sc ss env hp fl env' hp'}, exSs cx Φ (n + 1) sc ss env hp = some (fl, env', hp') → TrS prog w H k sc env hp (execs ss) fl env' hp' := by
  intro sc ss env hp fl env' hp' h
  cases ss with
  | nil =>
    obtain ⟨rfl, rfl, rfl⟩ := so3 h
    intro E own W s A Q Ex wr x0 rm hQ
    exact wpAny_execs_nil (hQ W s .next (.refl _ _ _) wr x0 rfl)
  | cons st r =>
    obtain ⟨⟨fl1, en1, hp1⟩, h1, h⟩ := bd h
    intro E own W s A Q Ex wr x0 rm hQ
    refine wpAny_execs_cons (ih.s h1 E own W s A _ Ex wr x0 rm fun W1 s1 f e1 wr1 x1 hf => ?_)
    cases fl1 with
    | next =>
      (first | exact nos hf | exact nof hf | exact nos2 hf | exact nof2 hf | cases hf)
      exact ih.ss h E own W1 s1 A _ Ex wr1 x1 rm fun W2 s2 f e2 wr2 x2 hf2 => hQ W2 s2 f (e1.trans e2) wr2 x2 hf2
    | ret v =>
      obtain ⟨val, rfl, hval⟩ := hf
      obtain ⟨rfl, rfl, rfl⟩ := so3 h
      exact hQ W1 s1 _ e1 wr1 x1 ⟨val, rfl, hval⟩

/-- all that the evaluator says of statements is so -/
theorem S_all (hg : GoodCx prog w K H cx) (hc : CallOK prog w H Φ k) : ∀ n, S prog w H cx Φ k n := by
  have P0 := P_all hg hc
  intro n
  induction n with
  | zero => exact ⟨fun h => (nomatch h), fun h => (nomatch h)⟩
  | succ n ih => exact ⟨step_s hg P0 ih.ss, step_ss ih⟩
end
end Mine
end

section
open PySem PySem.W PyProof.Rows PySem.Spec PySem.SeqAt PySem.Calls
namespace Mine
section
variable {prog : Program} {w : World} {K : Frag} {H : Heap} {cx : Cx} {W W' : Wd} {hp hp' : Hp} {k n : Nat} {s s' : Shared} {A : Around}

inductive FnFd (H : Heap) (f : Fn) : Prop
  | mk (oc od fd osl : _) (h0 : H.get? f.addr = some ⟨oc, od, .func fd, osl⟩) (h1 : fd.body = .stmts f.body) (h2 : fd.closure = []) (h3 : fd.globals = mainGlobals) (h4 : fd.builtins = builtinsNs) (h5 : fd.scope.names = f.names) (h6 : fd.scope.kind = .function) (h7 : fd.scope.isCoroutine = false) (h8 : fd.scope.isGenerator = false) (h9 : (∀ vals : List Value, vals.length = f.params.length → bindArgs fd ⟨vals, []⟩ = pure (f.params.zip vals))) (h10 : H.CodeRec fd.code fd.qualname)
structure FnOK (H : Heap) (f : Fn) : Prop where
  fd : FnFd H f
  par : ∀ x ∈ f.params, f.names.lookup x = some .local ∨ f.names.lookup x = some .cell
  nodup : f.params.Nodup
  dbg : f.names.lookup ("__debug__" : Str) = none
  cls : f.names.lookup ("__classdict__" : Str) = none

/-! ### what is bound at a call -/
theorem bindL_not (kd : Str → Option NameKind) : ∀ (b : List (Str × Value)) (m : Str → Option Value) (x : Str), x ∉ b.map (·.1) → bindL kd b m x = m x
  | [], _, _, _ => rfl
  | (y, v) :: r, m, x, h => by
    rw [List.map_cons, List.mem_cons, not_or] at h
    unfold bindL
    rw [bindL_not kd r _ x h.2]
    have h1 : ¬ x = y := h.1
    split
    · show (if x = y then some v else m x) = m x
      rw [if_neg h1]
    · rfl
theorem bindC_not (kd : Str → Option NameKind) : ∀ (b : List (Str × Value)) (m : Str → Option Value) (x : Str), x ∉ b.map (·.1) → PySem.bindC kd b m x = m x
  | [], _, _, _ => rfl
  | (y, v) :: r, m, x, h => by
    rw [List.map_cons, List.mem_cons, not_or] at h
    unfold PySem.bindC
    rw [bindC_not kd r _ x h.2]
    have h1 : ¬ x = y := h.1
    split
    · rfl
    · show (if x = y then some v else m x) = m x
      rw [if_neg h1]
theorem bindL_at (kd : Str → Option NameKind) : ∀ (b : List (Str × Value)) (m : Str → Option Value) (x : Str) (v : Value), (b.map (·.1)).Nodup → b.lookup x = some v → kd x = some .local → bindL kd b m x = some v
  | [], _, _, _, _, h, _ => by (first | exact nos h | exact nof h | exact nos2 h | exact nof2 h | cases h)
  | (y, u) :: r, m, x, v, hn, h, hk => by
    rw [List.map_cons, List.nodup_cons] at hn
    rw [List.lookup_cons] at h
    unfold bindL
    cases hx : x == y with
    | true =>
      rw [hx] at h
      (first | exact nos h | exact nof h | exact nos2 h | exact nof2 h | cases h)
      have e := beq_iff_eq.mp hx
      subst e
      rw [bindL_not kd r _ x hn.1, if_pos hk, if_pos rfl]
    | false =>
      rw [hx] at h
      exact bindL_at kd r _ x v hn.2 h hk
theorem bindC_at (kd : Str → Option NameKind) : ∀ (b : List (Str × Value)) (m : Str → Option Value) (x : Str) (v : Value), (b.map (·.1)).Nodup → b.lookup x = some v → kd x ≠ some .local → PySem.bindC kd b m x = some v
  | [], _, _, _, _, h, _ => by (first | exact nos h | exact nof h | exact nos2 h | exact nof2 h | cases h)
  | (y, u) :: r, m, x, v, hn, h, hk => by
    rw [List.map_cons, List.nodup_cons] at hn
    rw [List.lookup_cons] at h
    unfold PySem.bindC
    cases hx : x == y with
    | true =>
      rw [hx] at h
      (first | exact nos h | exact nof h | exact nos2 h | exact nof2 h | cases h)
      have e := beq_iff_eq.mp hx
      subst e
      rw [bindC_not kd r _ x hn.1, if_neg hk, if_pos rfl]
    | false =>
      rw [hx] at h
      exact bindC_at kd r _ x v hn.2 h hk

theorem zip_lookup {W : Wd} : ∀ (ps : List Str) (vals : List Value) (vs : List V) (x : Str) (v : V), VRs W vals vs → (ps.zip vs).lookup x = some v → ∃ val, (ps.zip vals).lookup x = some val ∧ VR W val v ∧ x ∈ ps
  | [], _, _, _, _, _, h => by (first | exact nos h | exact nof h | exact nos2 h | exact nof2 h | cases h)
  | p :: ps, _, [], _, _, _, h => by (first | exact nos h | exact nof h | exact nos2 h | exact nof2 h | cases h)
  | p :: ps, _, u :: vs, x, v, .cons a r, h => by
    rw [List.zip_cons_cons, List.lookup_cons] at h
    rw [List.zip_cons_cons, List.lookup_cons]
    cases hx : x == p with
    | true =>
      rw [hx] at h
      (first | exact nos h | exact nof h | exact nos2 h | exact nof2 h | cases h)
      exact ⟨_, rfl, a, by rw [beq_iff_eq.mp hx]; exact .head _⟩
    | false =>
      rw [hx] at h
      obtain ⟨val, h1, h2, h3⟩ := zip_lookup ps _ vs x v r h
      exact ⟨val, h1, h2, .tail _ h3⟩

/-- the frame of a function -/
theorem callEnv_ok {f : Fn} {fd : FuncData} {a : Addr} (hnm : fd.scope.names = f.names) (hk : fd.scope.kind = .function) (hgl : fd.globals = mainGlobals) (hbl : fd.builtins = builtinsNs) (ok : FnOK H f) {vals : List Value} {vs : List V} (wr : WR prog w H W hp s.heap) (hv : VRs W vals vs) (hl : vs.length = f.params.length) {s1 : Shared}
    (x : InCallC s (callEnvC fd s.heap.objs.size a).locals (bindL (callEnvC fd s.heap.objs.size a).kindOf (f.params.zip vals) fun _ => none) (callEnvC fd s.heap.objs.size a).cells (PySem.bindC (callEnvC fd s.heap.objs.size a).kindOf (f.params.zip vals) fun _ => none) s1) :
    ∃ own, EnvOK f.names f.names (callEnvC fd s.heap.objs.size a) own (f.params.zip vs) W s1.heap ∧ (∀ b ∈ own, s.heap.get? b = none) ∧ Ext [] W s W s1 ∧ WR prog w H W hp s1.heap := by
  obtain ⟨h1, tk, hs1⟩ := x.toInCall.same
  have kp := x.toInCall.keep
  have hcells : (callEnvC fd s.heap.objs.size a).cells = cellsFrom (s.heap.objs.size + 1) f.names [] := by
    show cellsFrom (s.heap.objs.size + 1) fd.scope.names [] = _
    rw [hnm]
  have newNone : ∀ y c, (y, c) ∈ (callEnvC fd s.heap.objs.size a).cells → s.heap.get? c = none := fun y c hm => fresh_ge (Nat.le_of_lt (x.above y c hm))
  have ownCase : ∀ b ∈ s.heap.objs.size :: (callEnvC fd s.heap.objs.size a).cells.map (fun p => ((callEnvC fd s.heap.objs.size a).cells.lookup p.1).getD s.heap.objs.size), b = s.heap.objs.size ∨ ∃ y, (callEnvC fd s.heap.objs.size a).cells.lookup y = some b := fun b hb => by
    rcases List.mem_cons.mp hb with rfl | hb
    · exact .inl rfl
    · obtain ⟨p, hp, rfl⟩ := List.mem_map.mp hb
      obtain ⟨c, hc⟩ := lookup_of_mem (l := (callEnvC fd s.heap.objs.size a).cells) (x := p.1) ⟨p.2, hp⟩
      rw [hc]
      exact .inr ⟨p.1, hc⟩
  have ownNone : ∀ b ∈ s.heap.objs.size :: (callEnvC fd s.heap.objs.size a).cells.map (fun p => ((callEnvC fd s.heap.objs.size a).cells.lookup p.1).getD s.heap.objs.size), s.heap.get? b = none := fun b hb => by
    rcases ownCase b hb with rfl | ⟨y, hy⟩
    · exact fresh_size _
    · exact newNone y b (mem_of_lookup hy)
  have kindOf : ∀ y, (callEnvC fd s.heap.objs.size a).kindOf y = f.names.lookup y := fun y => by rw [← hnm]; rfl
  have hvl : vals.length = f.params.length := by rw [hv.length, hl]
  have hkeys : (f.params.zip vals).map (·.1) = f.params := List.map_fst_zip (by omega)
  have hnd : ((f.params.zip vals).map (·.1)).Nodup := by rw [hkeys]; exact ok.nodup
  have cellAt : ∀ y, f.names.lookup y = some .cell → ∃ c, (callEnvC fd s.heap.objs.size a).cells.lookup y = some c := fun y hy => by
    rw [hcells]
    exact lookup_of_mem (cellsFrom_has f.names (s.heap.objs.size + 1) y (mem_of_lookup hy))
  refine ⟨s.heap.objs.size :: (callEnvC fd s.heap.objs.size a).cells.map (fun p => ((callEnvC fd s.heap.objs.size a).cells.lookup p.1).getD s.heap.objs.size), ⟨hnm, hk, hgl, hbl, ok.dbg, ok.cls, .head _, ⟨_, x.toInCall.ns, fun y v q1 q2 => ?_⟩, fun y v q1 q2 => ?_, fun y v q1 => ?_, fun b hb => wr.noneJ (ownNone b hb), fun b hb i hi => wr.neR (ownNone b hb) hi, fun b hb => ?_, fun y c hc => ?_, fun y z c h1 h2 => ?_, fun y hy => ?_⟩, ownNone, ?_, wr.grow kp⟩
  · obtain ⟨val, z1, z2, _⟩ := zip_lookup f.params vals vs y v hv q1
    exact ⟨val, bindL_at _ _ _ y val hnd z1 (by rw [kindOf]; exact q2), z2⟩
  · obtain ⟨val, z1, z2, z3⟩ := zip_lookup f.params vals vs y v hv q1
    have hcl : f.names.lookup y = some .cell := (ok.par y z3).resolve_left q2
    obtain ⟨c, hc⟩ := cellAt y hcl
    refine ⟨c, val, hc, ?_, z2⟩
    have := x.cell y c hc
    rw [bindC_at _ _ _ y val hnd z1 (by rw [kindOf]; exact q2)] at this
    exact this
  · obtain ⟨_, _, _, z3⟩ := zip_lookup f.params vals vs y v hv q1
    rcases ok.par y z3 with q | q
    · exact .inl q
    · exact .inr (.inl q)
  · rcases ownCase b hb with rfl | ⟨y, hy⟩
    · obtain ⟨o, _, _, ho, _⟩ := x.toInCall.ns
      exact ⟨o, ho⟩
    · obtain ⟨o, ho, _⟩ := x.cell y b hy
      exact ⟨o, ho⟩
  · exact ⟨⟨_, x.cell y c hc⟩, Nat.ne_of_gt (x.above y c (mem_of_lookup hc)), fun i hi => wr.neR (newNone y c (mem_of_lookup hc)) hi⟩
  · exact name_of_addr x.apart (mem_of_lookup h1) (mem_of_lookup h2)
  · unfold mayStore at hy
    split at hy
    · rename_i q; exact .inl q
    · rename_i q
      obtain ⟨c, hc⟩ := cellAt y q
      refine .inr ⟨q, c, hc, .tail _ (List.mem_map.mpr ⟨(y, c), mem_of_lookup hc, ?_⟩)⟩
      show ((callEnvC fd s.heap.objs.size a).cells.lookup y).getD s.heap.objs.size = c
      rw [hc]; rfl
    · (first | exact nos hy | exact nof hy | exact nos2 hy | exact nof2 hy | cases hy)
  · obtain ⟨h1, tk, rfl⟩ := x.toInCall.same
    exact .grow [] kp

/-! ### what a pure function leaves -/
mutual
noncomputable def bnd (n : Nat) : V → Bool
  | .ref i => decide (i < n)
  | .obj _ i => decide (i < n)
  | .tup l | .lst l => bnds n l
  | _ => true
noncomputable def bnds (n : Nat) : List V → Bool
  | [] => true
  | v :: l => bnd n v && bnds n l
end
mutual
theorem bnd_of {W : Wd} : ∀ {v : Value} {x : V}, VR W v x → bnd W.n x = true
  | _, _, .none => rfl
  | _, _, .bool _ => rfl
  | _, _, .int _ _ => rfl
  | _, _, .str _ _ => rfl
  | _, _, .tup _ r => by rw [bnd]; exact bnds_of r
  | _, _, .lst _ r => by rw [bnd]; exact bnds_of r
  | _, _, .obj hi _ => by rw [bnd]; exact decide_eq_true hi
  | _, _, .ref hi => by rw [bnd]; exact decide_eq_true hi
theorem bnds_of {W : Wd} : ∀ {vs : List Value} {l : List V}, VRs W vs l → bnds W.n l = true
  | _, _, .nil => rfl
  | _, _, .cons a r => by rw [bnds, bnd_of a, bnds_of r]; rfl
end
mutual
theorem noRef_bnd (n : Nat) : ∀ x : V, noRef x = true → bnd n x = true
  | .none, _ => rfl
  | .bool _, _ => rfl
  | .int _, _ => rfl
  | .str _, _ => rfl
  | .tup l, h => by rw [bnd]; exact noRefs_bnd n l (by rw [noRef] at h; exact h)
  | .lst l, h => by rw [bnd]; exact noRefs_bnd n l (by rw [noRef] at h; exact h)
  | .obj _ _, h => by rw [noRef] at h; (first | exact nos h | exact nof h | exact nos2 h | exact nof2 h | cases h)
  | .ref _, h => by rw [noRef] at h; (first | exact nos h | exact nof h | exact nos2 h | exact nof2 h | cases h)
theorem noRefs_bnd (n : Nat) : ∀ l : List V, noRefs l = true → bnds n l = true
  | [], _ => rfl
  | v :: l, h => by
    rw [noRefs, Bool.and_eq_true] at h
    rw [bnds, noRef_bnd n v h.1, noRefs_bnd n l h.2]; rfl
end

noncomputable def Wd.cut (W : Wd) (n : Nat) : Wd := { W with n := n }
theorem VR.cut {n : Nat} {v : Value} {x : V} (a : VR W v x) : bnd n x = true → VR (W.cut n) v x :=
  VR.rec (W := W) (motive_1 := fun v x _ => bnd n x = true → VR (W.cut n) v x) (motive_2 := fun vs l _ => bnds n l = true → VRs (W.cut n) vs l) (fun _ => .none) (fun b _ => .bool b) (fun i t _ => .int i t) (fun x t _ => .str x t)
    (fun e _ r h => .tup e (r h)) (fun e _ r h => .lst e (r h)) (fun hi e h => .obj (of_decide_eq_true h) e) (fun {i} hi h => VR.ref (W := W.cut n) (i := i) (of_decide_eq_true h)) (fun _ => .nil)
    (fun _ _ a r h => .cons (a (Bool.and_eq_true_iff.mp h).1) (r (Bool.and_eq_true_iff.mp h).2)) a
theorem VRs.cut {n : Nat} {vs : List Value} {l : List V} (a : VRs W vs l) (h : bnds n l = true) : VRs (W.cut n) vs l := by
  induction vs generalizing l with
  | nil => cases a; exact .nil
  | cons v vs ih => cases a with | cons a r => exact .cons (a.cut (Bool.and_eq_true_iff.mp h).1) (ih r (Bool.and_eq_true_iff.mp h).2)

theorem FsR.cut {n : Nat} {es es' : List DictEntry} {fs : List (Str × V)} {W0 : Wd} (h0 : FsR W0 es' fs) (hn : W0.n = n) (h : FsR W es fs) : FsR (W.cut n) es fs := by
  subst hn
  induction h generalizing es' with
  | nil => exact .nil
  | cons a r ih =>
    cases h0 with
    | cons a0 r0 => exact .cons (a.cut (bnd_of a0)) (ih r0)
theorem KvR.cut {n : Nat} {es es' : List (Str × Value)} {fs : List (Str × V)} {W0 : Wd} (h0 : KvR W0 es' fs) (hn : W0.n = n) (h : KvR W es fs) : KvR (W.cut n) es fs := by
  subst hn
  induction h generalizing es' with
  | nil => exact .nil
  | cons a r ih =>
    cases h0 with
    | cons a0 r0 => exact .cons (a.cut (bnd_of a0)) (ih r0)
theorem OR.cut {h0 h : Heap} {a0 a : Addr} {ao : AO} {W0 : Wd} (o0 : OR prog w W0 h0 a0 ao) (o : OR prog w W h a ao) : OR prog w (W.cut W0.n) h a ao := by
  cases ao with
  | lst l =>
    obtain ⟨vs0, k0, _, r0⟩ := o0
    obtain ⟨vs, k, e, r⟩ := o
    exact ⟨vs, k, e, r.cut (bnds_of r0)⟩
  | ins fs =>
    obtain ⟨es0, k0, _, r0⟩ := o0
    obtain ⟨es, k, e, r⟩ := o
    exact ⟨es, k, e, r0.cut rfl r⟩
  | sd fs =>
    obtain ⟨es0, _, r0⟩ := o0
    obtain ⟨es, e, r⟩ := o
    exact ⟨es, e, r0.cut rfl r⟩
  | im k =>
    obtain ⟨es, e, r⟩ := o
    exact ⟨es, e, r⟩

theorem WR.cut {h0 h : Heap} (x0 : WR prog w H W hp h0) (x : WR prog w H W' hp' h) (le : W.Le W') (ht : hp'.take hp.length = hp) : WR prog w H (W'.cut W.n) hp h := by
  refine ⟨x0.n_eq, x.base, x.jle, fun i hi => x.jr i (Nat.lt_of_lt_of_le hi le.n), fun i j hi hj e => x.inj i j (Nat.lt_of_lt_of_le hi le.n) (Nat.lt_of_lt_of_le hj le.n) e, fun i o e => ?_⟩
  have hlt : i < hp.length := (List.getElem?_eq_some_iff.mp e).1
  have e' : hp'[i]? = some o := by
    rw [← ht, List.getElem?_take, if_pos hlt] at e
    exact e
  exact (x0.ob i o e).cut (x.ob i o e')
theorem Ext.cut {own : List Addr} (e : Ext own W s W' s') : Ext own W s (W'.cut W.n) s' :=
  ⟨⟨e.le.J, e.le.ρ, Nat.le_refl _⟩, e.same, e.keep, e.alive, e.freshJ, fun i h1 h2 => absurd h2 (Nat.not_lt.mpr h1)⟩

noncomputable def flowVal : Flow → Value
  | .ret v => v
  | _ => .none
end
end Mine
end

section
open PySem PySem.W PyProof.Rows PySem.Spec PySem.SeqAt PySem.Calls
namespace Mine
section
variable {prog : Program} {w : World} {K : Frag} {H : Heap} {cx : Cx} {Φ : Call} {W W' : Wd} {hp hp' : Hp} {k n : Nat} {s s' : Shared} {A : Around}

theorem call_form {o : Expr} {name : Str} {apos pos : Pos} {args : List Expr} {env : Env} (hl : (apos.endLine == pos.line) = true) (hs : starFree args = true) (hn : args.length ≤ 9) : eval (.Call (.Attribute o name apos) args [] pos) env = (do
      let ov ← attributeBase o name env (eval o env)
      standAt apos.atName
      let (f, first) ← holding [ov] (getMethod ov name (do return (← importBound o env).getD true))
      callWith pos f first (backTo pos (starEach args env)) []) := by
  rw [arm_eval_Call]
  have hform : methodCallForm (args.length + ([] : List Keyword).length) (backTo pos (starEach args env)) (backToKw pos (keywordEach [] env)) = true := by
    unfold methodCallForm
    rw [star_all hs]
    show (true && true && decide (args.length + 0 + 0 < 30)) = true
    simp only [Bool.and_self, Bool.true_and, decide_eq_true_eq]
    omega
  have hpos : methodCallPos true o env apos pos = pure pos := by unfold methodCallPos; simp [hl]
  unfold methodCall
  rw [hform, hpos]
  unfold calleeOf
  simp only [if_true, pure_bind]
  rfl

/-- what is known of the function that calls super().__init__ -/
inductive SupFd (prog : Program) (K : Frag) (H : Heap) (su : Sup) : Prop
  | mk (oc od fd osl p0 p1 ap pos ep cc cda D ar file tf ccl cdd vs ccs cl cld csl cdD : _) (h0 : K.lookup su.addr = some ⟨oc, od, .func fd, osl⟩) (h1 : fd.body = .stmts (.Expr (.Call (.Attribute (.Call (.Name "super" p0) [] [] p1) "__init__" ap) su.args [] pos) ep :: su.rest)) (h2 : fd.closure = [(("__class__" : Str), cc)]) (h3 : fd.globals = mainGlobals) (h4 : fd.builtins = builtinsNs) (h5 : fd.scope.names = su.names) (h6 : fd.scope.kind = .function) (h7 : fd.scope.isCoroutine = false) (h8 : fd.scope.isGenerator = false) (h9 : (∀ vals : List Value, vals.length = su.params.length → bindArgs fd ⟨vals, []⟩ = pure (su.params.zip vals))) (h10 : H.CodeRec fd.code fd.qualname) (h11 : fd.code = .ref cda) (h12 : (fd.params.posonlyargs ++ fd.params.args).head? = some ar) (h13 : su.params.head? = some ar.arg) (h14 : K.lookup cda = some ⟨ccl, cdd, .fields vs, ccs⟩) (h15 : vs[2]? = some (.str file tf)) (h16 : ((prog.main.file : Str) == file) = true) (h17 : K.lookup cc = some ⟨cl, cld, .cell (some (.ref D)), csl⟩) (h18 : clsIn K D = some cdD) (h19 : mroIn K su.C (.ref D) = some true) (h20 : ks_superIn K su.C D "__init__" = some (some (.ref su.base))) (h21 : starFree su.args = true) (h22 : (ap.endLine == pos.line) = true) (h23 : su.args.length ≤ 9)
structure SupOK (prog : Program) (w : World) (K : Frag) (H : Heap) (su : Sup) : Prop where
  fd : SupFd prog K H su
  loc : ∀ x ∈ su.params, su.names.lookup x = some .local
  nocell : ∀ x ∈ su.names, x.2 ≠ .cell
  nodup : su.params.Nodup
  dbg : su.names.lookup ("__debug__" : Str) = none
  cls : su.names.lookup ("__classdict__" : Str) = none
  nsup : su.names.lookup ("super" : Str) = some .globalImplicit
  ncls : su.names.lookup ("__class__" : Str) = some .free
  top : (prog.main.scope.names.lookup ("super" : Str)).isSome = false
  gl : Gl prog w H "super" (.type "super")
  base : fnIn K su.base = true
  baseT : typeIn K (.ref su.base) = some (.type "function")
  opq : nsIn K cStatics "thirdparty.any" = some none
  isC : (clsIn K su.C).isSome = true

theorem lookup_rev {α : Type} {x : Str} {v : α} : ∀ (b : List (Str × α)), (b.map (·.1)).Nodup → b.lookup x = some v → b.reverse.lookup x = some v
  | [], _, h => by (first | exact nos h | exact nof h | exact nos2 h | exact nof2 h | cases h)
  | (y, u) :: r, hn, h => by
    rw [List.map_cons, List.nodup_cons] at hn
    rw [List.reverse_cons, lookup_app]
    rw [List.lookup_cons] at h
    cases hx : x == y with
    | true =>
      rw [hx] at h
      (first | exact nos h | exact nof h | exact nos2 h | exact nof2 h | cases h)
      have e := beq_iff_eq.mp hx
      subst e
      have : r.reverse.lookup x = none := by
        cases q : r.reverse.lookup x with
        | none => rfl
        | some w =>
          have := mem_of_lookup q
          exact absurd (List.mem_map_of_mem (f := (·.1)) (List.mem_reverse.mp this)) hn.1
      rw [this]
      simp [List.lookup]
    | false =>
      rw [hx] at h
      rw [lookup_rev r hn.2 h]; rfl

theorem sup_ok (hg : GoodCx prog w K H cx) (hc : CallOK prog w H Φ k) {su : Sup} (so : SupOK prog w K H su) (hlim : H.NoLimit) {vs : List V} {v : V} (h : supF cx Φ su vs hp = some (v, hp')) {vals : List Value} {R : Result → Shared → Prop} (wr : WR prog w H W hp s.heap) (hv : VRs W vals vs) (rm : RoomC (k + 1) A)
    (hR : ∀ W' s' val, Ext [] W s W' s' → WR prog w H W' hp' s'.heap → VR W' val v → R (.ok (.ret val)) s') : codeAny (model prog w) A (.call (.ref su.addr) ⟨vals, []⟩) R s := by
  obtain ⟨oc, od, fd, osl, p0, p1, ap, pos, ep, cc, cda, D, ar, file, tf, ccl, cdd, fvs, ccs, cl, cld, csl, cdD, ho, hbody, hclo, hgl, hbl, hnm, hk, hco, hgen, hbind, hcd, hcode, har, hpar, hcda, hvs, hfile, hcell, hD, hsub, hsuper, hstar, hline, hfew⟩ := so.fd
  unfold supF at h
  split at h
  · rename_i C i r
    obtain ⟨⟨rfl, hl⟩, h⟩ := iteS h
    refine bd2 h ?_; clear h; intro us hp1 h1 h
    refine bd2 h ?_; clear h; intro u hp2 h2 h
    obtain ⟨⟨fl, env3, hp3⟩, h3, h⟩ := bd h
    obtain ⟨rfl, rfl⟩ := Mine.so h
    have hvl : vals.length = su.params.length := by rw [hv.length, hl]
    obtain ⟨hh, hdep, hun⟩ := rm
    have hroom : A.depth < recursionLimit := by show A.depth < 1000; omega
    have X := wr.inK hg.inK
    have hcd' : s.heap.CodeRec fd.code fd.qualname := by
      obtain ⟨c, o, xs, t, e1, e2, e3, e4⟩ := hcd
      exact ⟨c, o, xs, t, e1, wr.keepH _ _ e2, e3, e4⟩
    have hkeys : (su.params.zip vals).map (·.1) = su.params := List.map_fst_zip (by omega)
    refine ks_codeAny_call_defAt (binds := su.params.zip vals) hroom (X _ _ ho) rfl (hlim.keeps wr.keepH) hcd' hbody (BindsTo.of_eq (hbind vals hvl)) (by rw [hnm]; exact so.nocell) (fun x hx => by rw [hnm]; exact so.loc x.1 (List.of_mem_zip hx).1) (fun h₀ hns kp => ?_) hco hgen hk
    -- the frame
    have hcellsE : (callEnv fd s.heap.objs.size su.addr).cells = [(("__class__" : Str), cc)] := hclo
    have e0 : Ext [] W s W { s with heap := h₀, toks := s.toks + (su.params.zip vals).length } := .grow [] kp
    have wr0 : WR prog w H W hp h₀ := wr.grow kp
    have hccH : ∃ o, H.get? cc = some o ∧ o.data = .cell (some (.ref D)) := ⟨_, hg.inK _ _ hcell, rfl⟩
    obtain ⟨occ, hcc1, hcc2⟩ := hccH
    have x0 : EnvOK su.names su.names (callEnv fd s.heap.objs.size su.addr) [s.heap.objs.size] (su.params.zip (.obj su.C i :: r)) W h₀ := by
      have cellE : ∀ y c, (callEnv fd s.heap.objs.size su.addr).cells.lookup y = some c → y = "__class__" ∧ c = cc := fun y c hc => by
        rw [hcellsE, List.lookup_cons] at hc
        cases hy : y == ("__class__" : Str) with
        | true => rw [hy] at hc; cases hc; exact ⟨beq_iff_eq.mp hy, rfl⟩
        | false => rw [hy] at hc; (first | exact nos hc | exact nof hc | exact nos2 hc | exact nof2 hc | cases hc)
      refine ⟨hnm, hk, hgl, hbl, so.dbg, so.cls, .head _, ⟨_, hns, fun y v q1 q2 => ?_⟩, fun y v q1 q2 => ?_, fun y v q1 => ?_, fun b hb => ?_, fun b hb j hj => ?_, fun b hb => ?_, fun y c hc => ?_, fun y z c h1 h2 => ?_, fun y hy => ?_⟩
      · obtain ⟨val, z1, z2, _⟩ := zip_lookup su.params vals _ y v hv q1
        exact ⟨val, lookup_rev _ (by rw [hkeys]; exact so.nodup) z1, z2⟩
      · obtain ⟨_, _, _, z3⟩ := zip_lookup su.params vals _ y v hv q1
        exact absurd (so.loc y z3) q2
      · obtain ⟨_, _, _, z3⟩ := zip_lookup su.params vals _ y v hv q1
        exact .inl (so.loc y z3)
      · rw [List.mem_singleton] at hb; subst hb; exact wr.noneJ (fresh_size _)
      · rw [List.mem_singleton] at hb; subst hb; exact wr.neR (fresh_size _) hj
      · rw [List.mem_singleton] at hb; subst hb
        obtain ⟨o, _, _, ho, _⟩ := hns
        exact ⟨o, ho⟩
      · obtain ⟨rfl, rfl⟩ := cellE y c hc
        refine ⟨⟨_, occ, wr0.keepH _ _ hcc1, hcc2⟩, fun q => ?_, fun j hj q => ?_⟩
        · have q' : c = s.heap.objs.size := q
          have := wr.keepH _ _ hcc1
          rw [q', fresh_size] at this; (first | exact nos this | exact nof this | exact nos2 this | exact nof2 this | cases this)
        · have := wr.jr j hj
          rw [q, wr.base _ _ hcc1] at this; (first | exact nos this | exact nof this | exact nos2 this | exact nof2 this | cases this)
      · obtain ⟨rfl, rfl⟩ := cellE y c h1
        exact (cellE z _ h2).1.symm
      · left
        unfold mayStore at hy
        split at hy
        · assumption
        · rename_i q; exact absurd rfl (so.nocell _ (mem_of_lookup q))
        · (first | exact nos hy | exact nof hy | exact nos2 hy | exact nof2 hy | cases hy)
    have rm' : Room k (A.deeper (callEnv fd s.heap.objs.size su.addr)) := ⟨hh, by show A.depth + 1 + 2 * k + 10 < 1000; omega, by show A.units + 3 + 20 * k + 200 < 9900; omega⟩
    have hP := P_all hg hc fuel
    have hS := S_all hg hc fuel
    -- self
    obtain ⟨hself, hrest⟩ : ∃ val, vals.head? = some val ∧ VR W val (.obj su.C i) := by cases hv with | cons a r => exact ⟨_, rfl, a⟩
    obtain ⟨hselfE, hselfV⟩ := hrest
    cases hselfV with
    | @obj xa _ _ hlt hJ =>
    have hx : s.heap.get? xa = some (instObj su.C (W.ρ i)) := wr.jle _ _ hJ
    have hkindOf : ∀ y, (callEnv fd s.heap.objs.size su.addr).kindOf y = su.names.lookup y := fun y => by rw [← hnm]; rfl
    refine ks_wpAt_execs_cons (ks_wpAt_Expr_any (ks_wpAt_MethodCall ?_ (call_form hline hstar hfew)) (interactive_no hk) rfl)
    have X0 : K.In h₀ := X.keeps kp
    refine ks_wpAt_super_base (f := su.addr) (fd := fd) (ar := ar) (cc := cda) (vs := fvs) (file := file) (tf := tf) (by rw [hkindOf]; exact so.nsup) (by rw [hkindOf]; exact so.ncls) (by decide +kernel) rfl (X0 _ _ ho) rfl har hcode (X0 _ _ hcda) rfl hvs hfile so.top ?_
    refine ks_loadName_global hk (by rw [hkindOf]; exact so.nsup) (so.gl _ _ _ _ _ hgl hbl wr0.keepH ⟨rfl, ?_⟩)
    refine wpAny_loadName_free hk (by rw [hkindOf]; exact so.ncls) (by rw [hcellsE]; simp [List.lookup]) ⟨occ, wr0.keepH _ _ hcc1, hcc2⟩ ?_
    have hself0 : (fun x => (su.params.zip vals).reverse.lookup x) ar.arg = some (.ref xa) := by
      refine lookup_rev _ (by rw [hkeys]; exact so.nodup) ?_
      cases hps : su.params with
      | nil => rw [hps] at hpar; (first | exact nos hpar | exact nof hpar | exact nos2 hpar | exact nof2 hpar | cases hpar)
      | cons p ps =>
        rw [hps] at hpar
        cases hvals : vals with
        | nil => rw [hvals] at hselfE; (first | exact nos hselfE | exact nof hselfE | exact nos2 hselfE | exact nof2 hselfE | cases hselfE)
        | cons a as =>
          rw [hvals] at hselfE
          cases hpar; (first | exact nos hselfE | exact nof hselfE | exact nos2 hselfE | exact nof2 hselfE | cases hselfE)
          simp [List.zip_cons_cons, List.lookup]
    have harL : su.names.lookup ar.arg = some .local := by
      refine so.loc _ ?_
      cases hps : su.params with
      | nil => rw [hps] at hpar; (first | exact nos hpar | exact nof hpar | exact nos2 hpar | exact nof2 hpar | cases hpar)
      | cons p ps => rw [hps] at hpar; cases hpar; exact .head _
    refine wpAny_loadName_local hk (by rw [hkindOf]; exact harL) hns hself0 ?_
    obtain ⟨oD, hD1, hD2⟩ : ∃ oD, h₀.get? D = some oD ∧ oD.data = .cls cdD := by
      unfold clsIn at hD
      split at hD
      · rename_i c d cd' sl ho
        (first | exact nos hD | exact nof hD | exact nos2 hD | exact nof2 hD | cases hD)
        exact ⟨_, X0 _ _ ho, rfl⟩
      · (first | exact nos hD | exact nof hD | exact nos2 hD | exact nof2 hD | cases hD)
    refine ks_wpAny_isType_cls (h := h₀) hD1 hD2 ⟨rfl, ?_⟩
    refine ks_wpAny_call_super (h := h₀) hD1 hD2 (kp _ _ hx) rfl (fun c e => by (first | exact nos e | exact nof e | exact nos2 e | exact nof2 e | cases e)) (looks_mroIn X0 hsub) (fun h1' hso k1 => ?_)
    have X1 : K.In h1' := X0.keeps k1
    have hmro : ∃ cd, clsIn K su.C = some cd := Option.isSome_iff_exists.mp so.isC
    obtain ⟨cd, hcdC⟩ := hmro
    have hal : alongIn K "__init__" ((cd.mro.dropWhile (· != .ref D)).drop 1) = some (some (.ref su.base)) := by
      unfold ks_superIn at hsuper
      rw [hcdC] at hsuper
      exact hsuper
    obtain ⟨ofb, hofb, hofc⟩ : ∃ of, h1'.get? su.base = some of ∧ of.cls = .type "function" := by
      have ht' : (K.lookup su.base).map (·.cls) = some (.type "function") := so.baseT
      cases z : K.lookup su.base with
      | none => rw [z] at ht'; cases ht'
      | some of => rw [z] at ht'; exact ⟨of, X1 _ _ z, Option.some.inj ht'⟩
    have hxC : xa ≠ su.C := by
      rintro rfl
      unfold clsIn at hcdC
      split at hcdC
      · rename_i c d cd' sl ho
        have := X _ _ ho
        rw [hx] at this
        (first | exact nos this | exact nof this | exact nos2 this | exact nof2 this | cases this)
      · (first | exact nos hcdC | exact nof hcdC | exact nos2 hcdC | exact nof2 hcdC | cases hcdC)
    refine ks_wpAny_getMethod_super (h := h1') hso (looks_opaque X1 so.opq) (l₀ := cd.mro) (fun A Q E s k q => wpAny_bind ((looks_clsIn X1 hcdC) A _ E s k (wpAny_pure q))) rfl X1 hal hofb hofc hxC (by decide +kernel) ?_
    -- the state behind it
    have k2 : ∀ b o, h1'.get? b = some o → (h1'.push (methodObj (.ref su.base) (.ref xa))).get? b = some o := fun b o e => Heap.get?_push_of_some _ e
    have e1 : Ext [] W { s with heap := h₀, toks := s.toks + (su.params.zip vals).length } W { s with heap := h1'.push (methodObj (.ref su.base) (.ref xa)), toks := s.toks + (su.params.zip vals).length + 1 } := .grow [] fun b o e => k2 b o (k1 b o e)
    have wr1 : WR prog w H W hp (h1'.push (methodObj (.ref su.base) (.ref xa))) := wr0.grow fun b o e => k2 b o (k1 b o e)
    have x1 := x0.ext e1
    have hq1 : (h1'.push (methodObj (.ref su.base) (.ref xa))).get? h1'.objs.size = some (methodObj (.ref su.base) (.ref xa)) := Heap.get?_push_size _ rfl
    obtain ⟨hs, tr⟩ := hP.es h1
    have hqR : ∀ i, i < W.n → W.ρ i ≠ h1'.objs.size := fun j hj q => by
      obtain ⟨o, ho⟩ := wr0.alive hj
      have := k1 _ _ ho
      rw [q, fresh_size] at this; (first | exact nos this | exact nof this | exact nos2 this | exact nof2 this | cases this)
    refine callV (P := MethP K h1'.objs.size su.base (.ref xa)) hs (keeps_M so.base) (tr pos _ _ _ W _ _ _ _ wr1 x1 rm' fun W2 s2 as e2 wr2 vas => ⟨⟨e2.keep _ _ (by simp) hqR hq1, wr2.inK hg.inK⟩, wpAny_call ?_⟩)
    refine ks_codeAny_call_bound (e2.keep _ _ (by simp) hqR hq1) ?_
    have hvs2 : VR W2 (.ref xa) (.obj su.C i) := (VR.obj hlt hJ).mono e2.le
    refine hc su.base _ hp1 u hp2 h2 W2 s2 _ _ _ wr2 (.cons hvs2 vas) rm'.c fun W3 s3 val e3 wr3 _ => wpAt_of_wpAny ?_
    have x3 := (x1.ext e2).ext e3
    refine hS.ss h3 _ _ W3 s3 _ _ _ wr3 x3 rm' fun W4 s4 f e4 wr4 x4 hfl => ?_
    have eAll : Ext [] W s W4 s4 := ((((e0.trans e1).trans e2).trans e3).weaken.trans e4).drop fun b hb _ => by
      rw [List.mem_singleton] at hb; subst hb; exact fresh_size _
    have hval2 : VR W4 (flowVal f) (flV fl) := by
      cases fl with
      | next => cases hfl; exact .none
      | ret u => obtain ⟨val, rfl, hv⟩ := hfl; exact hv
    exact hR W4 s4 (flowVal f) eAll wr4 hval2
  · (first | exact nos h | exact nof h | exact nos2 h | exact nof2 h | cases h)

/-- the functions of the text answer as callF says -/
theorem callF_ok (hg : GoodCx prog w K H cx) {su : Sup} (hsu : SupOK prog w K H su) (fs : List Fn) (hf : ∀ f ∈ fs, FnOK H f) (hlim : H.NoLimit) : ∀ k, CallOK prog w H (callF cx su fs k) k
  | 0 => fun f vs hp v hp' h => by (first | exact nos h | exact nof h | exact nos2 h | exact nof2 h | cases h)
  | k + 1 => by
    intro a vs hp v hp' h W s A vals R wr hv rm hR
    have hS := S_all hg (callF_ok hg hsu fs hf hlim k) fuel
    by_cases hsa : a = su.addr
    · subst hsa
      have h0 : supF cx (callF cx su fs k) su vs hp = some (v, hp') := by
        have := h
        unfold callF at this
        rw [if_pos rfl] at this
        exact this
      exact sup_ok hg (callF_ok hg hsu fs hf hlim k) hsu hlim h0 wr hv rm hR
    have h0 : (match fs.find? fun f => f.addr == a with
      | Option.none => Option.none
      | some f => if vs.length = f.params.length then
          (exSs cx (callF cx su fs k) fuel f.names f.body (f.params.zip vs) hp).bind fun (fl, _, hp1) =>
            if f.pure then guardR (hpEq (hp1.take hp.length) hp) ((froz hp.length hp1 (flV fl)).bind fun v => some (v, hp)) else some (flV fl, hp1)
        else Option.none) = some (v, hp') := by
      have := h
      unfold callF at this
      rw [if_neg hsa] at this
      exact this
    clear h
    split at h0
    · (first | exact nos h0 | exact nof h0 | exact nos2 h0 | exact nof2 h0 | cases h0)
    · rename_i f hfind
      have hmem := List.mem_of_find?_eq_some hfind
      have haddr : f.addr = a := by simpa using List.find?_some hfind
      subst haddr
      refine iteSE h0 ?_; clear h0; intro hl h0
      obtain ⟨⟨fl, env1, hp1⟩, hrun, h0⟩ := bd h0
      dsimp only at h0
      have ok := hf f hmem
      obtain ⟨oc, od, fd, osl, ho, hbody, hclo, hgl, hbl, hnm, hk, hco, hgen, hbind, hcd⟩ := ok.fd
      have hvl : vals.length = f.params.length := by rw [hv.length, hl]
      obtain ⟨hh, hdep, hun⟩ := rm
      have hroom : A.depth < recursionLimit := by show A.depth < 1000; omega
      have hcd' : s.heap.CodeRec fd.code fd.qualname := by
        obtain ⟨c, o, xs, t, e1, e2, e3, e4⟩ := hcd
        exact ⟨c, o, xs, t, e1, wr.keepH _ _ e2, e3, e4⟩
      refine codeAny_call_cells hroom (wr.keepH _ _ ho) rfl (hlim.keeps wr.keepH) hcd' hbody (hbind vals hvl) hclo (fun x hx => ?_) (fun s1 x => ?_) hco hgen hk
      · have hxp : x.1 ∈ f.params := (List.of_mem_zip hx).1
        rw [hnm]
        rcases ok.par x.1 hxp with q | q
        · exact .inl q
        · refine .inr ⟨q, ?_⟩
          obtain ⟨c, hc⟩ := lookup_of_mem (cellsFrom_has f.names (s.heap.objs.size + 1) x.1 (mem_of_lookup q))
          rw [hc]; rfl
      · obtain ⟨own, x1, ownN, e1, wr1⟩ := callEnv_ok hnm hk hgl hbl ok wr hv hl x
        have rm' : Room k (A.deeper (callEnvC fd s.heap.objs.size f.addr)) := ⟨hh, by show A.depth + 1 + 2 * k + 10 < 1000; omega, by show A.units + 3 + 20 * k + 200 < 9900; omega⟩
        refine hS.ss hrun _ own W s1 _ _ _ wr1 x1 rm' fun W2 s2 fl' e2 wr2 x2 hfl => ?_
        have e12 : Ext [] W s W2 s2 := (e1.weaken.trans e2).drop fun b hb _ => ownN b hb
        have hval2 : VR W2 (flowVal fl') (flV fl) := by
          cases fl with
          | next => cases hfl; exact .none
          | ret u => obtain ⟨val, rfl, hv⟩ := hfl; exact hv
        show R (.ok (.ret (flowVal fl'))) s2
        generalize flowVal fl' = val at hval2
        generalize flV fl = z at hval2 h0
        by_cases hpure : f.pure = true
        · rw [if_pos hpure] at h0
          obtain ⟨htake, h0⟩ := guardS h0
          refine bd1 h0 ?_; clear h0; intro u hfz h0
          obtain ⟨rfl, rfl⟩ := so h0
          have eC := e12.cut
          have wC := wr.cut wr2 e12.le ((hpEq_iff _ _).mp htake)
          have flat : froz hp.length hp1 z = (if noRef z = true then some z else Option.none) → R (.ok (.ret val)) s2 := fun q => by
            rw [q] at hfz
            refine iteSE hfz ?_; clear hfz; intro hz hfz
            (first | exact nos hfz | exact nof hfz | exact nos2 hfz | exact nof2 hfz | cases hfz)
            exact hR _ s2 val eC wC (hval2.cut (noRef_bnd _ _ hz))
          cases hval2 with
          | @ref i hi =>
            unfold froz at hfz
            dsimp only at hfz
            refine iteSE hfz ?_; clear hfz; intro hle hfz
            split at hfz
            · rename_i l hl1
              refine iteSE hfz ?_; clear hfz; intro hnr hfz
              (first | exact nos hfz | exact nof hfz | exact nos2 hfz | exact nof2 hfz | cases hfz)
              obtain ⟨vs', kk, g1, g2⟩ := wr2.ob i _ hl1
              have hJ : (W2.cut W.n).J (W2.ρ i) = none := wr2.jr i hi
              have hR' : ∀ j, j < (W2.cut W.n).n → (W2.cut W.n).ρ j ≠ W2.ρ i := fun j hj q => by
                have hj' : j < W.n := hj
                have := wr2.inj j i (Nat.lt_of_lt_of_le hj' e12.le.n) hi q
                have hn := wr.n_eq
                omega
              have hD0 : s.heap.get? (W2.ρ i) = none := e12.freshR i (by rw [wr.n_eq]; exact hle) hi
              exact hR _ s2 _ (eC.seal hD0 hJ) (wC.seal hJ hR' g1) (.lst Wd.add_self ((g2.cut (noRefs_bnd _ _ hnr)).mono (Wd.le_add hJ)))
            · (first | exact nos hfz | exact nof hfz | exact nos2 hfz | exact nof2 hfz | cases hfz)
          | none => exact flat rfl
          | bool b => exact flat rfl
          | int i t => exact flat rfl
          | str x t => exact flat rfl
          | tup e r => exact flat rfl
          | lst e r => exact flat rfl
          | obj h1 h2 => exact flat rfl
        · rw [if_neg hpure] at h0
          obtain ⟨rfl, rfl⟩ := so h0
          exact hR W2 s2 val e12 wr2 hval2
end
end Mine
end

section
open PySem PySem.W PyProof.Rows PySem.Spec PySem.SeqAt PySem.Calls
namespace Mine
/-! ## what is known of the text's own heap -/
noncomputable def fdOf (K : Frag) (a : Addr) : Option FuncData := match K.lookup a with
  | some ⟨_, _, .func fd, _⟩ => some fd
  | _ => none
theorem fdOf_at {K : Frag} {a : Addr} {fd : FuncData} (h : fdOf K a = some fd) : ∃ oc od osl, K.lookup a = some ⟨oc, od, .func fd, osl⟩ := by
  unfold fdOf at h
  split at h
  · rename_i oc od fd' osl e
    (first | exact nos h | exact nof h | exact nos2 h | exact nof2 h | cases h)
    exact ⟨oc, od, osl, e⟩
  · (first | exact nos h | exact nof h | exact nos2 h | exact nof2 h | cases h)
/-- the parts of a function that the evaluator reads -/
noncomputable def fdIs (fd : FuncData) (body : List Stmt) (names : Nm) : Prop :=
  fd.body = .stmts body ∧ fd.closure = [] ∧ fd.globals = mainGlobals ∧ fd.builtins = builtinsNs ∧ fd.scope.names = names ∧ fd.scope.kind = .function ∧ fd.scope.isCoroutine = false ∧ fd.scope.isGenerator = false

noncomputable def fnChk (f : Fn) : Bool := (f.params.all fun x => match f.names.lookup x with | some .local | some .cell => true | _ => false) && (f.names.lookup ("__debug__" : Str)).isNone && (f.names.lookup ("__classdict__" : Str)).isNone

theorem fnChk_par {f : Fn} (h : fnChk f = true) : ∀ x ∈ f.params, f.names.lookup x = some .local ∨ f.names.lookup x = some .cell := by
  unfold fnChk at h
  simp only [Bool.and_eq_true] at h
  intro x hx
  have := List.all_eq_true.mp h.1.1 x hx
  split at this
  · rename_i q; exact .inl q
  · rename_i q; exact .inr q
  · (first | exact nos this | exact nof this | exact nos2 this | exact nof2 this | cases this)

theorem fn_ok {K : Frag} {H : Heap} (X : K.In H) {f : Fn} (fd : FuncData) (e : fdOf K f.addr = some fd) (h : fdIs fd f.body f.names) (hb : ∀ vals : List Value, vals.length = f.params.length → bindArgs fd ⟨vals, []⟩ = pure (f.params.zip vals)) (hc : codeIn K fd.code fd.qualname = true) (hk : fnChk f = true) (hn : f.params.Nodup) : FnOK H f := by
  obtain ⟨oc, od, osl, e⟩ := fdOf_at e
  obtain ⟨h1, h2, h3, h4, h5, h6, h7, h8⟩ := h
  refine ⟨⟨oc, od, fd, osl, X _ _ e, h1, h2, h3, h4, h5, h6, h7, h8, hb, codeRec_of X hc⟩, fnChk_par hk, hn, ?_, ?_⟩
  · unfold fnChk at hk
    simp only [Bool.and_eq_true] at hk
    simpa using hk.1.2
  · unfold fnChk at hk
    simp only [Bool.and_eq_true] at hk
    simpa using hk.2

theorem of_all {α : Type} {p : α → Bool} {l : List (Str × α)} {x : Str} {a : α} (h : (l.all fun q => p q.2) = true) (e : l.lookup x = some a) : p a = true := List.all_eq_true.mp h _ (mem_of_lookup e)
theorem of_all2 {α : Type} {p : Str × α → Bool} {l : List (Str × α)} {x : Str} {a : α} (h : l.all p = true) (e : l.lookup x = some a) : p (x, a) = true := List.all_eq_true.mp h _ (mem_of_lookup e)
end Mine
end

section
open PySem PySem.W PyProof.Rows
namespace Mine
/-! ## the functions of the text -/
noncomputable def topAt (i : Nat) : Stmt := PySem.Challenge.pw_nz0024_01.main.body.getD i (.Pass ⟨0, 0, 0, 0⟩)
noncomputable def clsBody : Stmt → List Stmt
  | .ClassDef (body := b) .. => b
  | _ => []
noncomputable def methAt (c i : Nat) : Stmt := (clsBody (topAt c)).getD i (.Pass ⟨0, 0, 0, 0⟩)
noncomputable def parsOf : Stmt → List Str
  | .FunctionDef (args := a) .. => a.args.map (·.arg)
  | _ => []
noncomputable def namesOf : Stmt → Nm
  | .FunctionDef (scope := s) .. => s.names
  | _ => []
noncomputable def bodyOf : Stmt → List Stmt
  | .FunctionDef (body := b) .. => b
  | _ => []
noncomputable def mkFn (a : Addr) (st : Stmt) (p : Bool) : Fn := ⟨a, parsOf st, namesOf st, bodyOf st, p⟩

noncomputable def theCx : Cx where
  fns := [("_law_draw", 429), ("_law_bars", 436), ("_law_starts", 441), ("_law_holds", 446), ("_law_apart", 451), ("_law_keep", 456), ("_law_led", 461), ("_law_are_entries_right", 466), ("_law_is_led_right", 471), ("_law_is_within_right", 476),
    ("put_behind", 57), ("from_values", 64), ("least", 71), ("greatest", 78), ("up_to", 97), ("from_on", 102), ("without", 109), ("negation", 123), ("struck", 130), ("as_numbers", 340)]
  clss := [("Store", 287, 151), ("Disjunctive", 420, 356)]
  flds := [(287, ["domains", "firsts", "trail", "marks", "news", "speaker", "is_failed", "clash"]), (420, ["number", "scope", "strength", "lasts"])]
  meths := [(287, [("new_var", 158), ("dom", 172), ("low", 186), ("high", 193), ("enter", 235), ("strike", 242), ("decide", 249), ("fail", 256), ("push", 263), ("pop", 270)]), (420, [("tasks", 361), ("order_two", 368), ("within", 375), ("reasons_for", 382)])]

noncomputable def theFs : List Fn := [mkFn 429 (topAt 25) false, mkFn 436 (topAt 26) false, mkFn 441 (topAt 27) false, mkFn 446 (topAt 28) false, mkFn 451 (topAt 29) false, mkFn 456 (topAt 30) false, mkFn 461 (topAt 31) false, mkFn 466 (topAt 32) false, mkFn 471 (topAt 33) false,
  mkFn 476 (topAt 34) false, mkFn 481 (topAt 35) false,
  mkFn 57 (topAt 4) false, mkFn 64 (topAt 5) true, mkFn 71 (topAt 6) false, mkFn 78 (topAt 7) false, mkFn 97 (topAt 11) false, mkFn 102 (topAt 12) false, mkFn 109 (topAt 13) false, mkFn 123 (topAt 15) false, mkFn 130 (topAt 16) false, mkFn 340 (topAt 22) false,
  mkFn 151 (methAt 19 0) false, mkFn 158 (methAt 19 1) false, mkFn 172 (methAt 19 3) false, mkFn 186 (methAt 19 5) false, mkFn 193 (methAt 19 6) false, mkFn 235 (methAt 19 12) false, mkFn 242 (methAt 19 13) false, mkFn 249 (methAt 19 14) false, mkFn 256 (methAt 19 15) false, mkFn 263 (methAt 19 16) false, mkFn 270 (methAt 19 17) false,
  mkFn 305 (methAt 20 0) false, mkFn 361 (methAt 23 1) false, mkFn 368 (methAt 23 2) false, mkFn 375 (methAt 23 3) true, mkFn 382 (methAt 23 4) true]

noncomputable def supArgs : List Stmt → List Expr
  | .Expr (.Call _ args _ _) _ :: _ => args
  | _ => []
noncomputable def theSu : Sup where
  addr := 356
  base := 305
  C := 420
  params := parsOf (methAt 23 0)
  names := namesOf (methAt 23 0)
  args := supArgs (bodyOf (methAt 23 0))
  rest := (bodyOf (methAt 23 0)).tail

noncomputable def runLaw (l : List Int) : Rs V := callF theCx theSu theFs 40 481 [.lst (l.map .int)] []
end Mine
end

section
open PySem PySem.W PyProof.Rows
namespace Mine
/-! ## the top's run, in pieces, with no state written out: each state is forced by continuations -/
noncomputable def forceN {α : Type} (n : Nat) (k : Nat → α) : α := Nat.casesOn (motive := fun _ => α) n (k 0) fun m => k (m + 1)
theorem forceN_eq {α : Type} (n : Nat) (k : Nat → α) : forceN n k = k n := by cases n <;> rfl
noncomputable def forceL {α β : Type} (l : List β) : (List β → α) → α := List.rec (motive := fun _ => (List β → α) → α) (fun k => k []) (fun a _ ih k => ih fun l' => k (a :: l')) l
theorem forceL_eq {α β : Type} (l : List β) (k : List β → α) : forceL l k = k l := by
  induction l generalizing k with
  | nil => rfl
  | cons a l ih => exact ih _
noncomputable def forceO {α : Type} (o : Obj) (k : Obj → α) : α := Obj.casesOn (motive := fun _ => α) o fun c d x s => k ⟨c, d, x, s⟩
theorem forceO_eq {α : Type} (o : Obj) (k : Obj → α) : forceO o k = k o := rfl
noncomputable def forceT {α : Type} (t : BT) : (BT → α) → α :=
  BT.rec (motive := fun _ => (BT → α) → α) (fun k => k .nil) (fun v _ _ il ir k => forceO v fun v' => il fun l' => ir fun r' => k (.node v' l' r')) t
theorem forceT_eq {α : Type} (t : BT) (k : BT → α) : forceT t k = k t := by
  induction t generalizing k with
  | nil => rfl
  | node v l r il ir =>
    show forceO v (fun v' => forceT l fun l' => forceT r fun r' => k (.node v' l' r')) = _
    rw [forceO_eq, il, ir]
noncomputable def forceS {α : Type} (s : SharedT) (k : SharedT → α) : α :=
  SharedT.casesOn (motive := fun _ => α) s fun T n life gens drawn toks os => forceT T fun T' => forceN n fun n' => forceN toks fun toks' => k ⟨T', n', life, gens, drawn, toks', os⟩
theorem forceS_eq {α : Type} (s : SharedT) (k : SharedT → α) : forceS s k = k s := by
  obtain ⟨T, n, life, gens, drawn, toks, os⟩ := s
  show forceT T _ = _
  rw [forceT_eq, forceN_eq, forceN_eq]

/-- the tree of a list of objects -/
noncomputable def insOk (t : BT) (n : Nat) (o : Obj) : Option BT := if ((t.ins n o).get n).isSome then some (t.ins n o) else none
noncomputable def treeOf : List Obj → BT → Nat → Option (BT × Nat)
  | [], t, n => some (t, n)
  | o :: r, t, n => (insOk t n o).bind fun t => treeOf r t (n + 1)
theorem treeOf_ok {life : Life} {l : List Obj} {t t' : BT} {n n' : Nat} (h : treeOf l t n = some (t', n')) : absHeap t' n' life = ⟨(absHeap t n life).objs ++ l, life⟩ := by
  induction l generalizing t n with
  | nil =>
    cases h
    simp [absHeap]
  | cons o r ih =>
    refine bd1 h fun t1 e h => ?_
    refine iteSE e fun e1 e => ?_
    cases e
    rw [ih h, absHeap_ins e1]
    simp [Heap.push]
theorem treeOf_all {l : List Obj} {t : BT} {n : Nat} (h : treeOf l .nil 0 = some (t, n)) (life : Life) : absHeap t n life = ⟨l.toArray, life⟩ := by
  rw [treeOf_ok h]
  simp [absHeap, BT.list]

section
/-- the library's functions that the run is made of: as they are, or as their twins -/
structure Eng where
  tb : String → Option Builtin
  seg : (String → Option Builtin) → Program → World → Nat → Option Value → Nat → Nat → SharedT → Thread → Option (Flow × SharedT × Code × Pos)
  go : (String → Option Builtin) → Program → World → Nat → Option Value → Nat → Shared → Thread → Option (Shared × Thread)
  top : (String → Option Builtin) → Program → World → Nat → Option Value → Nat → Shared → Thread → Option Shared
  exs : List Stmt → Env → Sem Flow
  blk : List Stmt → Env → Sem Unit
noncomputable def eng : Eng := ⟨treeTable, segRunT, topGo, topRun, execs, blockStart⟩
noncomputable def engQ : Eng := ⟨Fast.tw14364793385576792824, Fast.tw10110043849684766642, Fast.tw15667345088766844465, Fast.tw14082659384304107361, Fast.tw12563942051412417395, Fast.tw1066825118222455980⟩
theorem engQ_eq : engQ = eng := by
  unfold eng
  rw [Fast.te14364793385576792824, Fast.te10110043849684766642, Fast.te15667345088766844465, Fast.te14082659384304107361, Fast.te12563942051412417395, Fast.te1066825118222455980]
  rfl
variable {p : Program} {w : World} {n₀ : Nat} {ann : Option Value} {env : Env} {q : Pos}
noncomputable def segN : Option (Flow × SharedT × Code × Pos) → Option (SharedT × Code × Pos)
  | some (.next, y) => some y
  | _ => none
theorem segN_eq {o : Option (Flow × SharedT × Code × Pos)} {y : SharedT × Code × Pos} (h : segN o = some y) : o = some (.next, y) := by
  cases o with
  | none => exact nos h
  | some z =>
    obtain ⟨f, z⟩ := z
    cases f <;> first | exact nos h | exact congrArg (fun y => some (Flow.next, y)) (Option.some.inj h)
noncomputable def runSts (g : Eng) (p : Program) (w : World) (n₀ : Nat) (ann : Option Value) (env : Env) (q : Pos) : List Stmt → SharedT → Code → Pos → Option Shared
  | [], s, c, x => g.top g.tb p w n₀ ann 2 s.abs ⟨doneF .next, c, x, [topFrame q]⟩
  | st :: r, s, c, x => (segN (g.seg g.tb p w n₀ ann 1 1000 s ⟨(g.exs [st] env).wrap doneF deadEnd id id, c, x, [topFrame q]⟩)).bind fun y => forceS y.1 fun s' => runSts g p w n₀ ann env q r s' y.2.1 y.2.2
theorem runSts_ok {r : Shared} {l : List Stmt} {s : SharedT} {c : Code} {x : Pos} (h : runSts eng p w n₀ ann env q l s c x = some r) : topRun treeTable p w n₀ ann (1000 * l.length + 2) s.abs (restOf l env c x [topFrame q]) = some r := by
  induction l generalizing s c x with
  | nil => exact h
  | cons st l ih =>
    refine bd1 h fun y e h => ?_
    rw [forceS_eq] at h
    obtain ⟨a, ha, hN⟩ := seg_top (res := id) (K' := fun f => match f with | .next => (execs l env).wrap doneF (leaveH env) id id | f => doneF f) (H' := leaveH env) (B := [topFrame q]) rfl 1000 s.abs (piecesOf [st] env c x [topFrame q])
      ⟨(execs [st] env).wrap (fun f => match f with | .next => (execs l env).wrap doneF (leaveH env) id id | f => doneF f) (leaveH env) id id, c, x, [topFrame q]⟩ .next y.1.abs y.2.1 y.2.2 ⟨rfl, rfl, .inl ⟨rfl, rfl, _, rfl, rfl⟩⟩ (segRun_of (segN_eq e))
    cases show a = .next from ha
    rw [List.length_cons, Nat.mul_succ, Nat.add_comm (1000 * l.length) 1000, Nat.add_assoc]
    unfold restOf
    rw [show st :: l = [st] ++ l from rfl, execs_app_wrap]
    exact hN _ r (ih h)

/-- the whole run behind the opening -/
noncomputable def runAll (g : Eng) (p : Program) (w : World) (n₀ : Nat) (ann : Option Value) (env : Env) (q : Pos) (b : List Stmt) (m : Nat) (s₀ : Shared) (t₀ : Thread) : Option Shared :=
  (g.go g.tb p w n₀ ann m s₀ t₀).bind fun y => (treeOf y.1.heap.objs.toList .nil 0).bind fun z => forceS ⟨z.1, z.2, y.1.heap.life, y.1.gens, y.1.drawn, y.1.toks, y.1.os⟩ fun s =>
    (segN (g.seg g.tb p w n₀ ann 1 1000 s ⟨(g.blk b env).wrap (fun _ => doneF .next) deadEnd id id, y.2.code, y.2.pos, [topFrame q]⟩)).bind fun y2 => forceS y2.1 fun s' => runSts g p w n₀ ann env q b s' y2.2.1 y2.2.2
theorem runAll_ok {b : List Stmt} {m : Nat} {s₀ r : Shared} {t₀ : Thread} {x : Pos} (h : runAll eng p w n₀ ann env q b m s₀ t₀ = some r) (ht : (topGo treeTable p w n₀ ann m s₀ t₀).map (·.2) = some ⟨denote treeTable (.body b env), .body b env, x, [topFrame q]⟩) :
    topRun treeTable p w n₀ ann (m + (1000 + (1000 * b.length + 2))) s₀ t₀ = some r := by
  refine bd1 h fun y e1 h => bd1 h fun z e2 h => ?_
  rw [forceS_eq] at h
  refine bd1 h fun y2 e3 hh => ?_
  rw [forceS_eq] at hh
  have e1 : topGo treeTable p w n₀ ann m s₀ t₀ = some y := e1
  obtain ⟨sa, ta⟩ := y
  rw [e1] at ht
  cases Option.some.inj ht
  have eS : (⟨z.1, z.2, sa.heap.life, sa.gens, sa.drawn, sa.toks, sa.os⟩ : SharedT).abs = sa := by
    obtain ⟨⟨⟨l⟩, life⟩, gens, drawn, toks, os⟩ := sa
    exact congrArg (Shared.mk · gens drawn toks os) (treeOf_all e2 life)
  obtain ⟨a, ha, hN⟩ := seg_top (res := fun _ : Unit => Flow.next) (K' := fun _ => (execs b env).wrap doneF (leaveH env) id id) (H' := Sem.raise) (B := [topFrame q]) rfl 1000 sa (blockOf b env (.body b env) x [topFrame q])
    ⟨(blockStart b env).wrap (fun _ => (execs b env).wrap doneF (leaveH env) id id) .raise id id, .body b env, x, [topFrame q]⟩ .next y2.1.abs y2.2.1 y2.2.2 ⟨rfl, rfl, .inl ⟨rfl, rfl, _, rfl, rfl⟩⟩ (eS ▸ segRun_of (segN_eq e3))
  refine go_top e1 ?_
  rw [body_wrap]
  exact hN _ r (runSts_ok hh)

noncomputable def s00 (w : World) (os : OsState) : Shared := ⟨boot_heap w.params, Array.mk [], boot_drawn, boot_toks, os⟩
theorem left_of {qv : Program} {loose : List Str} {Xt : Shared → Bool} {α : Type} {Yf : Shared → α} {Ya : World → α} {N m : Nat} {b : List Stmt} {x : Pos}
    (ho : ∀ w : World, (fencedOpening treeTable p w N).map (fun s => (s.heap, s.gens, s.drawn, s.toks)) = some (boot_heap w.params, Array.mk [], boot_drawn, boot_toks))
    (hs : ∀ w : World, ((boot_heap w.params).isNs mainGlobals, (boot_heap w.params).objs.size, (boot_heap w.params).nsMap mainGlobals "__annotations__") = (true, n₀, ann))
    (hr : ∀ (w : World) (os : OsState), (runAll engQ p w n₀ ann env q b m (s00 w os) (topStub p)).map (fun r => (staticsOk (importedModules p.main.body) (boot_heap w.params) r.heap && namesBound p r.heap && gensDone r && laidKept (boot_heap w.params) r.heap,
      openSeen qv loose (importedModules p.main.body) Xt true r, Yf r)) = some (true, openGood qv loose, Ya w))
    (hg : ∀ (w : World) (os : OsState), (topGo treeTable p w n₀ ann m (s00 w os) (topStub p)).map (·.2) = some ⟨denote treeTable (.body b env), .body b env, x, [topFrame q]⟩)
    (le : m + (1000 + (1000 * b.length + 2)) ≤ N) : LeftO p qv loose Xt Yf Ya N := fun w => by
  obtain ⟨⟨h, gs, d, k, os⟩, e, e'⟩ := Option.map_eq_some_iff.mp (ho w)
  simp only [Prod.mk.injEq] at e'
  obtain ⟨rfl, rfl, rfl, rfl⟩ := e'
  obtain ⟨z1, z2, z3⟩ : _ ∧ _ ∧ _ := by simpa only [Prod.mk.injEq] using hs w
  obtain ⟨r, h1, hl⟩ := Option.map_eq_some_iff.mp (hr w os)
  obtain ⟨l1, l2, l3⟩ : _ ∧ _ ∧ _ := by simpa only [Prod.mk.injEq] using hl
  rw [engQ_eq] at h1
  have run := topRun_mono (N - (m + (1000 + (1000 * b.length + 2)))) _ _ _ _ (runAll_ok h1 (hg w os))
  rw [Nat.add_sub_cancel' le] at run
  have t : topFrom treeTable p w N ⟨boot_heap w.params, Array.mk [], boot_drawn, boot_toks, os⟩ = some r := by
    unfold topFrom
    dsimp only
    rw [z1, z2, z3]
    unfold s00 at run
    rw [run]
    show (match staticsOk (importedModules p.main.body) (boot_heap w.params) r.heap && namesBound p r.heap && gensDone r && laidKept (boot_heap w.params) r.heap with | true => _ | false => _) = _
    rw [l1]
  unfold openEnds
  rw [e]
  show (topFrom treeTable p w N _).map _ = _
  rw [t, Option.map_some, l2, l3]
end
end Mine
end

section
open PySem PySem.W PyProof.Rows PySem.Calls
set_option maxRecDepth 100000
namespace Mine
/-! ## what is seen of the heap that the top leaves -/
noncomputable def fragAt (l : List Addr) (h : Heap) : Frag := l.filterMap fun a => (h.get? a).map fun o => (a, o)
theorem fragAt_in (h : Heap) : ∀ (l : List Addr), (fragAt l h).In h
  | [], _, _, e => by (first | exact nos e | exact nof e | exact nos2 e | exact nof2 e | cases e)
  | b :: r, a, o, e => by
    have ih := fragAt_in h r
    unfold fragAt at e
    rw [List.filterMap_cons] at e
    cases hb : h.get? b with
    | none => rw [hb] at e; exact ih a o e
    | some x =>
      rw [hb] at e
      rw [Option.map_some] at e
      dsimp only at e
      rw [List.lookup_cons] at e
      cases q : a == b with
      | true => rw [q] at e; cases e; rw [beq_iff_eq.mp q]; exact hb
      | false => rw [q] at e; exact ih a o e

abbrev FdObs := FuncBody × List (Str × Addr) × (Addr × Addr) × Nm × ScopeKind × (Bool × Bool) × ((Nat → Value) → Sem (List (Str × Value)))
noncomputable def fdObs (n : Nat) (fd : FuncData) : FdObs :=
  (fd.body, fd.closure, (fd.globals, fd.builtins), fd.scope.names, fd.scope.kind, (fd.scope.isCoroutine, fd.scope.isGenerator), fun g => bindArgs fd ⟨(List.range n).map g, []⟩)
noncomputable def expObs (body : List Stmt) (cl : List (Str × Addr)) (names : Nm) (ps : List Str) : FdObs :=
  (.stmts body, cl, (mainGlobals, builtinsNs), names, .function, (false, false), fun g => pure (ps.zip ((List.range ps.length).map g)))
theorem range_getD (l : List Value) : (List.range l.length).map (fun i => l.getD i .none) = l := List.ext_getElem (by simp) fun i h1 h2 => by simp [h2]
theorem obs_at {n : Nat} {fd : FuncData} {body : List Stmt} {cl : List (Str × Addr)} {names : Nm} {ps : List Str} (h : fdObs n fd = expObs body cl names ps) (hn : ps.length = n) :
    fd.closure = cl ∧ (fd.body = .stmts body ∧ fd.globals = mainGlobals ∧ fd.builtins = builtinsNs ∧ fd.scope.names = names ∧ fd.scope.kind = .function ∧ fd.scope.isCoroutine = false ∧ fd.scope.isGenerator = false ∧
      ∀ vals : List Value, vals.length = ps.length → bindArgs fd ⟨vals, []⟩ = pure (ps.zip vals)) :=
  ⟨congrArg (fun x => x.2.1) h, congrArg (fun x => x.1) h, congrArg (fun x => x.2.2.1.1) h, congrArg (fun x => x.2.2.1.2) h, congrArg (fun x => x.2.2.2.1) h, congrArg (fun x => x.2.2.2.2.1) h, congrArg (fun x => x.2.2.2.2.2.1.1) h, congrArg (fun x => x.2.2.2.2.2.1.2) h,
    fun vals hv => by
      have e := congrFun (congrArg (fun x => x.2.2.2.2.2.2) h) fun i => vals.getD i .none
      have e : bindArgs fd ⟨(List.range n).map (fun i => vals.getD i .none), []⟩ = pure (ps.zip ((List.range ps.length).map fun i => vals.getD i .none)) := e
      rw [← hn, ← hv, range_getD] at e
      exact e⟩

/-- the addresses that are looked at -/
noncomputable def keepL : List Addr := [2, 3, 287, 420, 56, 57, 63, 64, 70, 71, 77, 78, 96, 97, 101, 102, 108, 109, 122, 123, 129, 130, 150, 151, 157, 158, 171, 172, 185, 186, 192, 193, 234, 235, 241, 242, 248, 249, 255, 256, 262, 263, 269, 270, 286, 304, 305, 328, 329, 339, 340, 344, 355, 356, 360, 361, 367, 368, 374, 375, 381, 382, 419, 428, 429, 435, 436, 440, 441, 445, 446, 450, 451, 455, 456, 460, 461, 465, 466, 470, 471, 475, 476, 480, 481]
/-- what is looked at, beside the functions -/
noncomputable def kTests (K : Frag) : Bool :=
  nsIn K mainGlobals "law" == some (some (.ref 481)) &&
  (theCx.fns.all fun q => nsIn K mainGlobals q.1 == some (some (.ref q.2)) && keepIn K (.ref q.2)) &&
  (theCx.clss.all fun q => nsIn K mainGlobals q.1 == some (some (.ref q.2.1)) && keepIn K (.ref q.2.1) && makesIn K q.2.1 && findIn K (.ref q.2.1) "__init__" == some (some (.ref q.2.2)) && typeIn K (.ref q.2.2) == some (.type "function")) &&
  (theCx.meths.all fun q => q.2.all fun r => findIn K (.ref q.1) r.1 == some (some (.ref r.2)) && typeIn K (.ref r.2) == some (.type "function") && keepIn K (.ref r.2)) &&
  (theCx.flds.all fun q => findIn K (.ref q.1) "__getattribute__" == some (some (.builtin "object.__getattribute__")) && findIn K (.ref q.1) "__getattr__" == some none && findIn K (.ref q.1) "__setattr__" == some (some (.builtin "object.__setattr__")) &&
    plainOver K q.1 && hasDictIn K q.1 && q.2.all fun x => findIn K (.ref q.1) x == some none) &&
  (([("len" : Str), "min", "max", "sorted", "tuple", "all", "list", "range", "super"] : List Str).all fun x => nsIn K mainGlobals x == some none) &&
  (theFs.all fun f => (fdOf K f.addr).any fun fd => codeIn K fd.code fd.qualname) &&
  (fnIn K theSu.base && typeIn K (.ref theSu.base) == some (.type "function") && nsIn K cStatics "thirdparty.any" == some none && (clsIn K theSu.C).isSome)
noncomputable def fnsObs (K : Frag) : List (Option FdObs) := theFs.map fun f => (fdOf K f.addr).map (fdObs f.params.length)
noncomputable def fnsExp : List (Option FdObs) := theFs.map fun f => some (expObs f.body [] f.names f.params)

abbrev SuObs := FdObs × Bool × Option Str × Bool × Bool × Option Bool × Option (Option Value)
noncomputable def clo1 : List (Str × Addr) → Option Addr
  | [(_, c)] => some c
  | _ => none
theorem clo1_eq {l : List (Str × Addr)} {c : Addr} (h : clo1 l = some c) : ∃ n, l = [(n, c)] := by
  rcases l with _ | ⟨⟨n, d⟩, _ | ⟨_, _⟩⟩
  · exact nos h
  · exact ⟨n, by rw [show d = c from Option.some.inj h]⟩
  · exact nos h
noncomputable def refOf : Value → Option Addr
  | .ref a => some a
  | _ => none
theorem refOf_eq {v : Value} {a : Addr} (h : refOf v = some a) : v = .ref a := by cases v <;> first | exact nos h | exact congrArg _ (Option.some.inj h)
noncomputable def fldsOf : Data → Option (Array Value)
  | .fields vs => some vs
  | _ => none
theorem fldsOf_eq {d : Data} {vs : Array Value} (h : fldsOf d = some vs) : d = .fields vs := by cases d <;> first | exact nos h | exact congrArg _ (Option.some.inj h)
noncomputable def cellOf' : Data → Option Value
  | .cell v => v
  | _ => none
theorem cellOf'_eq {d : Data} {v : Value} (h : cellOf' d = some v) : d = .cell (some v) := by cases d <;> first | exact nos h | exact congrArg _ h
noncomputable def suObs (K : Frag) (file : Str) : Option SuObs :=
  (fdOf K 356).bind fun fd => (clo1 fd.closure).bind fun cc => (refOf fd.code).bind fun cda => (K.lookup cda).bind fun o1 => (fldsOf o1.data).bind fun vs => (K.lookup cc).bind fun o2 => (cellOf' o2.data).bind fun v => (refOf v).bind fun D =>
    some (fdObs 3 fd, codeIn K fd.code fd.qualname, (fd.params.posonlyargs ++ fd.params.args).head?.map (·.arg), (match (vs[2]? : Option Value) with | some (.str f _) => file == f | _ => false), (clsIn K D).isSome, mroIn K theSu.C (.ref D), ks_superIn K theSu.C D "__init__")
noncomputable def suExp : Option SuObs := some (expObs (bodyOf (methAt 23 0)) [("__class__", 344)] theSu.names theSu.params, true, theSu.params.head?, true, true, some true, some (some (.ref theSu.base)))

noncomputable def kObs (K : Frag) : Bool × List (Option FdObs) × Option SuObs := (kTests K, fnsObs K, suObs K PySem.Challenge.pw_nz0024_01.main.file)
noncomputable def kExp : Bool × List (Option FdObs) × Option SuObs := (true, fnsExp, suExp)
end Mine
end

section
open PySem PySem.W PyProof.Rows
set_option maxRecDepth 100000
set_option maxHeartbeats 0
namespace Mine
/-! ## the top's run -/
noncomputable abbrev thePw : Program := PySem.Challenge.pw_nz0024_01
noncomputable def theEnv : Env := { scope := thePw.main.scope, locals := mainNs, globals := mainNs, cells := [], code := .ref 13, frame := some 14 }
noncomputable def theQ : Pos := ⟨0, 0, 0, 0⟩
/-- the text, seen as its last definition alone -/
noncomputable def theQv : Program := { thePw with main := { thePw.main with body := [topAt 35] } }
noncomputable def theLoose : List Str := (thePw.main.body.dropLast).flatMap bindsAtTop
noncomputable def theRun (w : World) (os : OsState) : Option Shared := runAll engQ thePw w 11 (some (.ref 6)) theEnv theQ (behindTheImports thePw) 12 (s00 w os) (topStub thePw)
theorem h_go (w : World) (os : OsState) : (topGo treeTable thePw w 11 (some (.ref 6)) 12 (s00 w os) (topStub thePw)).map (·.2) = some ⟨denote treeTable (.body (behindTheImports thePw) theEnv), .body (behindTheImports thePw) theEnv, theQ, [topFrame theQ]⟩ := by kernel_rfl
theorem h_all (w : World) (os : OsState) : (theRun w os).map (fun r => (staticsOk (importedModules thePw.main.body) (boot_heap w.params) r.heap && namesBound thePw r.heap && gensDone r && laidKept (boot_heap w.params) r.heap,
    openSeen theQv theLoose (importedModules thePw.main.body) (fun _ => true) true r, kObs (fragAt keepL r.heap))) = some (true, openGood theQv theLoose, kExp) := by kernel_rfl
theorem h_size (w : World) : ((boot_heap w.params).isNs mainGlobals, (boot_heap w.params).objs.size, (boot_heap w.params).nsMap mainGlobals "__annotations__") = (true, 11, some (.ref 6)) := by kernel_rfl
theorem h_len : (behindTheImports thePw).length = 36 := by kernel_rfl
theorem h_open : opening thePw = plainProg thePw.main.scope.names := by kernel_rfl
theorem h_fence (s : Shared) : fenceModules? thePw s = some s := by kernel_rfl

theorem h_left : LeftO thePw theQv theLoose (fun _ => true) (fun s => kObs (fragAt keepL s.heap)) (fun _ => kExp) 100000 :=
  left_of (boot_open h_open (by decide) h_fence) h_size h_all h_go (by rw [h_len]; decide)
end Mine
end

section
open PySem PySem.W PyProof.Rows PySem.Calls
set_option maxRecDepth 100000
set_option maxHeartbeats 4000000
namespace Mine
section
variable {w : World} {H : Heap} {K : Frag} {loose : List Str} {mean : ExcName → Option Value} {mg mb : Str → Option Value} {p : Program}
theorem k_split (O : kObs K = kExp) : (nsIn K mainGlobals "law" = some (some (.ref 481)) ∧
  (∀ q ∈ theCx.fns, nsIn K mainGlobals q.1 = some (some (.ref q.2)) ∧ keepIn K (.ref q.2) = true) ∧
  (∀ q ∈ theCx.clss, (((nsIn K mainGlobals q.1 = some (some (.ref q.2.1)) ∧ keepIn K (.ref q.2.1) = true) ∧ makesIn K q.2.1 = true) ∧ findIn K (.ref q.2.1) "__init__" = some (some (.ref q.2.2))) ∧ typeIn K (.ref q.2.2) = some (.type "function")) ∧
  (∀ q ∈ theCx.meths, ∀ r ∈ q.2, (findIn K (.ref q.1) r.1 = some (some (.ref r.2)) ∧ typeIn K (.ref r.2) = some (.type "function")) ∧ keepIn K (.ref r.2) = true) ∧
  (∀ q ∈ theCx.flds, ((((findIn K (.ref q.1) "__getattribute__" = some (some (.builtin "object.__getattribute__")) ∧ findIn K (.ref q.1) "__getattr__" = some none) ∧ findIn K (.ref q.1) "__setattr__" = some (some (.builtin "object.__setattr__"))) ∧
    plainOver K q.1 = true) ∧ hasDictIn K q.1 = true) ∧ ∀ x ∈ q.2, findIn K (.ref q.1) x = some none)) ∧
  ((∀ x ∈ ([("len" : Str), "min", "max", "sorted", "tuple", "all", "list", "range", "super"] : List Str), nsIn K mainGlobals x = some none) ∧
  (∀ f ∈ theFs, ∃ fd, fdOf K f.addr = some fd ∧ codeIn K fd.code fd.qualname = true) ∧
  (((fnIn K theSu.base = true ∧ typeIn K (.ref theSu.base) = some (.type "function")) ∧ nsIn K cStatics "thirdparty.any" = some none) ∧ (clsIn K theSu.C).isSome = true)) := by
  have h : kTests K = true := congrArg Prod.fst O
  unfold kTests at h
  simp only [Bool.and_eq_true, List.all_eq_true, beq_iff_eq, Option.any_eq_true] at h
  obtain ⟨⟨⟨⟨⟨⟨⟨h1, h2⟩, h3⟩, h4⟩, h5⟩, h6⟩, h7⟩, h8⟩ := h
  exact ⟨⟨h1, h2, h3, h4, h5⟩, h6, h7, h8⟩

theorem fs_chk : (theFs.all fun f => fnChk f && decide f.params.Nodup) = true := by kernel_rfl
theorem fs_ok (X : K.In H) (O : kObs K = kExp) : ∀ f ∈ theFs, FnOK H f := fun f hf => by
  obtain ⟨fd, e, hc⟩ := (k_split O).2.2.1 f hf
  have h2 : fnsObs K = fnsExp := congrArg (fun x => x.2.1) O
  have h3 := List.map_inj_left.mp h2 f hf
  rw [e] at h3
  have ck := List.all_eq_true.mp fs_chk f hf
  simp only [Bool.and_eq_true, decide_eq_true_eq] at ck
  have b := obs_at (Option.some.inj h3) rfl
  exact fn_ok X fd e ⟨b.2.1, b.1, b.2.2.1, b.2.2.2.1, b.2.2.2.2.1, b.2.2.2.2.2.1, b.2.2.2.2.2.2.1, b.2.2.2.2.2.2.2.1⟩ b.2.2.2.2.2.2.2.2 hc ck.1 ck.2

theorem gl_glob {prog : Program} (X : K.In H) (T : Top p loose mean mg mb H) {id : Str} {v : Value} (e : nsIn K mainGlobals id = some (some v)) : Gl prog w H id v := fun A Q Ex s env hg _ kp h =>
  loadGlobal_global (by rw [hg]; exact T.g.keeps kp) (mg_of X T.g e) h
theorem gl_blt {prog : Program} (X : K.In H) (T : Top p loose mean mg mb H) {id : Str} {v : Value} (e : nsIn K mainGlobals id = some none) (hn : id ≠ "__name__") (hb : bootBuiltins id = some v) : Gl prog w H id v := fun A Q Ex s env hg hbl kp h =>
  loadGlobal_builtin (by rw [hg]; exact T.g.keeps kp) (mg_none_of X T.g e) (by rw [hbl]; exact T.b.keeps kp) ((T.builtins _ hn).trans hb) h

noncomputable def bltRow : List (Str × Value) := [("len", .builtin "len"), ("min", .builtin "min"), ("max", .builtin "max"), ("sorted", .builtin "sorted"), ("tuple", .type "tuple"), ("all", .builtin "all"), ("list", .type "list"), ("range", .type "range"), ("super", .type "super")]
theorem b_row : (bltRow.all fun q => (bootBuiltins q.1 == some q.2) && !(q.1 == "__name__") && ([("len" : Str), "min", "max", "sorted", "tuple", "all", "list", "range", "super"] : List Str).contains q.1) = true := by kernel_rfl
theorem gl_row {prog : Program} (X : K.In H) (O : kObs K = kExp) (T : Top p loose mean mg mb H) {id : Str} {v : Value} (h : (id, v) ∈ bltRow) : Gl prog w H id v := by
  have := List.all_eq_true.mp b_row _ h
  simp only [Bool.and_eq_true, beq_iff_eq, Bool.not_eq_true', beq_eq_false_iff_ne, List.contains_iff_mem] at this
  exact gl_blt X T ((k_split O).2.1 _ this.2) this.1.2 this.1.1
theorem blt_row {id : Str} {v : Value} (e : bltOf id = some v) : (id, v) ∈ bltRow := by
  unfold bltOf at e
  repeat' split at e
  all_goals first | (subst id; cases e; decide) | cases e

theorem mem_of_lookupN {α : Type} : ∀ {l : List (Addr × α)} {n : Addr} {c : α}, l.lookup n = some c → (n, c) ∈ l
  | (k, v) :: r, n, c, h => by
    rw [List.lookup_cons] at h
    cases hb : n == k with
    | true => rw [hb] at h; cases h; rw [beq_iff_eq.mp hb]; exact List.mem_cons_self
    | false => rw [hb] at h; exact List.mem_cons_of_mem _ (mem_of_lookupN h)
theorem cls_ok (O : kObs K = kExp) {C : Addr} {l : List Str} (e : theCx.flds.lookup C = some l) : ClsOK K C l := by
  obtain ⟨⟨⟨⟨⟨h1, h2⟩, h3⟩, h4⟩, h5⟩, h6⟩ := (k_split O).1.2.2.2.2 _ (mem_of_lookupN e)
  exact ⟨h1, h2, h3, h4, h5, h6⟩
theorem k_meths_cls : (theCx.meths.all fun q => (theCx.flds.lookup q.1).isSome) = true := by kernel_rfl

theorem cx_ok {prog : Program} (X : K.In H) (O : kObs K = kExp) (T : Top p loose mean mg mb H) : GoodCx prog w K H theCx := by
  refine ⟨X, fun id a e => ?_, fun id C f e => ?_, fun id v e => gl_row X O T (blt_row e), gl_row X O T (by decide), gl_row X O T (by decide), fun C l e => cls_ok O e, fun C ms e => ⟨?_, fun name f e2 => ?_⟩⟩
  · have := (k_split O).1.2.1 _ (mem_of_lookup e)
    exact ⟨gl_glob X T this.1, this.2⟩
  · obtain ⟨⟨⟨⟨h1, h2⟩, h3⟩, h4⟩, h5⟩ := (k_split O).1.2.2.1 _ (mem_of_lookup e)
    exact ⟨gl_glob X T h1, h2, h3, h4, h5⟩
  · obtain ⟨l, hl⟩ := Option.isSome_iff_exists.mp (List.all_eq_true.mp k_meths_cls _ (mem_of_lookupN e))
    exact ⟨l, cls_ok O hl⟩
  · have := (k_split O).1.2.2.2.1 _ (mem_of_lookupN e) _ (mem_of_lookup e2)
    exact ⟨this.1.1, this.1.2, this.2⟩

theorem su_body : ∃ p0 p1 ap pos ep, bodyOf (methAt 23 0) = .Expr (.Call (.Attribute (.Call (.Name "super" p0) [] [] p1) "__init__" ap) theSu.args [] pos) ep :: theSu.rest ∧ (ap.endLine == pos.line) = true := ⟨_, _, _, _, _, rfl, rfl⟩
theorem su_ok (X : K.In H) (O : kObs K = kExp) (T : Top p loose mean mg mb H) : SupOK PySem.Challenge.rw_nz0024_01.row.prog w K H theSu := by
  obtain ⟨⟨⟨k1, k2⟩, k3⟩, k4⟩ := (k_split O).2.2.2
  refine ⟨?_, by decide, by decide, by decide, by decide, by decide, by decide, by decide, by kernel_rfl, gl_row X O T (by decide), k1, k2, k3, k4⟩
  have h : suObs K PySem.Challenge.pw_nz0024_01.main.file = suExp := congrArg (fun x => x.2.2) O
  refine bd1 h fun fd e h => bd1 h fun cc hcl h => bd1 h fun cda hcd h => bd1 h fun o1 e1 h => bd1 h fun vs hv1 h => bd1 h fun o2 e2 h => bd1 h fun v hv2 h => bd1 h fun D hv3 h => ?_
  have hh := Option.some.inj h
  obtain ⟨n, hcl⟩ := clo1_eq hcl
  obtain ⟨p0, p1, ap, pos, ep, q1, q2⟩ := su_body
  obtain ⟨oc, od, osl, e0⟩ := fdOf_at e
  have hb0 : fdObs 3 fd = expObs (bodyOf (methAt 23 0)) [("__class__", 344)] theSu.names theSu.params := congrArg (fun x => x.1) hh
  have b := obs_at hb0 rfl
  obtain ⟨tf, file, hv, hf⟩ : ∃ tf file, vs[2]? = some (.str file tf) ∧ (PySem.Challenge.pw_nz0024_01.main.file == file) = true := by
    have h4 : (match (vs[2]? : Option Value) with | some (.str f _) => PySem.Challenge.pw_nz0024_01.main.file == f | _ => false) = true := congrArg (fun x => x.2.2.2.1) hh
    cases q : (vs[2]? : Option Value) with
    | none => rw [q] at h4; exact nof h4
    | some v =>
      rw [q] at h4
      cases v <;> first | exact nof h4 | exact ⟨_, _, rfl, h4⟩
  obtain ⟨cdD, hD⟩ := Option.isSome_iff_exists.mp (congrArg (fun x => x.2.2.2.2.1) hh : (clsIn K D).isSome = true)
  have h3 : (fd.params.posonlyargs ++ fd.params.args).head?.map (·.arg) = some (theSu.params.headD "") := congrArg (fun x => x.2.2.1) hh
  obtain ⟨ar, ha, hb⟩ := Option.map_eq_some_iff.mp h3
  have hn : n = "__class__" := by have := b.1; rw [hcl] at this; exact congrArg Prod.fst (List.cons.inj this).1
  subst hn
  obtain ⟨c1, c2, c3, c4⟩ := o1
  obtain ⟨d1, d2, d3, d4⟩ := o2
  cases fldsOf_eq hv1
  rw [refOf_eq hv3] at hv2
  cases cellOf'_eq hv2
  have b2 := b.2
  exact ⟨oc, od, fd, osl, p0, p1, ap, pos, ep, cc, cda, D, ar, file, tf, c1, c2, vs, c4, d1, d2, d4, cdD, e0, q1 ▸ b2.1, hcl, b2.2.1, b2.2.2.1, b2.2.2.2.1, b2.2.2.2.2.1, b2.2.2.2.2.2.1, b2.2.2.2.2.2.2.1, b2.2.2.2.2.2.2.2, codeRec_of X (congrArg (fun x => x.2.1) hh), refOf_eq hcd, ha, hb ▸ rfl, e1, hv, hf, e2, hD,
    congrArg (fun x => x.2.2.2.2.2.1) hh, congrArg (fun x => x.2.2.2.2.2.2) hh, by decide, q2, by decide⟩
end
end Mine
end

section
open PySem PySem.W PyProof.Rows PySem.Calls
set_option maxRecDepth 100000
set_option maxHeartbeats 0
namespace Mine
/-- the world before the call -/
noncomputable def W0 (H : Heap) : Wd := { J := fun a => H.get? a, ρ := fun _ => 0, n := 0 }
theorem wr0 {prog : Program} {w : World} (H : Heap) : WR prog w H (W0 H) [] H :=
  ⟨rfl, fun _ _ e => e, fun _ _ e => e, fun i hi => absurd hi (Nat.not_lt_zero i), fun i _ hi => absurd hi (Nat.not_lt_zero i), fun i o e => by simp at e⟩

theorem law_runs {K : Frag} {w : World} {s₁ : Shared} {loose : List Str} {mean : ExcName → Option Value} {mg mb : Str → Option Value} {p : Program} (plain : ∀ ns : List Int, ns.length ≤ 63 → ∃ hp', callF theCx theSu theFs 40 481 [.lst (ns.map .int)] [] = some (.bool true, hp'))
    (X : K.In s₁.heap) (O : kObs K = kExp) (T : Top p loose mean mg mb s₁.heap) {l : Addr} {vs : List Value} {ns : List Int} {n : Nat} (hl : s₁.heap.get? l = some (lstO vs n)) (hI : IntsAre vs ns) (hz : ns.length ≤ 63) {R : Result → Shared → Prop}
    (hR : ∀ s', (∀ b o, s₁.heap.get? b = some o → s'.heap.get? b = some o) → s'.os = s₁.os → s'.gens = s₁.gens → R (.ok (.ret (.bool true))) s') : codeAny (model PySem.Challenge.rw_nz0024_01.row.prog w) callerA (.call (.ref 481) ⟨[.ref l], []⟩) R s₁ := by
  obtain ⟨hp', hrun⟩ := plain ns hz
  refine callF_ok (prog := PySem.Challenge.rw_nz0024_01.row.prog) (w := w) (H := s₁.heap) (cx_ok X O T) (su_ok X O T) theFs (fs_ok X O) T.nolimit 40 481 _ [] _ hp' hrun (W0 s₁.heap) s₁ callerA [.ref l] R (wr0 _) (.one (.lst hl (are_ints hI))) ⟨rfl, by decide, by decide⟩ fun W' s' val e _ hv => ?_
  cases hv
  exact hR s' (fun b o q => e.keep b o (by simp) (fun i hi => absurd hi (Nat.not_lt_zero i)) q) e.os.1 e.os.2

theorem k_post (a : List WData) : PySem.Challenge.rw_nz0024_01.row.claim.post a (WData.bool true) a = true := by kernel_rfl
theorem k_well : PySem.Challenge.rw_nz0024_01.wellSaid = true := by
  delta OpenLaw.wellSaid
  repeat' with_reducible refine look_both ?_ ?_
  all_goals try delta OpenRow.wellSaid
  repeat' with_reducible refine look_both ?_ ?_
  all_goals try delta OpenRow.partSaid looksOpen
  repeat' with_reducible refine look_both ?_ ?_
  all_goals decide +kernel

/-! ## the head -/
theorem h_def : (defOf theQv "law").map (fun x => (x.1.params, x.1.body, x.1.scope)) = thePw.theDef "law" := by kernel_rfl
theorem h_kw : (defOf theQv "law").map (fun x => kwWritten? x.1.params.kwonlyargs x.1.params.kw_defaults) = (defOf theQv "law").map fun x => some x.2 := by kernel_rfl
theorem h_isSome : (defOf theQv "law").isSome = true := by kernel_rfl
theorem h_ok : (chainsOk theQv && opensWell thePw && (frees PySem.Challenge.rw_nz0024_01.row.toRowW && PySem.Challenge.rw_nz0024_01.row.within.isEmpty)) = true := by kernel_rfl
theorem h_bare : PySem.Challenge.rw_nz0024_01.row.prog.bare := ⟨rfl, rfl, rfl, rfl, rfl, by kernel_rfl⟩
theorem h_wit : PySem.Challenge.rw_nz0024_01.row.toRowW.promised := by w_witness2

theorem final (plain : ∀ ns : List Int, ns.length ≤ 63 → ∃ hp', callF theCx theSu theFs 40 481 [.lst (ns.map .int)] [] = some (.bool true, hp')) : PySem.Challenge.rw_nz0024_01.Holds := by
  refine holds_law k_well fun said => ?_
  obtain ⟨⟨d, kwd⟩, hdef⟩ := Option.isSome_iff_exists.mp h_isSome
  have hp := h_def
  have hk := h_kw
  rw [hdef] at hp hk
  refine holds_open (q := theQv) (loose := theLoose) (XP := fun _ _ => True) (YP := fun _ h => ∃ K : Frag, K.In h ∧ kObs K = kExp) h_left (fun w s e => ⟨_, fragAt_in _ _, e⟩) (fun w h h' ⟨K, X, O⟩ kp => ⟨K, X.keeps kp, O⟩)
    (fun _ _ => trivial) (fun _ _ _ _ _ => trivial) hdef hp.symm (Option.some.inj hk) (fun _ _ => recFacts_nil rfl) rfl said h_ok h_bare h_wit ?_
  intro w s₀ s₁ mg mb G Y fa o pm cd doc dV kV ho hd1 hcd hD hmg hg args vals as hpre hlay hrd hwl hlo
  obtain ⟨K, KX, O⟩ := Y
  refine Ground.open G ?_
  intro T B D TE TW
  have hfa : fa = 481 := by
    have h1 := mg_of KX T.g (k_split O).1.1
    rw [show d.name = "law" from defOf_name hdef, h1] at hmg
    cases hmg; rfl
  subst hfa
  clear ho hd1 hcd hD hmg B D TE TW
  wrow_args hpre hlay hrd hwl hlo
  all_goals (
    first | refine callC_kw (enter_call ?_) | refine enter_call ?_
    refine codeAny_mono ?_ (fun _ _ g => GoodW.toG g)
    rename_i ns _ _ _ _ _ _ _ l vs _ hL _ w1 _ hI _ hc _
    have hz : ns.length ≤ 63 := by omega
    obtain ⟨o, ho, _, n, hdat⟩ := hL
    have hl : s₁.heap.get? l = some (lstO vs n) := by
      cases w1 with
      | list h1 _ =>
        rw [h1] at ho
        cases ho
        cases hdat
        exact h1
    refine law_runs plain KX O T hl hI hz fun s' kp hos hgn => ?_
    refine ⟨.inl ⟨.bool true, .bool true, [], rfl, fun cls => ?_, ?_, ?_, ?_⟩, kp, hos, hgn.trans hg⟩
    · rfl
    · exact .bool true
    · exact k_post _
    · exact fun _ => ⟨.nil, fun _ h => (nomatch h)⟩)
end Mine
end

section
open PySem PySem.W PyProof.Rows
namespace Mine
/-! ## big steps of the evaluator -/
section
variable {cx : Cx} {Φ : Call} {n : Nat} {sc : Nm} {env env1 env2 : En} {hp hp1 hp2 hp3 : Hp} {p p1 p2 p3 : Pos}

theorem x_nil : exSs cx Φ (n + 1) sc [] env hp = some (.next, env, hp) := rfl
theorem x_next {st : Stmt} {r : List Stmt} {R : Option (Fl × En × Hp)} (h : exS cx Φ n sc st env hp = some (.next, env1, hp1)) (h2 : exSs cx Φ n sc r env1 hp1 = R) : exSs cx Φ (n + 1) sc (st :: r) env hp = R := by
  show (exS cx Φ n sc st env hp).bind _ = R
  rw [h]; exact h2
theorem x_ret {st : Stmt} {r : List Stmt} {v : V} (h : exS cx Φ n sc st env hp = some (.ret v, env1, hp1)) : exSs cx Φ (n + 1) sc (st :: r) env hp = some (.ret v, env1, hp1) := by
  show (exS cx Φ n sc st env hp).bind _ = _
  rw [h]; rfl
theorem s_return {e : Expr} {v : V} (h : evE cx Φ n sc e env hp = some (v, hp1)) : exS cx Φ (n + 1) sc (.Return (some e) p) env hp = some (.ret v, env, hp1) := by
  show (evE cx Φ n sc e env hp).bind _ = _
  rw [h]; rfl
theorem s_name {x : Str} {e : Expr} {v : V} (h : evM cx Φ n sc e env hp = some (v, hp1)) (hm : mayStore sc x = true) : exS cx Φ (n + 1) sc (.Assign [.Name x p] e p1) env hp = some (.next, put x v env, hp1) := by
  show (evM cx Φ n sc e env hp).bind _ = _
  rw [h]
  show (if mayStore sc x = true then _ else _) = _
  rw [if_pos hm]
theorem s_tup {ts : List Expr} {k : Nat} {e : Expr} {l : List V} {xs : List Str} (hs : swapOk e = true) (h : evM cx Φ n sc e env hp = some (.tup l, hp1)) (ht : tgtNames ts = some xs) (hc : l.length = xs.length ∧ xs.Nodup ∧ xs.all (mayStore sc) ∧ l.length ≤ lineMax) :
    exS cx Φ (n + 1) sc (.Assign [.Tuple ts k p] e p1) env hp = some (.next, putAll xs l env, hp1) := by
  show (if ¬ swapOk e then _ else _) = _
  rw [if_neg (by rw [hs]; decide), h]
  show (match tgtNames ts with | some xs => _ | none => _) = _
  rw [ht]
  exact if_pos hc
theorem s_tup2 {t1 t2 : Expr} {k : Nat} {e : Expr} {v1 v2 : V} (hs : swapOk e = true) (h : evM cx Φ n sc e env hp = some (.tup [v1, v2], hp1)) (ht : tgtNames [t1, t2] = none) (h1 : asT cx Φ n sc t1 v1 env hp1 = some hp2) (h2 : asT cx Φ n sc t2 v2 env hp2 = some hp3) :
    exS cx Φ (n + 1) sc (.Assign [.Tuple [t1, t2] k p] e p1) env hp = some (.next, env, hp3) := by
  show (if ¬ swapOk e then _ else _) = _
  rw [if_neg (by rw [hs]; decide), h]
  show (match tgtNames [t1, t2] with | some xs => _ | none => _) = _
  rw [ht]
  show (asT cx Φ n sc t1 v1 env hp1).bind _ = _
  rw [h1]
  show (asT cx Φ n sc t2 v2 env hp2).bind _ = _
  rw [h2]; rfl
theorem s_attr {o attr : Str} {e : Expr} {v ov : V} (h : evM cx Φ n sc e env hp = some (v, hp1)) (ho : env.lookup o = some ov) (h2 : setAttrV cx hp1 ov attr v = some hp2) :
    exS cx Φ (n + 1) sc (.Assign [.Attribute (.Name o p) attr p1] e p2) env hp = some (.next, env, hp2) := by
  show (evM cx Φ n sc e env hp).bind _ = _
  rw [h]
  show (Option.bind (Option.bind (env.lookup o) _) _) = _
  rw [ho]
  show (Option.bind (setAttrV cx hp1 ov attr v) _) = _
  rw [h2]; rfl
theorem s_sub {o i e : Expr} {v ov iv : V} {hp4 : Hp} (h : evM cx Φ n sc e env hp = some (v, hp1)) (ho : evE cx Φ n sc o env hp1 = some (ov, hp2)) (hi : evE cx Φ n sc i env hp2 = some (iv, hp3)) (h2 : setSub hp3 ov iv v = some hp4) :
    exS cx Φ (n + 1) sc (.Assign [.Subscript o i p1] e p2) env hp = some (.next, env, hp4) := by
  show (evM cx Φ n sc e env hp).bind _ = _
  rw [h]
  show (Option.bind (Option.bind (evE cx Φ n sc o env hp1) _) _) = _
  rw [ho]
  show (Option.bind (Option.bind (evE cx Φ n sc i env hp2) _) _) = _
  rw [hi]
  show (Option.bind (setSub hp3 ov iv v) _) = _
  rw [h2]; rfl
theorem s_expr {f : Expr} {args : List Expr} {kws : List Keyword} {v : V} (h : evE cx Φ n sc (.Call f args kws p) env hp = some (v, hp1)) (hv : v = .none ∨ ∃ b, v = .bool b) : exS cx Φ (n + 1) sc (.Expr (.Call f args kws p) p1) env hp = some (.next, env, hp1) := by
  show (evE cx Φ n sc _ env hp).bind _ = _
  rw [h]
  rcases hv with rfl | ⟨b, rfl⟩ <;> rfl
theorem s_if {t : Expr} {b o : List Stmt} {c : Bool} {fl : Fl} (h : tst cx Φ n sc t env hp = some (c, hp1)) (h2 : (if c then exSs cx Φ n sc b env hp1 else exSs cx Φ n sc o env hp1) = some (fl, env1, hp2)) : exS cx Φ (n + 1) sc (.If t b o p) env hp = some (fl, env1.take env.length, hp2) := by
  show (tst cx Φ n sc t env hp).bind _ = _
  rw [h]
  show (Option.bind (if c then exSs cx Φ n sc b env hp1 else exSs cx Φ n sc o env hp1) _) = _
  rw [h2]; rfl
theorem s_ifT {t : Expr} {b o : List Stmt} {fl : Fl} (h : tst cx Φ n sc t env hp = some (true, hp1)) (h2 : exSs cx Φ n sc b env hp1 = some (fl, env1, hp2)) : exS cx Φ (n + 1) sc (.If t b o p) env hp = some (fl, env1.take env.length, hp2) := s_if h h2
theorem s_ifF {t : Expr} {b o : List Stmt} {fl : Fl} (h : tst cx Φ n sc t env hp = some (false, hp1)) (h2 : exSs cx Φ n sc o env hp1 = some (fl, env1, hp2)) : exS cx Φ (n + 1) sc (.If t b o p) env hp = some (fl, env1.take env.length, hp2) := s_if h h2
theorem s_for {t it : Expr} {b : List Stmt} {src : V} {l : List V} {R : Option (Fl × En × Hp)} (h : evI cx Φ n sc it env hp = some ((src, l), hp1))
    (h2 : forL (fun v en hq => (bindT sc t v en).bind fun en1 => (exSs cx Φ n sc b en1 hq).bind fun (fl, en2, hq1) => guardR (stands src l hq1) (some (fl, en2.take env.length, hq1))) l env hp1 = R) : exS cx Φ (n + 1) sc (.For t it b [] p) env hp = R := by
  show (evI cx Φ n sc it env hp).bind _ = _
  rw [h]; exact h2
theorem s_while {t : Expr} {b : List Stmt} {R : Option (Fl × En × Hp)}
    (h : whileL (fun en hq => tst cx Φ n sc t en hq) (fun en hq => (exSs cx Φ n sc b en hq).bind fun (fl, en2, hq1) => some (fl, en2.take env.length, hq1)) 200 env hp = R) : exS cx Φ (n + 1) sc (.While t b [] p) env hp = R := h

theorem e_name {x : Str} {v : V} (h : env.lookup x = some v) : evE cx Φ (n + 1) sc (.Name x p) env hp = some (v, hp) := by
  show (env.lookup x).bind _ = _
  rw [h]; rfl
theorem e_int {i : Int} {k : Nat} : evE cx Φ (n + 1) sc (.Constant (.int i) k p) env hp = some (.int i, hp) := rfl
theorem e_str {i : Str} {k : Nat} : evE cx Φ (n + 1) sc (.Constant (.str i) k p) env hp = some (.str i, hp) := rfl
theorem e_bool {i : Bool} {k : Nat} : evE cx Φ (n + 1) sc (.Constant (.bool i) k p) env hp = some (.bool i, hp) := rfl
theorem e_none {k : Nat} : evE cx Φ (n + 1) sc (.Constant .none k p) env hp = some (.none, hp) := rfl
theorem e_bin {l r : Expr} {op : Operator} {a b v : V} (h1 : evE cx Φ n sc l env hp = some (a, hp1)) (h2 : evE cx Φ n sc r env hp1 = some (b, hp2)) (h3 : binop op a b = some v) : evE cx Φ (n + 1) sc (.BinOp l op r p) env hp = some (v, hp2) := by
  show (evE cx Φ n sc l env hp).bind _ = _
  rw [h1]
  show (evE cx Φ n sc r env hp1).bind _ = _
  rw [h2]
  show (binop op a b).bind _ = _
  rw [h3]; rfl
theorem e_neg {x : Expr} {i : Int} (h : evE cx Φ n sc x env hp = some (.int i, hp1)) : evE cx Φ (n + 1) sc (.UnaryOp .USub x p) env hp = some (.int (-i), hp1) := by
  show (evE cx Φ n sc x env hp).bind _ = _
  rw [h]; rfl
theorem e_not {x : Expr} {b : Bool} (h : evE cx Φ n sc x env hp = some (.bool b, hp1)) : evE cx Φ (n + 1) sc (.UnaryOp .Not x p) env hp = some (.bool (!b), hp1) := by
  show (evE cx Φ n sc x env hp).bind _ = _
  rw [h]; rfl
theorem e_andF {x y : Expr} (h : evE cx Φ n sc x env hp = some (.bool false, hp1)) : evE cx Φ (n + 1) sc (.BoolOp .And [x, y] p) env hp = some (.bool false, hp1) := by
  show (evE cx Φ n sc x env hp).bind _ = _
  rw [h]; rfl
theorem e_andT {x y : Expr} {R : Rs V} (h : evE cx Φ n sc x env hp = some (.bool true, hp1)) (h2 : evE cx Φ n sc y env hp1 = R) : evE cx Φ (n + 1) sc (.BoolOp .And [x, y] p) env hp = R := by
  show (evE cx Φ n sc x env hp).bind _ = _
  rw [h]; exact h2
theorem e_ifE {t x y : Expr} {c : Bool} {R : Rs V} (h : tst cx Φ n sc t env hp = some (c, hp1)) (h2 : (if c then evE cx Φ n sc x env hp1 else evE cx Φ n sc y env hp1) = R) : evE cx Φ (n + 1) sc (.IfExp t x y p) env hp = R := by
  show (tst cx Φ n sc t env hp).bind _ = _
  rw [h]; exact h2
theorem e_cmp {l : Expr} {ops : List CmpOp} {rs : List Expr} {a : V} {b : Bool} (h : evE cx Φ n sc l env hp = some (a, hp1)) (h2 : chain cx Φ n sc a ops rs env hp1 = some (b, hp2)) : evE cx Φ (n + 1) sc (.Compare l ops rs p) env hp = some (.bool b, hp2) := by
  show (evE cx Φ n sc l env hp).bind _ = _
  rw [h]
  show (chain cx Φ n sc a ops rs env hp1).bind _ = _
  rw [h2]; rfl
theorem c_one {op : CmpOp} {r : Expr} {a b : V} {c : Bool} (hb : behindInMarks op r = false) (h : evE cx Φ n sc r env hp = some (b, hp1)) (h2 : cmpV hp1 op a b = some c) : chain cx Φ (n + 1) sc a [op] [r] env hp = some (c, hp1) := by
  show (if behindInMarks op r then _ else _) = _
  rw [if_neg (by rw [hb]; decide), h]
  show (cmpV hp1 op a b).bind _ = _
  rw [h2]; rfl
theorem c_more {op op' : CmpOp} {ops : List CmpOp} {r r' : Expr} {rs : List Expr} {a b : V} {c : Bool} {R : Rs Bool} (h : evE cx Φ n sc r env hp = some (b, hp1)) (h2 : cmpV hp1 op a b = some c) (h3 : (if c then chain cx Φ n sc b (op' :: ops) (r' :: rs) env hp1 else some (false, hp1)) = R) :
    chain cx Φ (n + 1) sc a (op :: op' :: ops) (r :: r' :: rs) env hp = R := by
  show (evE cx Φ n sc r env hp).bind _ = _
  rw [h]
  show (cmpV hp1 op a b).bind _ = _
  rw [h2]; exact h3
theorem e_attr {o attr : Str} {C i : Nat} {fs : List (Str × V)} {v : V} (h : env.lookup o = some (.obj C i)) (h1 : hp[i]? = some (.ins fs)) (h2 : isFld cx C attr = true) (h3 : fs.lookup attr = some v) : evE cx Φ (n + 1) sc (.Attribute (.Name o p) attr p1) env hp = some (v, hp) := by
  show (env.lookup o).bind _ = _
  rw [h]
  show (match hp[i]? with | some (.ins fs) => _ | _ => _) = _
  rw [h1]
  show (if isFld cx C attr then _ else _) = _
  rw [if_pos h2, h3]; rfl
theorem e_sub {o i : Expr} {a j v : V} (hs : plainE i = true) (h1 : evE cx Φ n sc o env hp = some (a, hp1)) (h2 : evE cx Φ n sc i env hp1 = some (j, hp2)) (h3 : subV hp2 a j = some v) : evE cx Φ (n + 1) sc (.Subscript o i p) env hp = some (v, hp2) := by
  have : evE cx Φ (n + 1) sc (.Subscript o i p) env hp = (evE cx Φ n sc o env hp).bind fun (a, hp1) => (evE cx Φ n sc i env hp1).bind fun (j, hp2) => (subV hp2 a j).bind fun v => some (v, hp2) := by
    cases i <;> first | rfl | cases hs
  rw [this, h1]
  show (evE cx Φ n sc i env hp1).bind _ = _
  rw [h2]
  show (subV hp2 a j).bind _ = _
  rw [h3]; rfl
theorem e_slice {o : Expr} {lo up : Option Expr} {a : V} {x y : Option Int} {l k : List V} (h1 : evE cx Φ n sc o env hp = some (a, hp1)) (h2 : evO cx Φ n sc lo env hp1 = some (x, hp2)) (h3 : evO cx Φ n sc up env hp2 = some (y, hp3)) (h4 : itemsOf hp3 a = some l) (h5 : sliceV a x y l = some k) :
    evE cx Φ (n + 1) sc (.Subscript o (.Slice lo up none p) p1) env hp = some (.lst k, hp3) := by
  show (evE cx Φ n sc o env hp).bind _ = _
  rw [h1]
  show (evO cx Φ n sc lo env hp1).bind _ = _
  rw [h2]
  show (evO cx Φ n sc up env hp2).bind _ = _
  rw [h3]
  show (itemsOf hp3 a).bind _ = _
  rw [h4]
  show (sliceV a x y l).bind _ = _
  rw [h5]; rfl
theorem o_none : evO cx Φ (n + 1) sc none env hp = some (none, hp) := rfl
theorem o_some {e : Expr} {i : Int} (h : evE cx Φ n sc e env hp = some (.int i, hp1)) : evO cx Φ (n + 1) sc (some e) env hp = some (some i, hp1) := by
  show (evE cx Φ n sc e env hp).bind _ = _
  rw [h]; rfl
theorem e_tup {es : List Expr} {k : Nat} {l : List V} (h : evEs cx Φ n sc es env hp = some (l, hp1)) (hl : l.length ≤ lineMax) : evE cx Φ (n + 1) sc (.Tuple es k p) env hp = some (.tup l, hp1) := by
  show (evEs cx Φ n sc es env hp).bind _ = _
  rw [h]; exact if_pos hl
theorem e_lst {es : List Expr} {l : List V} (h : evEs cx Φ n sc es env hp = some (l, hp1)) (hl : l.length ≤ lineMax) : evE cx Φ (n + 1) sc (.List es p) env hp = some (.lst l, hp1) := by
  show (evEs cx Φ n sc es env hp).bind _ = _
  rw [h]; exact if_pos hl
theorem es_nil : evEs cx Φ (n + 1) sc [] env hp = some ([], hp) := rfl
theorem es_cons {e : Expr} {r : List Expr} {v : V} {vs : List V} (h : evE cx Φ n sc e env hp = some (v, hp1)) (h2 : evEs cx Φ n sc r env hp1 = some (vs, hp2)) : evEs cx Φ (n + 1) sc (e :: r) env hp = some (v :: vs, hp2) := by
  show (evE cx Φ n sc e env hp).bind _ = _
  rw [h]
  show (evEs cx Φ n sc r env hp1).bind _ = _
  rw [h2]; rfl
theorem ms_nil : evMs cx Φ (n + 1) sc [] env hp = some ([], hp) := rfl
theorem ms_cons {e : Expr} {r : List Expr} {v : V} {vs : List V} (h : evM cx Φ n sc e env hp = some (v, hp1)) (h2 : evMs cx Φ n sc r env hp1 = some (vs, hp2)) : evMs cx Φ (n + 1) sc (e :: r) env hp = some (v :: vs, hp2) := by
  show (evM cx Φ n sc e env hp).bind _ = _
  rw [h]
  show (evMs cx Φ n sc r env hp1).bind _ = _
  rw [h2]; rfl
theorem e_fn {id : Str} {args : List Expr} {a : Addr} {vs : List V} {R : Rs V} (hg : isGl sc id = true) (hf : cx.fns.lookup id = some a) (h : evEs cx Φ n sc args env hp = some (vs, hp1)) (h2 : Φ a vs hp1 = R) : evE cx Φ (n + 1) sc (.Call (.Name id p) args [] p1) env hp = R := by
  show (if ¬ isGl sc id then _ else _) = _
  rw [if_neg (by rw [hg]; decide), hf]
  show (evEs cx Φ n sc args env hp).bind _ = _
  rw [h]; exact h2
theorem e_blt {id : Str} {args : List Expr} {vs : List V} {v : V} (hg : isGl sc id = true) (hf : cx.fns.lookup id = none) (hc : cx.clss.lookup id = none) (h : evEs cx Φ n sc args env hp = some (vs, hp1)) (h2 : builtinV hp1 id vs = some v) : evE cx Φ (n + 1) sc (.Call (.Name id p) args [] p1) env hp = some (v, hp1) := by
  show (if ¬ isGl sc id then _ else _) = _
  rw [if_neg (by rw [hg]; decide), hf, hc]
  show (evEs cx Φ n sc args env hp).bind _ = _
  rw [h]
  show (builtinV hp1 id vs).bind _ = _
  rw [h2]; rfl
theorem e_cls {id : Str} {args : List Expr} {C f : Addr} {vs : List V} (hg : isGl sc id = true) (hf : cx.fns.lookup id = none) (hc : cx.clss.lookup id = some (C, f)) (h : evEs cx Φ n sc args env hp = some (vs, hp1)) (h2 : Φ f (.obj C hp1.length :: vs) (hp1 ++ [.ins []]) = some (.none, hp2)) :
    evE cx Φ (n + 1) sc (.Call (.Name id p) args [] p1) env hp = some (.obj C hp1.length, hp2) := by
  show (if ¬ isGl sc id then _ else _) = _
  rw [if_neg (by rw [hg]; decide), hf, hc]
  show (evEs cx Φ n sc args env hp).bind _ = _
  rw [h]
  show (Φ f (.obj C hp1.length :: vs) (hp1 ++ [.ins []])).bind _ = _
  rw [h2]; rfl
theorem e_meth {o name : Str} {args : List Expr} {C i : Nat} {f : Addr} {ms : List (Str × Addr)} {fs : List (Str × V)} {vs : List V} {R : Rs V} (hl : (p1.endLine == p2.line && Nat.ble args.length 9) = true) (ho : env.lookup o = some (.obj C i)) (hm : cx.meths.lookup C = some ms) (hf : ms.lookup name = some f) (hi : hp[i]? = some (.ins fs)) (hn : (fs.lookup name).isSome = false)
    (h : evEs cx Φ n sc args env hp = some (vs, hp1)) (h2 : Φ f (.obj C i :: vs) hp1 = R) : evE cx Φ (n + 1) sc (.Call (.Attribute (.Name o p) name p1) args [] p2) env hp = R := by
  show (if ¬ (p1.endLine == p2.line && Nat.ble args.length 9) then _ else _) = _
  rw [if_neg (by rw [hl]; decide), ho]
  show (cx.meths.lookup C).bind _ = _
  rw [hm]
  show (ms.lookup name).bind _ = _
  rw [hf]
  show (match hp[i]? with | some (.ins fs) => _ | _ => _) = _
  rw [hi]
  show (if (fs.lookup name).isSome then _ else _) = _
  rw [if_neg (by rw [hn]; decide), h]; exact h2
theorem e_lmeth {o name : Str} {args : List Expr} {i : Nat} {R : Rs V} (hl : (p1.endLine == p2.line && Nat.ble args.length 9) = true) (ho : env.lookup o = some (.ref i)) (h2 : methV cx Φ n sc i name args env hp = R) : evE cx Φ (n + 1) sc (.Call (.Attribute (.Name o p) name p1) args [] p2) env hp = R := by
  show (if ¬ (p1.endLine == p2.line && Nat.ble args.length 9) then _ else _) = _
  rw [if_neg (by rw [hl]; decide), ho]; exact h2
theorem e_ameth {o attr name : Str} {args : List Expr} {C i j : Nat} {fs : List (Str × V)} {R : Rs V} (hl : (p2.endLine == p3.line && Nat.ble args.length 9) = true) (ho : env.lookup o = some (.obj C i)) (hi : hp[i]? = some (.ins fs)) (hf : isFld cx C attr = true) (hv : fs.lookup attr = some (.ref j)) (h2 : methV cx Φ n sc j name args env hp = R) :
    evE cx Φ (n + 1) sc (.Call (.Attribute (.Attribute (.Name o p) attr p1) name p2) args [] p3) env hp = R := by
  show (if ¬ (p2.endLine == p3.line && Nat.ble args.length 9) then _ else _) = _
  rw [if_neg (by rw [hl]; decide), ho]
  show (match hp[i]? with | some (.ins fs) => _ | _ => _) = _
  rw [hi]
  show (if isFld cx C attr then _ else _) = _
  rw [if_pos hf, hv]; exact h2
theorem m_append {i : Nat} {e : Expr} {l0 l : List V} {v : V} (h0 : hp[i]? = some (.lst l0)) (h : evM cx Φ n sc e env hp = some (v, hp1)) (h1 : hp1[i]? = some (.lst l)) (hl : l.length ≤ lineMax) : methV cx Φ (n + 1) sc i "append" [e] env hp = some (.none, hp1.set i (.lst (l ++ [v]))) := by
  simp only [methV, if_true]
  rw [h0]
  show (evM cx Φ n sc e env hp).bind _ = _
  rw [h]
  show (match hp1[i]? with | some (.lst l) => _ | _ => _) = _
  rw [h1]; exact if_pos hl
theorem m_pop {i : Nat} {l : List V} {v : V} (h0 : hp[i]? = some (.lst l)) (hl : l.length ≤ lineMax) (hv : l.getLast? = some v) : methV cx Φ (n + 1) sc i "pop" [] env hp = some (v, hp.set i (.lst l.dropLast)) := by
  have e1 : methV cx Φ (n + 1) sc i "pop" [] env hp = (match ([] : List Expr), hp[i]? with
      | [], some (.lst l) => if l.length ≤ lineMax then l.getLast?.bind fun v => some (v, hp.set i (.lst l.dropLast)) else Option.none
      | _, _ => Option.none) := rfl
  rw [e1, h0]
  show (if l.length ≤ lineMax then _ else _) = _
  rw [if_pos hl, hv]; rfl

theorem M_lst0 : evM cx Φ (n + 1) sc (.List [] p) env hp = some (.ref hp.length, hp ++ [.lst []]) := rfl
theorem M_dict0 : evM cx Φ (n + 1) sc (.Dict [] [] p) env hp = some (.ref hp.length, hp ++ [.im 0]) := rfl
theorem M_tup {es : List Expr} {k : Nat} {l : List V} (h : evMs cx Φ n sc es env hp = some (l, hp1)) (hl : l.length ≤ lineMax) : evM cx Φ (n + 1) sc (.Tuple es k p) env hp = some (.tup l, hp1) := by
  show (evMs cx Φ n sc es env hp).bind _ = _
  rw [h]; exact if_pos hl
theorem M_list {a : Expr} {v : V} {l : List V} (hg : isGl sc "list" = true) (h : evE cx Φ n sc a env hp = some (v, hp1)) (hv : itemsOf hp1 v = some l) (hn : ∀ m, v ≠ .tup m) (hl : l.length ≤ lineMax) : evM cx Φ (n + 1) sc (.Call (.Name "list" p) [a] [] p1) env hp = some (.ref hp1.length, hp1 ++ [.lst l]) := by
  have e1 : evM cx Φ (n + 1) sc (.Call (.Name "list" p) [a] [] p1) env hp = (if ¬ isGl sc "list" then Option.none else (evE cx Φ n sc a env hp).bind fun (v, hp1) => (match v with
        | .tup _ => Option.none
        | v => (itemsOf hp1 v).bind fun l => if l.length ≤ lineMax then some (.ref hp1.length, hp1 ++ [.lst l]) else Option.none)) := rfl
  rw [e1, if_neg (by rw [hg]; decide)]
  refine Option.bind_eq_some_iff.mpr ⟨(v, hp1), h, ?_⟩
  cases v with
  | tup m => exact absurd rfl (hn m)
  | _ => exact Option.bind_eq_some_iff.mpr ⟨l, hv, if_pos hl⟩
theorem M_slice {o : Expr} {lo up : Option Expr} {l : List V} (h : evE cx Φ n sc (.Subscript o (.Slice lo up none p) p1) env hp = some (.lst l, hp1)) : evM cx Φ (n + 1) sc (.Subscript o (.Slice lo up none p) p1) env hp = some (.ref hp1.length, hp1 ++ [.lst l]) := by
  show (evE cx Φ n sc _ env hp).bind _ = _
  rw [h]; rfl
theorem M_dict {ks : List (Option Expr)} {vs : List Expr} {names : List Str} {l : List V} (hk : evKs ks = some names) (h : evEs cx Φ n sc vs env hp = some (l, hp1)) (hc : l.length = names.length ∧ names.Nodup ∧ l.length ≤ 15 ∧ l ≠ []) (hn : ks ≠ []) :
    evM cx Φ (n + 1) sc (.Dict ks vs p) env hp = some (.ref hp1.length, hp1 ++ [.sd (names.zip l)]) := by
  have e1 : evM cx Φ (n + 1) sc (.Dict ks vs p) env hp = (evKs ks).bind fun names => (evEs cx Φ n sc vs env hp).bind fun (l, hp1) =>
      if l.length = names.length ∧ names.Nodup ∧ l.length ≤ 15 ∧ l ≠ [] then some (.ref hp1.length, hp1 ++ [.sd (names.zip l)]) else Option.none := by
    cases ks with
    | nil => exact absurd rfl hn
    | cons _ _ => rfl
  rw [e1, hk]
  show (evEs cx Φ n sc vs env hp).bind _ = _
  rw [h]; exact if_pos hc
/-- where nothing new is made that may change -/
noncomputable def plainM : Expr → Bool
  | .List [] _ | .Dict _ _ _ | .Tuple _ _ _ | .Subscript _ (.Slice _ _ none _) _ => false
  | .Call (.Name id _) [_] [] _ => id != "list"
  | _ => true
theorem M_plain {e : Expr} {R : Rs V} (hp' : plainM e = true) (h : evE cx Φ n sc e env hp = R) : evM cx Φ (n + 1) sc e env hp = R := by
  cases e with
  | List es p =>
    cases es with
    | nil => cases hp'
    | cons _ _ => exact h
  | Subscript o i p =>
    cases i with
    | Slice a b c d =>
      cases c with
      | none => cases hp'
      | some _ => exact h
    | _ => exact h
  | Call f args kws p =>
    cases f with
    | Name id q =>
      rcases args with _ | ⟨a, _ | ⟨b, r⟩⟩
      · exact h
      · cases kws with
        | nil =>
          show (if id = "list" then _ else _) = _
          rw [if_neg (bne_iff_ne.mp (show (id != "list") = true from hp'))]
          exact h
        | cons _ _ => exact h
      · exact h
    | _ => exact h
  | Dict _ _ _ => cases hp'
  | Tuple _ _ _ => cases hp'
  | _ => exact h

theorem t_not {x : Expr} {b : Bool} (h : tst cx Φ n sc x env hp = some (b, hp1)) : tst cx Φ (n + 1) sc (.UnaryOp .Not x p) env hp = some (!b, hp1) := by
  show (tst cx Φ n sc x env hp).bind _ = _
  rw [h]; rfl
theorem t_andF {x y : Expr} (h : tst cx Φ n sc x env hp = some (false, hp1)) : tst cx Φ (n + 1) sc (.BoolOp .And [x, y] p) env hp = some (false, hp1) := by
  show (tst cx Φ n sc x env hp).bind _ = _
  rw [h]; rfl
theorem t_andT {x y : Expr} {R : Rs Bool} (h : tst cx Φ n sc x env hp = some (true, hp1)) (h2 : tst cx Φ n sc y env hp1 = R) : tst cx Φ (n + 1) sc (.BoolOp .And [x, y] p) env hp = R := by
  show (tst cx Φ n sc x env hp).bind _ = _
  rw [h]; exact h2
theorem t_orT {x y : Expr} (h : tst cx Φ n sc x env hp = some (true, hp1)) : tst cx Φ (n + 1) sc (.BoolOp .Or [x, y] p) env hp = some (true, hp1) := by
  show (tst cx Φ n sc x env hp).bind _ = _
  rw [h]; rfl
theorem t_orF {x y : Expr} {R : Rs Bool} (h : tst cx Φ n sc x env hp = some (false, hp1)) (h2 : tst cx Φ n sc y env hp1 = R) : tst cx Φ (n + 1) sc (.BoolOp .Or [x, y] p) env hp = R := by
  show (tst cx Φ n sc x env hp).bind _ = _
  rw [h]; exact h2
/-- and, without a case -/
theorem t_and {x y : Expr} {a b : Bool} (h : tst cx Φ n sc x env hp = some (a, hp1)) (h2 : a = true → tst cx Φ n sc y env hp1 = some (b, hp1)) : tst cx Φ (n + 1) sc (.BoolOp .And [x, y] p) env hp = some (a && b, hp1) := by
  cases a with
  | false => exact t_andF h
  | true => rw [Bool.true_and]; exact t_andT h (h2 rfl)
theorem t_or {x y : Expr} {a b : Bool} (h : tst cx Φ n sc x env hp = some (a, hp1)) (h2 : a = false → tst cx Φ n sc y env hp1 = some (b, hp1)) : tst cx Φ (n + 1) sc (.BoolOp .Or [x, y] p) env hp = some (a || b, hp1) := by
  cases a with
  | true => exact t_orT h
  | false => rw [Bool.false_or]; exact t_orF h (h2 rfl)
theorem t_cmp {l : Expr} {ops : List CmpOp} {rs : List Expr} {a : V} {R : Rs Bool} (h : evE cx Φ n sc l env hp = some (a, hp1)) (h2 : chain cx Φ n sc a ops rs env hp1 = R) : tst cx Φ (n + 1) sc (.Compare l ops rs p) env hp = R := by
  show (evE cx Φ n sc l env hp).bind _ = _
  rw [h]; exact h2
noncomputable def plainT : Expr → Bool
  | .Name _ _ | .Call _ _ _ _ | .Attribute _ _ _ => true
  | _ => false
theorem t_val {e : Expr} {b : Bool} (ht : plainT e = true) (h : evE cx Φ n sc e env hp = some (.bool b, hp1)) : tst cx Φ (n + 1) sc e env hp = some (b, hp1) := by
  have : tst cx Φ (n + 1) sc e env hp = (evE cx Φ n sc e env hp).bind fun (a, hp1) => (match a with | .bool b => some (b, hp1) | _ => Option.none) := by
    cases e <;> first | rfl | cases ht
  rw [this, h]; rfl
theorem ts_nil : tsts cx Φ (n + 1) sc [] env hp = some (true, hp) := rfl
theorem ts_one {e : Expr} {b : Bool} (h : tst cx Φ (n + 1) sc e env hp = some (b, hp1)) : tsts cx Φ (n + 2) sc [e] env hp = some (b, hp1) := by
  show (tst cx Φ (n + 1) sc e env hp).bind _ = _
  rw [h]
  cases b <;> rfl

theorem i_range {a : Expr} {k : Int} (hg : isGl sc "range" = true) (h : evE cx Φ n sc a env hp = some (.int k, hp1)) (hk : 0 ≤ k ∧ k ≤ 1000) : evI cx Φ (n + 1) sc (.Call (.Name "range" p) [a] [] p1) env hp = some ((.none, rangeV k), hp1) := by
  have e1 : evI cx Φ (n + 1) sc (.Call (.Name "range" p) [a] [] p1) env hp = (if ¬ isGl sc "range" then Option.none else (evE cx Φ n sc a env hp).bind fun (v, hp1) => (match v with
        | .int k => if 0 ≤ k ∧ k ≤ 1000 then some ((V.none, rangeV k), hp1) else Option.none
        | _ => Option.none)) := rfl
  rw [e1, if_neg (by rw [hg]; decide), h]
  exact if_pos hk
noncomputable def plainI : Expr → Bool
  | .Call (.Name id _) [_] [] _ => id != "range"
  | _ => true
theorem i_val {e : Expr} {v : V} {l : List V} (hi : plainI e = true) (h : evE cx Φ n sc e env hp = some (v, hp1)) (hl : itemsOf hp1 v = some l) (hz : l.length ≤ lineMax) : evI cx Φ (n + 1) sc e env hp = some ((v, l), hp1) := by
  have e1 : evI cx Φ (n + 1) sc e env hp = (evE cx Φ n sc e env hp).bind fun (v, hp1) => (itemsOf hp1 v).bind fun l => if l.length ≤ lineMax then some ((v, l), hp1) else Option.none := by
    cases e with
    | Call f args kws p =>
      cases f with
      | Name id q =>
        rcases args with _ | ⟨a, _ | ⟨b, r⟩⟩
        · rfl
        · cases kws with
          | nil =>
            show (if id = "range" then _ else _) = _
            rw [if_neg (bne_iff_ne.mp (show (id != "range") = true from hi))]
          | cons _ _ => rfl
        · rfl
      | _ => rfl
    | _ => rfl
  rw [e1, h]
  show (itemsOf hp1 v).bind _ = _
  rw [hl]; exact if_pos hz
theorem e_comp {elt t it : Expr} {ifs : List Expr} {scope : Scope} {src : V} {l k : List V} (hs : scOk scope sc env = true) (h : evI cx Φ n sc it env hp = some ((src, l), hp1))
    (h2 : compL (fun v hq => (bindC scope.names t v (captured scope.names env)).bind fun en => (tsts cx Φ n (relab scope.names sc) ifs en hq).bind fun (b, hq1) =>
        if b then (evE cx Φ n (relab scope.names sc) elt en hq1).bind fun (x, hq2) => guardR (stands src l hq2) (some ([x], hq2))
        else guardR (stands src l hq1) (some ([], hq1))) l hp1 = some (k, hp2)) (hk : k.length ≤ lineMax) : evE cx Φ (n + 2) sc (.ListComp elt [⟨t, it, ifs, 0⟩] scope p) env hp = some (.lst k, hp2) := by
  show (if ¬ scOk scope sc env then _ else _) = _
  rw [if_neg (by rw [hs]; decide)]
  show (evI cx Φ n sc it env hp).bind _ = _
  rw [h]
  show (compL _ l hp1).bind _ = _
  rw [h2]; exact if_pos hk
end
end Mine
end

section
open PySem PySem.W PyProof.Rows
set_option maxHeartbeats 1000000
set_option linter.unusedVariables false
set_option linter.unusedSimpArgs false
namespace Mine
noncomputable abbrev cf (k : Nat) : Call := callF theCx theSu theFs k

theorem cf_eq {k : Nat} {a : Addr} {vs : List V} {hp hp1 : Hp} {f : Fn} {fl : Fl} {env : En} (ha : a ≠ 356) (hf : theFs.find? (fun f => f.addr == a) = some f) (hl : vs.length = f.params.length)
    (h : exSs theCx (cf k) 60 f.names f.body (f.params.zip vs) hp = some (fl, env, hp1)) :
    cf (k + 1) a vs hp = if f.pure then guardR (hpEq (hp1.take hp.length) hp) ((froz hp.length hp1 (flV fl)).bind fun v => some (v, hp)) else some (flV fl, hp1) := by
  show (if a = theSu.addr then _ else match theFs.find? fun f => f.addr == a with | none => _ | some f => _) = _
  rw [if_neg (show ¬ a = theSu.addr from ha), hf]
  show (if vs.length = f.params.length then _ else _) = _
  rw [if_pos hl]
  show (exSs theCx (cf k) 60 f.names f.body (f.params.zip vs) hp).bind _ = _
  rw [h]; rfl
theorem cf_ret {k : Nat} {a : Addr} {vs : List V} {hp hp1 : Hp} {env : En} {v w : V} {hp2 : Hp} (f : Fn) (ha : a ≠ 356) (hf : theFs.find? (fun f => f.addr == a) = some f) (hl : vs.length = f.params.length) (hpu : f.pure = false)
    (h : exSs theCx (cf k) 60 f.names f.body (f.params.zip vs) hp = some (.ret v, env, hp1)) (hv : v = w) (hh : hp1 = hp2) : cf (k + 1) a vs hp = some (w, hp2) := by
  subst hv hh
  rw [cf_eq ha hf hl h, hpu]; rfl
theorem cf_nxt {k : Nat} {a : Addr} {vs : List V} {hp hp1 : Hp} {env : En} {hp2 : Hp} (f : Fn) (ha : a ≠ 356) (hf : theFs.find? (fun f => f.addr == a) = some f) (hl : vs.length = f.params.length) (hpu : f.pure = false)
    (h : exSs theCx (cf k) 60 f.names f.body (f.params.zip vs) hp = some (.next, env, hp1)) (hh : hp1 = hp2) : cf (k + 1) a vs hp = some (.none, hp2) := by
  subst hh
  rw [cf_eq ha hf hl h, hpu]; rfl
theorem cf_pure {k : Nat} {a : Addr} {vs : List V} {hp hp1 : Hp} {env : En} {v v' : V} (f : Fn) (ha : a ≠ 356) (hf : theFs.find? (fun f => f.addr == a) = some f) (hl : vs.length = f.params.length) (hpu : f.pure = true)
    (h : exSs theCx (cf k) 60 f.names f.body (f.params.zip vs) hp = some (.ret v, env, hp1)) (hk : hp1.take hp.length = hp) (hv : froz hp.length hp1 v = some v') : cf (k + 1) a vs hp = some (v', hp) := by
  rw [cf_eq ha hf hl h, hpu]
  show guardR _ ((froz hp.length hp1 v).bind _) = _
  rw [hv, (hpEq_iff _ _).mpr hk]; rfl

/-! env -/
theorem put_nil {x : Str} {v : V} : put x v [] = [(x, v)] := rfl
theorem put_hit {x : Str} {v w : V} {r : En} : put x v ((x, w) :: r) = (x, v) :: r := by
  show (if x = x then _ else _) = _
  rw [if_pos rfl]
theorem put_miss {x y : Str} {v w : V} {r r' : En} (h : (decide (y = x)) = false) (h2 : put x v r = r') : put x v ((y, w) :: r) = (y, w) :: r' := by
  show (if y = x then _ else _) = _
  rw [if_neg (by simpa using h), h2]
theorem tk_nil {env : En} : env.take ([] : En).length = [] := by simp
theorem tk_cons {a b : Str × V} {env env1 env2 : En} (h : env1.take env.length = env2) : (a :: env1).take (b :: env).length = a :: env2 := by
  rw [List.length_cons, List.take_succ_cons, h]

section
variable {cx : Cx} {Φ : Call} {n : Nat} {sc : Nm} {env env1 env2 : En} {hp hp1 hp2 hp3 : Hp} {p p1 p2 p3 : Pos}
theorem xs_name {x : Str} {e : Expr} {v : V} {r : List Stmt} {R : Option (Fl × En × Hp)} (h : evM cx Φ n sc e env hp = some (v, hp1)) (hm : mayStore sc x = true) (he : put x v env = env1) (h2 : exSs cx Φ (n + 1) sc r env1 hp1 = R) : exSs cx Φ (n + 2) sc (.Assign [.Name x p] e p1 :: r) env hp = R := by
  subst he
  exact x_next (s_name h hm) h2
theorem xs_ifR {t : Expr} {b o : List Stmt} {r : List Stmt} {v : V} (h : tst cx Φ n sc t env hp = some (true, hp1)) (h2 : exSs cx Φ n sc b env hp1 = some (.ret v, env1, hp2)) : exSs cx Φ (n + 2) sc (.If t b o p :: r) env hp = some (.ret v, env1.take env.length, hp2) := x_ret (s_ifT h h2)
theorem xs_ifER {t : Expr} {b o : List Stmt} {r : List Stmt} {v : V} (h : tst cx Φ n sc t env hp = some (false, hp1)) (h2 : exSs cx Φ n sc o env hp1 = some (.ret v, env1, hp2)) : exSs cx Φ (n + 2) sc (.If t b o p :: r) env hp = some (.ret v, env1.take env.length, hp2) := x_ret (s_ifF h h2)
theorem xs_ifE {t : Expr} {b : List Stmt} {r : List Stmt} {R : Option (Fl × En × Hp)} (h : tst cx Φ (n + 1) sc t env hp = some (false, hp1)) (h2 : exSs cx Φ (n + 2) sc r env hp1 = R) : exSs cx Φ (n + 3) sc (.If t b [] p :: r) env hp = R := by
  have := s_ifF (p := p) (b := b) (o := []) h x_nil
  rw [List.take_length] at this
  exact x_next this h2
theorem xs_ifT {t : Expr} {b o : List Stmt} {r : List Stmt} {R : Option (Fl × En × Hp)} (h : tst cx Φ n sc t env hp = some (true, hp1)) (h1 : exSs cx Φ n sc b env hp1 = some (.next, env1, hp2)) (he : env1.take env.length = env2) (h2 : exSs cx Φ (n + 1) sc r env2 hp2 = R) : exSs cx Φ (n + 2) sc (.If t b o p :: r) env hp = R := by
  subst he
  exact x_next (s_ifT h h1) h2
theorem xs_ifF {t : Expr} {b o : List Stmt} {r : List Stmt} {R : Option (Fl × En × Hp)} (h : tst cx Φ n sc t env hp = some (false, hp1)) (h1 : exSs cx Φ n sc o env hp1 = some (.next, env1, hp2)) (he : env1.take env.length = env2) (h2 : exSs cx Φ (n + 1) sc r env2 hp2 = R) : exSs cx Φ (n + 2) sc (.If t b o p :: r) env hp = R := by
  subst he
  exact x_next (s_ifF h h1) h2
theorem xs_tup {ts : List Expr} {k : Nat} {e : Expr} {l : List V} {xs : List Str} {r : List Stmt} {R : Option (Fl × En × Hp)} (ht : tgtNames ts = some xs) (hs : swapOk e = true) (h : evM cx Φ n sc e env hp = some (.tup l, hp1)) (hc : (decide (l.length = xs.length ∧ xs.Nodup ∧ xs.all (mayStore sc) ∧ l.length ≤ lineMax)) = true) (he : putAll xs l env = env1) (h2 : exSs cx Φ (n + 1) sc r env1 hp1 = R) :
    exSs cx Φ (n + 2) sc (.Assign [.Tuple ts k p] e p1 :: r) env hp = R := by
  subst he
  exact x_next (s_tup hs h ht (of_decide_eq_true hc)) h2
theorem xs_attr {o attr : Str} {e : Expr} {v ov : V} {r : List Stmt} {R : Option (Fl × En × Hp)} (h : evM cx Φ n sc e env hp = some (v, hp1)) (ho : env.lookup o = some ov) (h2 : setAttrV cx hp1 ov attr v = some hp2) (h3 : exSs cx Φ (n + 1) sc r env hp2 = R) :
    exSs cx Φ (n + 2) sc (.Assign [.Attribute (.Name o p) attr p1] e p2 :: r) env hp = R := x_next (s_attr h ho h2) h3
theorem xs_sub {o i e : Expr} {v ov iv : V} {hp4 : Hp} {r : List Stmt} {R : Option (Fl × En × Hp)} (h : evM cx Φ n sc e env hp = some (v, hp1)) (ho : evE cx Φ n sc o env hp1 = some (ov, hp2)) (hi : evE cx Φ n sc i env hp2 = some (iv, hp3)) (h2 : setSub hp3 ov iv v = some hp4) (h3 : exSs cx Φ (n + 1) sc r env hp4 = R) :
    exSs cx Φ (n + 2) sc (.Assign [.Subscript o i p1] e p2 :: r) env hp = R := x_next (s_sub h ho hi h2) h3
theorem xs_expr {f : Expr} {args : List Expr} {kws : List Keyword} {v : V} {r : List Stmt} {R : Option (Fl × En × Hp)} (h : evE cx Φ n sc (.Call f args kws p) env hp = some (v, hp1)) (hv : v = .none ∨ ∃ b, v = .bool b) (h3 : exSs cx Φ (n + 1) sc r env hp1 = R) : exSs cx Φ (n + 2) sc (.Expr (.Call f args kws p) p1 :: r) env hp = R := x_next (s_expr h hv) h3
theorem putAll_nil {l : List V} : putAll [] l env = env := rfl
theorem putAll_cons {x : Str} {xs : List Str} {v : V} {l : List V} (h : put x v env = env1) (h2 : putAll xs l env1 = env2) : putAll (x :: xs) (v :: l) env = env2 := by subst h; exact h2
theorem t_notF {x : Expr} (h : tst cx Φ n sc x env hp = some (false, hp1)) : tst cx Φ (n + 1) sc (.UnaryOp .Not x p) env hp = some (true, hp1) := t_not h
theorem t_notT {x : Expr} (h : tst cx Φ n sc x env hp = some (true, hp1)) : tst cx Φ (n + 1) sc (.UnaryOp .Not x p) env hp = some (false, hp1) := t_not h
theorem bindT_name {x : Str} {v : V} (hm : mayStore sc x = true) (he : put x v env = env1) : bindT sc (.Name x p) v env = some env1 := by
  subst he
  exact if_pos hm
theorem bindT_tup {ts : List Expr} {k : Nat} {l : List V} {xs : List Str} (ht : tgtNames ts = some xs) (hc : (decide (l.length = xs.length ∧ xs.all (mayStore sc) ∧ l.length ≤ lineMax)) = true) (he : putAll xs l env = env1) : bindT sc (.Tuple ts k p) (.tup l) env = some env1 := by
  subst he
  show (tgtNames ts).bind _ = _
  rw [ht]
  exact if_pos (of_decide_eq_true hc)
theorem xs_return {e : Expr} {v : V} {r : List Stmt} (h : evE cx Φ n sc e env hp = some (v, hp1)) : exSs cx Φ (n + 2) sc (.Return (some e) p :: r) env hp = some (.ret v, env, hp1) := x_ret (s_return h)
end

theorem m_pop' {hp : Hp} {cx : Cx} {Φ : Call} {n : Nat} {sc : Nm} {env : En} {i : Nat} {l : List V} {v : V} (h0 : hp[i]? = some (.lst (l ++ [v]))) (hl : (l ++ [v]).length ≤ lineMax) : methV cx Φ (n + 1) sc i "pop" [] env hp = some (v, hp.set i (.lst l)) := by
  have := m_pop (cx := cx) (Φ := Φ) (n := n) (sc := sc) (env := env) (v := v) h0 hl (by simp)
  rw [List.dropLast_concat] at this
  exact this

set_option hygiene false in
set_option compiler.extract_closed false in
local macro_rules | `(tactic| tb_start) => `(tactic| first
  | with_reducible first
    | exact e_int | exact e_str | exact e_bool | exact e_none | apply e_bin | apply e_neg | apply e_not | apply e_slice | apply e_attr | apply e_cmp | apply e_tup | apply e_lst
    | exact es_nil | apply es_cons | exact M_lst0 | exact M_dict0 | apply M_tup | apply M_slice | apply xs_return | apply xs_name | apply xs_attr | apply xs_sub | apply xs_expr | exact x_nil
    | apply c_more | apply t_not | apply t_notF | apply t_notT | apply t_cmp | exact ts_nil | apply ts_one | exact put_nil | exact put_hit | exact putAll_nil | apply m_append | apply m_pop' | exact tk_nil | apply tk_cons
    | exact ms_nil | apply ms_cons | exact o_none | apply o_some | apply bindT_name | apply bindT_tup | exact .inl rfl | exact .inr ⟨_, rfl⟩ | assumption
  | ((with_reducible first | apply e_name | apply e_sub | apply c_one | apply t_val | apply i_val | apply M_plain | apply put_miss); exact rfl)
  | ((with_reducible apply e_meth); exact rfl; exact rfl; exact rfl; exact rfl)
  | ((with_reducible first | apply e_fn | apply e_lmeth | apply e_ameth | apply xs_tup); exact rfl; exact rfl)
  | ((with_reducible apply e_blt); exact rfl; exact rfl; exact rfl)
  | apply putAll_cons
  | ((with_reducible first
      | change _ = true | change _ = false | change List.lookup _ _ = _ | change cmpV _ _ _ _ = _ | change binop _ _ _ = _ | change builtinV _ _ _ = _ | change itemsOf _ _ = _ | change subV _ _ _ = _
      | change setSub _ _ _ _ = _ | change setAttrV _ _ _ _ _ = _ | change tgtNames _ = _ | change sliceV _ _ _ _ = _ | change (_ : V) = _ | change (_ : Hp) = _); exact rfl)
  | exact Nat.le_of_ble_eq_true rfl)
/-! values -/
abbrev I2 := Int × Int
noncomputable def iv (p : I2) : V := .tup [.int p.1, .int p.2]
noncomputable def dv (d : List I2) : V := .tup (d.map iv)
noncomputable def rv (r : List Int) : V := .lst (r.map .int)

theorem sub_tup {hp : Hp} {l : List V} {i : Nat} {v : V} (h : l[i]? = some v) (hl : l.length ≤ lineMax) : subV hp (.tup l) (.int (i : Int)) = some v := by
  show (if l.length ≤ lineMax then atV l i else none) = _
  rw [if_pos hl]
  show (if 0 ≤ (i : Int) then l[(i : Int).toNat]? else _) = _
  rw [if_pos (by omega)]
  exact h
theorem sub_tupN {hp : Hp} {l : List V} {v : V} (h : l.getLast? = some v) (hl : l.length ≤ lineMax) : subV hp (.tup l) (.int (-1)) = some v := by
  show (if l.length ≤ lineMax then atV l (-1) else none) = _
  rw [if_pos hl]
  exact h


/-! a comprehension that changes nothing -/
section
variable {cx : Cx} {Φ : Call} {n : Nat} {sc : Nm} {env : En} {hp : Hp} {p1 : Pos}
theorem compL_pure {α : Type} {g : α → V} {out : α → List V} {step : V → Hp → Rs (List V)} : ∀ (xs : List α) (_ : ∀ a ∈ xs, step (g a) hp = some (out a, hp)), compL step (xs.map g) hp = some (xs.flatMap out, hp)
  | [], _ => rfl
  | a :: r, h => by
    show (step (g a) hp).bind _ = _
    rw [h a (by simp)]
    show (compL step (r.map g) hp).bind _ = _
    rw [compL_pure r fun b hb => h b (by simp [hb])]
    rfl
theorem flat_if {α : Type} {f : α → V} {p : α → Bool} : ∀ (xs : List α), (xs.flatMap fun a => if p a then [f a] else []) = (xs.filter p).map f
  | [] => rfl
  | a :: r => by
    rw [List.flatMap_cons, flat_if r, List.filter_cons]
    cases p a <;> rfl
theorem e_comp1 {elt t it : Expr} {ifs : List Expr} {scope : Scope} {src : V} {α : Type} {g : α → V} (xs : List α) (p : α → Bool) (f : α → V) (en : α → En) (hs : scOk scope sc env = true)
    (h : evI cx Φ n sc it env hp = some ((src, xs.map g), hp)) (hst : stands src (xs.map g) hp = true) (hl : xs.length ≤ lineMax)
    (hb : ∀ a ∈ xs, bindC scope.names t (g a) (captured scope.names env) = some (en a))
    (ht : ∀ a ∈ xs, tsts cx Φ n (relab scope.names sc) ifs (en a) hp = some (p a, hp))
    (he : ∀ a ∈ xs, p a = true → evE cx Φ n (relab scope.names sc) elt (en a) hp = some (f a, hp)) :
    evE cx Φ (n + 2) sc (.ListComp elt [⟨t, it, ifs, 0⟩] scope p1) env hp = some (.lst ((xs.filter p).map f), hp) := by
  refine e_comp hs h (hp2 := hp) ?_ (by rw [List.length_map]; exact Nat.le_trans (List.length_filter_le _ _) hl)
  rw [← flat_if xs]
  refine compL_pure xs fun a ha => ?_
  rw [hb a ha]
  show (tsts cx Φ n (relab scope.names sc) ifs (en a) hp).bind _ = _
  rw [ht a ha]
  show (if p a = true then _ else _) = _
  cases hq : p a
  · show guardR _ _ = _
    rw [hst]; rfl
  · show (evE cx Φ n (relab scope.names sc) elt (en a) hp).bind _ = _
    rw [he a ha hq]
    show guardR _ _ = _
    rw [hst]; rfl
end
theorem blt_tuple {hp : Hp} {l : List V} (hl : l.length ≤ lineMax) : builtinV hp "tuple" [.lst l] = some (.tup l) := by
  show (if l.length ≤ lineMax then some (V.tup l) else none) = _
  rw [if_pos hl]
theorem s71 {k : Nat} {hp : Hp} {d : List I2} {a : I2} (h : d.head? = some a) (hl : d.length ≤ lineMax) : cf (k + 1) 71 [dv d] hp = some (.int a.1, hp) := by
  apply cf_ret (mkFn 71 (topAt 6) false) (by decide) rfl rfl rfl
  show exSs _ _ 60 _ (_ :: _) [("d", _)] _ = _
  repeat tb_start
  · exact sub_tup (l := d.map iv) (i := 0) (v := iv a) (by cases d <;> simp_all) (by simpa using hl)
  repeat tb_start
theorem s78 {k : Nat} {hp : Hp} {d : List I2} {a : I2} (h : d.getLast? = some a) (hl : d.length ≤ lineMax) : cf (k + 1) 78 [dv d] hp = some (.int a.2, hp) := by
  apply cf_ret (mkFn 78 (topAt 7) false) (by decide) rfl rfl rfl
  show exSs _ _ 60 _ (_ :: _) [("d", _)] _ = _
  repeat tb_start
  · exact sub_tupN (l := d.map iv) (v := iv a) (by simp [h]) (by simpa using hl)
  repeat tb_start

noncomputable def upTo (d : List I2) (k : Int) : List I2 := (d.filter fun p => decide (p.1 ≤ k)).map fun p => (p.1, if k < p.2 then k else p.2)
noncomputable def fromOn (d : List I2) (k : Int) : List I2 := (d.filter fun p => decide (k ≤ p.2)).map fun p => (if k > p.1 then k else p.1, p.2)
theorem upTo_len (d : List I2) (k : Int) : (upTo d k).length ≤ d.length := by
  rw [upTo, List.length_map]; exact List.length_filter_le _ _
theorem fromOn_len (d : List I2) (k : Int) : (fromOn d k).length ≤ d.length := by
  rw [fromOn, List.length_map]; exact List.length_filter_le _ _

theorem s97 {k : Nat} {hp : Hp} {d : List I2} {j : Int} (hl : d.length ≤ lineMax) : cf (k + 1) 97 [dv d, .int j] hp = some (dv (upTo d j), hp) := by
  apply cf_ret (mkFn 97 (topAt 11) false) (by decide) rfl rfl rfl
  show exSs _ _ 60 _ (_ :: _) [("d", _), ("k", _)] _ = _
  repeat tb_start
  · refine e_comp1 (src := dv d) (g := iv) d (fun p => decide (p.1 ≤ j)) (fun p => iv (p.1, if j < p.2 then j else p.2)) (fun p => [("k", .int j), ("low", .int p.1), ("high", .int p.2)]) rfl ?_ ?_ hl (fun a _ => rfl) ?_ ?_
    · repeat tb_start
      exact Nat.le_trans (Nat.le_of_eq (List.length_map _)) hl
    · rfl
    · intro a _
      repeat tb_start
    · intro a _ _
      dsimp only [iv]
      repeat tb_start
  repeat tb_start
  · exact blt_tuple (by rw [List.length_map]; exact Nat.le_trans (List.length_filter_le _ _) hl)
  · rw [dv, upTo, List.map_map]; rfl
  · rfl
theorem s102 {k : Nat} {hp : Hp} {d : List I2} {j : Int} (hl : d.length ≤ lineMax) : cf (k + 1) 102 [dv d, .int j] hp = some (dv (fromOn d j), hp) := by
  apply cf_ret (mkFn 102 (topAt 12) false) (by decide) rfl rfl rfl
  show exSs _ _ 60 _ (_ :: _) [("d", _), ("k", _)] _ = _
  repeat tb_start
  · refine e_comp1 (src := dv d) (g := iv) d (fun p => decide (j ≤ p.2)) (fun p => iv (if j > p.1 then j else p.1, p.2)) (fun p => [("k", .int j), ("low", .int p.1), ("high", .int p.2)]) rfl ?_ ?_ hl (fun a _ => rfl) ?_ ?_
    · repeat tb_start
      exact Nat.le_trans (Nat.le_of_eq (List.length_map _)) hl
    · rfl
    · intro a _
      repeat tb_start
    · intro a _ _
      dsimp only [iv]
      repeat tb_start
  repeat tb_start
  · exact blt_tuple (by rw [List.length_map]; exact Nat.le_trans (List.length_filter_le _ _) hl)
  · rw [dv, fromOn, List.map_map]; rfl
  · rfl
theorem s109 {k : Nat} {hp : Hp} {d : List I2} {j : Int} (hl : d.length ≤ 500) : cf (k + 2) 109 [dv d, .int j] hp = some (dv (upTo d (j - 1) ++ fromOn d (j + 1)), hp) := by
  apply cf_ret (mkFn 109 (topAt 13) false) (by decide) rfl rfl rfl
  show exSs _ _ 60 _ (_ :: _) [("d", _), ("v", _)] _ = _
  repeat tb_start
  · exact s97 (Nat.le_trans hl (by decide))
  repeat tb_start
  · exact s102 (Nat.le_trans hl (by decide))
  · have h1 := upTo_len d (j - 1)
    have h2 := fromOn_len d (j + 1)
    show (if ((upTo d (j - 1)).map iv).length + ((fromOn d (j + 1)).map iv).length ≤ lineMax then _ else _) = _
    rw [if_pos (by rw [List.length_map, List.length_map]; unfold lineMax; omega)]
  · rw [dv, List.map_append]
  · rfl
inductive Sg where | le | ge | eq | ne
noncomputable def Sg.str : Sg → Str
  | .le => "<=" | .ge => ">=" | .eq => "=" | .ne => "!="
structure Lit where
  x : Nat
  s : Sg
  k : Int
noncomputable def ltV (l : Lit) : V := .tup [.int l.x, .str l.s.str, .int l.k]
noncomputable def bar (l : Lit) (v : Int) : Bool := match l.s with
  | .le => decide (l.k < v)
  | .ge => decide (v < l.k)
  | .eq => !(v == l.k)
  | .ne => v == l.k

section
variable {cx : Cx} {Φ : Call} {n : Nat} {sc : Nm} {env : En} {hp hp1 : Hp} {p : Pos}
theorem e_ifET {t x y : Expr} {R : Rs V} (h : tst cx Φ n sc t env hp = some (true, hp1)) (h2 : evE cx Φ n sc x env hp1 = R) : evE cx Φ (n + 1) sc (.IfExp t x y p) env hp = R := e_ifE h h2
theorem e_ifEF {t x y : Expr} {R : Rs V} (h : tst cx Φ n sc t env hp = some (false, hp1)) (h2 : evE cx Φ n sc y env hp1 = R) : evE cx Φ (n + 1) sc (.IfExp t x y p) env hp = R := e_ifE h h2
end

theorem s436 {k : Nat} {hp : Hp} {l : Lit} {v : Int} : cf (k + 1) 436 [ltV l, .int v] hp = some (.bool (bar l v), hp) := by
  obtain ⟨x, s, j⟩ := l
  cases s
  · apply cf_ret (mkFn 436 (topAt 26) false) (by decide) rfl rfl rfl
    show exSs _ _ 60 _ (_ :: _) [("literal", _), ("v", _)] _ = _
    repeat tb_start
    apply xs_ifR
    repeat tb_start
  · apply cf_ret (mkFn 436 (topAt 26) false) (by decide) rfl rfl rfl
    show exSs _ _ 60 _ (_ :: _) [("literal", _), ("v", _)] _ = _
    repeat tb_start
    apply xs_ifE
    repeat tb_start
    apply xs_ifR
    repeat tb_start
  · apply cf_ret (mkFn 436 (topAt 26) false) (by decide) rfl rfl rfl
    show exSs _ _ 60 _ (_ :: _) [("literal", _), ("v", _)] _ = _
    repeat tb_start
    apply xs_ifE
    repeat tb_start
    apply xs_ifE
    repeat tb_start
    apply e_ifET
    repeat tb_start
  · apply cf_ret (mkFn 436 (topAt 26) false) (by decide) rfl rfl rfl
    show exSs _ _ 60 _ (_ :: _) [("literal", _), ("v", _)] _ = _
    repeat tb_start
    apply xs_ifE
    repeat tb_start
    apply xs_ifE
    repeat tb_start
    apply e_ifEF
    repeat tb_start


noncomputable def neg (l : Lit) : Lit := match l.s with
  | .le => ⟨l.x, .ge, l.k + 1⟩
  | .ge => ⟨l.x, .le, l.k - 1⟩
  | .eq => ⟨l.x, .ne, l.k⟩
  | .ne => ⟨l.x, .eq, l.k⟩
theorem s123 {k : Nat} {hp : Hp} {l : Lit} : cf (k + 1) 123 [ltV l] hp = some (ltV (neg l), hp) := by
  obtain ⟨x, s, j⟩ := l
  cases s
  · apply cf_ret (mkFn 123 (topAt 15) false) (by decide) rfl rfl rfl
    show exSs _ _ 60 _ (_ :: _) [("literal", _)] _ = _
    repeat tb_start
    apply xs_ifR
    repeat tb_start
  · apply cf_ret (mkFn 123 (topAt 15) false) (by decide) rfl rfl rfl
    show exSs _ _ 60 _ (_ :: _) [("literal", _)] _ = _
    repeat tb_start
    apply xs_ifE
    repeat tb_start
    apply xs_ifR
    repeat tb_start
  · apply cf_ret (mkFn 123 (topAt 15) false) (by decide) rfl rfl rfl
    show exSs _ _ 60 _ (_ :: _) [("literal", _)] _ = _
    repeat tb_start
    apply xs_ifE
    repeat tb_start
    apply xs_ifE
    repeat tb_start
    apply e_ifET
    repeat tb_start
  · apply cf_ret (mkFn 123 (topAt 15) false) (by decide) rfl rfl rfl
    show exSs _ _ 60 _ (_ :: _) [("literal", _)] _ = _
    repeat tb_start
    apply xs_ifE
    repeat tb_start
    apply xs_ifE
    repeat tb_start
    apply e_ifEF
    repeat tb_start


noncomputable def cut (l : Lit) (d : List I2) : List I2 := match l.s with
  | .le => upTo d l.k
  | .ge => fromOn d l.k
  | _ => upTo d (l.k - 1) ++ fromOn d (l.k + 1)
theorem s130 {k : Nat} {hp : Hp} {l : Lit} {d : List I2} (hs : l.s ≠ .eq) (hl : d.length ≤ 500) : cf (k + 3) 130 [ltV l, dv d] hp = some (dv (cut l d), hp) := by
  obtain ⟨x, s, j⟩ := l
  have hl' : d.length ≤ lineMax := Nat.le_trans hl (by decide)
  cases s
  · apply cf_ret (mkFn 130 (topAt 16) false) (by decide) rfl rfl rfl
    show exSs _ _ 60 _ (_ :: _) [("literal", _), ("d", _)] _ = _
    repeat tb_start
    apply xs_ifR
    repeat tb_start
    exact s97 hl'
    repeat tb_start
  · apply cf_ret (mkFn 130 (topAt 16) false) (by decide) rfl rfl rfl
    show exSs _ _ 60 _ (_ :: _) [("literal", _), ("d", _)] _ = _
    repeat tb_start
    apply xs_ifE
    repeat tb_start
    apply xs_ifR
    repeat tb_start
    exact s102 hl'
    repeat tb_start
  · exact absurd rfl hs
  · apply cf_ret (mkFn 130 (topAt 16) false) (by decide) rfl rfl rfl
    show exSs _ _ 60 _ (_ :: _) [("literal", _), ("d", _)] _ = _
    repeat tb_start
    apply xs_ifE
    repeat tb_start
    apply xs_ifE
    repeat tb_start
    apply e_ifEF
    repeat tb_start
    exact s109 hl
    repeat tb_start
section
variable {cx : Cx} {Φ : Call} {n : Nat} {sc : Nm} {env : En} {hp hp1 hp2 : Hp} {p : Pos}
theorem itemsOf_ref {i : Nat} {l : List V} (h : hp[i]? = some (.lst l)) : itemsOf hp (.ref i) = some l := by
  show (match hp[i]? with | some (.lst l) => some l | _ => none) = _
  rw [h]
theorem blt_len {v : V} {l : List V} (h : itemsOf hp v = some l) (hl : l.length ≤ lineMax) : builtinV hp "len" [v] = some (.int l.length) := by
  show (itemsOf hp v).bind _ = _
  rw [h]
  exact if_pos hl
theorem blt_tupleR {i : Nat} {l : List V} (h : hp[i]? = some (.lst l)) (hl : l.length ≤ lineMax) : builtinV hp "tuple" [.ref i] = some (.tup l) := by
  show (itemsOf hp (.ref i)).bind _ = _
  rw [itemsOf_ref h]
  exact if_pos hl
theorem sub_at {v w : V} {l : List V} {i : Nat} (hv : itemsOf hp v = some l) (h : l[i]? = some w) (hl : l.length ≤ lineMax) : subV hp v (.int (i : Int)) = some w := by
  have e : subV hp v (.int (i : Int)) = (itemsOf hp v).bind fun l => if l.length ≤ lineMax then atV l i else none := by cases v <;> rfl
  rw [e, hv]
  show (if l.length ≤ lineMax then atV l i else none) = _
  rw [if_pos hl]
  show (if 0 ≤ (i : Int) then l[(i : Int).toNat]? else _) = _
  rw [if_pos (by omega)]
  exact h
theorem sub_last {v w : V} {l : List V} (hv : itemsOf hp v = some l) (h : l.getLast? = some w) (hl : l.length ≤ lineMax) : subV hp v (.int (-1)) = some w := by
  have e : subV hp v (.int (-1)) = (itemsOf hp v).bind fun l => if l.length ≤ lineMax then atV l (-1) else none := by cases v <;> rfl
  rw [e, hv]
  show (if l.length ≤ lineMax then atV l (-1) else none) = _
  rw [if_pos hl]
  exact h
theorem set_last {i : Nat} {l : List V} {v : V} (h : hp[i]? = some (.lst l)) (hl : l.length ≤ lineMax) (hn : l ≠ []) : setSub hp (.ref i) (.int (-1)) v = some (hp.set i (.lst (l.set (l.length - 1) v))) := by
  show setInt hp i (-1) v hp[i]? = _
  rw [h]
  show (if l.length ≤ lineMax then _ else _) = _
  rw [if_pos hl, if_neg (by omega), if_pos ⟨rfl, hn⟩]
end
theorem set_self {hp : Hp} {i : Nat} {o : AO} (h : hp[i]? = some o) : hp.set i o = hp := by
  apply List.ext_getElem?
  intro j
  rw [List.getElem?_set]
  split
  · rename_i e; subst e
    have := (List.getElem?_eq_some_iff.mp h).1
    simp only [if_pos this]
    exact h.symm
  · rfl

noncomputable def pb (d : List I2) (v : Int) : List I2 := match d.getLast? with
  | none => [(v, v)]
  | some (a, b) => if v ≤ b + 1 then (if b < v then d.dropLast ++ [(a, v)] else d) else d ++ [(v, v)]
theorem getLast_split {α : Type} {d : List α} {a : α} (h : d.getLast? = some a) : ∃ e, d = e ++ [a] := by
  obtain ⟨e, x, rfl⟩ : ∃ e x, d = e ++ [x] := by
    rcases List.eq_nil_or_concat d with rfl | ⟨e, x, rfl⟩
    · simp at h
    · exact ⟨e, x, by simp⟩
  simp at h; subst h; exact ⟨e, rfl⟩
theorem le_T {hp : Hp} {x y : Int} (h : x ≤ y) : cmpV hp .LtE (.int x) (.int y) = some true := by
  show some (decide (x ≤ y)) = _
  rw [decide_eq_true h]
theorem le_F {hp : Hp} {x y : Int} (h : ¬ x ≤ y) : cmpV hp .LtE (.int x) (.int y) = some false := by
  show some (decide (x ≤ y)) = _
  rw [decide_eq_false h]
theorem lt_T {hp : Hp} {x y : Int} (h : x < y) : cmpV hp .Lt (.int x) (.int y) = some true := by
  show some (decide (x < y)) = _
  rw [decide_eq_true h]
theorem lt_F {hp : Hp} {x y : Int} (h : ¬ x < y) : cmpV hp .Lt (.int x) (.int y) = some false := by
  show some (decide (x < y)) = _
  rw [decide_eq_false h]
theorem gt_T {hp : Hp} {x y : Int} (h : y < x) : cmpV hp .Gt (.int x) (.int y) = some true := by
  show some (decide (y < x)) = _
  rw [decide_eq_true h]
theorem gt_F {hp : Hp} {x y : Int} (h : ¬ y < x) : cmpV hp .Gt (.int x) (.int y) = some false := by
  show some (decide (y < x)) = _
  rw [decide_eq_false h]
theorem ge_T {hp : Hp} {x y : Int} (h : y ≤ x) : cmpV hp .GtE (.int x) (.int y) = some true := by
  show some (decide (y ≤ x)) = _
  rw [decide_eq_true h]
theorem ge_F {hp : Hp} {x y : Int} (h : ¬ y ≤ x) : cmpV hp .GtE (.int x) (.int y) = some false := by
  show some (decide (y ≤ x)) = _
  rw [decide_eq_false h]

theorem s57 {k : Nat} {hp : Hp} {i : Nat} {d : List I2} {v : Int} (h : hp[i]? = some (.lst (d.map iv))) (hl : d.length ≤ lineMax) : cf (k + 1) 57 [.ref i, .int v, .int v] hp = some (.none, hp.set i (.lst ((pb d v).map iv))) := by
  have hl' : (d.map iv).length ≤ lineMax := by rw [List.length_map]; exact hl
  have hlen : builtinV hp "len" [.ref i] = some (.int (d.map iv).length) := blt_len (itemsOf_ref h) hl'
  cases hd : d.getLast? with
  | none =>
    have : d = [] := by simpa using hd
    subst this
    apply cf_nxt (mkFn 57 (topAt 4) false) (by decide) rfl rfl rfl
    show exSs _ _ 60 _ (_ :: _) [("found", _), ("low", _), ("high", _)] _ = _
    apply xs_ifF
    · apply t_andF
      repeat tb_start
    · apply xs_expr
      · apply e_lmeth rfl rfl
        apply m_append h
        repeat tb_start
      · exact .inl rfl
      repeat tb_start
    repeat tb_start
  | some ab =>
    obtain ⟨e, rfl⟩ := getLast_split hd
    obtain ⟨a, b⟩ := ab
    have hg : ((e ++ [(a, b)]).map iv).getLast? = some (iv (a, b)) := by simp
    have hs : subV hp (.ref i) (.int (-1)) = some (iv (a, b)) := sub_last (itemsOf_ref h) hg hl'
    have hpos : cmpV hp .Gt (.int ((e ++ [(a, b)]).map iv).length) (.int 0) = some true := gt_T (by simp)
    have e1 : pb (e ++ [(a, b)]) v = if v ≤ b + 1 then (if b < v then e ++ [(a, v)] else e ++ [(a, b)]) else e ++ [(a, b)] ++ [(v, v)] := by
      rw [pb, hd]; simp
    by_cases h1 : v ≤ b + 1
    · have c1 : cmpV hp .LtE (.int v) (.int (b + 1)) = some true := le_T h1
      rw [if_pos h1] at e1
      by_cases h2 : b < v
      · rw [if_pos h2] at e1
        have c2 : cmpV hp .Gt (.int v) (.int b) = some true := gt_T h2
        apply cf_nxt (mkFn 57 (topAt 4) false) (by decide) rfl rfl rfl
        show exSs _ _ 60 _ (_ :: _) [("found", _), ("low", _), ("high", _)] _ = _
        apply xs_ifT
        · apply t_andT
          repeat tb_start
        · apply xs_ifT
          repeat tb_start
          · exact set_last h hl' (by simp)
          repeat tb_start
        repeat tb_start
        · rw [e1]; simp [iv]
      · rw [if_neg h2] at e1
        have c2 : cmpV hp .Gt (.int v) (.int b) = some false := gt_F h2
        apply cf_nxt (mkFn 57 (topAt 4) false) (by decide) rfl rfl rfl
        show exSs _ _ 60 _ (_ :: _) [("found", _), ("low", _), ("high", _)] _ = _
        apply xs_ifT
        · apply t_andT
          repeat tb_start
        · apply xs_ifE
          repeat tb_start
        repeat tb_start
        · rw [e1]; exact (set_self h).symm
    · rw [if_neg h1] at e1
      have c1 : cmpV hp .LtE (.int v) (.int (b + 1)) = some false := le_F h1
      apply cf_nxt (mkFn 57 (topAt 4) false) (by decide) rfl rfl rfl
      show exSs _ _ 60 _ (_ :: _) [("found", _), ("low", _), ("high", _)] _ = _
      apply xs_ifF
      · apply t_andT
        repeat tb_start
      · apply xs_expr
        · apply e_lmeth rfl rfl
          apply m_append h
          repeat tb_start
        · exact .inl rfl
        repeat tb_start
      repeat tb_start
      · rw [e1]; simp [iv]

noncomputable def fv (row : List Int) : List I2 := row.foldl pb []
theorem pb_len (d : List I2) (v : Int) : (pb d v).length ≤ d.length + 1 := by
  unfold pb
  split
  · simp
  · split
    · split
      · simp
      · omega
    · simp
theorem fv_len_aux : ∀ (row : List Int) (d : List I2), (row.foldl pb d).length ≤ d.length + row.length
  | [], d => by simp
  | v :: r, d => by
    have := fv_len_aux r (pb d v)
    have := pb_len d v
    simp only [List.foldl_cons, List.length_cons]; omega
theorem fv_len (row : List Int) : (fv row).length ≤ row.length := by
  have := fv_len_aux row []
  rw [List.length_nil, Nat.zero_add] at this
  exact this

theorem intsOf_mk : ∀ (l : List Int), intsOf (l.map .int) = some l
  | [] => rfl
  | a :: r => by
    show (intsOf (r.map .int)).bind _ = _
    rw [intsOf_mk r]; rfl
theorem isAsc_of : ∀ {l : List Int}, l.Pairwise (· < ·) → isAsc l = true
  | [], _ => rfl
  | [_], _ => rfl
  | a :: b :: r, h => by
    show (decide (a < b) && isAsc (b :: r)) = true
    rw [List.pairwise_cons] at h
    rw [isAsc_of h.2, decide_eq_true (h.1 b (by simp))]; rfl
theorem noRefs_dv : ∀ (d : List I2), noRefs (d.map iv) = true
  | [] => rfl
  | p :: d => by
    show (noRef (iv p) && noRefs (d.map iv)) = true
    rw [noRefs_dv d]; rfl
section
variable {cx : Cx} {Φ : Call} {n : Nat} {sc : Nm} {env env0 env1 env2 env3 : En} {hp hp1 hp2 : Hp} {p : Pos}
/-- one turn of a for -/
theorem turn {t : Expr} {b : List Stmt} {src v : V} {l : List V} {fl : Fl} (hb : bindT sc t v env = some env1) (h : exSs cx Φ n sc b env1 hp = some (fl, env2, hp1)) (he : env2.take env0.length = env3) (hh : hp1 = hp2) (hs : stands src l hp2 = true) :
    ((bindT sc t v env).bind fun en1 => (exSs cx Φ n sc b en1 hp).bind fun (fl, en2, hq1) => guardR (stands src l hq1) (some (fl, en2.take env0.length, hq1))) = some (fl, env3, hp2) := by
  subst he hh
  rw [hb]
  show (exSs cx Φ n sc b env1 hp).bind _ = _
  rw [h]
  show guardR _ _ = _
  rw [hs]
  rfl
theorem forL_next {step : V → En → Hp → Option (Fl × En × Hp)} {v : V} {r : List V} {R : Option (Fl × En × Hp)} (h : step v env hp = some (.next, env1, hp1)) (h2 : forL step r env1 hp1 = R) : forL step (v :: r) env hp = R := by
  show (step v env hp).bind _ = _
  rw [h]; exact h2
theorem forL_ret {step : V → En → Hp → Option (Fl × En × Hp)} {v w : V} {r : List V} (h : step v env hp = some (.ret w, env1, hp1)) : forL step (v :: r) env hp = some (.ret w, env1, hp1) := by
  show (step v env hp).bind _ = _
  rw [h]; rfl
theorem forL_fold {α σ : Type} {step : V → En → Hp → Option (Fl × En × Hp)} (g : α → V) (f : σ → α → σ) (E : σ → En) (H : σ → Hp) (P : σ → List α → Prop)
    (hs : ∀ s a r, P s (a :: r) → step (g a) (E s) (H s) = some (.next, E (f s a), H (f s a)) ∧ P (f s a) r) : ∀ (xs : List α) (s : σ), P s xs → forL step (xs.map g) (E s) (H s) = some (.next, E (xs.foldl f s), H (xs.foldl f s))
  | [], _, _ => rfl
  | a :: r, s, h => forL_next (hs s a r h).1 (forL_fold g f E H P hs r (f s a) (hs s a r h).2)
theorem xs_for {t it : Expr} {b : List Stmt} {src : V} {l : List V} {r : List Stmt} {R : Option (Fl × En × Hp)} (h : evI cx Φ n sc it env hp = some ((src, l), hp1))
    (h1 : forL (fun v en hq => (bindT sc t v en).bind fun en1 => (exSs cx Φ n sc b en1 hq).bind fun (fl, en2, hq1) => guardR (stands src l hq1) (some (fl, en2.take env.length, hq1))) l env hp1 = some (.next, env1, hp2))
    (h2 : exSs cx Φ (n + 1) sc r env1 hp2 = R) : exSs cx Φ (n + 2) sc (.For t it b [] p :: r) env hp = R := x_next (s_for h h1) h2
theorem xs_forR {t it : Expr} {b : List Stmt} {src w : V} {l : List V} {r : List Stmt} (h : evI cx Φ n sc it env hp = some ((src, l), hp1))
    (h1 : forL (fun v en hq => (bindT sc t v en).bind fun en1 => (exSs cx Φ n sc b en1 hq).bind fun (fl, en2, hq1) => guardR (stands src l hq1) (some (fl, en2.take env.length, hq1))) l env hp1 = some (.ret w, env1, hp2)) : exSs cx Φ (n + 2) sc (.For t it b [] p :: r) env hp = some (.ret w, env1, hp2) := x_ret (s_for h h1)
end
theorem blt_sorted {hp : Hp} {row : List Int} (ha : row.Pairwise (· < ·)) (hl : row.length ≤ 60) : builtinV hp "sorted" [rv row] = some (rv row) := by
  show (intsOf (row.map .int)).bind _ = _
  rw [intsOf_mk row]
  exact if_pos (by rw [isAsc_of ha, Bool.true_and]; exact Nat.ble_eq_true_of_le hl)
theorem hset_last {hp : Hp} {x y : AO} : (hp ++ [x]).set hp.length y = hp ++ [y] := by simp
theorem hget_last {hp : Hp} {x : AO} : (hp ++ [x])[hp.length]? = some x := by simp
theorem s64 {k : Nat} {hp : Hp} {row : List Int} (ha : row.Pairwise (· < ·)) (hl : row.length ≤ 60) : cf (k + 2) 64 [rv row] hp = some (dv (fv row), hp) := by
  apply cf_pure (mkFn 64 (topAt 5) true) (by decide) rfl rfl rfl
  show exSs _ _ 60 _ (_ :: _) [("numbers", _)] _ = _
  have hsort : builtinV (hp ++ [.lst []]) "sorted" [rv row] = some (rv row) := blt_sorted ha hl
  have hlm : (row.map V.int).length ≤ lineMax := by rw [List.length_map]; exact Nat.le_trans hl (by decide)
  have hfl := fv_len row
  have htup : builtinV (hp ++ [.lst ((fv row).map iv)]) "tuple" [.ref hp.length] = some (.tup ((fv row).map iv)) := blt_tupleR hget_last (by rw [List.length_map]; unfold lineMax; omega)
  repeat tb_start
  apply xs_for (hp2 := hp ++ [.lst ((fv row).map iv)]) (env1 := [("numbers", rv row), ("found", .ref hp.length)])
  repeat tb_start
  · refine forL_fold V.int pb (fun _ => [("numbers", rv row), ("found", .ref hp.length)]) (fun d => hp ++ [.lst (d.map iv)]) (fun d r => d.length + r.length ≤ 900) ?_ row [] (by simp; omega)
    intro d a r hP
    have hP2 : d.length + r.length + 1 ≤ 900 := hP
    refine ⟨?_, by have := pb_len d a; show (pb d a).length + r.length ≤ 900; omega⟩
    apply turn
    repeat tb_start
    · exact s57 hget_last (by unfold lineMax; omega)
    repeat tb_start
    exact hset_last
    repeat tb_start
  repeat tb_start
  · simp
  · show (if noRefs ((fv row).map iv) = true then _ else _) = _
    rw [if_pos (noRefs_dv _)]; rfl
theorem cmp_nil {hp : Hp} {l : List V} : cmpV hp .Eq (.lst l) (.lst []) = some l.isEmpty := by
  cases l <;> rfl
theorem cmpN_nil {hp : Hp} {l : List V} : cmpV hp .NotEq (.lst l) (.lst []) = some (!l.isEmpty) := by
  cases l <;> rfl
section
variable {cx : Cx} {Φ : Call} {n : Nat} {sc : Nm} {env : En} {hp : Hp} {p1 : Pos}
theorem flat_len {α β : Type} {f : α → List β} {m : Nat} : ∀ (xs : List α), (∀ a ∈ xs, (f a).length ≤ m) → (xs.flatMap f).length ≤ xs.length * m
  | [], _ => by simp
  | a :: r, h => by
    have h1 := h a (by simp)
    have h2 := flat_len r fun b hb => h b (by simp [hb])
    rw [List.flatMap_cons, List.length_append, List.length_cons, Nat.succ_mul]
    omega
theorem e_comp2 {elt t t' it it' : Expr} {ifs : List Expr} {scope : Scope} {src src' : V} {α β : Type} {g : α → V} {g' : β → V} (xs : List α) (ys : List β) (p : α → β → Bool) (f : α → β → V) (en : α → En) (en' : α → β → En) (hpl : plainE it' = true) (hs : scOk scope sc env = true)
    (h : evI cx Φ n sc it env hp = some ((src, xs.map g), hp)) (hst : stands src (xs.map g) hp = true) (hst' : stands src' (ys.map g') hp = true) (hl : xs.length * ys.length ≤ lineMax)
    (hb : ∀ a ∈ xs, bindC scope.names t (g a) (captured scope.names env) = some (en a))
    (h' : ∀ a ∈ xs, evI cx Φ n (relab scope.names sc) it' (en a) hp = some ((src', ys.map g'), hp))
    (hb' : ∀ a ∈ xs, ∀ b ∈ ys, bindC scope.names t' (g' b) (en a) = some (en' a b))
    (ht : ∀ a ∈ xs, ∀ b ∈ ys, tsts cx Φ n (relab scope.names sc) ifs (en' a b) hp = some (p a b, hp))
    (he : ∀ a ∈ xs, ∀ b ∈ ys, p a b = true → evE cx Φ n (relab scope.names sc) elt (en' a b) hp = some (f a b, hp)) :
    evE cx Φ (n + 2) sc (.ListComp elt [⟨t, it, [], 0⟩, ⟨t', it', ifs, 0⟩] scope p1) env hp = some (.lst (xs.flatMap fun a => (ys.filter (p a)).map (f a)), hp) := by
  show (if ¬ scOk scope sc env then _ else _) = _
  rw [if_neg (by rw [hs]; decide)]
  show (if ¬ plainE it' then _ else _) = _
  rw [if_neg (by rw [hpl]; decide)]
  show (evI cx Φ n sc it env hp).bind _ = _
  rw [h]
  show (compL _ (xs.map g) hp).bind _ = _
  rw [compL_pure (out := fun a => (ys.filter (p a)).map (f a)) xs fun a ha => ?_]
  · refine if_pos (Nat.le_trans (flat_len xs fun a _ => ?_) hl)
    rw [List.length_map]; exact List.length_filter_le _ _
  · rw [hb a ha]
    show (evI cx Φ n (relab scope.names sc) it' (en a) hp).bind _ = _
    rw [h' a ha]
    show (compL _ (ys.map g') hp).bind _ = _
    rw [compL_pure (out := fun b => if p a b then [f a b] else []) ys fun b hbb => ?_]
    · show guardR _ _ = _
      rw [hst, flat_if]; rfl
    · rw [hb' a ha b hbb]
      show (tsts cx Φ n (relab scope.names sc) ifs (en' a b) hp).bind _ = _
      rw [ht a ha b hbb]
      show (if p a b = true then _ else _) = _
      cases hq : p a b
      · show guardR _ _ = _
        rw [hst']; rfl
      · show (evE cx Φ n (relab scope.names sc) elt (en' a b) hp).bind _ = _
        rw [he a ha b hbb hq]
        show guardR _ _ = _
        rw [hst']; rfl
end

noncomputable def hold (l : Lit) (row : List Int) : Bool := (row.filter (bar l)).isEmpty
theorem s446 {k : Nat} {hp : Hp} {l : Lit} {ov : V} {rows : List (List Int)} {row : List Int} (ho : itemsOf hp ov = some (rows.map rv)) (hr : rows[l.x]? = some row) (hn : rows.length ≤ lineMax) (hl : row.length ≤ lineMax) : cf (k + 2) 446 [ltV l, ov] hp = some (.bool (hold l row), hp) := by
  apply cf_ret (mkFn 446 (topAt 28) false) (by decide) rfl rfl rfl
  show exSs _ _ 60 _ (_ :: _) [("literal", _), ("own", _)] _ = _
  have h1 : subV hp ov (.int (l.x : Int)) = some (rv row) := sub_at ho (by rw [List.getElem?_map, hr]; rfl) (by rw [List.length_map]; exact hn)
  have h2 : (row.map V.int).length ≤ lineMax := by rw [List.length_map]; exact hl
  repeat tb_start
  · refine e_comp1 (src := rv row) (g := V.int) row (bar l) V.int (fun s => [("literal", ltV l), ("s", .int s)]) rfl ?_ rfl hl (fun a _ => rfl) ?_ ?_
    · repeat tb_start
    · intro a _
      repeat tb_start
      exact s436
    · intro a _ _
      repeat tb_start
  repeat tb_start
  · exact cmp_nil
  · show V.bool (((row.filter (bar l)).map V.int).isEmpty) = _
    rw [hold]; cases row.filter (bar l) <;> rfl
  · rfl

noncomputable def prV (q : Int × Int) : V := .tup [.int q.1, .int q.2]
noncomputable def apartB (l0 l1 s t : Int) : Bool := decide (s + l0 ≤ t) || decide (t + l1 ≤ s)
noncomputable def apartL (r0 r1 : List Int) (l0 l1 : Int) : List (Int × Int) := r0.flatMap fun s => (r1.filter (apartB l0 l1 s)).map fun t => (s, t)
theorem s451 {k : Nat} {hp : Hp} {ov lv : V} {rows : List (List Int)} {r0 r1 ls : List Int} {l0 l1 : Int} (ho : itemsOf hp ov = some (rows.map rv)) (hr0 : rows[0]? = some r0) (hr1 : rows[1]? = some r1) (hn : rows.length ≤ lineMax)
    (hlv : itemsOf hp lv = some (ls.map V.int)) (hl0 : ls[0]? = some l0) (hl1 : ls[1]? = some l1) (hll : ls.length ≤ lineMax) (h0 : r0.length ≤ 30) (h1 : r1.length ≤ 30) :
    cf (k + 1) 451 [ov, lv] hp = some (.lst ((apartL r0 r1 l0 l1).map prV), hp) := by
  apply cf_ret (mkFn 451 (topAt 29) false) (by decide) rfl rfl rfl
  show exSs _ _ 60 _ (_ :: _) [("own", _), ("lasts", _)] _ = _
  have e0 : subV hp ov (.int 0) = some (rv r0) := sub_at (i := 0) ho (by rw [List.getElem?_map, hr0]; rfl) (by rw [List.length_map]; exact hn)
  have e1 : subV hp ov (.int 1) = some (rv r1) := sub_at (i := 1) ho (by rw [List.getElem?_map, hr1]; rfl) (by rw [List.length_map]; exact hn)
  have f0 : subV hp lv (.int 0) = some (.int l0) := sub_at (i := 0) hlv (by rw [List.getElem?_map, hl0]; rfl) (by rw [List.length_map]; exact hll)
  have f1 : subV hp lv (.int 1) = some (.int l1) := sub_at (i := 1) hlv (by rw [List.getElem?_map, hl1]; rfl) (by rw [List.length_map]; exact hll)
  have z0 : (r0.map V.int).length ≤ lineMax := by rw [List.length_map]; exact Nat.le_trans h0 (by decide)
  have z1 : (r1.map V.int).length ≤ lineMax := by rw [List.length_map]; exact Nat.le_trans h1 (by decide)
  repeat tb_start
  · refine e_comp2 (src := rv r0) (src' := rv r1) (g := V.int) (g' := V.int) r0 r1 (apartB l0 l1) (fun s t => prV (s, t)) (fun s => [("own", ov), ("lasts", lv), ("s", .int s)]) (fun s t => [("own", ov), ("lasts", lv), ("s", .int s), ("t", .int t)]) rfl rfl ?_ rfl rfl ?_ (fun a _ => rfl) ?_ (fun a _ b _ => rfl) ?_ ?_
    · repeat tb_start
    · exact Nat.le_trans (Nat.mul_le_mul h0 h1) (by decide)
    · intro a _
      repeat tb_start
    · intro a _ b _
      repeat tb_start
      refine t_or (a := decide (a + l0 ≤ b)) (b := decide (b + l1 ≤ a)) ?_ (fun _ => ?_)
      · repeat tb_start
      · repeat tb_start
    · intro a _ b _ _
      show _ = some (V.tup [.int a, .int b], hp)
      repeat tb_start
  repeat tb_start
  · rw [apartL, List.map_flatMap]; simp only [List.map_map]; rfl
  · rfl

noncomputable def sel (l : Lit) (q : Int × Int) : Int := if l.x = 0 then q.1 else q.2
noncomputable def keepB (ls : List Lit) (q : Int × Int) : Bool := (ls.filter fun l => bar l (sel l q)).isEmpty
theorem s456 {k : Nat} {hp : Hp} {pv lv : V} {ps : List (Int × Int)} {ls : List Lit} (hpv : itemsOf hp pv = some (ps.map prV)) (hlv : itemsOf hp lv = some (ls.map ltV)) (hps : stands pv (ps.map prV) hp = true) (hls : stands lv (ls.map ltV) hp = true)
    (h0 : ps.length ≤ lineMax) (h1 : ls.length ≤ lineMax) (hx : ∀ l ∈ ls, l.x = 0 ∨ l.x = 1) : cf (k + 2) 456 [pv, lv] hp = some (.lst ((ps.filter (keepB ls)).map prV), hp) := by
  apply cf_ret (mkFn 456 (topAt 30) false) (by decide) rfl rfl rfl
  show exSs _ _ 60 _ (_ :: _) [("pairs", _), ("literals", _)] _ = _
  have z0 : (ps.map prV).length ≤ lineMax := by rw [List.length_map]; exact h0
  have z1 : (ls.map ltV).length ≤ lineMax := by rw [List.length_map]; exact h1
  repeat tb_start
  · refine e_comp1 (src := pv) (g := prV) ps (keepB ls) prV (fun q => [("literals", lv), ("pair", prV q)]) rfl ?_ hps h0 (fun a _ => rfl) ?_ ?_
    · repeat tb_start
    · intro q _
      repeat tb_start
      · refine e_comp1 (src := lv) (g := ltV) ls (fun l => bar l (sel l q)) (fun _ => .int 1) (fun l => [("pair", prV q), ("literal", ltV l)]) rfl ?_ hls h1 (fun a _ => rfl) ?_ ?_
        · repeat tb_start
        · intro l hl
          have hs : subV hp (prV q) (.int (l.x : Int)) = some (.int (sel l q)) := by
            rcases hx l hl with e | e
            · rw [e, sel, if_pos e]; rfl
            · rw [e, sel, if_neg (by omega)]; rfl
          repeat tb_start
          exact s436
        · intro a _ _
          repeat tb_start
      repeat tb_start
      · rw [cmp_nil, keepB]; cases ls.filter fun l => bar l (sel l q) <;> rfl
    · intro q _ _
      repeat tb_start
  repeat tb_start
theorem sub_atI {hp : Hp} {v w : V} {l : List V} {i : Int} {j : Nat} (hi : i = j) (hv : itemsOf hp v = some l) (h : l[j]? = some w) (hl : l.length ≤ lineMax) : subV hp v (.int i) = some w := by
  subst hi; exact sub_at hv h hl
theorem rv_head {hp : Hp} {row : List Int} {a : Int} (h : row.head? = some a) (hl : row.length ≤ lineMax) : subV hp (rv row) (.int 0) = some (.int a) :=
  sub_at (i := 0) (l := row.map .int) rfl (by cases row <;> simp_all) (by rw [List.length_map]; exact hl)
theorem rv_last {hp : Hp} {row : List Int} {a : Int} (h : row.getLast? = some a) (hl : row.length ≤ lineMax) : subV hp (rv row) (.int (-1)) = some (.int a) :=
  sub_last (l := row.map .int) rfl (by simp [h]) (by rw [List.length_map]; exact hl)
/-- what is asked of rows -/
noncomputable def leftL (ra : List Int) (hb lb : Int) : List Int := ra.filter fun s => decide (hb + lb ≤ s)
theorem s461a {k : Nat} {hp : Hp} {ov lv : V} {rows : List (List Int)} {ra rb ls : List Int} {a b : Nat} {la lb ha tb : Int} (ho : itemsOf hp ov = some (rows.map rv)) (hra : rows[a]? = some ra) (hrb : rows[b]? = some rb) (hn : rows.length ≤ lineMax)
    (hlv : itemsOf hp lv = some (ls.map V.int)) (hla : ls[a]? = some la) (hlb : ls[b]? = some lb) (hll : ls.length ≤ lineMax) (h0 : ra.length ≤ lineMax) (h1 : rb.length ≤ lineMax)
    (hha : ra.head? = some ha) (htb : rb.getLast? = some tb) (hc : ha + la ≤ tb) :
    cf (k + 1) 461 [ov, lv, .int a, .int b] hp = some (.tup [rv ra, rv rb], hp) := by
  have e0 : subV hp ov (.int a) = some (rv ra) := sub_at ho (by rw [List.getElem?_map, hra]; rfl) (by rw [List.length_map]; exact hn)
  have e1 : subV hp ov (.int b) = some (rv rb) := sub_at ho (by rw [List.getElem?_map, hrb]; rfl) (by rw [List.length_map]; exact hn)
  have f0 : subV hp lv (.int a) = some (.int la) := sub_at hlv (by rw [List.getElem?_map, hla]; rfl) (by rw [List.length_map]; exact hll)
  have g0 : subV hp (rv ra) (.int 0) = some (.int ha) := rv_head hha h0
  have g1 : subV hp (rv rb) (.int (-1)) = some (.int tb) := rv_last htb h1
  have c1 : cmpV hp .LtE (.int (ha + la)) (.int tb) = some true := le_T hc
  apply cf_ret (mkFn 461 (topAt 31) false) (by decide) rfl rfl rfl
  show exSs _ _ 60 _ (_ :: _) [("own", _), ("lasts", _), ("a", _), ("b", _)] _ = _
  apply xs_ifR
  repeat tb_start
noncomputable def rightB (left : List Int) (lb t : Int) : Bool := match left.getLast? with
  | none => false
  | some x => decide (t + lb ≤ x)
noncomputable def rightL (left rb : List Int) (lb : Int) : List Int := rb.filter (rightB left lb)
theorem s461b {k : Nat} {hp : Hp} {ov lv : V} {rows : List (List Int)} {ra rb ls : List Int} {a b : Nat} {la lb ha tb hb : Int} (ho : itemsOf hp ov = some (rows.map rv)) (hra : rows[a]? = some ra) (hrb : rows[b]? = some rb) (hn : rows.length ≤ lineMax)
    (hlv : itemsOf hp lv = some (ls.map V.int)) (hla : ls[a]? = some la) (hlb : ls[b]? = some lb) (hll : ls.length ≤ lineMax) (h0 : ra.length ≤ lineMax) (h1 : rb.length ≤ lineMax)
    (hha : ra.head? = some ha) (htb : rb.getLast? = some tb) (hhb : rb.head? = some hb) (hc : ¬ ha + la ≤ tb) :
    cf (k + 1) 461 [ov, lv, .int a, .int b] hp = some (.tup [rv (leftL ra hb lb), rv (rightL (leftL ra hb lb) rb lb)], hp) := by
  have e0 : subV hp ov (.int a) = some (rv ra) := sub_at ho (by rw [List.getElem?_map, hra]; rfl) (by rw [List.length_map]; exact hn)
  have e1 : subV hp ov (.int b) = some (rv rb) := sub_at ho (by rw [List.getElem?_map, hrb]; rfl) (by rw [List.length_map]; exact hn)
  have f0 : subV hp lv (.int a) = some (.int la) := sub_at hlv (by rw [List.getElem?_map, hla]; rfl) (by rw [List.length_map]; exact hll)
  have f1 : subV hp lv (.int b) = some (.int lb) := sub_at hlv (by rw [List.getElem?_map, hlb]; rfl) (by rw [List.length_map]; exact hll)
  have g0 : subV hp (rv ra) (.int 0) = some (.int ha) := rv_head hha h0
  have g1 : subV hp (rv rb) (.int (-1)) = some (.int tb) := rv_last htb h1
  have g2 : subV hp (rv rb) (.int 0) = some (.int hb) := rv_head hhb h1
  have c1 : cmpV hp .LtE (.int (ha + la)) (.int tb) = some false := le_F hc
  have z0 : (ra.map V.int).length ≤ lineMax := by rw [List.length_map]; exact h0
  have z1 : (rb.map V.int).length ≤ lineMax := by rw [List.length_map]; exact h1
  obtain ⟨left, hleft⟩ : ∃ left, left = leftL ra hb lb := ⟨_, rfl⟩
  have z2 : left.length ≤ lineMax := by rw [hleft]; exact Nat.le_trans (List.length_filter_le _ _) h0
  apply cf_ret (mkFn 461 (topAt 31) false) (by decide) rfl rfl rfl
  show exSs _ _ 60 _ (_ :: _) [("own", _), ("lasts", _), ("a", _), ("b", _)] _ = _
  apply xs_ifE
  repeat tb_start
  · refine e_comp1 (src := rv ra) (g := V.int) ra (fun s => decide (hb + lb ≤ s)) V.int (fun s => [("own", ov), ("lasts", lv), ("b", .int b), ("s", .int s)]) rfl ?_ rfl h0 (fun a _ => rfl) ?_ ?_
    · repeat tb_start
    · intro s _
      repeat tb_start
    · intro s _ _
      repeat tb_start
  repeat tb_start
  · show evE _ _ _ _ _ [("own", ov), ("lasts", lv), ("a", .int a), ("b", .int b), ("left", rv (leftL ra hb lb))] _ = _
    rw [← hleft]
    refine e_comp1 (src := rv rb) (g := V.int) rb (rightB left lb) V.int (fun t => [("lasts", lv), ("b", .int b), ("left", rv left), ("t", .int t)]) rfl ?_ rfl h1 (fun t _ => rfl) ?_ ?_
    · repeat tb_start
    · intro t _
      cases hx : left.getLast? with
      | none =>
        have : left = [] := by simpa using hx
        subst this
        have ef : rightB [] lb t = false := rfl
        rw [ef]
        repeat tb_start
        apply t_andF
        repeat tb_start
      | some x =>
        have ef : rightB left lb t = decide (t + lb ≤ x) := by rw [rightB, hx]
        have eN : cmpV hp .NotEq (rv left) (.lst []) = some true := by
          rw [rv, cmpN_nil]; cases left with
          | nil => simp at hx
          | cons _ _ => rfl
        have eL : subV hp (rv left) (.int (-1)) = some (.int x) := rv_last hx z2
        rw [ef]
        repeat tb_start
        apply t_andT
        repeat tb_start
    · intro s _ _
      repeat tb_start
  repeat tb_start
  · rw [hleft]; rfl
  · rfl
theorem set_attr {cx : Cx} {hp : Hp} {C i : Nat} {attr : Str} {v : V} {fs fs' : List (Str × V)} (h : hp[i]? = some (.ins fs)) (hc : (decide (fs.length ≤ 100 ∧ isFld cx C attr)) = true) (he : setF attr v fs = fs') : setAttrV cx hp (.obj C i) attr v = some (hp.set i (.ins fs')) := by
  subst he
  show (match hp[i]? with | some (.ins fs) => _ | _ => _) = _
  rw [h]
  exact if_pos (of_decide_eq_true hc)
noncomputable def insF (m nw : Nat) (fl : Bool) (cl : List V) : List (Str × V) := [("domains", .ref 3), ("firsts", .ref 4), ("trail", .ref 5), ("marks", .ref m), ("news", .ref nw), ("speaker", .int (-1)), ("is_failed", .bool fl), ("clash", .tup cl)]

theorem dOk_iv (n : Nat) (p : I2) : dOk (n + 1) (iv p) = true := by
  cases n <;> rfl
theorem dOk_ivs (n : Nat) : ∀ (d : List I2), (d.map iv).all (dOk (n + 1)) = true
  | [] => rfl
  | p :: d => by rw [List.map_cons, List.all_cons, dOk_iv, dOk_ivs n d]; rfl
theorem dOk_dv (n : Nat) (d : List I2) : dOk (n + 2) (dv d) = true := dOk_ivs n d
theorem iv_inj {p q : I2} (h : iv p = iv q) : p = q := by
  obtain ⟨a, b⟩ := p; obtain ⟨c, d⟩ := q
  unfold iv at h
  injection h with h
  injection h with h1 h2
  injection h2 with h2 _
  injection h1 with h1
  injection h2 with h2
  simp at h1 h2
  rw [h1, h2]
theorem map_inj {α β : Type} {f : α → β} (hf : ∀ a b, f a = f b → a = b) : ∀ {l m : List α}, l.map f = m.map f → l = m
  | [], [], _ => rfl
  | [], _ :: _, h => by simp at h
  | _ :: _, [], h => by simp at h
  | a :: l, b :: m, h => by
    rw [List.map_cons, List.map_cons] at h
    injection h with h1 h2
    rw [hf a b h1, map_inj hf h2]
theorem dv_inj {d e : List I2} (h : dv d = dv e) : d = e := by
  unfold dv at h
  injection h with h
  exact map_inj (fun _ _ => iv_inj) h
theorem vEq_dec {x y : V} {P : Prop} [Decidable P] (h : x = y ↔ P) : vEq x y = decide P := by
  by_cases hp : P
  · rw [decide_eq_true hp, (vEq_iff x y).mpr (h.mpr hp)]
  · rw [decide_eq_false hp]
    cases hv : vEq x y
    · rfl
    · exact absurd (h.mp ((vEq_iff x y).mp hv)) hp
theorem cmp_dv {hp : Hp} {d e : List I2} : cmpV hp .Eq (dv d) (dv e) = some (decide (d = e)) := by
  show (if dOk 6 (dv d) && dOk 6 (dv e) then some (vEq (dv d) (dv e)) else none) = _
  rw [dOk_dv, dOk_dv]
  show some (vEq (dv d) (dv e)) = _
  rw [vEq_dec ⟨dv_inj, fun h => by rw [h]⟩]
theorem cmp_dv0 {hp : Hp} {d : List I2} : cmpV hp .Eq (dv d) (.tup []) = some (decide (d = [])) := cmp_dv (e := [])

section
variable {k : Nat} {hp : Hp} {m nw x : Nat} {fl : Bool} {cl rs : List V} {doms fst : List (List I2)} {d : List I2} {l : Lit}
theorem s172 (h2 : hp[2]? = some (.ins (insF m nw fl cl))) (h3 : hp[3]? = some (.lst (doms.map dv))) (hx : doms[x]? = some d) (hn : doms.length ≤ lineMax) : cf (k + 1) 172 [.obj 287 2, .int x] hp = some (dv d, hp) := by
  have e : subV hp (.ref 3) (.int x) = some (dv d) := sub_at (itemsOf_ref h3) (by rw [List.getElem?_map, hx]; rfl) (by rw [List.length_map]; exact hn)
  apply cf_ret (mkFn 172 (methAt 19 3) false) (by decide) rfl rfl rfl
  show exSs _ _ 60 _ (_ :: _) [("self", _), ("x", _)] _ = _
  repeat tb_start
theorem s186 {a : I2} (h2 : hp[2]? = some (.ins (insF m nw fl cl))) (h3 : hp[3]? = some (.lst (doms.map dv))) (hx : doms[x]? = some d) (hn : doms.length ≤ lineMax) (ha : d.head? = some a) (hd : d.length ≤ lineMax) : cf (k + 2) 186 [.obj 287 2, .int x] hp = some (.int a.1, hp) := by
  have e : subV hp (.ref 3) (.int x) = some (dv d) := sub_at (itemsOf_ref h3) (by rw [List.getElem?_map, hx]; rfl) (by rw [List.length_map]; exact hn)
  have c : cf (k + 1) 71 [dv d] hp = some (.int a.1, hp) := s71 ha hd
  apply cf_ret (mkFn 186 (methAt 19 5) false) (by decide) rfl rfl rfl
  show exSs _ _ 60 _ (_ :: _) [("self", _), ("x", _)] _ = _
  repeat tb_start
theorem s193 {a : I2} (h2 : hp[2]? = some (.ins (insF m nw fl cl))) (h3 : hp[3]? = some (.lst (doms.map dv))) (hx : doms[x]? = some d) (hn : doms.length ≤ lineMax) (ha : d.getLast? = some a) (hd : d.length ≤ lineMax) : cf (k + 2) 193 [.obj 287 2, .int x] hp = some (.int a.2, hp) := by
  have e : subV hp (.ref 3) (.int x) = some (dv d) := sub_at (itemsOf_ref h3) (by rw [List.getElem?_map, hx]; rfl) (by rw [List.length_map]; exact hn)
  have c : cf (k + 1) 78 [dv d] hp = some (.int a.2, hp) := s78 ha hd
  apply cf_ret (mkFn 193 (methAt 19 6) false) (by decide) rfl rfl rfl
  show exSs _ _ 60 _ (_ :: _) [("self", _), ("x", _)] _ = _
  repeat tb_start
theorem s256 (h2 : hp[2]? = some (.ins (insF m nw fl cl))) (hr : rs.length ≤ lineMax) : cf (k + 1) 256 [.obj 287 2, .tup rs] hp = some (.bool false, hp.set 2 (.ins (insF m nw true rs))) := by
  have h2' : (hp.set 2 (.ins (insF m nw true cl)))[2]? = some (.ins (insF m nw true cl)) := by
    rw [List.getElem?_set_self (List.getElem?_eq_some_iff.mp h2).1]
  have e1 : setAttrV theCx hp (.obj 287 2) "is_failed" (.bool true) = some (hp.set 2 (.ins (insF m nw true cl))) := set_attr h2 rfl rfl
  have e2 : setAttrV theCx (hp.set 2 (.ins (insF m nw true cl))) (.obj 287 2) "clash" (.tup rs) = some ((hp.set 2 (.ins (insF m nw true cl))).set 2 (.ins (insF m nw true rs))) := set_attr h2' rfl rfl
  apply cf_ret (mkFn 256 (methAt 19 15) false) (by decide) rfl rfl rfl
  show exSs _ _ 60 _ (_ :: _) [("self", _), ("reasons", _)] _ = _
  repeat tb_start
  rw [List.set_set]
theorem cutlen (l : Lit) (d : List I2) : (cut l d).length ≤ 2 * d.length := by
  have h1 := upTo_len d l.k
  have h2 := fromOn_len d l.k
  have h3 := upTo_len d (l.k - 1)
  have h4 := fromOn_len d (l.k + 1)
  unfold cut
  cases l.s <;> simp only [List.length_append] <;> omega
/-- the struck domain is empty -/
theorem s235A {sp : V} (h2 : hp[2]? = some (.ins (insF m nw fl cl))) (h3 : hp[3]? = some (.lst (doms.map dv))) (hx : doms[l.x]? = some d) (hn : doms.length ≤ lineMax) (hd : d.length ≤ 500) (hs : l.s ≠ .eq) (hc : cut l d = []) (hr : rs.length ≤ 900) :
    cf (k + 4) 235 [.obj 287 2, ltV l, .tup rs, sp] hp = some (.bool false, hp.set 2 (.ins (insF m nw true (rs ++ [ltV (neg l)])))) := by
  have e : subV hp (.ref 3) (.int l.x) = some (dv d) := sub_at (itemsOf_ref h3) (by rw [List.getElem?_map, hx]; rfl) (by rw [List.length_map]; exact hn)
  have c1 : cf (k + 3) 130 [ltV l, dv d] hp = some (dv (cut l d), hp) := s130 hs hd
  have c2 : cmpV hp .Eq (dv (cut l d)) (.tup []) = some true := by rw [cmp_dv0, decide_eq_true hc]
  have c3 : cf (k + 3) 123 [ltV l] hp = some (ltV (neg l), hp) := s123
  have c4 : binop .Add (.tup rs) (.tup [ltV (neg l)]) = some (.tup (rs ++ [ltV (neg l)])) := if_pos (by unfold lineMax; simp; omega)
  have c5 : cf (k + 3) 256 [.obj 287 2, .tup (rs ++ [ltV (neg l)])] hp = some (.bool false, hp.set 2 (.ins (insF m nw true (rs ++ [ltV (neg l)])))) := s256 h2 (by unfold lineMax; simp; omega)
  apply cf_ret (mkFn 235 (methAt 19 12) false) (by decide) rfl rfl rfl
  show exSs _ _ 60 _ (_ :: _) [("self", _), ("literal", _), ("reasons", _), ("speaker", _)] _ = _
  repeat tb_start
  apply xs_ifR
  repeat tb_start
  apply e_ifEF
  repeat tb_start
/-- nothing is struck -/
theorem s235B {rv' sp : V} (h2 : hp[2]? = some (.ins (insF m nw fl cl))) (h3 : hp[3]? = some (.lst (doms.map dv))) (hx : doms[l.x]? = some d) (hn : doms.length ≤ lineMax) (hd : d.length ≤ 500) (hs : l.s ≠ .eq) (hc : cut l d ≠ []) (hq : cut l d = d) :
    cf (k + 4) 235 [.obj 287 2, ltV l, rv', sp] hp = some (.bool true, hp) := by
  have e : subV hp (.ref 3) (.int l.x) = some (dv d) := sub_at (itemsOf_ref h3) (by rw [List.getElem?_map, hx]; rfl) (by rw [List.length_map]; exact hn)
  have c1 : cf (k + 3) 130 [ltV l, dv d] hp = some (dv (cut l d), hp) := s130 hs hd
  have c2 : cmpV hp .Eq (dv (cut l d)) (.tup []) = some false := by rw [cmp_dv0, decide_eq_false hc]
  have c3 : cmpV hp .Eq (dv (cut l d)) (dv d) = some true := by rw [cmp_dv, decide_eq_true hq]
  apply cf_ret (mkFn 235 (methAt 19 12) false) (by decide) rfl rfl rfl
  show exSs _ _ 60 _ (_ :: _) [("self", _), ("literal", _), ("reasons", _), ("speaker", _)] _ = _
  repeat tb_start
  apply xs_ifE
  repeat tb_start
  apply xs_ifR
  repeat tb_start
theorem set_im {hp : Hp} {i j : Nat} {k : Int} {v : V} (h : hp[i]? = some (.im j)) (hj : j ≤ lineMax) : setSub hp (.ref i) (.int k) v = some (hp.set i (.im (j + 1))) := by
  show setInt hp i k v hp[i]? = _
  rw [h]
  exact if_pos hj
theorem set_at {hp : Hp} {i x : Nat} {l : List V} {v : V} (h : hp[i]? = some (.lst l)) (hl : l.length ≤ lineMax) (hx : x < l.length) : setSub hp (.ref i) (.int x) v = some (hp.set i (.lst (l.set x v))) := by
  show setInt hp i x v hp[i]? = _
  rw [h]
  show (if l.length ≤ lineMax then _ else _) = _
  rw [if_pos hl, if_pos ⟨by omega, by omega⟩]
  rfl
theorem get_set {hp : Hp} {i j : Nat} {o r : AO} (h : hp[j]? = some r) (hne : i ≠ j) : (hp.set i o)[j]? = some r := by
  rw [List.getElem?_set_ne hne]; exact h
theorem get_self {hp : Hp} {i : Nat} {o r : AO} (h : hp[i]? = some r) : (hp.set i o)[i]? = some o := by
  rw [List.getElem?_set_self (List.getElem?_eq_some_iff.mp h).1]
/-- something is struck -/
theorem s235C {rv' : V} {tr : List V} {j : Nat} (h2 : hp[2]? = some (.ins (insF m nw fl cl))) (h3 : hp[3]? = some (.lst (doms.map dv))) (h5 : hp[5]? = some (.lst tr)) (hnw : hp[nw]? = some (.im j)) (n2 : nw ≠ 2) (n3 : nw ≠ 3) (n5 : nw ≠ 5) (hj : j ≤ lineMax) (htr : tr.length ≤ lineMax)
    (hx : doms[l.x]? = some d) (hn : doms.length ≤ lineMax) (hd : d.length ≤ 500) (hs : l.s ≠ .eq) (hc : cut l d ≠ []) (hq : cut l d ≠ d) :
    cf (k + 4) 235 [.obj 287 2, ltV l, rv', .int (-1)] hp = some (.bool true, ((hp.set 5 (.lst (tr ++ [.tup [.int l.x, dv d, ltV l, rv', .int (-1)]]))).set 3 (.lst ((doms.set l.x (cut l d)).map dv))).set nw (.im (j + 1))) := by
  have e : subV hp (.ref 3) (.int l.x) = some (dv d) := sub_at (itemsOf_ref h3) (by rw [List.getElem?_map, hx]; rfl) (by rw [List.length_map]; exact hn)
  have c1 : cf (k + 3) 130 [ltV l, dv d] hp = some (dv (cut l d), hp) := s130 hs hd
  have c2 : cmpV hp .Eq (dv (cut l d)) (.tup []) = some false := by rw [cmp_dv0, decide_eq_false hc]
  have c3 : cmpV hp .Eq (dv (cut l d)) (dv d) = some false := by rw [cmp_dv, decide_eq_false hq]
  have hlx : l.x < (doms.map dv).length := by rw [List.length_map]; exact (List.getElem?_eq_some_iff.mp hx).1
  have hn' : (doms.map dv).length ≤ lineMax := by rw [List.length_map]; exact hn
  have a2 := get_set (o := .lst (tr ++ [.tup [.int l.x, dv d, ltV l, rv', .int (-1)]])) h2 (i := 5) (by decide)
  have a3 := get_set (o := .lst (tr ++ [.tup [.int l.x, dv d, ltV l, rv', .int (-1)]])) h3 (i := 5) (by decide)
  have an := get_set (o := .lst (tr ++ [.tup [.int l.x, dv d, ltV l, rv', .int (-1)]])) hnw (i := 5) (Ne.symm n5)
  have e2 := set_at (v := dv (cut l d)) a3 hn' hlx
  have b2 := get_set (o := .lst ((doms.map dv).set l.x (dv (cut l d)))) a2 (i := 3) (by decide)
  have bn := get_set (o := .lst ((doms.map dv).set l.x (dv (cut l d)))) an (i := 3) (Ne.symm n3)
  have e3 := set_im (k := l.x) (v := .bool true) bn hj
  apply cf_ret (mkFn 235 (methAt 19 12) false) (by decide) rfl rfl rfl
  show exSs _ _ 60 _ (_ :: _) [("self", _), ("literal", _), ("reasons", _), ("speaker", _)] _ = _
  repeat tb_start
  apply xs_ifE
  repeat tb_start
  apply xs_ifE
  repeat tb_start
  rw [List.map_set]
end
structure Ent where
  x : Nat
  old : List I2
  l : Lit
  r : V
noncomputable def entV (e : Ent) : V := .tup [.int e.x, dv e.old, ltV e.l, e.r, .int (-1)]
noncomputable def undo (rs : List Ent) (doms : List (List I2)) : List (List I2) := rs.foldl (fun d e => d.set e.x e.old) doms
noncomputable def mkV (mk : List Nat) : List V := mk.map fun (i : Nat) => V.int i
theorem mkV_len (mk : List Nat) : (mkV mk).length = mk.length := List.length_map _
theorem undo_len : ∀ (rs : List Ent) (doms : List (List I2)), (undo rs doms).length = doms.length
  | [], _ => rfl
  | e :: r, doms => by
    show (undo r (doms.set e.x e.old)).length = _
    rw [undo_len r, List.length_set]

section
variable {k : Nat} {hp hp' : Hp} {m nw x : Nat} {fl b : Bool} {cl rs : List V} {doms fst : List (List I2)} {d : List I2} {l : Lit}
theorem s242 (h2 : hp[2]? = some (.ins (insF m nw fl cl))) (hr : rs.length ≤ lineMax) (h : cf k 235 [.obj 287 2, ltV l, .tup rs, .int (-1)] hp = some (.bool b, hp')) : cf (k + 1) 242 [.obj 287 2, ltV l, .lst rs] hp = some (.bool b, hp') := by
  have e := blt_tuple (hp := hp) hr
  apply cf_ret (mkFn 242 (methAt 19 13) false) (by decide) rfl rfl rfl
  show exSs _ _ 60 _ (_ :: _) [("self", _), ("literal", _), ("reasons", _)] _ = _
  repeat tb_start
theorem s249 (h2 : hp[2]? = some (.ins (insF m nw fl cl))) (h : cf k 235 [.obj 287 2, ltV l, .none, .int (-1)] hp = some (.bool b, hp')) : cf (k + 1) 249 [.obj 287 2, ltV l] hp = some (.bool b, hp') := by
  apply cf_ret (mkFn 249 (methAt 19 14) false) (by decide) rfl rfl rfl
  show exSs _ _ 60 _ (_ :: _) [("self", _), ("literal", _)] _ = _
  repeat tb_start
theorem s263 {tr mk : List V} (h2 : hp[2]? = some (.ins (insF m nw fl cl))) (h5 : hp[5]? = some (.lst tr)) (hm : hp[m]? = some (.lst mk)) (htr : tr.length ≤ lineMax) (hmk : mk.length ≤ lineMax) :
    cf (k + 1) 263 [.obj 287 2] hp = some (.none, hp.set m (.lst (mk ++ [.int tr.length]))) := by
  have e := blt_len (itemsOf_ref h5) htr
  apply cf_nxt (mkFn 263 (methAt 19 16) false) (by decide) rfl rfl rfl
  show exSs _ _ 60 _ (_ :: _) [("self", _)] _ = _
  repeat tb_start

theorem in_nil (h4 : hp[4]? = some (.lst (fst.map dv))) (hf : ∀ d ∈ fst, d ≠ []) : cmpV hp .In (.tup []) (.ref 4) = some false := by
  show (itemsOf hp (.ref 4)).bind _ = _
  rw [itemsOf_ref h4]
  show (if dOk 6 (.tup []) && (fst.map dv).all (dOk 6) then some ((fst.map dv).any fun y => vEq y (.tup [])) else none) = _
  have e1 : (fst.map dv).all (dOk 6) = true := by
    rw [List.all_eq_true]
    intro v hv
    obtain ⟨d, _, rfl⟩ := List.mem_map.mp hv
    exact dOk_dv 4 d
  have e2 : ((fst.map dv).any fun y => vEq y (.tup [])) = false := by
    rw [List.any_eq_false]
    intro v hv
    obtain ⟨d, hd, rfl⟩ := List.mem_map.mp hv
    intro h
    exact hf d hd (dv_inj (e := []) ((vEq_iff _ _).mp h))
  rw [e1, e2]
  rfl

theorem whileL_T {test : En → Hp → Rs Bool} {body : En → Hp → Option (Fl × En × Hp)} {n : Nat} {env env1 : En} {hp1 hp2 : Hp} {R : Option (Fl × En × Hp)} (h : test env hp = some (true, hp1)) (h1 : body env hp1 = some (.next, env1, hp2)) (h2 : whileL test body n env1 hp2 = R) : whileL test body (n + 1) env hp = R := by
  show (test env hp).bind _ = _
  rw [h]
  show (body env hp1).bind _ = _
  rw [h1]; exact h2
theorem whileL_F {test : En → Hp → Rs Bool} {body : En → Hp → Option (Fl × En × Hp)} {n : Nat} {env : En} {hp1 : Hp} (h : test env hp = some (false, hp1)) : whileL test body (n + 1) env hp = some (.next, env, hp1) := by
  show (test env hp).bind _ = _
  rw [h]; rfl
theorem xs_while {cx : Cx} {Φ : Call} {n : Nat} {sc : Nm} {env env1 : En} {p : Pos} {t : Expr} {b r : List Stmt} {hp1 : Hp} {R : Option (Fl × En × Hp)}
    (h : whileL (fun en hq => tst cx Φ n sc t en hq) (fun en hq => (exSs cx Φ n sc b en hq).bind fun (fl, en2, hq1) => some (fl, en2.take env.length, hq1)) 200 env hp = some (.next, env1, hp1)) (h2 : exSs cx Φ (n + 1) sc r env1 hp1 = R) : exSs cx Φ (n + 2) sc (.While t b [] p :: r) env hp = R := x_next (s_while h) h2
theorem wturn {cx : Cx} {Φ : Call} {n : Nat} {sc : Nm} {env env0 env2 env3 : En} {fl : Fl} {b : List Stmt} {hp1 hp2 : Hp} (h : exSs cx Φ n sc b env hp = some (fl, env2, hp1)) (he : env2.take env0.length = env3) (hh : hp1 = hp2) :
    ((exSs cx Φ n sc b env hp).bind fun (fl, en2, hq1) => some (fl, en2.take env0.length, hq1)) = some (fl, env3, hp2) := by
  subst he hh
  rw [h]; rfl
theorem undo_step {H : Hp} {e : Ent} {base r : List Ent} {A B : AO} : ((((H.set 5 A).set 3 B).set 5 (.lst (base.map entV))).set 3 (.lst ((undo r (doms.set e.x e.old)).map dv))) = (H.set 5 (.lst (base.map entV))).set 3 (.lst ((undo (e :: r) doms).map dv)) := by
  rw [List.set_comm (i := 3) (j := 5) _ _ (by decide), List.set_set, List.set_set]
  rfl
theorem pop_loop {n : Nat} {base : List Ent} {sc : Nm} {t : Expr} {b : List Stmt} {env : En}
    (ht : ∀ (H : Hp) (tr : List Ent), H[2]? = some (.ins (insF m nw fl cl)) → H[5]? = some (.lst (tr.map entV)) → tr.length ≤ 150 → tst theCx (cf k) n sc t env H = some (decide (base.length < tr.length), H))
    (hb : ∀ (H : Hp) (tr : List Ent) (e : Ent) (ds : List (List I2)), H[2]? = some (.ins (insF m nw fl cl)) → H[3]? = some (.lst (ds.map dv)) → H[5]? = some (.lst ((tr ++ [e]).map entV)) → tr.length ≤ 150 → ds.length ≤ lineMax → e.x < ds.length →
      ((exSs theCx (cf k) n sc b env H).bind fun (fl, en2, hq1) => some (fl, en2.take env.length, hq1)) = some (.next, env, (H.set 5 (.lst (tr.map entV))).set 3 (.lst ((ds.set e.x e.old).map dv)))) :
    ∀ (rseg : List Ent) (H : Hp) (ds : List (List I2)) (z : Nat), rseg.length < z → H[2]? = some (.ins (insF m nw fl cl)) → H[3]? = some (.lst (ds.map dv)) → H[5]? = some (.lst ((base ++ rseg.reverse).map entV)) → base.length + rseg.length ≤ 150 → ds.length ≤ lineMax → (∀ e ∈ rseg, e.x < ds.length) →
      whileL (fun en hq => tst theCx (cf k) n sc t en hq) (fun en hq => (exSs theCx (cf k) n sc b en hq).bind fun (fl, en2, hq1) => some (fl, en2.take env.length, hq1)) z env H = some (.next, env, (H.set 5 (.lst (base.map entV))).set 3 (.lst ((undo rseg ds).map dv)))
  | [], H, ds, z + 1, _, h2, h3, h5, hl, hd, hx => by
    have h5' : H[5]? = some (.lst (base.map entV)) := by simpa using h5
    have e := ht H base h2 h5' (by simpa using hl)
    rw [decide_eq_false (Nat.lt_irrefl _)] at e
    rw [whileL_F e, set_self h5', show undo [] ds = ds from rfl, set_self h3]
  | e :: r, H, ds, z + 1, hz, h2, h3, h5, hl, hd, hx => by
    rw [List.reverse_cons, ← List.append_assoc] at h5
    have hl' : base.length + r.length + 1 ≤ 150 := by simpa [Nat.add_assoc] using hl
    have et := ht H _ h2 h5 (by simp; omega)
    rw [decide_eq_true (by simp)] at et
    have eb := hb H _ e ds h2 h3 h5 (by simp; omega) hd (hx e (by simp))
    refine whileL_T et eb ?_
    have a2 := get_set (o := .lst ((ds.set e.x e.old).map dv)) (get_set (o := .lst ((base ++ r.reverse).map entV)) h2 (i := 5) (by decide)) (i := 3) (by decide)
    have a3 := get_self (o := .lst ((ds.set e.x e.old).map dv)) (get_set (o := .lst ((base ++ r.reverse).map entV)) h3 (i := 5) (by decide))
    have a5 := get_set (o := .lst ((ds.set e.x e.old).map dv)) (get_self (o := .lst ((base ++ r.reverse).map entV)) h5) (i := 3) (by decide)
    rw [pop_loop ht hb r _ (ds.set e.x e.old) z (by simpa using hz) a2 a3 a5 (by omega) (by simpa using hd) (fun e' h' => by rw [List.length_set]; exact hx e' (by simp [h']))]
    rw [undo_step]
/-- a level taken back -/
theorem s270 {n : Nat} {mk : List Nat} {base rseg : List Ent} (hn : 1 ≤ n) (hnl : n ≤ mk.length) (h2 : hp[2]? = some (.ins (insF m nw fl cl))) (h3 : hp[3]? = some (.lst (doms.map dv))) (h4 : hp[4]? = some (.lst (fst.map dv)))
    (h5 : hp[5]? = some (.lst ((base ++ rseg.reverse).map entV))) (hm : hp[m]? = some (.lst (mkV mk))) (hmk : mk[mk.length - n]? = some base.length) (hf : ∀ d ∈ fst, d ≠ [])
    (hml : mk.length ≤ lineMax) (hdl : doms.length ≤ lineMax) (hx : ∀ e ∈ rseg, e.x < doms.length) (hl : base.length + rseg.length ≤ 150) (n2 : m ≠ 2) (n3 : m ≠ 3) (n5 : m ≠ 5) :
    cf (k + 1) 270 [.obj 287 2, .int n] hp = some (.none, ((((((hp ++ [AO.lst (mkV (mk.take (mk.length - n)))]).set 2 (.ins (insF hp.length nw fl cl))).set 5 (AO.lst (base.map entV))).set 3 (AO.lst ((undo rseg doms).map dv))) ++ [AO.im 0]).set 2 (.ins (insF hp.length (hp.length + 1) false [])))) := by
  have l2 := (List.getElem?_eq_some_iff.mp h2).1
  have l3 := (List.getElem?_eq_some_iff.mp h3).1
  have l4 := (List.getElem?_eq_some_iff.mp h4).1
  have l5 := (List.getElem?_eq_some_iff.mp h5).1
  have lm := (List.getElem?_eq_some_iff.mp hm).1
  have c0 : cmpV hp .Lt (.int n) (.int 1) = some false := lt_F (by omega)
  have hml' : (mkV mk).length ≤ lineMax := by rw [mkV_len]; exact hml
  have c1 := blt_len (itemsOf_ref hm) hml'
  have c2 : subV hp (.ref m) (.int (((mkV mk).length : Int) - (n : Int))) = some (.int base.length) := sub_atI (j := mk.length - n) (by rw [mkV_len]; omega) (itemsOf_ref hm) (by rw [mkV, List.getElem?_map, hmk]; rfl) hml'
  have c3 := itemsOf_ref hm
  have c4 : sliceV (.ref m) none (some (((mkV mk).length : Int) - (n : Int))) (mkV mk) = some (mkV (mk.take (mk.length - n))) := by
    show (if 0 ≤ (((mkV mk).length : Int) - (n : Int)) ∧ (mkV mk).length ≤ lineMax then some ((mkV mk).take (((mkV mk).length : Int) - (n : Int)).toNat) else none) = _
    rw [if_pos ⟨by rw [mkV_len]; omega, hml'⟩, mkV_len, mkV, mkV, List.map_take]
    congr 2
    omega
  have a2 : (hp ++ [AO.lst (mkV (mk.take (mk.length - n)))])[2]? = some (.ins (insF m nw fl cl)) := by rw [List.getElem?_append_left l2]; exact h2
  have a3 : (hp ++ [AO.lst (mkV (mk.take (mk.length - n)))])[3]? = some (.lst (doms.map dv)) := by rw [List.getElem?_append_left l3]; exact h3
  have a4 : (hp ++ [AO.lst (mkV (mk.take (mk.length - n)))])[4]? = some (.lst (fst.map dv)) := by rw [List.getElem?_append_left l4]; exact h4
  have a5 : (hp ++ [AO.lst (mkV (mk.take (mk.length - n)))])[5]? = some (.lst ((base ++ rseg.reverse).map entV)) := by rw [List.getElem?_append_left l5]; exact h5
  have s1 : setAttrV theCx (hp ++ [AO.lst (mkV (mk.take (mk.length - n)))]) (.obj 287 2) "marks" (.ref hp.length) = some ((hp ++ [AO.lst (mkV (mk.take (mk.length - n)))]).set 2 (.ins (insF hp.length nw fl cl))) := set_attr a2 rfl rfl
  generalize hmk' : mk.take (mk.length - n) = mk' at *
  have b2 := get_self (o := .ins (insF hp.length nw fl cl)) a2
  have b3 := get_set (o := .ins (insF hp.length nw fl cl)) a3 (i := 2) (by decide)
  have b4 := get_set (o := .ins (insF hp.length nw fl cl)) a4 (i := 2) (by decide)
  have b5 := get_set (o := .ins (insF hp.length nw fl cl)) a5 (i := 2) (by decide)
  have hlen : ((hp ++ [AO.lst (mkV mk')]).set 2 (.ins (insF hp.length nw fl cl))).length = hp.length + 1 := by simp
  generalize hH : (hp ++ [AO.lst (mkV mk')]).set 2 (.ins (insF hp.length nw fl cl)) = H at s1 b2 b3 b4 b5 hlen
  have d2 := get_set (o := .lst ((undo rseg doms).map dv)) (get_set (o := .lst (base.map entV)) b2 (i := 5) (by decide)) (i := 3) (by decide)
  have d4 := get_set (o := .lst ((undo rseg doms).map dv)) (get_set (o := .lst (base.map entV)) b4 (i := 5) (by decide)) (i := 3) (by decide)
  have hlen2 : ((H.set 5 (.lst (base.map entV))).set 3 (.lst ((undo rseg doms).map dv))).length = hp.length + 1 := by simp [hlen]
  generalize hK : (H.set 5 (.lst (base.map entV))).set 3 (.lst ((undo rseg doms).map dv)) = K at d2 d4 hlen2
  have lk2 : 2 < K.length := by omega
  have lk4 : 4 < K.length := by omega
  have f2 : (K ++ [AO.im 0])[2]? = some (.ins (insF hp.length nw fl cl)) := by rw [List.getElem?_append_left lk2]; exact d2
  have f4 : (K ++ [AO.im 0])[4]? = some (.lst (fst.map dv)) := by rw [List.getElem?_append_left lk4]; exact d4
  have s2 : setAttrV theCx (K ++ [AO.im 0]) (.obj 287 2) "news" (.ref K.length) = some ((K ++ [AO.im 0]).set 2 (.ins (insF hp.length K.length fl cl))) := set_attr f2 rfl rfl
  have g2 := get_self (o := .ins (insF hp.length K.length fl cl)) f2
  have g4 := get_set (o := .ins (insF hp.length K.length fl cl)) f4 (i := 2) (by decide)
  have s3 := set_attr (cx := theCx) (C := 287) (attr := "is_failed") (v := .bool false) (fs' := insF hp.length K.length false cl) g2 rfl rfl
  have ci := in_nil g4 hf
  have q2 := get_self (o := .ins (insF hp.length K.length false cl)) g2
  have s4 := set_attr (cx := theCx) (C := 287) (attr := "clash") (v := .tup []) (fs' := insF hp.length K.length false []) q2 rfl rfl
  apply cf_nxt (mkFn 270 (methAt 19 17) false) (by decide) rfl rfl rfl
  show exSs _ _ 60 _ (_ :: _) [("self", _), ("n", _)] _ = _
  apply xs_ifE
  repeat tb_start
  apply xs_while (hp1 := K)
  · rw [← hK]
    refine pop_loop (base := base) ?_ ?_ rseg H doms 200 (by omega) b2 b3 b5 hl hdl hx
    · intro H tr h2 h5 hl
      have cl := blt_len (itemsOf_ref h5) (by rw [List.length_map]; unfold lineMax; omega)
      repeat tb_start
      show some (decide ((base.length : Int) < ((tr.map entV).length : Int))) = _
      rw [List.length_map]
      congr 2
      exact propext ⟨fun h => by omega, fun h => by omega⟩
    · intro H tr e ds h2 h3 h5 htr hds hx
      rw [List.map_append] at h5
      have h5' : H[5]? = some (.lst (tr.map entV ++ [entV e])) := h5
      have a2 := get_set (o := .lst (tr.map entV)) h2 (i := 5) (by decide)
      have a3 := get_set (o := .lst (tr.map entV)) h3 (i := 5) (by decide)
      have e3 := set_at (x := e.x) (v := dv e.old) a3 (by rw [List.length_map]; exact hds) (by rw [List.length_map]; exact hx)
      have hl5 : (tr.map entV ++ [entV e]).length ≤ lineMax := by simp; unfold lineMax; omega
      apply wturn
      · repeat tb_start
      · repeat tb_start
      · rw [List.map_set]
  repeat tb_start
  rw [List.set_set, List.set_set, hlen2]
end
section
variable {k : Nat} {hp hp' : Hp} {m nw x : Nat} {fl b : Bool} {cl rs : List V} {doms fst : List (List I2)} {d : List I2} {l : Lit}
theorem s270z : cf (k + 1) 270 [.obj 287 2, .int 0] hp = some (.none, hp) := by
  have c0 : cmpV hp .Lt (.int 0) (.int 1) = some true := rfl
  apply cf_ret (mkFn 270 (methAt 19 17) false) (by decide) rfl rfl rfl
  show exSs _ _ 60 _ (_ :: _) [("self", _), ("n", _)] _ = _
  apply xs_ifR
  repeat tb_start
  · exact x_ret rfl
  repeat tb_start
theorem s158 (h2 : hp[2]? = some (.ins (insF m nw fl cl))) (h3 : hp[3]? = some (.lst (doms.map dv))) (h4 : hp[4]? = some (.lst (fst.map dv))) (hd : d ≠ []) (h3l : doms.length ≤ 100) (h4l : fst.length ≤ 100) :
    cf (k + 1) 158 [.obj 287 2, dv d] hp = some (.int doms.length, (hp.set 3 (.lst ((doms ++ [d]).map dv))).set 4 (.lst ((fst ++ [d]).map dv))) := by
  have z3 : (doms.map dv).length ≤ lineMax := by rw [List.length_map]; exact Nat.le_trans h3l (by decide)
  have z4 : (fst.map dv).length ≤ lineMax := by rw [List.length_map]; exact Nat.le_trans h4l (by decide)
  have a2 := get_set (o := .lst (doms.map dv ++ [dv d])) h2 (i := 3) (by decide)
  have a3 := get_self (o := .lst (doms.map dv ++ [dv d])) h3
  have a4 := get_set (o := .lst (doms.map dv ++ [dv d])) h4 (i := 3) (by decide)
  have b2 := get_set (o := .lst (fst.map dv ++ [dv d])) a2 (i := 4) (by decide)
  have b3 := get_set (o := .lst (fst.map dv ++ [dv d])) a3 (i := 4) (by decide)
  have c1 : cmpV ((hp.set 3 (.lst (doms.map dv ++ [dv d]))).set 4 (.lst (fst.map dv ++ [dv d]))) .Eq (dv d) (.tup []) = some false := by rw [cmp_dv0, decide_eq_false hd]
  have c2 := blt_len (itemsOf_ref b3) (by simp; unfold lineMax; omega)
  apply cf_ret (mkFn 158 (methAt 19 1) false) (by decide) rfl rfl rfl
  show exSs _ _ 60 _ (_ :: _) [("self", _), ("domain", _)] _ = _
  repeat tb_start
  apply xs_ifE
  repeat tb_start
  · simp
  · simp
theorem s340 {ls : List Int} {n : Nat} {s : Str} {i : Nat} (hi : hp[i]? = some (.lst (ls.map .int))) (hl : ls.length = n) (hn : n ≤ 100) (h0 : ∀ v ∈ ls, 0 ≤ v) : cf (k + 1) 340 [.ref i, .int n, .str s] hp = some (.tup (ls.map .int), hp) := by
  have z : (ls.map V.int).length ≤ lineMax := by rw [List.length_map, hl]; exact Nat.le_trans hn (by decide)
  have c1 := blt_tupleR hi z
  have c2 : builtinV hp "len" [.tup (ls.map .int)] = some (.int (ls.map V.int).length) := blt_len rfl z
  have c3 : cmpV hp .NotEq (.int (ls.map V.int).length) (.int n) = some false := by
    show (if true && true then some (vEq (.int _) (.int _)) else none).map _ = _
    rw [List.length_map, hl]
    show some (!((n : Int) == (n : Int))) = _
    simp
  have c4 : binop .Add (.tup (ls.map .int)) (.tup [.int 0]) = some (.tup (ls.map .int ++ [.int 0])) := if_pos (by rw [List.length_map, hl]; show n + 1 ≤ 1000; omega)
  have mn : ∀ (r : List Int) (a : Int), (0 ≤ a) → (∀ v ∈ r, 0 ≤ v) → 0 ≤ minL a r := by
    intro r
    induction r with
    | nil => intro a ha _; exact ha
    | cons b r ih =>
      intro a ha hr
      show 0 ≤ minL (if b < a then b else a) r
      refine ih _ ?_ fun v hv => hr v (by simp [hv])
      split
      · exact hr b (by simp)
      · exact ha
  have c5 : ∃ q : Int, builtinV hp "min" [.tup (ls.map .int ++ [.int 0])] = some (.int q) ∧ 0 ≤ q := by
    have e : ls.map V.int ++ [.int 0] = (ls ++ [0]).map V.int := by simp
    rw [e]
    cases hls : ls ++ [0] with
    | nil => simp at hls
    | cons a r =>
      refine ⟨minL a r, ?_, mn r a ?_ ?_⟩
      · show (intsOf ((a :: r).map V.int)).bind _ = _
        rw [intsOf_mk (a :: r)]; rfl
      · have : a ∈ ls ++ [0] := by rw [hls]; simp
        rcases List.mem_append.mp this with h | h
        · exact h0 a h
        · simp at h; omega
      · intro v hv
        have : v ∈ ls ++ [0] := by rw [hls]; simp [hv]
        rcases List.mem_append.mp this with h | h
        · exact h0 v h
        · simp at h; omega
  obtain ⟨q, c5, hq⟩ := c5
  have c6 : cmpV hp .Lt (.int q) (.int 0) = some false := lt_F (by omega)
  apply cf_ret (mkFn 340 (topAt 22) false) (by decide) rfl rfl rfl
  show exSs _ _ 60 _ (_ :: _) [("some", _), ("many", _), ("what", _)] _ = _
  repeat tb_start
  apply xs_ifE
  · apply t_orF
    repeat tb_start
  repeat tb_start

/-- the task's object -/
noncomputable def taskF (ls : List Int) : List (Str × V) := [("number", .int (-1)), ("scope", .tup [.int 0, .int 1, .int 2]), ("strength", .str "weak"), ("lasts", .tup (ls.map .int))]
noncomputable def busy (ls : List Int) (k : Nat) : Bool := match ls[k]? with
  | some l => decide (0 < l)
  | none => false
theorem s361 {ls : List Int} (h9 : hp[9]? = some (.ins (taskF ls))) (hl : ls.length = 3) : cf (k + 1) 361 [.obj 420 9] hp = some (.lst (((List.range 3).filter (busy ls)).map fun (i : Nat) => V.int i), hp) := by
  have z : (ls.map V.int).length ≤ lineMax := by rw [List.length_map, hl]; decide
  apply cf_ret (mkFn 361 (methAt 23 1) false) (by decide) rfl rfl rfl
  show exSs _ _ 60 _ (_ :: _) [("self", _)] _ = _
  repeat tb_start
  · refine e_comp1 (src := .none) (g := fun (i : Nat) => V.int i) (List.range 3) (busy ls) (fun (i : Nat) => V.int i) (fun (i : Nat) => [("self", .obj 420 9), ("k", .int i)]) rfl ?_ rfl (by decide) (fun a _ => rfl) ?_ ?_
    · apply i_range rfl (k := 3)
      repeat tb_start
      decide
    · intro i hi
      have hi3 : i < ls.length := by rw [hl]; simpa using hi
      have c : subV hp (.tup (ls.map .int)) (.int i) = some (.int ls[i]) := sub_tup (by rw [List.getElem?_map, List.getElem?_eq_getElem hi3]; rfl) z
      have e : busy ls i = decide (0 < ls[i]) := by rw [busy, List.getElem?_eq_getElem hi3]
      rw [e]
      repeat tb_start
    · intro i _ _
      repeat tb_start
  repeat tb_start
end
section
variable {k : Nat} {hp hp' : Hp} {m nw x : Nat} {fl b : Bool} {cl rs : List V} {doms fst : List (List I2)} {d : List I2} {l : Lit}
theorem get_app {hp : Hp} {i : Nat} {o r : AO} (h : hp[i]? = some o) : (hp ++ [r])[i]? = some o := by
  rw [List.getElem?_append_left (List.getElem?_eq_some_iff.mp h).1]; exact h
theorem stands_ref {i : Nat} {l : List V} (h : hp[i]? = some (.lst l)) : stands (.ref i) l hp = true := by
  show (match hp[i]? with | some (.lst m) => vEqs m l | _ => false) = true
  rw [h]
  exact (vEqs_iff l l).mpr rfl
theorem scope_at {i : Nat} (hi : i < 3) : subV hp (.tup [.int 0, .int 1, .int 2]) (.int i) = some (.int i) := by
  rcases i with _ | _ | _ | i
  · rfl
  · rfl
  · rfl
  · omega
noncomputable def lastOf (ls : List Int) (k : Nat) : Int := ls.getD k 0
theorem last_at {ls : List Int} (hl : ls.length = 3) {i : Nat} (hi : i < 3) : subV hp (.tup (ls.map .int)) (.int i) = some (.int (lastOf ls i)) := by
  have hi' : i < ls.length := by omega
  exact sub_tup (by rw [List.getElem?_map, List.getElem?_eq_getElem hi', lastOf, List.getD_eq_getElem?_getD, List.getElem?_eq_getElem hi']; rfl) (by rw [List.length_map, hl]; decide)
theorem noRefs_ltV : ∀ (ls : List Lit), noRefs (ls.map ltV) = true
  | [] => rfl
  | l :: r => by
    show (noRef (ltV l) && noRefs (r.map ltV)) = true
    rw [noRefs_ltV r]; rfl
theorem noRefs_nat : ∀ (ls : List Nat), noRefs (ls.map fun (i : Nat) => V.int i) = true
  | [] => rfl
  | l :: r => by
    show (noRef (.int l) && noRefs (r.map fun (i : Nat) => V.int i)) = true
    rw [noRefs_nat r]; rfl
theorem froz_ref {n : Nat} {x : List V} (hn : hp.length = n) (h : noRefs x = true) : froz n (hp ++ [.lst x]) (.ref n) = some (.lst x) := by
  subst hn
  show (if hp.length ≤ hp.length then (match (hp ++ [.lst x])[hp.length]? with | some (AO.lst l) => if noRefs l then some (V.lst l) else none | _ => none) else none) = _
  rw [if_pos (Nat.le_refl _), hget_last]
  exact if_pos h
noncomputable def toldL (ls : List Int) (b e : Int) (due : List Nat) : List Lit := due.flatMap fun k => [⟨k, .ge, b⟩, ⟨k, .le, e - lastOf ls k⟩]
theorem s382 {ls : List Int} {due : List Nat} {i : Nat} {bg en : Int} (h9 : hp[9]? = some (.ins (taskF ls))) (hl : ls.length = 3) (hi : hp[i]? = some (.lst (due.map fun (i : Nat) => V.int i))) (hd : ∀ k ∈ due, k < 3) (hdl : due.length ≤ 100) :
    cf (k + 1) 382 [.obj 420 9, .ref i, .int bg, .int en] hp = some (.lst ((toldL ls bg en due).map ltV), hp) := by
  apply cf_pure (mkFn 382 (methAt 23 4) true) (by decide) rfl rfl rfl
  show exSs _ _ 60 _ (_ :: _) [("self", _), ("some", _), ("begin", _), ("end", _)] _ = _
  have c1 : itemsOf (hp ++ [.lst []]) (.ref i) = some (due.map fun (i : Nat) => V.int i) := itemsOf_ref (get_app hi)
  have c2 : (due.map fun (i : Nat) => V.int i).length ≤ lineMax := by rw [List.length_map]; exact Nat.le_trans hdl (by decide)
  repeat tb_start
  apply xs_for (hp2 := hp ++ [.lst ((toldL ls bg en due).map ltV)]) (env1 := [("self", .obj 420 9), ("some", .ref i), ("begin", .int bg), ("end", .int en), ("found", .ref hp.length)])
  repeat tb_start
  · refine (forL_fold (fun (i : Nat) => V.int i) (fun s k => s ++ [⟨k, .ge, bg⟩, ⟨k, .le, en - lastOf ls k⟩]) (fun _ => [("self", .obj 420 9), ("some", .ref i), ("begin", .int bg), ("end", .int en), ("found", .ref hp.length)]) (fun s => hp ++ [.lst (s.map ltV)]) (fun s r => s.length + 2 * r.length ≤ 900 ∧ ∀ k ∈ r, k < 3) ?_ due [] ⟨by simp; omega, hd⟩).trans ?_
    · intro s a r hP
      have hP1 : s.length + 2 * (r.length + 1) ≤ 900 := hP.1
      have ha : a < 3 := hP.2 a (by simp)
      refine ⟨?_, ?_, fun k hk => hP.2 k (by simp [hk])⟩
      · have q9 := get_app (r := .lst (s.map ltV)) h9
        have qi := get_app (r := .lst (s.map ltV)) hi
        have d1 := scope_at (hp := hp ++ [.lst (s.map ltV)]) ha
        have d2 := hget_last (hp := hp) (x := .lst (s.map ltV))
        have d3 : (s.map ltV).length ≤ lineMax := by rw [List.length_map]; unfold lineMax; omega
        have e3 : (s.map ltV ++ [V.tup [.int a, .str ">=", .int bg]]).length ≤ lineMax := by simp; unfold lineMax; omega
        have hS := hset_last (hp := hp) (x := .lst (s.map ltV)) (y := .lst (s.map ltV ++ [V.tup [.int a, .str ">=", .int bg]]))
        have q9' := get_app (r := .lst (s.map ltV ++ [V.tup [.int a, .str ">=", .int bg]])) h9
        have e1 := scope_at (hp := hp ++ [.lst (s.map ltV ++ [V.tup [.int a, .str ">=", .int bg]])]) ha
        have e4 := last_at (hp := hp ++ [.lst (s.map ltV ++ [V.tup [.int a, .str ">=", .int bg]])]) hl ha
        have e2 := hget_last (hp := hp) (x := .lst (s.map ltV ++ [V.tup [.int a, .str ">=", .int bg]]))
        rw [← hS] at q9' e1 e4 e2
        apply turn
        repeat tb_start
        · rw [hset_last, hset_last]
          simp [ltV, Sg.str]
        · exact stands_ref (get_app hi)
      · simp only [List.length_append, List.length_cons, List.length_nil]; omega
    · have : ∀ (due : List Nat) (s : List Lit), due.foldl (fun s k => s ++ [⟨k, .ge, bg⟩, ⟨k, .le, en - lastOf ls k⟩]) s = s ++ toldL ls bg en due := by
        intro due
        induction due with
        | nil => intro s; simp [toldL]
        | cons a r ih => intro s; rw [List.foldl_cons, ih]; simp [toldL]
      rw [this]; rfl
  repeat tb_start
  · simp
  · exact froz_ref rfl (noRefs_ltV _)
end
section
variable {k : Nat} {hp hp1 hp2 : Hp} {m nw x : Nat} {fl b : Bool} {cl rs : List V} {doms fst : List (List I2)} {d : List I2} {l : Lit}
noncomputable def winB (ls : List Int) (lo hi : Nat → Int) (bg en : Int) (i : Nat) : Bool := decide (bg ≤ lo i) && decide (hi i + lastOf ls i ≤ en)
theorem foldl_if {α : Type} {p : α → Bool} : ∀ (xs s : List α), xs.foldl (fun s k => if p k then s ++ [k] else s) s = s ++ xs.filter p
  | [], s => by simp
  | a :: r, s => by
    rw [List.foldl_cons, foldl_if r, List.filter_cons]
    cases p a <;> simp
theorem s375 {ls : List Int} {lo hi : Nat → Int} {bg en : Int} (h9 : hp[9]? = some (.ins (taskF ls))) (hl : ls.length = 3) (h2 : hp[2]? = some (.ins (insF m nw fl cl))) (h3 : hp[3]? = some (.lst (doms.map dv))) (hdl : doms.length ≤ lineMax)
    (hd : ∀ i < 3, ∃ d a z, doms[i]? = some d ∧ d.head? = some a ∧ d.getLast? = some z ∧ a.1 = lo i ∧ z.2 = hi i ∧ d.length ≤ lineMax) :
    cf (k + 3) 375 [.obj 420 9, .obj 287 2, .int bg, .int en] hp = some (.lst ((((List.range 3).filter (busy ls)).filter (winB ls lo hi bg en)).map fun (i : Nat) => V.int i), hp) := by
  obtain ⟨tk, htk⟩ : ∃ tk, tk = (List.range 3).filter (busy ls) := ⟨_, rfl⟩
  rw [← htk]
  apply cf_pure (mkFn 375 (methAt 23 3) true) (by decide) rfl rfl rfl
  show exSs _ _ 60 _ (_ :: _) [("self", _), ("store", _), ("begin", _), ("end", _)] _ = _
  have htk3 : ∀ i ∈ tk, i < 3 := fun i hi => by
    rw [htk] at hi
    simpa using (List.mem_filter.mp hi).1
  have htkl : tk.length ≤ 3 := by rw [htk]; exact List.length_filter_le _ _
  have c0 : cf (k + 2) 361 [.obj 420 9] (hp ++ [.lst []]) = some (.lst (tk.map fun (i : Nat) => V.int i), hp ++ [.lst []]) := by
    rw [htk]; exact s361 (get_app h9) hl
  have q9' := get_app (r := .lst []) h9
  have c2 : (tk.map fun (i : Nat) => V.int i).length ≤ lineMax := by rw [List.length_map]; unfold lineMax; omega
  repeat tb_start
  apply xs_for (hp2 := hp ++ [.lst ((tk.filter (winB ls lo hi bg en)).map fun (i : Nat) => V.int i)]) (env1 := [("self", .obj 420 9), ("store", .obj 287 2), ("begin", .int bg), ("end", .int en), ("found", .ref hp.length)])
  repeat tb_start
  · refine (forL_fold (fun (i : Nat) => V.int i) (fun s k => if winB ls lo hi bg en k then s ++ [k] else s) (fun _ => [("self", .obj 420 9), ("store", .obj 287 2), ("begin", .int bg), ("end", .int en), ("found", .ref hp.length)]) (fun s => hp ++ [.lst (s.map fun (i : Nat) => V.int i)]) (fun s r => s.length + r.length ≤ 900 ∧ ∀ k ∈ r, k < 3) ?_ tk [] ⟨by simp; omega, htk3⟩).trans ?_
    · intro s a r hP
      have hP1 : s.length + (r.length + 1) ≤ 900 := hP.1
      have ha : a < 3 := hP.2 a (by simp)
      refine ⟨?_, ?_, fun k hk => hP.2 k (by simp [hk])⟩
      · obtain ⟨d, a0, z0, hda, hh, hz, e1, e2, hdd⟩ := hd a ha
        have q9 := get_app (r := .lst (s.map fun (i : Nat) => V.int i)) h9
        have q2 := get_app (r := .lst (s.map fun (i : Nat) => V.int i)) h2
        have q3 := get_app (r := .lst (s.map fun (i : Nat) => V.int i)) h3
        have d1 := scope_at (hp := hp ++ [.lst (s.map fun (i : Nat) => V.int i)]) ha
        have d2 := hget_last (hp := hp) (x := .lst (s.map fun (i : Nat) => V.int i))
        have d4 := last_at (hp := hp ++ [.lst (s.map fun (i : Nat) => V.int i)]) hl ha
        have d3 : (s.map fun (i : Nat) => V.int i).length ≤ lineMax := by rw [List.length_map]; unfold lineMax; omega
        have m1 := s186 (k := k) q2 q3 hda hdl hh hdd
        have m2 := s193 (k := k) q2 q3 hda hdl hz hdd
        rw [e1] at m1
        rw [e2] at m2
        have hstd : ∀ o, stands (.lst (tk.map fun (i : Nat) => V.int i)) (tk.map fun (i : Nat) => V.int i) (hp ++ [o]) = true := fun _ => rfl
        by_cases w1 : bg ≤ lo a
        · have t1 := le_T (hp := hp ++ [.lst (s.map fun (i : Nat) => V.int i)]) w1
          by_cases w2 : hi a + lastOf ls a ≤ en
          · have t2 := le_T (hp := hp ++ [.lst (s.map fun (i : Nat) => V.int i)]) w2
            have ew : winB ls lo hi bg en a = true := by rw [winB, decide_eq_true w1, decide_eq_true w2]; rfl
            apply turn
            repeat tb_start
            apply xs_ifT
            · apply t_andT
              repeat tb_start
            repeat tb_start
            · rw [hset_last]
              simp [ew]
            repeat tb_start
          · have t2 := le_F (hp := hp ++ [.lst (s.map fun (i : Nat) => V.int i)]) w2
            have ew : winB ls lo hi bg en a = false := by rw [winB, decide_eq_true w1, decide_eq_false w2]; rfl
            apply turn
            repeat tb_start
            apply xs_ifE
            · apply t_andT
              repeat tb_start
            repeat tb_start
            · simp [ew]
            repeat tb_start
        · have t1 := le_F (hp := hp ++ [.lst (s.map fun (i : Nat) => V.int i)]) w1
          have ew : winB ls lo hi bg en a = false := by rw [winB, decide_eq_false w1]; rfl
          apply turn
          repeat tb_start
          apply xs_ifE
          · apply t_andF
            repeat tb_start
          repeat tb_start
          · simp [ew]
          repeat tb_start
      · show (if winB ls lo hi bg en a then s ++ [a] else s).length + r.length ≤ 900
        split
        · simp; omega
        · omega
    · rw [foldl_if]; rfl
  repeat tb_start
  · simp
  · exact froz_ref rfl (noRefs_nat _)

/-- order_two, in the terms of what it calls -/
theorem s368A {ls : List Int} {a b : Nat} {lox hiy : Int} (h9 : hp[9]? = some (.ins (taskF ls))) (hl : ls.length = 3) (h2 : hp[2]? = some (.ins (insF m nw fl cl))) (ha : a < 3) (hb : b < 3)
    (m1 : cf k 186 [.obj 287 2, .int a] hp = some (.int lox, hp)) (m2 : cf k 193 [.obj 287 2, .int b] hp = some (.int hiy, hp)) (hc : lox + lastOf ls a ≤ hiy) :
    cf (k + 1) 368 [.obj 420 9, .obj 287 2, .int a, .int b] hp = some (.bool true, hp) := by
  have d1 := scope_at (hp := hp) ha
  have d2 := scope_at (hp := hp) hb
  have d3 := last_at (hp := hp) hl ha
  have c1 := le_T (hp := hp) hc
  apply cf_ret (mkFn 368 (methAt 23 2) false) (by decide) rfl rfl rfl
  show exSs _ _ 60 _ (_ :: _) [("self", _), ("store", _), ("a", _), ("b", _)] _ = _
  repeat tb_start
  apply xs_ifR
  repeat tb_start
noncomputable def rs1 (a b : Nat) (la loy hiy : Int) : List Lit := [⟨a, .ge, hiy - la + 1⟩, ⟨b, .le, hiy⟩, ⟨b, .ge, loy⟩]
noncomputable def rs2 (a b : Nat) (la lox hix : Int) : List Lit := [⟨b, .le, lox + la - 1⟩, ⟨a, .ge, lox⟩, ⟨a, .le, hix⟩]
theorem s368B {ls : List Int} {a b : Nat} {lox loy hiy : Int} (h9 : hp[9]? = some (.ins (taskF ls))) (hl : ls.length = 3) (h2 : hp[2]? = some (.ins (insF m nw fl cl))) (ha : a < 3) (hb : b < 3)
    (m1 : cf k 186 [.obj 287 2, .int a] hp = some (.int lox, hp)) (m2 : cf k 193 [.obj 287 2, .int b] hp = some (.int hiy, hp)) (m3 : cf k 186 [.obj 287 2, .int b] hp = some (.int loy, hp)) (hc : ¬ lox + lastOf ls a ≤ hiy)
    (m4 : cf k 242 [.obj 287 2, ltV ⟨a, .ge, loy + lastOf ls b⟩, .lst ((rs1 a b (lastOf ls a) loy hiy).map ltV)] hp = some (.bool false, hp1)) :
    cf (k + 1) 368 [.obj 420 9, .obj 287 2, .int a, .int b] hp = some (.bool false, hp1) := by
  have d1 := scope_at (hp := hp) ha
  have d2 := scope_at (hp := hp) hb
  have d3 := last_at (hp := hp) hl ha
  have d4 := last_at (hp := hp) hl hb
  have c1 := le_F (hp := hp) hc
  apply cf_ret (mkFn 368 (methAt 23 2) false) (by decide) rfl rfl rfl
  show exSs _ _ 60 _ (_ :: _) [("self", _), ("store", _), ("a", _), ("b", _)] _ = _
  repeat tb_start
  apply xs_ifE
  repeat tb_start
  apply xs_ifR
  repeat tb_start
  · exact m4
  repeat tb_start
theorem s368C {ls : List Int} {a b : Nat} {lox loy hiy lox1 hix1 : Int} {r : Bool} {fl1 : Bool} {cl1 : List V} (h9 : hp[9]? = some (.ins (taskF ls))) (hl : ls.length = 3) (h2 : hp[2]? = some (.ins (insF m nw fl cl))) (ha : a < 3) (hb : b < 3)
    (m1 : cf k 186 [.obj 287 2, .int a] hp = some (.int lox, hp)) (m2 : cf k 193 [.obj 287 2, .int b] hp = some (.int hiy, hp)) (m3 : cf k 186 [.obj 287 2, .int b] hp = some (.int loy, hp)) (hc : ¬ lox + lastOf ls a ≤ hiy)
    (m4 : cf k 242 [.obj 287 2, ltV ⟨a, .ge, loy + lastOf ls b⟩, .lst ((rs1 a b (lastOf ls a) loy hiy).map ltV)] hp = some (.bool true, hp1))
    (h9' : hp1[9]? = some (.ins (taskF ls))) (h2' : hp1[2]? = some (.ins (insF m nw fl1 cl1)))
    (m5 : cf k 193 [.obj 287 2, .int a] hp1 = some (.int hix1, hp1)) (m6 : cf k 186 [.obj 287 2, .int a] hp1 = some (.int lox1, hp1))
    (m7 : cf k 242 [.obj 287 2, ltV ⟨b, .le, hix1 - lastOf ls b⟩, .lst ((rs2 a b (lastOf ls a) lox1 hix1).map ltV)] hp1 = some (.bool r, hp2)) :
    cf (k + 1) 368 [.obj 420 9, .obj 287 2, .int a, .int b] hp = some (.bool r, hp2) := by
  have d1 := scope_at (hp := hp) ha
  have d2 := scope_at (hp := hp) hb
  have d3 := last_at (hp := hp) hl ha
  have d4 := last_at (hp := hp) hl hb
  have d5 := last_at (hp := hp1) hl hb
  have c1 := le_F (hp := hp) hc
  apply cf_ret (mkFn 368 (methAt 23 2) false) (by decide) rfl rfl rfl
  show exSs _ _ 60 _ (_ :: _) [("self", _), ("store", _), ("a", _), ("b", _)] _ = _
  repeat tb_start
  apply xs_ifE
  repeat tb_start
  apply xs_ifE
  repeat tb_start
  · exact m4
  repeat tb_start
  · exact m7
  repeat tb_start
end
section
variable {k : Nat} {hp hp1 hp2 : Hp} {m nw x : Nat} {fl b : Bool} {cl rs : List V} {doms fst : List (List I2)} {d : List I2} {l : Lit}
noncomputable def feedO (cells : List Int) (j : Nat) : AO := .sd [("cells", .lst (cells.map .int)), ("at", .int j)]
theorem sub_sd {i : Nat} {s : Str} {fs : List (Str × V)} {v : V} (h : hp[i]? = some (.sd fs)) (hv : fs.lookup s = some v) : subV hp (.ref i) (.str s) = some v := by
  show (sdOf hp[i]?).bind _ = _
  rw [h]; exact hv
theorem setS_sd {i : Nat} {s : Str} {fs fs' : List (Str × V)} {v : V} (h : hp[i]? = some (.sd fs)) (hc : (decide ((fs.lookup s).isSome ∧ fs.length ≤ lineMax)) = true) (hf : setF s v fs = fs') : setSub hp (.ref i) (.str s) v = some (hp.set i (.sd fs')) := by
  subst hf
  show (sdOf hp[i]?).bind _ = _
  rw [h]
  exact if_pos (of_decide_eq_true hc)
noncomputable def drawI (cells : List Int) (j : Nat) (many : Int) : Int := match cells[j]? with
  | some c => c.fmod many
  | none => ((7 * j * j + 11 * j + 3 * cells.length + 5 : Int).fmod 97).fmod many
theorem draw_range {cells : List Int} {j : Nat} {many : Int} (h : 0 < many) : 0 ≤ drawI cells j many ∧ drawI cells j many < many := by
  unfold drawI
  split
  · exact ⟨Int.fmod_nonneg_of_pos _ h, Int.fmod_lt_of_pos _ h⟩
  · exact ⟨Int.fmod_nonneg_of_pos _ h, Int.fmod_lt_of_pos _ h⟩
theorem mod_ok {x y : Int} (h : 0 < y) : binop .Mod (.int x) (.int y) = some (.int (x.fmod y)) := by
  show (if y = 0 then _ else _) = _
  rw [if_neg (by omega)]
theorem mul_ok {x y : Int} (h1 : 0 ≤ x) (h2 : x < 4294967296) (h3 : 0 ≤ y) (h4 : y < 4294967296) : binop .Mult (.int x) (.int y) = some (.int (x * y)) := if_pos ⟨h1, h2, h3, h4⟩
theorem s429 {cells : List Int} {j : Nat} {many : Int} (h0 : hp[0]? = some (feedO cells j)) (hj : j ≤ 500) (hm : 0 < many) (hc : cells.length ≤ 100) :
    cf (k + 1) 429 [.ref 0, .int many] hp = some (.int (drawI cells j many), hp.set 0 (feedO cells (j + 1))) := by
  have g1 : subV hp (.ref 0) (.str "at") = some (.int j) := sub_sd h0 rfl
  have g2 : subV hp (.ref 0) (.str "cells") = some (.lst (cells.map .int)) := sub_sd h0 rfl
  have z : (cells.map V.int).length ≤ lineMax := by rw [List.length_map]; exact Nat.le_trans hc (by decide)
  have g3 : setSub hp (.ref 0) (.str "at") (.int ((j : Int) + 1)) = some (hp.set 0 (feedO cells (j + 1))) := setS_sd h0 rfl rfl
  have g4 : builtinV (hp.set 0 (feedO cells (j + 1))) "len" [.lst (cells.map .int)] = some (.int (cells.map V.int).length) := blt_len rfl z
  cases hcj : cells[j]? with
  | some c =>
    have g5 : cmpV (hp.set 0 (feedO cells (j + 1))) .Lt (.int j) (.int (cells.map V.int).length) = some true := lt_T (by
      rw [List.length_map]
      have := (List.getElem?_eq_some_iff.mp hcj).1
      omega)
    have g6 : subV (hp.set 0 (feedO cells (j + 1))) (.lst (cells.map .int)) (.int j) = some (.int c) := sub_at rfl (by rw [List.getElem?_map, hcj]; rfl) z
    have g7 := mod_ok (x := c) hm
    have e : drawI cells j many = c.fmod many := by rw [drawI, hcj]
    apply cf_ret (mkFn 429 (topAt 25) false) (by decide) rfl rfl rfl
    show exSs _ _ 60 _ (_ :: _) [("feed", _), ("many", _)] _ = _
    repeat tb_start
    apply xs_ifR
    repeat tb_start
    rw [e]
    repeat tb_start
  | none =>
    have hge : cells.length ≤ j := by simpa using hcj
    have g5 : cmpV (hp.set 0 (feedO cells (j + 1))) .Lt (.int j) (.int (cells.map V.int).length) = some false := lt_F (by
      rw [List.length_map]
      omega)
    have e : drawI cells j many = ((7 * j * j + 11 * j + 3 * cells.length + 5 : Int).fmod 97).fmod many := by rw [drawI, hcj]
    have t1 := mul_ok (x := 7) (y := j) (by decide) (by decide) (by omega) (by omega)
    have t2 := mul_ok (x := 7 * j) (y := j) (by omega) (by omega) (by omega) (by omega)
    have t3 := mul_ok (x := 11) (y := j) (by decide) (by decide) (by omega) (by omega)
    have t4 := mul_ok (x := 3) (y := (cells.map V.int).length) (by decide) (by decide) (by omega) (by rw [List.length_map]; omega)
    have t5 := mod_ok (x := 7 * j * j + 11 * j + 3 * (cells.map V.int).length + 5) (y := 97) (by decide)
    have t6 := mod_ok (x := (7 * j * j + 11 * j + 3 * (cells.map V.int).length + 5 : Int).fmod 97) hm
    apply cf_ret (mkFn 429 (topAt 25) false) (by decide) rfl rfl rfl
    show exSs _ _ 60 _ (_ :: _) [("feed", _), ("many", _)] _ = _
    repeat tb_start
    apply xs_ifE
    repeat tb_start
    rw [e, List.length_map]
    repeat tb_start
end
/-- what stays of a row of drawn numbers -/
theorem compL_cons {step : V → Hp → Rs (List V)} {v : V} {r : List V} {hp hp1 hp2 : Hp} {l k : List V} (h : step v hp = some (l, hp1)) (h2 : compL step r hp1 = some (k, hp2)) : compL step (v :: r) hp = some (l ++ k, hp2) := by
  show (step v hp).bind _ = _
  rw [h]
  show (compL step r hp1).bind _ = _
  rw [h2]; rfl
theorem compL_range' {step : V → Hp → Rs (List V)} (H : Nat → Hp) (p : Nat → Bool) (f : Nat → V) {n : Nat} (h : ∀ i, i < n → step (.int i) (H i) = some (if p i then [f i] else [], H (i + 1))) :
    ∀ (m s : Nat), s + m ≤ n → compL step ((List.range' s m).map fun (i : Nat) => V.int i) (H s) = some (((List.range' s m).filter p).map f, H (s + m))
  | 0, s, _ => rfl
  | m + 1, s, hs => by
    rw [List.range'_succ, List.map_cons, compL_cons (h s (by omega)) (compL_range' H p f h m (s + 1) (by omega)), List.filter_cons]
    have e : s + 1 + m = s + (m + 1) := by omega
    rw [e]
    cases p s <;> rfl
theorem compL_range {step : V → Hp → Rs (List V)} (H : Nat → Hp) (p : Nat → Bool) (f : Nat → V) {n : Nat} (h : ∀ i, i < n → step (.int i) (H i) = some (if p i then [f i] else [], H (i + 1))) :
    compL step ((List.range n).map fun (i : Nat) => V.int i) (H 0) = some (((List.range n).filter p).map f, H n) := by
  have := compL_range' H p f h n 0 (by omega)
  rw [Nat.zero_add] at this
  rw [List.range_eq_range']
  exact this
structure RowOK (r : List Int) : Prop where
  ne : r ≠ []
  asc : r.Pairwise (· < ·)
  len : r.length ≤ 5
theorem s441 {k : Nat} {hp : Hp} {cells : List Int} {j : Nat} (h0 : hp[0]? = some (feedO cells j)) (hj : j ≤ 400) (hc : cells.length ≤ 100) :
    ∃ r, RowOK r ∧ cf (k + 2) 441 [.ref 0] hp = some (rv r, hp.set 0 (feedO cells (j + 6))) := by
  obtain ⟨bg, hbg⟩ : ∃ bg, bg = drawI cells j 3 := ⟨_, rfl⟩
  have c1 : cf (k + 1) 429 [.ref 0, .int 3] hp = some (.int bg, hp.set 0 (feedO cells (j + 1))) := by rw [hbg]; exact s429 h0 (by omega) (by decide) hc
  obtain ⟨p, hp'⟩ : ∃ p : Nat → Bool, ∀ i, p i = decide (drawI cells (j + 1 + i) 3 = 1) := ⟨fun i => decide (drawI cells (j + 1 + i) 3 = 1), fun _ => rfl⟩
  obtain ⟨some', hsome⟩ : ∃ l : List Int, l = ((List.range 5).filter p).map fun (i : Nat) => bg + (i : Int) := ⟨_, rfl⟩
  have hasc : some'.Pairwise (· < ·) := by
    rw [hsome, List.pairwise_map]
    refine List.Pairwise.imp ?_ (List.Pairwise.filter p (List.pairwise_lt_range (n := 5)))
    intro a b h; omega
  have hlen : some'.length ≤ 5 := by rw [hsome, List.length_map]; exact List.length_filter_le _ _
  have e1 : ((List.range 5).filter p).map (fun (i : Nat) => V.int (bg + (i : Int))) = some'.map .int := by rw [hsome, List.map_map]; rfl
  refine ⟨if some' = [] then [bg] else some', ?_, ?_⟩
  · split
    · exact ⟨by simp, by simp, by simp⟩
    · exact ⟨by assumption, hasc, hlen⟩
  · apply cf_ret (v := rv (if some' = [] then [bg] else some')) (mkFn 441 (topAt 27) false) (by decide) rfl rfl rfl
    show exSs _ _ 60 _ (_ :: _) [("feed", _)] _ = _
    repeat tb_start
    · refine e_comp (src := .none) (k := some'.map .int) (hp1 := hp.set 0 (feedO cells (j + 1))) (hp2 := hp.set 0 (feedO cells (j + 1 + 5))) rfl (i_range rfl (k := 5) ?_ (by decide)) ?_ (by rw [List.length_map]; exact Nat.le_trans hlen (by decide))
      · repeat tb_start
      · rw [← e1]
        refine compL_range (fun i => hp.set 0 (feedO cells (j + 1 + i))) p (fun i => .int (bg + i)) ?_
        intro i hi
        have c2 : cf (k + 1) 429 [.ref 0, .int 3] (hp.set 0 (feedO cells (j + 1 + i))) = some (.int (drawI cells (j + 1 + i) 3), hp.set 0 (feedO cells (j + 1 + (i + 1)))) := by
          have := s429 (k := k) (many := 3) (get_self (o := feedO cells (j + 1 + i)) h0) (by omega) (by decide) hc
          rw [List.set_set] at this
          exact this
        have c3 : cmpV (hp.set 0 (feedO cells (j + 1 + (i + 1)))) .Eq (.int (drawI cells (j + 1 + i) 3)) (.int 1) = some (p i) := by
          show some ((drawI cells (j + 1 + i) 3) == 1) = _
          rw [hp' i]; rfl
        refine Option.bind_eq_some_iff.mpr ⟨[("feed", .ref 0), ("begin", .int bg), ("v", .int i)], rfl, ?_⟩
        refine Option.bind_eq_some_iff.mpr ⟨(p i, hp.set 0 (feedO cells (j + 1 + (i + 1)))), ?_, ?_⟩
        · repeat tb_start
        · cases p i
          · rfl
          · show (if true = true then _ else _) = _
            rw [if_pos rfl]
            refine Option.bind_eq_some_iff.mpr ⟨(V.int (bg + i), hp.set 0 (feedO cells (j + 1 + (i + 1)))), ?_, rfl⟩
            repeat tb_start
    repeat tb_start
    · by_cases hs : some' = []
      · rw [if_pos hs]
        apply e_ifEF
        · repeat tb_start
          rw [cmpN_nil, hs]; rfl
        dsimp only [rv, List.map]
        repeat tb_start
      · rw [if_neg hs]
        apply e_ifET
        · repeat tb_start
          rw [cmpN_nil]
          cases some' with
          | nil => exact absurd rfl hs
          | cons _ _ => rfl
        repeat tb_start
    repeat tb_start
/-! ## the intervals of an ascending row -/
theorem fv_snoc (r : List Int) (v : Int) : fv (r ++ [v]) = pb (fv r) v := by
  rw [fv, List.foldl_append]; rfl
theorem asc_snoc {r : List Int} {v : Int} : (r ++ [v]).Pairwise (· < ·) ↔ r.Pairwise (· < ·) ∧ ∀ a ∈ r, a < v := by
  rw [List.pairwise_append]
  constructor
  · rintro ⟨h1, _, h3⟩; exact ⟨h1, fun a ha => h3 a ha v (by simp)⟩
  · rintro ⟨h1, h2⟩; exact ⟨h1, by simp, fun a ha b hb => by simp at hb; subst hb; exact h2 a ha⟩
/-- induction from the end -/
theorem snoc_ind {α : Type} {P : List α → Prop} (h0 : P []) (hs : ∀ r v, P r → P (r ++ [v])) : ∀ l, P l := by
  intro l
  rw [← List.reverse_reverse l]
  induction l.reverse with
  | nil => exact h0
  | cons a r ih => rw [List.reverse_cons]; exact hs _ _ ih
theorem pb_nil (v : Int) : pb [] v = [(v, v)] := rfl
theorem pb_snoc (e : List I2) (a b v : Int) : pb (e ++ [(a, b)]) v = if v ≤ b + 1 then (if b < v then e ++ [(a, v)] else e ++ [(a, b)]) else e ++ [(a, b)] ++ [(v, v)] := by
  have hd : (e ++ [(a, b)]).getLast? = some (a, b) := by simp
  rw [pb, hd]; simp
/-- what is known of the intervals of a row: the last one ends with the row's last, all ends are at most that -/
theorem fv_facts : ∀ (r : List Int), r.Pairwise (· < ·) → (fv r).getLast?.map (·.2) = r.getLast? ∧ (fv r).head?.map (·.1) = r.head? ∧ ∀ p ∈ fv r, p.1 ≤ p.2 ∧ (∃ q, r.getLast? = some q ∧ p.2 ≤ q) := by
  refine snoc_ind ?_ ?_
  · intro _; exact ⟨rfl, rfl, fun p hp => by simp [fv] at hp⟩
  · intro r v ih h
    obtain ⟨hr, hv⟩ := asc_snoc.mp h
    obtain ⟨h1, h2, h3⟩ := ih hr
    rw [fv_snoc]
    rcases List.eq_nil_or_concat (fv r) with e | ⟨d0, ab, e⟩
    · rw [e] at h1 h2 ⊢
      have : r = [] := by simpa using h1.symm
      subst this
      rw [pb_nil]
      simp
    · obtain ⟨a, b⟩ := ab
      rw [List.concat_eq_append] at e
      rw [e] at h1 h2 h3 ⊢
      have hb : r.getLast? = some b := by simpa using h1.symm
      have hbm : b ∈ r := List.mem_of_getLast? hb
      have hbv := hv b hbm
      have hh : (r ++ [v]).head? = r.head? := by cases r <;> simp_all
      have hl : (r ++ [v]).getLast? = some v := by simp
      rw [hh, hl, pb_snoc]
      have hab := (h3 (a, b) (by simp)).1
      have hold : ∀ p ∈ d0 ++ [(a, b)], p.1 ≤ p.2 ∧ ∃ q, some v = some q ∧ p.2 ≤ q := by
        intro p hp
        obtain ⟨g1, q, g2, g3⟩ := h3 p hp
        rw [hb] at g2
        cases g2
        exact ⟨g1, v, rfl, by omega⟩
      split
      · try rw [if_pos hbv]
        refine ⟨by simp, ?_, ?_⟩
        · rw [← h2]; cases d0 <;> simp
        · intro p hp
          rcases List.mem_append.mp hp with hp | hp
          · exact hold p (by simp [hp])
          · simp at hp; subst hp; exact ⟨by simp at hab ⊢; omega, v, rfl, by simp⟩
      · refine ⟨by simp, ?_, ?_⟩
        · rw [← h2]; cases d0 <;> simp
        · intro p hp
          rcases List.mem_append.mp hp with hp | hp
          · exact hold p hp
          · simp at hp; subst hp; exact ⟨by simp, v, rfl, by simp⟩
theorem fv_last {r : List Int} (h : r.Pairwise (· < ·)) {z : Int} (hz : r.getLast? = some z) : ∃ p, (fv r).getLast? = some p ∧ p.2 = z := by
  have := (fv_facts r h).1
  rw [hz] at this
  cases e : (fv r).getLast? with
  | none => rw [e] at this; simp at this
  | some p => rw [e] at this; simp at this; exact ⟨p, rfl, this⟩
theorem fv_head {r : List Int} (h : r.Pairwise (· < ·)) {z : Int} (hz : r.head? = some z) : ∃ p, (fv r).head? = some p ∧ p.1 = z := by
  have := (fv_facts r h).2.1
  rw [hz] at this
  cases e : (fv r).head? with
  | none => rw [e] at this; simp at this
  | some p => rw [e] at this; simp at this; exact ⟨p, rfl, this⟩
theorem fv_nil_iff {r : List Int} (h : r.Pairwise (· < ·)) : fv r = [] ↔ r = [] := by
  constructor
  · intro e
    have := (fv_facts r h).1
    rw [e] at this
    simpa using this.symm
  · intro e; subst e; rfl
/-- the row's own numbers -/
noncomputable def ex (d : List I2) : List Int := d.flatMap fun p => (List.range (p.2 - p.1 + 1).toNat).map fun (i : Nat) => p.1 + i
theorem ex_append (d e : List I2) : ex (d ++ e) = ex d ++ ex e := by simp [ex]
theorem ex_one (a b : Int) : ex [(a, b)] = (List.range (b - a + 1).toNat).map fun (i : Nat) => a + i := by simp [ex]
theorem ex_fv : ∀ (r : List Int), r.Pairwise (· < ·) → ex (fv r) = r := by
  refine snoc_ind (fun _ => rfl) ?_
  intro r v ih h
  obtain ⟨hr, hv⟩ := asc_snoc.mp h
  have hi := ih hr
  obtain ⟨h1, h2, h3⟩ := fv_facts r hr
  rw [fv_snoc]
  rcases List.eq_nil_or_concat (fv r) with e | ⟨d0, ab, e⟩
  · rw [e] at h1 hi ⊢
    have : r = [] := by simpa using h1.symm
    subst this
    rw [pb_nil, ex_one]
    simp [show (v - v + 1).toNat = 1 by omega]
  · obtain ⟨a, b⟩ := ab
    rw [List.concat_eq_append] at e
    rw [e] at h1 h2 h3 hi ⊢
    have hb : r.getLast? = some b := by simpa using h1.symm
    have hbv := hv b (List.mem_of_getLast? hb)
    have hab := (h3 (a, b) (by simp)).1
    simp only at hab
    rw [pb_snoc]
    split
    · try rw [if_pos hbv]
      rw [ex_append, ex_one]
      have e1 : (v - a + 1).toNat = (b - a + 1).toNat + 1 := by omega
      rw [e1, List.range_succ, List.map_append, ← List.append_assoc, ← ex_one a b, ← ex_append, hi]
      simp
      omega
    · rw [ex_append, hi, ex_one]
      simp [show (v - v + 1).toNat = 1 by omega]
theorem fv_inj {r s : List Int} (hr : r.Pairwise (· < ·)) (hs : s.Pairwise (· < ·)) (h : fv r = fv s) : r = s := by
  rw [← ex_fv r hr, ← ex_fv s hs, h]
theorem upTo_append (d e : List I2) (k : Int) : upTo (d ++ e) k = upTo d k ++ upTo e k := by simp [upTo]
theorem fromOn_append (d e : List I2) (k : Int) : fromOn (d ++ e) k = fromOn d k ++ fromOn e k := by simp [fromOn]
theorem upTo_id {k : Int} : ∀ {d : List I2}, (∀ p ∈ d, p.1 ≤ p.2 ∧ p.2 ≤ k) → upTo d k = d
  | [], _ => rfl
  | p :: d, h => by
    have h1 := h p (by simp)
    have h2 := upTo_id (d := d) fun q hq => h q (by simp [hq])
    unfold upTo at h2 ⊢
    rw [List.filter_cons, if_pos (by simp; omega), List.map_cons, h2, if_neg (by omega)]
theorem upTo_none {k : Int} {d : List I2} (h : ∀ p ∈ d, k < p.1) : upTo d k = [] := by
  rw [upTo, List.filter_eq_nil_iff.mpr (fun p hp => by simp; exact h p hp)]; rfl
theorem fromOn_none {k : Int} {d : List I2} (h : ∀ p ∈ d, p.2 < k) : fromOn d k = [] := by
  rw [fromOn, List.filter_eq_nil_iff.mpr (fun p hp => by simp; exact h p hp)]; rfl
theorem fromOn_one {a b k : Int} (h : k ≤ b) : fromOn [(a, b)] k = [(if k > a then k else a, b)] := by
  simp [fromOn, h]
theorem filter_all {r : List Int} {p : Int → Bool} (h : ∀ a ∈ r, p a = true) : r.filter p = r := List.filter_eq_self.mpr h
theorem filter_none {r : List Int} {p : Int → Bool} (h : ∀ a ∈ r, p a = false) : r.filter p = [] := List.filter_eq_nil_iff.mpr fun a ha => by simp [h a ha]
theorem upTo_fv (k : Int) : ∀ (r : List Int), r.Pairwise (· < ·) → upTo (fv r) k = fv (r.filter fun s => decide (s ≤ k)) := by
  refine snoc_ind (fun _ => rfl) ?_
  intro r v ih h
  obtain ⟨hr, hv⟩ := asc_snoc.mp h
  rw [List.filter_append]
  by_cases hk : v ≤ k
  · rw [filter_all (r := r) (fun a ha => by have := hv a ha; simp; omega), filter_all (r := [v]) (fun a ha => by simp at ha; subst ha; simpa using hk)]
    refine upTo_id fun p hp => ?_
    obtain ⟨g1, q, g2, g3⟩ := (fv_facts _ h).2.2 p hp
    simp at g2; subst g2
    exact ⟨g1, by omega⟩
  · rw [filter_none (r := [v]) (fun a ha => by simp at ha; subst ha; simpa using hk), List.append_nil, ← ih hr, fv_snoc]
    obtain ⟨h1, h2, h3⟩ := fv_facts r hr
    rcases List.eq_nil_or_concat (fv r) with e | ⟨d0, ab, e⟩
    · rw [e, pb_nil]
      exact upTo_none fun p hp => by simp at hp; subst hp; simpa using hk
    · obtain ⟨a, b⟩ := ab
      rw [List.concat_eq_append] at e
      rw [e] at h1 h2 h3 ⊢
      have hb : r.getLast? = some b := by simpa using h1.symm
      have hbv := hv b (List.mem_of_getLast? hb)
      rw [pb_snoc]
      by_cases h4 : v ≤ b + 1
      · rw [if_pos h4, if_pos hbv, upTo_append, upTo_append]
        congr 1
        unfold upTo
        by_cases ha : a ≤ k
        · simp [ha]
          omega
        · simp [ha]
      · rw [if_neg h4, upTo_append, upTo_none (d := [(v, v)]) (fun p hp => by simp at hp; subst hp; simpa using hk), List.append_nil]
theorem fromOn_fv (k : Int) : ∀ (r : List Int), r.Pairwise (· < ·) → fromOn (fv r) k = fv (r.filter fun s => decide (k ≤ s)) := by
  refine snoc_ind (fun _ => rfl) ?_
  intro r v ih h
  obtain ⟨hr, hv⟩ := asc_snoc.mp h
  rw [List.filter_append]
  by_cases hk : v < k
  · rw [filter_none (r := r) (fun a ha => by have := hv a ha; simp; omega), filter_none (r := [v]) (fun a ha => by simp at ha; subst ha; simpa using hk)]
    refine fromOn_none fun p hp => ?_
    obtain ⟨g1, q, g2, g3⟩ := (fv_facts _ h).2.2 p hp
    simp at g2; subst g2
    omega
  · rw [filter_all (r := [v]) (fun a ha => by simp at ha; subst ha; simpa using hk), fv_snoc, fv_snoc, ← ih hr]
    obtain ⟨h1, h2, h3⟩ := fv_facts r hr
    rcases List.eq_nil_or_concat (fv r) with e | ⟨d0, ab, e⟩
    · rw [e, pb_nil, show fromOn [] k = [] from rfl, pb_nil, fromOn_one (by omega), if_neg (by omega)]
    · obtain ⟨a, b⟩ := ab
      rw [List.concat_eq_append] at e
      rw [e] at h1 h2 h3 ⊢
      have hb : r.getLast? = some b := by simpa using h1.symm
      have hbv := hv b (List.mem_of_getLast? hb)
      have hab := (h3 (a, b) (by simp)).1
      simp only at hab
      have hold : b < k → fromOn (d0 ++ [(a, b)]) k = [] := fun hbk => fromOn_none fun p hp => by
        obtain ⟨g1, q, g2, g3⟩ := h3 p hp
        rw [hb] at g2; cases g2
        omega
      rw [pb_snoc]
      by_cases h4 : v ≤ b + 1
      · rw [if_pos h4, if_pos hbv]
        by_cases h5 : k ≤ b
        · rw [fromOn_append, fromOn_append, fromOn_one h5, fromOn_one (by omega), pb_snoc, if_pos h4, if_pos hbv]
        · rw [hold (by omega), pb_nil, fromOn_append, fromOn_one (by omega), if_pos (by omega)]
          have : fromOn d0 k = [] := by
            have := hold (by omega)
            rw [fromOn_append] at this
            exact (List.append_eq_nil_iff.mp this).1
          rw [this]
          have : k = v := by omega
          rw [this]; rfl
      · rw [if_neg h4]
        have e1 : fromOn [(v, v)] k = [(v, v)] := by rw [fromOn_one (by omega), if_neg (by omega)]
        rw [fromOn_append, e1]
        by_cases h5 : k ≤ b
        · rw [fromOn_append, fromOn_one h5, pb_snoc, if_neg h4]
        · rw [hold (by omega), pb_nil]; rfl
theorem fv_gap {l1 : List Int} (h1 : l1.Pairwise (· < ·)) : ∀ (l2 : List Int), l2.Pairwise (· < ·) → (∀ a ∈ l1, ∀ b ∈ l2, a + 1 < b) → fv (l1 ++ l2) = fv l1 ++ fv l2 := by
  refine snoc_ind (fun _ _ => by simp [fv]) ?_
  intro r v ih h hg
  obtain ⟨hr, hv⟩ := asc_snoc.mp h
  rw [← List.append_assoc, fv_snoc, fv_snoc, ih hr fun a ha b hb => hg a ha b (by simp [hb])]
  rcases List.eq_nil_or_concat (fv r) with e | ⟨d0, ab, e⟩
  · rw [e, pb_nil, List.append_nil]
    rcases List.eq_nil_or_concat (fv l1) with e | ⟨d0, ab, e⟩
    · rw [e]; rfl
    · obtain ⟨a, b⟩ := ab
      have h2 := (fv_facts l1 h1).1
      rw [List.concat_eq_append] at e
      rw [e] at h2 ⊢
      have hb : l1.getLast? = some b := by simpa using h2.symm
      have := hg b (List.mem_of_getLast? hb) v (by simp)
      rw [pb_snoc, if_neg (by omega)]
  · obtain ⟨a, b⟩ := ab
    rw [List.concat_eq_append] at e
    rw [e, ← List.append_assoc, pb_snoc, pb_snoc]
    split
    · split <;> simp
    · simp
theorem filter_ne (k : Int) : ∀ (r : List Int), r.Pairwise (· < ·) → (r.filter fun s => decide (s ≤ k - 1)) ++ (r.filter fun s => decide (k + 1 ≤ s)) = r.filter fun s => !(s == k) := by
  refine snoc_ind (fun _ => rfl) ?_
  intro r v ih h
  obtain ⟨hr, hv⟩ := asc_snoc.mp h
  rw [List.filter_append, List.filter_append, List.filter_append, ← ih hr]
  by_cases h1 : v ≤ k - 1
  · have e1 : r.filter (fun s => decide (k + 1 ≤ s)) = [] := filter_none fun a ha => by have := hv a ha; simp; omega
    rw [e1]
    have : v ≠ k := by omega
    simp [h1, this]
    omega
  · by_cases h2 : k + 1 ≤ v
    · have : v ≠ k := by omega
      simp [h1, h2, this]
    · have : v = k := by omega
      subst this
      have e1 : [v].filter (fun s => decide (s ≤ v - 1)) = [] := filter_none (by intro a ha; simp at ha; subst ha; simp; omega)
      have e2 : [v].filter (fun s => decide (v + 1 ≤ s)) = [] := filter_none (by intro a ha; simp at ha; subst ha; simp; omega)
      rw [e1, e2]
      simp
theorem cut_fv {l : Lit} (hs : l.s ≠ .eq) {r : List Int} (h : r.Pairwise (· < ·)) : cut l (fv r) = fv (r.filter fun s => !bar l s) := by
  obtain ⟨x, s, k⟩ := l
  cases s
  · show upTo (fv r) k = _
    rw [upTo_fv k r h]
    congr 2; funext s
    show decide (s ≤ k) = !decide (k < s)
    by_cases h : s ≤ k
    · simp [h]
    · simp [h]; omega
  · show fromOn (fv r) k = _
    rw [fromOn_fv k r h]
    congr 2; funext s
    show decide (k ≤ s) = !decide (s < k)
    by_cases h : k ≤ s
    · simp [h]
    · simp [h]; omega
  · exact absurd rfl hs
  · show upTo (fv r) (k - 1) ++ fromOn (fv r) (k + 1) = _
    rw [upTo_fv _ r h, fromOn_fv _ r h, ← fv_gap (h.filter _) _ (h.filter _), filter_ne k r h]
    · rfl
    · intro a ha b hb
      have h1 := (List.mem_filter.mp ha).2
      have h2 := (List.mem_filter.mp hb).2
      simp at h1 h2
      omega
structure SH (hp : Hp) (m nw : Nat) (R F : List (List Int)) (tr : List Ent) (mk : List Nat) (fl : Bool) (cl : List V) : Prop where
  a2 : hp[2]? = some (.ins (insF m nw fl cl))
  a3 : hp[3]? = some (.lst ((R.map fv).map dv))
  a4 : hp[4]? = some (.lst ((F.map fv).map dv))
  a5 : hp[5]? = some (.lst (tr.map entV))
  am : hp[m]? = some (.lst (mkV mk))
  an : ∃ j, hp[nw]? = some (.im j) ∧ j ≤ tr.length
  mok : m = 6 ∨ 10 ≤ m
  nok : nw = 7 ∨ 10 ≤ nw
  mn : m ≠ nw
structure Keep (m nw : Nat) (hp hp' : Hp) : Prop where
  len : hp.length ≤ hp'.length
  at' : ∀ i, i ≠ 2 → i ≠ 3 → i ≠ 5 → i ≠ m → i ≠ nw → i < hp.length → hp'[i]? = hp[i]?
theorem Keep.refl (m nw : Nat) (hp : Hp) : Keep m nw hp hp := ⟨Nat.le_refl _, fun _ _ _ _ _ _ _ => rfl⟩
theorem Keep.trans {m nw : Nat} {hp hp' hp'' : Hp} (a : Keep m nw hp hp') (b : Keep m nw hp' hp'') : Keep m nw hp hp'' :=
  ⟨Nat.le_trans a.len b.len, fun i h1 h2 h3 h4 h5 h6 => (b.at' i h1 h2 h3 h4 h5 (Nat.lt_of_lt_of_le h6 a.len)).trans (a.at' i h1 h2 h3 h4 h5 h6)⟩
theorem Keep.get {m nw i : Nat} {hp hp' : Hp} {o : AO} (a : Keep m nw hp hp') (h : hp[i]? = some o) (h1 : i ≠ 2) (h2 : i ≠ 3) (h3 : i ≠ 5) (h4 : i ≠ m) (h5 : i ≠ nw) : hp'[i]? = some o := by
  rw [a.at' i h1 h2 h3 h4 h5 (List.getElem?_eq_some_iff.mp h).1]; exact h
theorem Keep.set {m nw j : Nat} {hp : Hp} {o : AO} (h : j = 2 ∨ j = 3 ∨ j = 5 ∨ j = m ∨ j = nw) : Keep m nw hp (hp.set j o) :=
  ⟨by simp, fun i h1 h2 h3 h4 h5 h6 => List.getElem?_set_ne fun (e : j = i) => h.elim (fun q => h1 (e.symm.trans q)) fun h => h.elim (fun q => h2 (e.symm.trans q)) fun h => h.elim (fun q => h3 (e.symm.trans q)) fun h => h.elim (fun q => h4 (e.symm.trans q)) fun q => h5 (e.symm.trans q)⟩
noncomputable def nob (l : Lit) (r : List Int) : List Int := r.filter fun s => !bar l s
section
variable {k : Nat} {hp : Hp} {m nw : Nat} {R F : List (List Int)} {tr : List Ent} {mk : List Nat} {fl : Bool} {cl : List V} {l : Lit} {r : List Int}
theorem set_same {α : Type} {R : List α} {x : Nat} {r : α} (h : R[x]? = some r) : R.set x r = R := by
  apply List.ext_getElem?
  intro j
  rw [List.getElem?_set]
  split
  · rename_i e; subst e
    have := (List.getElem?_eq_some_iff.mp h).1
    simp only [if_pos this]
    exact h.symm
  · rfl
theorem fv_len5 (h : RowOK r) : (fv r).length ≤ 5 := Nat.le_trans (fv_len r) h.len
theorem enter_ok (S : SH hp m nw R F tr mk fl cl) {rv' : V} (hs : l.s ≠ .eq) (hR : R.length = 3) (hx : R[l.x]? = some r) (hr : RowOK r) (hne : nob l r ≠ []) (htr : tr.length ≤ 150) :
    ∃ hp' tr', cf (k + 4) 235 [.obj 287 2, ltV l, rv', .int (-1)] hp = some (.bool true, hp') ∧ SH hp' m nw (R.set l.x (nob l r)) F tr' mk fl cl ∧ Keep m nw hp hp' ∧ hp'.length = hp.length ∧ ((nob l r = r ∧ tr' = tr) ∨ tr' = tr ++ [⟨l.x, fv r, l, rv'⟩]) := by
  have hcut : cut l (fv r) = fv (nob l r) := cut_fv hs hr.asc
  have hasc : (nob l r).Pairwise (· < ·) := hr.asc.filter _
  have hxd : (R.map fv)[l.x]? = some (fv r) := by rw [List.getElem?_map, hx]; rfl
  have hd5 := fv_len5 hr
  have hcn : cut l (fv r) ≠ [] := by rw [hcut]; exact fun e => hne ((fv_nil_iff hasc).mp e)
  have hRl : (R.map fv).length ≤ lineMax := by rw [List.length_map, hR]; decide
  by_cases hq : cut l (fv r) = fv r
  · have e : nob l r = r := fv_inj hasc hr.asc (by rw [← hcut]; exact hq)
    refine ⟨hp, tr, s235B S.a2 S.a3 hxd hRl (by omega) hs hcn hq, ?_, Keep.refl _ _ _, rfl, .inl ⟨e, rfl⟩⟩
    rw [e, set_same hx]; exact S
  · obtain ⟨j, hj, hjt⟩ := S.an
    have mok := S.mok
    have nok := S.nok
    have n2 : nw ≠ 2 := by omega
    have n3 : nw ≠ 3 := by omega
    have n5 : nw ≠ 5 := by omega
    have run := s235C (k := k) (l := l) (rv' := rv') S.a2 S.a3 S.a5 hj n2 n3 n5 (by unfold lineMax; omega) (by rw [List.length_map]; unfold lineMax; omega) hxd hRl (by omega) hs hcn hq
    refine ⟨_, tr ++ [⟨l.x, fv r, l, rv'⟩], run, ?_, ?_, by simp, .inr rfl⟩
    · have e5 : tr.map entV ++ [V.tup [.int l.x, dv (fv r), ltV l, rv', .int (-1)]] = (tr ++ ([⟨l.x, fv r, l, rv'⟩] : List Ent)).map entV := by rw [List.map_append]; rfl
      have e3 : ((R.map fv).set l.x (cut l (fv r))).map dv = ((R.set l.x (nob l r)).map fv).map dv := by rw [hcut, List.map_set (f := fv)]
      rw [e5, e3]
      refine ⟨?_, ?_, ?_, ?_, ?_, ⟨j + 1, ?_, ?_⟩, S.mok, S.nok, S.mn⟩
      · exact get_set (get_set (get_set S.a2 (by decide)) (by decide)) n2
      · exact get_set (get_self (get_set S.a3 (by decide))) n3
      · exact get_set (get_set (get_set S.a4 (by decide)) (by decide)) (by omega)
      · exact get_set (get_set (get_self S.a5) (by decide)) n5
      · exact get_set (get_set (get_set S.am (by omega)) (by omega)) (Ne.symm S.mn)
      · exact get_self (get_set (get_set hj (by omega)) (by omega))
      · simp; exact hjt
    · exact ((Keep.set (by simp)).trans (Keep.set (by simp))).trans (Keep.set (by simp))
theorem enter_fail (S : SH hp m nw R F tr mk fl cl) {rs : List Lit} (hs : l.s ≠ .eq) (hR : R.length = 3) (hx : R[l.x]? = some r) (hr : RowOK r) (hne : nob l r = []) (hrs : rs.length ≤ 100) :
    ∃ hp', cf (k + 4) 235 [.obj 287 2, ltV l, .tup (rs.map ltV), .int (-1)] hp = some (.bool false, hp') ∧ SH hp' m nw R F tr mk true ((rs ++ [neg l]).map ltV) ∧ Keep m nw hp hp' ∧ hp'.length = hp.length := by
  have hcut : cut l (fv r) = fv (nob l r) := cut_fv hs hr.asc
  have hxd : (R.map fv)[l.x]? = some (fv r) := by rw [List.getElem?_map, hx]; rfl
  have hd5 := fv_len5 hr
  have hcn : cut l (fv r) = [] := by rw [hcut, hne]; rfl
  have hRl : (R.map fv).length ≤ lineMax := by rw [List.length_map, hR]; decide
  have run := s235A (k := k) (l := l) (rs := rs.map ltV) (sp := .int (-1)) S.a2 S.a3 hxd hRl (by omega) hs hcn (by rw [List.length_map]; omega)
  refine ⟨_, run, ?_, Keep.set (by simp), by simp⟩
  have e : rs.map ltV ++ [ltV (neg l)] = (rs ++ [neg l]).map ltV := by rw [List.map_append]; rfl
  rw [e]
  have mok := S.mok
  have nok := S.nok
  obtain ⟨j, hj, hjt⟩ := S.an
  exact ⟨get_self S.a2, get_set S.a3 (by decide), get_set S.a4 (by decide), get_set S.a5 (by decide), get_set S.am (by omega), ⟨j, get_set hj (by omega), hjt⟩, S.mok, S.nok, S.mn⟩
theorem low_ok (S : SH hp m nw R F tr mk fl cl) {x : Nat} {z : Int} (hR : R.length = 3) (hx : R[x]? = some r) (hr : RowOK r) (hz : r.head? = some z) : cf (k + 2) 186 [.obj 287 2, .int x] hp = some (.int z, hp) := by
  obtain ⟨p, hp1, rfl⟩ := fv_head hr.asc hz
  have := fv_len5 hr
  exact s186 S.a2 S.a3 (by rw [List.getElem?_map, hx]; rfl) (by rw [List.length_map, hR]; decide) hp1 (by unfold lineMax; omega)
theorem high_ok (S : SH hp m nw R F tr mk fl cl) {x : Nat} {z : Int} (hR : R.length = 3) (hx : R[x]? = some r) (hr : RowOK r) (hz : r.getLast? = some z) : cf (k + 2) 193 [.obj 287 2, .int x] hp = some (.int z, hp) := by
  obtain ⟨p, hp1, rfl⟩ := fv_last hr.asc hz
  have := fv_len5 hr
  exact s193 S.a2 S.a3 (by rw [List.getElem?_map, hx]; rfl) (by rw [List.length_map, hR]; decide) hp1 (by unfold lineMax; omega)
end
theorem nob_ge (x : Nat) (j : Int) (r : List Int) : nob ⟨x, .ge, j⟩ r = r.filter fun s => decide (j ≤ s) := by
  unfold nob
  congr 1; funext s
  show (!decide (s < j)) = decide (j ≤ s)
  by_cases h : j ≤ s
  · simp [h]
  · simp [h]; omega
theorem nob_le (x : Nat) (j : Int) (r : List Int) : nob ⟨x, .le, j⟩ r = r.filter fun s => decide (s ≤ j) := by
  unfold nob
  congr 1; funext s
  show (!decide (j < s)) = decide (s ≤ j)
  by_cases h : s ≤ j
  · simp [h]
  · simp [h]; omega
theorem RowOK.filter {r : List Int} (h : RowOK r) {p : Int → Bool} (hn : r.filter p ≠ []) : RowOK (r.filter p) :=
  ⟨hn, h.asc.filter _, Nat.le_trans (List.length_filter_le _ _) h.len⟩
theorem RowOK.head {r : List Int} (h : RowOK r) : ∃ z, r.head? = some z ∧ z ∈ r ∧ ∀ a ∈ r, z ≤ a := by
  cases r with
  | nil => exact absurd rfl h.ne
  | cons z r =>
    refine ⟨z, rfl, by simp, fun a ha => ?_⟩
    rcases List.mem_cons.mp ha with e | e
    · omega
    · have := (List.pairwise_cons.mp h.asc).1 a e
      omega
theorem RowOK.last {r : List Int} (h : RowOK r) : ∃ z, r.getLast? = some z ∧ z ∈ r ∧ ∀ a ∈ r, a ≤ z := by
  rcases List.eq_nil_or_concat r with e | ⟨d, z, e⟩
  · exact absurd e h.ne
  · rw [List.concat_eq_append] at e
    subst e
    have := (asc_snoc.mp h.asc).2
    refine ⟨z, by simp, by simp, fun a ha => ?_⟩
    rcases List.mem_append.mp ha with e | e
    · have := this a e; omega
    · simp at e; omega
section
variable {k : Nat} {hp : Hp} {m nw a b : Nat} {R F : List (List Int)} {tr : List Ent} {mk : List Nat} {cl : List V} {ra rb ls : List Int} {ha ta hb tb : Int}
theorem two_A (S : SH hp m nw R F tr mk false cl) (h9 : hp[9]? = some (.ins (taskF ls))) (hl : ls.length = 3) (hR : R.length = 3) (ha3 : a < 3) (hb3 : b < 3) (hra : R[a]? = some ra) (hrb : R[b]? = some rb) (oka : RowOK ra) (okb : RowOK rb)
    (hha : ra.head? = some ha) (htb : rb.getLast? = some tb) (hc : ha + lastOf ls a ≤ tb) : cf (k + 6) 368 [.obj 420 9, .obj 287 2, .int a, .int b] hp = some (.bool true, hp) :=
  s368A h9 hl S.a2 ha3 hb3 (low_ok S hR hra oka hha) (high_ok S hR hrb okb htb) hc
theorem two_B (S : SH hp m nw R F tr mk false cl) (h9 : hp[9]? = some (.ins (taskF ls))) (hl : ls.length = 3) (hR : R.length = 3) (ha3 : a < 3) (hb3 : b < 3) (hra : R[a]? = some ra) (hrb : R[b]? = some rb) (oka : RowOK ra) (okb : RowOK rb)
    (hha : ra.head? = some ha) (htb : rb.getLast? = some tb) (hhb : rb.head? = some hb) (hc : ¬ ha + lastOf ls a ≤ tb) (hn : leftL ra hb (lastOf ls b) = []) :
    ∃ hp', cf (k + 6) 368 [.obj 420 9, .obj 287 2, .int a, .int b] hp = some (.bool false, hp') ∧ SH hp' m nw R F tr mk true ((rs1 a b (lastOf ls a) hb tb ++ ([⟨a, .le, hb + lastOf ls b - 1⟩] : List Lit)).map ltV) ∧ Keep m nw hp hp' ∧ hp'.length = hp.length := by
  obtain ⟨hp', e1, e2, e3, e4⟩ := enter_fail (k := k) (l := ⟨a, .ge, hb + lastOf ls b⟩) (rs := rs1 a b (lastOf ls a) hb tb) S (by simp) hR hra oka (by rw [nob_ge]; exact hn) (Nat.le_of_ble_eq_true rfl)
  exact ⟨hp', s368B h9 hl S.a2 ha3 hb3 (low_ok S hR hra oka hha) (high_ok S hR hrb okb htb) (low_ok S hR hrb okb hhb) hc (s242 S.a2 (Nat.le_of_ble_eq_true rfl) e1), e2, e3, e4⟩
theorem getset_ne {α : Type} {R : List α} {a b : Nat} {x y : α} (h : R[b]? = some x) (hne : a ≠ b) : (R.set a y)[b]? = some x := by
  rw [List.getElem?_set_ne hne]; exact h
theorem getset_eq {α : Type} {R : List α} {a : Nat} {x y : α} (h : R[a]? = some x) : (R.set a y)[a]? = some y := by
  rw [List.getElem?_set_self (List.getElem?_eq_some_iff.mp h).1]
theorem two_C (S : SH hp m nw R F tr mk false cl) (h9 : hp[9]? = some (.ins (taskF ls))) (hl : ls.length = 3) (hR : R.length = 3) (ha3 : a < 3) (hb3 : b < 3) (hab : a ≠ b) (hra : R[a]? = some ra) (hrb : R[b]? = some rb) (oka : RowOK ra) (okb : RowOK rb)
    (htr : tr.length ≤ 140) (hha : ra.head? = some ha) (htb : rb.getLast? = some tb) (hhb : rb.head? = some hb) (hc : ¬ ha + lastOf ls a ≤ tb) {left : List Int} (hleft : left = leftL ra hb (lastOf ls b)) (hn : left ≠ [])
    {hx tx : Int} (hhx : left.head? = some hx) (htx : left.getLast? = some tx) :
    ∃ hp' es1 es2, cf (k + 6) 368 [.obj 420 9, .obj 287 2, .int a, .int b] hp = some (.bool true, hp') ∧ SH hp' m nw ((R.set a left).set b (rightL left rb (lastOf ls b))) F (tr ++ es1 ++ es2) mk false cl ∧ Keep m nw hp hp' ∧ hp'.length = hp.length ∧
      ((es1 = [] ∧ left = ra) ∨ es1 = [⟨a, fv ra, ⟨a, .ge, hb + lastOf ls b⟩, .tup ((rs1 a b (lastOf ls a) hb tb).map ltV)⟩]) ∧
      ((es2 = [] ∧ rightL left rb (lastOf ls b) = rb) ∨ es2 = [⟨b, fv rb, ⟨b, .le, tx - lastOf ls b⟩, .tup ((rs2 a b (lastOf ls a) hx tx).map ltV)⟩]) := by
  have eleft : nob ⟨a, .ge, hb + lastOf ls b⟩ ra = left := by rw [nob_ge, hleft]; rfl
  have okl : RowOK left := by rw [hleft]; rw [hleft] at hn; exact oka.filter hn
  have eright : nob ⟨b, .le, tx - lastOf ls b⟩ rb = rightL left rb (lastOf ls b) := by
    rw [nob_le, rightL]
    congr 1; funext t
    rw [rightB, htx]
    by_cases h : t ≤ tx - lastOf ls b
    · rw [decide_eq_true h]; exact (decide_eq_true (by omega)).symm
    · rw [decide_eq_false h]; exact (decide_eq_false (by omega)).symm
  obtain ⟨hp1, tr1, e1, S1, k1, n1, sh1⟩ := enter_ok (k := k) (l := ⟨a, .ge, hb + lastOf ls b⟩) (rv' := .tup ((rs1 a b (lastOf ls a) hb tb).map ltV)) S (by simp) hR hra oka (by rw [eleft]; exact hn) (by omega)
  rw [eleft] at S1 sh1
  have hR1 : (R.set a left).length = 3 := by rw [List.length_set]; exact hR
  have hra1 : (R.set a left)[a]? = some left := getset_eq hra
  have hrb1 : (R.set a left)[b]? = some rb := getset_ne hrb hab
  have htr1 : tr1.length ≤ 141 := by
    rcases sh1 with ⟨_, e⟩ | e
    · rw [e]; omega
    · rw [e]; simp; omega
  have hrne : rightL left rb (lastOf ls b) ≠ [] := by
    obtain ⟨z, hz1, hz2, hz3⟩ := okb.head
    rw [hhb] at hz1; cases hz1
    have htxm : tx ∈ left := List.mem_of_getLast? htx
    rw [hleft] at htxm
    have h2 := (List.mem_filter.mp htxm).2
    simp at h2
    have : hb ∈ rightL left rb (lastOf ls b) := by
      refine List.mem_filter.mpr ⟨hz2, ?_⟩
      rw [rightB, htx]
      exact decide_eq_true h2
    exact List.ne_nil_of_mem this
  obtain ⟨hp2, tr2, e2, S2, k2, n2, sh2⟩ := enter_ok (k := k) (l := ⟨b, .le, tx - lastOf ls b⟩) (rv' := .tup ((rs2 a b (lastOf ls a) hx tx).map ltV)) S1 (by simp) hR1 hrb1 okb (by rw [eright]; exact hrne) (by omega)
  rw [eright] at S2 sh2
  have mok := S.mok
  have nok := S.nok
  have run := s368C h9 hl S.a2 ha3 hb3 (low_ok S hR hra oka hha) (high_ok S hR hrb okb htb) (low_ok S hR hrb okb hhb) hc (s242 S.a2 (Nat.le_of_ble_eq_true rfl) e1)
    (k1.get h9 (by decide) (by decide) (by decide) (by omega) (by omega)) S1.a2 (high_ok S1 hR1 hra1 okl htx) (low_ok S1 hR1 hra1 okl hhx) (s242 S1.a2 (Nat.le_of_ble_eq_true rfl) e2)
  have : ∃ es1, tr1 = tr ++ es1 ∧ ((es1 = [] ∧ left = ra) ∨ es1 = [⟨a, fv ra, ⟨a, .ge, hb + lastOf ls b⟩, .tup ((rs1 a b (lastOf ls a) hb tb).map ltV)⟩]) := by
    rcases sh1 with ⟨h1, h2⟩ | h1
    · exact ⟨[], by rw [h2]; simp, .inl ⟨rfl, h1⟩⟩
    · exact ⟨_, h1, .inr rfl⟩
  obtain ⟨es1, f1, f2⟩ := this
  have : ∃ es2, tr2 = tr1 ++ es2 ∧ ((es2 = [] ∧ rightL left rb (lastOf ls b) = rb) ∨ es2 = [⟨b, fv rb, ⟨b, .le, tx - lastOf ls b⟩, .tup ((rs2 a b (lastOf ls a) hx tx).map ltV)⟩]) := by
    rcases sh2 with ⟨h1, h2⟩ | h1
    · exact ⟨[], by rw [h2]; simp, .inl ⟨rfl, h1⟩⟩
    · exact ⟨_, h1, .inr rfl⟩
  obtain ⟨es2, g1, g2⟩ := this
  refine ⟨hp2, es1, es2, run, ?_, k1.trans k2, by omega, f2, g2⟩
  rw [← f1, ← g1]
  exact S2
end
/-! lists of data, compared -/
theorem eq_lists {hp : Hp} {α : Type} {f : α → V} (hf : ∀ a b, f a = f b → a = b) (hd : ∀ a, dOk 5 (f a) = true) {x y : V} {l m : List α} [Decidable (l = m)] (hx : deref hp x = .lst (l.map f)) (hy : deref hp y = .lst (m.map f)) : eqV hp x y = some (decide (l = m)) := by
  have hall : ∀ l : List α, dOk 6 (.lst (l.map f)) = true := fun l => by
    show (l.map f).all (dOk 5) = true
    rw [List.all_eq_true]
    intro v hv
    obtain ⟨a, _, rfl⟩ := List.mem_map.mp hv
    exact hd a
  unfold eqV
  rw [hx, hy]
  have hv : vEq (.lst (l.map f)) (.lst (m.map f)) = decide (l = m) := vEq_dec ⟨fun h => by injection h with h; exact map_inj hf h, fun h => by rw [h]⟩
  have h1 := hall l
  have h2 := hall m
  cases l with
  | nil =>
    cases m with
    | nil =>
      show (if dOk 6 (.lst []) && dOk 6 (.lst []) then some (vEq (.lst []) (.lst [])) else none) = _
      rw [← hv]; rfl
    | cons b m => show some false = _; rw [decide_eq_false (by simp)]
  | cons a l =>
    cases m with
    | nil => show some false = _; rw [decide_eq_false (by simp)]
    | cons b m =>
      show (if dOk 6 (.lst ((a :: l).map f)) && dOk 6 (.lst ((b :: m).map f)) then some (vEq (.lst ((a :: l).map f)) (.lst ((b :: m).map f))) else none) = _
      rw [h1, h2, ← hv]; rfl
theorem prV_inj {p q : Int × Int} (h : prV p = prV q) : p = q := iv_inj h
theorem dOk_prV (p : Int × Int) : dOk 5 (prV p) = true := dOk_iv 4 p
theorem cmpN_prs {hp : Hp} {ps qs : List (Int × Int)} : cmpV hp .NotEq (.lst (ps.map prV)) (.lst (qs.map prV)) = some (!decide (ps = qs)) := by
  show (eqV hp _ _).map _ = _
  rw [eq_lists (fun _ _ => prV_inj) dOk_prV rfl rfl]; rfl
theorem cmp_prs {hp : Hp} {ps qs : List (Int × Int)} : cmpV hp .Eq (.lst (ps.map prV)) (.lst (qs.map prV)) = some (decide (ps = qs)) := eq_lists (fun _ _ => prV_inj) dOk_prV rfl rfl
theorem cmp_dvs {hp : Hp} {ds es : List (List I2)} : cmpV hp .Eq (.lst (ds.map dv)) (.lst (es.map dv)) = some (decide (ds = es)) := eq_lists (fun _ _ => dv_inj) (fun d => dOk_dv 3 d) rfl rfl
theorem cmpN_dvs {hp : Hp} {ds es : List (List I2)} : cmpV hp .NotEq (.lst (ds.map dv)) (.lst (es.map dv)) = some (!decide (ds = es)) := by
  show (eqV hp _ _).map _ = _
  rw [eq_lists (fun _ _ => dv_inj) (fun d => dOk_dv 3 d) rfl rfl]; rfl
theorem nat_inj {i j : Nat} (h : V.int (i : Int) = V.int (j : Int)) : i = j := by injection h with h; omega
theorem cmpN_nats {hp : Hp} {ds es : List Nat} {i : Nat} (h : hp[i]? = some (.lst (es.map fun (i : Nat) => V.int i))) : cmpV hp .NotEq (.lst (ds.map fun (i : Nat) => V.int i)) (.ref i) = some (!decide (ds = es)) := by
  show (eqV hp _ _).map _ = _
  rw [eq_lists (f := fun (i : Nat) => V.int i) (l := ds) (m := es) (fun _ _ => nat_inj) (fun d => rfl) rfl (by
    show (match hp[i]? with | some (AO.lst l) => V.lst l | _ => .ref i) = _
    rw [h])]; rfl
theorem boolsOf_mk : ∀ (l : List Bool), boolsOf (l.map .bool) = some l
  | [] => rfl
  | a :: r => by
    show (boolsOf (r.map .bool)).bind _ = _
    rw [boolsOf_mk r]; rfl
theorem blt_all {hp : Hp} {bs : List Bool} : builtinV hp "all" [.lst (bs.map .bool)] = some (.bool (bs.all fun b => b)) := by
  show (boolsOf (bs.map .bool)).bind _ = _
  rw [boolsOf_mk bs]; rfl
theorem filter_true {α : Type} (l : List α) : l.filter (fun _ => true) = l := List.filter_eq_self.mpr fun _ _ => rfl

structure LE where
  x : Nat
  old : List I2
  l : Lit
  rs : List Lit
noncomputable def LE.ent (e : LE) : Ent := ⟨e.x, e.old, e.l, .tup (e.rs.map ltV)⟩
noncomputable def rowAt (H : List (List Int)) (x : Nat) : List Int := H.getD x []
theorem rowAt_eq {H : List (List Int)} {x : Nat} {r : List Int} (h : H[x]? = some r) : rowAt H x = r := by
  rw [rowAt, List.getD_eq_getElem?_getD, h]; rfl
theorem rowAt_get {H : List (List Int)} {x : Nat} (h : x < H.length) : H[x]? = some (rowAt H x) := by
  rw [rowAt, List.getD_eq_getElem?_getD, List.getElem?_eq_getElem h]; rfl
noncomputable def stepE (H : List (List Int)) (e : LE) : List (List Int) := H.set e.x (nob e.l (rowAt H e.x))
noncomputable def okE (ps : List (Int × Int)) : List (List Int) → List LE → Prop
  | _, [] => True
  | H, e :: r => (e.x < 3 ∧ e.l.x < 2 ∧ e.rs.length ≤ 100 ∧ (∀ l ∈ e.rs, l.x < 2) ∧ (∀ l ∈ e.rs, hold l (rowAt H l.x) = true) ∧ (ps.filter (keepB e.rs)).filter (keepB [e.l]) = ps.filter (keepB e.rs)) ∧ okE ps (stepE H e) r
theorem s466 {k : Nat} {hp : Hp} {ps : List (Int × Int)} {H : List (List Int)} {es : List LE} {h : Nat} (hh : hp[h]? = some (.lst (H.map rv))) (hps : ps.length ≤ 500) (hes : es.length ≤ 100) (hH : H.length = 3) (hrows : ∀ r ∈ H, r.length ≤ 100) (ok : okE ps H es) :
    cf (k + 3) 466 [.lst (es.map fun e => entV e.ent), .lst (ps.map prV), .ref h] hp = some (.bool true, hp.set h (.lst ((es.foldl stepE H).map rv))) := by
  have c2 : (es.map fun e => entV e.ent).length ≤ lineMax := by rw [List.length_map]; exact Nat.le_trans hes (by decide)
  apply cf_ret (mkFn 466 (topAt 32) false) (by decide) rfl rfl rfl
  show exSs _ _ 60 _ (_ :: _) [("entries", _), ("pairs", _), ("own", _)] _ = _
  apply xs_for (hp2 := hp.set h (.lst ((es.foldl stepE H).map rv))) (env1 := [("entries", .lst (es.map fun e => entV e.ent)), ("pairs", .lst (ps.map prV)), ("own", .ref h)])
  repeat tb_start
  · have hself := set_self hh
    refine ((congrArg (forL _ (es.map fun e => entV e.ent) _) hself).symm.trans (forL_fold (fun e => entV (LE.ent e)) stepE (fun _ => [("entries", .lst (es.map fun e => entV e.ent)), ("pairs", .lst (ps.map prV)), ("own", .ref h)]) (fun H => hp.set h (.lst (H.map rv))) (fun H r => H.length = 3 ∧ (∀ r ∈ H, r.length ≤ 100) ∧ okE ps H r) ?_ es H ⟨hH, hrows, ok⟩))
    intro H e r hP
    obtain ⟨hH, hrows, ⟨ox, olx, orl, orx, ohold, okeep⟩, okr⟩ := hP
    have hxr := rowAt_get (H := H) (x := e.x) (by omega)
    refine ⟨?_, by show (H.set _ _).length = 3; rw [List.length_set]; exact hH, ?_, okr⟩
    · have q := get_self (o := .lst (H.map rv)) hh
      generalize hK : hp.set h (.lst (H.map rv)) = K at q
      have i1 := itemsOf_ref q
      have i3 : itemsOf K (.tup (e.rs.map ltV)) = some (e.rs.map ltV) := rfl
      have z3 : (e.rs.map ltV).length ≤ lineMax := by rw [List.length_map]; exact Nat.le_trans orl (by decide)
      have k1 : cf (k + 2) 456 [.lst (ps.map prV), .tup (e.rs.map ltV)] K = some (.lst ((ps.filter (keepB e.rs)).map prV), K) := s456 rfl rfl rfl rfl (Nat.le_trans hps (by decide)) (Nat.le_trans orl (by decide)) (fun l hl => by have := orx l hl; omega)
      have k2 : cf (k + 2) 456 [.lst ((ps.filter (keepB e.rs)).map prV), .lst [ltV e.l]] K = some (.lst (((ps.filter (keepB e.rs)).filter (keepB [e.l])).map prV), K) := s456 (ls := [e.l]) rfl rfl rfl rfl (Nat.le_trans (List.length_filter_le _ _) (Nat.le_trans hps (by decide))) (Nat.le_of_ble_eq_true rfl) (fun l hl => by simp at hl; subst hl; omega)
      rw [okeep] at k2
      have c3 : cmpV K .NotEq (.lst ((ps.filter (keepB e.rs)).map prV)) (.lst ((ps.filter (keepB e.rs)).map prV)) = some false := by rw [cmpN_prs]; simp
      have g1 : subV K (.ref h) (.int e.x) = some (rv (rowAt H e.x)) := sub_at i1 (by rw [List.getElem?_map, hxr]; rfl) (by rw [List.length_map, hH]; decide)
      have hrl : (rowAt H e.x).length ≤ lineMax := Nat.le_trans (hrows _ (List.mem_of_getElem? hxr)) (by decide)
      have z4 : ((rowAt H e.x).map V.int).length ≤ lineMax := by rw [List.length_map]; exact hrl
      have w1 := set_at (x := e.x) (v := rv (nob e.l (rowAt H e.x))) q (by rw [List.length_map, hH]; decide) (by rw [List.length_map, hH]; exact ox)
      apply turn (env1 := [("entries", .lst (es.map fun e => entV e.ent)), ("pairs", .lst (ps.map prV)), ("own", .ref h), ("x", .int e.x), ("elder", dv e.old), ("literal", ltV e.l), ("reasons", .tup (e.rs.map ltV)), ("speaker", .int (-1))])
      · exact bindT_tup (l := [.int e.x, dv e.old, ltV e.l, .tup (e.rs.map ltV), .int (-1)]) rfl rfl rfl
      · apply xs_ifE
        · apply t_notT
          repeat tb_start
          · refine e_comp1 (src := .tup (e.rs.map ltV)) (g := ltV) e.rs (fun _ => true) (fun l => .bool (hold l (rowAt H l.x))) (fun l => [("own", .ref h), ("reason", ltV l)]) rfl ?_ rfl (Nat.le_trans orl (by decide)) (fun a _ => rfl) ?_ ?_
            · repeat tb_start
            · intro l _
              repeat tb_start
            · intro l hl _
              have hlx : l.x < H.length := by have := orx l hl; omega
              have hr := rowAt_get hlx
              repeat tb_start
              exact s446 i1 hr (by rw [hH]; decide) (Nat.le_trans (hrows _ (List.mem_of_getElem? hr)) (by decide))
          repeat tb_start
          rw [filter_true, show e.rs.map (fun l => V.bool (hold l (rowAt H l.x))) = (e.rs.map fun l => hold l (rowAt H l.x)).map .bool by rw [List.map_map]; rfl, blt_all]
          congr 2
          rw [List.all_eq_true]
          intro b hb
          obtain ⟨l, hl, rfl⟩ := List.mem_map.mp hb
          exact ohold l hl
        apply xs_ifE
        · repeat tb_start
        repeat tb_start
        · refine e_comp1 (src := rv (rowAt H e.x)) (g := V.int) (rowAt H e.x) (fun s => !bar e.l s) V.int (fun s => [("literal", ltV e.l), ("s", .int s)]) rfl ?_ rfl hrl (fun a _ => rfl) ?_ ?_
          · repeat tb_start
          · intro s _
            apply ts_one
            apply t_not
            repeat tb_start
            exact s436
          · intro s _ _
            repeat tb_start
        repeat tb_start
        · exact w1
        repeat tb_start
      · rfl
      · rw [← hK, List.set_set]
        show _ = hp.set h (.lst ((H.set e.x (nob e.l (rowAt H e.x))).map rv))
        rw [List.map_set]
      · rfl
    · intro r' hr'
      rcases List.mem_or_eq_of_mem_set hr' with h | h
      · exact hrows _ h
      · rw [h]; exact Nat.le_trans (List.length_filter_le _ _) (hrows _ (List.mem_of_getElem? hxr))
  repeat tb_start
theorem isEmpty_iff' {α : Type} {l : List α} : l.isEmpty = true ↔ l = [] := List.isEmpty_iff
theorem hold_iff {l : Lit} {r : List Int} : hold l r = true ↔ ∀ s ∈ r, bar l s = false := by
  rw [hold, isEmpty_iff', List.filter_eq_nil_iff]
  constructor
  · intro h s hs
    have := h s hs
    cases hb : bar l s
    · rfl
    · exact absurd hb this
  · intro h s hs; simp [h s hs]
theorem keepB_iff {ls : List Lit} {q : Int × Int} : keepB ls q = true ↔ ∀ l ∈ ls, bar l (sel l q) = false := by
  rw [keepB, isEmpty_iff', List.filter_eq_nil_iff]
  constructor
  · intro h s hs
    have := h s hs
    cases hb : bar s (sel s q)
    · rfl
    · exact absurd hb this
  · intro h s hs; simp [h s hs]
theorem bar_ge {x : Nat} {k s : Int} : bar ⟨x, .ge, k⟩ s = false ↔ k ≤ s := by
  show decide (s < k) = false ↔ _
  rw [decide_eq_false_iff_not]; omega
theorem bar_le {x : Nat} {k s : Int} : bar ⟨x, .le, k⟩ s = false ↔ s ≤ k := by
  show decide (k < s) = false ↔ _
  rw [decide_eq_false_iff_not]; omega
noncomputable def selN (x : Nat) (q : Int × Int) : Int := if x = 0 then q.1 else q.2
theorem sel_N (l : Lit) (q : Int × Int) : sel l q = selN l.x q := rfl
/-- the first two, either way round -/
noncomputable def Two (a b : Nat) : Prop := (a = 0 ∧ b = 1) ∨ (a = 1 ∧ b = 0)
theorem apart_iff {a b : Nat} (h : Two a b) (ls : List Int) (q : Int × Int) : apartB (lastOf ls 0) (lastOf ls 1) q.1 q.2 = true ↔ selN a q + lastOf ls a ≤ selN b q ∨ selN b q + lastOf ls b ≤ selN a q := by
  unfold apartB
  rw [Bool.or_eq_true, decide_eq_true_eq, decide_eq_true_eq]
  rcases h with ⟨rfl, rfl⟩ | ⟨rfl, rfl⟩
  · exact Iff.rfl
  · exact Or.comm
theorem mem_apart {r0 r1 : List Int} {l0 l1 : Int} {q : Int × Int} : q ∈ apartL r0 r1 l0 l1 ↔ q.1 ∈ r0 ∧ q.2 ∈ r1 ∧ apartB l0 l1 q.1 q.2 = true := by
  obtain ⟨s, t⟩ := q
  rw [apartL, List.mem_flatMap]
  constructor
  · rintro ⟨s', hs, h⟩
    obtain ⟨t', ht, e⟩ := List.mem_map.mp h
    (first | exact nos e | exact nof e | exact nos2 e | exact nof2 e | cases e)
    have := List.mem_filter.mp ht
    exact ⟨hs, this.1, this.2⟩
  · rintro ⟨h1, h2, h3⟩
    exact ⟨s, h1, List.mem_map.mpr ⟨t, List.mem_filter.mpr ⟨h2, h3⟩, rfl⟩⟩
noncomputable def apR (R : List (List Int)) (ls : List Int) : List (Int × Int) := apartL (rowAt R 0) (rowAt R 1) (lastOf ls 0) (lastOf ls 1)
theorem mem_apR {a b : Nat} (h : Two a b) {R : List (List Int)} {ls : List Int} {q : Int × Int} : q ∈ apR R ls ↔ selN a q ∈ rowAt R a ∧ selN b q ∈ rowAt R b ∧ (selN a q + lastOf ls a ≤ selN b q ∨ selN b q + lastOf ls b ≤ selN a q) := by
  rw [apR, mem_apart, apart_iff h]
  rcases h with ⟨rfl, rfl⟩ | ⟨rfl, rfl⟩
  · exact Iff.rfl
  · exact ⟨fun ⟨x, y, z⟩ => ⟨y, x, z⟩, fun ⟨x, y, z⟩ => ⟨y, x, z⟩⟩
noncomputable def mkQ (a : Nat) (s t : Int) : Int × Int := if a = 0 then (s, t) else (t, s)
theorem selN_mk {a b : Nat} (h : Two a b) (s t : Int) : selN a (mkQ a s t) = s ∧ selN b (mkQ a s t) = t := by
  rcases h with ⟨rfl, rfl⟩ | ⟨rfl, rfl⟩
  · exact ⟨rfl, rfl⟩
  · exact ⟨rfl, rfl⟩
theorem flat_same {α β : Type} {p : α → Bool} {f g : α → List β} : ∀ (l : List α), (∀ a ∈ l, p a = false → g a = []) → (∀ a ∈ l, f a = g a) → (l.filter p).flatMap f = l.flatMap g
  | [], _, _ => rfl
  | a :: r, h, h2 => by
    have ih := flat_same (p := p) (f := f) (g := g) r (fun b hb => h b (by simp [hb])) (fun b hb => h2 b (by simp [hb]))
    rw [List.filter_cons]
    cases hp : p a
    · rw [List.flatMap_cons, h a (by simp) hp, List.nil_append]; exact ih
    · rw [if_pos rfl, List.flatMap_cons, List.flatMap_cons, ih, h2 a (by simp)]
theorem apart_filter {r0 r1 : List Int} {p0 p1 : Int → Bool} {l0 l1 : Int} (h : ∀ s ∈ r0, ∀ t ∈ r1, apartB l0 l1 s t = true → p0 s = true ∧ p1 t = true) : apartL (r0.filter p0) (r1.filter p1) l0 l1 = apartL r0 r1 l0 l1 := by
  refine flat_same r0 ?_ ?_
  · intro s hs hp
    rw [List.map_eq_nil_iff, List.filter_eq_nil_iff]
    intro t ht hb
    have := (h s hs t ht hb).1
    rw [hp] at this; (first | exact nos this | exact nof this | exact nos2 this | exact nof2 this | cases this)
  · intro s hs
    congr 1
    rw [List.filter_filter]
    refine List.filter_congr fun t ht => ?_
    cases hb : apartB l0 l1 s t
    · rfl
    · rw [(h s hs t ht hb).2]; rfl
section
variable {a b : Nat} {R F : List (List Int)} {ra rb ls : List Int} {ha ta hb tb : Int}
theorem rowAt_set_eq {R : List (List Int)} {a : Nat} {x : List Int} (h : a < R.length) : rowAt (R.set a x) a = x := by
  rw [rowAt, List.getD_eq_getElem?_getD, List.getElem?_set_self h]; rfl
theorem rowAt_set_ne {R : List (List Int)} {a b : Nat} {x : List Int} (h : a ≠ b) : rowAt (R.set a x) b = rowAt R b := by
  rw [rowAt, rowAt, List.getD_eq_getElem?_getD, List.getD_eq_getElem?_getD, List.getElem?_set_ne h]
/-- some pair stays apart where the first can be ahead -/
theorem stands_A (h2 : Two a b) (hra : rowAt R a = ra) (hrb : rowAt R b = rb) (h1 : ha ∈ ra) (h3 : tb ∈ rb) (hc : ha + lastOf ls a ≤ tb) : apR R ls ≠ [] := by
  obtain ⟨e1, e2⟩ := selN_mk h2 ha tb
  refine List.ne_nil_of_mem (a := mkQ a ha tb) ((mem_apR h2).mpr ?_)
  rw [e1, e2, hra, hrb]
  exact ⟨h1, h3, .inl hc⟩
theorem stands_B (h2 : Two a b) (hra : rowAt R a = ra) (hrb : rowAt R b = rb) (hha : ∀ s ∈ ra, ha ≤ s) (htb : ∀ t ∈ rb, t ≤ tb) (hhb : ∀ t ∈ rb, hb ≤ t) (hc : ¬ ha + lastOf ls a ≤ tb) (hn : leftL ra hb (lastOf ls b) = []) : apR R ls = [] := by
  rw [List.eq_nil_iff_forall_not_mem]
  intro q hq
  obtain ⟨h1, h3, h4⟩ := (mem_apR h2).mp hq
  rw [hra] at h1; rw [hrb] at h3
  have g1 := hha _ h1
  have g2 := htb _ h3
  have g3 := hhb _ h3
  rcases h4 with h4 | h4
  · omega
  · have : selN a q ∈ leftL ra hb (lastOf ls b) := List.mem_filter.mpr ⟨h1, decide_eq_true (by omega)⟩
    rw [hn] at this
    exact absurd this (by simp)
theorem stands_C (h2 : Two a b) (hra : rowAt R a = ra) (hrb : rowAt R b = rb) (h1 : hb ∈ rb) {s : Int} (hs : s ∈ leftL ra hb (lastOf ls b)) : apR R ls ≠ [] := by
  obtain ⟨e1, e2⟩ := selN_mk h2 s hb
  have := List.mem_filter.mp hs
  refine List.ne_nil_of_mem (a := mkQ a s hb) ((mem_apR h2).mpr ?_)
  rw [e1, e2, hra, hrb]
  exact ⟨this.1, h1, .inr (of_decide_eq_true this.2)⟩
/-- the reasons of the first stroke -/
theorem rs1_hold (hra : rowAt R a = ra) (hrb : rowAt R b = rb) (hha : ∀ s ∈ ra, ha ≤ s) (htb : ∀ t ∈ rb, t ≤ tb) (hhb : ∀ t ∈ rb, hb ≤ t) (hc : ¬ ha + lastOf ls a ≤ tb) : ∀ l ∈ rs1 a b (lastOf ls a) hb tb, hold l (rowAt R l.x) = true := by
  intro l hl
  simp only [rs1, List.mem_cons, List.not_mem_nil, or_false] at hl
  rw [hold_iff]
  rcases hl with rfl | rfl | rfl <;> intro s hs
  · rw [hra] at hs
    have := hha s hs
    rw [bar_ge]; omega
  · rw [hrb] at hs
    have := htb s hs
    rw [bar_le]; omega
  · rw [hrb] at hs
    have := hhb s hs
    rw [bar_ge]; omega
theorem rs2_hold {left : List Int} {hx tx : Int} (hra : rowAt R a = left) (hrb : rowAt R b = rb) (hla : ∀ s ∈ left, ha ≤ s) (htb : ∀ t ∈ rb, t ≤ tb) (hhx : ∀ s ∈ left, hx ≤ s) (hhm : hx ∈ left) (htx : ∀ s ∈ left, s ≤ tx) (hc : ¬ ha + lastOf ls a ≤ tb) : ∀ l ∈ rs2 a b (lastOf ls a) hx tx, hold l (rowAt R l.x) = true := by
  intro l hl
  simp only [rs2, List.mem_cons, List.not_mem_nil, or_false] at hl
  rw [hold_iff]
  rcases hl with rfl | rfl | rfl <;> intro s hs
  · rw [hrb] at hs
    have := htb s hs
    have := hla hx hhm
    rw [bar_le]; omega
  · rw [hra] at hs
    have := hhx s hs
    rw [bar_ge]; omega
  · rw [hra] at hs
    have := htx s hs
    rw [bar_le]; omega
theorem keep_rs1 (h2 : Two a b) {q : Int × Int} (h : keepB (rs1 a b (lastOf ls a) hb tb) q = true) : tb - lastOf ls a + 1 ≤ selN a q ∧ selN b q ≤ tb ∧ hb ≤ selN b q := by
  rw [keepB_iff] at h
  have h1 := h ⟨a, .ge, tb - lastOf ls a + 1⟩ (by simp [rs1])
  have h3 := h ⟨b, .le, tb⟩ (by simp [rs1])
  have h4 := h ⟨b, .ge, hb⟩ (by simp [rs1])
  rw [bar_ge] at h1 h4
  rw [bar_le] at h3
  exact ⟨h1, h3, h4⟩
theorem keep_rs2 (h2 : Two a b) {hx tx : Int} {q : Int × Int} (h : keepB (rs2 a b (lastOf ls a) hx tx) q = true) : selN b q ≤ hx + lastOf ls a - 1 ∧ hx ≤ selN a q ∧ selN a q ≤ tx := by
  rw [keepB_iff] at h
  have h1 := h ⟨b, .le, hx + lastOf ls a - 1⟩ (by simp [rs2])
  have h3 := h ⟨a, .ge, hx⟩ (by simp [rs2])
  have h4 := h ⟨a, .le, tx⟩ (by simp [rs2])
  rw [bar_le] at h1 h4
  rw [bar_ge] at h3
  exact ⟨h1, h3, h4⟩
theorem keepB_one {l : Lit} {q : Int × Int} : keepB [l] q = true ↔ bar l (selN l.x q) = false := by
  rw [keepB_iff]
  constructor
  · intro h; exact h l (by simp)
  · intro h l' hl'; simp at hl'; subst hl'; exact h
theorem force1 (h2 : Two a b) : ((apR F ls).filter (keepB (rs1 a b (lastOf ls a) hb tb))).filter (keepB [⟨a, .ge, hb + lastOf ls b⟩]) = (apR F ls).filter (keepB (rs1 a b (lastOf ls a) hb tb)) := by
  rw [List.filter_eq_self]
  intro q hq
  obtain ⟨hq1, hq2⟩ := List.mem_filter.mp hq
  obtain ⟨_, _, h3⟩ := (mem_apR h2).mp hq1
  obtain ⟨g1, g2, g3⟩ := keep_rs1 h2 hq2
  rw [keepB_one, bar_ge]
  show _ ≤ selN a q
  omega
theorem force2 (h2 : Two a b) {hx tx : Int} : ((apR F ls).filter (keepB (rs2 a b (lastOf ls a) hx tx))).filter (keepB [⟨b, .le, tx - lastOf ls b⟩]) = (apR F ls).filter (keepB (rs2 a b (lastOf ls a) hx tx)) := by
  rw [List.filter_eq_self]
  intro q hq
  obtain ⟨hq1, hq2⟩ := List.mem_filter.mp hq
  obtain ⟨_, _, h3⟩ := (mem_apR h2).mp hq1
  obtain ⟨g1, g2, g3⟩ := keep_rs2 h2 hq2
  rw [keepB_one, bar_le]
  show selN b q ≤ _
  omega
theorem clash_none (h2 : Two a b) : (apR F ls).filter (keepB (rs1 a b (lastOf ls a) hb tb ++ [⟨a, .le, hb + lastOf ls b - 1⟩])) = [] := by
  rw [List.filter_eq_nil_iff]
  intro q hq hk
  obtain ⟨_, _, h3⟩ := (mem_apR h2).mp hq
  rw [keepB_iff] at hk
  obtain ⟨g1, g2, g3⟩ := keep_rs1 (ls := ls) (hb := hb) (tb := tb) h2 (q := q) (keepB_iff.mpr fun l hl => hk l (by simp [hl]))
  have g4 := hk ⟨a, .le, hb + lastOf ls b - 1⟩ (by simp)
  rw [bar_le] at g4
  have g5 : selN a q ≤ hb + lastOf ls b - 1 := g4
  omega
theorem clash_hold (hra : rowAt R a = ra) (hrb : rowAt R b = rb) (hha : ∀ s ∈ ra, ha ≤ s) (htb : ∀ t ∈ rb, t ≤ tb) (hhb : ∀ t ∈ rb, hb ≤ t) (hc : ¬ ha + lastOf ls a ≤ tb) (hn : leftL ra hb (lastOf ls b) = []) : ∀ l ∈ rs1 a b (lastOf ls a) hb tb ++ [⟨a, .le, hb + lastOf ls b - 1⟩], hold l (rowAt R l.x) = true := by
  intro l hl
  rcases List.mem_append.mp hl with hl | hl
  · exact rs1_hold hra hrb hha htb hhb hc l hl
  · simp at hl; subst hl
    rw [hold_iff]
    intro s hs
    rw [show rowAt R a = ra from hra] at hs
    rw [bar_le]
    have := List.filter_eq_nil_iff.mp hn s hs
    simp at this
    omega
/-- the pairs that are apart stay -/
theorem same_apart (h2 : Two a b) (hR : R.length = 3) (hra : rowAt R a = ra) (hrb : rowAt R b = rb) (hha : ∀ s ∈ ra, ha ≤ s) (htb : ∀ t ∈ rb, t ≤ tb) (hhb : ∀ t ∈ rb, hb ≤ t) (hc : ¬ ha + lastOf ls a ≤ tb) {left : List Int} (hleft : left = leftL ra hb (lastOf ls b))
    {tx : Int} (htx : left.getLast? = some tx) (htxm : ∀ s ∈ left, s ≤ tx) : apR ((R.set a left).set b (rightL left rb (lastOf ls b))) ls = apR R ls := by
  have key : ∀ s ∈ ra, ∀ t ∈ rb, (s + lastOf ls a ≤ t ∨ t + lastOf ls b ≤ s) → decide (hb + lastOf ls b ≤ s) = true ∧ rightB left (lastOf ls b) t = true := by
    intro s hs t ht h
    have g1 := hha s hs
    have g2 := htb t ht
    have g3 := hhb t ht
    have g4 : hb + lastOf ls b ≤ s := by omega
    have hsl : s ∈ left := by rw [hleft]; exact List.mem_filter.mpr ⟨hs, decide_eq_true g4⟩
    have := htxm s hsl
    refine ⟨decide_eq_true g4, ?_⟩
    rw [rightB, htx]
    exact decide_eq_true (by omega)
  unfold apR
  rcases h2 with ⟨rfl, rfl⟩ | ⟨rfl, rfl⟩
  · rw [rowAt_set_ne (by decide), rowAt_set_eq (by omega), rowAt_set_eq (by rw [List.length_set]; omega), hra, hrb, hleft]
    rw [← hleft]
    show apartL left (rb.filter (rightB left (lastOf ls 1))) _ _ = _
    rw [hleft, leftL, ← leftL, ← hleft]
    have e : left = ra.filter fun s => decide (hb + lastOf ls 1 ≤ s) := hleft
    rw [show apartL left (rb.filter (rightB left (lastOf ls 1))) (lastOf ls 0) (lastOf ls 1) = apartL (ra.filter fun s => decide (hb + lastOf ls 1 ≤ s)) (rb.filter (rightB left (lastOf ls 1))) (lastOf ls 0) (lastOf ls 1) by rw [← e]]
    refine apart_filter fun s hs t ht h => key s hs t ht ?_
    unfold apartB at h
    rw [Bool.or_eq_true, decide_eq_true_eq, decide_eq_true_eq] at h
    exact h
  · rw [rowAt_set_eq (by rw [List.length_set]; omega), rowAt_set_ne (by decide), rowAt_set_eq (by omega), hra, hrb]
    have e : left = ra.filter fun s => decide (hb + lastOf ls 0 ≤ s) := hleft
    rw [show apartL (rightL left rb (lastOf ls 0)) left (lastOf ls 0) (lastOf ls 1) = apartL (rb.filter (rightB left (lastOf ls 0))) (ra.filter fun s => decide (hb + lastOf ls 0 ≤ s)) (lastOf ls 0) (lastOf ls 1) by rw [← e]; rfl]
    refine apart_filter fun s hs t ht h => ?_
    unfold apartB at h
    rw [Bool.or_eq_true, decide_eq_true_eq, decide_eq_true_eq] at h
    exact (key t ht s hs h.symm).symm
end
section
variable {k : Nat} {hp hp' : Hp} {m nw a b : Nat} {R F : List (List Int)} {tr : List Ent} {mk : List Nat} {fl : Bool} {cl : List V} {ra rb ls : List Int} {ha ta hb tb : Int}
theorem SH.app (S : SH hp m nw R F tr mk fl cl) (o : AO) : SH (hp ++ [o]) m nw R F tr mk fl cl := by
  obtain ⟨j, h1, h2⟩ := S.an
  exact ⟨get_app S.a2, get_app S.a3, get_app S.a4, get_app S.a5, get_app S.am, ⟨j, get_app h1, h2⟩, S.mok, S.nok, S.mn⟩
theorem SH.set (S : SH hp m nw R F tr mk fl cl) {i : Nat} {o : AO} (h2 : i ≠ 2) (h3 : i ≠ 3) (h4 : i ≠ 4) (h5 : i ≠ 5) (hm : i ≠ m) (hn : i ≠ nw) : SH (hp.set i o) m nw R F tr mk fl cl := by
  obtain ⟨j, e1, e2⟩ := S.an
  exact ⟨get_set S.a2 h2, get_set S.a3 h3, get_set S.a4 h4, get_set S.a5 h5, get_set S.am hm, ⟨j, get_set e1 hn, e2⟩, S.mok, S.nok, S.mn⟩
structure Keep2 (o m nw : Nat) (hp hp' : Hp) : Prop where
  len : hp.length ≤ hp'.length
  at' : ∀ i, i ≠ 2 → i ≠ 3 → i ≠ 5 → i ≠ m → i ≠ nw → i ≠ o → i < hp.length → hp'[i]? = hp[i]?
theorem Keep2.trans {o m nw : Nat} {hp hp' hp'' : Hp} (a : Keep2 o m nw hp hp') (b : Keep2 o m nw hp' hp'') : Keep2 o m nw hp hp'' :=
  ⟨Nat.le_trans a.len b.len, fun i h1 h2 h3 h4 h5 h7 h6 => (b.at' i h1 h2 h3 h4 h5 h7 (Nat.lt_of_lt_of_le h6 a.len)).trans (a.at' i h1 h2 h3 h4 h5 h7 h6)⟩
theorem Keep2.of {o m nw : Nat} {hp hp' : Hp} (a : Keep m nw hp hp') : Keep2 o m nw hp hp' := ⟨a.len, fun i h1 h2 h3 h4 h5 _ h6 => a.at' i h1 h2 h3 h4 h5 h6⟩
theorem Keep2.app {o m nw : Nat} {hp : Hp} (x : AO) : Keep2 o m nw hp (hp ++ [x]) := ⟨by simp, fun i _ _ _ _ _ _ h6 => by rw [List.getElem?_append_left h6]⟩
theorem Keep2.set {o m nw j : Nat} {hp : Hp} {x : AO} (h : j = 2 ∨ j = 3 ∨ j = 5 ∨ j = m ∨ j = nw ∨ j = o) : Keep2 o m nw hp (hp.set j x) :=
  ⟨by simp, fun i h1 h2 h3 h4 h5 h7 h6 => List.getElem?_set_ne fun (e : j = i) => h.elim (fun q => h1 (e.symm.trans q)) fun h => h.elim (fun q => h2 (e.symm.trans q)) fun h => h.elim (fun q => h3 (e.symm.trans q)) fun h => h.elim (fun q => h4 (e.symm.trans q)) fun h => h.elim (fun q => h5 (e.symm.trans q)) fun q => h7 (e.symm.trans q)⟩
theorem Keep2.get {o m nw i : Nat} {hp hp' : Hp} {x : AO} (a : Keep2 o m nw hp hp') (h : hp[i]? = some x) (h1 : i ≠ 2) (h2 : i ≠ 3) (h3 : i ≠ 5) (h4 : i ≠ m) (h5 : i ≠ nw) (h6 : i ≠ o) : hp'[i]? = some x := by
  rw [a.at' i h1 h2 h3 h4 h5 h6 (List.getElem?_eq_some_iff.mp h).1]; exact h
/-- a cell that was not there at first may be set -/
theorem Keep2.setNew {o m nw j : Nat} {hp0 hp : Hp} {x : AO} (a : Keep2 o m nw hp0 hp) (h : hp0.length ≤ j) : Keep2 o m nw hp0 (hp.set j x) :=
  ⟨by simpa using a.len, fun i h1 h2 h3 h4 h5 h7 h6 => by rw [List.getElem?_set_ne (by omega)]; exact a.at' i h1 h2 h3 h4 h5 h7 h6⟩

theorem xs_tup2 {cx : Cx} {Φ : Call} {n : Nat} {sc : Nm} {env : En} {hp hp1 hp2 hp3 : Hp} {p p1 : Pos} {t1 t2 : Expr} {k : Nat} {e : Expr} {v1 v2 : V} {r : List Stmt} {R : Option (Fl × En × Hp)} (hs : swapOk e = true) (h : evM cx Φ n sc e env hp = some (.tup [v1, v2], hp1)) (ht : tgtNames [t1, t2] = none) (h1 : asT cx Φ n sc t1 v1 env hp1 = some hp2) (h2 : asT cx Φ n sc t2 v2 env hp2 = some hp3)
    (h3 : exSs cx Φ (n + 1) sc r env hp3 = R) : exSs cx Φ (n + 2) sc (.Assign [.Tuple [t1, t2] k p] e p1 :: r) env hp = R := x_next (s_tup2 hs h ht h1 h2) h3
theorem asT_sub {cx : Cx} {Φ : Call} {n : Nat} {sc : Nm} {env : En} {hp hp2 hp3 hp4 : Hp} {p : Pos} {o i : Expr} {v ov iv : V} (ho : evE cx Φ n sc o env hp = some (ov, hp2)) (hi : evE cx Φ n sc i env hp2 = some (iv, hp3)) (h2 : setSub hp3 ov iv v = some hp4) : asT cx Φ n sc (.Subscript o i p) v env hp = some hp4 := by
  show (evE cx Φ n sc o env hp).bind _ = _
  rw [ho]
  show (evE cx Φ n sc i env hp2).bind _ = _
  rw [hi]; exact h2
theorem dom_ok (S : SH hp m nw R F tr mk fl cl) {x : Nat} (hR : R.length = 3) (hx : x < 3) : cf (k + 1) 172 [.obj 287 2, .int x] hp = some (dv (fv (rowAt R x)), hp) :=
  s172 S.a2 S.a3 (by rw [List.getElem?_map, rowAt_get (by omega)]; rfl) (by rw [List.length_map, hR]; decide)
theorem rows_range (hR : R.length = 3) : (List.range 3).map (fun x => fv (rowAt R x)) = R.map fv := by
  match R, hR with
  | [a, b, c], _ => rfl
theorem ap_len (hok : ∀ r ∈ R, RowOK r) (hR : R.length = 3) : (apR R ls).length ≤ 25 := by
  have h0 := (hok _ (List.mem_of_getElem? (rowAt_get (H := R) (x := 0) (by omega)))).len
  have h1 := (hok _ (List.mem_of_getElem? (rowAt_get (H := R) (x := 1) (by omega)))).len
  refine Nat.le_trans (flat_len (m := 5) _ fun s _ => ?_) (Nat.mul_le_mul h0 (Nat.le_refl 5))
  rw [List.length_map]
  exact Nat.le_trans (List.length_filter_le _ _) h1
theorem apart_ok {ov : V} (ho : itemsOf hp ov = some (R.map rv)) (h1 : hp[1]? = some (.lst (ls.map .int))) (hl : ls.length = 3) (hR : R.length = 3) (hok : ∀ r ∈ R, r.length ≤ 5) : cf (k + 1) 451 [ov, .ref 1] hp = some (.lst ((apR R ls).map prV), hp) := by
  have g : ∀ x < 3, ls[x]? = some (lastOf ls x) := fun x hx => by rw [lastOf, List.getD_eq_getElem?_getD, List.getElem?_eq_getElem (by omega)]; rfl
  have r0 := rowAt_get (H := R) (x := 0) (by omega)
  have r1 := rowAt_get (H := R) (x := 1) (by omega)
  exact s451 ho r0 r1 (by rw [hR]; decide) (itemsOf_ref h1) (g 0 (by decide)) (g 1 (by decide)) (by rw [hl]; decide) (Nat.le_trans (hok _ (List.mem_of_getElem? r0)) (by decide)) (Nat.le_trans (hok _ (List.mem_of_getElem? r1)) (by decide))
theorem doms_lst (hR : R.length = 3) : ((List.range 3).filter fun _ => true).map (fun x => dv (fv (rowAt R x))) = (R.map fv).map dv := by
  rw [filter_true, ← rows_range hR, List.map_map]; rfl
theorem doms_lst2 : (R.filter fun _ => true).map (fun r => dv (fv r)) = (R.map fv).map dv := by
  rw [filter_true, List.map_map]; rfl
theorem doms_eq (hR : R.length = 3) : cmpV hp .Eq (.lst (((List.range 3).filter fun _ => true).map fun x => dv (fv (rowAt R x)))) (.lst ((R.filter fun _ => true).map fun r => dv (fv r))) = some true := by
  rw [doms_lst hR, doms_lst2, cmp_dvs, decide_eq_true rfl]
theorem domsN_eq (hR : R.length = 3) : cmpV hp .NotEq (.lst (((List.range 3).filter fun _ => true).map fun x => dv (fv (rowAt R x)))) (.lst ((R.filter fun _ => true).map fun r => dv (fv r))) = some false := by
  rw [doms_lst hR, doms_lst2, cmpN_dvs, decide_eq_true rfl]; rfl
theorem cmpN_bool {x y : Bool} : cmpV hp .NotEq (.bool x) (.bool y) = some (!(x == y)) := rfl
theorem cmp_bool {x y : Bool} : cmpV hp .Eq (.bool x) (.bool y) = some (x == y) := rfl
theorem slice_from {i n : Nat} {l : List V} (hl : l.length ≤ lineMax) : sliceV (.ref i) (some (n : Int)) none l = some (l.drop n) := by
  show (if 0 ≤ (n : Int) ∧ l.length ≤ lineMax then some (l.drop (n : Int).toNat) else none) = _
  rw [if_pos ⟨by omega, hl⟩]; rfl
theorem rows_set {R : List (List Int)} (hok : ∀ r ∈ R, RowOK r) {x : Nat} {r' : List Int} (h : RowOK r') : ∀ r ∈ R.set x r', RowOK r := by
  intro r hr
  rcases List.mem_or_eq_of_mem_set hr with h' | h'
  · exact hok r h'
  · rw [h']; exact h
end
section
variable {k : Nat} {hp : Hp} {m nw o a b : Nat} {R F : List (List Int)} {tr : List Ent} {mk : List Nat} {cl : List V} {ls : List Int}
/-- the lap's question, where a pair stands -/
theorem led_T {da db : List Int} {les : List LE} {H2 : Hp} (S : SH hp m nw R F tr mk false cl) (h9 : hp[9]? = some (.ins (taskF ls))) (h1 : hp[1]? = some (.lst (ls.map .int))) (ho : hp[o]? = some (.lst (R.map rv))) (o10 : 10 ≤ o) (om : o ≠ m) (on : o ≠ nw) (hl : ls.length = 3) (hR : R.length = 3) (hF : F.length = 3)
    (okR : ∀ r ∈ R, RowOK r) (okF : ∀ r ∈ F, RowOK r) (h2 : Two a b) (htr : tr.length ≤ 140) (hst : apR R ls ≠ [])
    (p2 : cf (k + 6) 461 [.ref o, .ref 1, .int a, .int b] hp = some (.tup [rv da, rv db], hp)) (p4 : cf (k + 6) 368 [.obj 420 9, .obj 287 2, .int a, .int b] (hp ++ [.lst (R.map rv)]) = some (.bool true, H2))
    (S2 : SH H2 m nw ((R.set a da).set b db) F (tr ++ les.map LE.ent) mk false cl) (K2 : Keep m nw (hp ++ [.lst (R.map rv)]) H2) (hles : les.length ≤ 2) (okles : okE (apR F ls) R les) (okR' : ∀ r ∈ (R.set a da).set b db, RowOK r) (hap : apR ((R.set a da).set b db) ls = apR R ls) :
    ∃ hp', cf (k + 7) 471 [.obj 420 9, .obj 287 2, .ref 1, .lst (F.map rv), .ref o, .int a, .int b] hp = some (.bool true, hp') ∧ SH hp' m nw ((R.set a da).set b db) F (tr ++ les.map LE.ent) mk false cl ∧ hp'[o]? = some (.lst (((R.set a da).set b db).map rv)) ∧ Keep2 o m nw hp hp' := by
  have ha3 : a < 3 := by rcases h2 with ⟨rfl, rfl⟩ | ⟨rfl, rfl⟩ <;> decide
  have hb3 : b < 3 := by rcases h2 with ⟨rfl, rfl⟩ | ⟨rfl, rfl⟩ <;> decide
  have ol := (List.getElem?_eq_some_iff.mp ho).1
  have mok := S.mok
  have nok := S.nok
  have ml := (List.getElem?_eq_some_iff.mp S.am).1
  obtain ⟨j0, hj0, _⟩ := S.an
  have nl := (List.getElem?_eq_some_iff.mp hj0).1
  have p1 := apart_ok (k := k + 5) (hp := hp) (ov := .lst (F.map rv)) (R := F) rfl h1 hl hF (fun r hr => (okF r hr).len)
  have tl : (tr.map entV).length ≤ lineMax := by rw [List.length_map]; unfold lineMax; omega
  have p0 := blt_len (itemsOf_ref S.a5) tl
  rw [List.length_map] at p0
  have i0 := itemsOf_ref ho
  have z0 : (R.map rv).length ≤ lineMax := by rw [List.length_map, hR]; decide
  obtain ⟨H1, hH1⟩ : ∃ H1, H1 = hp ++ [.lst (R.map rv)] := ⟨_, rfl⟩
  rw [← hH1] at p4 K2
  have S1 : SH H1 m nw R F tr mk false cl := by rw [hH1]; exact S.app _
  have q9 : H1[9]? = some (.ins (taskF ls)) := by rw [hH1]; exact get_app h9
  have q1 : H1[1]? = some (.lst (ls.map .int)) := by rw [hH1]; exact get_app h1
  have qo : H1[o]? = some (.lst (R.map rv)) := by rw [hH1]; exact get_app ho
  have qh : H1[hp.length]? = some (.lst (R.map rv)) := by rw [hH1]; exact hget_last
  have p3 := apart_ok (k := k + 5) (itemsOf_ref qo) q1 hl hR (fun r hr => (okR r hr).len)
  have c1 : cmpV H1 .NotEq (.lst ((apR R ls).map prV)) (.lst []) = some true := by
    rw [cmpN_nil]
    cases hq : apR R ls with
    | nil => exact absurd hq hst
    | cons _ _ => rfl
  have r9 := K2.get q9 (by decide) (by decide) (by decide) (by omega) (by omega)
  have r1 := K2.get q1 (by decide) (by decide) (by decide) (by omega) (by omega)
  have ro := K2.get qo (by omega) (by omega) (by omega) om on
  have hh2 : hp.length ≠ 2 := by omega
  have rh := K2.get qh (by omega) (by omega) (by omega) (by omega) (by omega)
  have tl2 : ((tr ++ les.map LE.ent).map entV).length ≤ lineMax := by simp; unfold lineMax; omega
  have c2 : sliceV (.ref 5) (some (tr.length : Int)) none ((tr ++ les.map LE.ent).map entV) = some (les.map fun e => entV e.ent) := by
    rw [slice_from tl2, List.map_append, List.drop_left' (by simp), List.map_map]; rfl
  have i5 := itemsOf_ref S2.a5
  have p5 := s466 (k := k + 3) (ps := apR F ls) rh (Nat.le_trans (ap_len okF hF) (by decide)) (by omega) hR (fun r hr => Nat.le_trans (okR r hr).len (by decide)) okles
  obtain ⟨H3, hH3⟩ : ∃ H3, H3 = H2.set hp.length (.lst ((les.foldl stepE R).map rv)) := ⟨_, rfl⟩
  rw [← hH3] at p5
  have S3 : SH H3 m nw ((R.set a da).set b db) F (tr ++ les.map LE.ent) mk false cl := by rw [hH3]; exact S2.set (by omega) (by omega) (by omega) (by omega) (by omega) (by omega)
  have t1 : H3[1]? = some (.lst (ls.map .int)) := by rw [hH3]; exact get_set r1 (by omega)
  have to : H3[o]? = some (.lst (R.map rv)) := by rw [hH3]; exact get_set ro (by omega)
  have p6 := apart_ok (k := k + 5) (itemsOf_ref to) t1 hl hR (fun r hr => (okR r hr).len)
  have w1 := set_at (x := a) (v := rv da) to z0 (by rw [List.length_map, hR]; exact ha3)
  obtain ⟨H4, hH4⟩ : ∃ H4, H4 = H3.set o (.lst ((R.map rv).set a (rv da))) := ⟨_, rfl⟩
  rw [← hH4] at w1
  have uo : H4[o]? = some (.lst ((R.map rv).set a (rv da))) := by rw [hH4]; exact get_self to
  have w2 := set_at (x := b) (v := rv db) uo (by rw [List.length_set]; exact z0) (by rw [List.length_set, List.length_map, hR]; exact hb3)
  obtain ⟨H5, hH5⟩ : ∃ H5, H5 = H4.set o (.lst (((R.map rv).set a (rv da)).set b (rv db))) := ⟨_, rfl⟩
  rw [← hH5] at w2
  have S4 : SH H4 m nw ((R.set a da).set b db) F (tr ++ les.map LE.ent) mk false cl := by rw [hH4]; exact S3.set (by omega) (by omega) (by omega) (by omega) (by omega) (by omega)
  have S5 : SH H5 m nw ((R.set a da).set b db) F (tr ++ les.map LE.ent) mk false cl := by rw [hH5]; exact S4.set (by omega) (by omega) (by omega) (by omega) (by omega) (by omega)
  have eR : ((R.map rv).set a (rv da)).set b (rv db) = ((R.set a da).set b db).map rv := by rw [List.map_set, List.map_set]
  have vo : H5[o]? = some (.lst (((R.set a da).set b db).map rv)) := by rw [hH5, ← eR]; exact get_self uo
  have v1 : H5[1]? = some (.lst (ls.map .int)) := by rw [hH5, hH4]; exact get_set (get_set t1 (by omega)) (by omega)
  have hR' : ((R.set a da).set b db).length = 3 := by rw [List.length_set, List.length_set]; exact hR
  have p7 := apart_ok (k := k + 5) (itemsOf_ref vo) v1 hl hR' (fun r hr => (okR' r hr).len)
  rw [hap] at p7
  have c3 : cmpV H5 .Eq (.lst ((apR R ls).map prV)) (.lst ((apR R ls).map prV)) = some true := by rw [cmp_prs]; simp
  have iV := itemsOf_ref vo
  have zV : (((R.set a da).set b db).map rv).length ≤ lineMax := by rw [List.length_map, hR']; decide
  have K5 : Keep2 o m nw hp H5 := by
    have k1 : Keep2 o m nw hp H2 := (by rw [hH1] at K2; exact (Keep2.app _).trans (Keep2.of K2))
    have k2 : Keep2 o m nw hp H3 := by rw [hH3]; exact k1.setNew (Nat.le_refl _)
    rw [hH5, hH4]
    exact (k2.trans (Keep2.set (by simp))).trans (Keep2.set (by simp))
  refine ⟨H5, ?_, S5, vo, K5⟩
  subst hH1
  apply cf_ret (mkFn 471 (topAt 33) false) (by decide) rfl rfl rfl
  show exSs _ _ 60 _ (_ :: _) [("task", _), ("store", _), ("lasts", _), ("firsts", _), ("own", _), ("a", _), ("b", _)] _ = _
  have a2 := S.a2
  have b2 := S2.a2
  have d2 := S3.a2
  have e2 := S5.a2
  repeat tb_start
  · apply M_list rfl
    repeat tb_start
    · intro l h; cases h
    repeat tb_start
  repeat tb_start
  apply xs_ifE
  · apply t_orF
    · repeat tb_start
    repeat tb_start
  repeat tb_start
  apply xs_ifE
  · apply t_notT
    repeat tb_start
  repeat tb_start
  apply xs_ifE
  · apply t_notT
    repeat tb_start
  repeat tb_start
  apply xs_tup2 (v1 := rv da) (v2 := rv db) rfl
  repeat tb_start
  · apply asT_sub
    repeat tb_start
  · apply asT_sub
    repeat tb_start
  repeat tb_start
  apply e_andT
  repeat tb_start
  · refine e_comp1 (src := .none) (g := fun (i : Nat) => V.int i) (List.range 3) (fun _ => true) (fun (i : Nat) => dv (fv (rowAt ((R.set a da).set b db) i))) (fun (i : Nat) => [("store", .obj 287 2), ("k", .int i)]) rfl ?_ rfl (by decide) (fun a _ => rfl) ?_ ?_
    · apply i_range rfl (k := 3)
      repeat tb_start
      decide
    · intro i _
      repeat tb_start
    · intro i hi _
      have hd := dom_ok (k := k + 5) S5 (x := i) hR' (by simpa using hi)
      repeat tb_start
  repeat tb_start
  · refine e_comp1 (src := .ref o) (g := rv) ((R.set a da).set b db) (fun _ => true) (fun r => dv (fv r)) (fun r => [("row", rv r)]) rfl ?_ ?_ (by rw [hR']; decide) (fun a _ => rfl) ?_ ?_
    · repeat tb_start
    · exact stands_ref vo
    · intro r _
      repeat tb_start
    · intro r hr _
      have hd := s64 (k := k + 4) (hp := H5) (okR' r hr).asc (Nat.le_trans (okR' r hr).len (by decide))
      repeat tb_start
  · exact doms_eq hR'
  repeat tb_start
end
section
variable {k : Nat} {hp : Hp} {m nw o a b : Nat} {R F : List (List Int)} {tr : List Ent} {mk : List Nat} {cl : List V} {ls : List Int}
/-- the lap's question, where no pair stands -/
theorem led_F {da db : List Int} {clash : List Lit} {H2 : Hp} (S : SH hp m nw R F tr mk false cl) (h9 : hp[9]? = some (.ins (taskF ls))) (h1 : hp[1]? = some (.lst (ls.map .int))) (ho : hp[o]? = some (.lst (R.map rv))) (o10 : 10 ≤ o) (om : o ≠ m) (on : o ≠ nw) (hl : ls.length = 3) (hR : R.length = 3) (hF : F.length = 3)
    (okR : ∀ r ∈ R, RowOK r) (okF : ∀ r ∈ F, RowOK r) (h2 : Two a b) (htr : tr.length ≤ 140) (hst : apR R ls = [])
    (p2 : cf (k + 6) 461 [.ref o, .ref 1, .int a, .int b] hp = some (.tup [rv da, rv db], hp)) (p4 : cf (k + 6) 368 [.obj 420 9, .obj 287 2, .int a, .int b] (hp ++ [.lst (R.map rv)]) = some (.bool false, H2))
    (S2 : SH H2 m nw R F tr mk true (clash.map ltV)) (K2 : Keep m nw (hp ++ [.lst (R.map rv)]) H2) (hcl : clash.length ≤ 100) (hcx : ∀ l ∈ clash, l.x < 2) (hch : ∀ l ∈ clash, hold l (rowAt R l.x) = true) (hcn : (apR F ls).filter (keepB clash) = []) :
    ∃ hp', cf (k + 7) 471 [.obj 420 9, .obj 287 2, .ref 1, .lst (F.map rv), .ref o, .int a, .int b] hp = some (.bool true, hp') ∧ SH hp' m nw R F tr mk true (clash.map ltV) ∧ hp'[o]? = some (.lst (R.map rv)) ∧ Keep2 o m nw hp hp' := by
  have ha3 : a < 3 := by rcases h2 with ⟨rfl, rfl⟩ | ⟨rfl, rfl⟩ <;> decide
  have hb3 : b < 3 := by rcases h2 with ⟨rfl, rfl⟩ | ⟨rfl, rfl⟩ <;> decide
  have ol := (List.getElem?_eq_some_iff.mp ho).1
  have mok := S.mok
  have nok := S.nok
  have ml := (List.getElem?_eq_some_iff.mp S.am).1
  obtain ⟨j0, hj0, _⟩ := S.an
  have nl := (List.getElem?_eq_some_iff.mp hj0).1
  have p1 := apart_ok (k := k + 5) (hp := hp) (ov := .lst (F.map rv)) (R := F) rfl h1 hl hF (fun r hr => (okF r hr).len)
  have tl : (tr.map entV).length ≤ lineMax := by rw [List.length_map]; unfold lineMax; omega
  have p0 := blt_len (itemsOf_ref S.a5) tl
  rw [List.length_map] at p0
  have i0 := itemsOf_ref ho
  have z0 : (R.map rv).length ≤ lineMax := by rw [List.length_map, hR]; decide
  obtain ⟨H1, hH1⟩ : ∃ H1, H1 = hp ++ [.lst (R.map rv)] := ⟨_, rfl⟩
  rw [← hH1] at p4 K2
  have S1 : SH H1 m nw R F tr mk false cl := by rw [hH1]; exact S.app _
  have q9 : H1[9]? = some (.ins (taskF ls)) := by rw [hH1]; exact get_app h9
  have q1 : H1[1]? = some (.lst (ls.map .int)) := by rw [hH1]; exact get_app h1
  have qo : H1[o]? = some (.lst (R.map rv)) := by rw [hH1]; exact get_app ho
  have qh : H1[hp.length]? = some (.lst (R.map rv)) := by rw [hH1]; exact hget_last
  have p3 := apart_ok (k := k + 5) (itemsOf_ref qo) q1 hl hR (fun r hr => (okR r hr).len)
  have c1 : cmpV H1 .NotEq (.lst ((apR R ls).map prV)) (.lst []) = some false := by
    rw [cmpN_nil, hst]; rfl
  have r9 := K2.get q9 (by decide) (by decide) (by decide) (by omega) (by omega)
  have r1 := K2.get q1 (by decide) (by decide) (by decide) (by omega) (by omega)
  have ro := K2.get qo (by omega) (by omega) (by omega) om on
  have hh2 : hp.length ≠ 2 := by omega
  have rh := K2.get qh (by omega) (by omega) (by omega) (by omega) (by omega)
  have c2 : sliceV (.ref 5) (some (tr.length : Int)) none (tr.map entV) = some (([] : List LE).map fun e => entV e.ent) := by
    rw [slice_from tl, List.drop_of_length_le (by simp)]; rfl
  have i5 := itemsOf_ref S2.a5
  have p5 := s466 (k := k + 3) (ps := apR F ls) (es := []) rh (Nat.le_trans (ap_len okF hF) (by decide)) (by decide) hR (fun r hr => Nat.le_trans (okR r hr).len (by decide)) trivial
  have e3 : H2.set hp.length (.lst (([].foldl stepE R).map rv)) = H2 := set_self rh
  rw [e3] at p5
  have iC : itemsOf H2 (.tup (clash.map ltV)) = some (clash.map ltV) := rfl
  have zC : (clash.map ltV).length ≤ lineMax := by rw [List.length_map]; exact Nat.le_trans hcl (by decide)
  have p6 := s456 (k := k + 4) (hp := H2) (pv := .lst ((apR F ls).map prV)) (lv := .tup (clash.map ltV)) (ps := apR F ls) (ls := clash) rfl rfl rfl rfl (Nat.le_trans (ap_len okF hF) (by decide)) (Nat.le_trans hcl (by decide)) (fun l hl => by have := hcx l hl; omega)
  rw [hcn] at p6
  have c4 : cmpV H2 .Eq (.lst (([] : List (Int × Int)).map prV)) (.lst []) = some true := rfl
  have ih := itemsOf_ref rh
  refine ⟨H2, ?_, S2, ro, (by rw [hH1] at K2; exact (Keep2.app _).trans (Keep2.of K2))⟩
  subst hH1
  have a2 := S.a2
  have b2 := S2.a2
  apply cf_ret (mkFn 471 (topAt 33) false) (by decide) rfl rfl rfl
  show exSs _ _ 60 _ (_ :: _) [("task", _), ("store", _), ("lasts", _), ("firsts", _), ("own", _), ("a", _), ("b", _)] _ = _
  repeat tb_start
  · apply M_list rfl
    repeat tb_start
    · intro l h; cases h
    repeat tb_start
  repeat tb_start
  apply xs_ifE
  · apply t_orF
    · repeat tb_start
    repeat tb_start
  repeat tb_start
  apply xs_ifE
  · apply t_notT
    repeat tb_start
  repeat tb_start
  apply xs_ifR
  · apply t_notF
    repeat tb_start
  repeat tb_start
  apply e_andT
  · repeat tb_start
    · refine e_comp1 (src := .tup (clash.map ltV)) (g := ltV) clash (fun _ => true) (fun l => .bool (hold l (rowAt R l.x))) (fun l => [("here", .ref hp.length), ("literal", ltV l)]) rfl ?_ rfl (Nat.le_trans hcl (by decide)) (fun a _ => rfl) ?_ ?_
      · repeat tb_start
      · intro l _
        repeat tb_start
      · intro l hlc _
        have hlx : l.x < R.length := by have := hcx l hlc; omega
        have hr := rowAt_get hlx
        repeat tb_start
        exact s446 ih hr (by rw [hR]; decide) (Nat.le_trans (okR _ (List.mem_of_getElem? hr)).len (by decide))
    repeat tb_start
    rw [filter_true, show clash.map (fun l => V.bool (hold l (rowAt R l.x))) = (clash.map fun l => hold l (rowAt R l.x)).map .bool by rw [List.map_map]; rfl, blt_all]
    congr 2
    rw [List.all_eq_true]
    intro b hb
    obtain ⟨l, hl, rfl⟩ := List.mem_map.mp hb
    exact hch l hl
  repeat tb_start
end
section
variable {k : Nat} {hp : Hp} {m nw o a b : Nat} {R F : List (List Int)} {tr : List Ent} {mk : List Nat} {cl : List V} {ls : List Int}
theorem okE_one {ps : List (Int × Int)} {H : List (List Int)} {e : LE} : okE ps H [e] ↔ (e.x < 3 ∧ e.l.x < 2 ∧ e.rs.length ≤ 100 ∧ (∀ l ∈ e.rs, l.x < 2) ∧ (∀ l ∈ e.rs, hold l (rowAt H l.x) = true) ∧ (ps.filter (keepB e.rs)).filter (keepB [e.l]) = ps.filter (keepB e.rs)) :=
  ⟨fun h => h.1, fun h => ⟨h, trivial⟩⟩
theorem Two.lt {a b : Nat} (h : Two a b) : a < 2 ∧ b < 2 ∧ a ≠ b := by
  rcases h with ⟨rfl, rfl⟩ | ⟨rfl, rfl⟩ <;> decide
theorem rowAt_map_set {R : List (List Int)} {a : Nat} {x : List Int} : (R.set a x).map fv = (R.map fv).set a (fv x) := List.map_set
theorem led_ok (S : SH hp m nw R F tr mk false cl) (h9 : hp[9]? = some (.ins (taskF ls))) (h1 : hp[1]? = some (.lst (ls.map .int))) (ho : hp[o]? = some (.lst (R.map rv))) (o10 : 10 ≤ o) (om : o ≠ m) (on : o ≠ nw) (hl : ls.length = 3) (hR : R.length = 3) (hF : F.length = 3)
    (okR : ∀ r ∈ R, RowOK r) (okF : ∀ r ∈ F, RowOK r) (h2 : Two a b) (htr : tr.length ≤ 140) :
    (∃ (hp' : Hp) (R' : List (List Int)) (les : List LE), cf (k + 7) 471 [.obj 420 9, .obj 287 2, .ref 1, .lst (F.map rv), .ref o, .int a, .int b] hp = some (.bool true, hp') ∧ SH hp' m nw R' F (tr ++ les.map LE.ent) mk false cl ∧ hp'[o]? = some (.lst (R'.map rv)) ∧ Keep2 o m nw hp hp' ∧
      R'.length = 3 ∧ (∀ r ∈ R', RowOK r) ∧ les.length ≤ 2 ∧ (∀ e ∈ les, e.x < 3) ∧ undo (les.map LE.ent).reverse (R'.map fv) = R.map fv) ∨
    (∃ hp' cl', cf (k + 7) 471 [.obj 420 9, .obj 287 2, .ref 1, .lst (F.map rv), .ref o, .int a, .int b] hp = some (.bool true, hp') ∧ SH hp' m nw R F tr mk true cl' ∧ hp'[o]? = some (.lst (R.map rv)) ∧ Keep2 o m nw hp hp') := by
  obtain ⟨ha2, hb2, hab⟩ := h2.lt
  have ha3 : a < 3 := by omega
  have hb3 : b < 3 := by omega
  have hra := rowAt_get (H := R) (x := a) (by omega)
  have hrb := rowAt_get (H := R) (x := b) (by omega)
  have oka := okR _ (List.mem_of_getElem? hra)
  have okb := okR _ (List.mem_of_getElem? hrb)
  have gl : ∀ x < 3, ls[x]? = some (lastOf ls x) := fun x hx => by rw [lastOf, List.getD_eq_getElem?_getD, List.getElem?_eq_getElem (by omega)]; rfl
  generalize era : rowAt R a = ra at *
  generalize erb : rowAt R b = rb at *
  obtain ⟨ha, hha, ham, hal⟩ := oka.head
  obtain ⟨hb, hhb, hbm, hbl⟩ := okb.head
  obtain ⟨tb, htb, tbm, tbl⟩ := okb.last
  have S1 := S.app (.lst (R.map rv))
  have q9 := get_app (r := .lst (R.map rv)) h9
  by_cases hc : ha + lastOf ls a ≤ tb
  · left
    have p2 := s461a (k := k + 5) (itemsOf_ref ho) hra hrb (by rw [hR]; decide) (itemsOf_ref h1) (gl a ha3) (gl b hb3) (by rw [hl]; decide) (Nat.le_trans oka.len (by decide)) (Nat.le_trans okb.len (by decide)) hha htb hc
    have p4 := two_A (k := k) S1 q9 hl hR ha3 hb3 hra hrb oka okb hha htb hc
    have e : (R.set a ra).set b rb = R := by rw [set_same hra, set_same hrb]
    obtain ⟨hp', e1, e2, e3, e4⟩ := led_T (k := k) (les := []) S h9 h1 ho o10 om on hl hR hF okR okF h2 htr (stands_A h2 era erb ham tbm hc) p2 p4 (by rw [e]; simpa using S1) (Keep.refl _ _ _) (by decide) trivial (by rw [e]; exact okR) (by rw [e])
    rw [e] at e2 e3
    exact ⟨hp', R, [], e1, e2, e3, e4, hR, okR, by decide, by simp, rfl⟩
  · have p2 := s461b (k := k + 5) (itemsOf_ref ho) hra hrb (by rw [hR]; decide) (itemsOf_ref h1) (gl a ha3) (gl b hb3) (by rw [hl]; decide) (Nat.le_trans oka.len (by decide)) (Nat.le_trans okb.len (by decide)) hha htb hhb hc
    by_cases hn : leftL ra hb (lastOf ls b) = []
    · right
      obtain ⟨H2, p4, S2, K2, _⟩ := two_B (k := k) S1 q9 hl hR ha3 hb3 hra hrb oka okb hha htb hhb hc hn
      obtain ⟨hp', e1, e2, e3, e4⟩ := led_F (k := k) S h9 h1 ho o10 om on hl hR hF okR okF h2 htr (stands_B h2 era erb hal tbl hbl hc hn) p2 p4 S2 K2 (Nat.le_of_ble_eq_true rfl)
        (by intro l hl'; simp only [rs1, List.mem_append, List.mem_cons, List.not_mem_nil, or_false] at hl'; rcases hl' with (rfl | rfl | rfl) | rfl <;> assumption)
        (clash_hold era erb hal tbl hbl hc hn) (clash_none h2)
      exact ⟨hp', _, e1, e2, e3, e4⟩
    · left
      obtain ⟨left, hleft⟩ : ∃ left, left = leftL ra hb (lastOf ls b) := ⟨_, rfl⟩
      rw [← hleft] at hn p2
      have okl : RowOK left := by rw [hleft] at hn ⊢; exact oka.filter hn
      obtain ⟨hx, hhx, hxm, hxl⟩ := okl.head
      obtain ⟨tx, htx, txm, txl⟩ := okl.last
      obtain ⟨H2, es1, es2, p4, S2, K2, _, f1, f2⟩ := two_C (k := k) S1 q9 hl hR ha3 hb3 hab hra hrb oka okb htr hha htb hhb hc hleft hn hhx htx
      have hla : ∀ s ∈ left, ha ≤ s := fun s hs => by rw [hleft] at hs; exact hal s (List.mem_filter.mp hs).1
      have hbr : hb ∈ rightL left rb (lastOf ls b) := by
        refine List.mem_filter.mpr ⟨hbm, ?_⟩
        rw [rightB, htx]
        rw [hleft] at txm
        exact decide_eq_true (by have := (List.mem_filter.mp txm).2; simpa using this)
      have okr : RowOK (rightL left rb (lastOf ls b)) := okb.filter (List.ne_nil_of_mem hbr)
      have okR' := rows_set (x := b) (rows_set (x := a) okR okl) okr
      have hap := same_apart (ls := ls) h2 hR era erb hal tbl hbl hc hleft htx txl
      have hst := stands_C (ls := ls) h2 era erb hbm (s := tx) (by rw [← hleft]; exact txm)
      -- the entries
      have cond1 := (rs1_hold (ls := ls) era erb hal tbl hbl hc)
      have era1 : rowAt (R.set a left) a = left := rowAt_set_eq (by omega)
      have erb1 : rowAt (R.set a left) b = rb := by rw [rowAt_set_ne hab]; exact erb
      obtain ⟨e1, he1⟩ : ∃ e1 : LE, e1 = ⟨a, fv ra, ⟨a, .ge, hb + lastOf ls b⟩, rs1 a b (lastOf ls a) hb tb⟩ := ⟨_, rfl⟩
      obtain ⟨e2, he2⟩ : ∃ e2 : LE, e2 = ⟨b, fv rb, ⟨b, .le, tx - lastOf ls b⟩, rs2 a b (lastOf ls a) hx tx⟩ := ⟨_, rfl⟩
      have ok1 : okE (apR F ls) R [e1] := by
        rw [okE_one, he1]
        refine ⟨ha3, ha2, Nat.le_of_ble_eq_true rfl, ?_, cond1, force1 h2⟩
        intro l hl'
        simp only [rs1, List.mem_cons, List.not_mem_nil, or_false] at hl'
        rcases hl' with rfl | rfl | rfl <;> assumption
      have st1 : stepE R e1 = R.set a left := by
        rw [he1]
        show R.set a (nob ⟨a, .ge, hb + lastOf ls b⟩ (rowAt R a)) = _
        rw [nob_ge, era, hleft]; rfl
      have ok2 : okE (apR F ls) (R.set a left) [e2] := by
        rw [okE_one, he2]
        refine ⟨hb3, hb2, Nat.le_of_ble_eq_true rfl, ?_, rs2_hold (ls := ls) era1 erb1 hla tbl hxl hxm txl hc, force2 h2⟩
        intro l hl'
        simp only [rs2, List.mem_cons, List.not_mem_nil, or_false] at hl'
        rcases hl' with rfl | rfl | rfl <;> assumption
      have shape : ∃ les : List LE, es1 ++ es2 = les.map LE.ent ∧ okE (apR F ls) R les ∧ les.length ≤ 2 ∧ (∀ e ∈ les, e.x < 3) ∧ undo (les.map LE.ent).reverse (((R.set a left).set b (rightL left rb (lastOf ls b))).map fv) = R.map fv := by
        have back2 : (((R.set a left).set b (rightL left rb (lastOf ls b))).map fv).set b (fv rb) = (R.set a left).map fv := by
          rw [← rowAt_map_set, List.set_set, set_same (getset_ne hrb hab)]
        have back1 : ((R.set a left).map fv).set a (fv ra) = R.map fv := by
          rw [← rowAt_map_set, List.set_set, set_same hra]
        rcases f1 with ⟨rfl, g1⟩ | rfl
        · have same1 : R.set a left = R := by rw [g1]; exact set_same hra
          rcases f2 with ⟨rfl, g2⟩ | rfl
          · refine ⟨[], rfl, trivial, by decide, by simp, ?_⟩
            rw [g2, set_same (getset_ne hrb hab), same1]; rfl
          · refine ⟨[e2], by rw [he2]; rfl, by rw [same1] at ok2; exact ok2, Nat.le_of_ble_eq_true rfl, by intro e he; simp at he; subst he; rw [he2]; exact hb3, ?_⟩
            rw [he2]
            show (((R.set a left).set b (rightL left rb (lastOf ls b))).map fv).set b (fv rb) = _
            rw [back2, same1]
        · rcases f2 with ⟨rfl, g2⟩ | rfl
          · refine ⟨[e1], by rw [he1]; rfl, ok1, Nat.le_of_ble_eq_true rfl, by intro e he; simp at he; subst he; rw [he1]; exact ha3, ?_⟩
            rw [g2, set_same (getset_ne hrb hab), he1]
            exact back1
          · refine ⟨[e1, e2], by rw [he1, he2]; rfl, ⟨ok1.1, by rw [st1]; exact ok2⟩, Nat.le_of_ble_eq_true rfl, by intro e he; simp at he; rcases he with rfl | rfl; (rw [he1]; exact ha3); (rw [he2]; exact hb3), ?_⟩
            rw [he1, he2]
            show ((((R.set a left).set b (rightL left rb (lastOf ls b))).map fv).set b (fv rb)).set a (fv ra) = _
            rw [back2, back1]
      obtain ⟨les, g1, g2, g3, g4, g5⟩ := shape
      rw [List.append_assoc, g1] at S2
      obtain ⟨hp', r1, r2, r3, r4⟩ := led_T (k := k) S h9 h1 ho o10 om on hl hR hF okR okF h2 htr hst p2 p4 S2 K2 g3 g2 okR' hap
      exact ⟨hp', _, les, r1, r2, r3, r4, by rw [List.length_set, List.length_set]; exact hR, okR', g3, g4, g5⟩
end
theorem forL_const {α : Type} {step : V → En → Hp → Option (Fl × En × Hp)} {g : α → V} {env : En} {hp : Hp} : ∀ (xs : List α), (∀ a ∈ xs, step (g a) env hp = some (.next, env, hp)) → forL step (xs.map g) env hp = some (.next, env, hp)
  | [], _ => rfl
  | a :: r, h => forL_next (h a (by simp)) (forL_const r fun b hb => h b (by simp [hb]))
theorem c_moreT {cx : Cx} {Φ : Call} {n : Nat} {sc : Nm} {env : En} {hp hp1 : Hp} {op op' : CmpOp} {ops : List CmpOp} {r r' : Expr} {rs : List Expr} {a b : V} {R : Rs Bool} (h : evE cx Φ n sc r env hp = some (b, hp1)) (h2 : cmpV hp1 op a b = some true) (h3 : chain cx Φ n sc b (op' :: ops) (r' :: rs) env hp1 = R) :
    chain cx Φ (n + 1) sc a (op :: op' :: ops) (r :: r' :: rs) env hp = R := c_more h h2 h3
section
variable {k : Nat} {hp : Hp} {m nw o : Nat} {R F : List (List Int)} {tr : List Ent} {mk : List Nat} {fl : Bool} {cl : List V} {ls cells : List Int} {bg en : Int}
noncomputable def outB (ls : List Int) (bg en : Int) (i : Nat) (s : Int) : Bool := decide (s < bg) || decide (en < s + lastOf ls i)
noncomputable def emptB (ls : List Int) (R : List (List Int)) (bg en : Int) (i : Nat) : Bool := ((rowAt R i).filter (outB ls bg en i)).isEmpty
noncomputable def dueB (ls : List Int) (R : List (List Int)) (bg en : Int) (i : Nat) : Bool := decide (0 < lastOf ls i) && emptB ls R bg en i
noncomputable def loR (R : List (List Int)) (i : Nat) : Int := (rowAt R i).head?.getD 0
noncomputable def hiR (R : List (List Int)) (i : Nat) : Int := (rowAt R i).getLast?.getD 0
theorem busy_eq (hl : ls.length = 3) {i : Nat} (hi : i < 3) : busy ls i = decide (0 < lastOf ls i) := by
  rw [busy, lastOf, List.getD_eq_getElem?_getD, List.getElem?_eq_getElem (by omega)]; rfl
theorem emptB_iff {i : Nat} : emptB ls R bg en i = true ↔ ∀ s ∈ rowAt R i, bg ≤ s ∧ s + lastOf ls i ≤ en := by
  rw [emptB, isEmpty_iff', List.filter_eq_nil_iff]
  constructor
  · intro h s hs
    have := h s hs
    simp only [outB, Bool.or_eq_true, decide_eq_true_eq, not_or] at this
    omega
  · intro h s hs
    have := h s hs
    simp only [outB, Bool.or_eq_true, decide_eq_true_eq, not_or]
    omega
theorem win_due (hl : ls.length = 3) (hR : R.length = 3) (okR : ∀ r ∈ R, RowOK r) : ((List.range 3).filter (busy ls)).filter (winB ls (loR R) (hiR R) bg en) = (List.range 3).filter (dueB ls R bg en) := by
  rw [List.filter_filter]
  refine List.filter_congr fun i hi => ?_
  have hi3 : i < 3 := by simpa using hi
  rw [busy_eq hl hi3, dueB, Bool.and_comm]
  congr 1
  have ok := okR _ (List.mem_of_getElem? (rowAt_get (H := R) (x := i) (by omega)))
  obtain ⟨z1, g1, g2, g3⟩ := ok.head
  obtain ⟨z2, f1, f2, f3⟩ := ok.last
  have e1 : loR R i = z1 := by rw [loR, g1]; rfl
  have e2 : hiR R i = z2 := by rw [hiR, f1]; rfl
  rw [Bool.eq_iff_iff, emptB_iff, winB, e1, e2, Bool.and_eq_true, decide_eq_true_eq, decide_eq_true_eq]
  constructor
  · rintro ⟨h1, h2⟩ s hs
    have := g3 s hs
    have := f3 s hs
    omega
  · intro h
    exact ⟨(h z1 g2).1, (h z2 f2).2⟩
theorem told_hold {due : List Nat} (hd : due = (List.range 3).filter (dueB ls R bg en)) : ∀ l ∈ toldL ls bg en due, l.x < 3 ∧ hold l (rowAt R l.x) = true := by
  intro l hl
  obtain ⟨i, hi, hl⟩ := List.mem_flatMap.mp hl
  rw [hd] at hi
  obtain ⟨h1, h2⟩ := List.mem_filter.mp hi
  rw [dueB, Bool.and_eq_true, emptB_iff] at h2
  have h3 : i < 3 := by simpa using h1
  simp only [List.mem_cons, List.not_mem_nil, or_false] at hl
  rcases hl with rfl | rfl
  · refine ⟨h3, ?_⟩
    rw [hold_iff]
    intro s hs
    rw [bar_ge]
    exact (h2.2 s hs).1
  · refine ⟨h3, ?_⟩
    rw [hold_iff]
    intro s hs
    rw [bar_le]
    have := (h2.2 s hs).2
    show s ≤ en - lastOf ls i
    omega
theorem told_enough {due : List Nat} (hd : due = (List.range 3).filter (dueB ls R bg en)) {i : Nat} (hi : i ∈ due) {s : Int} (h : (((toldL ls bg en due).filter fun l => decide (l.x = i)).filter fun l => bar l s).isEmpty = true) : bg ≤ s ∧ s ≤ s + lastOf ls i ∧ s + lastOf ls i ≤ en := by
  rw [isEmpty_iff', List.filter_eq_nil_iff] at h
  have hi' := hi
  rw [hd] at hi'
  have h2 := (List.mem_filter.mp hi').2
  rw [dueB, Bool.and_eq_true, decide_eq_true_eq] at h2
  have m1 : (⟨i, .ge, bg⟩ : Lit) ∈ (toldL ls bg en due).filter fun l => decide (l.x = i) := List.mem_filter.mpr ⟨List.mem_flatMap.mpr ⟨i, hi, by simp⟩, by simp⟩
  have m2 : (⟨i, .le, en - lastOf ls i⟩ : Lit) ∈ (toldL ls bg en due).filter fun l => decide (l.x = i) := List.mem_filter.mpr ⟨List.mem_flatMap.mpr ⟨i, hi, by simp⟩, by simp⟩
  have g1 := h _ m1
  have g2 := h _ m2
  have g1' : bg ≤ s := by
    rw [← bar_ge (x := i)]
    simpa using g1
  have g2' : s ≤ en - lastOf ls i := by
    rw [← bar_le (x := i)]
    simpa using g2
  omega
theorem cmp_int {x y : Int} : cmpV hp .Eq (.int x) (.int y) = some (x == y) := rfl
theorem cmp_nat {x y : Nat} : cmpV hp .Eq (.int (x : Int)) (.int (y : Int)) = some (decide (x = y)) := by
  rw [cmp_int]
  congr 1
  by_cases h : x = y
  · subst h; simp
  · rw [decide_eq_false h]
    have : ¬ ((x : Int) = (y : Int)) := by omega
    simp [this]
theorem s476 {j : Nat} (S : SH hp m nw R F tr mk fl cl) (h0 : hp[0]? = some (feedO cells j)) (hj : j ≤ 400) (hcl : cells.length ≤ 100) (h9 : hp[9]? = some (.ins (taskF ls))) (h1 : hp[1]? = some (.lst (ls.map .int))) (ho : hp[o]? = some (.lst (R.map rv))) (o10 : 10 ≤ o) (hl : ls.length = 3) (hR : R.length = 3) (hF : F.length = 3)
    (okR : ∀ r ∈ R, RowOK r) (okF : ∀ r ∈ F, RowOK r) : ∃ x, cf (k + 6) 476 [.ref 0, .obj 420 9, .obj 287 2, .ref 1, .lst (F.map rv), .ref o] hp = some (.bool true, hp.set 0 (feedO cells (j + 2)) ++ [x]) := by
  have mok := S.mok
  have nok := S.nok
  obtain ⟨bg0, hbg⟩ : ∃ b, b = drawI cells j 6 := ⟨_, rfl⟩
  obtain ⟨en0, hen⟩ : ∃ b, b = drawI cells (j + 1) 9 := ⟨_, rfl⟩
  have d1 := s429 (k := k + 4) (many := 6) h0 (by omega) (by decide) hcl
  have d2 := s429 (k := k + 4) (many := 9) (get_self (o := feedO cells (j + 1)) h0) (by omega) (by decide) hcl
  rw [← hbg] at d1
  rw [← hen, List.set_set] at d2
  obtain ⟨bg, hbg'⟩ : ∃ b, b = bg0 - 1 := ⟨_, rfl⟩
  obtain ⟨en, hen'⟩ : ∃ b, b = bg + 1 + en0 := ⟨_, rfl⟩
  have b1 : binop .Sub (.int bg0) (.int 1) = some (.int bg) := by rw [hbg']; rfl
  have b2 : binop .Add (.int (bg + 1)) (.int en0) = some (.int en) := by rw [hen']; rfl
  obtain ⟨H, hH⟩ : ∃ H, H = hp.set 0 (feedO cells (j + 2)) := ⟨_, rfl⟩
  rw [show j + 1 + 1 = j + 2 from rfl, ← hH] at d2
  have S1 : SH H m nw R F tr mk fl cl := by rw [hH]; exact S.set (by decide) (by decide) (by decide) (by decide) (by omega) (by omega)
  have q9 : H[9]? = some (.ins (taskF ls)) := by rw [hH]; exact get_set h9 (by decide)
  have q1 : H[1]? = some (.lst (ls.map .int)) := by rw [hH]; exact get_set h1 (by decide)
  have qo : H[o]? = some (.lst (R.map rv)) := by rw [hH]; exact get_set ho (by omega)
  obtain ⟨due, hdue⟩ : ∃ due, due = (List.range 3).filter (dueB ls R bg en) := ⟨_, rfl⟩
  have hdl : due.length ≤ 3 := by rw [hdue]; exact List.length_filter_le _ _
  have hd3 : ∀ i ∈ due, i < 3 := fun i hi => by
    rw [hdue] at hi
    simpa using (List.mem_filter.mp hi).1
  have rowlen : ∀ i < 3, (rowAt R i).length ≤ 5 := fun i hi => (okR _ (List.mem_of_getElem? (rowAt_get (H := R) (x := i) (by omega)))).len
  refine ⟨.lst (due.map fun (i : Nat) => V.int i), ?_⟩
  rw [← hH]
  obtain ⟨G, hG⟩ : ∃ G, G = H ++ [.lst (due.map fun (i : Nat) => V.int i)] := ⟨_, rfl⟩
  have S2 : SH G m nw R F tr mk fl cl := by rw [hG]; exact S1.app _
  have r9 : G[9]? = some (.ins (taskF ls)) := by rw [hG]; exact get_app q9
  have r1 : G[1]? = some (.lst (ls.map .int)) := by rw [hG]; exact get_app q1
  have ro : G[o]? = some (.lst (R.map rv)) := by rw [hG]; exact get_app qo
  have rd : G[H.length]? = some (.lst (due.map fun (i : Nat) => V.int i)) := by rw [hG]; exact hget_last
  have e1 : cf (k + 5) 375 [.obj 420 9, .obj 287 2, .int bg, .int en] G = some (.lst (due.map fun (i : Nat) => V.int i), G) := by
    have := s375 (k := k + 2) (lo := loR R) (hi := hiR R) (bg := bg) (en := en) r9 hl S2.a2 S2.a3 (by rw [List.length_map, hR]; decide) (fun i hi => by
      have hr := rowAt_get (H := R) (x := i) (by omega)
      have ok := okR _ (List.mem_of_getElem? hr)
      obtain ⟨z1, g1, _, _⟩ := ok.head
      obtain ⟨z2, f1, _, _⟩ := ok.last
      obtain ⟨p1, x1, y1⟩ := fv_head ok.asc g1
      obtain ⟨p2, x2, y2⟩ := fv_last ok.asc f1
      refine ⟨fv (rowAt R i), p1, p2, by rw [List.getElem?_map, hr]; rfl, x1, x2, ?_, ?_, Nat.le_trans (fv_len5 ok) (by decide)⟩
      · rw [loR, g1]; exact y1
      · rw [hiR, f1]; exact y2)
    rw [win_due hl hR okR, ← hdue] at this
    exact this
  have e2 : cmpV G .NotEq (.lst (due.map fun (i : Nat) => V.int i)) (.ref H.length) = some false := by rw [cmpN_nats rd, decide_eq_true rfl]; rfl
  have e3 := s382 (k := k + 4) (bg := bg) (en := en) r9 hl rd hd3 (by omega)
  obtain ⟨told, htold⟩ : ∃ told, told = toldL ls bg en due := ⟨_, rfl⟩
  rw [← htold] at e3
  have htl : told.length ≤ 6 := by
    rw [htold]
    exact Nat.le_trans (flat_len (m := 2) due fun _ _ => Nat.le_refl 2) (by omega)
  have zt : (told.map ltV).length ≤ lineMax := by rw [List.length_map]; unfold lineMax; omega
  have io := itemsOf_ref ro
  have id' := itemsOf_ref rd
  have zd : (due.map fun (i : Nat) => V.int i).length ≤ lineMax := by rw [List.length_map]; unfold lineMax; omega
  have hth := told_hold (ls := ls) (R := R) (bg := bg) (en := en) hdue
  rw [← htold] at hth
  apply cf_ret (mkFn 476 (topAt 34) false) (by decide) rfl rfl rfl
  show exSs _ _ 60 _ (_ :: _) [("feed", _), ("task", _), ("store", _), ("lasts", _), ("firsts", _), ("own", _)] _ = _
  repeat tb_start
  apply xs_for (hp2 := G) (env1 := [("feed", .ref 0), ("task", .obj 420 9), ("store", .obj 287 2), ("lasts", .ref 1), ("firsts", .lst (F.map rv)), ("own", .ref o), ("begin", .int bg), ("end", .int en), ("due", .ref H.length)])
  · apply i_range rfl (k := 3)
    repeat tb_start
    decide
  · refine (forL_fold (fun (i : Nat) => V.int i) (fun s i => if dueB ls R bg en i then s ++ [i] else s) (fun _ => [("feed", .ref 0), ("task", .obj 420 9), ("store", .obj 287 2), ("lasts", .ref 1), ("firsts", .lst (F.map rv)), ("own", .ref o), ("begin", .int bg), ("end", .int en), ("due", .ref H.length)]) (fun s => H ++ [.lst (s.map fun (i : Nat) => V.int i)]) (fun s r => s.length + r.length ≤ 900 ∧ ∀ i ∈ r, i < 3) ?_ (List.range 3) [] ⟨by decide, by simp⟩).trans ?_
    · intro s a r hP
      have hP1 : s.length + (r.length + 1) ≤ 900 := hP.1
      have ha : a < 3 := hP.2 a (by simp)
      refine ⟨?_, ?_, fun i hi => hP.2 i (by simp [hi])⟩
      · have v1 := get_app (r := .lst (s.map fun (i : Nat) => V.int i)) q1
        have vo := get_app (r := .lst (s.map fun (i : Nat) => V.int i)) qo
        have vd := hget_last (hp := H) (x := .lst (s.map fun (i : Nat) => V.int i))
        have zs : (s.map fun (i : Nat) => V.int i).length ≤ lineMax := by rw [List.length_map]; unfold lineMax; omega
        have hra := rowAt_get (H := R) (x := a) (by omega)
        have g1 : subV (H ++ [.lst (s.map fun (i : Nat) => V.int i)]) (.ref o) (.int a) = some (rv (rowAt R a)) := sub_at (itemsOf_ref vo) (by rw [List.getElem?_map, hra]; rfl) (by rw [List.length_map, hR]; decide)
        have g2 : subV (H ++ [.lst (s.map fun (i : Nat) => V.int i)]) (.ref 1) (.int a) = some (.int (lastOf ls a)) := sub_at (itemsOf_ref v1) (by rw [List.getElem?_map, lastOf, List.getD_eq_getElem?_getD, List.getElem?_eq_getElem (by omega)]; rfl) (by rw [List.length_map, hl]; decide)
        have zr : ((rowAt R a).map V.int).length ≤ lineMax := by rw [List.length_map]; exact Nat.le_trans (rowlen a ha) (by decide)
        have g3 : cmpV (H ++ [.lst (s.map fun (i : Nat) => V.int i)]) .Eq (.lst (((rowAt R a).filter (outB ls bg en a)).map V.int)) (.lst []) = some (emptB ls R bg en a) := by
          rw [cmp_nil, emptB]; cases (rowAt R a).filter (outB ls bg en a) <;> rfl
        obtain ⟨b, hb⟩ : ∃ b, b = dueB ls R bg en a := ⟨_, rfl⟩
        have hb2 := hb
        unfold dueB at hb2
        cases b
        · apply turn
          repeat tb_start
          apply xs_ifE
          · refine (t_and (a := decide (0 < lastOf ls a)) (b := emptB ls R bg en a) ?_ (fun _ => ?_)).trans (by rw [← hb2])
            · repeat tb_start
            · repeat tb_start
              · refine e_comp1 (src := rv (rowAt R a)) (g := V.int) (rowAt R a) (outB ls bg en a) V.int (fun s => [("lasts", .ref 1), ("begin", .int bg), ("end", .int en), ("k", .int a), ("s", .int s)]) rfl ?_ rfl (Nat.le_trans (rowlen a ha) (by decide)) (fun a _ => rfl) ?_ ?_
                · repeat tb_start
                · intro s _
                  repeat tb_start
                  refine t_or (a := decide (s < bg)) (b := decide (en < s + lastOf ls a)) ?_ (fun _ => ?_)
                  · repeat tb_start
                  · repeat tb_start
                · intro s _ _
                  repeat tb_start
              repeat tb_start
          repeat tb_start
          · simp [← hb]
          repeat tb_start
        · apply turn
          repeat tb_start
          apply xs_ifT
          · refine (t_and (a := decide (0 < lastOf ls a)) (b := emptB ls R bg en a) ?_ (fun _ => ?_)).trans (by rw [← hb2])
            · repeat tb_start
            · repeat tb_start
              · refine e_comp1 (src := rv (rowAt R a)) (g := V.int) (rowAt R a) (outB ls bg en a) V.int (fun s => [("lasts", .ref 1), ("begin", .int bg), ("end", .int en), ("k", .int a), ("s", .int s)]) rfl ?_ rfl (Nat.le_trans (rowlen a ha) (by decide)) (fun a _ => rfl) ?_ ?_
                · repeat tb_start
                · intro s _
                  repeat tb_start
                  refine t_or (a := decide (s < bg)) (b := decide (en < s + lastOf ls a)) ?_ (fun _ => ?_)
                  · repeat tb_start
                  · repeat tb_start
                · intro s _ _
                  repeat tb_start
              repeat tb_start
          repeat tb_start
          · rw [hset_last]
            simp [← hb]
          repeat tb_start
      · show (if dueB ls R bg en a then s ++ [a] else s).length + r.length ≤ 900
        split
        · simp; omega
        · omega
    · rw [foldl_if, List.nil_append, ← hdue, ← hG]
  repeat tb_start
  apply xs_ifE
  · repeat tb_start
  repeat tb_start
  apply xs_ifE
  · apply t_notT
    repeat tb_start
    · refine e_comp1 (src := .lst (told.map ltV)) (g := ltV) told (fun _ => true) (fun l => .bool (hold l (rowAt R l.x))) (fun l => [("own", .ref o), ("literal", ltV l)]) rfl ?_ rfl (by unfold lineMax; omega) (fun a _ => rfl) ?_ ?_
      · repeat tb_start
      · intro l _
        repeat tb_start
      · intro l hlc _
        have hlx : l.x < R.length := by have := (hth l hlc).1; omega
        have hr := rowAt_get hlx
        repeat tb_start
        exact s446 io hr (by rw [hR]; decide) (Nat.le_trans (okR _ (List.mem_of_getElem? hr)).len (by decide))
    repeat tb_start
    rw [filter_true, show told.map (fun l => V.bool (hold l (rowAt R l.x))) = (told.map fun l => hold l (rowAt R l.x)).map .bool by rw [List.map_map]; rfl, blt_all]
    congr 2
    rw [List.all_eq_true]
    intro b hb
    obtain ⟨l, hl, rfl⟩ := List.mem_map.mp hb
    exact (hth l hl).2
  repeat tb_start
  apply xs_for (hp2 := G) (env1 := [("feed", .ref 0), ("task", .obj 420 9), ("store", .obj 287 2), ("lasts", .ref 1), ("firsts", .lst (F.map rv)), ("own", .ref o), ("begin", .int bg), ("end", .int en), ("due", .ref H.length), ("told", .lst (told.map ltV))])
  · repeat tb_start
  · refine forL_const due fun i hi => ?_
    have hi3 := hd3 i hi
    obtain ⟨bars, hbars⟩ : ∃ bars, bars = told.filter fun l => decide (l.x = i) := ⟨_, rfl⟩
    have hbl : bars.length ≤ 6 := by rw [hbars]; exact Nat.le_trans (List.length_filter_le _ _) htl
    have zb : (bars.map ltV).length ≤ lineMax := by rw [List.length_map]; unfold lineMax; omega
    have hrF := rowAt_get (H := F) (x := i) (by omega)
    have okFi := okF _ (List.mem_of_getElem? hrF)
    have g1 : subV G (.lst (F.map rv)) (.int i) = some (rv (rowAt F i)) := sub_at (l := F.map rv) rfl (by rw [List.getElem?_map, hrF]; rfl) (by rw [List.length_map, hF]; decide)
    have g2 : subV G (.ref 1) (.int i) = some (.int (lastOf ls i)) := sub_at (itemsOf_ref r1) (by rw [List.getElem?_map, lastOf, List.getD_eq_getElem?_getD, List.getElem?_eq_getElem (by omega)]; rfl) (by rw [List.length_map, hl]; decide)
    have zr : ((rowAt F i).map V.int).length ≤ lineMax := by rw [List.length_map]; exact Nat.le_trans okFi.len (by decide)
    apply turn
    repeat tb_start
    · show _ = some (.lst (bars.map ltV), G)
      rw [hbars]
      refine e_comp1 (src := .lst (told.map ltV)) (g := ltV) told (fun l => decide (l.x = i)) ltV (fun l => [("k", .int i), ("literal", ltV l)]) rfl ?_ rfl (by unfold lineMax; omega) (fun a _ => rfl) ?_ ?_
      · repeat tb_start
      · intro l _
        repeat tb_start
        · exact cmp_nat
      · intro l _ _
        repeat tb_start
    repeat tb_start
    apply xs_for (hp2 := G) (env1 := [("feed", .ref 0), ("task", .obj 420 9), ("store", .obj 287 2), ("lasts", .ref 1), ("firsts", .lst (F.map rv)), ("own", .ref o), ("begin", .int bg), ("end", .int en), ("due", .ref H.length), ("told", .lst (told.map ltV)), ("k", .int i), ("bars", .lst (bars.map ltV))])
    · repeat tb_start
    · refine forL_const (rowAt F i) fun s _ => ?_
      have c1 : cmpV G .Eq (.lst ((bars.filter fun l => bar l s).map fun _ => V.int 1)) (.lst []) = some (bars.filter fun l => bar l s).isEmpty := by
        rw [cmp_nil]; cases bars.filter fun l => bar l s <;> rfl
      apply turn
      repeat tb_start
      apply xs_ifE
      · cases hA : (bars.filter fun l => bar l s).isEmpty
        · rw [hA] at c1
          apply t_andF
          repeat tb_start
          · refine e_comp1 (src := .lst (bars.map ltV)) (g := ltV) bars (fun l => bar l s) (fun _ => .int 1) (fun l => [("s", .int s), ("literal", ltV l)]) rfl ?_ rfl (by unfold lineMax; omega) (fun a _ => rfl) ?_ ?_
            · repeat tb_start
            · intro l _
              repeat tb_start
              exact s436
            · intro l _ _
              repeat tb_start
          repeat tb_start
        · rw [hA] at c1
          rw [hbars, htold] at hA
          obtain ⟨f1, f2, f3⟩ := told_enough hdue hi hA
          have t1 := le_T (hp := G) f1
          have t2 := le_T (hp := G) f2
          have t3 := le_T (hp := G) f3
          apply t_andT
          · repeat tb_start
            · refine e_comp1 (src := .lst (bars.map ltV)) (g := ltV) bars (fun l => bar l s) (fun _ => .int 1) (fun l => [("s", .int s), ("literal", ltV l)]) rfl ?_ rfl (by unfold lineMax; omega) (fun a _ => rfl) ?_ ?_
              · repeat tb_start
              · intro l _
                repeat tb_start
                exact s436
              · intro l _ _
                repeat tb_start
            repeat tb_start
          apply t_notT
          apply t_cmp
          repeat tb_start
          apply c_moreT
          repeat tb_start
      repeat tb_start
    repeat tb_start
    · exact stands_ref rd
  repeat tb_start
end
abbrev Lv := List (Nat × List (List Int))
noncomputable def mkOf (lv : Lv) : List Nat := (lv.map (·.1)).reverse
noncomputable def StkOK (hp : Hp) (m nw o : Nat) : List Nat → Lv → Prop
  | [], [] => True
  | r :: rs, q :: lv => (10 ≤ r ∧ r ≠ m ∧ r ≠ nw ∧ r ≠ o ∧ r ∉ rs ∧ hp[r]? = some (.lst (q.2.map rv))) ∧ StkOK hp m nw o rs lv
  | _, _ => False
theorem StkOK.mono {hp hp' : Hp} {m nw o m' nw' o' : Nat} : ∀ {rs : List Nat} {lv : Lv}, StkOK hp m nw o rs lv → (∀ r ∈ rs, ∀ x, 10 ≤ r → r ≠ m → r ≠ nw → r ≠ o → hp[r]? = some x → hp'[r]? = some x ∧ r ≠ m' ∧ r ≠ nw' ∧ r ≠ o') → StkOK hp' m' nw' o' rs lv
  | [], [], _, _ => trivial
  | r :: rs, q :: lv, h, f => by
    obtain ⟨⟨h1, h2, h3, h4, h5, h6⟩, h7⟩ := h
    obtain ⟨g1, g2, g3, g4⟩ := f r (by simp) _ h1 h2 h3 h4 h6
    exact ⟨⟨h1, g2, g3, g4, h5, g1⟩, StkOK.mono h7 fun r' hr' => f r' (by simp [hr'])⟩
  | [], _ :: _, h, _ => h.elim
  | _ :: _, [], h, _ => h.elim
theorem StkOK.len {hp : Hp} {m nw o : Nat} : ∀ {rs : List Nat} {lv : Lv}, StkOK hp m nw o rs lv → rs.length = lv.length
  | [], [], _ => rfl
  | r :: rs, q :: lv, h => by rw [List.length_cons, List.length_cons, StkOK.len h.2]
  | [], _ :: _, h => h.elim
  | _ :: _, [], h => h.elim
theorem StkOK.lt {hp : Hp} {m nw o : Nat} : ∀ {rs : List Nat} {lv : Lv}, StkOK hp m nw o rs lv → ∀ r ∈ rs, r < hp.length
  | [], [], _, _, h => by simp at h
  | r :: rs, q :: lv, h, r', hr' => by
    rcases List.mem_cons.mp hr' with e | e
    · rw [e]; exact (List.getElem?_eq_some_iff.mp h.1.2.2.2.2.2).1
    · exact StkOK.lt h.2 r' e
  | [], _ :: _, h, _, _ => h.elim
  | _ :: _, [], h, _, _ => h.elim
/-- levels over the trail -/
noncomputable def Good (F : List (List Int)) : Lv → List Ent → List (List Int) → Prop
  | [], tr, R => tr = [] ∧ R = F
  | (μ, Q) :: lv, tr, R => ∃ base seg, tr = base ++ seg ∧ base.length = μ ∧ undo seg.reverse (R.map fv) = Q.map fv ∧ (∀ e ∈ seg, e.x < 3) ∧ Q.length = 3 ∧ (∀ r ∈ Q, RowOK r) ∧ Good F lv base Q
theorem undo_append (a b : List Ent) (d : List (List I2)) : undo (a ++ b) d = undo b (undo a d) := by rw [undo, List.foldl_append]; rfl
theorem Good.push {F R : List (List Int)} {lv : Lv} {tr : List Ent} (h : Good F lv tr R) (hR : R.length = 3) (ok : ∀ r ∈ R, RowOK r) : Good F ((tr.length, R) :: lv) tr R :=
  ⟨tr, [], by simp, rfl, rfl, by simp, hR, ok, h⟩
theorem Good.more {F R R' : List (List Int)} {q : Nat × List (List Int)} {lv : Lv} {tr es : List Ent} (h : Good F (q :: lv) tr R) (hu : undo es.reverse (R'.map fv) = R.map fv) (hx : ∀ e ∈ es, e.x < 3) : Good F (q :: lv) (tr ++ es) R' := by
  obtain ⟨μ, Q⟩ := q
  obtain ⟨base, seg, h1, h2, h3, h4, h5, h6, h7⟩ := h
  refine ⟨base, seg ++ es, by rw [h1, List.append_assoc], h2, ?_, ?_, h5, h6, h7⟩
  · rw [List.reverse_append, undo_append, hu, h3]
  · intro e he
    rcases List.mem_append.mp he with he | he
    · exact h4 e he
    · exact hx e he
theorem Good.bottom {F : List (List Int)} : ∀ {lv : Lv} {tr : List Ent} {R : List (List Int)}, Good F lv tr R → undo tr.reverse (R.map fv) = F.map fv ∧ (∀ e ∈ tr, e.x < 3) ∧ (mkOf lv)[0]? = (if lv = [] then none else some 0)
  | [], tr, R, h => by
    obtain ⟨rfl, rfl⟩ := h
    exact ⟨rfl, by simp, rfl⟩
  | (μ, Q) :: lv, tr, R, h => by
    obtain ⟨base, seg, h1, h2, h3, h4, h5, h6, h7⟩ := h
    obtain ⟨g1, g2, g3⟩ := Good.bottom h7
    refine ⟨by rw [h1, List.reverse_append, undo_append, h3, g1], ?_, ?_⟩
    · intro e he
      rw [h1] at he
      rcases List.mem_append.mp he with he | he
      · exact g2 e he
      · exact h4 e he
    · rw [if_neg (by simp)]
      show ((μ :: lv.map (·.1)).reverse)[0]? = some 0
      rw [List.reverse_cons]
      cases lv with
      | nil =>
        obtain ⟨e, _⟩ := h7
        subst e
        simp at h2
        subst h2
        rfl
      | cons q lv =>
        rw [if_neg (by simp)] at g3
        have : (mkOf (q :: lv)) = ((q :: lv).map (·.1)).reverse := rfl
        rw [this] at g3
        rw [List.getElem?_append_left (List.getElem?_eq_some_iff.mp g3).1]
        exact g3
theorem mkOf_cons (q : Nat × List (List Int)) (lv : Lv) : mkOf (q :: lv) = mkOf lv ++ [q.1] := by
  rw [mkOf, List.map_cons, List.reverse_cons]; rfl
theorem mkOf_len (lv : Lv) : (mkOf lv).length = lv.length := by simp [mkOf]

structure LI (cells ls : List Int) (F : List (List Int)) (hp : Hp) (o m nw j : Nat) (R : List (List Int)) (tr : List Ent) (lv : Lv) (rs : List Nat) (fl : Bool) (cl : List V) : Prop where
  S : SH hp m nw R F tr (mkOf lv) fl cl
  h0 : hp[0]? = some (feedO cells j)
  h1 : hp[1]? = some (.lst (ls.map .int))
  h8 : hp[8]? = some (.lst (rs.reverse.map .ref))
  h9 : hp[9]? = some (.ins (taskF ls))
  ho : hp[o]? = some (.lst (R.map rv))
  o10 : 10 ≤ o
  om : o ≠ m
  on : o ≠ nw
  hR : R.length = 3
  okR : ∀ r ∈ R, RowOK r
  stk : StkOK hp m nw o rs lv
  good : Good F lv tr R
structure FixOK (cells ls : List Int) (F : List (List Int)) : Prop where
  cl : cells.length ≤ 100
  ll : ls.length = 3
  FL : F.length = 3
  okF : ∀ r ∈ F, RowOK r
section
variable {cells ls : List Int} {F R Q : List (List Int)} {hp : Hp} {o m nw j μ r : Nat} {tr : List Ent} {lv : Lv} {rs : List Nat} {fl : Bool} {cl : List V}
theorem fst_ne (X : FixOK cells ls F) : ∀ d ∈ F.map fv, d ≠ [] := by
  intro d hd e
  obtain ⟨r, hr, rfl⟩ := List.mem_map.mp hd
  exact (X.okF r hr).ne ((fv_nil_iff (X.okF r hr).asc).mp e)
/-- a level taken back: the store, then the law's own stack -/
theorem popL {k : Nat} (X : FixOK cells ls F) (L : LI cells ls F hp o m nw j R tr ((μ, Q) :: lv) (r :: rs) fl cl) (htr : tr.length ≤ 100) (hlv : lv.length ≤ 100) :
    ∃ hp' base, cf (k + 1) 270 [.obj 287 2, .int 1] hp = some (.none, hp') ∧ hp'[8]? = some (.lst (rs.reverse.map .ref ++ [.ref r])) ∧ LI cells ls F (hp'.set 8 (.lst (rs.reverse.map .ref))) r hp.length (hp.length + 1) j Q base lv rs false [] ∧ base.length ≤ tr.length := by
  obtain ⟨base, seg, g1, g2, g3, g4, g5, g6, g7⟩ := L.good
  have S := L.S
  have mok := S.mok
  have nok := S.nok
  have o10 := L.o10
  have a5 := S.a5
  have am := S.am
  rw [g1, ← List.reverse_reverse seg] at a5
  rw [mkOf_cons] at am
  have hd : (F.map fv).length = 3 := by rw [List.length_map]; exact X.FL
  have hll : base.length + seg.length = tr.length := by rw [g1]; simp
  have run := s270 (k := k) (n := 1) (mk := mkOf lv ++ [μ]) (base := base) (rseg := seg.reverse) (by decide) (by simp) S.a2 S.a3 S.a4 a5 am (by simp [g2]) (fst_ne X) (by rw [List.length_append, mkOf_len]; simp; unfold lineMax; omega) (by rw [List.length_map, L.hR]; decide)
    (fun e he => by rw [List.length_map, L.hR]; exact g4 e (by simpa using he)) (by simp; omega) (by omega) (by omega) (by omega)
  rw [g3, show (mkOf lv ++ [μ]).take ((mkOf lv ++ [μ]).length - 1) = mkOf lv by simp] at run
  obtain ⟨⟨s1, s2, s3, s4, s5, s6⟩, s7⟩ := L.stk
  have l2 := (List.getElem?_eq_some_iff.mp S.a2).1
  have l3 := (List.getElem?_eq_some_iff.mp S.a3).1
  have l4 := (List.getElem?_eq_some_iff.mp S.a4).1
  have l5 := (List.getElem?_eq_some_iff.mp S.a5).1
  have l9 := (List.getElem?_eq_some_iff.mp L.h9).1
  have lm := (List.getElem?_eq_some_iff.mp S.am).1
  have lo := (List.getElem?_eq_some_iff.mp L.ho).1
  -- what stays
  obtain ⟨K, hK⟩ : ∃ K, K = ((((((hp ++ [AO.lst (mkV (mkOf lv))]).set 2 (.ins (insF hp.length nw fl cl))).set 5 (.lst (base.map entV))).set 3 (.lst ((Q.map fv).map dv))) ++ [AO.im 0]).set 2 (.ins (insF hp.length (hp.length + 1) false []))) := ⟨_, rfl⟩
  have stay : ∀ i x, i ≠ 2 → i ≠ 3 → i ≠ 5 → hp[i]? = some x → K[i]? = some x := by
    intro i x h2 h3 h5 h
    rw [hK]
    exact get_set (get_app (get_set (get_set (get_set (get_app h) (Ne.symm h2)) (Ne.symm h5)) (Ne.symm h3))) (Ne.symm h2)
  rw [← hK] at run
  have b2 : K[2]? = some (.ins (insF hp.length (hp.length + 1) false [])) := by
    rw [hK]
    exact get_self (get_app (get_set (get_set (get_self (get_app S.a2)) (by decide)) (by decide)))
  have b3 : K[3]? = some (.lst ((Q.map fv).map dv)) := by
    rw [hK]
    exact get_set (get_app (get_self (get_set (get_set (get_app S.a3) (by decide)) (by decide)))) (by decide)
  have b5 : K[5]? = some (.lst (base.map entV)) := by
    rw [hK]
    exact get_set (get_app (get_set (get_self (get_set (get_app S.a5) (by decide))) (by decide))) (by decide)
  have bm : K[hp.length]? = some (.lst (mkV (mkOf lv))) := by
    rw [hK]
    exact get_set (get_app (get_set (get_set (get_set hget_last (by omega)) (by omega)) (by omega))) (by omega)
  have bn : K[hp.length + 1]? = some (.im 0) := by
    rw [hK]
    refine get_set ?_ (by omega)
    have e : hp.length + 1 = ((((hp ++ [AO.lst (mkV (mkOf lv))]).set 2 (.ins (insF hp.length nw fl cl))).set 5 (.lst (base.map entV))).set 3 (.lst ((Q.map fv).map dv))).length := by simp
    rw [e]
    exact hget_last
  have b8 := stay 8 _ (by decide) (by decide) (by decide) L.h8
  refine ⟨K, base, run, ?_, ?_, by omega⟩
  · rw [b8]; simp
  · have S' : SH K hp.length (hp.length + 1) Q F base (mkOf lv) false [] := ⟨b2, b3, stay 4 _ (by decide) (by decide) (by decide) S.a4, b5, bm, ⟨0, bn, Nat.zero_le _⟩, .inr (by omega), .inr (by omega), by omega⟩
    have lr := (List.getElem?_eq_some_iff.mp s6).1
    refine ⟨S'.set (by decide) (by decide) (by decide) (by decide) (by omega) (by omega), ?_, ?_, ?_, ?_, ?_, s1, by omega, by omega, g5, g6, ?_, g7⟩
    · exact get_set (stay 0 _ (by decide) (by decide) (by decide) L.h0) (by decide)
    · exact get_set (stay 1 _ (by decide) (by decide) (by decide) L.h1) (by decide)
    · exact get_self b8
    · exact get_set (stay 9 _ (by decide) (by decide) (by decide) L.h9) (by decide)
    · exact get_set (stay r _ (by omega) (by omega) (by omega) s6) (by omega)
    · refine s7.mono fun r' hr' x h1 h2 h3 h4 h5 => ?_
      have lr' := s7.lt r' hr'
      refine ⟨get_set (stay r' _ (by omega) (by omega) (by omega) h5) (by omega), by omega, by omega, ?_⟩
      intro e
      subst e
      exact s5 hr'
end
noncomputable def lawN : Nm := namesOf (topAt 35)
noncomputable def lawS (i : Nat) : Stmt := (bodyOf (topAt 35)).getD i (.Pass ⟨0, 0, 0, 0⟩)
noncomputable def forB : Stmt → List Stmt
  | .For (body := b) .. => b
  | _ => []
noncomputable def lapS (i : Nat) : Stmt := (forB (lawS 6)).getD i (.Pass ⟨0, 0, 0, 0⟩)
noncomputable abbrev envL (scr : V) (F : List (List Int)) (o : Nat) (lap : V) : En := [("script", scr), ("feed", .ref 0), ("lasts", .ref 1), ("store", .obj 287 2), ("stack", .ref 8), ("firsts", .lst (F.map rv)), ("task", .obj 420 9), ("own", .ref o), ("lap", lap)]
noncomputable abbrev envA (scr : V) (F : List (List Int)) (o : Nat) (lap : V) (a : Int) : En := [("script", scr), ("feed", .ref 0), ("lasts", .ref 1), ("store", .obj 287 2), ("stack", .ref 8), ("firsts", .lst (F.map rv)), ("task", .obj 420 9), ("own", .ref o), ("lap", lap), ("a", .int a)]
section
variable {cx : Cx} {Φ : Call} {n : Nat} {sc : Nm} {env env1 env2 : En} {hp hp1 hp2 : Hp} {p : Pos}
theorem ifT' {t : Expr} {b o : List Stmt} (h : tst cx Φ n sc t env hp = some (true, hp1)) (h1 : exSs cx Φ n sc b env hp1 = some (.next, env1, hp2)) (he : env1.take env.length = env2) : exS cx Φ (n + 1) sc (.If t b o p) env hp = some (.next, env2, hp2) := by
  subst he; exact s_ifT h h1
theorem ifF' {t : Expr} {b : List Stmt} (h : tst cx Φ (n + 1) sc t env hp = some (false, hp1)) : exS cx Φ (n + 2) sc (.If t b [] p) env hp = some (.next, env, hp1) := by
  have := s_ifF (p := p) (b := b) (o := []) h x_nil
  rw [List.take_length] at this
  exact this
theorem cmpN_nilR {i : Nat} {l : List V} (h : hp[i]? = some (.lst l)) : cmpV hp .NotEq (.ref i) (.lst []) = some (!l.isEmpty) := by
  have e : deref hp (.ref i) = .lst l := by
    show (match hp[i]? with | some (AO.lst l) => V.lst l | _ => .ref i) = _
    rw [h]
  show (eqV hp (.ref i) (.lst [])).map _ = _
  unfold eqV
  rw [e]
  cases l <;> rfl
end
section
variable {cells ls : List Int} {F R : List (List Int)} {hp : Hp} {o m nw j : Nat} {tr : List Ent} {lv : Lv} {rs : List Nat} {fl : Bool} {cl : List V} {scr lap : V}
theorem LI.feed (L : LI cells ls F hp o m nw j R tr lv rs fl cl) (j' : Nat) : LI cells ls F (hp.set 0 (feedO cells j')) o m nw j' R tr lv rs fl cl := by
  have mok := L.S.mok
  have nok := L.S.nok
  have o10 := L.o10
  refine ⟨L.S.set (by decide) (by decide) (by decide) (by decide) (by omega) (by omega), get_self L.h0, get_set L.h1 (by decide), get_set L.h8 (by decide), get_set L.h9 (by decide), get_set L.ho (by omega), L.o10, L.om, L.on, L.hR, L.okR, ?_, L.good⟩
  exact L.stk.mono fun r hr x h1 h2 h3 h4 h5 => ⟨get_set h5 (by omega), h2, h3, h4⟩
theorem LI.draw (X : FixOK cells ls F) (L : LI cells ls F hp o m nw j R tr lv rs fl cl) (hj : j ≤ 400) {many : Int} (hm : 0 < many) : cf 39 429 [.ref 0, .int many] hp = some (.int (drawI cells j many), hp.set 0 (feedO cells (j + 1))) := s429 (k := 38) L.h0 (by omega) hm X.cl
/-- what a part of the law leaves -/
inductive LapR (cells ls : List Int) (F : List (List Int)) (run : Nat → Hp → Prop) (bJ bT bL : Nat) : Prop
  | mk (hp' : Hp) (o' m' nw' j' : Nat) (R' : List (List Int)) (tr' : List Ent) (lv' : Lv) (rs' : List Nat) (cl' : List V) (h : run o' hp') (L : LI cells ls F hp' o' m' nw' j' R' tr' lv' rs' false cl') (hj : j' ≤ bJ) (ht : tr'.length ≤ bT) (hl : lv'.length ≤ bL)
theorem lap0 (X : FixOK cells ls F) (L : LI cells ls F hp o m nw j R tr lv rs false cl) (hj : j ≤ 300) (htr : tr.length ≤ 100) (hlv : lv.length ≤ 100) :
    LapR cells ls F (fun o' hp' => exS theCx (cf 39) 51 lawN (lapS 0) (envL scr F o lap) hp = some (.next, envL scr F o' lap, hp')) (j + 1) tr.length lv.length := by
  have hsl := L.stk.len
  have c8 := cmpN_nilR L.h8
  cases rs with
  | nil =>
    refine ⟨hp, o, m, nw, j, R, tr, lv, [], cl, ?_, L, by omega, Nat.le_refl _, Nat.le_refl _⟩
    have c8' : cmpV hp .NotEq (.ref 8) (.lst []) = some false := c8
    apply ifF'
    apply t_andF
    repeat tb_start
  | cons r rs =>
    cases lv with
    | nil => simp at hsl
    | cons q lv =>
      obtain ⟨μ, Q⟩ := q
      have c8' : cmpV hp .NotEq (.ref 8) (.lst []) = some true := by rw [c8]; simp
      have d1 := L.draw X (by omega) (many := 4) (by decide)
      have L1 := L.feed (j + 1)
      by_cases h3 : drawI cells j 4 = 3
      · have c3 : cmpV (hp.set 0 (feedO cells (j + 1))) .Eq (.int (drawI cells j 4)) (.int 3) = some true := by rw [cmp_int, h3]; rfl
        obtain ⟨hp', base, run, p8, L2, hb⟩ := popL (k := 38) X L1 htr (by simp at hlv; omega)
        have zl : (rs.reverse.map V.ref ++ [V.ref r]).length ≤ lineMax := by simp at hsl hlv ⊢; unfold lineMax; omega
        have a2 := L1.S.a2
        refine ⟨_, r, _, _, j + 1, Q, base, lv, rs, [], ?_, L2, Nat.le_refl _, hb, by simp⟩
        apply ifT'
        · apply t_andT
          repeat tb_start
        repeat tb_start
      · have c3 : cmpV (hp.set 0 (feedO cells (j + 1))) .Eq (.int (drawI cells j 4)) (.int 3) = some false := by rw [cmp_int]; simp [h3]
        refine ⟨_, o, m, nw, j + 1, R, tr, (μ, Q) :: lv, r :: rs, cl, ?_, L1, Nat.le_refl _, Nat.le_refl _, Nat.le_refl _⟩
        apply ifF'
        apply t_andT
        repeat tb_start
theorem lap12 (X : FixOK cells ls F) (L : LI cells ls F hp o m nw j R tr lv rs false cl) (htr : tr.length ≤ 100) (hlv : lv.length ≤ 100) :
    ∃ hp1 hp2 rs', exS theCx (cf 39) 50 lawN (lapS 1) (envL scr F o lap) hp = some (.next, envL scr F o lap, hp1) ∧ exS theCx (cf 39) 49 lawN (lapS 2) (envL scr F o lap) hp1 = some (.next, envL scr F o lap, hp2) ∧ LI cells ls F hp2 o m nw j R tr ((tr.length, R) :: lv) rs' false cl := by
  have hsl := L.stk.len
  have mok := L.S.mok
  have nok := L.S.nok
  have o10 := L.o10
  have om := L.om
  have on := L.on
  have hR := L.hR
  have a2 := L.S.a2
  have lo := (List.getElem?_eq_some_iff.mp L.ho).1
  have lm := (List.getElem?_eq_some_iff.mp L.S.am).1
  obtain ⟨jn, hjn, _⟩ := L.S.an
  have ln := (List.getElem?_eq_some_iff.mp hjn).1
  have d1 := s263 (k := 38) L.S.a2 L.S.a5 L.S.am (by rw [List.length_map]; unfold lineMax; omega) (by rw [mkV_len, mkOf_len]; unfold lineMax; omega)
  rw [List.length_map] at d1
  obtain ⟨hp1, hhp1⟩ : ∃ hp1, hp1 = hp.set m (.lst (mkV (mkOf lv) ++ [.int tr.length])) := ⟨_, rfl⟩
  rw [← hhp1] at d1
  have len1 : hp1.length = hp.length := by rw [hhp1]; simp
  have g0 : hp1[0]? = some (feedO cells j) := by rw [hhp1]; exact get_set L.h0 (by omega)
  have g1 : hp1[1]? = some (.lst (ls.map .int)) := by rw [hhp1]; exact get_set L.h1 (by omega)
  have g2 : hp1[2]? = some (.ins (insF m nw false cl)) := by rw [hhp1]; exact get_set a2 (by omega)
  have g3 : hp1[3]? = some (.lst ((R.map fv).map dv)) := by rw [hhp1]; exact get_set L.S.a3 (by omega)
  have g4 : hp1[4]? = some (.lst ((F.map fv).map dv)) := by rw [hhp1]; exact get_set L.S.a4 (by omega)
  have g5 : hp1[5]? = some (.lst (tr.map entV)) := by rw [hhp1]; exact get_set L.S.a5 (by omega)
  have g8 : hp1[8]? = some (.lst (rs.reverse.map .ref)) := by rw [hhp1]; exact get_set L.h8 (by omega)
  have g9 : hp1[9]? = some (.ins (taskF ls)) := by rw [hhp1]; exact get_set L.h9 (by omega)
  have go : hp1[o]? = some (.lst (R.map rv)) := by rw [hhp1]; exact get_set L.ho (by omega)
  have gm : hp1[m]? = some (.lst (mkV (mkOf ((tr.length, R) :: lv)))) := by
    rw [hhp1, mkOf_cons]
    have : mkV (mkOf lv) ++ [.int tr.length] = mkV (mkOf lv ++ [tr.length]) := by simp [mkV]
    rw [this]
    exact get_self L.S.am
  have gn : hp1[nw]? = some (.im jn) := by rw [hhp1]; exact get_set hjn L.S.mn
  have io := itemsOf_ref go
  have z0 : (R.map rv).length ≤ lineMax := by rw [List.length_map, hR]; decide
  have q8 := get_app (r := .lst (R.map rv)) g8
  have z8 : (rs.reverse.map V.ref).length ≤ lineMax := by rw [List.length_map, List.length_reverse, hsl]; unfold lineMax; omega
  refine ⟨hp1, (hp1 ++ [AO.lst (R.map rv)]).set 8 (AO.lst (rs.reverse.map V.ref ++ [V.ref hp1.length])), hp1.length :: rs, ?_, ?_, ?_⟩
  · apply s_expr
    repeat tb_start
  · apply s_expr
    repeat tb_start
    · apply M_list rfl
      repeat tb_start
      · intro l h; cases h
      repeat tb_start
    repeat tb_start
  · have S1 : SH hp1 m nw R F tr (mkOf ((tr.length, R) :: lv)) false cl := ⟨g2, g3, g4, g5, gm, ⟨jn, gn, by assumption⟩, mok, nok, L.S.mn⟩
    refine ⟨(S1.app _).set (by decide) (by decide) (by decide) (by decide) (by omega) (by omega), get_set (get_app g0) (by decide), get_set (get_app g1) (by decide), ?_, get_set (get_app g9) (by decide), get_set (get_app go) (by omega), o10, om, on, hR, L.okR, ?_, L.good.push hR L.okR⟩
    · have e : rs.reverse.map V.ref ++ [V.ref hp1.length] = (hp1.length :: rs).reverse.map V.ref := by simp
      rw [← e]
      exact get_self q8
    · refine ⟨⟨by omega, by omega, by omega, by omega, ?_, get_set hget_last (by omega)⟩, ?_⟩
      · intro h
        have := L.stk.lt _ h
        omega
      · refine L.stk.mono fun r hr x h1 h2 h3 h4 h5 => ⟨get_set (get_app ?_) (by omega), h2, h3, h4⟩
        rw [hhp1]
        exact get_set h5 (by omega)
end
section
variable {cells ls : List Int} {F R : List (List Int)} {hp hp' : Hp} {o m nw j a : Nat} {tr : List Ent} {q : Nat × List (List Int)} {lv : Lv} {rs : List Nat} {fl : Bool} {cl : List V} {scr lap : V}
theorem LI.draw' (X : FixOK cells ls F) (L : LI cells ls F hp o m nw j R tr lv rs fl cl) (hj : j ≤ 400) {many : Int} (hm : 0 < many) : ∃ d H1, cf 39 429 [.ref 0, .int many] hp = some (.int d, H1) ∧ LI cells ls F H1 o m nw (j + 1) R tr lv rs fl cl ∧ 0 ≤ d ∧ d < many :=
  ⟨_, _, L.draw X hj hm, L.feed (j + 1), (draw_range hm).1, (draw_range hm).2⟩
theorem LI.app (L : LI cells ls F hp o m nw j R tr lv rs fl cl) (x : AO) : LI cells ls F (hp ++ [x]) o m nw j R tr lv rs fl cl :=
  ⟨L.S.app x, get_app L.h0, get_app L.h1, get_app L.h8, get_app L.h9, get_app L.ho, L.o10, L.om, L.on, L.hR, L.okR, L.stk.mono fun r hr x h1 h2 h3 h4 h5 => ⟨get_app h5, h2, h3, h4⟩, L.good⟩
theorem LI.keep {R' : List (List Int)} {tr' : List Ent} {fl' : Bool} {cl' : List V} (L : LI cells ls F hp o m nw j R tr lv rs fl cl) (S' : SH hp' m nw R' F tr' (mkOf lv) fl' cl') (ho' : hp'[o]? = some (.lst (R'.map rv))) (K : Keep2 o m nw hp hp') (hR' : R'.length = 3) (okR' : ∀ r ∈ R', RowOK r) (good' : Good F lv tr' R') :
    LI cells ls F hp' o m nw j R' tr' lv rs fl' cl' := by
  have mok := L.S.mok
  have nok := L.S.nok
  have o10 := L.o10
  exact ⟨S', K.get L.h0 (by decide) (by decide) (by decide) (by omega) (by omega) (by omega), K.get L.h1 (by decide) (by decide) (by decide) (by omega) (by omega) (by omega), K.get L.h8 (by decide) (by decide) (by decide) (by omega) (by omega) (by omega), K.get L.h9 (by decide) (by decide) (by decide) (by omega) (by omega) (by omega), ho', L.o10, L.om, L.on, hR', okR',
    L.stk.mono fun r hr x h1 h2 h3 h4 h5 => ⟨K.get h5 (by omega) (by omega) (by omega) h2 h3 h4, h2, h3, h4⟩, good'⟩
theorem lap3 (X : FixOK cells ls F) (L : LI cells ls F hp o m nw j R tr (q :: lv) rs false cl) (hj : j ≤ 300) (htr : tr.length ≤ 100) :
    ∃ hp' j' R' tr', exS theCx (cf 39) 48 lawN (lapS 3) (envL scr F o lap) hp = some (.next, envL scr F o lap, hp') ∧ LI cells ls F hp' o m nw j' R' tr' (q :: lv) rs false cl ∧ j' ≤ j + 4 ∧ tr'.length ≤ tr.length + 1 := by
  obtain ⟨d, H1, r1, L1, dlo, dhi⟩ := L.draw' X (by omega) (many := 2) (by decide)
  by_cases h1 : d = 1
  · have c1 : cmpV H1 .Eq (.int d) (.int 1) = some true := by rw [cmp_int, h1]; rfl
    obtain ⟨d1, H2, r2, L2, d1lo, d1hi⟩ := L1.draw' X (by omega) (many := 3) (by decide)
    obtain ⟨d2, H3, r3, L3, d2lo, d2hi⟩ := L2.draw' X (by omega) (many := 3) (by decide)
    obtain ⟨d3, H4, r4, L4, d3lo, d3hi⟩ := L3.draw' X (by omega) (many := 8) (by decide)
    obtain ⟨x, hx⟩ : ∃ x : Nat, d1 = x := ⟨d1.toNat, by omega⟩
    subst hx
    have hx3 : x < 3 := by omega
    obtain ⟨sg, hne, c2⟩ : ∃ sg : Sg, sg ≠ .eq ∧ subV H3 (.tup [.str "<=", .str ">=", .str "!="]) (.int d2) = some (.str sg.str) := by
      have : d2 = 0 ∨ d2 = 1 ∨ d2 = 2 := by omega
      rcases this with rfl | rfl | rfl
      · exact ⟨.le, nofun, rfl⟩
      · exact ⟨.ge, nofun, rfl⟩
      · exact ⟨.ne, nofun, rfl⟩
    have hr := rowAt_get (H := R) (x := x) (by rw [L.hR]; exact hx3)
    have okr := L.okR _ (List.mem_of_getElem? hr)
    obtain ⟨l, hl⟩ : ∃ l : Lit, l = ⟨x, sg, d3⟩ := ⟨_, rfl⟩
    have g1 : subV H4 (.ref o) (.int x) = some (rv (rowAt R x)) := sub_at (itemsOf_ref L4.ho) (by rw [List.getElem?_map, hr]; rfl) (by rw [List.length_map, L.hR]; decide)
    have zr : ((rowAt R x).map V.int).length ≤ lineMax := by rw [List.length_map]; exact Nat.le_trans okr.len (by decide)
    have a2 := L4.S.a2
    by_cases hk : nob l (rowAt R x) = []
    · have c3 : cmpV H4 .NotEq (.lst ((nob l (rowAt R x)).map .int)) (.lst []) = some false := by rw [cmpN_nil, hk]; rfl
      refine ⟨H4, _, R, tr, ?_, L4, Nat.le_refl _, by omega⟩
      apply ifT'
      · repeat tb_start
      · repeat tb_start
        · show _ = some (.lst ((nob l (rowAt R x)).map .int), H4)
          refine e_comp1 (src := rv (rowAt R x)) (g := V.int) (rowAt R x) (fun s => !bar l s) V.int (fun s => [("k", .int x), ("sign", .str sg.str), ("v", .int d3), ("s", .int s)]) rfl ?_ rfl (Nat.le_trans okr.len (by decide)) (fun a _ => rfl) ?_ ?_
          · repeat tb_start
          · intro s _
            apply ts_one
            apply t_not
            repeat tb_start
            rw [hl]
            exact s436 (l := ⟨x, sg, d3⟩)
          · intro s _ _
            repeat tb_start
        repeat tb_start
        apply xs_ifE
        repeat tb_start
      repeat tb_start
    · have c3 : cmpV H4 .NotEq (.lst ((nob l (rowAt R x)).map .int)) (.lst []) = some true := by
        rw [cmpN_nil]
        cases hq : nob l (rowAt R x) with
        | nil => exact absurd hq hk
        | cons _ _ => rfl
      have hlx : l.x = x := by rw [hl]
      have hls : l.s ≠ .eq := by rw [hl]; exact hne
      obtain ⟨H5, tr', e1, S5, K5, n5, sh⟩ := enter_ok (k := 34) (l := l) (rv' := .none) L4.S hls L.hR (by rw [hlx]; exact hr) okr hk (by omega)
      rw [hlx] at S5 sh
      have e2 : cf 39 249 [.obj 287 2, .tup [.int x, .str sg.str, .int d3]] H4 = some (.bool true, H5) := by
        have := s249 (k := 38) L4.S.a2 e1
        rw [hl] at this
        exact this
      have om := L.om
      have on := L.on
      have o10 := L.o10
      have mok := L.S.mok
      have nok := L.S.nok
      have ho5 := K5.get L4.ho (by omega) (by omega) (by omega) om on
      have w1 := set_at (x := x) (v := rv (nob l (rowAt R x))) ho5 (by rw [List.length_map, L.hR]; decide) (by rw [List.length_map, L.hR]; exact hx3)
      have okk : RowOK (nob l (rowAt R x)) := okr.filter hk
      have hR' : (R.set x (nob l (rowAt R x))).length = 3 := by rw [List.length_set]; exact L.hR
      have eR : (R.map rv).set x (rv (nob l (rowAt R x))) = (R.set x (nob l (rowAt R x))).map rv := by rw [List.map_set]
      have hb : ∃ es, tr' = tr ++ es ∧ es.length ≤ 1 ∧ (∀ e ∈ es, e.x < 3) ∧ undo es.reverse ((R.set x (nob l (rowAt R x))).map fv) = R.map fv := by
        rcases sh with ⟨h1, h2⟩ | h1
        · exact ⟨[], by simp [h2], by decide, by simp, by rw [h1, set_same hr]; rfl⟩
        · refine ⟨_, h1, Nat.le_of_ble_eq_true rfl, by intro e he; simp at he; subst he; exact hx3, ?_⟩
          show ((R.set x (nob l (rowAt R x))).map fv).set x (fv (rowAt R x)) = _
          rw [← rowAt_map_set, List.set_set, set_same hr]
      obtain ⟨es, b1, b2, b3, b4⟩ := hb
      have S6 : SH (H5.set o (.lst ((R.map rv).set x (rv (nob l (rowAt R x)))))) m nw (R.set x (nob l (rowAt R x))) F tr' (mkOf (q :: lv)) false cl := S5.set (by omega) (by omega) (by omega) (by omega) om on
      refine ⟨_, j + 1 + 1 + 1 + 1, _, tr', ?_, L4.keep S6 (by rw [← eR]; exact get_self ho5) ((Keep2.of K5).trans (Keep2.set (by simp))) hR' (rows_set L.okR okk) (by rw [b1]; exact L.good.more b4 b3), by omega, by rw [b1, List.length_append]; omega⟩
      apply ifT'
      · repeat tb_start
      · repeat tb_start
        · show _ = some (.lst ((nob l (rowAt R x)).map .int), H4)
          refine e_comp1 (src := rv (rowAt R x)) (g := V.int) (rowAt R x) (fun s => !bar l s) V.int (fun s => [("k", .int x), ("sign", .str sg.str), ("v", .int d3), ("s", .int s)]) rfl ?_ rfl (Nat.le_trans okr.len (by decide)) (fun a _ => rfl) ?_ ?_
          · repeat tb_start
          · intro s _
            apply ts_one
            apply t_not
            repeat tb_start
            rw [hl]
            exact s436 (l := ⟨x, sg, d3⟩)
          · intro s _ _
            repeat tb_start
        repeat tb_start
        apply xs_ifT
        · repeat tb_start
        · repeat tb_start
          · exact w1
          repeat tb_start
        repeat tb_start
      repeat tb_start
  · have c1 : cmpV H1 .Eq (.int d) (.int 1) = some false := by rw [cmp_int]; simp [h1]
    refine ⟨H1, _, R, tr, ?_, L1, by omega, by omega⟩
    apply ifF'
    repeat tb_start
end
section
variable {cells ls : List Int} {F R : List (List Int)} {hp hp' : Hp} {o m nw j a : Nat} {tr : List Ent} {q : Nat × List (List Int)} {lv : Lv} {rs : List Nat} {fl : Bool} {cl : List V} {scr lap : V}
theorem s_name' {cx : Cx} {Φ : Call} {n : Nat} {sc : Nm} {env env1 : En} {hp hp1 : Hp} {p p1 : Pos} {x : Str} {e : Expr} {v : V} (h : evM cx Φ n sc e env hp = some (v, hp1)) (hm : mayStore sc x = true) (he : put x v env = env1) : exS cx Φ (n + 1) sc (.Assign [.Name x p] e p1) env hp = some (.next, env1, hp1) := by
  subst he; exact s_name h hm
theorem lap4 (X : FixOK cells ls F) (L : LI cells ls F hp o m nw j R tr lv rs fl cl) (hj : j ≤ 300) :
    ∃ hp' a b, Two a b ∧ exS theCx (cf 39) 47 lawN (lapS 4) (envL scr F o lap) hp = some (.next, envA scr F o lap (a : Nat), hp') ∧ LI cells ls F hp' o m nw (j + 1) R tr lv rs fl cl := by
  obtain ⟨d, H1, r1, L1, dlo, dhi⟩ := L.draw' X (by omega) (many := 2) (by decide)
  obtain ⟨a, b, h2, hd⟩ : ∃ a b : Nat, Two a b ∧ d = a := by
    have : d = 0 ∨ d = 1 := by omega
    rcases this with rfl | rfl
    · exact ⟨0, 1, .inl ⟨rfl, rfl⟩, rfl⟩
    · exact ⟨1, 0, .inr ⟨rfl, rfl⟩, rfl⟩
  subst hd
  refine ⟨H1, a, b, h2, ?_, L1⟩
  apply s_name'
  repeat tb_start
theorem lap5 {b : Nat} (X : FixOK cells ls F) (L : LI cells ls F hp o m nw j R tr (q :: lv) rs false cl) (h2 : Two a b) (htr : tr.length ≤ 100) :
    ∃ hp' R' tr' fl' cl', exS theCx (cf 39) 46 lawN (lapS 5) (envA scr F o lap (a : Nat)) hp = some (.next, envA scr F o lap (a : Nat), hp') ∧ LI cells ls F hp' o m nw j R' tr' (q :: lv) rs fl' cl' ∧ tr'.length ≤ tr.length + 2 := by
  have b1 : binop .Sub (.int 1) (.int (a : Nat)) = some (.int (b : Nat)) := by
    rcases h2 with ⟨rfl, rfl⟩ | ⟨rfl, rfl⟩ <;> rfl
  rcases led_ok (k := 32) L.S L.h9 L.h1 L.ho L.o10 L.om L.on X.ll L.hR X.FL L.okR X.okF h2 (by omega) with ⟨hp', R', les, e1, e2, e3, e4, e5, e6, e7, e8, e9⟩ | ⟨hp', cl', e1, e2, e3, e4⟩
  · refine ⟨hp', R', _, false, cl, ?_, L.keep e2 e3 e4 e5 e6 (L.good.more e9 (by intro e he; obtain ⟨e', he', rfl⟩ := List.mem_map.mp he; exact e8 e' he')), by simp; exact e7⟩
    apply ifF'
    apply t_notT
    repeat tb_start
  · refine ⟨hp', R, tr, true, cl', ?_, L.keep e2 e3 e4 L.hR L.okR L.good, by omega⟩
    apply ifF'
    apply t_notT
    repeat tb_start
theorem lap6 (X : FixOK cells ls F) (L : LI cells ls F hp o m nw j R tr (q :: lv) rs fl cl) (htr : tr.length ≤ 100) (hlv : lv.length ≤ 100) :
    LapR cells ls F (fun o' hp' => exS theCx (cf 39) 45 lawN (lapS 6) (envA scr F o lap (a : Nat)) hp = some (.next, envA scr F o' lap (a : Nat), hp')) j tr.length (lv.length + 1) := by
  have hsl := L.stk.len
  have a2 := L.S.a2
  cases fl with
  | false =>
    refine ⟨hp, o, m, nw, j, R, tr, _, rs, cl, ?_, L, Nat.le_refl _, Nat.le_refl _, by simp⟩
    apply ifF'
    repeat tb_start
  | true =>
    cases rs with
    | nil => simp at hsl
    | cons r rs =>
      obtain ⟨μ, Q⟩ := q
      obtain ⟨hp', base, run, p8, L2, hb⟩ := popL (k := 38) X L htr hlv
      have zl : (rs.reverse.map V.ref ++ [V.ref r]).length ≤ lineMax := by simp at hsl ⊢; unfold lineMax; omega
      refine ⟨_, r, _, _, j, Q, base, lv, rs, [], ?_, L2, Nat.le_refl _, hb, by omega⟩
      apply ifT'
      · repeat tb_start
      · repeat tb_start
      repeat tb_start
theorem lap7 (X : FixOK cells ls F) (L : LI cells ls F hp o m nw j R tr lv rs fl cl) (hj : j ≤ 300) :
    ∃ hp', exS theCx (cf 39) 44 lawN (lapS 7) (envA scr F o lap (a : Nat)) hp = some (.next, envA scr F o lap (a : Nat), hp') ∧ LI cells ls F hp' o m nw (j + 2) R tr lv rs fl cl := by
  obtain ⟨x, e⟩ := s476 (k := 33) L.S L.h0 (by omega) X.cl L.h9 L.h1 L.ho L.o10 X.ll L.hR X.FL L.okR X.okF
  refine ⟨_, ?_, (L.feed (j + 2)).app x⟩
  apply ifF'
  apply t_notT
  repeat tb_start
theorem lap8 (X : FixOK cells ls F) (L : LI cells ls F hp o m nw j R tr lv rs fl cl) :
    exS theCx (cf 39) 43 lawN (lapS 8) (envA scr F o lap (a : Nat)) hp = some (.next, envA scr F o lap (a : Nat), hp) := by
  have hR := L.hR
  have a2 := L.S.a2
  have io := itemsOf_ref L.ho
  have zR : (R.map rv).length ≤ lineMax := by rw [List.length_map, hR]; decide
  apply ifF'
  apply t_cmp
  repeat tb_start
  · refine e_comp1 (src := .none) (g := fun (i : Nat) => V.int i) (List.range 3) (fun _ => true) (fun (i : Nat) => dv (fv (rowAt R i))) (fun (i : Nat) => [("store", .obj 287 2), ("k", .int i)]) rfl ?_ rfl (by decide) (fun a _ => rfl) ?_ ?_
    · apply i_range rfl (k := 3)
      repeat tb_start
      decide
    · intro i _
      repeat tb_start
    · intro i hi _
      have hd := dom_ok (k := 38) L.S (x := i) hR (by simpa using hi)
      repeat tb_start
  repeat tb_start
  · refine e_comp1 (src := .ref o) (g := rv) R (fun _ => true) (fun r => dv (fv r)) (fun r => [("row", rv r)]) rfl ?_ ?_ (by rw [hR]; decide) (fun a _ => rfl) ?_ ?_
    · repeat tb_start
    · exact stands_ref L.ho
    · intro r _
      repeat tb_start
    · intro r hr _
      have hd := s64 (k := 37) (hp := hp) (L.okR r hr).asc (Nat.le_trans (L.okR r hr).len (by decide))
      repeat tb_start
  exact domsN_eq hR
/-- one lap -/
theorem lap_ok (X : FixOK cells ls F) (L : LI cells ls F hp o m nw j R tr lv rs false cl) (hj : j ≤ 250) (htr : tr.length ≤ 90) (hlv : lv.length ≤ 90) :
    LapR cells ls F (fun o' hp' => ∃ a : Nat, exSs theCx (cf 39) 52 lawN (forB (lawS 6)) (envL scr F o lap) hp = some (.next, envA scr F o' lap (a : Nat), hp')) (j + 8) (tr.length + 3) (lv.length + 1) := by
  obtain ⟨h0, o0, m0, n0, j0, R0, t0, l0, rs0, c0, e0, L0, b0, b0', b0''⟩ := lap0 (scr := scr) (lap := lap) X L (by omega) (by omega) (by omega)
  obtain ⟨h1, h2, rs2, e1, e2, L2⟩ := lap12 (scr := scr) (lap := lap) X L0 (by omega) (by omega)
  obtain ⟨h3, j3, R3, t3, e3, L3, b3, b3'⟩ := lap3 (scr := scr) (lap := lap) X L2 (by omega) (by omega)
  obtain ⟨h4, a, b, two, e4, L4⟩ := lap4 (scr := scr) (lap := lap) X L3 (by omega)
  obtain ⟨h5, R5, t5, f5, c5, e5, L5, b5⟩ := lap5 (scr := scr) (lap := lap) X L4 two (by omega)
  obtain ⟨h6, o6, m6, n6, j6, R6, t6, l6, rs6, c6, e6, L6, bj, b6, b6'⟩ := lap6 (scr := scr) (lap := lap) (a := a) X L5 (by omega) (by omega)
  obtain ⟨h7, e7, L7⟩ := lap7 (scr := scr) (lap := lap) (a := a) X L6 (by omega)
  have e8 := lap8 (scr := scr) (lap := lap) (a := a) X L7
  refine ⟨h7, o6, m6, n6, _, R6, t6, l6, rs6, c6, ⟨a, ?_⟩, L7, by omega, by omega, by omega⟩
  have run : exSs theCx (cf 39) 52 lawN [lapS 0, lapS 1, lapS 2, lapS 3, lapS 4, lapS 5, lapS 6, lapS 7, lapS 8] (envL scr F o lap) hp = some (.next, envA scr F o6 lap (a : Nat), h7) :=
    x_next e0 (x_next e1 (x_next e2 (x_next e3 (x_next e4 (x_next e5 (x_next e6 (x_next e7 (x_next e8 x_nil))))))))
  have hbody : forB (lawS 6) = [lapS 0, lapS 1, lapS 2, lapS 3, lapS 4, lapS 5, lapS 6, lapS 7, lapS 8] := rfl
  rw [hbody]
  exact run
end
theorem cf_sup {k : Nat} {i : Nat} {vs us : List V} {hp hp1 hp2 hp3 hp4 : Hp} {w : V} {env : En} (hl : (V.obj 420 i :: vs).length = theSu.params.length) (h1 : evEs theCx (cf k) 60 theSu.names theSu.args (theSu.params.zip (.obj 420 i :: vs)) hp = some (us, hp1)) (h2 : cf k 305 (.obj 420 i :: us) hp1 = some (w, hp2))
    (h3 : exSs theCx (cf k) 60 theSu.names theSu.rest (theSu.params.zip (.obj 420 i :: vs)) hp2 = some (.next, env, hp3)) (h4 : hp3 = hp4) : cf (k + 1) 356 (.obj 420 i :: vs) hp = some (.none, hp4) := by
  subst h4
  show (if 420 = theSu.C ∧ (V.obj 420 i :: vs).length = theSu.params.length then _ else _) = _
  rw [if_pos ⟨rfl, hl⟩]
  show (evEs theCx (cf k) 60 theSu.names theSu.args (theSu.params.zip (.obj 420 i :: vs)) hp).bind _ = _
  rw [h1]
  show (cf k 305 (.obj 420 i :: us) hp1).bind _ = _
  rw [h2]
  show (exSs theCx (cf k) 60 theSu.names theSu.rest (theSu.params.zip (.obj 420 i :: vs)) hp2).bind _ = _
  rw [h3]; rfl
section
variable {k : Nat} {hp : Hp} {ls : List Int}
noncomputable def propF : List (Str × V) := [("number", .int (-1)), ("scope", .tup [.int 0, .int 1, .int 2]), ("strength", .str "weak")]
theorem s305 (h9 : hp[9]? = some (.ins [])) : cf (k + 1) 305 [.obj 420 9, .lst [.int 0, .int 1, .int 2], .str "weak"] hp = some (.none, hp.set 9 (.ins propF)) := by
  have e1 := set_attr (cx := theCx) (C := 420) (attr := "number") (v := .int (-1)) (fs' := [("number", .int (-1))]) h9 rfl rfl
  have g1 := get_self (o := .ins [("number", V.int (-1))]) h9
  have e2 := set_attr (cx := theCx) (C := 420) (attr := "scope") (v := .tup [.int 0, .int 1, .int 2]) (fs' := [("number", .int (-1)), ("scope", .tup [.int 0, .int 1, .int 2])]) g1 rfl rfl
  have g2 := get_self (o := .ins [("number", V.int (-1)), ("scope", .tup [.int 0, .int 1, .int 2])]) g1
  have e3 := set_attr (cx := theCx) (C := 420) (attr := "strength") (v := .str "weak") (fs' := propF) g2 rfl rfl
  have t1 : builtinV (hp.set 9 (.ins [("number", V.int (-1))])) "tuple" [.lst [.int 0, .int 1, .int 2]] = some (.tup [.int 0, .int 1, .int 2]) := rfl
  apply cf_nxt (mkFn 305 (methAt 20 0) false) (by decide) rfl rfl rfl
  show exSs _ _ 60 _ (_ :: _) [("self", _), ("scope", _), ("strength", _)] _ = _
  repeat tb_start
  rw [List.set_set, List.set_set]
theorem s356 (hl : hp.length = 9) (h1 : hp[1]? = some (.lst (ls.map .int))) (h3 : ls.length = 3) (h0 : ∀ v ∈ ls, 0 ≤ v) : cf (k + 2) 356 [.obj 420 9, .lst [.int 0, .int 1, .int 2], .ref 1] (hp ++ [.ins []]) = some (.none, hp ++ [.ins (taskF ls)]) := by
  have q9 : (hp ++ [AO.ins []])[9]? = some (.ins []) := by rw [← hl]; exact hget_last
  have q1 := get_app (r := .ins []) h1
  have b := s305 (k := k) q9
  have g9 := get_self (o := .ins propF) q9
  have g1 := get_set (o := .ins propF) q1 (i := 9) (by decide)
  have e := set_attr (cx := theCx) (C := 420) (attr := "lasts") (v := .tup (ls.map .int)) (fs' := taskF ls) g9 rfl rfl
  have ln : builtinV ((hp ++ [AO.ins []]).set 9 (.ins propF)) "len" [.tup [.int 0, .int 1, .int 2]] = some (.int 3) := rfl
  apply cf_sup
  · rfl
  · show evEs _ _ 60 _ (_ :: _) [("self", _), ("starts", _), ("lasts", _)] _ = _
    repeat tb_start
  · exact b
  · show exSs _ _ 60 _ (_ :: _) [("self", _), ("starts", _), ("lasts", _)] _ = _
    repeat tb_start
    · exact s340 (k := k) (n := 3) g1 h3 (by decide) h0
    repeat tb_start
  · rw [List.set_set]
    have : (9 : Nat) = hp.length := hl.symm
    rw [this]
    exact hset_last
theorem s151 {x0 x1 : AO} : cf (k + 1) 151 [.obj 287 2] [x0, x1, .ins []] = some (.none, [x0, x1, .ins (insF 6 7 false []), .lst [], .lst [], .lst [], .lst [], .im 0]) := by
  apply cf_nxt (mkFn 151 (methAt 19 0) false) (by decide) rfl rfl rfl
  show exSs _ _ 60 _ (_ :: _) [("self", _)] _ = _
  repeat tb_start
end
section
variable {cx : Cx} {Φ : Call} {n : Nat} {sc sc' : Nm} {env en : En} {hp hp1 hp2 hp3 : Hp} {p p1 p2 p3 : Pos}
theorem c_stepT {scope : Scope} {t elt : Expr} {ifs : List Expr} {src v x : V} {l : List V} (hb : bindC scope.names t v (captured scope.names env) = some en) (ht : tsts cx Φ n sc' ifs en hp = some (true, hp1)) (he : evE cx Φ n sc' elt en hp1 = some (x, hp2)) (hh : hp2 = hp3) (hs : stands src l hp3 = true) :
    ((bindC scope.names t v (captured scope.names env)).bind fun en => (tsts cx Φ n sc' ifs en hp).bind fun (b, hq1) => if b then (evE cx Φ n sc' elt en hq1).bind fun (x, hq2) => guardR (stands src l hq2) (some ([x], hq2)) else guardR (stands src l hq1) (some ([], hq1))) = some ([x], hp3) := by
  subst hh
  rw [hb, Option.bind_some, ht, Option.bind_some]
  dsimp only
  rw [if_pos rfl, he, Option.bind_some]
  dsimp only
  rw [hs]
  rfl
theorem s_tup' {ts : List Expr} {k : Nat} {e : Expr} {l : List V} {xs : List Str} {env1 : En} (ht : tgtNames ts = some xs) (hs : swapOk e = true) (h : evM cx Φ n sc e env hp = some (.tup l, hp1)) (hc : (decide (l.length = xs.length ∧ xs.Nodup ∧ xs.all (mayStore sc) ∧ l.length ≤ lineMax)) = true) (he : putAll xs l env = env1) :
    exS cx Φ (n + 1) sc (.Assign [.Tuple ts k p] e p1) env hp = some (.next, env1, hp1) := by
  subst he
  exact s_tup hs h ht (of_decide_eq_true hc)
end
noncomputable def cellsOf (ns : List Int) : List Int := (ns.take 60).map fun c => c.fmod 1000003
theorem cells_len (ns : List Int) : (cellsOf ns).length ≤ 100 := by
  rw [cellsOf, List.length_map, List.length_take]; omega
noncomputable abbrev env1L (scr : V) : En := [("script", scr), ("feed", .ref 0)]
noncomputable abbrev env2L (scr : V) : En := [("script", scr), ("feed", .ref 0), ("lasts", .ref 1), ("store", .obj 287 2), ("stack", .ref 8)]
noncomputable abbrev env3L (scr : V) (F : List (List Int)) : En := [("script", scr), ("feed", .ref 0), ("lasts", .ref 1), ("store", .obj 287 2), ("stack", .ref 8), ("firsts", .lst (F.map rv))]
noncomputable abbrev env4L (scr : V) (F : List (List Int)) : En := [("script", scr), ("feed", .ref 0), ("lasts", .ref 1), ("store", .obj 287 2), ("stack", .ref 8), ("firsts", .lst (F.map rv)), ("task", .obj 420 9)]
noncomputable abbrev env5L (scr : V) (F : List (List Int)) (o : Nat) : En := [("script", scr), ("feed", .ref 0), ("lasts", .ref 1), ("store", .obj 287 2), ("stack", .ref 8), ("firsts", .lst (F.map rv)), ("task", .obj 420 9), ("own", .ref o)]
theorem law0 (ns : List Int) (hn : ns.length ≤ 63) : exS theCx (cf 39) 59 lawN (lawS 0) [("script", .lst (ns.map .int))] [] = some (.next, env1L (.lst (ns.map .int)), [feedO (cellsOf ns) 0]) := by
  have zn : (ns.map V.int).length ≤ lineMax := by rw [List.length_map]; unfold lineMax; omega
  have sl : sliceV (.lst (ns.map .int)) none (some 60) (ns.map .int) = some ((ns.take 60).map .int) := by
    show (if 0 ≤ (60 : Int) ∧ (ns.map V.int).length ≤ lineMax then some ((ns.map V.int).take (60 : Int).toNat) else none) = _
    rw [if_pos ⟨by decide, zn⟩, List.map_take]; rfl
  have zt : ((ns.take 60).map V.int).length ≤ lineMax := by rw [List.length_map, List.length_take]; unfold lineMax; omega
  have zt' : (ns.take 60).length ≤ lineMax := by rw [List.length_take]; unfold lineMax; omega
  apply s_name' (v := .ref 0)
  · refine (M_dict (names := ["cells", "at"]) (l := [.lst ((cellsOf ns).map .int), .int 0]) (hp1 := []) rfl ?_ ?_ ?_).trans rfl
    · repeat tb_start
      · rw [show (V.lst ((cellsOf ns).map .int)) = .lst (((ns.take 60).filter fun _ => true).map fun c => V.int (c.fmod 1000003)) by rw [filter_true, cellsOf, List.map_map]; rfl]
        refine e_comp1 (src := .lst ((ns.take 60).map .int)) (g := V.int) (ns.take 60) (fun _ => true) (fun c => .int (c.fmod 1000003)) (fun c => [("cell", .int c)]) rfl ?_ rfl zt' (fun a _ => rfl) ?_ ?_
        · repeat tb_start
        · intro c _
          repeat tb_start
        · intro c _ _
          repeat tb_start
      repeat tb_start
    · exact ⟨rfl, by decide, Nat.le_of_ble_eq_true rfl, by simp⟩
    · simp
  repeat tb_start
theorem law1 (scr : V) (f : AO) : exS theCx (cf 39) 58 lawN (lawS 1) (env1L scr) [f] = some (.next, env2L scr, [f, .lst [], .ins (insF 6 7 false []), .lst [], .lst [], .lst [], .lst [], .im 0, .lst []]) := by
  have e : cf 39 151 [.obj 287 ([f] ++ [AO.lst []]).length] ([f] ++ [AO.lst []] ++ [.ins []]) = some (.none, [f, .lst [], .ins (insF 6 7 false []), .lst [], .lst [], .lst [], .lst [], .im 0]) := s151 (k := 38)
  refine s_tup' (l := [.ref 1, .obj 287 2, .ref 8]) (xs := ["lasts", "store", "stack"]) rfl rfl ?_ rfl rfl
  apply M_tup
  · apply ms_cons
    · exact M_lst0
    apply ms_cons
    · apply M_plain rfl
      exact e_cls (C := 287) (f := 151) (hp1 := [f] ++ [AO.lst []]) rfl rfl rfl es_nil e
    apply ms_cons
    · exact M_lst0
    · exact ms_nil
  · exact Nat.le_of_ble_eq_true rfl
section
variable {hp : Hp} {cells ls : List Int} {j : Nat} {scr : V} {F : List (List Int)}
theorem law2 (h0 : hp[0]? = some (feedO cells j)) (hj : j ≤ 100) (hc : cells.length ≤ 100) :
    ∃ F, F.length = 3 ∧ (∀ r ∈ F, RowOK r) ∧ exS theCx (cf 39) 57 lawN (lawS 2) (env2L scr) hp = some (.next, env3L scr F, hp.set 0 (feedO cells (j + 18))) := by
  obtain ⟨r0, ok0, e0⟩ := s441 (k := 37) h0 (by omega) hc
  obtain ⟨r1, ok1, e1⟩ := s441 (k := 37) (get_self (o := feedO cells (j + 6)) h0) (by omega) hc
  rw [List.set_set] at e1
  obtain ⟨r2, ok2, e2⟩ := s441 (k := 37) (get_self (o := feedO cells (j + 12)) h0) (by omega) hc
  rw [List.set_set] at e2
  refine ⟨[r0, r1, r2], rfl, ?_, ?_⟩
  · intro r hr
    simp only [List.mem_cons, List.not_mem_nil, or_false] at hr
    rcases hr with rfl | rfl | rfl <;> assumption
  · apply s_name' (v := .lst ([r0, r1, r2].map rv))
    · apply M_plain rfl
      refine e_comp (src := .none) (l := rangeV 3) (k := [r0, r1, r2].map rv) (hp1 := hp) (hp2 := hp.set 0 (feedO cells (j + 18))) rfl (i_range rfl (k := 3) ?_ (by decide)) ?_ (Nat.le_of_ble_eq_true rfl)
      · repeat tb_start
      · show compL _ [.int 0, .int 1, .int 2] _ = some ([rv r0] ++ ([rv r1] ++ ([rv r2] ++ [])), _)
        refine compL_cons (hp1 := hp.set 0 (feedO cells (j + 6))) ?_ (compL_cons (hp1 := hp.set 0 (feedO cells (j + 12))) ?_ (compL_cons (hp1 := hp.set 0 (feedO cells (j + 18))) ?_ rfl))
        · apply c_stepT (en := [("feed", .ref 0), ("k", .int 0)]) rfl
          repeat tb_start
        · apply c_stepT (en := [("feed", .ref 0), ("k", .int 1)]) rfl
          repeat tb_start
        · apply c_stepT (en := [("feed", .ref 0), ("k", .int 2)]) rfl
          repeat tb_start
    repeat tb_start
theorem law3 (h0 : hp[0]? = some (feedO cells j)) (h1 : hp[1]? = some (.lst [])) (hj : j ≤ 100) (hc : cells.length ≤ 100) :
    ∃ ls : List Int, ls.length = 3 ∧ (∀ v ∈ ls, 0 ≤ v) ∧ exS theCx (cf 39) 56 lawN (lawS 3) (env3L scr F) hp = some (.next, env3L scr F, (hp.set 0 (feedO cells (j + 3))).set 1 (.lst (ls.map .int))) := by
  have step : ∀ (J : Nat) (l : List Int) (many least : Int) (d : Int), J ≤ 200 → d = drawI cells J many → 0 < many → l.length ≤ 10 → cf 39 429 [.ref 0, .int many] ((hp.set 0 (feedO cells J)).set 1 (.lst (l.map .int))) = some (.int d, (hp.set 0 (feedO cells (J + 1))).set 1 (.lst (l.map .int))) := by
    intro J l many least d hJ hd hm hl
    have q0 : ((hp.set 0 (feedO cells J)).set 1 (.lst (l.map .int)))[0]? = some (feedO cells J) := get_set (get_self h0) (by decide)
    have := s429 (k := 38) q0 (by omega) hm hc
    rw [← hd, List.set_comm (i := 1) (j := 0) _ _ (by decide), List.set_set] at this
    exact this
  have e0 : hp = (hp.set 0 (feedO cells j)).set 1 (.lst (([] : List Int).map .int)) := by
    rw [set_self h0]; exact (set_self h1).symm
  obtain ⟨d0, hd0⟩ : ∃ d, d = drawI cells j 4 := ⟨_, rfl⟩
  obtain ⟨d1, hd1⟩ : ∃ d, d = drawI cells (j + 1) 4 := ⟨_, rfl⟩
  obtain ⟨d2, hd2⟩ : ∃ d, d = drawI cells (j + 2) 3 := ⟨_, rfl⟩
  have n0 : 0 ≤ d0 := by rw [hd0]; exact (draw_range (by decide)).1
  have n1 : 0 ≤ d1 := by rw [hd1]; exact (draw_range (by decide)).1
  have n2 : 0 ≤ d2 := by rw [hd2]; exact (draw_range (by decide)).1
  have s0 := step j [] 4 1 d0 (by omega) hd0 (by decide) (by decide)
  have s1 := step (j + 1) [1 + d0] 4 1 d1 (by omega) hd1 (by decide) (Nat.le_of_ble_eq_true rfl)
  have s2 := step (j + 2) [1 + d0, 1 + d1] 3 0 d2 (by omega) hd2 (by decide) (Nat.le_of_ble_eq_true rfl)
  have gA : ∀ (J : Nat) (l : List Int), ((hp.set 0 (feedO cells J)).set 1 (.lst (l.map .int)))[1]? = some (.lst (l.map .int)) := fun J l => get_self (get_set h1 (by decide))
  have p0 := gA j []
  have p0' := gA (j + 1) []
  have p1 := gA (j + 1) [1 + d0]
  have p1' := gA (j + 2) [1 + d0]
  have p2 := gA (j + 2) [1 + d0, 1 + d1]
  have p2' := gA (j + 3) [1 + d0, 1 + d1]
  have z0 : (([] : List Int).map V.int).length ≤ lineMax := by decide
  have z1 : ([1 + d0].map V.int).length ≤ lineMax := Nat.le_of_ble_eq_true rfl
  have z2 : ([1 + d0, 1 + d1].map V.int).length ≤ lineMax := Nat.le_of_ble_eq_true rfl
  refine ⟨[1 + d0, 1 + d1, 0 + d2], rfl, ?_, ?_⟩
  · intro v hv
    simp only [List.mem_cons, List.not_mem_nil, or_false] at hv
    rcases hv with rfl | rfl | rfl <;> omega
  · refine s_for (src := .tup [.tup [.int 4, .int 1], .tup [.int 4, .int 1], .tup [.int 3, .int 0]]) (l := [.tup [.int 4, .int 1], .tup [.int 4, .int 1], .tup [.int 3, .int 0]]) (hp1 := hp) ?_ ?_
    · repeat tb_start
    · refine (congrArg (forL _ _ _) e0).trans ?_
      refine forL_next (env1 := env3L scr F) (hp1 := (hp.set 0 (feedO cells (j + 1))).set 1 (.lst ([1 + d0].map .int))) ?_ (forL_next (env1 := env3L scr F) (hp1 := (hp.set 0 (feedO cells (j + 2))).set 1 (.lst ([1 + d0, 1 + d1].map .int))) ?_ (forL_next (env1 := env3L scr F) (hp1 := (hp.set 0 (feedO cells (j + 3))).set 1 (.lst ([1 + d0, 1 + d1, 0 + d2].map .int))) ?_ rfl))
      · apply turn
        repeat tb_start
        rw [List.set_set]; rfl
        repeat tb_start
      · apply turn
        repeat tb_start
        rw [List.set_set]; rfl
        repeat tb_start
      · apply turn
        repeat tb_start
        rw [List.set_set]; rfl
        repeat tb_start
theorem law4 (hF : F.length = 3) (okF : ∀ r ∈ F, RowOK r) (hl : hp.length = 9) (h1 : hp[1]? = some (.lst (ls.map .int))) (l3 : ls.length = 3) (l0 : ∀ v ∈ ls, 0 ≤ v) (h2 : hp[2]? = some (.ins (insF 6 7 false []))) (h3 : hp[3]? = some (.lst [])) (h4 : hp[4]? = some (.lst [])) :
    exS theCx (cf 39) 55 lawN (lawS 4) (env3L scr F) hp = some (.next, env4L scr F, (hp.set 3 (.lst ((F.map fv).map dv))).set 4 (.lst ((F.map fv).map dv)) ++ [.ins (taskF ls)]) := by
  match F, hF with
  | [r0, r1, r2], _ =>
    have ok0 := okF r0 (by simp)
    have ok1 := okF r1 (by simp)
    have ok2 := okF r2 (by simp)
    have f0 := fun (H : Hp) => s64 (k := 37) (hp := H) ok0.asc (Nat.le_trans ok0.len (by decide))
    have f1 := fun (H : Hp) => s64 (k := 37) (hp := H) ok1.asc (Nat.le_trans ok1.len (by decide))
    have f2 := fun (H : Hp) => s64 (k := 37) (hp := H) ok2.asc (Nat.le_trans ok2.len (by decide))
    have ne : ∀ {r : List Int}, RowOK r → fv r ≠ [] := fun ok e => ok.ne ((fv_nil_iff ok.asc).mp e)
    have gA : ∀ (ds : List (List I2)), ((hp.set 3 (.lst (ds.map dv))).set 4 (.lst (ds.map dv)))[2]? = some (.ins (insF 6 7 false [])) := fun ds => get_set (get_set h2 (by decide)) (by decide)
    have gB : ∀ (ds : List (List I2)), ((hp.set 3 (.lst (ds.map dv))).set 4 (.lst (ds.map dv)))[3]? = some (.lst (ds.map dv)) := fun ds => get_set (get_self h3) (by decide)
    have gC : ∀ (ds : List (List I2)), ((hp.set 3 (.lst (ds.map dv))).set 4 (.lst (ds.map dv)))[4]? = some (.lst (ds.map dv)) := fun ds => get_self (get_set h4 (by decide))
    have nv : ∀ (ds : List (List I2)) (d : List I2), d ≠ [] → ds.length ≤ 10 → cf 39 158 [.obj 287 2, dv d] ((hp.set 3 (.lst (ds.map dv))).set 4 (.lst (ds.map dv))) = some (.int ds.length, (hp.set 3 (.lst ((ds ++ [d]).map dv))).set 4 (.lst ((ds ++ [d]).map dv))) := by
      intro ds d hd hds
      have := s158 (k := 38) (gA ds) (gB ds) (gC ds) hd (by omega) (by omega)
      rw [List.set_comm (i := 4) (j := 3) _ _ (by decide), List.set_set, List.set_set] at this
      exact this
    have e0 : (hp.set 3 (.lst (([] : List (List I2)).map dv))).set 4 (.lst (([] : List (List I2)).map dv)) = hp := by
      have := set_self h3
      show (hp.set 3 (.lst [])).set 4 (.lst []) = hp
      rw [this]; exact set_self h4
    have v0 := nv [] (fv r0) (ne ok0) (by decide)
    rw [e0] at v0
    have v1 := nv [fv r0] (fv r1) (ne ok1) (Nat.le_of_ble_eq_true rfl)
    have v2 := nv [fv r0, fv r1] (fv r2) (ne ok2) (Nat.le_of_ble_eq_true rfl)
    have m0 := h2
    have m1 := gA [fv r0]
    have m2 := gA [fv r0, fv r1]
    obtain ⟨H3, hH3⟩ : ∃ H3, H3 = (hp.set 3 (.lst (([r0, r1, r2].map fv).map dv))).set 4 (.lst (([r0, r1, r2].map fv).map dv)) := ⟨_, rfl⟩
    rw [← hH3]
    have len3 : H3.length = 9 := by rw [hH3]; simpa using hl
    have q1 : H3[1]? = some (.lst (ls.map .int)) := by rw [hH3]; exact get_set (get_set h1 (by decide)) (by decide)
    have init : cf 39 356 [.obj 420 H3.length, .lst [.int 0, .int 1, .int 2], .ref 1] (H3 ++ [.ins []]) = some (.none, H3 ++ [.ins (taskF ls)]) := by
      rw [len3]; exact s356 (k := 37) len3 q1 l3 l0
    have z : (([r0, r1, r2] : List (List Int)).map rv).length ≤ lineMax := Nat.le_of_ble_eq_true rfl
    apply s_name' (v := .obj 420 9)
    · apply M_plain rfl
      have key : ∀ {v : V}, v = .obj 420 9 → ∀ {X : Rs V}, X = some (v, H3 ++ [.ins (taskF ls)]) → X = some (.obj 420 9, H3 ++ [.ins (taskF ls)]) := fun hv _ hX => by rw [hX, hv]
      refine key (v := .obj 420 H3.length) (by rw [len3]) ?_
      refine e_cls (C := 420) (f := 356) (hp1 := H3) (vs := [.lst [.int 0, .int 1, .int 2], .ref 1]) rfl rfl rfl ?_ init
      apply es_cons
      · refine e_comp (src := .lst ([r0, r1, r2].map rv)) (l := [r0, r1, r2].map rv) (k := [.int 0, .int 1, .int 2]) (hp1 := hp) (hp2 := H3) rfl ?_ ?_ (Nat.le_of_ble_eq_true rfl)
        · repeat tb_start
        · show compL _ [rv r0, rv r1, rv r2] _ = some ([V.int 0] ++ ([V.int 1] ++ ([V.int 2] ++ [])), _)
          refine compL_cons (hp1 := (hp.set 3 (.lst ([fv r0].map dv))).set 4 (.lst ([fv r0].map dv))) ?_ (compL_cons (hp1 := (hp.set 3 (.lst ([fv r0, fv r1].map dv))).set 4 (.lst ([fv r0, fv r1].map dv))) ?_ (compL_cons (hp1 := H3) ?_ rfl))
          · have f0' := f0 hp
            apply c_stepT (en := [("store", .obj 287 2), ("first", rv r0)]) rfl
            repeat tb_start
            · exact v0
            repeat tb_start
          · have f1' := f1 ((hp.set 3 (.lst ([fv r0].map dv))).set 4 (.lst ([fv r0].map dv)))
            apply c_stepT (en := [("store", .obj 287 2), ("first", rv r1)]) rfl
            repeat tb_start
            · exact v1
            repeat tb_start
          · have f2' := f2 ((hp.set 3 (.lst ([fv r0, fv r1].map dv))).set 4 (.lst ([fv r0, fv r1].map dv)))
            apply c_stepT (en := [("store", .obj 287 2), ("first", rv r2)]) rfl
            repeat tb_start
            · exact v2
            repeat tb_start
            · exact hH3.symm
            repeat tb_start
      repeat tb_start
    repeat tb_start
theorem law5 (hl : hp.length = 10) (hF : F.length = 3) : exS theCx (cf 39) 54 lawN (lawS 5) (env4L scr F) hp = some (.next, env5L scr F 10, hp ++ [.lst (F.map rv)]) := by
  have z : (F.map rv).length ≤ lineMax := by rw [List.length_map, hF]; decide
  have e : (V.ref 10) = .ref hp.length := by rw [hl]
  rw [show env5L scr F 10 = env5L scr F hp.length by rw [hl]]
  apply s_name' (v := .ref hp.length)
  · apply M_list rfl
    repeat tb_start
    · intro l h; cases h
    repeat tb_start
  repeat tb_start
end
section
variable {cells ls : List Int} {F R : List (List Int)} {hp hp' : Hp} {o m nw j a : Nat} {tr : List Ent} {lv : Lv} {rs : List Nat} {fl : Bool} {cl : List V} {scr : V}
noncomputable def forT : Stmt → Expr
  | .For (target := t) .. => t
  | _ => .Constant .none 0 ⟨0, 0, 0, 0⟩
theorem loop_ok (X : FixOK cells ls F) {t : Expr} {l0 : List V} (ht : ∀ v o, bindT lawN t v (env5L scr F o) = some (envL scr F o v)) : ∀ (xs : List V) (hp : Hp) (o m nw j : Nat) (R : List (List Int)) (tr : List Ent) (lv : Lv) (rs : List Nat) (cl : List V), LI cells ls F hp o m nw j R tr lv rs false cl → j + 8 * xs.length ≤ 250 → tr.length + 3 * xs.length ≤ 90 → lv.length + xs.length ≤ 90 →
    LapR cells ls F (fun o' hp' => forL (fun v en hq => (bindT lawN t v en).bind fun en1 => (exSs theCx (cf 39) 52 lawN (forB (lawS 6)) en1 hq).bind fun (fl, en2, hq1) => guardR (stands .none l0 hq1) (some (fl, en2.take (env5L scr F 10).length, hq1))) xs (env5L scr F o) hp = some (.next, env5L scr F o', hp')) 250 90 90
  | [], hp, o, m, nw, j, R, tr, lv, rs, cl, L, h1, h2, h3 => ⟨hp, o, m, nw, j, R, tr, lv, rs, cl, rfl, L, by simpa using h1, by simpa using h2, by simpa using h3⟩
  | v :: xs, hp, o, m, nw, j, R, tr, lv, rs, cl, L, h1, h2, h3 => by
    rw [List.length_cons] at h1 h2 h3
    obtain ⟨hp1, o1, m1, nw1, j1, R1, tr1, lv1, rs1, cl1, ⟨a, run⟩, L1, b1, b2, b3⟩ := lap_ok (scr := scr) (lap := v) X L (by omega) (by omega) (by omega)
    obtain ⟨hp2, o2, m2, nw2, j2, R2, tr2, lv2, rs2, cl2, run2, L2, bj, b4, b5⟩ := loop_ok X ht xs hp1 o1 m1 nw1 j1 R1 tr1 lv1 rs1 cl1 L1 (by omega) (by omega) (by omega)
    refine ⟨hp2, o2, m2, nw2, j2, R2, tr2, lv2, rs2, cl2, forL_next (env1 := env5L scr F o1) (hp1 := hp1) ?_ run2, L2, bj, b4, b5⟩
    exact turn (ht v o) run rfl rfl rfl
theorem law6 (X : FixOK cells ls F) (L : LI cells ls F hp 10 m nw j F [] [] [] false cl) (hj : j ≤ 100) :
    LapR cells ls F (fun o' hp' => exS theCx (cf 39) 53 lawN (lawS 6) (env5L scr F 10) hp = some (.next, env5L scr F o', hp')) 250 90 90 := by
  obtain ⟨d, H1, r1, L1, dlo, dhi⟩ := L.draw' X (by omega) (many := 3) (by decide)
  have hlen : (rangeV (2 + d)).length ≤ 4 := by
    rw [rangeV, List.length_map, List.length_range]; omega
  obtain ⟨hp2, o2, m2, nw2, j2, R2, tr2, lv2, rs2, cl2, run2, L2, bj, b4, b5⟩ := loop_ok (scr := scr) X (t := forT (lawS 6)) (l0 := rangeV (2 + d)) (fun v o => rfl) (rangeV (2 + d)) H1 10 m nw (j + 1) F [] [] [] cl L1 (by omega) (by simp; omega) (by simp; omega)
  refine ⟨hp2, o2, m2, nw2, j2, R2, tr2, lv2, rs2, cl2, ?_, L2, bj, b4, b5⟩
  refine s_for (src := .none) (l := rangeV (2 + d)) (hp1 := H1) ?_ ?_
  · apply i_range rfl (k := 2 + d)
    repeat tb_start
    omega
  · exact run2
theorem law7 (X : FixOK cells ls F) (L : LI cells ls F hp o m nw j R tr lv rs false cl) (htr : tr.length ≤ 90) (hlv : lv.length ≤ 90) :
    ∃ hp' m' nw' fl' cl', exS theCx (cf 39) 52 lawN (lawS 7) (env5L scr F o) hp = some (.next, env5L scr F o, hp') ∧ hp'[2]? = some (.ins (insF m' nw' fl' cl')) ∧ hp'[3]? = some (.lst ((F.map fv).map dv)) := by
  have hsl := L.stk.len
  have a2 := L.S.a2
  have mok := L.S.mok
  have z8 : (rs.reverse.map V.ref).length ≤ lineMax := by rw [List.length_map, List.length_reverse, hsl]; unfold lineMax; omega
  have ln := blt_len (itemsOf_ref L.h8) z8
  rw [List.length_map, List.length_reverse, hsl] at ln
  obtain ⟨g1, g2, g3⟩ := L.good.bottom
  cases lv with
  | nil =>
    obtain ⟨e1, e2⟩ := L.good
    subst e1 e2
    have run := s270z (k := 38) (hp := hp)
    refine ⟨hp, m, nw, false, cl, ?_, a2, L.S.a3⟩
    apply s_expr
    repeat tb_start
    · exact run
    repeat tb_start
  | cons q lv =>
    rw [if_neg (by simp)] at g3
    have a5 := L.S.a5
    rw [show tr = [] ++ tr.reverse.reverse by simp] at a5
    have run := s270 (k := 38) (n := (q :: lv).length) (mk := mkOf (q :: lv)) (base := []) (rseg := tr.reverse) (by simp) (by rw [mkOf_len]; exact Nat.le_refl _) L.S.a2 L.S.a3 L.S.a4 a5 L.S.am (by rw [mkOf_len, Nat.sub_self]; exact g3) (fst_ne X) (by rw [mkOf_len]; unfold lineMax; omega) (by rw [List.length_map, L.hR]; decide)
      (fun e he => by rw [List.length_map, L.hR]; exact g2 e (by simpa using he)) (by simp; omega) (by omega) (by omega) (by omega)
    rw [g1] at run
    obtain ⟨K, run', k2, k3⟩ : ∃ K, cf 39 270 [.obj 287 2, .int ((q :: lv).length : Nat)] hp = some (.none, K) ∧ K[2]? = some (.ins (insF hp.length (hp.length + 1) false [])) ∧ K[3]? = some (.lst ((F.map fv).map dv)) :=
      ⟨_, run, get_self (get_app (get_set (get_set (get_self (get_app L.S.a2)) (by decide)) (by decide))), get_set (get_app (get_self (get_set (get_set (get_app L.S.a3) (by decide)) (by decide)))) (by decide)⟩
    refine ⟨K, hp.length, hp.length + 1, false, [], ?_, k2, k3⟩
    apply s_expr
    repeat tb_start
theorem law8 {fl : Bool} (X : FixOK cells ls F) (h2 : hp[2]? = some (.ins (insF m nw fl cl))) (h3 : hp[3]? = some (.lst ((F.map fv).map dv))) : exS theCx (cf 39) 51 lawN (lawS 8) (env5L scr F o) hp = some (.ret (.bool true), env5L scr F o, hp) := by
  have zF : (F.map rv).length ≤ lineMax := by rw [List.length_map, X.FL]; decide
  apply s_return
  repeat tb_start
  · refine e_comp1 (src := .none) (g := fun (i : Nat) => V.int i) (List.range 3) (fun _ => true) (fun (i : Nat) => dv (fv (rowAt F i))) (fun (i : Nat) => [("store", .obj 287 2), ("k", .int i)]) rfl ?_ rfl (by decide) (fun a _ => rfl) ?_ ?_
    · apply i_range rfl (k := 3)
      repeat tb_start
      decide
    · intro i _
      repeat tb_start
    · intro i hi _
      have hd : cf (38 + 1) 172 [.obj 287 2, .int i] hp = some (dv (fv (rowAt F i)), hp) := s172 h2 h3 (by rw [List.getElem?_map, rowAt_get (by rw [X.FL]; simpa using hi)]; rfl) (by rw [List.length_map, X.FL]; decide)
      repeat tb_start
  repeat tb_start
  · refine e_comp1 (src := .lst (F.map rv)) (g := rv) F (fun _ => true) (fun r => dv (fv r)) (fun r => [("first", rv r)]) rfl ?_ rfl (by rw [X.FL]; decide) (fun a _ => rfl) ?_ ?_
    · repeat tb_start
    · intro r _
      repeat tb_start
    · intro r hr _
      have hd := s64 (k := 37) (hp := hp) (X.okF r hr).asc (Nat.le_trans (X.okF r hr).len (by decide))
      repeat tb_start
  exact doms_eq X.FL
end
theorem plain (ns : List Int) (hn : ns.length ≤ 63) : ∃ hp', callF theCx theSu theFs 40 481 [.lst (ns.map .int)] [] = some (.bool true, hp') := by
  have e0 := law0 ns hn
  have hc := cells_len ns
  generalize hscr : V.lst (ns.map V.int) = scr at *
  generalize cellsOf ns = cells at *
  have e1 := law1 scr (feedO cells 0)
  obtain ⟨F, FL, okF, e2⟩ := law2 (scr := scr) (hp := [feedO cells 0, .lst [], .ins (insF 6 7 false []), .lst [], .lst [], .lst [], .lst [], .im 0, .lst []]) (j := 0) rfl (by decide) hc
  obtain ⟨ls, ll, l0, e3⟩ := law3 (scr := scr) (F := F) (hp := [feedO cells 18, .lst [], .ins (insF 6 7 false []), .lst [], .lst [], .lst [], .lst [], .im 0, .lst []]) (j := 18) rfl rfl (by decide) hc
  have e4 := law4 (scr := scr) (hp := [feedO cells 21, .lst (ls.map .int), .ins (insF 6 7 false []), .lst [], .lst [], .lst [], .lst [], .im 0, .lst []]) FL okF rfl rfl ll l0 rfl rfl rfl
  have e5 := law5 (scr := scr) (F := F) (hp := [feedO cells 21, .lst (ls.map .int), .ins (insF 6 7 false []), .lst ((F.map fv).map dv), .lst ((F.map fv).map dv), .lst [], .lst [], .im 0, .lst [], .ins (taskF ls)]) rfl FL
  have X : FixOK cells ls F := ⟨hc, ll, FL, okF⟩
  have L : LI cells ls F [feedO cells 21, .lst (ls.map .int), .ins (insF 6 7 false []), .lst ((F.map fv).map dv), .lst ((F.map fv).map dv), .lst [], .lst [], .im 0, .lst [], .ins (taskF ls), .lst (F.map rv)] 10 6 7 21 F [] [] [] false [] :=
    ⟨⟨rfl, rfl, rfl, rfl, rfl, ⟨0, rfl, Nat.le_refl _⟩, .inl rfl, .inl rfl, by decide⟩, rfl, rfl, rfl, rfl, rfl, by decide, by decide, by decide, FL, okF, trivial, ⟨rfl, rfl⟩⟩
  obtain ⟨hp6, o6, m6, n6, j6, R6, t6, l6, rs6, c6, e6, L6, bj, b1, b2⟩ := law6 (scr := scr) X L (by decide)
  obtain ⟨hp7, m7, n7, f7, c7, e7, g2, g3⟩ := law7 (scr := scr) X L6 b1 b2
  have e8 := law8 (scr := scr) (o := o6) X g2 g3
  refine ⟨hp7, ?_⟩
  have run : exSs theCx (cf 39) 60 lawN [lawS 0, lawS 1, lawS 2, lawS 3, lawS 4, lawS 5, lawS 6, lawS 7, lawS 8] [("script", scr)] [] = some (.ret (.bool true), env5L scr F o6, hp7) :=
    x_next e0 (x_next e1 (x_next e2 (x_next e3 (x_next e4 (x_next e5 (x_next e6 (x_next e7 (x_ret e8))))))))
  exact cf_ret (k := 39) (mkFn 481 (topAt 35) false) (by decide) rfl rfl rfl run rfl rfl
end Mine
end

theorem PySem.Challenge.cw_nz0024_01_holds : PySem.Challenge.rw_nz0024_01.Holds := by
  exact Mine.final Mine.plain
