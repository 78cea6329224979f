import PyProof.Rows.All
import Wide.All
import OpenK.AllK
import Wide.FinOn
import PySem.Challenge.RW_nz0019_01
set_option Elab.async false

section
open PySem PySem.W PyProof.Rows
set_option Elab.async false
namespace Mine

theorem nope {α : Type} {a : α} {P : Prop} (h : (none : Option α) = some a) : P := nomatch h
theorem nopeB {P : Prop} (h : false = true) : P := nomatch h
/-- what an abstract value is: data, or a pointer to a thing that changes -/
inductive Val where
  | d (x : PyData)
  | p (i : Nat)

/-- the key of the table of made variables -/
structure TKey where
  tag : Str
  kind : Str
  cs : List Int
  xs : List Int
  c : Int
  deriving DecidableEq

inductive MO where
  | list (xs : List PyData)
  | rcd (fs : List (Str × PyData))
  | made (kvs : List (TKey × Int))
  | inst (c : Str) (fs : List (Str × Val))

noncomputable abbrev Own := List (Addr × (Obj → Prop))
noncomputable def Ext (Z Z' : Heap) : Prop := ∀ a o, Z.get? a = some o → Z'.get? a = some o
theorem Ext.refl (Z : Heap) : Ext Z Z := fun _ _ e => e
theorem Ext.trans {Z Z' Z'' : Heap} (x : Ext Z Z') (y : Ext Z' Z'') : Ext Z Z'' := fun a o e => y a o (x a o e)

structure St (Z : Heap) (O : Own) (h : Heap) : Prop where
  sub : Ext Z h
  own : ∀ p ∈ O, Z.get? p.1 = none ∧ ∃ o, h.get? p.1 = some o ∧ p.2 o
  nd : (O.map (·.1)).Nodup

/-- a state with another heap and another count of draws -/
@[reducible] def sh (s : Shared) (h : Heap) (tk : Nat) : Shared := { s with heap := h, toks := tk }
/-- the frozen heap has grown -/
inductive Up (Z : Heap) (O : Heap → Own) (h : Heap) (F : Heap → Prop) : Prop
  | mk (Z' : Heap) (x : Ext Z Z') (st : St Z' (O Z') h) (f : F Z') : Up Z O h F

theorem get_size (h : Heap) : h.get? h.objs.size = none := by
  cases e : h.get? h.objs.size with
  | none => rfl
  | some o => exact absurd (Heap.lt_size e) (Nat.lt_irrefl _)

theorem St.step {Z h h' : Heap} {O₁ O₁' R : Own} (S : St Z (O₁ ++ R) h) (k : ∀ b o, b ∉ O₁.map (·.1) → h.get? b = some o → h'.get? b = some o)
    (n : ∀ p ∈ O₁', ∃ o, h'.get? p.1 = some o ∧ p.2 o) (nd : (O₁'.map (·.1)).Nodup) (ap : ∀ p ∈ O₁', p.1 ∈ O₁.map (·.1) ∨ h.get? p.1 = none) :
    Up Z (fun _ => O₁' ++ R) h' fun Z' => ∀ b o, h'.get? b = some o → b ∉ (O₁' ++ R).map (·.1) → Z'.get? b = some o := by
  have hnd := S.nd
  rw [List.map_append, List.nodup_append] at hnd
  obtain ⟨nd1, nd2, nd3⟩ := hnd
  have hR : ∀ q ∈ R, q.1 ∉ O₁.map (·.1) := fun q hq hm => nd3 _ hm _ (List.mem_map_of_mem hq) rfl
  have hRg : ∀ q ∈ R, ∃ o, h.get? q.1 = some o ∧ q.2 o := fun q hq => (S.own q (List.mem_append_right _ hq)).2
  have hRz : ∀ q ∈ R, Z.get? q.1 = none := fun q hq => (S.own q (List.mem_append_right _ hq)).1
  have hOz : ∀ a ∈ O₁.map (·.1), Z.get? a = none := fun a ha => by
    obtain ⟨p, hp, rfl⟩ := List.mem_map.mp ha
    exact (S.own p (List.mem_append_left _ hp)).1
  refine ⟨hideAll h' ((O₁' ++ R).map (·.1)), ?_, ⟨?_, ?_, ?_⟩, ?_⟩
  · intro a o e
    have e1 := S.sub a o e
    have n1 : a ∉ O₁.map (·.1) := fun hm => by rw [hOz a hm] at e; cases e
    refine hideAll_get _ (k a o n1 e1) fun hm => ?_
    rw [List.map_append, List.mem_append] at hm
    rcases hm with hm | hm
    · obtain ⟨p, hp, rfl⟩ := List.mem_map.mp hm
      rcases ap p hp with q | q
      · exact n1 q
      · rw [q] at e1; cases e1
    · obtain ⟨p, hp, rfl⟩ := List.mem_map.mp hm
      rw [hRz p hp] at e; cases e
  · intro a o e
    exact of_hideAll _ e
  · intro p hp
    refine ⟨hideAll_none _ (List.mem_map_of_mem hp), ?_⟩
    rcases List.mem_append.mp hp with hp | hp
    · exact n p hp
    · obtain ⟨o, e, q⟩ := hRg p hp
      exact ⟨o, k _ _ (hR p hp) e, q⟩
  · rw [List.map_append, List.nodup_append]
    refine ⟨nd, nd2, ?_⟩
    intro a ha b hb hab
    subst hab
    obtain ⟨p, hp, rfl⟩ := List.mem_map.mp ha
    obtain ⟨q, hq, e⟩ := List.mem_map.mp hb
    rcases ap p hp with x | x
    · rw [← e] at x
      exact hR q hq x
    · obtain ⟨o, eo, _⟩ := hRg q hq
      rw [e, x] at eo; cases eo
  · intro b o e hb
    exact hideAll_get _ e hb

theorem St.perm {Z h : Heap} {O O' : Own} (S : St Z O h) (p : O.Perm O') : St Z O' h :=
  ⟨S.sub, fun q hq => S.own q (p.mem_iff.mpr hq), ((p.map _).nodup_iff).mp S.nd⟩

theorem St.weak {Z h : Heap} {O O' : Own} (S : St Z O h) (f : Paired (fun (p q : Addr × (Obj → Prop)) => p.1 = q.1 ∧ ∀ o, p.2 o → q.2 o) O O') : St Z O' h := by
  have hm : O.map (·.1) = O'.map (·.1) := by
    clear S
    induction f with
    | nil => rfl
    | cons h _ ih => rw [List.map_cons, List.map_cons, h.1, ih]
  refine ⟨S.sub, ?_, hm ▸ S.nd⟩
  have h2 := S.own
  clear S hm
  induction f with
  | nil => intro q hq; cases hq
  | cons h _ ih =>
    intro q hq
    rcases List.mem_cons.mp hq with rfl | hq
    · obtain ⟨a, o, b, c⟩ := h2 _ (.head _)
      rw [h.1] at a b
      exact ⟨a, o, b, h.2 o c⟩
    · exact ih (fun p hp => h2 p (.tail _ hp)) q hq

/-- the heap has grown, no more -/
theorem St.grow {Z h h' : Heap} {O : Own} (S : St Z O h) (k : Ext h h') :
    Up Z (fun _ => O) h' fun Z' => ∀ b o, h'.get? b = some o → b ∉ O.map (·.1) → Z'.get? b = some o :=
  St.step (O₁ := []) (O₁' := []) S (fun b o _ e => k b o e) (fun _ h => nomatch h) List.nodup_nil (fun _ h => nomatch h)

theorem St.lt {Z h : Heap} {O : Own} (S : St Z O h) : ∀ a ∈ O.map (·.1), a < h.objs.size := fun a ha => by
  obtain ⟨p, hp, rfl⟩ := List.mem_map.mp ha
  obtain ⟨_, o, e, _⟩ := S.own p hp
  exact Heap.lt_size e

/-- a new thing that stays as it is -/
theorem St.push {Z h : Heap} {O : Own} (S : St Z O h) (o : Obj) (hf : o.isFreed = false) :
    Up Z (fun _ => O) (h.push o) fun Z' => Z'.get? h.objs.size = some o := by
  obtain ⟨Z', a, b, c⟩ := S.grow (h' := h.push o) fun b o' e => Heap.get?_push_of_some _ e
  exact ⟨Z', a, b, c _ _ (Heap.get?_push_size _ hf) fun hm => Nat.lt_irrefl _ (S.lt _ hm)⟩

/-- a new thing that will change -/
theorem St.pushOwn {Z h : Heap} {O : Own} (S : St Z O h) (o : Obj) (hf : o.isFreed = false) (P : Obj → Prop) (hP : P o) :
    St Z ((h.objs.size, P) :: O) (h.push o) := by
  refine ⟨fun a o' e => Heap.get?_push_of_some _ (S.sub a o' e), ?_, ?_⟩
  · intro p hp
    rcases List.mem_cons.mp hp with rfl | hp
    · refine ⟨?_, o, Heap.get?_push_size _ hf, hP⟩
      cases e : Z.get? h.objs.size with
      | none => rfl
      | some o' => exact absurd (Heap.lt_size (S.sub _ _ e)) (Nat.lt_irrefl _)
    · obtain ⟨a, o', b, c⟩ := S.own p hp
      exact ⟨a, o', Heap.get?_push_of_some _ b, c⟩
  · rw [List.map_cons, List.nodup_cons]
    exact ⟨fun hm => Nat.lt_irrefl _ (S.lt _ hm), S.nd⟩

theorem St.upd {Z h h' : Heap} {a : Addr} {P P' : Obj → Prop} {O : Own} (S : St Z ((a, P) :: O) h) (k : ∀ b o, b ≠ a → h.get? b = some o → h'.get? b = some o) (n : ∃ o, h'.get? a = some o ∧ P' o) :
    Up Z (fun _ => (a, P') :: O) h' fun Z' => ∀ b o, h'.get? b = some o → b ∉ ((a, P') :: O).map (·.1) → Z'.get? b = some o :=
  St.step (O₁ := [(a, P)]) (O₁' := [(a, P')]) S (fun b o hb e => k b o (fun q => hb (by simp [q])) e) (fun p hp => by rw [List.mem_singleton.mp hp]; exact n) (by simp) (fun p hp => by rw [List.mem_singleton.mp hp]; exact .inl (by simp))

theorem St.drop {Z h : Heap} {O₁ O : Own} (S : St Z (O₁ ++ O) h) : St Z O h :=
  ⟨S.sub, fun p hp => S.own p (List.mem_append_right _ hp), by have := S.nd; rw [List.map_append, List.nodup_append] at this; exact this.2.1⟩

theorem St.freeze {Z h : Heap} {a : Addr} {P : Obj → Prop} {O : Own} (S : St Z ((a, P) :: O) h) : ∃ o Z', P o ∧ Ext Z Z' ∧ St Z' O h ∧ Z'.get? a = some o := by
  obtain ⟨_, o, e, p⟩ := S.own _ (.head _)
  obtain ⟨Z', x, y, z⟩ := St.step (O₁ := [(a, P)]) (O₁' := []) (h' := h) S (fun b o hb e => e) (fun _ h => nomatch h) List.nodup_nil (fun _ h => nomatch h)
  refine ⟨o, Z', p, x, y, z a o e fun hm => ?_⟩
  have := S.nd
  rw [List.map_cons, List.nodup_cons] at this
  exact this.1 hm

end Mine
end
section
open PySem PySem.W PyProof.Rows
set_option Elab.async false
namespace Mine

structure Lc where
  x : Addr
  dx : Addr
  m : MO
noncomputable abbrev Sg := List Lc
noncomputable def abs (S : Sg) : List MO := S.map (·.m)
noncomputable def Grow (S S' : Sg) : Prop := ∀ (i : Nat) (l : Lc), S[i]? = some l → ∃ l', S'[i]? = some l' ∧ l'.x = l.x ∧ l'.dx = l.dx
theorem Grow.refl (S : Sg) : Grow S S := fun _ l e => ⟨l, e, rfl, rfl⟩
theorem Grow.trans {S S' S'' : Sg} (a : Grow S S') (b : Grow S' S'') : Grow S S'' := fun i l e => by
  obtain ⟨l', e', q1, q2⟩ := a i l e
  obtain ⟨l'', e'', q3, q4⟩ := b i l' e'
  exact ⟨l'', e'', q3.trans q1, q4.trans q2⟩

noncomputable abbrev tupOf (vs : Array Value) (n : Nat) : Obj := { cls := .type "tuple", data := .seq vs n }
mutual
/-- a value bears data, its lists and tuples plain ones -/
inductive RD (Z : Heap) : Value → PyData → Prop
  | none : RD Z .none .none
  | bool (b) : RD Z (.bool b) (.bool b)
  | int (i t) : RD Z (.int i t) (.int i)
  | str (x t) : RD Z (.str x t) (.str x)
  | list {a : Addr} {vs : Array Value} {n : Nat} {xs : List PyData} : Z.get? a = some (listOf vs n) → RDs Z vs.toList xs → RD Z (.ref a) (.list xs)
  | tuple {a : Addr} {vs : Array Value} {n : Nat} {xs : List PyData} : Z.get? a = some (tupOf vs n) → RDs Z vs.toList xs → RD Z (.ref a) (.tuple xs)
inductive RDs (Z : Heap) : List Value → List PyData → Prop
  | nil : RDs Z [] []
  | cons {v vs x xs} : RD Z v x → RDs Z vs xs → RDs Z (v :: vs) (x :: xs)
end
mutual
theorem RD.ext {Z Z' : Heap} {v : Value} {x : PyData} (r : RD Z v x) (k : Ext Z Z') : RD Z' v x := match r with
  | .none => .none
  | .bool b => .bool b
  | .int i t => .int i t
  | .str x t => .str x t
  | .list a d => .list (k _ _ a) (d.ext k)
  | .tuple a d => .tuple (k _ _ a) (d.ext k)
theorem RDs.ext {Z Z' : Heap} {v : List Value} {x : List PyData} (r : RDs Z v x) (k : Ext Z Z') : RDs Z' v x := match r with
  | .nil => .nil
  | .cons a b => .cons (a.ext k) (b.ext k)
end
mutual
theorem RD.reads {Z : Heap} {v : Value} {x : PyData} (r : RD Z v x) : ∃ as, Reads Z v x as := match r with
  | .none => ⟨_, .none⟩
  | .bool b => ⟨_, .bool b⟩
  | .int i t => ⟨_, .int i t⟩
  | .str x t => ⟨_, .str x t⟩
  | .list a d => let ⟨_, e⟩ := d.reads; ⟨_, .list a rfl rfl e⟩
  | .tuple a d => let ⟨_, e⟩ := d.reads; ⟨_, .tuple a rfl rfl e⟩
theorem RDs.reads {Z : Heap} {v : List Value} {x : List PyData} (r : RDs Z v x) : ∃ as, ReadsAll Z v x as := match r with
  | .nil => ⟨_, .nil⟩
  | .cons a b => let ⟨_, e⟩ := a.reads; let ⟨_, f⟩ := b.reads; ⟨_, .cons e f⟩
end
mutual
theorem RD.unique {Z : Heap} {v : Value} {x y : PyData} (r : RD Z v x) (q : RD Z v y) : x = y := by
  match r with
  | .none => cases q; rfl
  | .bool b => cases q; rfl
  | .int i t => cases q; rfl
  | .str x t => cases q; rfl
  | .list a d =>
    cases q with
    | list a' d' => rw [a] at a'; cases a'; rw [d.unique d']
    | tuple a' d' => rw [a] at a'; exact absurd (congrArg (fun o : Obj => o.cls) (Option.some.inj a')) (by simp)
  | .tuple a d =>
    cases q with
    | list a' d' => rw [a] at a'; exact absurd (congrArg (fun o : Obj => o.cls) (Option.some.inj a')) (by simp)
    | tuple a' d' => rw [a] at a'; cases a'; rw [d.unique d']
theorem RDs.unique {Z : Heap} {v : List Value} {x y : List PyData} (r : RDs Z v x) (q : RDs Z v y) : x = y := by
  match r with
  | .nil => cases q; rfl
  | .cons a b => cases q with | cons a' b' => rw [a.unique a', b.unique b']
end
mutual
/-- a change of a dict leaves data as it is -/
theorem RD.keeps {h h' : Heap} {d : Addr} {o : Obj} {es : Array DictEntry} {ep : Nat} (ho : h.get? d = some o) (hd : o.data = .dict es ep) (hs : Heap.SameBut d h h') {v : Value} {x : PyData} (r : RD h v x) : RD h' v x := match r with
  | .none => .none
  | .bool b => .bool b
  | .int i t => .int i t
  | .str x t => .str x t
  | .list (a := a) e q => .list ((hs.2 a (by rintro rfl; rw [ho] at e; cases e; cases hd)).trans e) (q.keeps ho hd hs)
  | .tuple (a := a) e q => .tuple ((hs.2 a (by rintro rfl; rw [ho] at e; cases e; cases hd)).trans e) (q.keeps ho hd hs)
theorem RDs.keeps {h h' : Heap} {d : Addr} {o : Obj} {es : Array DictEntry} {ep : Nat} (ho : h.get? d = some o) (hd : o.data = .dict es ep) (hs : Heap.SameBut d h h') {v : List Value} {x : List PyData} (r : RDs h v x) : RDs h' v x := match r with
  | .nil => .nil
  | .cons a b => .cons (a.keeps ho hd hs) (b.keeps ho hd hs)
end
theorem RDs.uncons {Z : Heap} {v : Value} {vs : List Value} {xs : List PyData} (h : RDs Z (v :: vs) xs) : ∃ x xs', xs = x :: xs' ∧ RD Z v x ∧ RDs Z vs xs' := by
  cases h with
  | cons a b => exact ⟨_, _, rfl, a, b⟩
theorem RDs.uncons' {Z : Heap} {vs : List Value} {x : PyData} {xs : List PyData} (h : RDs Z vs (x :: xs)) : ∃ v vs', vs = v :: vs' ∧ RD Z v x ∧ RDs Z vs' xs := by
  cases h with
  | cons a b => exact ⟨_, _, rfl, a, b⟩
theorem RDs.nil_left {Z : Heap} {xs : List PyData} (h : RDs Z [] xs) : xs = [] := by cases h; rfl
theorem RDs.nil_right {Z : Heap} {vs : List Value} (h : RDs Z vs []) : vs = [] := by cases h; rfl
theorem RDs.length {Z : Heap} : ∀ {vs : List Value} {xs : List PyData}, RDs Z vs xs → vs.length = xs.length
  | [], _, h => by rw [h.nil_left]; rfl
  | v :: vs, _, h => by
    obtain ⟨x, xs', rfl, _, b⟩ := h.uncons
    rw [List.length_cons, List.length_cons, b.length]
theorem RDs.append {Z : Heap} : ∀ {vs ws : List Value} {xs ys : List PyData}, RDs Z vs xs → RDs Z ws ys → RDs Z (vs ++ ws) (xs ++ ys)
  | [], _, _, _, h, k => by rw [h.nil_left]; exact k
  | v :: vs, _, _, _, h, k => by
    obtain ⟨x, xs', rfl, a, b⟩ := h.uncons
    exact RDs.cons a (b.append k)
theorem RDs.get {Z : Heap} : ∀ {vs : List Value} {xs : List PyData} {i : Nat} {x : PyData}, RDs Z vs xs → xs[i]? = some x → ∃ v, vs[i]? = some v ∧ RD Z v x
  | [], _, i, x, h, e => by rw [h.nil_left] at e; simp at e
  | v :: vs, _, i, x, h, e => by
    obtain ⟨y, xs', rfl, a, b⟩ := h.uncons
    cases i with
    | zero => simp at e; subst e; exact ⟨v, rfl, a⟩
    | succ i => simp at e; simpa using b.get e
theorem RDs.snoc {Z : Heap} {vs : List Value} {v : Value} {xs : List PyData} {x : PyData} (h : RDs Z vs xs) (k : RD Z v x) : RDs Z (vs ++ [v]) (xs ++ [x]) := h.append (RDs.cons k RDs.nil)
theorem RDs.take {Z : Heap} : ∀ {vs : List Value} {xs : List PyData} (n : Nat), RDs Z vs xs → RDs Z (vs.take n) (xs.take n)
  | [], _, n, h => by rw [h.nil_left]; simp; exact RDs.nil
  | v :: vs, _, 0, h => by simp; exact RDs.nil
  | v :: vs, _, n + 1, h => by
    obtain ⟨y, xs', rfl, a, b⟩ := h.uncons
    simp only [List.take_succ_cons]
    exact RDs.cons a (b.take n)
theorem RDs.drop {Z : Heap} : ∀ {vs : List Value} {xs : List PyData} (n : Nat), RDs Z vs xs → RDs Z (vs.drop n) (xs.drop n)
  | [], _, n, h => by rw [h.nil_left]; simp; exact RDs.nil
  | v :: vs, _, 0, h => by simpa using h
  | v :: vs, _, n + 1, h => by
    obtain ⟨y, xs', rfl, a, b⟩ := h.uncons
    simpa using b.drop n

noncomputable def RV (Z : Heap) (S : Sg) (v : Value) : Val → Prop
  | .d x => RD Z v x
  | .p i => ∃ l, S[i]? = some l ∧ v = .ref l.x
theorem RV.mono {Z Z' : Heap} {S S' : Sg} {v : Value} {d : Val} (r : RV Z S v d) (k : Ext Z Z') (g : Grow S S') : RV Z' S' v d := by
  cases d with
  | d x => exact RD.ext r k
  | p i =>
    obtain ⟨l, e, rfl⟩ := r
    obtain ⟨l', e', q, _⟩ := g i l e
    exact ⟨l', e', by rw [q]⟩
noncomputable def RVs (Z : Heap) (S : Sg) (vs : List Value) (ds : List Val) : Prop := Paired (RV Z S) vs ds
theorem paired_mono {α β : Type} {F G : α → β → Prop} (h : ∀ a b, F a b → G a b) : ∀ {l₁ : List α} {l₂ : List β}, Paired F l₁ l₂ → Paired G l₁ l₂
  | _, _, .nil => .nil
  | _, _, .cons a b => .cons (h _ _ a) (paired_mono h b)
theorem RVs.mono {Z Z' : Heap} {S S' : Sg} {vs : List Value} {ds : List Val} (r : RVs Z S vs ds) (k : Ext Z Z') (g : Grow S S') : RVs Z' S' vs ds := paired_mono (fun _ _ x => x.mono k g) r

/-- the fields of a made thing, as its dict bears them -/
noncomputable def FieldsAre (Z : Heap) (S : Sg) (es : List DictEntry) (fs : List (Str × Val)) : Prop :=
  Paired (fun (e : DictEntry) (f : Str × Val) => (∃ t, e.key = .str f.1 t) ∧ RV Z S e.val f.2) es fs
noncomputable def RecAre (Z : Heap) (es : List DictEntry) (fs : List (Str × PyData)) : Prop :=
  Paired (fun (e : DictEntry) (f : Str × PyData) => (∃ t, e.key = .str f.1 t) ∧ RD Z e.val f.2) es fs

noncomputable def tkD (k : TKey) : PyData := .tuple [.str k.tag, .tuple [.str k.kind, .tuple (k.cs.map .int), .tuple (k.xs.map .int), .int k.c]]

/-- the table of made variables; hk: the hash that the model gives a key -/
noncomputable def MadeAre (hk : TKey → Int) (Z : Heap) (es : List DictEntry) (kvs : List (TKey × Int)) : Prop :=
  ∃ xs : List (TKey × Addr × Value), es = xs.map (fun x => (⟨hk x.1, .ref x.2.1, x.2.2⟩ : DictEntry)) ∧ (∀ x ∈ xs, RD Z (.ref x.2.1) (tkD x.1) ∧ (tkD x.1).canLay0 = true) ∧ (xs.map (·.1)).Nodup ∧
    Paired (fun (x : TKey × Addr × Value) (f : TKey × Int) => x.1 = f.1 ∧ ∃ t, x.2.2 = .int f.2 t) xs kvs

structure Wd where
  cA : Str → Option Addr
  hk : TKey → Int

noncomputable def mres (W : Wd) (Z : Heap) (S : Sg) (l : Lc) : Own :=
  match l.m with
  | .list xs => [(l.x, fun o => ∃ vs n, o = listOf vs n ∧ RDs Z vs.toList xs)]
  | .rcd fs => [(l.x, fun o => ∃ es n, o = dictOf es n ∧ RecAre Z es fs)]
  | .made kvs => [(l.x, fun o => 3 < l.x ∧ ∃ es n, o = dictOf es n ∧ MadeAre W.hk Z es kvs)]
  | .inst c fs => [(l.x, fun o => ∃ C, W.cA c = some C ∧ o = instObj C l.dx), (l.dx, fun o => ∃ es n, o = dictOf es n ∧ FieldsAre Z S es fs)]

noncomputable def HR (W : Wd) (Z : Heap) (S : Sg) : Own := S.flatMap (mres W Z S)

theorem RecAre.ext {Z Z' : Heap} {es fs} (r : RecAre Z es fs) (k : Ext Z Z') : RecAre Z' es fs := paired_mono (fun _ _ x => ⟨x.1, x.2.ext k⟩) r
theorem FieldsAre.mono {Z Z' : Heap} {S S' : Sg} {es fs} (r : FieldsAre Z S es fs) (k : Ext Z Z') (g : Grow S S') : FieldsAre Z' S' es fs := paired_mono (fun _ _ x => ⟨x.1, x.2.mono k g⟩) r
theorem MadeAre.ext {hk} {Z Z' : Heap} {es fs} (r : MadeAre hk Z es fs) (k : Ext Z Z') : MadeAre hk Z' es fs := let ⟨xs, a, b, c⟩ := r; ⟨xs, a, fun x hx => ⟨(b x hx).1.ext k, (b x hx).2⟩, c⟩

noncomputable abbrev Wk (p q : Addr × (Obj → Prop)) : Prop := p.1 = q.1 ∧ ∀ o, p.2 o → q.2 o
theorem wk_refl : ∀ O : Own, Paired Wk O O
  | [] => .nil
  | _ :: r => .cons ⟨rfl, fun _ h => h⟩ (wk_refl r)
theorem paired_append {α β : Type} {F : α → β → Prop} : ∀ {a c : List α} {b d : List β}, Paired F a b → Paired F c d → Paired F (a ++ c) (b ++ d)
  | _, _, _, _, .nil, k => k
  | _, _, _, _, .cons h t, k => .cons h (paired_append t k)
theorem mres_mono {W : Wd} {Z Z' : Heap} {S S' : Sg} (k : Ext Z Z') (g : Grow S S') (l : Lc) : Paired Wk (mres W Z S l) (mres W Z' S' l) := by
  obtain ⟨x, dx, m⟩ := l
  cases m with
  | list xs => exact .cons ⟨rfl, fun o ⟨vs, n, e, r⟩ => ⟨vs, n, e, r.ext k⟩⟩ .nil
  | rcd fs => exact .cons ⟨rfl, fun o ⟨vs, n, e, r⟩ => ⟨vs, n, e, r.ext k⟩⟩ .nil
  | made fs => exact .cons ⟨rfl, fun o ⟨h, vs, n, e, r⟩ => ⟨h, vs, n, e, r.ext k⟩⟩ .nil
  | inst c fs => exact .cons ⟨rfl, fun _ h => h⟩ (.cons ⟨rfl, fun o ⟨vs, n, e, r⟩ => ⟨vs, n, e, r.mono k g⟩⟩ .nil)
theorem HR_mono' {W : Wd} {Z Z' : Heap} {S S' : Sg} (k : Ext Z Z') (g : Grow S S') : ∀ T : Sg, Paired Wk (T.flatMap (mres W Z S)) (T.flatMap (mres W Z' S'))
  | [] => .nil
  | l :: r => by simp only [List.flatMap_cons]; exact paired_append (mres_mono k g l) (HR_mono' k g r)

/-- the same abstract heap, read where more stands -/
theorem St.mono {W : Wd} {Z Z' h : Heap} {S S' T : Sg} {R : Own} (s : St Z' (T.flatMap (mres W Z S) ++ R) h) (k : Ext Z Z') (g : Grow S S') : St Z' (T.flatMap (mres W Z' S') ++ R) h :=
  s.weak (paired_append (HR_mono' k g T) (wk_refl R))

theorem perm_focus {α β : Type} (f : α → List β) : ∀ (l : List α) (i : Nat) (a : α), l[i]? = some a → (l.flatMap f).Perm (f a ++ (l.eraseIdx i).flatMap f)
  | [], _, _, e => by simp at e
  | x :: r, 0, a, e => by simp at e; subst e; simp
  | x :: r, i + 1, a, e => by
    have ih := perm_focus f r i a (by simpa using e)
    simp only [List.flatMap_cons, List.eraseIdx_cons_succ]
    refine (List.Perm.append_left _ ih).trans ?_
    rw [← List.append_assoc, ← List.append_assoc]
    exact List.Perm.append_right _ List.perm_append_comm

theorem St.focus {W : Wd} {Z h : Heap} {S T : Sg} {R : Own} {i : Nat} {l : Lc} (e : T[i]? = some l) :
    St Z (T.flatMap (mres W Z S) ++ R) h ↔ St Z (mres W Z S l ++ ((T.eraseIdx i).flatMap (mres W Z S) ++ R)) h := by
  have p := List.Perm.append_right R (perm_focus (mres W Z S) T i l e)
  rw [List.append_assoc] at p
  exact ⟨fun s => s.perm p, fun s => s.perm p.symm⟩

end Mine
end
section
open PySem PySem.W PyProof.Rows
set_option Elab.async false
namespace Mine

noncomputable def M (α : Type) := List MO → Option (α × List MO)
noncomputable def M.bind {α β : Type} (c : M α) (f : α → M β) : M β := fun σ => match c σ with
  | none => none
  | some (a, σ') => f a σ'
noncomputable def M.ret {α : Type} (a : α) : M α := fun σ => some (a, σ)
noncomputable instance : Monad M where
  pure := M.ret
  bind := M.bind
noncomputable def stop {α : Type} : M α := fun _ => none
noncomputable def ofO {α : Type} : Option α → M α
  | some a => pure a
  | none => stop

/- small tools: a guard, parts of values -/
noncomputable def gd {α : Type} (c : Bool) (x : α) : Option α := if c then some x else none
noncomputable def intP : PyData → Option Int
  | .int a => some a
  | _ => none
noncomputable def strP : PyData → Option Str
  | .str a => some a
  | _ => none
noncomputable def lstP : PyData → Option (List PyData)
  | .list a => some a
  | _ => none
noncomputable def tupP : PyData → Option (List PyData)
  | .tuple a => some a
  | _ => none
noncomputable def boolP : PyData → Option Bool
  | .bool a => some a
  | _ => none
noncomputable def fstL {α : Type} : List α → Option (α × List α)
  | [] => none
  | a :: r => some (a, r)
noncomputable def endL {α : Type} : List α → Option Unit
  | [] => some ()
  | _ :: _ => none
noncomputable def one {α : Type} (l : List α) : Option α := (fstL l).bind fun p => (endL p.2).bind fun _ => some p.1
noncomputable def two {α : Type} (l : List α) : Option (α × α) := (fstL l).bind fun p => (one p.2).bind fun b => some (p.1, b)
noncomputable def three {α : Type} (l : List α) : Option (α × α × α) := (fstL l).bind fun p => (two p.2).bind fun b => some (p.1, b)
noncomputable def four {α : Type} (l : List α) : Option (α × α × α × α) := (fstL l).bind fun p => (three p.2).bind fun b => some (p.1, b)

noncomputable abbrev Rho := List (Str × Val)
/-- whom a call calls -/
inductive Callee where
  | fn (f : Str)
  | mth (c m : Str)
  deriving DecidableEq
noncomputable abbrev Calls := Callee → List Val → M Val
noncomputable def fieldNames : List Str := ["vars", "tolds", "goal", "shown", "flat", "made"]
noncomputable abbrev Names := List (Str × NameKind)

noncomputable def litC : Const → Option PyData
  | .none => some .none
  | .bool b => some (.bool b)
  | .int i => some (.int i)
  | .str s => some (.str s)
  | _ => none

noncomputable def Val.data? : Val → Option PyData
  | .d x => some x
  | .p _ => none
noncomputable def ptV : Val → Option Nat
  | .p i => some i
  | .d _ => none
noncomputable def intV (v : Val) : Option Int := v.data?.bind intP
noncomputable def allD : List Val → Option (List PyData)
  | [] => some []
  | .d x :: r => (allD r).map (x :: ·)
  | .p _ :: _ => none
noncomputable def allInts : List PyData → Option (List Int)
  | [] => some []
  | .int i :: r => (allInts r).map (i :: ·)
  | _ => none

/-- the value as data: a list that changes is read as it stands -/
noncomputable def seen (σ : List MO) : Val → Option PyData
  | .d x => some x
  | .p i => match σ[i]? with
    | some (.list xs) => some (.list xs)
    | _ => none
noncomputable def itemsOf : PyData → Option (List PyData)
  | .list xs => some xs
  | .tuple xs => some xs
  | _ => none

noncomputable def isVarK : NameKind → Bool
  | .local | .cell | .free => true
  | _ => false

noncomputable def isOwnK : NameKind → Bool
  | .local | .cell => true
  | _ => false

noncomputable def badName (x : Str) : Bool := x == ("__debug__" : Str) || x == ("__classdict__" : Str)
noncomputable def nameD (G : Str → Option PyData) (sc : Names) (ρ : Rho) (x : Str) : Option Val :=
  if badName x then none else match sc.lookup x with
  | some .globalImplicit => (G x).map .d
  | some k => if isVarK k then ρ.lookup x else none
  | none => none

noncomputable def okInt (a : Int) : Bool := decide (-(2 : Int) ^ 40 < a) && decide (a < (2 : Int) ^ 40)
noncomputable def okLen (n : Nat) : Bool := decide (n ≤ 4096)

noncomputable def int2 {α : Type} (a b : Val) (f : Int → Int → Option α) : Option α := (intV a).bind fun x => (intV b).bind fun y => f x y
noncomputable def addD (σ : List MO) (a b : Val) : Option PyData := match intV a with
  | some x => (intV b).map fun y => .int (x + y)
  | none => (seen σ a).bind fun u => (lstP u).bind fun xs => (seen σ b).bind fun v => (lstP v).bind fun ys => gd (okLen xs.length && okLen ys.length) (.list (xs ++ ys))
noncomputable def mulD (a b : Val) : Option PyData := (intV b).bind fun y => match intV a with
  | some x => gd (okInt x && okInt y) (.int (x * y))
  | none => a.data?.bind fun u => (lstP u).bind fun xs => gd (okLen xs.length && decide (0 ≤ y) && decide (y ≤ 4096)) (.list (List.replicate y.toNat xs).flatten)
noncomputable def binD (op : Operator) (σ : List MO) (a b : Val) : Option PyData :=
  match op with
  | .Add => addD σ a b
  | .Sub => int2 a b fun x y => some (.int (x - y))
  | .Mult => mulD a b
  | .FloorDiv => int2 a b fun x y => gd (okInt x && okInt y && y != 0) (.int (x.fdiv y))
  | .Mod => int2 a b fun x y => gd (y != 0) (.int (x.fmod y))
  | .Pow => int2 a b fun x y => gd (x == 10 && y == 1000) (.int (10 ^ 1000))
  | _ => none

noncomputable def eqOk (x : PyData) : Bool := SeqAt.shaped x
noncomputable def b2d (b : Bool) : PyData := .bool b

noncomputable def intsOf? : List PyData → Option (List Int) := allInts
noncomputable def keyOf? (d : PyData) : Option TKey :=
  (tupP d).bind fun l => (two l).bind fun q => (strP q.1).bind fun t => (tupP q.2).bind fun l => (four l).bind fun q => (strP q.1).bind fun k =>
  (tupP q.2.1).bind fun cs => (tupP q.2.2.1).bind fun xs => (intP q.2.2.2).bind fun c => (allInts cs).bind fun cs => (allInts xs).bind fun xs =>
  gd (decide (cs.length ≤ 64) && decide (xs.length ≤ 64) && PyData.strOk t && PyData.strOk k) ⟨t, k, cs, xs, c⟩
noncomputable def madeM : MO → Option (List (TKey × Int))
  | .made kvs => some kvs
  | _ => none
noncomputable def rcdM : MO → Option (List (Str × PyData))
  | .rcd fs => some fs
  | _ => none
noncomputable def lstM : MO → Option (List PyData)
  | .list xs => some xs
  | _ => none
noncomputable def instM : MO → Option (Str × List (Str × Val))
  | .inst c fs => some (c, fs)
  | _ => none
noncomputable def inD (a b : Val) : Option Bool := a.data?.bind fun x => b.data?.bind fun y => (itemsOf y).bind fun ys => gd (eqOk x && eqOk y) (ys.any fun y => PyData.eqv y x)
noncomputable def notInD (σ : List MO) (a b : Val) : Option Bool := match ptV b with
  | none => (inD a b).map fun b => !b
  | some i => σ[i]?.bind fun m => (madeM m).bind fun kvs => a.data?.bind fun x => (keyOf? x).bind fun k => some (!(kvs.lookup k).isSome)
noncomputable def cmpD (op : CmpOp) (σ : List MO) (a b : Val) : Option Bool :=
  match op with
  | .Eq => (seen σ a).bind fun x => (seen σ b).bind fun y => gd (eqOk x && eqOk y) (PyData.eqv x y)
  | .NotEq => (seen σ a).bind fun x => (seen σ b).bind fun y => gd (eqOk x && eqOk y) (!PyData.eqv x y)
  | .Lt => int2 a b fun x y => some (decide (x < y))
  | .LtE => int2 a b fun x y => some (decide (x ≤ y))
  | .Gt => int2 a b fun x y => some (decide (y < x))
  | .GtE => int2 a b fun x y => some (decide (y ≤ x))
  | .In => inD a b
  | .NotIn => notInD σ a b
  | _ => none

noncomputable def truthD (v : Val) : Option Bool := v.data?.bind boolP

/-- an item by a place from either end -/
noncomputable def atD (xs : List PyData) (i : Int) : Option PyData :=
  if i < 0 then (if decide (-(xs.length : Int) ≤ i) && decide (-(2 : Int) ^ 40 < i) then xs[(i + xs.length).toNat]? else none) else (if decide (i < 2 ^ 40) then xs[i.toNat]? else none)
noncomputable def strItem (s : Str) (k : Int) : Option PyData := if decide (0 ≤ k) && decide (k < s.length) && decide (s.length ≤ 64) then (s.cps[k.toNat]?).map fun c => .str ⟨#[c]⟩ else none
noncomputable def seqItem (σ : List MO) (a : Val) (k : Int) : Option PyData := match a.data?.bind strP with
  | some s => strItem s k
  | none => (seen σ a).bind fun x => (itemsOf x).bind fun xs => if okLen xs.length then atD xs k else none
noncomputable def objItem (m : MO) (x : PyData) : Option PyData := match m with
  | .rcd fs => (strP x).bind fun n => fs.lookup n
  | .made kvs => (keyOf? x).bind fun k => (kvs.lookup k).map .int
  | _ => none
noncomputable def itemD (σ : List MO) (a i : Val) : Option PyData := i.data?.bind fun x => match intP x with
  | some k => seqItem σ a k
  | none => (ptV a).bind fun p => σ[p]?.bind fun m => objItem m x

/-- a slice of a list -/
noncomputable def cutD (xs : List PyData) (lo hi : Option Int) : List PyData :=
  (xs.drop (lo.elim 0 (clipAt xs.length))).take (hi.elim xs.length (clipAt xs.length) - lo.elim 0 (clipAt xs.length))
noncomputable def sliceD (σ : List MO) (a : Val) (lo hi : Option Int) : Option PyData :=
  (seen σ a).bind fun x => (lstP x).bind fun xs => gd (okLen xs.length) (.list (cutD xs lo hi))

noncomputable def attrD (σ : List MO) (a : Val) (n : Str) : Option Val :=
  (ptV a).bind fun i => σ[i]?.bind fun m => (instM m).bind fun q => if fieldNames.contains n then q.2.lookup n else none

/-- built-in functions over values -/
noncomputable def maxI (a b : Int) : Int := if a < b then b else a
noncomputable def lenB (σ : List MO) (vs : List Val) : Option PyData := (one vs).bind fun a => (seen σ a).bind fun x => (itemsOf x).bind fun xs => gd (okLen xs.length) (.int xs.length)
noncomputable def absB (vs : List Val) : Option PyData := (one vs).bind fun v => (intV v).bind fun a => some (.int a.natAbs)
noncomputable def intB (vs : List Val) : Option PyData := (one vs).bind fun v => (truthD v).bind fun b => some (.int (if b then 1 else 0))
noncomputable def tupB (σ : List MO) (vs : List Val) : Option PyData := (one vs).bind fun a => (seen σ a).bind fun x => (lstP x).bind fun xs => gd (okLen xs.length) (.tuple xs)
noncomputable def lstB (vs : List Val) : Option PyData := (one vs).bind fun v => v.data?.bind fun x => (tupP x).bind fun xs => gd (okLen xs.length) (.list xs)
noncomputable def sumB (vs : List Val) : Option PyData := (one vs).bind fun v => v.data?.bind fun x => (lstP x).bind fun xs => (allInts xs).bind fun ns => some (.int ns.sum)
noncomputable def pairB (v : Val) : Option (Int × Int) := v.data?.bind fun x => (tupP x).bind fun xs => (two xs).bind fun q => (intP q.1).bind fun a => (intP q.2).bind fun b => some (a, b)
noncomputable def maxL (v : Val) : Option PyData := v.data?.bind fun x => (lstP x).bind fun xs => (allInts xs).bind fun ns => (fstL ns).bind fun q => some (.int (q.2.foldl (fun a b => if a < b then b else a) q.1))
noncomputable def maxB (vs : List Val) : Option PyData := match one vs with
  | none => (two vs).bind fun q => int2 q.1 q.2 fun a b => some (.int (if a < b then b else a))
  | some v => match pairB v with
    | some q => some (.int (if q.1 < q.2 then q.2 else q.1))
    | none => maxL v
noncomputable def minB (vs : List Val) : Option PyData := (one vs).bind fun v => (pairB v).bind fun q => some (.int (if q.2 < q.1 then q.2 else q.1))
inductive BK where
  | len | abs | int | tuple | list | sum | max | min
noncomputable def bkTab : List (Str × BK) := [("len", .len), ("abs", .abs), ("int", .int), ("tuple", .tuple), ("list", .list), ("sum", .sum), ("max", .max), ("min", .min)]
noncomputable def bkD (σ : List MO) (vs : List Val) : BK → Option PyData
  | .len => lenB σ vs
  | .abs => absB vs
  | .int => intB vs
  | .tuple => tupB σ vs
  | .list => lstB vs
  | .sum => sumB vs
  | .max => maxB vs
  | .min => minB vs
noncomputable def builtinD (σ : List MO) (f : Str) (vs : List Val) : Option PyData := (bkTab.lookup f).bind (bkD σ vs)
noncomputable def builtinNames : List Str := ["len", "abs", "int", "tuple", "list", "sum", "max", "min"]

/-- the tuples that are sorted already, each item once: all that the program asks of sorted(set(..)) here -/
noncomputable def risers : List (List Int) := [[0], [1], [2], [0, 1], [0, 2], [1, 2], [0, 1, 2]]
/-- sorted(set(..)) of a tuple of few small ints -/
noncomputable def sortedSetD (v : Val) : Option PyData := v.data?.bind fun x => (tupP x).bind fun xs => (allInts xs).bind fun ns => gd (risers.contains ns) (.list (ns.map .int))

noncomputable def isBoolD : PyData → Option Bool
  | .bool _ => some true
  | .int _ => some false
  | .tuple _ => some false
  | _ => none
noncomputable def isTupD : PyData → Option Bool
  | .tuple _ => some true
  | .bool _ => some false
  | _ => none
noncomputable def isinstD (v : Val) (t : Str) : Option Bool := v.data?.bind fun x => if t == ("bool" : Str) then isBoolD x else if t == ("tuple" : Str) then isTupD x else none

inductive Src where
  | fix (xs : List PyData)
  | ptr (i : Nat)
noncomputable def Src.at (σ : List MO) (k : Nat) : Src → Option (Option PyData)
  | .fix xs => some xs[k]?
  | .ptr i => σ[i]?.bind fun m => (lstM m).bind fun xs => some xs[k]?

noncomputable def upI (a n : Nat) : List Int := (List.range n).map fun (k : Nat) => (a : Int) + k

/-- a name bound anew -/
noncomputable def bindR (x : Str) (v : Val) (ρ : Rho) : Rho := (x, v) :: ρ.filter fun q => q.1 != x
/-- what a store into a target binds; v: data -/
noncomputable def bindN (sc : Names) (t : Expr) (v : Val) (ρ : Rho) : Option Rho := match t with
  | .Name x _ => gd ((sc.lookup x).any isOwnK) (bindR x v ρ)
  | _ => none
noncomputable def bindDs (sc : Names) : List Expr → List PyData → Rho → Option Rho
  | [], xs, ρ => (endL xs).bind fun _ => some ρ
  | t :: ts, xs, ρ => (fstL xs).bind fun q => (bindN sc t (.d q.1) ρ).bind fun ρ' => bindDs sc ts q.2 ρ'
noncomputable def bindD (sc : Names) (t : Expr) (x : PyData) (ρ : Rho) : Option Rho := match t with
  | .Name n p => bindN sc (.Name n p) (.d x) ρ
  | .Tuple ts _ _ => (tupP x).bind fun xs => bindDs sc ts xs ρ
  | _ => none
noncomputable def bindV (sc : Names) (t : Expr) (v : Val) (ρ : Rho) : Option Rho := match t with
  | .Name n p => bindN sc (.Name n p) v ρ
  | t => v.data?.bind fun x => bindD sc t x ρ
noncomputable def bindVs (sc : Names) : List Expr → List Val → Rho → Option Rho
  | [], vs, ρ => (endL vs).bind fun _ => some ρ
  | t :: ts, vs, ρ => (fstL vs).bind fun q => (bindV sc t q.1 ρ).bind fun ρ' => bindVs sc ts q.2 ρ'

noncomputable def evList (ev : Expr → M Val) : List Expr → M (List Val)
  | [] => pure []
  | e :: r => do
    let v ← ev e
    let vs ← evList ev r
    pure (v :: vs)

noncomputable def boolD (ev : Expr → M Val) (op : BoolOp) : List Expr → M Val
  | [] => stop
  | [e] => ev e
  | e :: r => do
    let v ← ev e
    let b ← ofO (truthD v)
    match op, b with
    | .And, false => pure v
    | .Or, true => pure v
    | _, _ => boolD ev op r

/-- a loop over a source from the place k; at most m turns -/
noncomputable def loopC (src : Src) (body : PyData → M (List PyData)) : Nat → Nat → M (List PyData)
  | 0, _ => stop
  | m + 1, k => fun σ => match src.at σ k with
    | none => none
    | some none => some ([], σ)
    | some (some x) => (do
      let ys ← body x
      let zs ← loopC src body m (k + 1)
      pure (ys ++ zs) : M (List PyData)) σ

noncomputable def testsC (ev : Expr → M Val) : List Expr → M Bool
  | [] => pure true
  | e :: r => do
    let v ← ev e
    let b ← ofO (truthD v)
    if b then testsC ev r else pure false

noncomputable def lim : Nat := 5000

noncomputable def getσ {α : Type} (f : List MO → Option α) : M α := fun σ => match f σ with
  | some a => some (a, σ)
  | none => none

noncomputable def iterOf (σ : List MO) (v : Val) : Option Src := match ptV v with
  | some i => σ[i]?.bind fun m => (lstM m).bind fun _ => some (.ptr i)
  | none => v.data?.bind fun x => (itemsOf x).bind fun xs => gd (okLen xs.length) (.fix xs)

noncomputable def okSmall (a : Int) : Bool := decide (0 ≤ a) && decide (a ≤ 4096)

noncomputable def range1 (b : Int) : Option Src := gd (okSmall b) (.fix ((upI 0 b.toNat).map .int))
noncomputable def range2 (a b : Int) : Option Src := gd (okSmall a && okSmall b) (.fix ((upI a.toNat (b - a).toNat).map .int))
noncomputable def rangeD (vs : List Val) : M Src := match one vs with
  | some v => ofO ((intV v).bind range1)
  | none => ofO ((two vs).bind fun q => int2 q.1 q.2 range2)
noncomputable def zipO (xs ys : List PyData) : Option Src := gd (okLen xs.length && okLen ys.length) (.fix ((xs.zip ys).map fun q => .tuple [q.1, q.2]))
noncomputable def zipD (vs : List Val) : M Src := ofO ((two vs).bind fun q => q.1.data?.bind fun x => (itemsOf x).bind fun xs => q.2.data?.bind fun y => (tupP y).bind fun ys => zipO xs ys)
noncomputable def enumD (vs : List Val) : M Src := ofO ((one vs).bind fun v => v.data?.bind fun x => (lstP x).bind fun xs => gd (okLen xs.length) (.fix (xs.zipIdx.map fun q => .tuple [.int q.2, q.1])))
noncomputable def isTup : Expr → Bool
  | .Tuple .. => true
  | _ => false
/-- the head of a for: the names range, zip, enumerate are read here alone -/
noncomputable def iterPlain (ev : Expr → M Val) (e : Expr) : M Src := do
  let v ← ev e
  getσ fun σ => iterOf σ v
noncomputable def iterCall (ev : Expr → M Val) (sc : Names) (tup : Bool) (f : Str) (p : Pos) (as : List Expr) (ks : List Keyword) (pos : Pos) : M Src :=
  if sc.lookup f == some .globalImplicit && ks.isEmpty && decide (as.length ≤ 8) then
    if f == ("range" : Str) then evList ev as >>= rangeD
    else if f == ("zip" : Str) && tup then evList ev as >>= zipD
    else if f == ("enumerate" : Str) && tup then evList ev as >>= enumD
    else iterPlain ev (.Call (.Name f p) as ks pos)
  else iterPlain ev (.Call (.Name f p) as ks pos)
noncomputable def evIter (ev : Expr → M Val) (sc : Names) (tup : Bool) (e : Expr) : M Src := match e with
  | .Call f as ks pos => (match f with
    | .Name f p => iterCall ev sc tup f p as ks pos
    | f => iterPlain ev (.Call f as ks pos))
  | .Set _ _ _ => stop
  | e => iterPlain ev e

noncomputable def freeOf (names : Names) (ρ : Rho) : Rho := ρ.filter fun q => names.lookup q.1 == some .free

noncomputable def nameL : Expr → List Str
  | .Name x _ => [x]
  | _ => []
noncomputable def tnames : Expr → List Str
  | .Name x _ => [x]
  | .Tuple ts _ _ => ts.flatMap nameL
  | _ => []
noncomputable def isCellK : NameKind → Bool
  | .cell | .free => true
  | _ => false
noncomputable def compOk (sc : Names) (ρ : Rho) (names : Names) : Bool :=
  names.all (fun q => q.2 != .free || ((ρ.lookup q.1).isSome && (sc.lookup q.1).any isCellK)) && decide ((names.map (·.1)).Nodup)
noncomputable def genOk (ρ : Rho) (g : Comprehension) : Bool := g.is_async == 0 && (tnames g.target).all fun n => (ρ.lookup n).isNone

/-- the clauses of a comprehension; src: the source of the first of them -/
noncomputable def evGens (evS : Expr → Rho → M Val) (ev1 : Bool → Expr → Rho → M Src) (sc : Names) (elt : Expr) : List Comprehension → Src → Rho → M (List PyData)
  | [], _, _ => stop
  | g :: gs, src, ρ => if genOk ρ g then loopC src (fun x => do
      let ρ' ← ofO (bindD sc g.target x ρ)
      let ok ← testsC (fun e => evS e ρ') g.ifs
      if ok then
        match gs with
        | [] => do
          let v ← evS elt ρ'
          let y ← ofO v.data?
          pure [y]
        | g' :: _ => do
          let src' ← ev1 (isTup g'.target) g'.iter ρ'
          evGens evS ev1 sc elt gs src' ρ'
      else pure []) lim 0 else stop

noncomputable def okBase : Expr → Bool
  | .Name .. | .Attribute .. => true
  | _ => false
noncomputable def intText (n : Nat) : Str := Str.ofString (toString n)

/-- the method that a name finds: of a class; none: append -/
noncomputable def methD (σ : List MO) (i : Nat) (name : Str) : Option (Option Str) := σ[i]?.bind fun m => match instM m with
  | some q => if (q.2.lookup name).isSome then none else some (some q.1)
  | none => (lstM m).bind fun _ => gd (name == ("append" : Str)) none
noncomputable def appendD (σ : List MO) (i : Nat) (vs : List Val) : Option (Val × List MO) := σ[i]?.bind fun m => (lstM m).bind fun xs => (one vs).bind fun v => v.data?.bind fun x => gd (okLen xs.length) (.d .none, σ.set i (.list (xs ++ [x])))

/- expressions, sort by sort; ev: the parts -/
noncomputable def unE (ev : Expr → M Val) (op : UnaryOp) (x : Expr) : M Val := match op with
  | .USub => do
    let v ← ev x
    let a ← ofO (intV v)
    pure (.d (.int (-a)))
  | .Not => do
    let v ← ev x
    let b ← ofO (truthD v)
    pure (.d (.bool (!b)))
  | _ => stop
noncomputable def cmpE (ev : Expr → M Val) (l : Expr) (op : CmpOp) (r : Expr) : M Val := do
  let a ← ev l
  let b ← ev r
  let y ← getσ fun σ => cmpD op σ a b
  pure (.d (.bool y))
noncomputable def cmpsE (ev : Expr → M Val) (l : Expr) (ops : List CmpOp) (rs : List Expr) : M Val := do
  let op ← ofO (one ops)
  let r ← ofO (one rs)
  cmpE ev l op r
noncomputable def partM (ev : Expr → M Val) (e : Option Expr) : M (Option Int) := match e with
  | none => pure none
  | some e => do
    let w ← ev e
    let k ← ofO (intV w)
    pure (some k)
noncomputable def cutE (ev : Expr → M Val) (v : Expr) (lo hi : Option Expr) : M Val := do
  let a ← ev v
  let l ← partM ev lo
  let h ← partM ev hi
  let y ← getσ fun σ => sliceD σ a l h
  pure (.d y)
noncomputable def itE (ev : Expr → M Val) (v i : Expr) : M Val := do
  let a ← ev v
  let k ← ev i
  let y ← getσ fun σ => itemD σ a k
  pure (.d y)
noncomputable def subE (ev : Expr → M Val) (v i : Expr) : M Val := match i with
  | .Slice lo hi st _ => (match st with
    | none => cutE ev v lo hi
    | some _ => stop)
  | i => itE ev v i
noncomputable def methE (C : Calls) (ev : Expr → M Val) (o : Expr) (name : Str) (args : List Expr) : M Val := do
  let a ← ev o
  let i ← ofO (ptV a)
  let m ← getσ fun σ => methD σ i name
  let vs ← evList ev args
  match m with
  | some c => C (.mth c name) (a :: vs)
  | none => fun σ => appendD σ i vs
noncomputable def isiE (ev : Expr → M Val) (sc : Names) (e t : Expr) : M Val := match t with
  | .Name t _ => if sc.lookup t == some .globalImplicit && !badName t then do
      let v ← ev e
      let b ← ofO (isinstD v t)
      pure (.d (.bool b))
    else stop
  | _ => stop
noncomputable def setE (ev : Expr → M Val) (e : Expr) : M Val := do
  let v ← ev e
  let y ← ofO (sortedSetD v)
  pure (.d y)
noncomputable def sortE (ev : Expr → M Val) (sc : Names) (e : Expr) : M Val := match e with
  | .Call g as ks _ => (match g with
    | .Name g _ => if sc.lookup g == some .globalImplicit && g == ("set" : Str) && ks.isEmpty then ofO (one as) >>= setE ev else stop
    | _ => stop)
  | _ => stop
noncomputable def bltE (ev : Expr → M Val) (f : Str) (args : List Expr) : M Val := do
  let vs ← evList ev args
  let y ← getσ fun σ => builtinD σ f vs
  pure (.d y)
noncomputable def fnE (C : Calls) (ev : Expr → M Val) (f : Str) (args : List Expr) : M Val := do
  let vs ← evList ev args
  C (.fn f) vs
noncomputable def nameE (C : Calls) (ev : Expr → M Val) (sc : Names) (f : Str) (args : List Expr) : M Val :=
  if f == ("isinstance" : Str) then ofO (two args) >>= fun q => isiE ev sc q.1 q.2
  else if f == ("sorted" : Str) then ofO (one args) >>= sortE ev sc
  else if builtinNames.contains f then bltE ev f args else fnE C ev f args
noncomputable def callE (C : Calls) (ev : Expr → M Val) (sc : Names) (f : Expr) (args : List Expr) (ks : List Keyword) (pos : Pos) : M Val := match f with
  | .Attribute o name ap => if okBase o && decide (args.length ≤ 8) && ap.endLine == pos.line && ks.isEmpty then methE C ev o name args else stop
  | .Name f _ => if sc.lookup f == some .globalImplicit && !badName f && decide (args.length ≤ 8) && ks.isEmpty then nameE C ev sc f args else stop
  | _ => stop
noncomputable def compE (E : Names → Rho → Expr → M Val) (sc : Names) (ρ : Rho) (elt : Expr) (gens : List Comprehension) (scope : Scope) : M Val := match gens with
  | [] => stop
  | g :: gs => if compOk sc ρ scope.names && scope.kind == .function then do
      let src ← evIter (E sc ρ) sc (isTup g.target) g.iter
      let xs ← evGens (fun e ρ' => E scope.names ρ' e) (fun tup e ρ' => evIter (E scope.names ρ') scope.names tup e) scope.names elt (g :: gs) src (freeOf scope.names ρ)
      if okLen xs.length then pure (.d (.list xs)) else stop
      else stop
noncomputable def strC : Expr → Option Str
  | .Constant (.str s) _ _ => some s
  | _ => none
noncomputable def fmtE (ev : Expr → M Val) (s : Str) (f : Expr) : M Val := match f with
  | .FormattedValue e cv sp _ => if cv == -1 && sp.isNone then do
      let v ← ev e
      let k ← ofO (intV v)
      if decide (0 ≤ k) && decide (k < 4096) && decide (s.length ≤ 100) then pure (.d (.str (s ++ intText k.toNat))) else stop
    else stop
  | _ => stop
noncomputable def joinE (ev : Expr → M Val) (vs : List Expr) : M Val := do
  let q ← ofO (two vs)
  let s ← ofO (strC q.1)
  fmtE ev s q.2

noncomputable def evE (C : Calls) (G : Str → Option PyData) : Nat → Names → Rho → Expr → M Val
  | 0, _, _, _ => stop
  | n + 1, sc, ρ, e => match e with
    | .Constant c _ _ => ofO ((litC c).map .d)
    | .Name x _ => ofO (nameD G sc ρ x)
    | .BinOp l op r _ => do
      let a ← evE C G n sc ρ l
      let b ← evE C G n sc ρ r
      let y ← getσ fun σ => binD op σ a b
      pure (.d y)
    | .UnaryOp op x _ => unE (evE C G n sc ρ) op x
    | .BoolOp op es _ => boolD (evE C G n sc ρ) op es
    | .IfExp t a b _ => do
      let v ← evE C G n sc ρ t
      let c ← ofO (truthD v)
      if c then evE C G n sc ρ a else evE C G n sc ρ b
    | .Compare l ops rs _ => cmpsE (evE C G n sc ρ) l ops rs
    | .Tuple es _ _ => do
      let vs ← evList (evE C G n sc ρ) es
      let xs ← ofO (allD vs)
      if okLen xs.length then pure (.d (.tuple xs)) else stop
    | .List es _ => do
      let vs ← evList (evE C G n sc ρ) es
      let xs ← ofO (allD vs)
      if okLen xs.length then pure (.d (.list xs)) else stop
    | .Subscript v i _ => subE (evE C G n sc ρ) v i
    | .Attribute o name _ => if okBase o then do
      let a ← evE C G n sc ρ o
      getσ fun σ => attrD σ a name
      else stop
    | .Call f args ks pos => callE C (evE C G n sc ρ) sc f args ks pos
    | .ListComp elt gens scope _ => compE (evE C G n) sc ρ elt gens scope
    | .JoinedStr vs _ => joinE (evE C G n sc ρ) vs
    | _ => stop

inductive Fl where
  | next
  | ret (v : Val)

inductive NewK where
  | lst
  | made
  | rcd (a b : Str) (x y : Expr)
  | other
noncomputable def strK : Option Expr → Option Str
  | some e => strC e
  | none => none
noncomputable def newKind : Expr → NewK
  | .List es _ => if es.isEmpty then .lst else .other
  | .Dict ks vs _ => if ks.isEmpty && vs.isEmpty then .made else (match (two ks).bind (fun q => (strK q.1).bind fun a => (strK q.2).bind fun b => (two vs).bind fun w => some (a, b, w)) with
    | some q => .rcd q.1 q.2.1 q.2.2.1 q.2.2.2
    | none => .other)
  | _ => .other
/-- what is stored under a name or a field: the new things that will change are made here -/
noncomputable def pushRcd (a b : Str) (p q : PyData) : M Val := fun σ => some (.p σ.length, σ ++ [.rcd [(a, p), (b, q)]])
noncomputable def evNew (ev : Expr → M Val) (e : Expr) : M Val :=
  match newKind e with
  | .lst => fun σ => some (.p σ.length, σ ++ [.list []])
  | .made => fun σ => some (.p σ.length, σ ++ [.made []])
  | .rcd a b x y => do
    let v ← ev x
    let w ← ev y
    let p ← ofO v.data?
    let q ← ofO w.data?
    if a != b then pushRcd a b p q else stop
  | .other => ev e

noncomputable def setF : List (Str × PyData) → Str → PyData → List (Str × PyData)
  | [], _, _ => []
  | (k, v) :: r, n, x => if k == n then (k, x) :: r else (k, v) :: setF r n x
noncomputable def setL (xs : List PyData) (i : Int) (v : PyData) : Option (List PyData) :=
  if i == -1 && decide (0 < xs.length) then some (xs.set (xs.length - 1) v) else none

noncomputable def stoObj (m : MO) (i x : PyData) : Option MO := match m with
  | .rcd fs => (strP i).bind fun n => gd (fs.lookup n).isSome (.rcd (setF fs n x))
  | .list xs => (intP i).bind fun k => if okLen xs.length then (setL xs k x).map .list else none
  | .made kvs => (keyOf? i).bind fun k => (intP x).bind fun n => gd ((kvs.lookup k).isNone && decide (kvs.length ≤ 512)) (.made (kvs ++ [(k, n)]))
  | _ => none
noncomputable def storeItem (σ : List MO) (o i : Val) (v : Val) : Option (List MO) := (ptV o).bind fun p => σ[p]?.bind fun m => i.data?.bind fun i => v.data?.bind fun x => (stoObj m i x).bind fun m' => some (σ.set p m')

noncomputable def storeAttr (σ : List MO) (o : Val) (n : Str) (v : Val) : Option (List MO) := (ptV o).bind fun p => σ[p]?.bind fun m => (instM m).bind fun q =>
  gd (fieldNames.contains n && (q.2.lookup n).isNone && decide (q.2.length ≤ 16)) (σ.set p (.inst q.1 (q.2 ++ [(n, v)])))

noncomputable def noSplat (t : Expr) : Bool := match t with
  | .Name .. | .Tuple .. => true
  | _ => false

noncomputable def forG (sc : Names) (t : Expr) (src : Src) (body : Rho → M (Fl × Rho)) : Nat → Nat → Rho → M (Fl × Rho)
  | 0, _, _ => stop
  | m + 1, k, ρ => fun σ => match src.at σ k with
    | none => none
    | some none => some ((.next, ρ), σ)
    | some (some x) => (do
      let ρ' ← ofO (bindD sc t x ρ)
      let r ← body ρ'
      match r with
      | (.next, ρ'') => forG sc t src body m (k + 1) ρ''
      | (.ret v, ρ'') => pure (.ret v, ρ'') : M (Fl × Rho)) σ
noncomputable def whileG (test : Rho → M Bool) (body : Rho → M (Fl × Rho)) : Nat → Rho → M (Fl × Rho)
  | 0, _ => stop
  | m + 1, ρ => do
    let b ← test ρ
    if b then do
      let r ← body ρ
      match r with
      | (.next, ρ'') => whileG test body m ρ''
      | (.ret v, ρ'') => pure (.ret v, ρ'')
    else pure (.next, ρ)

theorem forG_succ {sc : Names} {t : Expr} {src : Src} {body : Rho → M (Fl × Rho)} {m k : Nat} {ρ : Rho} {σ : List MO} : forG sc t src body (m + 1) k ρ σ = match src.at σ k with
    | none => none
    | some none => some ((.next, ρ), σ)
    | some (some x) => (do
      let ρ' ← ofO (bindD sc t x ρ)
      let r ← body ρ'
      match r with
      | (.next, ρ'') => forG sc t src body m (k + 1) ρ''
      | (.ret v, ρ'') => pure (.ret v, ρ'') : M (Fl × Rho)) σ := rfl
theorem whileG_succ {test : Rho → M Bool} {body : Rho → M (Fl × Rho)} {m : Nat} {ρ : Rho} : whileG test body (m + 1) ρ = (do
    let b ← test ρ
    if b then do
      let r ← body ρ
      match r with
      | (.next, ρ'') => whileG test body m ρ''
      | (.ret v, ρ'') => pure (.ret v, ρ'')
    else pure (.next, ρ)) := rfl
theorem loopC_succ {src : Src} {body : PyData → M (List PyData)} {m k : Nat} {σ : List MO} : loopC src body (m + 1) k σ = match src.at σ k with
    | none => none
    | some none => some ([], σ)
    | some (some x) => (do
      let ys ← body x
      let zs ← loopC src body m (k + 1)
      pure (ys ++ zs) : M (List PyData)) σ := rfl
/-- a def: its parameters, its names, its body -/
structure Fn where
  ps : List Str
  sc : Names
  body : List Stmt
noncomputable def zipP : List Str → List Val → Option Rho
  | [], [] => some []
  | p :: ps, v :: vs => (zipP ps vs).map ((p, v) :: ·)
  | _, _ => none

end Mine
end
section
open PySem PySem.W PyProof.Rows
set_option Elab.async false
namespace Mine

/-- room for calls -/
structure Room (n : Nat) (A : Around) : Prop where
  hh : A.handled = none
  dep : A.depth + 2 * n + 2 ≤ 900
  un : A.units + 20 * n + 200 ≤ 9900
theorem Room.le {n m : Nat} {A : Around} (r : Room n A) (h : m ≤ n) : Room m A := ⟨r.hh, by have := r.dep; (first | lia | omega), by have := r.un; (first | lia | omega)⟩
theorem Room.deeper {n : Nat} {A : Around} (r : Room (n + 1) A) (env : Env) : Room n (A.deeper env) := ⟨r.hh, by have := r.dep; show A.depth + 1 + 2 * n + 2 ≤ 900; (first | lia | omega), by have := r.un; show A.units + 3 + 20 * n + 200 ≤ 9900; (first | lia | omega)⟩
theorem Room.in1 {n : Nat} {A : Around} (r : Room (n + 1) A) : Room n A.in1 := ⟨r.hh, by have := r.dep; show A.depth + 2 * n + 2 ≤ 900; (first | lia | omega), by have := r.un; show A.units + 1 + 20 * n + 200 ≤ 9900; (first | lia | omega)⟩
theorem Room.depth {n : Nat} {A : Around} (r : Room n A) : A.depth < recursionLimit := by have := r.dep; unfold recursionLimit; omega
theorem Room.c0 {n : Nat} {A : Around} (r : Room n A) : A.units < cLine := by have := r.un; unfold cLine; omega
theorem Room.c64 {n : Nat} {A : Around} (r : Room n A) : A.units + 64 < cLine := by have := r.un; unfold cLine; (first | lia | omega)

section
variable {Md : Model} {W : Wd} {A : Around} {α β γ δ : Type}

inductive SimPost (W : Wd) (Rel : Heap → Sg → Own → α → β → Prop) (s : Shared) (Z : Heap) (S : Sg) (b : β) (σ' : List MO) (a : α) (s' : Shared) : Prop
  | mk (Z' : Heap) (S' : Sg) (R' : Own) (h' : Heap) (tk : Nat) (e : s' = sh s h' tk) (x : Ext Z Z') (g : Grow S S') (q : abs S' = σ') (st : St Z' (HR W Z' S' ++ R') h') (r : Rel Z' S' R' a b) : SimPost W Rel s Z S b σ' a s'

noncomputable def No : Value → Shared → Prop := fun _ _ => False

noncomputable def Sim (Md : Model) (W : Wd) (A : Around) (Rel : Heap → Sg → Own → α → β → Prop) (Z : Heap) (S : Sg) (R : Own) (s : Shared) (t : Sem α) (c : M β) : Prop :=
  St Z (HR W Z S ++ R) s.heap → ∀ b σ', c (abs S) = some (b, σ') → wpAny Md A t (SimPost W Rel s Z S b σ') No s

variable {Rel : Heap → Sg → Own → α → β → Prop} {Rel₂ : Heap → Sg → Own → γ → δ → Prop} {Z : Heap} {S : Sg} {R : Own} {s : Shared}

theorem SimPost.trans {Z' : Heap} {S' : Sg} {h' : Heap} {tk : Nat} {b : β} {σ' : List MO} {a : α} {s'' : Shared} (p : SimPost W Rel (sh s h' tk) Z' S' b σ' a s'') (e : Ext Z Z') (g : Grow S S') : SimPost W Rel s Z S b σ' a s'' := by
  obtain ⟨Z'', S'', R'', h'', tk'', rfl, e', g', q, st, r⟩ := p
  exact ⟨Z'', S'', R'', h'', tk'', rfl, e.trans e', g.trans g', q, st, r⟩

theorem SimPost.same {a : α} {b : β} (st : St Z (HR W Z S ++ R) s.heap) (r : Rel Z S R a b) (tk : Nat := s.toks) : SimPost W Rel s Z S b (abs S) a { s with toks := tk } :=
  ⟨Z, S, R, s.heap, tk, rfl, Ext.refl _, Grow.refl _, rfl, st, r⟩

theorem Sim.bind {t : Sem α} {c : M β} {k : α → Sem γ} {f : β → M δ} (h : Sim Md W A Rel Z S R s t c)
    (hk : ∀ a b Z' S' R' h' tk, Ext Z Z' → Grow S S' → Rel Z' S' R' a b → Sim Md W A Rel₂ Z' S' R' (sh s h' tk) (k a) (f b)) :
    Sim Md W A Rel₂ Z S R s (t >>= k) (M.bind c f) := by
  intro st b σ' e
  unfold M.bind at e
  split at e
  · cases e
  · rename_i y σ₁ e₁
    refine wpAny_bind (wpAny_mono (h st y σ₁ e₁) (fun a s' p => ?_) fun _ _ z => z)
    obtain ⟨Z', S', R', h', tk, rfl, x, g, q, st', r⟩ := p
    subst q
    refine wpAny_mono (hk a y Z' S' R' h' tk x g r st' b σ' e) (fun a' s'' p => ?_) fun _ _ z => z
    exact p.trans x g

theorem Sim.bind' {t : Sem α} {c : M β} {k : α → Sem γ} {f : β → M δ} (h : Sim Md W A Rel Z S R s t c)
    (hk : ∀ a b Z' S' R' h' tk, Ext Z Z' → Grow S S' → Rel Z' S' R' a b → Sim Md W A Rel₂ Z' S' R' (sh s h' tk) (k a) (f b)) :
    Sim Md W A Rel₂ Z S R s (t >>= k) (c >>= f) := Sim.bind h hk

theorem Sim.pure {a : α} {b : β} (r : Rel Z S R a b) : Sim Md W A Rel Z S R s (Pure.pure a) (Pure.pure b) := by
  intro st b' σ' e
  cases e
  exact wpAny_pure (SimPost.same st r)
theorem Sim.stop {t : Sem α} : Sim Md W A Rel Z S R s t stop := fun _ _ _ e => nomatch e
theorem Sim.ofO {t : Sem α} {o : Option β} (h : ∀ b, o = some b → Sim Md W A Rel Z S R s t (Pure.pure b)) : Sim Md W A Rel Z S R s t (ofO o) := by
  cases o with
  | none => exact Sim.stop
  | some b => exact h b rfl
theorem Sim.getσ {t : Sem α} {g : List MO → Option β} (h : ∀ b, g (abs S) = some b → Sim Md W A Rel Z S R s t (Pure.pure b)) : Sim Md W A Rel Z S R s t (getσ g) := by
  intro st b σ' e
  unfold Mine.getσ at e
  split at e
  · rename_i y ey
    cases e
    exact h b ey st b _ rfl
  · cases e
theorem simIf {t : Sem α} {c c' : M β} {b : Bool} (h : b = true → Sim Md W A Rel Z S R s t c) (h' : b = false → Sim Md W A Rel Z S R s t c') : Sim Md W A Rel Z S R s t (if b then c else c') := by
  cases b with
  | true => rw [if_pos rfl]; exact h rfl
  | false => rw [if_neg Bool.false_ne_true]; exact h' rfl
/-- a bind whose first part is an option -/
theorem Sim.ofOb {t : Sem α} {o : Option δ} {f : δ → M β} (h : ∀ b, o = some b → Sim Md W A Rel Z S R s t (f b)) : Sim Md W A Rel Z S R s t (Mine.ofO o >>= f) := by
  intro st b σ' e
  cases o with
  | none => cases e
  | some y => exact h y rfl st b σ' e
theorem Sim.getσb {t : Sem α} {g : List MO → Option δ} {f : δ → M β} (h : ∀ b, g (abs S) = some b → Sim Md W A Rel Z S R s t (f b)) : Sim Md W A Rel Z S R s t (Mine.getσ g >>= f) := by
  intro st b σ' e
  have e' : M.bind (Mine.getσ g) f (abs S) = some (b, σ') := e
  unfold M.bind Mine.getσ at e'
  cases q : g (abs S) with
  | none => rw [q] at e'; cases e'
  | some y => rw [q] at e'; exact h y q st b σ' e'
theorem Sim.holding {vs : List Value} {t : Sem α} {c : M β} (h : Sim Md W A Rel Z S R s t c) : Sim Md W A Rel Z S R s (PySem.holding vs t) c :=
  fun st b σ' e => wpAny_holding (h st b σ' e)
theorem Sim.at {pos : Pos} {k : Unit → Sem α} {c : M β} (h : Sim Md W A Rel Z S R s (k ()) c) : Sim Md W A Rel Z S R s (standAt pos >>= k) c :=
  fun st b σ' e => wpAny_bind (wpAny_standAt (h st b σ' e))
theorem Sim.rule {tag : String} {k : Unit → Sem α} {c : M β} (h : Sim Md W A Rel Z S R s (k ()) c) : Sim Md W A Rel Z S R s (PySem.rule tag >>= k) c :=
  fun st b σ' e => wpAny_bind (wpAny_rule (h st b σ' e))
theorem Sim.mono {Rel' : Heap → Sg → Own → α → β → Prop} {t : Sem α} {c : M β} (h : Sim Md W A Rel Z S R s t c) (f : ∀ Z' S' R' a b, Ext Z Z' → Grow S S' → Rel Z' S' R' a b → Rel' Z' S' R' a b) : Sim Md W A Rel' Z S R s t c := by
  intro st b σ' e
  refine wpAny_mono (h st b σ' e) (fun a s' p => ?_) fun _ _ z => z
  obtain ⟨Z', S', R', h', tk, q, x, g, q2, st', r⟩ := p
  exact ⟨Z', S', R', h', tk, q, x, g, q2, st', f _ _ _ _ _ x g r⟩
/-- the right side does no more than hand on -/
theorem Sim.bindR {t : Sem α} {k : α → Sem γ} {c : M δ} (h : ∀ b σ', c (abs S) = some (b, σ') → St Z (HR W Z S ++ R) s.heap → wpAny Md A t (fun a s' => wpAny Md A (k a) (SimPost W Rel₂ s Z S b σ') No s') No s) :
    Sim Md W A Rel₂ Z S R s (t >>= k) c := fun st b σ' e => wpAny_bind (h b σ' e st)
theorem Sim.congr {t t' : Sem α} {c : M β} (h : Sim Md W A Rel Z S R s t c) (e : t' = t) : Sim Md W A Rel Z S R s t' c := e ▸ h
/-- a piece of the tree that only looks -/
theorem Sim.look {t : Sem δ} {r : δ} {k : δ → Sem α} {c : M β} (L : St Z (HR W Z S ++ R) s.heap → Looks Md s.heap t r) (h : Sim Md W A Rel Z S R s (k r) c) : Sim Md W A Rel Z S R s (t >>= k) c :=
  fun st b σ' e => wpAny_bind ((L st).here (h st b σ' e))
end

/-- relations of results -/
noncomputable def RelV (R₀ : Own) (Z : Heap) (S : Sg) (R : Own) (v : Value) (d : Val) : Prop := R₀ = R ∧ RV Z S v d
noncomputable def RelVs (R₀ : Own) (Z : Heap) (S : Sg) (R : Own) (v : List Value) (d : List Val) : Prop := R₀ = R ∧ RVs Z S v d
noncomputable def RelB (R₀ : Own) (_ : Heap) (_ : Sg) (R : Own) (v : Bool) (d : Bool) : Prop := R₀ = R ∧ v = d

noncomputable def NsP (m : Str → Option Value) (o : Obj) : Prop := ∃ es ep, o.data = .dict es ep ∧ StrKeys es ∧ ∀ name, nsFind es name = m name
noncomputable def CellP (v : Option Value) (o : Obj) : Prop := o.data = .cell v
theorem NsP.ns {h : Heap} {L : Addr} {m : Str → Option Value} (x : ∃ o, h.get? L = some o ∧ NsP m o) : h.Ns L m := let ⟨o, e, es, ep, a, b, c⟩ := x; ⟨o, es, ep, e, a, b, c⟩
theorem NsP.of {h : Heap} {L : Addr} {m : Str → Option Value} (x : h.Ns L m) : ∃ o, h.get? L = some o ∧ NsP m o := let ⟨o, es, ep, e, a, b, c⟩ := x; ⟨o, e, es, ep, a, b, c⟩

noncomputable def KRel (sc : Names) (env : Env) : Prop := ∀ x k, sc.lookup x = some k → ∃ k', env.kindOf x = some k' ∧ (k = k' ∨ (k = .free ∧ k' = .cell))

structure FrameAt (sc : Names) (env : Env) (ρ : Rho) (Z : Heap) (S : Sg) (R : Own) : Prop where
  kind : env.scope.kind = .function
  glob : env.globals = mainGlobals
  blt : env.builtins = builtinsNs
  kr : KRel sc env
  loc : ∃ m, (env.locals, NsP m) ∈ R ∧ ∀ x d, ρ.lookup x = some d → sc.lookup x = some .local → ∃ v, m x = some v ∧ RV Z S v d
  cel : ∀ x d, ρ.lookup x = some d → (sc.lookup x = some .cell ∨ sc.lookup x = some .free) → ∃ c v, env.cells.lookup x = some c ∧ (c, CellP (some v)) ∈ R ∧ RV Z S v d
theorem FrameAt.mono {sc : Names} {env : Env} {ρ : Rho} {Z Z' : Heap} {S S' : Sg} {R : Own} (F : FrameAt sc env ρ Z S R) (k : Ext Z Z') (g : Grow S S') : FrameAt sc env ρ Z' S' R :=
  ⟨F.kind, F.glob, F.blt, F.kr, let ⟨m, a, b⟩ := F.loc; ⟨m, a, fun x d e q => let ⟨v, p, r⟩ := b x d e q; ⟨v, p, r.mono k g⟩⟩, fun x d e q => let ⟨c, v, p, r, t⟩ := F.cel x d e q; ⟨c, v, p, r, t.mono k g⟩⟩
theorem FrameAt.sub {sc : Names} {env : Env} {ρ : Rho} {Z : Heap} {S : Sg} {R R' : Own} (F : FrameAt sc env ρ Z S R) (k : ∀ p ∈ R, p ∈ R') : FrameAt sc env ρ Z S R' :=
  ⟨F.kind, F.glob, F.blt, F.kr, let ⟨m, a, b⟩ := F.loc; ⟨m, k _ a, b⟩, fun x d e q => let ⟨c, v, p, r, t⟩ := F.cel x d e q; ⟨c, v, p, k _ r, t⟩⟩

theorem St.at {Z h : Heap} {O R : Own} {a : Addr} {P : Obj → Prop} (st : St Z (O ++ R) h) (hm : (a, P) ∈ R) : ∃ o, h.get? a = some o ∧ P o := (st.own _ (List.mem_append_right _ hm)).2

end Mine
end
section
open PySem PySem.W PyProof.Rows
set_option Elab.async false
set_option maxRecDepth 10000
namespace Mine
/- small tools, read backwards -/
theorem obE {α β : Type} {o : Option α} {f : α → Option β} {b : β} {P : Prop} (h : o.bind f = some b) (k : ∀ a, o = some a → f a = some b → P) : P := by
  cases o with
  | none => (first | exact nope h | exact nopeB h | cases h)
  | some a => exact k a rfl h
@[elab_as_elim] theorem gdE {α : Type} {c : Bool} {x y : α} {P : α → Prop} (h : gd c x = some y) (k : c = true → P x) : P y := by
  cases c with
  | false => (first | exact nope h | exact nopeB h | cases h)
  | true => cases h; exact k rfl
theorem gdT {α : Type} {c : Bool} {x y : α} (h : gd c x = some y) : c = true := by
  cases c with
  | false => (first | exact nope h | exact nopeB h | cases h)
  | true => rfl
theorem itE' {c : Bool} {α : Type} {o : Option α} {y : α} {P : Prop} (h : (if c = true then o else none) = some y) (k : c = true → o = some y → P) : P := by
  cases c with
  | false => (first | exact nope h | exact nopeB h | cases h)
  | true => exact k rfl h
theorem stE {c : Bool} {α : Type} {o : M α} {σ : List MO} {r : α × List MO} {P : Prop} (h : (if c = true then o else stop) σ = some r) (k : c = true → o σ = some r → P) : P := by
  cases c with
  | false => (first | exact nope h | exact nopeB h | cases h)
  | true => exact k rfl h
theorem and2 {a b : Bool} {P : Prop} (h : (a && b) = true) (k : a = true → b = true → P) : P := by
  cases a with
  | false => (first | exact nope h | exact nopeB h | cases h)
  | true => exact k rfl h
theorem intP_eq {d : PyData} {a : Int} (h : intP d = some a) : d = .int a := by cases d <;> cases h; rfl
theorem strP_eq {d : PyData} {a : Str} (h : strP d = some a) : d = .str a := by cases d <;> cases h; rfl
theorem lstP_eq {d : PyData} {a : List PyData} (h : lstP d = some a) : d = .list a := by cases d <;> cases h; rfl
theorem tupP_eq {d : PyData} {a : List PyData} (h : tupP d = some a) : d = .tuple a := by cases d <;> cases h; rfl
theorem boolP_eq {d : PyData} {a : Bool} (h : boolP d = some a) : d = .bool a := by cases d <;> cases h; rfl
theorem data_eq {v : Val} {a : PyData} (h : v.data? = some a) : v = .d a := by cases v <;> cases h; rfl
theorem ptV_eq {v : Val} {a : Nat} (h : ptV v = some a) : v = .p a := by cases v <;> cases h; rfl
theorem intV_eq {v : Val} {a : Int} (h : intV v = some a) : v = .d (.int a) := by
  refine obE h fun x hx h => ?_
  rw [data_eq hx, intP_eq h]
theorem truthD_eq {v : Val} {a : Bool} (h : truthD v = some a) : v = .d (.bool a) := by
  refine obE h fun x hx h => ?_
  rw [data_eq hx, boolP_eq h]
theorem madeM_eq {m : MO} {a : List (TKey × Int)} (h : madeM m = some a) : m = .made a := by cases m <;> cases h; rfl
theorem lstM_eq {m : MO} {a : List PyData} (h : lstM m = some a) : m = .list a := by cases m <;> cases h; rfl
theorem instM_eq {m : MO} {a : Str × List (Str × Val)} (h : instM m = some a) : m = .inst a.1 a.2 := by cases m <;> cases h; rfl
theorem one_eq {α : Type} {l : List α} {a : α} (h : one l = some a) : l = [a] := by
  cases l with
  | nil => (first | exact nope h | exact nopeB h | cases h)
  | cons x r => cases r with
    | nil => cases h; rfl
    | cons y r => (first | exact nope h | exact nopeB h | cases h)
theorem fstL_eq {α : Type} {l : List α} {q : α × List α} (h : fstL l = some q) : l = q.1 :: q.2 := by
  cases l with
  | nil => (first | exact nope h | exact nopeB h | cases h)
  | cons x r => cases h; rfl
theorem two_eq {α : Type} {l : List α} {q : α × α} (h : two l = some q) : l = [q.1, q.2] := by
  refine obE h fun p hp h => obE h fun b hb h => ?_
  cases h
  rw [fstL_eq hp, one_eq hb]
theorem three_eq {α : Type} {l : List α} {q : α × α × α} (h : three l = some q) : l = [q.1, q.2.1, q.2.2] := by
  refine obE h fun p hp h => obE h fun b hb h => ?_
  cases h
  rw [fstL_eq hp, two_eq hb]
theorem four_eq {α : Type} {l : List α} {q : α × α × α × α} (h : four l = some q) : l = [q.1, q.2.1, q.2.2.1, q.2.2.2] := by
  refine obE h fun p hp h => obE h fun b hb h => ?_
  cases h
  rw [fstL_eq hp, three_eq hb]
theorem endL_eq {α : Type} {l : List α} {u : Unit} (h : endL l = some u) : l = [] := by
  cases l with
  | nil => rfl
  | cons x r => (first | exact nope h | exact nopeB h | cases h)
theorem itemsOf_eq {d : PyData} {a : List PyData} (h : itemsOf d = some a) : d = .list a ∨ d = .tuple a := by cases d <;> cases h <;> first | exact .inl rfl | exact .inr rfl
@[elab_as_elim] theorem int2E {α : Type} {a b : Val} {f : Int → Int → Option α} {z : α} {P : Val → Val → Prop} (h : int2 a b f = some z) (k : ∀ x y, f x y = some z → P (.d (.int x)) (.d (.int y))) : P a b := by
  refine obE h fun x hx h => obE h fun y hy h => ?_
  rw [intV_eq hx, intV_eq hy]
  exact k x y h

@[elab_as_elim] theorem bindNE {sc : Names} {t : Expr} {v : Val} {ρ ρ' : Rho} {P : Expr → Rho → Prop} (h : bindN sc t v ρ = some ρ') (k : ∀ n p, (sc.lookup n).any isOwnK = true → P (.Name n p) (bindR n v ρ)) : P t ρ' := by
  cases t <;> first | exact gdE h (k _ _) | cases h
@[elab_as_elim] theorem bindDE {sc : Names} {t : Expr} {x : PyData} {ρ ρ' : Rho} {P : Expr → PyData → Rho → Prop} (h : bindD sc t x ρ = some ρ') (k : ∀ n p, (sc.lookup n).any isOwnK = true → P (.Name n p) x (bindR n (.d x) ρ)) (k2 : ∀ ts c p xs, bindDs sc ts xs ρ = some ρ' → P (.Tuple ts c p) (.tuple xs) ρ') : P t x ρ' := by
  cases t with
  | Name n p => exact gdE h (k _ _)
  | Tuple ts c p =>
    refine obE h fun xs hx h => ?_
    rw [tupP_eq hx]
    exact k2 ts c p xs h
  | _ => (first | exact nope h | exact nopeB h | cases h)
@[elab_as_elim] theorem bindVE {sc : Names} {t : Expr} {v : Val} {ρ ρ' : Rho} {P : Expr → Val → Rho → Prop} (h : bindV sc t v ρ = some ρ') (k : ∀ n p, (sc.lookup n).any isOwnK = true → P (.Name n p) v (bindR n v ρ)) (k2 : ∀ x, bindD sc t x ρ = some ρ' → P t (.d x) ρ') : P t v ρ' := by
  have d : (v.data?.bind fun x => bindD sc t x ρ) = some ρ' → P t v ρ' := fun h => obE h fun x hx h => by
    rw [data_eq hx]; exact k2 x h
  cases t with
  | Name n p => exact gdE h (k _ _)
  | _ => exact d h
theorem bindDsE {sc : Names} {t : Expr} {ts : List Expr} {xs : List PyData} {ρ ρ' : Rho} {P : List PyData → Prop} (h : bindDs sc (t :: ts) xs ρ = some ρ') (k : ∀ x r ρ₁, bindN sc t (.d x) ρ = some ρ₁ → bindDs sc ts r ρ₁ = some ρ' → P (x :: r)) : P xs := by
  refine obE h fun q hq h => obE h fun ρ₁ h1 h2 => ?_
  rw [fstL_eq hq]
  exact k _ _ ρ₁ h1 h2
theorem bindVsE {sc : Names} {t : Expr} {ts : List Expr} {vs : List Val} {ρ ρ' : Rho} {P : List Val → Prop} (h : bindVs sc (t :: ts) vs ρ = some ρ') (k : ∀ x r ρ₁, bindV sc t x ρ = some ρ₁ → bindVs sc ts r ρ₁ = some ρ' → P (x :: r)) : P vs := by
  refine obE h fun q hq h => obE h fun ρ₁ h1 h2 => ?_
  rw [fstL_eq hq]
  exact k _ _ ρ₁ h1 h2
theorem bindDs0 {sc : Names} {xs : List PyData} {ρ ρ' : Rho} (h : bindDs sc [] xs ρ = some ρ') : xs = [] ∧ ρ' = ρ := obE h fun _ hx h => ⟨endL_eq hx, (Option.some.inj h).symm⟩
theorem bindVs0 {sc : Names} {xs : List Val} {ρ ρ' : Rho} (h : bindVs sc [] xs ρ = some ρ') : xs = [] ∧ ρ' = ρ := obE h fun _ hx h => ⟨endL_eq hx, (Option.some.inj h).symm⟩

theorem M.bind_none {α β : Type} {c : M α} {f : α → M β} {σ : List MO} (h : c σ = none) : (c >>= f) σ = none := by
  show M.bind c f σ = none
  unfold M.bind; rw [h]
theorem M.bind_some {α β : Type} {c : M α} {f : α → M β} {σ σ' : List MO} {a : α} (h : c σ = some (a, σ')) : (c >>= f) σ = f a σ' := by
  show M.bind c f σ = _
  unfold M.bind; rw [h]
theorem M.assoc {α β γ : Type} (c : M α) (f : α → M β) (g : β → M γ) : ((c >>= f) >>= g) = (c >>= fun a => f a >>= g) := by
  funext σ
  show M.bind (M.bind c f) g σ = M.bind c (fun a => M.bind (f a) g) σ
  unfold M.bind
  cases c σ with
  | none => rfl
  | some p => rfl

inductive MInv {α β : Type} (c : M α) (f : α → M β) (σ σ' : List MO) (b : β) : Prop
  | mk (a : α) (σ₁ : List MO) (h1 : c σ = some (a, σ₁)) (h2 : f a σ₁ = some (b, σ')) : MInv c f σ σ' b
theorem M.inv {α β : Type} {c : M α} {f : α → M β} {σ σ' : List MO} {b : β} (h : (c >>= f) σ = some (b, σ')) : MInv c f σ σ' b := by
  have h' : M.bind c f σ = some (b, σ') := h
  unfold M.bind at h'
  split at h'
  · (first | exact nope h' | exact nopeB h' | cases h')
  · exact ⟨_, _, by assumption, h'⟩
theorem ofO_inv {α : Type} {o : Option α} {σ σ' : List MO} {b : α} (h : ofO o σ = some (b, σ')) : o = some b ∧ σ' = σ := by
  cases o with
  | none => (first | exact nope h | exact nopeB h | cases h)
  | some a => cases h; exact ⟨rfl, rfl⟩
theorem getσ_inv {α : Type} {g : List MO → Option α} {σ σ' : List MO} {b : α} (h : getσ g σ = some (b, σ')) : g σ = some b ∧ σ' = σ := by
  unfold getσ at h
  split at h
  · cases h; exact ⟨by assumption, rfl⟩
  · (first | exact nope h | exact nopeB h | cases h)
theorem pure_inv {α : Type} {a b : α} {σ σ' : List MO} (h : (Pure.pure a : M α) σ = some (b, σ')) : a = b ∧ σ' = σ := by cases h; exact ⟨rfl, rfl⟩
theorem M.run {α β : Type} {c : M α} {f : α → M β} {σ σ₁ : List MO} {a : α} {r : Option (β × List MO)} (h : c σ = some (a, σ₁)) (k : f a σ₁ = r) : (c >>= f) σ = r := by rw [M.bind_some h, k]
theorem ofO_run {α β : Type} {o : Option α} {f : α → M β} {σ : List MO} {a : α} (h : o = some a) : (ofO o >>= f) σ = f a σ := by subst h; rfl

section
variable {Md : Model} {W : Wd} {A : Around} {α β γ δ : Type} {Rel : Heap → Sg → Own → α → β → Prop} {Z : Heap} {S : Sg} {R : Own} {s : Shared} {t : Sem α} {k : α → Sem γ} {Q : γ → Shared → Prop} {P : α → Shared → Prop} {s2 : Shared}

/-- what follows is shown for any end -/
theorem wp_any {t : Sem α} (h : ∀ Q' : α → Shared → Prop, (∀ a s', P a s' → Q' a s') → wpAny Md A t Q' No s) : wpAny Md A t P No s := h P fun _ _ p => p

theorem wb (h : wpAny Md A t P No s) (f : ∀ a s', P a s' → wpAny Md A (k a) Q No s') : wpAny Md A (t >>= k) Q No s := wpAny_bind (wpAny_mono h f fun _ _ z => z)

theorem M.on {c : M β} {f : β → M δ} {σ σ' : List MO} {r : δ} {P : Prop} (h : (c >>= f) σ = some (r, σ')) (g : ∀ a σ₁, c σ = some (a, σ₁) → f a σ₁ = some (r, σ') → P) : P :=
  let ⟨a, σ₁, h1, h2⟩ := M.inv h; g a σ₁ h1 h2
theorem M.onO {o : Option β} {f : β → M δ} {σ σ' : List MO} {r : δ} {P : Prop} (h : (ofO o >>= f) σ = some (r, σ')) (g : ∀ a, o = some a → f a σ = some (r, σ') → P) : P := by
  obtain ⟨a, σ₁, h1, h2⟩ := M.inv h
  obtain ⟨h3, rfl⟩ := ofO_inv h1
  exact g a h3 h2

/-- one step: the left side's part, the right side's part, then the rest -/
theorem stp {c : M β} {f : β → M δ} {r : δ} {σ' : List MO} (he : (c >>= f) (abs S) = some (r, σ')) (hs : Sim Md W A Rel Z S R s t c) (st : St Z (HR W Z S ++ R) s.heap)
    (g : ∀ a b Z' S' R' h' tk, Ext Z Z' → Grow S S' → f b (abs S') = some (r, σ') → St Z' (HR W Z' S' ++ R') h' → Rel Z' S' R' a b → wpAny Md A (k a) Q No (sh s h' tk)) : wpAny Md A (t >>= k) Q No s := by
  obtain ⟨b, σ₁, h1, h2⟩ := M.inv he
  refine wb (hs st b σ₁ h1) fun a s' p => ?_
  obtain ⟨Z', S', R', h', tk, rfl, x, gr, q, st', rl⟩ := p
  subst q
  exact g a b Z' S' R' h' tk x gr h2 st' rl
theorem stpV {t : Sem Value} {k : Value → Sem γ} {c : M Val} {f : Val → M δ} {r : δ} {σ' : List MO} (he : (c >>= f) (abs S) = some (r, σ')) (hs : Sim Md W A (RelV R) Z S R s t c) (st : St Z (HR W Z S ++ R) s.heap)
    (g : ∀ a b Z' S' h' tk, Ext Z Z' → Grow S S' → f b (abs S') = some (r, σ') → St Z' (HR W Z' S' ++ R) h' → RV Z' S' a b → wpAny Md A (k a) Q No (sh s h' tk)) : wpAny Md A (t >>= k) Q No s :=
  stp he hs st fun a b Z' S' R' h' tk x gr e st' rl => by obtain ⟨rfl, rv⟩ := rl; exact g a b Z' S' h' tk x gr e st' rv
theorem stpB {t : Sem Bool} {k : Bool → Sem γ} {c : M Bool} {f : Bool → M δ} {r : δ} {σ' : List MO} (he : (c >>= f) (abs S) = some (r, σ')) (hs : Sim Md W A (RelB R) Z S R s t c) (st : St Z (HR W Z S ++ R) s.heap)
    (g : ∀ b Z' S' h' tk, Ext Z Z' → Grow S S' → f b (abs S') = some (r, σ') → St Z' (HR W Z' S' ++ R) h' → wpAny Md A (k b) Q No (sh s h' tk)) : wpAny Md A (t >>= k) Q No s :=
  stp he hs st fun a b Z' S' R' h' tk x gr e st' rl => by obtain ⟨rfl, rfl⟩ := rl; exact g a Z' S' h' tk x gr e st'
/-- the last part of a tree -/
theorem stm {c : M β} {b : β} {σ' : List MO} {Q : α → Shared → Prop} (he : c (abs S) = some (b, σ')) (hs : Sim Md W A Rel Z S R s t c) (st : St Z (HR W Z S ++ R) s.heap)
    (g : ∀ a Z' S' R' h' tk, Ext Z Z' → Grow S S' → abs S' = σ' → St Z' (HR W Z' S' ++ R') h' → Rel Z' S' R' a b → Q a (sh s h' tk)) : wpAny Md A t Q No s :=
  wpAny_mono (hs st b σ' he) (fun a s' p => by obtain ⟨Z', S', R', h', tk, rfl, x, gr, q, st', rl⟩ := p; exact g a Z' S' R' h' tk x gr q st' rl) fun _ _ z => z
theorem stmV {t : Sem Value} {c : M Val} {b : Val} {σ' : List MO} {Q : Value → Shared → Prop} (he : c (abs S) = some (b, σ')) (hs : Sim Md W A (RelV R) Z S R s t c) (st : St Z (HR W Z S ++ R) s.heap)
    (g : ∀ a Z' S' h' tk, Ext Z Z' → Grow S S' → abs S' = σ' → St Z' (HR W Z' S' ++ R) h' → RV Z' S' a b → Q a (sh s h' tk)) : wpAny Md A t Q No s :=
  stm he hs st fun a Z' S' R' h' tk x gr e st' rl => by obtain ⟨rfl, rv⟩ := rl; exact g a Z' S' h' tk x gr e st' rv
/-- a part of the tree that stands by itself, the rest of the right side at hand -/
theorem stn {c : M β} {f : β → M δ} {r : δ} {σ' : List MO} {Q : α → Shared → Prop} (he : (c >>= f) (abs S) = some (r, σ')) (hs : Sim Md W A Rel Z S R s t c) (st : St Z (HR W Z S ++ R) s.heap)
    (g : ∀ a b Z' S' R' h' tk, Ext Z Z' → Grow S S' → f b (abs S') = some (r, σ') → St Z' (HR W Z' S' ++ R') h' → Rel Z' S' R' a b → Q a (sh s h' tk)) : wpAny Md A t Q No s := by
  obtain ⟨b, σ₁, h1, h2⟩ := M.inv he
  exact stm h1 hs st fun a Z' S' R' h' tk x gr e st' rl => g a b Z' S' R' h' tk x gr (by rw [e]; exact h2) st' rl
theorem stnV {t : Sem Value} {c : M Val} {f : Val → M δ} {r : δ} {σ' : List MO} {Q : Value → Shared → Prop} (he : (c >>= f) (abs S) = some (r, σ')) (hs : Sim Md W A (RelV R) Z S R s t c) (st : St Z (HR W Z S ++ R) s.heap)
    (g : ∀ a b Z' S' h' tk, Ext Z Z' → Grow S S' → f b (abs S') = some (r, σ') → St Z' (HR W Z' S' ++ R) h' → RV Z' S' a b → Q a (sh s h' tk)) : wpAny Md A t Q No s :=
  stn he hs st fun a b Z' S' R' h' tk x gr e st' rl => by obtain ⟨rfl, rv⟩ := rl; exact g a b Z' S' h' tk x gr e st' rv
theorem M.onG {o : List MO → Option β} {f : β → M δ} {σ σ' : List MO} {r : δ} {P : Prop} (h : (getσ o >>= f) σ = some (r, σ')) (g : ∀ a, o σ = some a → f a σ = some (r, σ') → P) : P := by
  obtain ⟨a, σ₁, h1, h2⟩ := M.inv h
  obtain ⟨h3, rfl⟩ := getσ_inv h1
  exact g a h3 h2
end
end Mine
end
section
open PySem PySem.W PyProof.Rows
set_option Elab.async false
set_option maxRecDepth 10000
namespace Mine

structure ClsOk (K : Frag) (C : Addr) : Prop where
  get : plainGet K C "" = true
  dict : hasDictIn K C = true
  set : findIn K (.ref C) "__setattr__" = some (some (.builtin "object.__setattr__"))
  over : plainOver K C = true
  flds : ∀ n, fieldNames.contains n = true → findIn K (.ref C) n = some none

noncomputable def builtinTab : List (Str × Value) := [("len", .builtin "len"), ("abs", .builtin "abs"), ("max", .builtin "max"), ("min", .builtin "min"), ("sum", .builtin "sum"), ("isinstance", .builtin "isinstance"), ("sorted", .builtin "sorted"),
  ("int", .type "int"), ("tuple", .type "tuple"), ("list", .type "list"), ("set", .type "set"), ("range", .type "range"), ("zip", .type "zip"), ("enumerate", .type "enumerate"), ("bool", .type "bool")]
noncomputable def builtinVal (x : Str) : Option Value := builtinTab.lookup x

structure Bs (prog : Program) (w : World) (W : Wd) (K : Frag) (H0 : Heap) (G : Str → Option PyData) (adr : Callee → Option Addr) where
  KI : K.In H0
  mg : Str → Option Value
  mb : Str → Option Value
  g : H0.Ns mainGlobals mg
  b : H0.Ns builtinsNs mb
  nolimit : H0.NoLimit
  big : ∃ a o, H0.get? a = some o ∧ 3 ≤ a
  glob : ∀ x d, G x = some d → ∃ v, mg x = some v ∧ RD H0 v d
  blt : ∀ x v, builtinVal x = some v → mg x = none ∧ mb x = some v
  fn : ∀ f a, adr (.fn f) = some a → mg f = some (.ref a)
  keep : ∀ c a, adr c = some a → keepIn K (.ref a) = true
  cls : ∀ c C, W.cA c = some C → ClsOk K C
  mth : ∀ c m a C, adr (.mth c m) = some a → W.cA c = some C → findIn K (.ref C) m = some (some (.ref a)) ∧ isFn K (.ref a) = true

section
variable {prog : Program} {w : World} {W : Wd} {K : Frag} {H0 : Heap} {G : Str → Option PyData} {adr : Callee → Option Addr} {A : Around} {Z : Heap} {S : Sg} {R : Own} {s : Shared} {sc : Names} {env : Env} {ρ : Rho}

theorem rv_d {v : Value} {x : PyData} (r : RD Z v x) : RV Z S v (.d x) := r

theorem load_global {env : Env} {x : Str} {mg : Str → Option Value} {v : Value} {Q : Value → Shared → Prop} {E : Value → Shared → Prop} {Md : Model} (hk : env.scope.kind = .function) (hl : env.kindOf x = some .globalImplicit) (hg : env.globals = mainGlobals)
    (g : s.heap.Ns mainGlobals mg) (hv : mg x = some v) (h : Q v s) : wpAny Md A (loadName env x) Q E s := by
  unfold loadName
  simp only [Env.blockKind, hk, hl, ScopeKind.isAnnotationScope, Bool.false_and, Bool.false_eq_true, if_false]
  unfold loadGlobal
  rw [hg]
  refine wpAny_bind (wpAny_nsGet g ?_)
  rw [hv]
  exact wpAny_pure h
theorem load_builtin {env : Env} {x : Str} {mg mb : Str → Option Value} {v : Value} {Q : Value → Shared → Prop} {E : Value → Shared → Prop} {Md : Model} (hk : env.scope.kind = .function) (hl : env.kindOf x = some .globalImplicit) (hg : env.globals = mainGlobals) (hb : env.builtins = builtinsNs)
    (g : s.heap.Ns mainGlobals mg) (hn : mg x = none) (b : s.heap.Ns builtinsNs mb) (hv : mb x = some v) (h : Q v s) : wpAny Md A (loadName env x) Q E s := by
  unfold loadName
  simp only [Env.blockKind, hk, hl, ScopeKind.isAnnotationScope, Bool.false_and, Bool.false_eq_true, if_false]
  unfold loadGlobal
  rw [hg, hb]
  refine wpAny_bind (wpAny_nsGet g ?_)
  rw [hn]
  refine wpAny_bind (wpAny_nsGet b ?_)
  rw [hv]
  exact wpAny_pure h

theorem evalName {Md : Model} {x : Str} {pos : Pos} {Q : Value → Shared → Prop} {E : Value → Shared → Prop} (hb : badName x = false) (h : wpAny Md A (loadName env x) Q E s) : wpAny Md A (eval (.Name x pos) env) Q E s := by
  unfold badName at hb
  rw [Bool.or_eq_false_iff] at hb
  exact wpAny_Name h hb.1

theorem kr_global (F : FrameAt sc env ρ Z S R) {x : Str} (e : sc.lookup x = some .globalImplicit) : env.kindOf x = some .globalImplicit := by
  obtain ⟨k', e', q⟩ := F.kr x _ e
  rcases q with q | q
  · rw [e', ← q]
  · exact nomatch q.1

/-- a name that stands for a fixed value -/
theorem wp_fixed (B : Bs prog w W K H0 G adr) (x0 : Ext H0 Z) (F : FrameAt sc env ρ Z S R) {x : Str} {pos : Pos} {v : Value} {Q : Value → Shared → Prop} {E : Value → Shared → Prop} (st : St Z (HR W Z S ++ R) s.heap)
    (e : sc.lookup x = some .globalImplicit) (hb : badName x = false) (hv : builtinVal x = some v) (h : Q v s) : wpAny (model prog w) A (eval (.Name x pos) env) Q E s := by
  have k : Ext H0 s.heap := x0.trans st.sub
  obtain ⟨a, b⟩ := B.blt x v hv
  exact evalName hb (load_builtin F.kind (kr_global F e) F.glob F.blt (B.g.keeps k) a (B.b.keeps k) b h)
theorem wp_fn (B : Bs prog w W K H0 G adr) (x0 : Ext H0 Z) (F : FrameAt sc env ρ Z S R) {x : Str} {pos : Pos} {a : Addr} {Q : Value → Shared → Prop} {E : Value → Shared → Prop} (st : St Z (HR W Z S ++ R) s.heap)
    (e : sc.lookup x = some .globalImplicit) (hb : badName x = false) (hv : adr (.fn x) = some a) (h : Q (.ref a) s) : wpAny (model prog w) A (eval (.Name x pos) env) Q E s := by
  have k : Ext H0 s.heap := x0.trans st.sub
  exact evalName hb (load_global F.kind (kr_global F e) F.glob (B.g.keeps k) (B.fn x a hv) h)

theorem sim_name (B : Bs prog w W K H0 G adr) (x0 : Ext H0 Z) (F : FrameAt sc env ρ Z S R) {x : Str} {pos : Pos} :
    Sim (model prog w) W A (RelV R) Z S R s (eval (.Name x pos) env) (ofO (nameD G sc ρ x)) := by
  refine Sim.ofO fun d e => ?_
  intro st b σ' e'
  cases e'
  have k : Ext H0 s.heap := x0.trans st.sub
  have fin : ∀ v, RV Z S v d → SimPost W (RelV R) s Z S d (abs S) v s := fun v r => SimPost.same (Rel := RelV R) st ⟨rfl, r⟩
  unfold nameD at e
  split at e
  · (first | exact nope e | exact nopeB e | cases e)
  rename_i hb
  rw [Bool.not_eq_true] at hb
  refine evalName hb ?_
  split at e
  · rename_i hk
    obtain ⟨y, ey, rfl⟩ := Option.map_eq_some_iff.mp e
    obtain ⟨v, hv, r⟩ := B.glob x y ey
    exact load_global F.kind (kr_global F hk) F.glob (B.g.keeps k) hv (fin v (r.ext x0))
  · rename_i kd hne hk
    split at e
    · rename_i hvar
      obtain ⟨k', ek, q⟩ := F.kr x _ hk
      have hb' : (x == ("__classdict__" : Str)) = false := by unfold badName at hb; rw [Bool.or_eq_false_iff] at hb; exact hb.2
      have cellCase : (sc.lookup x = some .cell ∨ sc.lookup x = some .free) → (k' = .cell ∨ k' = .free) → wpAny (model prog w) A (loadName env x) (SimPost W (RelV R) s Z S d (abs S)) No s := by
        intro h1 h2
        obtain ⟨c, v, hc, hm, r⟩ := F.cel x d e h1
        rcases h2 with rfl | rfl
        · exact wpAny_loadName_cell F.kind ek hc (let ⟨o, a, b⟩ := st.at hm; ⟨o, a, b⟩) (fin v r)
        · exact wpAny_loadName_free F.kind ek hc (let ⟨o, a, b⟩ := st.at hm; ⟨o, a, b⟩) (fin v r) hb'
      cases kd <;> first | exact nope hvar | exact nopeB hvar | (cases hvar; done) | skip
      · obtain rfl : k' = .local := by rcases q with q | q; exact q.symm; exact nomatch q.1
        obtain ⟨m, hm, hl⟩ := F.loc
        obtain ⟨v, hv, r⟩ := hl x d e hk
        exact wpAny_loadName_local F.kind ek (NsP.ns (st.at hm)) hv (fin v r)
      · exact cellCase (.inl hk) (by rcases q with q | q; exact .inl q.symm; exact nomatch q.1)
      · exact cellCase (.inr hk) (by rcases q with q | q; exact .inr q.symm; exact .inl q.2)
    · (first | exact nope e | exact nopeB e | cases e)
  · (first | exact nope e | exact nopeB e | cases e)

theorem sim_const {c : Const} {k : Nat} {pos : Pos} : Sim (model prog w) W A (RelV R) Z S R s (eval (.Constant c k pos) env) (ofO ((litC c).map .d)) := by
  refine Sim.ofO fun d e => ?_
  intro st b σ' e'
  cases e'
  obtain ⟨y, ey, rfl⟩ := Option.map_eq_some_iff.mp e
  rw [arm_eval_Constant]
  cases c <;> first | cases ey | skip
  · exact wpAny_pure (SimPost.same (Rel := RelV R) st ⟨rfl, rv_d RD.none⟩)
  · exact wpAny_pure (SimPost.same (Rel := RelV R) st ⟨rfl, rv_d (RD.bool _)⟩)
  · exact wpAny_mkInt (SimPost.same (Rel := RelV R) st ⟨rfl, rv_d (RD.int _ _)⟩ _)
  · exact wpAny_mkText (SimPost.same (Rel := RelV R) st ⟨rfl, rv_d (RD.str _ _)⟩ _)
end
end Mine
end
section
open PySem PySem.W PyProof.Rows
set_option Elab.async false
set_option maxRecDepth 10000
namespace Mine

section
variable {prog : Program} {w : World} {W : Wd} {A : Around} {Z : Heap} {S : Sg} {R : Own} {s : Shared} {E : Value → Shared → Prop}

inductive LstAt (h Z : Heap) (xs : List PyData) (v : Value) : Prop
  | mk (a : Addr) (vs : Array Value) (n : Nat) (e : v = .ref a) (g : h.get? a = some (listOf vs n)) (r : RDs Z vs.toList xs) : LstAt h Z xs v
inductive TupAt (h Z : Heap) (xs : List PyData) (v : Value) : Prop
  | mk (a : Addr) (vs : Array Value) (n : Nat) (e : v = .ref a) (g : h.get? a = some (tupOf vs n)) (r : RDs Z vs.toList xs) : TupAt h Z xs v
inductive AbsGet (S : Sg) (i : Nat) (m : MO) : Prop
  | mk (l : Lc) (e : S[i]? = some l) (em : l.m = m) : AbsGet S i m
theorem abs_get {S : Sg} {i : Nat} {m : MO} (e : (abs S)[i]? = some m) : AbsGet S i m := by
  unfold abs at e
  rw [List.getElem?_map] at e
  obtain ⟨l, a, b⟩ := Option.map_eq_some_iff.mp e
  exact ⟨l, a, b⟩
theorem HR_mem {S : Sg} {i : Nat} {l : Lc} (e : S[i]? = some l) {p : Addr × (Obj → Prop)} (hp : p ∈ mres W Z S l) : p ∈ HR W Z S :=
  List.mem_flatMap.mpr ⟨l, List.mem_of_getElem? e, hp⟩
theorem at_HR {O : Own} {h : Heap} (st : St Z (HR W Z S ++ O) h) {i : Nat} {l : Lc} (e : S[i]? = some l) {a : Addr} {P : Obj → Prop} (hp : (a, P) ∈ mres W Z S l) : ∃ o, h.get? a = some o ∧ P o :=
  (st.own _ (List.mem_append_left _ (HR_mem e hp))).2
theorem at_list {O : Own} {h : Heap} (st : St Z (HR W Z S ++ O) h) {i : Nat} {l : Lc} {xs : List PyData} (e : S[i]? = some l) (em : l.m = .list xs) : ∃ vs n, h.get? l.x = some (listOf vs n) ∧ RDs Z vs.toList xs := by
  obtain ⟨o, a, vs, n, b, c⟩ := at_HR (P := fun o => ∃ vs n, o = listOf vs n ∧ RDs Z vs.toList xs) st e (a := l.x) (by unfold mres; rw [em]; simp)
  exact ⟨vs, n, by rw [a, b], c⟩

/-- what is seen as data is borne so by the heap as it stands -/
theorem seen_rd {O : Own} {h : Heap} (st : St Z (HR W Z S ++ O) h) {v : Value} {d : Val} {x : PyData} (r : RV Z S v d) (e : seen (abs S) d = some x) : RD h v x := by
  cases d with
  | d y => cases e; exact RD.ext r st.sub
  | p i =>
    unfold seen at e
    cases q : (abs S)[i]? with
    | none => simp only [q] at e; cases e
    | some m =>
      simp only [q] at e
      cases m with
      | list xs =>
        cases e
        obtain ⟨l, a, b⟩ := abs_get q
        obtain ⟨l', a', rfl⟩ := r
        rw [a] at a'; cases a'
        obtain ⟨vs, n, g, k⟩ := at_list st a b
        exact .list g (k.ext st.sub)
      | _ => (first | exact nope e | exact nopeB e | cases e)

/-- a list, whether it changes or not: its items stay -/
theorem seen_list {O : Own} {h : Heap} (st : St Z (HR W Z S ++ O) h) {v : Value} {d : Val} {xs : List PyData} (r : RV Z S v d) (e : seen (abs S) d = some (.list xs)) : LstAt h Z xs v := by
  cases d with
  | d y =>
    cases e
    cases (show RD Z v (.list xs) from r) with
    | list a b => exact ⟨_, _, _, rfl, st.sub _ _ a, b⟩
  | p i =>
    unfold seen at e
    cases q : (abs S)[i]? with
    | none => simp only [q] at e; cases e
    | some m =>
      simp only [q] at e
      cases m with
      | list xs =>
        cases e
        obtain ⟨l, a, b⟩ := abs_get q
        obtain ⟨l', a', rfl⟩ := r
        rw [a] at a'; cases a'
        obtain ⟨vs, n, g, k⟩ := at_list st a b
        exact ⟨_, vs, n, rfl, g, k⟩
      | _ => (first | exact nope e | exact nopeB e | cases e)
theorem seen_tuple {O : Own} {h : Heap} (st : St Z (HR W Z S ++ O) h) {v : Value} {d : Val} {xs : List PyData} (r : RV Z S v d) (e : seen (abs S) d = some (.tuple xs)) : TupAt Z Z xs v := by
  cases d with
  | d y =>
    cases e
    cases (show RD Z v (.tuple xs) from r) with
    | tuple a b => exact ⟨_, _, _, rfl, a, b⟩
  | p i =>
    unfold seen at e
    cases q : (abs S)[i]? with
    | none => simp only [q] at e; cases e
    | some m => simp only [q] at e; cases m <;> cases e

theorem fin_d (st : St Z (HR W Z S ++ R) s.heap) {v : Value} {x : PyData} (r : RD Z v x) (tk : Nat) : SimPost W (RelV R) s Z S (.d x) (abs S) v { s with toks := tk } := SimPost.same (Rel := RelV R) st ⟨rfl, rv_d r⟩ tk

theorem RD.int_of {Z : Heap} {v : Value} {i : Int} (r : RD Z v (.int i)) : ∃ t, v = .int i t := by cases r; exact ⟨_, rfl⟩
theorem RD.bool_of {Z : Heap} {v : Value} {i : Bool} (r : RD Z v (.bool i)) : v = .bool i := by cases r; rfl
theorem RD.str_of {Z : Heap} {v : Value} {i : Str} (r : RD Z v (.str i)) : ∃ t, v = .str i t := by cases r; exact ⟨_, rfl⟩
theorem RD.list_of {Z : Heap} {v : Value} {xs : List PyData} (r : RD Z v (.list xs)) : LstAt Z Z xs v := by cases r with | list a b => exact ⟨_, _, _, rfl, a, b⟩
theorem RD.tuple_of {Z : Heap} {v : Value} {xs : List PyData} (r : RD Z v (.tuple xs)) : TupAt Z Z xs v := by cases r with | tuple a b => exact ⟨_, _, _, rfl, a, b⟩
theorem isList_of {h : Heap} {a : Addr} {vs : Array Value} {n : Nat} (e : h.get? a = some (listOf vs n)) : h.IsList a vs := ⟨_, e, rfl, _, rfl⟩
theorem isTup_of {h : Heap} {a : Addr} {vs : Array Value} {n : Nat} (e : h.get? a = some (tupOf vs n)) : IsTup h a vs := ⟨_, e, rfl, _, rfl⟩
theorem isTuple_of {h : Heap} {a : Addr} {vs : Array Value} {n : Nat} (e : h.get? a = some (tupOf vs n)) : h.IsTuple a vs := ⟨_, e, rfl, _, rfl⟩

/-- the heap has grown: the end of a step that makes things -/
theorem fin_grow (st : St Z (HR W Z S ++ R) s.heap) {h' : Heap} {v : Value} {x : PyData} (k : Ext s.heap h')
    (r : ∀ Z', Ext Z Z' → (∀ b o, h'.get? b = some o → s.heap.get? b = none → Z'.get? b = some o) → RD Z' v x) (tk : Nat) : SimPost W (RelV R) s Z S (.d x) (abs S) v (sh s h' tk) := by
  obtain ⟨Z', a, b, c⟩ := st.grow k
  refine ⟨Z', S, R, h', tk, rfl, a, Grow.refl _, rfl, St.mono (T := S) b a (Grow.refl _), rfl, r Z' a fun d o e n => c d o e fun hm => ?_⟩
  obtain ⟨p, hp, rfl⟩ := List.mem_map.mp hm
  obtain ⟨_, o', e', _⟩ := st.own p hp
  rw [n] at e'; cases e'
theorem fin_push (st : St Z (HR W Z S ++ R) s.heap) {o : Obj} {x : PyData} (hf : o.isFreed = false) (r : ∀ Z', Ext Z Z' → Z'.get? s.heap.objs.size = some o → RD Z' (.ref s.heap.objs.size) x) (tk : Nat) :
    SimPost W (RelV R) s Z S (.d x) (abs S) (.ref s.heap.objs.size) (sh s (s.heap.push o) tk) :=
  fin_grow st (fun _ _ e => Heap.get?_push_of_some _ e) (fun Z' k c => r Z' k (c _ _ (Heap.get?_push_size _ hf) (get_size _))) tk

theorem wp_operate {Md : Model} {vs : List Value} {t : Sem Value} {Q : Value → Shared → Prop} (h : wpAny Md A t Q E s) : wpAny Md A (operate vs t) Q E s := fun Γ p hΓ => by
  rw [Sem.wp_operate]; exact h Γ p hΓ

theorem okLen_of {n : Nat} (h : okLen n = true) : n ≤ 4096 := of_decide_eq_true h
theorem okInt_of {a : Int} (h : okInt a = true) : -(2 : Int) ^ 40 < a ∧ a < (2 : Int) ^ 40 := by
  unfold okInt at h
  rw [Bool.and_eq_true] at h
  exact ⟨of_decide_eq_true h.1, of_decide_eq_true h.2⟩
theorem size_of {Z : Heap} {vs : Array Value} {xs : List PyData} (r : RDs Z vs.toList xs) : vs.size = xs.length := by rw [← r.length, Array.length_toList]

theorem intBits_le {a : Int} (h : okInt a = true) : Builtin.Int.intBits a ≤ 64 := by
  obtain ⟨h1, h2⟩ := okInt_of h
  unfold Builtin.Int.intBits
  split
  · (first | lia | omega)
  · rename_i h0
    have hn : a.natAbs < 2 ^ 40 := by (first | lia | omega)
    have := Nat.log2_lt (n := a.natAbs) (k := 40) (by simpa using h0)
    (first | lia | omega)

theorem noPylong_okInt {a b : Int} (h : okInt a = true) : Builtin.divisionGoesByPylong a b = false := by
  obtain ⟨h1, h2⟩ := okInt_of h
  unfold Builtin.divisionGoesByPylong
  have : (if (a == 0) = true then 0 else a.natAbs.log2 / 30 + 1) ≤ 2 := by
    split
    · (first | lia | omega)
    · rename_i h0
      have := (Nat.log2_lt (n := a.natAbs) (k := 40) (by simpa using h0)).mpr (by (first | lia | omega))
      (first | lia | omega)
  simp only [Bool.and_eq_false_iff, decide_eq_false_iff_not]
  right
  intro h
  have h' := Nat.lt_of_lt_of_le h this
  (first | lia | omega)
theorem flatten_rep (vs : Array Value) (n : Nat) : (List.foldl (fun x1 x2 => x1 ++ x2) #[] (List.replicate n vs)).toList = (List.replicate n vs.toList).flatten := by
  have : ∀ (acc : Array Value), (List.foldl (fun x1 x2 => x1 ++ x2) acc (List.replicate n vs)).toList = acc.toList ++ (List.replicate n vs.toList).flatten := by
    induction n with
    | zero => intro acc; simp
    | succ n ih => intro acc; simp only [List.replicate_succ, List.foldl_cons, List.flatten_cons, ih]; simp
  simpa using this #[]
theorem RDs.rep {Z : Heap} {vs : List Value} {xs : List PyData} (r : RDs Z vs xs) (n : Nat) : RDs Z (List.replicate n vs).flatten (List.replicate n xs).flatten := by
  induction n with
  | zero => exact .nil
  | succ n ih => simp only [List.replicate_succ, List.flatten_cons]; exact r.append ih

@[elab_as_elim] theorem RD.intE {Z : Heap} {v : Value} {i : Int} {P : Value → Prop} (r : RD Z v (.int i)) (k : ∀ t, P (.int i t)) : P v := by cases r; exact k _
@[elab_as_elim] theorem RD.strE {Z : Heap} {v : Value} {i : Str} {P : Value → Prop} (r : RD Z v (.str i)) (k : ∀ t, P (.str i t)) : P v := by cases r; exact k _
@[elab_as_elim] theorem RD.lstE {Z : Heap} {v : Value} {xs : List PyData} {P : Value → Prop} (r : RD Z v (.list xs)) (k : ∀ a vs n, Z.get? a = some (listOf vs n) → RDs Z vs.toList xs → P (.ref a)) : P v := by cases r with | list a b => exact k _ _ _ a b
@[elab_as_elim] theorem RD.tupE {Z : Heap} {v : Value} {xs : List PyData} {P : Value → Prop} (r : RD Z v (.tuple xs)) (k : ∀ a vs n, Z.get? a = some (tupOf vs n) → RDs Z vs.toList xs → P (.ref a)) : P v := by cases r with | tuple a b => exact k _ _ _ a b
/-- a list, seen so -/
@[elab_as_elim] theorem seen_lstE {O : Own} {h : Heap} {v : Value} {d : Val} {u : PyData} {xs : List PyData} {P : Value → Prop} (st : St Z (HR W Z S ++ O) h) (r : RV Z S v d) (e : seen (abs S) d = some u) (e2 : lstP u = some xs) (k : ∀ a vs n, h.get? a = some (listOf vs n) → RDs Z vs.toList xs → P (.ref a)) : P v := by
  rw [lstP_eq e2] at e
  obtain ⟨a, vs, n, rfl, g, q⟩ := seen_list st r e
  exact k a vs n g q
theorem repeat_lists {l : Addr} {vs : Array Value} {n : Nat} {xs : List PyData} {k : Int} {u : Tok} (st : St Z (HR W Z S ++ R) s.heap) (g : Z.get? l = some (listOf vs n)) (r : RDs Z vs.toList xs) (h1 : xs.length ≤ 4096) (h2 : 0 ≤ k) (h3 : k ≤ 4096) :
    wpAny (model prog w) A (binaryOp .Mult (.ref l) (.int k u)) (SimPost W (RelV R) s Z S (.d (.list (List.replicate k.toNat xs).flatten)) (abs S)) No s := by
  have g' := st.sub _ _ g
  have hsz := size_of r
  have hm : vs.size * k.toNat ≤ 4096 * 4096 := Nat.mul_le_mul (by (first | lia | omega)) (by (first | lia | omega))
  generalize hq : vs.size * k.toNat = q at hm
  refine wpAny_binaryOp_repeat_ref (T := "list") (U := "int") (by decide) ⟨_, g', rfl⟩ (fun s' => typeIs_int s' k u) noFill_list_mul F.fills_int_mul F.slot_int_rmul repeat_list F.slot_int_index.lookup
    (call_meets F.slot_int_rmul (typeIs_int s k u) F.entry_int_rmul (F.args_int_rmul_2 _ _) (int___rmul___int_list k u l vs n)
      ⟨g', rfl, ⟨_, g', rfl⟩, call_meets F.slot_list_mul ⟨_, g', rfl⟩ F.entry_list_mul (F.args_list_mul_2 _ _)
        (AutoListH.list___mul___list_int_3 l vs n k u (by simp [Builtin.List.listFitsIndex]; (first | lia | omega)) (by rw [hq]; (first | lia | omega)) (by rw [hq]; unfold Builtin.List.listTooLong; rw [sizeLine_eq]; simp; (first | lia | omega))) ⟨g', ?_⟩⟩)
  refine fin_push st rfl (fun Z' k' q => .list q ?_) _
  rw [flatten_rep]
  split
  · rename_i he
    have : xs = [] := by
      have : vs.size = 0 := by simpa using he
      exact List.length_eq_zero_iff.mp (by (first | lia | omega))
    subst this
    simp
    exact .nil
  · exact (r.ext k').rep _

theorem sim_binop {op : Operator} {a b : Value} {x y : Val} {z : PyData} (st : St Z (HR W Z S ++ R) s.heap) (ra : RV Z S a x) (rb : RV Z S b y) (e : binD op (abs S) x y = some z) :
    wpAny (model prog w) A (binaryOp op a b) (SimPost W (RelV R) s Z S (.d z) (abs S)) No s := by
  have fin : ∀ {i : Int} {t : Tok}, ∀ tk, SimPost W (RelV R) s Z S (.d (.int i)) (abs S) (.int i t) { s with toks := tk } := fun tk => fin_d st (.int _ _) tk
  have two : ∀ {f : Int → Int → Option PyData}, int2 x y f = some z → (∀ i j t u, f i j = some z → wpAny (model prog w) A (binaryOp op (.int i t) (.int j u)) (SimPost W (RelV R) s Z S (.d z) (abs S)) No s) → wpAny (model prog w) A (binaryOp op a b) (SimPost W (RelV R) s Z S (.d z) (abs S)) No s := fun h k =>
    int2E (P := fun x y => RV Z S a x → RV Z S b y → wpAny (model prog w) A (binaryOp op a b) (SimPost W (RelV R) s Z S (.d z) (abs S)) No s) h (fun i j h ra rb => RD.intE ra fun t => RD.intE rb fun u => k i j t u h) ra rb
  cases op <;> first | exact nope e | exact nopeB e | (cases e; done) | skip
  · replace e : addD (abs S) x y = some z := e
    unfold addD at e
    cases hx : intV x with
    | some i =>
      rw [hx] at e
      obtain ⟨j, hj, rfl⟩ := Option.map_eq_some_iff.mp e
      rw [intV_eq hx] at ra
      rw [intV_eq hj] at rb
      exact RD.intE ra fun t => RD.intE rb fun u => add_int (fin _)
    | none =>
      rw [hx] at e
      refine obE e fun u hu e => obE e fun xs hxs e => obE e fun v hv e => obE e fun ys hys e => ?_
      refine seen_lstE st ra hu hxs fun l vs n g r => seen_lstE st rb hv hys fun l' vs' n' g' r' => gdE e fun h => ?_
      rw [Bool.and_eq_true] at h
      have h1 := okLen_of h.1
      have h2 := okLen_of h.2
      have s1 := size_of r
      have s2 := size_of r'
      refine concat_meets ⟨_, g, rfl⟩ ⟨_, g', rfl⟩ noFill_list_add seq_list_add F.slot_list_add F.entry_list_add (F.args_list_add_2 _ _)
        (AutoSeq1.list___add___list_list_0 l vs n l' vs' n' (by rw [sizeLine_eq]; (first | lia | omega))) ⟨g, g', ?_⟩
      refine fin_push st rfl (fun Z' k' q => .list q ?_) _
      simpa using (r.ext k').append (r'.ext k')
  · exact two e fun i j t u h => by cases h; exact sub_int (fin _)
  · replace e : mulD x y = some z := e
    refine obE e fun j hj e => ?_
    rw [intV_eq hj] at rb
    refine RD.intE rb fun u => ?_
    cases hx : intV x with
    | some i =>
      rw [hx] at e
      rw [intV_eq hx] at ra
      exact RD.intE ra fun t => gdE e fun h => mul_int (fin _) (IntMulOk.of_left (intBits_le (and2 h fun h _ => h)))
    | none =>
      rw [hx] at e
      refine obE e fun v hv e => obE e fun xs hxs e => ?_
      rw [data_eq hv, lstP_eq hxs] at ra
      exact RD.lstE ra fun l vs n g r => gdE e fun h => and2 h fun h h3 => and2 h fun h1 h2 => repeat_lists st g r (okLen_of h1) (of_decide_eq_true h2) (of_decide_eq_true h3)
  · exact two e fun i j t u h => gdE h fun h => mod_int' (by simpa using h) (fin _)
  · exact two e fun i j t u h => gdE h fun h => by
      rw [Bool.and_eq_true, beq_iff_eq, beq_iff_eq] at h
      obtain ⟨rfl, rfl⟩ := h
      exact pow_int_small (by decide) (by decide) (by decide) (fin _)
  · exact two e fun i j t u h => gdE h fun h => and2 h fun h h3 => and2 h fun h1 _ => floordiv_int (by simpa using h3) (fin _) (.inl (noPylong_okInt h1))
end
end Mine
end
section
open PySem PySem.W PyProof.Rows
set_option Elab.async false
set_option maxRecDepth 10000
namespace Mine

theorem canLay_ints : ∀ l : List Int, PyData.canLayAll0 (l.map .int) = true
  | [] => rfl
  | _ :: r => by simp only [List.map_cons, PyData.canLayAll0, PyData.canLay0, canLay_ints r, Bool.and_self]
theorem depth_ints : ∀ l : List Int, PyData.depthAll (l.map .int) = 0
  | [] => rfl
  | _ :: r => by simp only [List.map_cons, PyData.depthAll, PyData.depth, depth_ints r, Nat.max_self]
theorem eqv_ints : ∀ l m : List Int, PyData.eqvAll (l.map .int) (m.map .int) = decide (l = m)
  | [], [] => rfl
  | [], _ :: _ => by simp [PyData.eqvAll]
  | _ :: _, [] => by simp [PyData.eqvAll]
  | a :: r, b :: q => by
    simp only [List.map_cons, PyData.eqvAll, PyData.eqv, eqv_ints r q]
    by_cases h1 : a = b <;> by_cases h2 : r = q <;> simp [h1, h2]
theorem eqv_tk (x y : TKey) : PyData.eqv (tkD x) (tkD y) = decide (x = y) := by
  obtain ⟨a, b, c, d, e⟩ := x
  obtain ⟨a', b', c', d', e'⟩ := y
  simp only [tkD, PyData.eqv, PyData.eqvAll, eqv_ints, TKey.mk.injEq]
  by_cases h1 : a = a' <;> by_cases h2 : b = b' <;> by_cases h3 : c = c' <;> by_cases h4 : d = d' <;> by_cases h5 : e = e' <;> simp [h1, h2, h3, h4, h5]
theorem tkD_inj {x y : TKey} (h : tkD x = tkD y) : x = y := by
  have hi : ∀ l m : List Int, l.map PyData.int = m.map PyData.int → l = m := by
    intro l
    induction l with
    | nil => intro m h; cases m with | nil => rfl | cons _ _ => simp at h
    | cons a r ih => intro m h; cases m with | nil => simp at h | cons b q => simp at h; rw [h.1, ih q (by simpa using h.2)]
  obtain ⟨a, b, c, d, e⟩ := x
  obtain ⟨a', b', c', d', e'⟩ := y
  simp only [tkD, PyData.tuple.injEq, List.cons.injEq, PyData.str.injEq, PyData.int.injEq, and_true] at h
  obtain ⟨h1, h2, h3, h4, h5⟩ := h
  rw [h1, h2, hi _ _ h3, hi _ _ h4, h5]

mutual
/-- the hash of data that are ints, strs, tuples of these -/
noncomputable def hashD (w : World) : PyData → Int
  | .int i => hashInt i
  | .str x => hashStr w x
  | .tuple xs => reduceHash (Builtin.Tuple.tupleHashOf (hashDs w xs))
  | _ => 0
noncomputable def hashDs (w : World) : List PyData → List Int
  | [] => []
  | x :: r => hashD w x :: hashDs w r
end
mutual
noncomputable def drD : PyData → Nat
  | .tuple xs => drDs xs + 1
  | _ => 1
noncomputable def drDs : List PyData → Nat
  | [] => 0
  | x :: r => drD x + drDs r
end
mutual
noncomputable def keyish : PyData → Bool
  | .int _ | .str _ => true
  | .tuple xs => keyishAll xs
  | _ => false
noncomputable def keyishAll : List PyData → Bool
  | [] => true
  | x :: r => keyish x && keyishAll r
end
mutual
noncomputable def dpD : PyData → Nat
  | .tuple xs => dpDs xs + 1
  | _ => 0
noncomputable def dpDs : List PyData → Nat
  | [] => 0
  | x :: r => max (dpD x) (dpDs r)
end

theorem hashD_t {w : World} {xs : List PyData} : hashD w (.tuple xs) = reduceHash (Builtin.Tuple.tupleHashOf (hashDs w xs)) := rfl
theorem hashDs_c {w : World} {x : PyData} {r : List PyData} : hashDs w (x :: r) = hashD w x :: hashDs w r := rfl
theorem drD_t {xs : List PyData} : drD (.tuple xs) = drDs xs + 1 := rfl
theorem drDs_c {x : PyData} {r : List PyData} : drDs (x :: r) = drD x + drDs r := rfl
theorem key_t {xs : List PyData} : keyish (.tuple xs) = keyishAll xs := rfl
theorem key_c {x : PyData} {r : List PyData} : keyishAll (x :: r) = (keyish x && keyishAll r) := rfl
theorem key_n : keyishAll [] = true := rfl
theorem key_i {i : Int} : keyish (.int i) = true := rfl
theorem key_s {i : Str} : keyish (.str i) = true := rfl
theorem dpD_t {xs : List PyData} : dpD (.tuple xs) = dpDs xs + 1 := rfl
theorem dpD_i {i : Int} : dpD (.int i) = 0 := rfl
theorem dpD_s {i : Str} : dpD (.str i) = 0 := rfl
theorem dpDs_c {x : PyData} {r : List PyData} : dpDs (x :: r) = max (dpD x) (dpDs r) := rfl
theorem dpDs_n : dpDs [] = 0 := rfl
section
variable {prog : Program} {w : World}
mutual
theorem hash_rd : ∀ (x : PyData) (v : Value) (A : Around) (s : Shared) (Q : Int → Shared → Prop) (E : Value → Shared → Prop), keyish x = true → RD s.heap v x → A.units + dpD x < cLine → Q (hashD w x) { s with toks := s.toks + drD x } → wpAny (model prog w) A (pyHash v) Q E s
  | .int i, v, A, s, Q, E, _, r, _, h => by cases r; exact wpAny_pyHash_int h
  | .str i, v, A, s, Q, E, _, r, _, h => by cases r; exact wpAny_pyHash_str h
  | .tuple xs, v, A, s, Q, E, k, r, hu, h => by
    obtain ⟨a, vs, n, rfl, g, q⟩ := RD.tuple_of r
    refine pyHash_slot (T := "tuple") ⟨_, g, rfl⟩ F.slot_tuple_hash F.entry_tuple_hash (F.args_tuple_hash_1 _) (beq_builtin_none _) (.inr (by (first | lia | omega))) ?_
    show wpAny _ _ (Builtin.Tuple.tupleItemsOf (.ref a) >>= _) _ _ s
    refine wpAny_bind (wpAny_tupleItemsOf g rfl ?_)
    refine wpAny_bind ?_
    rw [← Array.forIn_toList]
    refine hash_rds xs vs.toList A.in1 s #[] _ E (key_t.symm.trans k) q (by simp only [dpD_t, Around.in1_units] at hu ⊢; (first | lia | omega)) fun b hb => ?_
    show wpAny _ _ (retInt (Builtin.Tuple.tupleHashOf b.toList)) _ _ _
    rw [hb]
    refine wpAny_bind (wpAny_mkInt (wpAny_pure ⟨_, _, rfl, ?_⟩))
    rw [hashD_t, drD_t, ← Nat.add_assoc] at h
    exact h
  | .none, _, _, _, _, _, k, _, _, _ | .bool _, _, _, _, _, _, k, _, _, _ | .list _, _, _, _, _, _, k, _, _, _ | .dict _, _, _, _, _, _, k, _, _, _ => nopeB k
theorem hash_rds : ∀ (xs : List PyData) (vs : List Value) (A : Around) (s : Shared) (b : Array Int) (Q : Array Int → Shared → Prop) (E : Value → Shared → Prop), keyishAll xs = true → RDs s.heap vs xs → A.units + dpDs xs < cLine →
    (∀ b', b'.toList = b.toList ++ hashDs w xs → Q b' { s with toks := s.toks + drDs xs }) →
    wpAny (model prog w) A (forIn vs b fun x r => do let h ← pyHash x; pure PUnit.unit; pure (ForInStep.yield (r.push h))) Q E s
  | [], vs, A, s, b, Q, E, _, r, _, h => by cases r; exact wpAny_pure (h b (List.append_nil _).symm)
  | x :: xs, vs, A, s, b, Q, E, k, r, hu, h => by
    obtain ⟨v, vs', rfl, r1, r2⟩ := r.uncons'
    simp only [key_c, Bool.and_eq_true, dpDs_c] at k hu
    rw [List.forIn_cons]
    refine wpAny_bind (wpAny_bind (hash_rd x v A s _ E k.1 r1 (by (first | lia | omega)) ?_))
    refine wpAny_bind (wpAny_pure (wpAny_pure ?_))
    refine hash_rds xs vs' A { s with toks := s.toks + drD x } _ Q E k.2 r2 (by (first | lia | omega)) fun b' hb => ?_
    have := h b' (by rw [hb, Array.toList_push, List.append_assoc]; rfl)
    rw [drDs_c, ← Nat.add_assoc] at this
    exact this
end

mutual
theorem quiet_rd : ∀ (x : PyData) (v : Value) (n : Nat) (A : Around) (s : Shared) (Q : Bool → Shared → Prop) (E : Value → Shared → Prop), keyish x = true → RD s.heap v x → dpD x ≤ n → Q true s → wpAny (model prog w) A (eqIsQuiet n v) Q E s
  | .int i, v, n, A, s, Q, E, _, r, _, h => by cases r; rw [eqIsQuiet_byValue _ rfl]; exact wpAny_pure h
  | .str i, v, n, A, s, Q, E, _, r, _, h => by cases r; rw [eqIsQuiet_byValue _ rfl]; exact wpAny_pure h
  | .tuple xs, v, 0, A, s, Q, E, k, r, hn, h => by rw [dpD_t] at hn; omega
  | .tuple xs, v, n + 1, A, s, Q, E, k, r, hn, h => by
    obtain ⟨a, vs, m, rfl, g, q⟩ := RD.tuple_of r
    have hT : s.TypeIs (.ref a) "tuple" := ⟨_, g, rfl⟩
    unfold eqIsQuiet
    refine wpAny_bind (wpAny_specialOf hT F.slot_tuple_eq.lookup ?_)
    show wpAny _ _ (isInstance (.ref a) (.type "tuple") >>= _) _ _ s
    refine wpAny_bind (wpAny_isInstance hT isSubtype_tuple_tuple ?_)
    simp only [Bool.not_true, Bool.false_eq_true, if_false]
    refine wpAny_bind (wpAny_seqItems g rfl ?_)
    refine wpAny_bind ?_
    show wpAny _ _ (forIn vs _ _) _ _ s
    rw [← Array.forIn_toList]
    refine quiet_rds xs vs.toList n A s _ E (key_t.symm.trans k) q (by rw [dpD_t] at hn; omega) ?_
    exact wpAny_pure h
  | .none, _, _, _, _, _, _, k, _, _, _ | .bool _, _, _, _, _, _, _, k, _, _, _ | .list _, _, _, _, _, _, _, k, _, _, _ | .dict _, _, _, _, _, _, _, k, _, _, _ => nopeB k
theorem quiet_rds : ∀ (xs : List PyData) (vs : List Value) (n : Nat) (A : Around) (s : Shared) (Q : Option Bool × PUnit → Shared → Prop) (E : Value → Shared → Prop), keyishAll xs = true → RDs s.heap vs xs → dpDs xs ≤ n → Q (none, ⟨⟩) s →
    wpAny (model prog w) A (forIn vs ((none, ⟨⟩) : Option Bool × PUnit) fun y r => do
      let __do_lift ← eqIsQuiet n y
      if (!__do_lift) = true then pure (ForInStep.done (some false, r.2)) else pure (ForInStep.yield (none, r.2))) Q E s
  | [], vs, n, A, s, Q, E, _, r, _, h => by cases r; exact wpAny_pure h
  | x :: xs, vs, n, A, s, Q, E, k, r, hu, h => by
    obtain ⟨v, vs', rfl, r1, r2⟩ := r.uncons'
    simp only [key_c, Bool.and_eq_true, dpDs_c] at k hu
    rw [List.forIn_cons]
    refine wpAny_bind (wpAny_bind (quiet_rd x v n A s _ E k.1 r1 (by (first | lia | omega)) ?_))
    simp only [Bool.not_true, Bool.false_eq_true, if_false]
    exact wpAny_pure (quiet_rds xs vs' n A s Q E k.2 r2 (by (first | lia | omega)) h)
end

theorem keyish_ints : ∀ l : List Int, keyishAll (l.map .int) = true
  | [] => rfl
  | _ :: r => by rw [List.map_cons, key_c, keyish_ints r]; rfl
theorem dp_ints : ∀ l : List Int, dpDs (l.map .int) = 0
  | [] => rfl
  | _ :: r => by rw [List.map_cons, dpDs_c, dp_ints r]; rfl
theorem keyish_tk (k : TKey) : keyish (tkD k) = true := by simp only [tkD, key_t, key_c, key_n, key_i, key_s, keyish_ints, Bool.and_self]
theorem dp_tk (k : TKey) : dpD (tkD k) = 3 := by simp only [tkD, dpD_t, dpDs_c, dpDs_n, dpD_i, dpD_s, dp_ints]; rfl
end


theorem canLay_tk {k : TKey} (h1 : PyData.strOk k.tag = true) (h2 : PyData.strOk k.kind = true) : (tkD k).canLay0 = true := by
  simp [tkD, PyData.canLay0, PyData.canLayAll0, canLay_ints, h1, h2]
theorem depth_tk (k : TKey) : (tkD k).depth ≤ 8 := by
  simp [tkD, PyData.depth, PyData.depthAll, depth_ints]

noncomputable def kndT (prog : Program) (w : World) : HeapKind prog w TKey where
  is := fun h k a => RD h (.ref a) (tkD k) ∧ (tkD k).canLay0 = true
  hash := fun k => hashD w (tkD k)
  draws := fun k => drD (tkD k)
  room := fun A => A.units + 16 < cLine
  inj := fun hx hy => tkD_inj (hx.1.unique hy.1)
  keeps := fun x ho hd hs => ⟨x.1.keeps ho hd hs, x.2⟩
  pyHash := fun {A E s k a Q} hu hk h => hash_rd (tkD k) _ A s Q E (keyish_tk k) hk.1 (by rw [dp_tk]; (first | lia | omega)) h
  eqBool := fun {A E s x y a b Q} hu hx hy h => by
    obtain ⟨as, ra⟩ := hx.1.reads
    obtain ⟨bs, rb⟩ := hy.1.reads
    have := SeqAt.eqAt_reads (tkD x) (tkD y) A s (.ref a) (.ref b) as bs ra rb hx.2 hy.2 (by
      have h1 := depth_tk x
      have h2 := Nat.min_le_left (tkD x).depth (tkD y).depth
      (first | lia | omega))
    rw [eqv_tk] at this
    exact this prog w E Q h
  quiet := fun {A E s k a Q} hk h => quiet_rd (tkD k) _ 8 A s Q E (keyish_tk k) hk.1 (by rw [dp_tk]; (first | lia | omega)) h

section
variable {prog : Program} {w : World} {W : Wd} {A : Around} {Z : Heap} {S : Sg} {R : Own} {s : Shared} {E : Value → Shared → Prop}

theorem allInts_of : ∀ (l : List PyData) (m : List Int), allInts l = some m → l = m.map .int := by
  intro l
  induction l with
  | nil => intro m h; cases h; rfl
  | cons a r ih =>
    intro m h
    cases a <;> first | exact nope h | exact nopeB h | (cases h; done) | skip
    obtain ⟨q, e, rfl⟩ := Option.map_eq_some_iff.mp (show (allInts r).map _ = some m from h)
    rw [List.map_cons, ih q e]
theorem keyOf_some {x : PyData} {k : TKey} (h : keyOf? x = some k) : x = tkD k ∧ (tkD k).canLay0 = true := by
  refine obE h fun l hl h => obE h fun q hq h => obE h fun t ht h => obE h fun l2 hl2 h => obE h fun q2 hq2 h => obE h fun k hk h => obE h fun cs hcs h => obE h fun xs hxs h => obE h fun c hc h => obE h fun cs' e1 h => obE h fun xs' e2 h => ?_
  refine gdE h fun h => and2 h fun h h2 => and2 h fun _ h1 => ⟨?_, canLay_tk h1 h2⟩
  rw [tupP_eq hl, two_eq hq, strP_eq ht, tupP_eq hl2, four_eq hq2, strP_eq hk, tupP_eq hcs, tupP_eq hxs, intP_eq hc, allInts_of _ _ e1, allInts_of _ _ e2]
  rfl

inductive MadeAt (prog : Program) (w : World) (Z h : Heap) (d : Addr) (kvs : List (TKey × Int)) : Prop
  | mk (xs : List (TKey × Addr × Value)) (D : h.DictOfH (kndT prog w) d xs) (R : ∀ y ∈ xs, RD Z (.ref y.2.1) (tkD y.1) ∧ (tkD y.1).canLay0 = true) (P : Paired (fun (x : TKey × Addr × Value) (f : TKey × Int) => x.1 = f.1 ∧ ∃ t, x.2.2 = .int f.2 t) xs kvs) : MadeAt prog w Z h d kvs
/-- the table of made variables, in the kit's words -/
theorem made_of {hw : W.hk = fun k => hashD w (tkD k)} {h : Heap} {d : Addr} {kvs : List (TKey × Int)} (x : Ext Z h) (e : ∃ o, h.get? d = some o ∧ ∃ es n, o = dictOf es n ∧ MadeAre W.hk Z es kvs) :
    MadeAt prog w Z h d kvs := by
  obtain ⟨o, e, es, n, rfl, xs, rfl, a, b, c⟩ := e
  refine ⟨xs, ⟨_, _, n, e, ⟨rfl, rfl, rfl⟩, rfl, ?_, fun y hy => ⟨(a y hy).1.ext x, (a y hy).2⟩, b⟩, a, c⟩
  rw [hw]
  rfl
theorem made_look {xs : List (TKey × Addr × Value)} {kvs : List (TKey × Int)} (c : Paired (fun (x : TKey × Addr × Value) (f : TKey × Int) => x.1 = f.1 ∧ ∃ t, x.2.2 = .int f.2 t) xs kvs) (k : TKey) :
    match kvs.lookup k with
    | none => atKey xs k = none
    | some n => ∃ a t, atKey xs k = some (a, .int n t) := by
  induction c with
  | nil => rfl
  | @cons x f xs kvs h _ ih =>
    obtain ⟨k', n⟩ := f
    obtain ⟨k2, a, v⟩ := x
    obtain ⟨rfl, t, hv⟩ := h
    dsimp only at hv ih ⊢
    subst hv
    rw [List.lookup_cons]
    by_cases hk : k = k2
    · subst hk
      simp [atKey]
    · have h1 : (k == k2) = false := by simpa using hk
      have h2 : ¬ k2 = k := fun q => hk q.symm
      rw [h1]
      simpa [atKey, List.find?_cons, h2] using ih

theorem made_st (hw : W.hk = fun k => hashD w (tkD k)) {h : Heap} {O : Own} (st : St Z (HR W Z S ++ O) h) {i : Nat} {kvs : List (TKey × Int)} (hi : (abs S)[i]? = some (.made kvs)) {v : Value} {P : Value → Prop} (rv : RV Z S v (.p i))
    (k : ∀ l xs, S[i]? = some l → l.m = .made kvs → 3 < l.x → h.DictOfH (kndT prog w) l.x xs → (∀ y ∈ xs, RD Z (.ref y.2.1) (tkD y.1) ∧ (tkD y.1).canLay0 = true) → Paired (fun (x : TKey × Addr × Value) (f : TKey × Int) => x.1 = f.1 ∧ ∃ t, x.2.2 = .int f.2 t) xs kvs → P (.ref l.x)) : P v := by
  obtain ⟨l, el, em⟩ := abs_get hi
  obtain ⟨l', el', rfl⟩ := rv
  rw [el] at el'; cases el'
  obtain ⟨o, ho, h3, es, m, rfl, hm⟩ := at_HR (P := fun o => 3 < l.x ∧ ∃ es n, o = dictOf es n ∧ MadeAre W.hk Z es kvs) (a := l.x) st el (by unfold mres; rw [em]; simp)
  obtain ⟨xs, hD, hR, hP⟩ := made_of (prog := prog) (w := w) (hw := hw) st.sub ⟨_, ho, es, m, rfl, hm⟩
  exact k l xs el em h3 hD hR hP

theorem in_ok {n : Nat} {p q : PyData} {ys : List PyData} (rm : Room n A) (hq : itemsOf q = some ys) (h1 : eqOk p = true) (h2 : eqOk q = true) : PyData.canLayAll0 ys = true ∧ p.canLay0 = true ∧ A.units + 1 + min (PyData.depthAll ys) p.depth < cLine := by
  have hu := rm.un
  have a1 := SeqAt.depth_of_shaped h1
  have a2 := Nat.min_le_right (PyData.depthAll ys) p.depth
  refine ⟨?_, SeqAt.canLay_of_shaped h1, by unfold cLine; (first | lia | omega)⟩
  rcases itemsOf_eq hq with rfl | rfl
  · exact SeqAt.canLay_of_shaped h2
  · exact SeqAt.canLay_of_shaped h2
theorem cmp_in {a b : Value} {x y : Val} {z : Bool} {n : Nat} {Q : Value → Shared → Prop} (rm : Room n A) (st : St Z (HR W Z S ++ R) s.heap) (ra : RV Z S a x) (rb : RV Z S b y) (e : inD x y = some z) :
    (Q (.bool z) s → wpAny (model prog w) A (compareOp .In a b) Q No s) ∧ (Q (.bool (!z)) s → wpAny (model prog w) A (compareOp .NotIn a b) Q No s) := by
  refine obE e fun p hp e => obE e fun q hq e => obE e fun ys hys e => gdE e fun h => and2 h fun h1 h2 => ?_
  rw [data_eq hp] at ra
  rw [data_eq hq] at rb
  obtain ⟨as, r1⟩ := (RD.ext (show RD Z a p from ra) st.sub).reads
  obtain ⟨bs, r2⟩ := (RD.ext (show RD Z b q from rb) st.sub).reads
  obtain ⟨o1, o2, o3⟩ := in_ok rm hys h1 h2
  rcases itemsOf_eq hys with rfl | rfl
  · exact ⟨fun h => SeqAt.in_list_reads r2 r1 o1 o2 o3 h, fun h => SeqAt.notIn_list_reads r2 r1 o1 o2 o3 h⟩
  · exact ⟨fun h => SeqAt.in_tuple_reads r2 r1 o1 o2 o3 h, fun h => SeqAt.notIn_tuple_reads r2 r1 o1 o2 o3 h⟩
theorem cmp_made {a b : Value} {x : Val} {i : Nat} {kvs : List (TKey × Int)} {p : PyData} {k : TKey} {n : Nat} {Q : Value → Shared → Prop} (rm : Room n A) (hw : W.hk = fun k => hashD w (tkD k)) (st : St Z (HR W Z S ++ R) s.heap) (ra : RV Z S a x) (rb : RV Z S b (.p i)) (hi : (abs S)[i]? = some (.made kvs)) (hp : x.data? = some p) (hk : keyOf? p = some k)
    (h : ∀ tk, Q (.bool (!(kvs.lookup k).isSome)) { s with toks := tk }) : wpAny (model prog w) A (compareOp .NotIn a b) Q No s := by
  have hu := rm.un
  obtain ⟨rfl, hl⟩ := keyOf_some hk
  rw [data_eq hp] at ra
  refine made_st (prog := prog) (w := w) (P := fun b => wpAny (model prog w) A (compareOp .NotIn a b) Q No s) hw st hi rb fun l xs el em h3 hD hR hP => ?_
  have hL := made_look hP k
  refine RD.tupE (show RD Z a (tkD k) from ra) fun ka kvs' kn g _ => ?_
  refine wpAny_notIn_heap (knd := kndT prog w) (k := k) (by show A.units + 1 + 16 < 9900; (first | lia | omega)) ⟨RD.ext (.tuple g ‹_›) st.sub, hl⟩ (beq_false_of_ne (Nat.ne_of_gt (Nat.lt_trans (by decide : (1 : Nat) < 3) h3))) hD ?_
  have : (atKey xs k).isSome = (kvs.lookup k).isSome := by
    cases q : kvs.lookup k with
    | none => rw [q] at hL; simp only at hL; rw [hL]; rfl
    | some n => rw [q] at hL; simp only at hL; obtain ⟨_, _, e⟩ := hL; rw [e]; rfl
  rw [this]
  exact h _
theorem sim_cmp {op : CmpOp} {a b : Value} {x y : Val} {z : Bool} {n : Nat} (rm : Room n A) (hw : W.hk = fun k => hashD w (tkD k)) (st : St Z (HR W Z S ++ R) s.heap) (ra : RV Z S a x) (rb : RV Z S b y) (e : cmpD op (abs S) x y = some z) :
    wpAny (model prog w) A (compareOp op a b) (SimPost W (RelV R) s Z S (.d (.bool z)) (abs S)) No s := by
  refine wp_any fun Q hQ => ?_
  have fin : Q (.bool z) s := hQ _ _ (fin_d st (.bool _) s.toks)
  have fint : ∀ tk, Q (.bool z) { s with toks := tk } := fun tk => hQ _ _ (fin_d st (.bool _) tk)
  have two : ∀ {f : Int → Int → Bool}, int2 x y (fun i j => some (f i j)) = some z → (∀ i j t u, Q (.bool (f i j)) s → wpAny (model prog w) A (compareOp op (.int i t) (.int j u)) Q No s) → wpAny (model prog w) A (compareOp op a b) Q No s := fun h k =>
    int2E (P := fun x y => RV Z S a x → RV Z S b y → wpAny (model prog w) A (compareOp op a b) Q No s) h (fun i j h ra rb => RD.intE ra fun t => RD.intE rb fun u => k i j t u (by rw [Option.some.inj h]; exact fin)) ra rb
  have seen2 : ∀ {f : PyData → PyData → Bool}, ((seen (abs S) x).bind fun u => (seen (abs S) y).bind fun v => gd (eqOk u && eqOk v) (f u v)) = some z →
      (∀ u v as bs, Reads s.heap a u as → Reads s.heap b v bs → eqOk u = true → eqOk v = true → Q (.bool (f u v)) s → wpAny (model prog w) A (compareOp op a b) Q No s) → wpAny (model prog w) A (compareOp op a b) Q No s := fun h k =>
    obE h fun u hu h => obE h fun v hv h => by
      obtain ⟨as, r1⟩ := (seen_rd st ra hu).reads
      obtain ⟨bs, r2⟩ := (seen_rd st rb hv).reads
      have hb := gdT h
      have hz : _ = z := Option.some.inj ((congrArg (fun c => if c = true then some _ else none) hb.symm).trans h)
      exact and2 hb fun h1 h2 => k u v as bs r1 r2 h1 h2 (by rw [hz]; exact fin)
  cases op <;> first | exact nope e | exact nopeB e | (cases e; done) | skip
  · exact seen2 e fun u v as bs r1 r2 h1 h2 h => eq_dataH r1 r2 h1 h2 rm.c64 h
  · exact seen2 e fun u v as bs r1 r2 h1 h2 h => ne_dataH r1 r2 h1 h2 rm.c64 h
  · exact two e fun i j t u h => lt_int h
  · exact two e fun i j t u h => le_int h
  · exact two e fun i j t u h => gt_int h
  · exact two e fun i j t u h => ge_int h
  · exact (cmp_in rm st ra rb e).1 fin
  · replace e : notInD (abs S) x y = some z := e
    unfold notInD at e
    cases hy : ptV y with
    | none =>
      rw [hy] at e
      obtain ⟨z', h, rfl⟩ := Option.map_eq_some_iff.mp e
      exact (cmp_in rm st ra rb h).2 fin
    | some i =>
      rw [hy] at e
      refine obE e fun m hm e => obE e fun kvs hk e => obE e fun p hp e => obE e fun k hkk e => ?_
      rw [madeM_eq hk] at hm
      rw [ptV_eq hy] at rb
      refine cmp_made rm hw st ra rb hm hp hkk fun tk => ?_
      rw [Option.some.inj e]; exact fint tk
end
end Mine
end
section
open PySem PySem.W PyProof.Rows
set_option Elab.async false
set_option maxRecDepth 10000
namespace Mine
section
variable {prog : Program} {w : World} {W : Wd} {A : Around} {Z : Heap} {S : Sg} {R : Own} {s : Shared} {E : Value → Shared → Prop}

theorem sim_truthy {v : Value} {x : Val} {b : Bool} {Md : Model} {Q : Bool → Shared → Prop} (r : RV Z S v x) (e : truthD x = some b) (h : Q b s) : wpAny Md A (truthy v) Q E s := by
  rw [truthD_eq e] at r
  rw [RD.bool_of r]
  exact wpAny_truthy_bool h

theorem atD_lt {xs : List PyData} {i : Int} {x : PyData} (e : atD xs i = some x) : (0 ≤ i ∧ i < 2 ^ 40 ∧ xs[i.toNat]? = some x) ∨ (i < 0 ∧ -(xs.length : Int) ≤ i ∧ -(2 : Int) ^ 40 < i ∧ xs[(i + xs.length).toNat]? = some x) := by
  unfold atD at e
  split at e
  · split at e
    · rename_i h
      rw [Bool.and_eq_true] at h
      exact .inr ⟨by assumption, of_decide_eq_true h.1, of_decide_eq_true h.2, e⟩
    · (first | exact nope e | exact nopeB e | cases e)
  · split at e
    · rename_i h
      exact .inl ⟨by (first | lia | omega), of_decide_eq_true h, e⟩
    · (first | exact nope e | exact nopeB e | cases e)
theorem seqIndex_atD {xs : List PyData} {i : Int} {x : PyData} (e : atD xs i = some x) : ∃ k, seqIndex? i xs.length = some k ∧ xs[k]? = some x ∧ -2 ^ 63 ≤ i ∧ i < 2 ^ 63 := by
  rcases atD_lt e with ⟨h1, h2, h3⟩ | ⟨h1, h2, h3, h4⟩
  · refine ⟨i.toNat, ?_, h3, by (first | lia | omega), by (first | lia | omega)⟩
    have : i.toNat < xs.length := by
      rcases Nat.lt_or_ge i.toNat xs.length with h | h
      · exact h
      · rw [List.getElem?_eq_none h] at h3; cases h3
    unfold seqIndex?
    simp only [show ¬ i < 0 by (first | lia | omega), if_false]
    rw [if_pos (by simp only [Bool.and_eq_true, decide_eq_true_eq]; (first | lia | omega))]
  · refine ⟨_, ?_, h4, by (first | lia | omega), by (first | lia | omega)⟩
    unfold seqIndex?
    simp only [h1, if_true]
    rw [if_pos (by simp only [Bool.and_eq_true, decide_eq_true_eq]; (first | lia | omega))]

theorem getItem_tuple {a : Addr} {vs : Array Value} {n : Nat} {xs : List PyData} {k : Int} {t : Tok} {x : PyData} {Q : Value → Shared → Prop} (g : s.heap.get? a = some (tupOf vs n)) (r : RDs Z vs.toList xs) (e : atD xs k = some x)
    (hq : ∀ v, RD Z v x → Q v s) : wpAny (model prog w) A (getItem (.ref a) (.int k t)) Q E s := by
  obtain ⟨j, h1, h2, h3, h4⟩ := seqIndex_atD e
  obtain ⟨v, hv, rv⟩ := r.get h2
  have hT : s.TypeIs (.ref a) "tuple" := ⟨_, g, rfl⟩
  exact getItem_meets hT (by decide) F.slot_tuple_getitem F.entry_tuple_getitem (F.args_tuple_getitem_2 _ _) (MeetsSeq.tuple_getitem_at a vs n k t j v h3 h4 (by rw [size_of r]; exact h1) (by rw [← Array.getElem?_toList]; exact hv)) ⟨g, hq v rv⟩

theorem getItem_list {a : Addr} {vs : Array Value} {n : Nat} {xs : List PyData} {k : Int} {t : Tok} {x : PyData} {Q : Value → Shared → Prop} (g : s.heap.get? a = some (listOf vs n)) (r : RDs Z vs.toList xs) (e : atD xs k = some x)
    (hq : ∀ v, RD Z v x → Q v s) : wpAny (model prog w) A (getItem (.ref a) (.int k t)) Q E s := by
  have hs := size_of r
  rcases atD_lt e with ⟨h1, h2, h3⟩ | ⟨h1, h2, h3, h4⟩
  · obtain ⟨v, hv, rv⟩ := r.get h3
    exact wpAny_getItem_list (isList_of g) h1 (by (first | lia | omega)) (by rw [← Array.getElem?_toList]; exact hv) (hq v rv)
  · obtain ⟨v, hv, rv⟩ := r.get h4
    exact wpAny_getItem_list_neg (isList_of g) h1 (by rw [hs]; exact h2) (by (first | lia | omega)) (by rw [hs, ← Array.getElem?_toList]; exact hv) (hq v rv)


theorem rec_strs {es : List DictEntry} {fs : List (Str × PyData)} (r : RecAre Z es fs) : (es.toArray.all fun e => isExactStrKey e.key) = true := by
  rw [← Array.all_toList, List.all_eq_true]
  induction r with
  | nil => intro x hx; simp at hx
  | cons h _ ih =>
    intro x hx
    rcases List.mem_cons.mp hx with rfl | hx
    · obtain ⟨⟨t, e⟩, _⟩ := h
      rw [e]; rfl
    · exact ih x hx
theorem isStr_eq (a b : Str) (t : Tok) : (Value.str a t).isStr b = (a == b) := rfl
theorem rec_find {es : List DictEntry} {fs : List (Str × PyData)} (r : RecAre Z es fs) {n : Str} {x : PyData} (e : fs.lookup n = some x) :
    ∃ i en, es.findIdx? (fun e => e.key.isStr n) = some i ∧ es[i]? = some en ∧ RD Z en.val x ∧ ∀ (Z' : Heap) (v : Value) (y : PyData), Ext Z Z' → RD Z' v y → RecAre Z' (es.modify i fun e => { e with val := v }) (setF fs n y) := by
  induction r with
  | nil => simp at e
  | @cons en f es fs h r ih =>
    obtain ⟨k, y0⟩ := f
    obtain ⟨⟨t, ek⟩, rd⟩ := h
    dsimp only at ek rd
    rw [List.lookup_cons] at e
    have hi : en.key.isStr n = (k == n) := by rw [ek]; rfl
    by_cases hk : k = n
    · subst hk
      simp only [beq_self_eq_true] at e
      cases e
      refine ⟨0, en, by simp [List.findIdx?_cons, hi], rfl, rd, fun Z' v y x rv => ?_⟩
      rw [show setF ((k, _) :: fs) k y = (k, y) :: fs from if_pos (beq_self_eq_true k), List.modify_zero_cons]
      exact .cons ⟨⟨t, ek⟩, rv⟩ (RecAre.ext r x)
    · have h1 : (k == n) = false := by simpa using hk
      have h2 : (n == k) = false := by simpa using fun q : n = k => hk q.symm
      rw [h2] at e
      obtain ⟨i, en', a, b, c, d⟩ := ih e
      refine ⟨i + 1, en', by simp [List.findIdx?_cons, hi, h1, a], by simpa using b, c, fun Z' v y x rv => ?_⟩
      rw [show setF ((k, y0) :: fs) n y = (k, y0) :: setF fs n y from if_neg (by rw [h1]; exact Bool.false_ne_true), List.modify_succ_cons]
      exact .cons ⟨⟨t, ek⟩, rd.ext x⟩ (d Z' v y x rv)

theorem getItem_rec {d : Addr} {es : List DictEntry} {m : Nat} {fs : List (Str × PyData)} {n : Str} {t : Tok} {x : PyData} {Q : Value → Shared → Prop} (ho : s.heap.get? d = some (dictOf es m)) (r : RecAre Z es fs) (e : fs.lookup n = some x)
    (hq : ∀ v, RD Z v x → Q v { s with toks := s.toks + 1 }) : wpAny (model prog w) A (getItem (.ref d) (.str n t)) Q E s := by
  obtain ⟨i, en, a, b, c, _⟩ := rec_find r e
  have hT : s.TypeIs (.ref d) "dict" := ⟨_, ho, rfl⟩
  unfold getItem
  refine wpAny_holding (wpAny_bind (wpAny_sequenceKey hT (by decide) ?_))
  refine wpAny_bind (wpAny_callSpecial?_slot (name := Str.ofString "__getitem__") hT slot_dict_getitem (wpAny_call_entry slot_dict_getitem hT entry_dict_getitem ?_ (args_dict_getitem _ _)))
  show wpAny _ _ (dictGet d (.str n t) >>= _) _ _ s
  refine wpAny_bind ?_
  unfold dictGet
  refine wpAny_holding (wpAny_bind (wpAny_pyHash_str (wpAny_bind (KTD.kt_dictFind_strs (s := { s with toks := s.toks + 1 }) ho rfl (rec_strs r) ?_))))
  rw [List.findIdx?_toArray, a]
  refine wpAny_bind (wpAny_dictEntries (s := { s with toks := s.toks + 1 }) ho rfl ?_)
  have hb : es.toArray[i]? = some en := by simpa using b
  rw [hb]
  exact wpAny_pure (wpAny_pure ⟨_, rfl, wpAny_pure (hq _ c)⟩)

theorem isPart_of {v : Value} {o : Option Int} (h : match o with | none => v = .none | some k => ∃ t, v = .int k t) : IsPart v o := by
  cases o with
  | none => dsimp only at h; subst h; exact .none
  | some k => obtain ⟨t, rfl⟩ := h; exact .int k t

theorem subscripted_plain {slice : Expr} {o i : Value} (h : ∀ lo hi p, slice ≠ .Slice lo hi none p) : subscripted slice false o i = operate [o, i] (getItem o i) := by
  cases slice with
  | Slice a b c p => cases c with
    | none => exact absurd rfl (h _ _ _)
    | some => rfl
  | _ => rfl

theorem item_str {value slice : Expr} {a i : Value} {y : Str} {q : Int} {z : PyData} {Q : Value → Shared → Prop} (hsl : ∀ lo hi p, slice ≠ .Slice lo hi none p) (ra : RD Z a (.str y)) (ri : RD Z i (.int q)) (e : strItem y q = some z) (h : ∀ v tk, RD Z v z → Q v { s with toks := tk }) :
    wpAny (model prog w) A (subscriptTail value slice a i) Q No s := by
  refine itE' e fun hb e => and2 hb fun hb h3 => and2 hb fun h1 h2 => ?_
  have h1 := of_decide_eq_true h1
  have h2 := of_decide_eq_true h2
  have h3 := of_decide_eq_true h3
  obtain ⟨c, hc, rfl⟩ := Option.map_eq_some_iff.mp e
  refine RD.strE ra fun t => RD.intE ri fun u => ?_
  refine tail_any (T := "str") (id := "str.__getitem__") (typeIs_str s y t) F.slot_str_getitem.lookup ?_ (subscripted_plain hsl)
  have hx : seqIndex? q y.length = some q.toNat := by
    unfold seqIndex?
    rw [if_neg (by (first | lia | omega) : ¬q < 0)]
    rw [if_pos (by simp only [Bool.and_eq_true, decide_eq_true_eq]; (first | lia | omega))]
  exact P.getItem_str (by rw [Bool.or_eq_false_iff, decide_eq_false_iff_not, decide_eq_false_iff_not]; (first | lia | omega)) (by rw [hx, Option.bind_some]; exact hc) (h _ _ (.str _ _))
theorem sim_item {value slice : Expr} {n : Nat} (rm : Room n A) (hw : W.hk = fun k => hashD w (tkD k)) {a i : Value} {x k : Val} {z : PyData} (hsl : ∀ lo hi p, slice ≠ .Slice lo hi none p) (st : St Z (HR W Z S ++ R) s.heap) (ra : RV Z S a x) (ri : RV Z S i k)
    (e : itemD (abs S) x k = some z) : wpAny (model prog w) A (subscriptTail value slice a i) (SimPost W (RelV R) s Z S (.d z) (abs S)) No s := by
  refine wp_any fun Q hQ => ?_
  have fin : ∀ {v : Value}, RD Z v z → ∀ tk, Q v { s with toks := tk } := fun r tk => hQ _ _ (fin_d st r tk)
  have hu := rm.un
  refine obE e fun y hy e => ?_
  rw [data_eq hy] at ri
  cases hq : intP y with
  | some q =>
    rw [hq] at e
    rw [intP_eq hq] at ri
    replace e : seqItem (abs S) x q = some z := e
    unfold seqItem at e
    cases hs : x.data?.bind strP with
    | some t =>
      rw [hs] at e
      refine obE hs fun u hu hs => ?_
      rw [data_eq hu, strP_eq hs] at ra
      exact item_str hsl ra ri e fun v tk r => fin r tk
    | none =>
      rw [hs] at e
      refine obE e fun u hu e => obE e fun xs hxs e => itE' e fun _ e9 => RD.intE ri fun t => ?_
      rcases itemsOf_eq hxs with rfl | rfl
      · obtain ⟨l, vs, m, rfl, g, r⟩ := seen_list st ra hu
        exact tail_any (T := "list") (id := "list.__getitem__") ⟨_, g, rfl⟩ slot_list_getitem.lookup (getItem_list g r e9 fun v r => fin r s.toks) (subscripted_plain hsl)
      · obtain ⟨l, vs, m, rfl, g, r⟩ := seen_tuple st ra hu
        exact tail_any (T := "tuple") (id := "tuple.__getitem__") ⟨_, st.sub _ _ g, rfl⟩ F.slot_tuple_getitem.lookup (getItem_tuple (st.sub _ _ g) r e9 fun v r => fin r s.toks) (subscripted_plain hsl)
  | none =>
    rw [hq] at e
    refine obE e fun p hp e => obE e fun m hm e => ?_
    rw [ptV_eq hp] at ra
    cases m with
    | rcd fs =>
      refine obE (show (strP y).bind _ = some z from e) fun n hn e => ?_
      rw [strP_eq hn] at ri
      obtain ⟨l, el, em⟩ := abs_get hm
      obtain ⟨l', el', rfl⟩ := ra
      rw [el] at el'; cases el'
      refine RD.strE ri fun t => ?_
      obtain ⟨o, ho, es, m, rfl, hm⟩ := at_HR (P := fun o => ∃ es n, o = dictOf es n ∧ RecAre Z es fs) (a := l.x) st el (by unfold mres; rw [em]; simp)
      exact tail_any (T := "dict") (id := "dict.__getitem__") ⟨_, ho, rfl⟩ slot_dict_getitem.lookup (getItem_rec ho hm e fun v r => fin r _) (subscripted_plain hsl)
    | made kvs =>
      refine obE (show (keyOf? y).bind _ = some z from e) fun kk hk e => ?_
      obtain ⟨nn, hn, rfl⟩ := Option.map_eq_some_iff.mp e
      obtain ⟨hkk, hl⟩ := keyOf_some hk
      rw [hkk] at ri
      refine made_st (prog := prog) (w := w) (P := fun a => wpAny (model prog w) A (subscriptTail value slice a i) Q No s) hw st hm ra fun l xs el em h3 hD hR hP => ?_
      have hL := made_look hP kk
      rw [hn] at hL
      obtain ⟨ad, t, hat⟩ := hL
      refine RD.tupE (show RD Z i (tkD kk) from ri) fun ka kvs' kn g rr => ?_
      exact tail_any (T := "dict") (id := "dict.__getitem__") (hD.typeIs) slot_dict_getitem.lookup
        (wpAny_getItem_heap (knd := kndT prog w) (k := kk) (by show A.units + 1 + 16 < 9900; (first | lia | omega)) ⟨RD.ext (.tuple g rr) st.sub, hl⟩ hD hat (fin (.int _ _) _)) (subscripted_plain hsl)
    | _ => (first | exact nope e | exact nopeB e | cases e)
end
end Mine
end
section
open PySem PySem.W PyProof.Rows
set_option Elab.async false
set_option maxRecDepth 10000
namespace Mine

section
variable {prog : Program} {w : World} {W : Wd} {H0 : Heap} {A : Around} {Z : Heap} {S : Sg} {R : Own} {s : Shared} {sc : Names} {env : Env} {ρ : Rho}

/-- ev says what the trees of expressions give, in this frame -/
noncomputable def EvOk (prog : Program) (w : World) (W : Wd) (H0 : Heap) (A : Around) (sc : Names) (env : Env) (ρ : Rho) (R : Own) (ev : Expr → M Val) : Prop :=
  ∀ (e : Expr) (Z : Heap) (S : Sg) (s : Shared), Ext H0 Z → FrameAt sc env ρ Z S R → Sim (model prog w) W A (RelV R) Z S R s (eval e env) (ev e)

noncomputable def NoStar (ev : Expr → M Val) : Prop := ∀ e p σ, ev (.Starred e p) σ = none

theorem starEach_plain {e : Expr} {r : List Expr} (h : ∀ e' p, e ≠ .Starred e' p) : starEach (e :: r) env = (false, eval e env) :: starEach r env := by
  cases e <;> first | rfl | exact absurd rfl (h _ _)

theorem sim_spliced {ev : Expr → M Val} {pos : Pos} (hev : EvOk prog w W H0 A sc env ρ R ev) (hns : NoStar ev) : ∀ (es : List Expr) (Z : Heap) (S : Sg) (s : Shared), Ext H0 Z → FrameAt sc env ρ Z S R →
    Sim (model prog w) W A (RelVs R) Z S R s (spliced (backTo pos (starEach es env))) (evList ev es)
  | [], Z, S, s, _, _ => Sim.pure ⟨rfl, .nil⟩
  | e :: r, Z, S, s, x0, F => by
    by_cases hst : ∃ e' p, e = .Starred e' p
    · obtain ⟨e', p, rfl⟩ := hst
      intro st b σ' he
      have : (evList ev (.Starred e' p :: r)) (abs S) = none := M.bind_none (hns e' p _)
      rw [this] at he; cases he
    · have h1 : ∀ e' p, e ≠ .Starred e' p := fun e' p q => hst ⟨e', p, q⟩
      rw [starEach_plain h1]
      show Sim _ _ _ _ _ _ _ _ (spliced ((false, eval e env) :: backTo pos (starEach r env))) _
      rw [spliced]
      refine Sim.bind' (hev e Z S s x0 F) fun v d Z' S' R' h' tk k g q => ?_
      obtain ⟨rfl, rv⟩ := q
      have F' := F.mono k g
      simp only [Bool.false_eq_true, if_false]
      intro st b σ' he
      have h2 := sim_spliced (pos := pos) hev hns r Z' S' (sh s h' tk) (x0.trans k) F'
      refine wpAny_bind (wpAny_pure (wpAny_bind (wpAny_holding ?_)))
      have he' : M.bind (evList ev r) (fun vs => (Pure.pure (d :: vs) : M (List Val))) (abs S') = some (b, σ') := he
      unfold M.bind at he'
      split at he'
      · (first | exact nope he' | exact nopeB he' | cases he')
      · rename_i y σ₁ e₁
        cases he'
        refine wpAny_mono (h2 st y _ e₁) (fun vs s' p => ?_) fun _ _ z => z
        obtain ⟨Z2, S2, R2, h2', tk2, rfl, k2, g2, q2, st2, r2⟩ := p
        obtain ⟨rfl, r2⟩ := r2
        exact wpAny_pure ⟨Z2, S2, _, h2', tk2, rfl, k2, g2, q2, st2, rfl, .cons (rv.mono k2 g2) r2⟩

theorem rds_of_all : ∀ {vs : List Value} {ds : List Val} {xs : List PyData}, RVs Z S vs ds → allD ds = some xs → RDs Z vs xs
  | _, _, _, .nil, e => by cases e; exact .nil
  | _, _, xs, .cons (a := v) (b := d) h t, e => by
    cases d with
    | d y =>
      obtain ⟨ys, e', rfl⟩ := Option.map_eq_some_iff.mp e
      exact .cons h (rds_of_all t e')
    | p i => (first | exact nope e | exact nopeB e | cases e)

theorem okLen_size {n : Nat} (h : okLen n = true) : n ≤ sizeLine := by have := okLen_of h; rw [sizeLine_eq]; (first | lia | omega)

theorem sim_tuple {ev : Expr → M Val} {es : List Expr} {k : Nat} {pos : Pos} (hev : EvOk prog w W H0 A sc env ρ R ev) (hns : NoStar ev) (x0 : Ext H0 Z) (F : FrameAt sc env ρ Z S R) :
    Sim (model prog w) W A (RelV R) Z S R s (eval (.Tuple es k pos) env) (do
      let vs ← evList ev es
      let xs ← ofO (allD vs)
      if okLen xs.length then pure (.d (.tuple xs)) else stop) := by
  rw [arm_eval_Tuple]
  refine Sim.at (Sim.bind' (sim_spliced hev hns es Z S s x0 F) fun vs ds Z' S' R' h' tk k g q => ?_)
  obtain ⟨rfl, rv⟩ := q
  refine Sim.ofOb fun xs e => ?_
  intro st b σ' he
  split at he
  · rename_i hl
    cases he
    have r := rds_of_all rv e
    exact wpAny_newTuple (fin_push (s := (sh s h' tk)) st rfl (fun Z2 k2 g2 => .tuple g2 (r.ext k2)) _) (by rw [r.length]; exact okLen_size hl)
  · (first | exact nope he | exact nopeB he | cases he)

theorem sim_list {ev : Expr → M Val} {es : List Expr} {pos : Pos} (hev : EvOk prog w W H0 A sc env ρ R ev) (hns : NoStar ev) (x0 : Ext H0 Z) (F : FrameAt sc env ρ Z S R) :
    Sim (model prog w) W A (RelV R) Z S R s (eval (.List es pos) env) (do
      let vs ← evList ev es
      let xs ← ofO (allD vs)
      if okLen xs.length then pure (.d (.list xs)) else stop) := by
  rw [arm_eval_List]
  refine Sim.at (Sim.bind' (sim_spliced hev hns es Z S s x0 F) fun vs ds Z' S' R' h' tk k g q => ?_)
  obtain ⟨rfl, rv⟩ := q
  refine Sim.ofOb fun xs e => ?_
  intro st b σ' he
  split at he
  · rename_i hl
    cases he
    have r := rds_of_all rv e
    exact wpAny_newList (fin_push (s := (sh s h' tk)) st rfl (fun Z2 k2 g2 => .list g2 (r.ext k2)) _) (by rw [r.length]; exact okLen_size hl)
  · (first | exact nope he | exact nopeB he | cases he)

/-- a call with plain arguments: they are evaluated, then the call is made -/
theorem sim_callWith {α : Type} {ev : Expr → M Val} {es : List Expr} {pos pos' : Pos} {f : Value} {first : List Value} {c : List Val → M α} {Rel : Heap → Sg → Own → Value → α → Prop}
    (hev : EvOk prog w W H0 A sc env ρ R ev) (hns : NoStar ev) (hn : es.length ≤ 8) (x0 : Ext H0 Z) (F : FrameAt sc env ρ Z S R)
    (hk : ∀ h, Ext H0 h → ∃ k, (k = Keeper.frame ∨ k = Keeper.machine ∨ k = Keeper.boundFrame) ∧ Looks (model prog w) h (keeperOf f) k)
    (h : ∀ vs ds Z' S' h' tk, Ext Z Z' → Grow S S' → RVs Z' S' vs ds → Sim (model prog w) W A Rel Z' S' R (sh s h' tk) (call f (first ++ vs)) (c ds)) :
    Sim (model prog w) W A Rel Z S R s (callWith pos f first (backTo pos' (starEach es env)) []) (evList ev es >>= c) := by
  intro st b σ' he
  have he' : M.bind (evList ev es) c (abs S) = some (b, σ') := he
  unfold M.bind at he'
  split at he'
  · (first | exact nope he' | exact nopeB he' | cases he')
  rename_i ds σ₁ e₁
  have hp : wpAny (model prog w) A (spliced (backTo pos' (starEach es env))) (fun vs s' => Ext H0 s'.heap ∧ wpAny (model prog w) A (call f (first ++ vs)) (SimPost W Rel s Z S b σ') No s') No s := by
    refine wpAny_mono (sim_spliced hev hns es Z S s x0 F st ds σ₁ e₁) (fun vs s' p => ?_) fun _ _ z => z
    obtain ⟨Z', S', R', h', tk, rfl, k, g, q, st', r, rv⟩ := p
    subst r q
    refine ⟨(x0.trans k).trans st'.sub, ?_⟩
    refine wpAny_mono (h vs ds Z' S' h' tk k g rv st' b σ' he') (fun v s'' p => p.trans k g) fun _ _ z => z
  have hplain : ((backTo pos' (starEach es env)).any (·.1) || ([] : List (Option Str × Sem Value)).any (·.1.isNone)) = false := by
    have : ∀ es : List Expr, (∀ e ∈ es, ∀ e' p, e ≠ .Starred e' p) → (backTo pos' (starEach es env)).any (·.1) = false := by
      intro es
      induction es with
      | nil => intro _; rfl
      | cons e r ih =>
        intro hh
        rw [starEach_plain (hh e (.head _))]
        have := ih fun e' he' => hh e' (.tail _ he')
        show (false || (backTo pos' (starEach r env)).any (·.1)) = false
        rw [this]; rfl
    rw [this es]
    · rfl
    · have : ∀ (es : List Expr) (σ σ₁ : List MO) (ds : List Val), evList ev es σ = some (ds, σ₁) → ∀ e ∈ es, ∀ e' p, e ≠ .Starred e' p := by
        intro es
        induction es with
        | nil => intro _ _ _ _ e he; cases he
        | cons e0 r ih =>
          intro σ σ₁ ds hh e hm e' p
          cases q : ev e0 σ with
          | none => rw [show evList ev (e0 :: r) σ = none from M.bind_none q] at hh; cases hh
          | some y =>
            obtain ⟨d, σ₂⟩ := y
            rcases List.mem_cons.mp hm with rfl | hm
            · rintro rfl
              rw [hns] at q; cases q
            · rw [show evList ev (e0 :: r) σ = _ from M.bind_some q] at hh
              cases q2 : evList ev r σ₂ with
              | none => rw [M.bind_none q2] at hh; cases hh
              | some y2 =>
                obtain ⟨d2, σ₃⟩ := y2
                exact ih σ₂ σ₃ d2 q2 e hm e' p
      exact this es _ _ _ e₁
  refine callWith_of (P := fun h => Ext H0 h) hplain hk ?_
  cases es with
  | nil =>
    refine evalArgs_nil3 ?_
    show Ext H0 s.heap ∧ wpAny (model prog w) A (call f (first ++ [])) _ _ s
    cases e₁
    have k := h [] [] Z S s.heap s.toks (Ext.refl _) (Grow.refl _) .nil st b σ' he'
    exact ⟨x0.trans st.sub, wpAny_mono k (fun v s'' p => p.trans (Ext.refl _) (Grow.refl _)) fun _ _ z => z⟩
  | cons e r =>
    have hne : ∀ e' p, e ≠ .Starred e' p := fun e' p q => by
      subst q
      rw [show evList ev (.Starred e' p :: r) (abs S) = none from M.bind_none (hns e' p _)] at e₁
      cases e₁
    rw [starEach_plain hne] at hp ⊢
    exact Calls.evalArgs_plain hp
end
end Mine
end
section
open PySem PySem.W PyProof.Rows
set_option Elab.async false
set_option maxRecDepth 10000
namespace Mine

theorem allInts_eq {l : List PyData} {m : List Int} (h : allInts l = some m) : l = m.map .int := allInts_of l m h
theorem ints_items {Z : Heap} : ∀ {vs : List Value} {ns : List Int}, RDs Z vs (ns.map .int) → ∃ its : List (Int × Tok), vs = its.map (fun p => Value.int p.1 p.2) ∧ its.map (·.1) = ns
  | vs, [], h => by rw [List.map_nil] at h; rw [h.nil_right]; exact ⟨[], rfl, rfl⟩
  | vs, n :: ns, h => by
    rw [List.map_cons] at h
    obtain ⟨v, vs', rfl, a, b⟩ := h.uncons'
    obtain ⟨t, rfl⟩ := RD.int_of a
    obtain ⟨its, rfl, rfl⟩ := ints_items b
    exact ⟨(n, t) :: its, rfl, rfl⟩
theorem ints_arr {Z : Heap} {vs : Array Value} {ns : List Int} (h : RDs Z vs.toList (ns.map .int)) : ∃ xs : Array (Int × Tok), vs = intItems xs ∧ xs.toList.map (·.1) = ns := by
  obtain ⟨its, a, b⟩ := ints_items h
  refine ⟨its.toArray, ?_, by simpa using b⟩
  unfold intItems
  rw [← Array.toArray_toList (xs := vs), a]
  simp

theorem foldl_max (n : Int) : ∀ (ns : List Int) (n : Int) (M : Int), M ∈ n :: ns → (∀ a ∈ n :: ns, a ≤ M) → ns.foldl (fun a b => if a < b then b else a) n = M
  | [], n, M, h, _ => by simpa using (List.mem_singleton.mp h).symm
  | b :: r, n, M, h, k => by
    rw [List.foldl_cons]
    have hb := k b (by simp)
    have hn := k n (by simp)
    refine foldl_max n r _ M ?_ ?_
    · split
      · rcases List.mem_cons.mp h with rfl | h
        · (first | lia | omega)
        · exact h
      · rcases List.mem_cons.mp h with rfl | h
        · exact .head _
        · rcases List.mem_cons.mp h with rfl | h
          · have : M = n := by (first | lia | omega)
            rw [this]; exact .head _
          · exact .tail _ h
    · intro a ha
      rcases List.mem_cons.mp ha with rfl | ha
      · split <;> assumption
      · exact k a (.tail _ (.tail _ ha))

section
variable {prog : Program} {w : World} {W : Wd} {H0 : Heap} {A : Around} {Z : Heap} {S : Sg} {R : Own} {s : Shared}

theorem keeper_builtin {Md : Model} {f : Str} {v : Value} (e : builtinVal f = some v) (h : Heap) : ∃ k, (k = Keeper.frame ∨ k = Keeper.machine ∨ k = Keeper.boundFrame) ∧ Looks Md h (keeperOf v) k := by
  have hm := PySem.mem_of_lookup e
  refine ⟨.machine, .inr (.inl rfl), Looks.of_pure ?_⟩
  simp only [builtinTab, List.mem_cons, Prod.mk.injEq, List.not_mem_nil, or_false] at hm
  rcases hm with ⟨_, rfl⟩ | ⟨_, rfl⟩ | ⟨_, rfl⟩ | ⟨_, rfl⟩ | ⟨_, rfl⟩ | ⟨_, rfl⟩ | ⟨_, rfl⟩ | ⟨_, rfl⟩ | ⟨_, rfl⟩ | ⟨_, rfl⟩ | ⟨_, rfl⟩ | ⟨_, rfl⟩ | ⟨_, rfl⟩ | ⟨_, rfl⟩ | ⟨_, rfl⟩ <;> rfl

theorem RVs.one {vs : List Value} {d : Val} (r : RVs Z S vs [d]) : ∃ v, vs = [v] ∧ RV Z S v d := by
  cases r with | cons a b => cases b; exact ⟨_, rfl, a⟩
theorem RVs.two {vs : List Value} {d e : Val} (r : RVs Z S vs [d, e]) : ∃ v u, vs = [v, u] ∧ RV Z S v d ∧ RV Z S u e := by
  cases r with | cons a b => cases b with | cons c d => cases d; exact ⟨_, _, rfl, a, c⟩

theorem fin_ints (st : St Z (HR W Z S ++ R) s.heap) {i : Int} {h' : Heap} {t : Tok} (k : Ext s.heap h') (tk : Nat) : SimPost W (RelV R) s Z S (.d (.int i)) (abs S) (.int i t) (sh s h' tk) := fin_grow st k (fun _ _ _ => .int _ _) tk
section
variable {vs : List Value} {ds : List Val} {x : PyData} (st : St Z (HR W Z S ++ R) s.heap) (rv : RVs Z S vs ds)
include st rv
theorem rv_one {α : Type} {f : Val → Option α} {x : α} {P : List Value → Prop} (e : (one ds).bind f = some x) (k : ∀ v d, RV Z S v d → f d = some x → P [v]) : P vs := by
  refine obE e fun d hd e => ?_
  rw [one_eq hd] at rv
  obtain ⟨v, rfl, r⟩ := rv.one
  exact k v d r e
theorem blt_len (e : lenB (abs S) ds = some x) : wpAny (model prog w) A (call (.builtin "len") vs) (SimPost W (RelV R) s Z S (.d x) (abs S)) No s := by
  refine rv_one (P := fun vs => wpAny (model prog w) A (call (.builtin "len") vs) (SimPost W (RelV R) s Z S (.d x) (abs S)) No s) st rv e fun v d r e => obE e fun u hu e => obE e fun xs hxs e => gdE e fun hl => ?_
  have hl := okLen_of hl
  rcases itemsOf_eq hxs with rfl | rfl
  · obtain ⟨l, vs, m, rfl, g, q⟩ := seen_list st r hu
    have hz := size_of q
    refine len_list (isList_of g) (by omega) ?_
    rw [hz]; exact fin_d st (.int _ _) _
  · obtain ⟨l, vs, m, rfl, g, q⟩ := seen_tuple st r hu
    have hz := size_of q
    refine len_tuple (isTup_of (st.sub _ _ g)) (by omega) ?_
    rw [hz]; exact fin_d st (.int _ _) _
theorem blt_abs (e : absB ds = some x) : wpAny (model prog w) A (call (.builtin "abs") vs) (SimPost W (RelV R) s Z S (.d x) (abs S)) No s := by
  refine rv_one (P := fun vs => wpAny (model prog w) A (call (.builtin "abs") vs) (SimPost W (RelV R) s Z S (.d x) (abs S)) No s) st rv e fun v d r e => obE e fun a ha e => ?_
  cases e
  rw [intV_eq ha] at r
  refine RD.intE r fun t => call_abs_int fun u tk => ?_
  rw [show (if a < 0 then -a else a) = (a.natAbs : Int) from by split <;> omega]
  exact fin_d st (.int _ _) _
theorem blt_int (e : intB ds = some x) : wpAny (model prog w) A (call (.type "int") vs) (SimPost W (RelV R) s Z S (.d x) (abs S)) No s := by
  refine rv_one (P := fun vs => wpAny (model prog w) A (call (.type "int") vs) (SimPost W (RelV R) s Z S (.d x) (abs S)) No s) st rv e fun v d r e => obE e fun a ha e => ?_
  cases e
  rw [truthD_eq ha] at r
  rw [RD.bool_of r]
  exact call_int_bool (fin_d st (.int _ _) _)
theorem blt_tuple (e : tupB (abs S) ds = some x) : wpAny (model prog w) A (call (.type "tuple") vs) (SimPost W (RelV R) s Z S (.d x) (abs S)) No s := by
  refine rv_one (P := fun vs => wpAny (model prog w) A (call (.type "tuple") vs) (SimPost W (RelV R) s Z S (.d x) (abs S)) No s) st rv e fun v d r e => obE e fun u hu e => obE e fun xs hxs e => gdE e fun hl => ?_
  have hl := okLen_of hl
  refine seen_lstE st r hu hxs fun l vs m g q => ?_
  have hz := size_of q
  refine call_tuple_list (isList_of g) (fun h' k => ?_) (by rw [sizeLine_eq]; omega)
  refine fin_grow st (fun b o e => Heap.get?_push_of_some _ (k b o e)) (fun Z' x c => .tuple (n := 0) (c _ _ (Heap.get?_push_size _ rfl) ?_) (q.ext x)) _
  cases q2 : s.heap.get? h'.objs.size with
  | none => rfl
  | some o => exact absurd (Heap.lt_size (k _ _ q2)) (Nat.lt_irrefl _)
theorem blt_list (e : lstB ds = some x) : wpAny (model prog w) A (call (.type "list") vs) (SimPost W (RelV R) s Z S (.d x) (abs S)) No s := by
  refine rv_one (P := fun vs => wpAny (model prog w) A (call (.type "list") vs) (SimPost W (RelV R) s Z S (.d x) (abs S)) No s) st rv e fun v d r e => obE e fun u hu e => obE e fun xs hxs e => gdE e fun hl => ?_
  have hl := okLen_of hl
  rw [data_eq hu, tupP_eq hxs] at r
  refine RD.tupE r fun l vs m g q => ?_
  have hz := size_of q
  exact call_list_seq l (T := "tuple") (.inr rfl) (st.sub _ _ g) rfl rfl (fun h' c' k hn => fin_grow st k (fun Z' x c => .list (c _ _ hn (get_size _)) (q.ext x)) _) (by rw [sizeLine_eq]; omega)
theorem blt_sum (hh : A.handled = none) (e : sumB ds = some x) : wpAny (model prog w) A (call (.builtin "sum") vs) (SimPost W (RelV R) s Z S (.d x) (abs S)) No s := by
  refine rv_one (P := fun vs => wpAny (model prog w) A (call (.builtin "sum") vs) (SimPost W (RelV R) s Z S (.d x) (abs S)) No s) st rv e fun v d r e => obE e fun u hu e => obE e fun xs hxs e => obE e fun ns hns e => ?_
  cases e
  rw [data_eq hu, lstP_eq hxs, allInts_eq hns] at r
  refine RD.lstE r fun l vs m g q => ?_
  obtain ⟨its, rfl, rfl⟩ := ints_arr q
  refine call_sum_walkG (iter_intList (isList_of (st.sub _ _ g)) fun s₂ e st2 hfp hlI => ?_)
  subst e
  refine ⟨_, _, _, _, _, _, numAt its, rfl, Walks.list (A := A.in1) hh _ l hlI (intItems its), st2, hfp, (fun _ _ => intItems_at), fun h' tk t' hk => ?_⟩
  have e1 : preSum (numAt its) (intItems its).size = (its.toList.map (·.1)).sum := by
    rw [preSum_eq, show (intItems its).size = its.size by simp [intItems], List.take_of_length_le (by simp)]
  rw [e1]
  exact fin_ints st (old_kept hk) _
omit st rv in
theorem pair_at {v : Value} {d : Val} {q : Int × Int} {P : Value → Prop} (r : RV Z S v d) (h : pairB d = some q) (k : ∀ l its, (∃ n, Z.get? l = some (tupOf (intItems its) n)) → its.size = 2 → numAt its 0 = q.1 → numAt its 1 = q.2 → P (.ref l)) : P v := by
  refine obE h fun u hu h => obE h fun xs hxs h => obE h fun w hw h => obE h fun a ha h => obE h fun b hb h => ?_
  cases h
  rw [data_eq hu, tupP_eq hxs, two_eq hw, intP_eq ha, intP_eq hb] at r
  refine RD.tupE r fun l vs m g q => ?_
  obtain ⟨its, rfl, hits⟩ := ints_arr (ns := [a, b]) q
  refine k l its ⟨_, g⟩ (by have := congrArg List.length hits; simpa using this) ?_ ?_
  · rw [numAt_eq, hits]; rfl
  · rw [numAt_eq, hits]; rfl
omit rv in
theorem walk_pair {l : Addr} {its : Array (Int × Tok)} {n : Nat} (g : Z.get? l = some (tupOf (intItems its) n)) : (∀ c ∈ [s.heap.objs.size, l], c < (s.heap.push { cls := .type "tuple_iterator", data := .fields #[.ref l, .int 0 0] }).objs.size) ∧
    ∀ h' : Heap, (∀ c o, c ∉ [s.heap.objs.size] → (s.heap.push { cls := .type "tuple_iterator", data := .fields #[.ref l, .int 0 0] }).get? c = some o → h'.get? c = some o) → Ext s.heap h' := by
  have hlt : l < s.heap.objs.size := Heap.lt_size (st.sub _ _ g)
  refine ⟨fun c hc => ?_, fun h' hk c o e => ?_⟩
  · rw [Heap.size_push]
    rcases List.mem_cons.mp hc with rfl | hc
    · exact Nat.lt_succ_self _
    · rw [List.mem_singleton.mp hc]; exact Nat.lt_succ_of_lt hlt
  · refine hk c o (fun hm => ?_) (Heap.get?_push_of_some _ e)
    have := Heap.lt_size e
    rw [List.mem_singleton.mp hm] at this
    exact Nat.lt_irrefl _ this
omit st rv in
theorem pair_max {its : Array (Int × Tok)} : numAt its (argBest (fun i j => decide (numAt its i > numAt its j)) 1) = if numAt its 0 < numAt its 1 then numAt its 1 else numAt its 0 := by
  by_cases h : numAt its 0 < numAt its 1 <;> simp [argBest, h]
omit st rv in
theorem pair_min {its : Array (Int × Tok)} : numAt its (argBest (fun i j => decide (numAt its i < numAt its j)) 1) = if numAt its 1 < numAt its 0 then numAt its 1 else numAt its 0 := by
  by_cases h : numAt its 1 < numAt its 0 <;> simp [argBest, h]
omit rv in
theorem max_pair {v : Value} {d : Val} {q : Int × Int} (hh : A.handled = none) (r : RV Z S v d) (h : pairB d = some q) : wpAny (model prog w) A (call (.builtin "max") [v]) (SimPost W (RelV R) s Z S (.d (.int (if q.1 < q.2 then q.2 else q.1))) (abs S)) No s := by
  refine pair_at (P := fun v => wpAny (model prog w) A (call (.builtin "max") [v]) (SimPost W (RelV R) s Z S (.d (.int (if q.1 < q.2 then q.2 else q.1))) (abs S)) No s) r h fun l its g hsz n0 n1 => ?_
  obtain ⟨n, g⟩ := g
  have g' := st.sub _ _ g
  obtain ⟨w1, w2⟩ := walk_pair st g
  refine call_max_walk (wpAny_pyIter_tuple (isTuple_of g') ?_)
  refine ⟨_, [_, l], [_], _, _, _, _, rfl, Walks.tuple (A := A.in1) hh _ l (Nat.ne_of_lt (Heap.lt_size g')) (intItems its), ⟨⟨_, Heap.get?_push_size _ rfl, rfl, rfl⟩, (isTuple_of g').push _⟩, w1, by simp [intItems, hsz],
    CmpOf.ints_gt (numAt its) (fun _ _ => intItems_at), fun v h' tk hP hk => ?_⟩
  obtain ⟨t, rfl⟩ := intItems_at hP
  rw [show (intItems its).size - 1 = 1 by simp [intItems, hsz], pair_max, n0, n1]
  exact fin_ints st (w2 h' hk) _
omit rv in
theorem min_pair {v : Value} {d : Val} {q : Int × Int} (hh : A.handled = none) (r : RV Z S v d) (h : pairB d = some q) : wpAny (model prog w) A (call (.builtin "min") [v]) (SimPost W (RelV R) s Z S (.d (.int (if q.2 < q.1 then q.2 else q.1))) (abs S)) No s := by
  refine pair_at (P := fun v => wpAny (model prog w) A (call (.builtin "min") [v]) (SimPost W (RelV R) s Z S (.d (.int (if q.2 < q.1 then q.2 else q.1))) (abs S)) No s) r h fun l its g hsz n0 n1 => ?_
  obtain ⟨n, g⟩ := g
  have g' := st.sub _ _ g
  obtain ⟨w1, w2⟩ := walk_pair st g
  refine call_min_walk (wpAny_pyIter_tuple (isTuple_of g') ?_)
  refine ⟨_, [_, l], [_], _, _, _, _, rfl, Walks.tuple (A := A.in1) hh _ l (Nat.ne_of_lt (Heap.lt_size g')) (intItems its), ⟨⟨_, Heap.get?_push_size _ rfl, rfl, rfl⟩, (isTuple_of g').push _⟩, w1, by simp [intItems, hsz],
    CmpOf.ints_lt (numAt its) (fun _ _ => intItems_at), fun v h' tk hP hk => ?_⟩
  obtain ⟨t, rfl⟩ := intItems_at hP
  rw [show (intItems its).size - 1 = 1 by simp [intItems, hsz], pair_min, n0, n1]
  exact fin_ints st (w2 h' hk) _
omit rv in
theorem max_list {v : Value} {d : Val} {x : PyData} (hh : A.handled = none) (r : RV Z S v d) (e : maxL d = some x) : wpAny (model prog w) A (call (.builtin "max") [v]) (SimPost W (RelV R) s Z S (.d x) (abs S)) No s := by
  refine obE e fun u hu e => obE e fun xs hxs e => obE e fun ns' hns e => obE e fun q hq e => ?_
  cases e
  rw [data_eq hu, lstP_eq hxs, allInts_eq hns, fstL_eq hq] at r
  obtain ⟨n, ns⟩ := q
  refine RD.lstE (P := fun v => wpAny (model prog w) A (call (.builtin "max") [v]) (SimPost W (RelV R) s Z S (.d (.int (ns.foldl (fun a b => if a < b then b else a) n))) (abs S)) No s) r fun l vs m g q => ?_
  obtain ⟨its, rfl, hits⟩ := ints_arr q
  have hsz : its.size = ns.length + 1 := by have := congrArg List.length hits; simpa using this
  refine max_intList hh (isList_of (st.sub _ _ g)) (by omega) fun v h' tk hv k => ?_
  obtain ⟨t, rfl⟩ := intItems_at hv
  obtain ⟨h1, h2⟩ := argBest_gt (numAt its) (its.size - 1)
  have hm : numAt its (argBest (fun i j => decide (numAt its i > numAt its j)) (its.size - 1)) = ns.foldl (fun a b => if a < b then b else a) n := by
    refine (foldl_max n ns n _ ?_ ?_).symm
    · rw [← hits, numAt_eq]
      exact getD_mem (by rw [List.length_map, Array.length_toList]; omega)
    · intro a ha
      rw [← hits] at ha
      obtain ⟨j, hj, rfl⟩ := mem_getD ha
      rw [List.length_map, Array.length_toList] at hj
      rw [← numAt_eq]; exact h2 j (by omega)
  rw [hm]
  exact fin_ints st k _
theorem blt_max (hh : A.handled = none) (e : maxB ds = some x) : wpAny (model prog w) A (call (.builtin "max") vs) (SimPost W (RelV R) s Z S (.d x) (abs S)) No s := by
  unfold maxB at e
  cases h1 : one ds with
  | none =>
    rw [h1] at e
    refine obE e fun q hq e => ?_
    rw [two_eq hq] at rv
    obtain ⟨v, u, rfl, r1, r2⟩ := rv.two
    refine obE e fun a ha e => obE e fun b hb e => ?_
    cases e
    rw [intV_eq ha] at r1
    rw [intV_eq hb] at r2
    refine RD.intE r1 fun t => RD.intE r2 fun t' => max_two_ints hh fun h' tk k => ?_
    by_cases hc : a < b
    · rw [if_pos hc, if_pos hc]; exact fin_ints st k _
    · rw [if_neg hc, if_neg hc]; exact fin_ints st k _
  | some d =>
    rw [h1] at e
    rw [one_eq h1] at rv
    obtain ⟨v, rfl, r⟩ := rv.one
    replace e : (match pairB d with | some q => some (PyData.int (if q.1 < q.2 then q.2 else q.1)) | none => maxL d) = some x := e
    cases h2 : pairB d with
    | some q => rw [h2] at e; cases e; exact max_pair st hh r h2
    | none => rw [h2] at e; exact max_list st hh r e
theorem blt_min (hh : A.handled = none) (e : minB ds = some x) : wpAny (model prog w) A (call (.builtin "min") vs) (SimPost W (RelV R) s Z S (.d x) (abs S)) No s := by
  refine rv_one (P := fun vs => wpAny (model prog w) A (call (.builtin "min") vs) (SimPost W (RelV R) s Z S (.d x) (abs S)) No s) st rv e fun v d r e => obE e fun q hq e => ?_
  cases e
  exact min_pair st hh r hq
noncomputable def bkV : BK → Value
  | .len => .builtin "len"
  | .abs => .builtin "abs"
  | .int => .type "int"
  | .tuple => .type "tuple"
  | .list => .type "list"
  | .sum => .builtin "sum"
  | .max => .builtin "max"
  | .min => .builtin "min"
omit st rv in
theorem bk_of : ∀ q ∈ bkTab, builtinVal q.1 = some (bkV q.2) := by
  intro q hq
  simp only [bkTab, List.mem_cons, List.not_mem_nil, or_false] at hq
  rcases hq with rfl | rfl | rfl | rfl | rfl | rfl | rfl | rfl <;> rfl
theorem sim_builtin {n : Nat} (rm : Room n A) {f : Str} {fv : Value} (hf : builtinVal f = some fv) (e : builtinD (abs S) f ds = some x) :
    wpAny (model prog w) A (call fv vs) (SimPost W (RelV R) s Z S (.d x) (abs S)) No s := by
  refine obE e fun B hB e => ?_
  have hv := bk_of _ (PySem.mem_of_lookup hB)
  rw [hf] at hv
  rw [Option.some.inj hv]
  cases B with
  | len => exact blt_len st rv e
  | abs => exact blt_abs st rv e
  | int => exact blt_int st rv e
  | tuple => exact blt_tuple st rv e
  | list => exact blt_list st rv e
  | sum => exact blt_sum st rv rm.hh e
  | max => exact blt_max st rv rm.hh e
  | min => exact blt_min st rv rm.hh e
end
theorem sim_isinst {n : Nat} (rm : Room n A) {t : Str} {tv v : Value} {d : Val} {b : Bool} (ht : builtinVal t = some tv) (st : St Z (HR W Z S ++ R) s.heap) (rv : RV Z S v d) (e : isinstD d t = some b) :
    wpAny (model prog w) A (call (.builtin "isinstance") [v, tv]) (SimPost W (RelV R) s Z S (.d (.bool b)) (abs S)) No s := by
  refine wp_any fun Q hQ => ?_
  have fin : ∀ tk, Q (.bool b) { s with toks := tk } := fun tk => hQ _ _ (fin_d st (.bool _) tk)
  refine obE e fun x hx e => ?_
  rw [data_eq hx] at rv
  replace rv : RD Z v x := rv
  by_cases h : (t == ("bool" : Str)) = true
  · rw [if_pos h] at e
    obtain rfl := eq_of_beq h
    obtain rfl : tv = .type "bool" := by cases ht; rfl
    cases rv with
    | bool c => cases e; exact IsiPair.bool_bool (fin s.toks)
    | int i t => cases e; exact IsiPair.int_bool (fin _)
    | tuple g q => cases e; exact IsiPair.tuple_bool (st.sub _ _ g) rfl (fin _)
    | _ => (first | exact nope e | exact nopeB e | cases e)
  · rw [if_neg h] at e
    refine itE' e fun h e => ?_
    obtain rfl := eq_of_beq h
    obtain rfl : tv = .type "tuple" := by cases ht; rfl
    cases rv with
    | tuple g q => cases e; exact IsiPair.tuple_tuple (st.sub _ _ g) rfl (fin s.toks)
    | bool c => cases e; exact IsiPair.bool_tuple (fin _)
    | _ => (first | exact nope e | exact nopeB e | cases e)
end
end Mine
end
section
open PySem PySem.W PyProof.Rows
set_option Elab.async false
set_option maxRecDepth 10000
namespace Mine

section
variable {Md : Model} {W : Wd} {A : Around} {α β γ δ : Type} {Rel : Heap → Sg → Own → α → β → Prop} {Rel₂ : Heap → Sg → Own → γ → δ → Prop} {Z : Heap} {S : Sg} {R : Own} {s : Shared}
/-- one step, then the rest -/
theorem Sim.seq {t : Sem α} {c : M β} {k : α → Sem γ} {b : β} {σ₁ σ' : List MO} {d : δ} (h : Sim Md W A Rel Z S R s t c) (st : St Z (HR W Z S ++ R) s.heap) (e : c (abs S) = some (b, σ₁))
    (hk : ∀ a Z' S' R' h' tk, Ext Z Z' → Grow S S' → abs S' = σ₁ → St Z' (HR W Z' S' ++ R') h' → Rel Z' S' R' a b → wpAny Md A (k a) (SimPost W Rel₂ (sh s h' tk) Z' S' d σ') No (sh s h' tk)) :
    wpAny Md A (t >>= k) (SimPost W Rel₂ s Z S d σ') No s := by
  refine wpAny_bind (wpAny_mono (h st b σ₁ e) (fun a s' p => ?_) fun _ _ z => z)
  obtain ⟨Z', S', R', h', tk, rfl, x, g, q, st', r⟩ := p
  exact wpAny_mono (hk a Z' S' R' h' tk x g q st' r) (fun a' s'' p => p.trans x g) fun _ _ z => z
end

section
variable {prog : Program} {w : World} {W : Wd} {K : Frag} {H0 : Heap} {G : Str → Option PyData} {adr : Callee → Option Addr} {A : Around} {Z : Heap} {S : Sg} {R : Own} {s : Shared} {sc : Names} {env : Env} {ρ : Rho} {ev : Expr → M Val}

theorem boolD_cons (ev : Expr → M Val) (op : BoolOp) (e e2 : Expr) (r : List Expr) : boolD ev op (e :: e2 :: r) = (do
      let v ← ev e
      let b ← ofO (truthD v)
      match op, b with
      | .And, false => pure v
      | .Or, true => pure v
      | _, _ => boolD ev op (e2 :: r)) := rfl
noncomputable def truthM (v : Val) : M Bool := ofO (truthD v)
/-- a test, as a condition -/
noncomputable def TrOk (prog : Program) (w : World) (W : Wd) (H0 : Heap) (A : Around) (sc : Names) (env : Env) (ρ : Rho) (R : Own) (ev : Expr → M Val) : Prop :=
  ∀ (e : Expr) (Z : Heap) (S : Sg) (s : Shared), Ext H0 Z → FrameAt sc env ρ Z S R → Sim (model prog w) W A (RelB R) Z S R s (isTrue e env (eval e env)) (ev e >>= truthM)

theorem sim_BinOp (hev : EvOk prog w W H0 A sc env ρ R ev) (x0 : Ext H0 Z) (F : FrameAt sc env ρ Z S R) {l r : Expr} {op : Operator} {pos : Pos} :
    Sim (model prog w) W A (RelV R) Z S R s (eval (.BinOp l op r pos) env) (do
      let a ← ev l
      let b ← ev r
      let y ← getσ fun σ => binD op σ a b
      pure (.d y)) := by
  rw [arm_eval_BinOp]
  refine Sim.bind' (hev l Z S s x0 F) fun a x Z' S' R' h' tk k g q => ?_
  obtain ⟨rfl, ra⟩ := q
  refine Sim.bind' (Sim.holding (hev r _ _ _ (x0.trans k) (F.mono k g))) fun b y Z' S' R' h' tk k2 g2 q => ?_
  obtain ⟨rfl, rb⟩ := q
  refine Sim.at (Sim.getσb fun z e => ?_)
  intro st b σ' he
  cases he
  exact wp_operate (sim_binop st (ra.mono k2 g2) rb e)

theorem sim_USub (hev : EvOk prog w W H0 A sc env ρ R ev) (x0 : Ext H0 Z) (F : FrameAt sc env ρ Z S R) {x : Expr} {pos : Pos} :
    Sim (model prog w) W A (RelV R) Z S R s (eval (.UnaryOp .USub x pos) env) (do
      let v ← ev x
      let a ← ofO (intV v)
      pure (.d (.int (-a)))) := by
  rw [arm_eval_UnaryOp]
  refine Sim.bind' (hev x Z S s x0 F) fun a x Z' S' R' h' tk k g q => ?_
  obtain ⟨rfl, ra⟩ := q
  refine Sim.at (Sim.holding (Sim.ofOb fun i e => ?_))
  intro st b σ' he
  cases he
  rw [intV_eq e] at ra
  exact RD.intE ra fun t => PyProof.Rows.neg_int (fin_d st (.int _ _) _)

theorem sim_Not (hev : EvOk prog w W H0 A sc env ρ R ev) (x0 : Ext H0 Z) (F : FrameAt sc env ρ Z S R) {x : Expr} {pos : Pos} :
    Sim (model prog w) W A (RelV R) Z S R s (eval (.UnaryOp .Not x pos) env) (do
      let v ← ev x
      let b ← ofO (truthD v)
      pure (.d (.bool (!b)))) := by
  rw [arm_eval_UnaryOp]
  refine Sim.bind' (hev x Z S s x0 F) fun a x Z' S' R' h' tk k g q => ?_
  obtain ⟨rfl, ra⟩ := q
  refine Sim.at (Sim.holding (Sim.ofOb fun b e => ?_))
  intro st y σ' he
  cases he
  exact not_of (sim_truthy ra e (fin_d st (.bool _) _))

theorem sim_Compare (rm : ∃ n, Room n A) (hw : W.hk = fun k => hashD w (tkD k)) (hev : EvOk prog w W H0 A sc env ρ R ev) (x0 : Ext H0 Z) (F : FrameAt sc env ρ Z S R) {l r : Expr} {op : CmpOp} {pos : Pos} (hm : behindInMarks op r = false) :
    Sim (model prog w) W A (RelV R) Z S R s (eval (.Compare l [op] [r] pos) env) (cmpE ev l op r) := by
  obtain ⟨n, rm⟩ := rm
  rw [eval_Compare1, markedBehindIn_of_false hm]
  unfold cmpE
  refine Sim.bind' (hev l Z S s x0 F) fun a x Z' S' R' h' tk k g q => ?_
  obtain ⟨rfl, ra⟩ := q
  refine Sim.bind' (Sim.holding (hev r _ _ _ (x0.trans k) (F.mono k g))) fun b y Z' S' R' h' tk k2 g2 q => ?_
  obtain ⟨rfl, rb⟩ := q
  refine Sim.at (Sim.getσb fun z e => ?_)
  intro st b σ' he
  cases he
  exact wp_operate (sim_cmp rm hw st (ra.mono k2 g2) rb e)

theorem sim_bool (hev : EvOk prog w W H0 A sc env ρ R ev) {op : BoolOp} {pos : Pos} : ∀ (es : List Expr) (Z : Heap) (S : Sg) (s : Shared), Ext H0 Z → FrameAt sc env ρ Z S R →
    Sim (model prog w) W A (RelV R) Z S R s (boolOp pos op (evalEach es env)) (boolD ev op es)
  | [], _, _, _, _, _ => Sim.stop
  | [e], Z, S, s, x0, F => hev e Z S s x0 F
  | e :: e2 :: r, Z, S, s, x0, F => by
    show Sim _ _ _ _ _ _ _ _ (do
      let v ← eval e env
      standAt pos
      let t ← holding [v] (truthy v)
      match op, t with
      | .And, false | .Or, true => pure v
      | _, _ => boolOp pos op (evalEach (e2 :: r) env)) (do
        let v ← ev e
        let b ← ofO (truthD v)
        match op, b with
        | .And, false => pure v
        | .Or, true => pure v
        | _, _ => boolD ev op (e2 :: r))
    refine Sim.bind' (hev e Z S s x0 F) fun a x Z' S' R' h' tk k g q => ?_
    obtain ⟨rfl, ra⟩ := q
    refine Sim.at (Sim.ofOb fun b eb => ?_)
    intro st y σ' he
    refine wpAny_bind (wpAny_holding (sim_truthy ra eb ?_))
    have ih := sim_bool (pos := pos) hev (op := op) (e2 :: r) Z' S' (sh s h' tk) (x0.trans k) (F.mono k g)
    cases op <;> cases b
    · cases he; exact wpAny_pure (SimPost.same (Rel := RelV _) (s := (sh s h' tk)) st ⟨rfl, ra⟩)
    · exact ih st y σ' he
    · exact ih st y σ' he
    · cases he; exact wpAny_pure (SimPost.same (Rel := RelV _) (s := (sh s h' tk)) st ⟨rfl, ra⟩)

theorem sim_IfExp (hev : EvOk prog w W H0 A sc env ρ R ev) (htr : TrOk prog w W H0 A sc env ρ R ev) (x0 : Ext H0 Z) (F : FrameAt sc env ρ Z S R) {t a b : Expr} {pos : Pos} :
    Sim (model prog w) W A (RelV R) Z S R s (eval (.IfExp t a b pos) env) (do
      let v ← ev t
      let c ← ofO (truthD v)
      if c then ev a else ev b) := by
  rw [arm_eval_IfExp]
  have e : (do
      let v ← ev t
      let c ← ofO (truthD v)
      if c then ev a else ev b : M Val) = ((ev t >>= truthM) >>= fun c => if c then ev a else ev b) := by rw [M.assoc]; rfl
  rw [e]
  refine Sim.bind' (htr t Z S s x0 F) fun c c' Z' S' R' h' tk k g q => ?_
  obtain ⟨rfl, rfl⟩ := q
  cases c
  · exact hev b _ _ _ (x0.trans k) (F.mono k g)
  · exact hev a _ _ _ (x0.trans k) (F.mono k g)

theorem sim_allTrue {op : BoolOp} (htr : TrOk prog w W H0 A sc env ρ R ev) : ∀ (es : List Expr) (Z : Heap) (S : Sg) (s : Shared), Ext H0 Z → FrameAt sc env ρ Z S R →
    Sim (model prog w) W A (RelB R) Z S R s (allTrue op es env) (boolD ev op es >>= truthM)
  | [], _, _, _, _, _ => fun _ _ _ e => by (first | exact nope e | exact nopeB e | cases e)
  | [e], Z, S, s, x0, F => by
    rw [arm_allTrue_cons]
    intro st b σ' he
    refine Sim.seq (htr e Z S s x0 F) st he fun c Z' S' R' h' tk k g q st' r => ?_
    obtain ⟨rfl, rfl⟩ := r
    subst q
    have fin : SimPost W (RelB R) (sh s h' tk) Z' S' c (abs S') c (sh s h' tk) := SimPost.same (Rel := RelB R) (s := (sh s h' tk)) st' ⟨rfl, rfl⟩
    cases op <;> cases c <;> exact wpAny_pure fin
  | e :: e2 :: r, Z, S, s, x0, F => by
    rw [arm_allTrue_cons]
    intro st b σ' he
    obtain ⟨v, σ₁, h1, h2⟩ := M.inv he
    rw [boolD_cons] at h1
    obtain ⟨v1, σ₂, h3, h4⟩ := M.inv h1
    obtain ⟨b1, σ₃, h5, h6⟩ := M.inv h4
    obtain ⟨h50, rfl⟩ := ofO_inv h5
    refine Sim.seq (b := b1) (σ₁ := σ₃) (htr e Z S s x0 F) st (M.run h3 (by unfold truthM; rw [h50]; rfl)) fun c Z' S' R' h' tk k g q st' r => ?_
    obtain ⟨rfl, rfl⟩ := r
    subst q
    have ih := sim_allTrue (op := op) htr (e2 :: r) Z' S' (sh s h' tk) (x0.trans k) (F.mono k g)
    have fin : SimPost W (RelB R) (sh s h' tk) Z' S' c (abs S') c (sh s h' tk) := SimPost.same (Rel := RelB R) (s := (sh s h' tk)) st' ⟨rfl, rfl⟩
    cases op <;> cases c
    · obtain ⟨rfl, rfl⟩ := pure_inv h6
      obtain ⟨h7, rfl⟩ := ofO_inv (o := truthD v1) h2
      rw [h50] at h7; cases h7
      exact wpAny_pure fin
    · exact ih st' b σ' (M.run h6 h2)
    · exact ih st' b σ' (M.run h6 h2)
    · obtain ⟨rfl, rfl⟩ := pure_inv h6
      obtain ⟨h7, rfl⟩ := ofO_inv (o := truthD v1) h2
      rw [h50] at h7; cases h7
      exact wpAny_pure fin

theorem tr_plain (hev : EvOk prog w W H0 A sc env ρ R ev) (x0 : Ext H0 Z) (F : FrameAt sc env ρ Z S R) {e : Expr} (h : isTrue e env (eval e env) = (do
    let v ← eval e env
    standAt e.pos
    holding [v] (truthy v))) : Sim (model prog w) W A (RelB R) Z S R s (isTrue e env (eval e env)) (ev e >>= truthM) := by
  rw [h]
  refine Sim.bind' (hev e Z S s x0 F) fun a x Z' S' R' h' tk k g q => ?_
  obtain ⟨rfl, ra⟩ := q
  refine Sim.at (Sim.holding ?_)
  intro st b σ' he
  obtain ⟨h1, rfl⟩ := ofO_inv he
  exact sim_truthy ra h1 (SimPost.same (Rel := RelB _) (s := (sh s h' tk)) st ⟨rfl, rfl⟩)

theorem tr_Not (htr : TrOk prog w W H0 A sc env ρ R ev) (x0 : Ext H0 Z) (F : FrameAt sc env ρ Z S R) {x : Expr} {pos : Pos} {whole : Sem Value} :
    Sim (model prog w) W A (RelB R) Z S R s (isTrue (.UnaryOp .Not x pos) env whole) ((do
      let v ← ev x
      let b ← ofO (truthD v)
      pure (.d (.bool (!b)))) >>= truthM) := by
  rw [arm_isTrue_UnaryOp]
  have e : ((do
      let v ← ev x
      let b ← ofO (truthD v)
      pure (.d (.bool (!b))) : M Val) >>= truthM) = ((ev x >>= truthM) >>= fun b => pure (!b)) := by
    rw [M.assoc, M.assoc]
    congr 1
    funext v
    rw [M.assoc]
    rfl
  rw [e]
  refine Sim.bind' (htr x Z S s x0 F) fun c c' Z' S' R' h' tk k g q => ?_
  obtain ⟨rfl, rfl⟩ := q
  exact Sim.pure ⟨rfl, rfl⟩

theorem tr_IfExp (htr : TrOk prog w W H0 A sc env ρ R ev) (x0 : Ext H0 Z) (F : FrameAt sc env ρ Z S R) {t a b : Expr} {pos : Pos} {whole : Sem Value} :
    Sim (model prog w) W A (RelB R) Z S R s (isTrue (.IfExp t a b pos) env whole) ((do
      let v ← ev t
      let c ← ofO (truthD v)
      if c then ev a else ev b) >>= truthM) := by
  rw [arm_isTrue_IfExp]
  have e : ((do
      let v ← ev t
      let c ← ofO (truthD v)
      if c then ev a else ev b : M Val) >>= truthM) = ((ev t >>= truthM) >>= fun c => if c then ev a >>= truthM else ev b >>= truthM) := by
    rw [M.assoc, M.assoc]
    congr 1
    funext v
    rw [M.assoc]
    show _ = ofO (truthD v) >>= _
    congr 1
    funext c
    cases c <;> rfl
  rw [e]
  refine Sim.bind' (htr t Z S s x0 F) fun c c' Z' S' R' h' tk k g q => ?_
  obtain ⟨rfl, rfl⟩ := q
  cases c
  · exact htr b _ _ _ (x0.trans k) (F.mono k g)
  · exact htr a _ _ _ (x0.trans k) (F.mono k g)

theorem tr_Compare (rm : ∃ n, Room n A) (hw : W.hk = fun k => hashD w (tkD k)) (hev : EvOk prog w W H0 A sc env ρ R ev) (x0 : Ext H0 Z) (F : FrameAt sc env ρ Z S R) {l r : Expr} {op : CmpOp} {pos : Pos} (hm : behindInMarks op r = false) {whole : Sem Value} :
    Sim (model prog w) W A (RelB R) Z S R s (isTrue (.Compare l [op] [r] pos) env whole) ((cmpE ev l op r) >>= truthM) := by
  obtain ⟨n, rm⟩ := rm
  rw [arm_isTrue_Compare]
  show Sim _ _ _ _ _ _ _ _ (do
    let left ← eval l env
    let rv ← holding [left] (markedBehindIn op r (eval r env))
    standAt pos
    let c ← operate [left, rv] (compareOp op left rv)
    holding [c] (truthy c)) _
  unfold cmpE
  rw [markedBehindIn_of_false hm, M.assoc]
  refine Sim.bind' (hev l Z S s x0 F) fun a x Z' S' R' h' tk k g q => ?_
  obtain ⟨rfl, ra⟩ := q
  rw [M.assoc]
  refine Sim.bind' (Sim.holding (hev r _ _ _ (x0.trans k) (F.mono k g))) fun b y Z' S' R' h' tk k2 g2 q => ?_
  obtain ⟨rfl, rb⟩ := q
  rw [M.assoc]
  refine Sim.at (Sim.getσb fun z e => ?_)
  intro st b σ' he
  obtain ⟨h7, rfl⟩ := ofO_inv (o := some z) he
  cases h7
  refine wpAny_bind (wpAny_mono (wp_operate (sim_cmp rm hw st (ra.mono k2 g2) rb e)) (fun v s' p => ?_) fun _ _ z => z)
  obtain ⟨Z3, S3, R3, h3, tk3, rfl, k3, g3, q3, st3, rfl, rv3⟩ := p
  refine wpAny_holding ?_
  refine sim_truthy (b := z) rv3 rfl ?_
  exact ⟨Z3, S3, _, h3, tk3, rfl, k3, g3, q3, st3, rfl, rfl⟩

theorem sim_Subscript (rm : ∃ n, Room n A) (hw : W.hk = fun k => hashD w (tkD k)) (hev : EvOk prog w W H0 A sc env ρ R ev) (x0 : Ext H0 Z) (F : FrameAt sc env ρ Z S R) {v i : Expr} {pos : Pos} (hsl : ∀ lo hi p, i ≠ .Slice lo hi none p) :
    Sim (model prog w) W A (RelV R) Z S R s (eval (.Subscript v i pos) env) (itE ev v i) := by
  obtain ⟨n, rm⟩ := rm
  rw [arm_eval_Subscript]
  unfold itE
  refine Sim.bind' (hev v Z S s x0 F) fun a x Z' S' R' h' tk k g q => ?_
  obtain ⟨rfl, ra⟩ := q
  refine Sim.bind' (Sim.holding (hev i _ _ _ (x0.trans k) (F.mono k g))) fun b y Z' S' R' h' tk k2 g2 q => ?_
  obtain ⟨rfl, rb⟩ := q
  refine Sim.at (Sim.getσb fun z e => ?_)
  intro st b σ' he
  cases he
  exact sim_item (value := v) rm hw hsl st (ra.mono k2 g2) rb e
end
end Mine
end
section
open PySem PySem.W PyProof.Rows
set_option Elab.async false
set_option maxRecDepth 10000
namespace Mine

section
variable {prog : Program} {w : World} {W : Wd} {K : Frag} {H0 : Heap} {G : Str → Option PyData} {adr : Callee → Option Addr} {A : Around} {Z : Heap} {S : Sg} {R : Own} {s : Shared} {sc : Names} {env : Env} {ρ : Rho} {ev : Expr → M Val}

noncomputable def PartP (R₀ : Own) (_ : Heap) (_ : Sg) (R : Own) (v : Value) (o : Option Int) : Prop := R₀ = R ∧ IsPart v o
theorem sim_part (hev : EvOk prog w W H0 A sc env ρ R ev) (x0 : Ext H0 Z) (F : FrameAt sc env ρ Z S R) {e : Option Expr} : Sim (model prog w) W A (PartP R) Z S R s (valueOrNone (evalOpt e env)) (partM ev e) := by
  cases e with
  | none => exact Sim.pure ⟨rfl, .none⟩
  | some e =>
    show Sim _ _ _ _ _ _ _ _ (eval e env) (ev e >>= _)
    have e1 : eval e env = (eval e env >>= fun v => pure v) := by simp
    rw [e1]
    refine Sim.bind' (hev e Z S s x0 F) fun a x Z' S' R' h' tk k g q => ?_
    obtain ⟨rfl, ra⟩ := q
    refine Sim.ofOb fun i e => ?_
    rw [intV_eq e] at ra
    exact RD.intE ra fun t => Sim.pure ⟨rfl, .int _ _⟩

noncomputable abbrev sliceOf (l u : Value) : Obj := { cls := .type "slice", data := .fields #[l, u, .none] }
noncomputable def SliceP (R₀ : Own) (Z : Heap) (_ : Sg) (R : Own) (v : Value) (o : Option Int × Option Int) : Prop := R₀ = R ∧ ∃ sl l u, v = .ref sl ∧ Z.get? sl = some (sliceOf l u) ∧ IsPart l o.1 ∧ IsPart u o.2

theorem sim_SliceE (hev : EvOk prog w W H0 A sc env ρ R ev) (x0 : Ext H0 Z) (F : FrameAt sc env ρ Z S R) {lo hi : Option Expr} {pos : Pos} :
    Sim (model prog w) W A (SliceP R) Z S R s (eval (.Slice lo hi none pos) env) (do
      let l ← partM ev lo
      let h ← partM ev hi
      pure (l, h)) := by
  rw [arm_eval_Slice]
  refine Sim.bind' (sim_part hev x0 F) fun l lo' Z' S' R' h' tk k g q => ?_
  obtain ⟨rfl, pl⟩ := q
  refine Sim.bind' (Sim.holding (sim_part hev (x0.trans k) (F.mono k g))) fun u hi' Z' S' R' h' tk k2 g2 q => ?_
  obtain ⟨rfl, pu⟩ := q
  intro st b σ' he
  cases he
  refine wpAny_bind (wpAny_holding (wpAny_pure ?_))
  obtain ⟨Z3, x3, s3, e3⟩ := st.push (sliceOf l u) rfl
  exact wpAny_newObj_type ⟨Z3, _, _, _, _, rfl, x3, Grow.refl _, rfl, St.mono (T := _) s3 x3 (Grow.refl _), rfl, _, l, u, rfl, e3, pl, pu⟩

theorem rds_slice {vs : Array Value} {xs : List PyData} (r : RDs Z vs.toList xs) (lo hi : Option Int) : RDs Z (slicePick vs lo hi none).toList (cutD xs lo hi) := by
  rw [slicePick_plain, size_of r]
  exact (r.drop _).take _

theorem sim_Cut (hev : EvOk prog w W H0 A sc env ρ R ev) (x0 : Ext H0 Z) (F : FrameAt sc env ρ Z S R) {v : Expr} {lo hi : Option Expr} {p pos : Pos} :
    Sim (model prog w) W A (RelV R) Z S R s (eval (.Subscript v (.Slice lo hi none p) pos) env) (cutE ev v lo hi) := by
  rw [arm_eval_Subscript]
  unfold cutE
  refine Sim.bind' (hev v Z S s x0 F) fun a x Z' S' R' h' tk k g q => ?_
  obtain ⟨rfl, ra⟩ := q
  have e : (do
      let l ← partM ev lo
      let h ← partM ev hi
      let y ← getσ fun σ => sliceD σ x l h
      pure (.d y) : M Val) = ((do
      let l ← partM ev lo
      let h ← partM ev hi
      pure (l, h) : M (Option Int × Option Int)) >>= fun q => getσ (fun σ => sliceD σ x q.1 q.2) >>= fun y => pure (.d y)) := by
    rw [M.assoc]
    congr 1
    funext l
    rw [M.assoc]
    rfl
  rw [e]
  refine Sim.bind' (Sim.holding (sim_SliceE hev (x0.trans k) (F.mono k g))) fun i q Z' S' R' h' tk k2 g2 r => ?_
  obtain ⟨rfl, sl, l, u, rfl, hsl, pl, pu⟩ := r
  refine Sim.at (Sim.getσb fun z e => ?_)
  intro st b σ' he
  cases he
  refine obE e fun u hu e => obE e fun xs hxs e => gdE e fun hl => seen_lstE st (ra.mono k2 g2) hu hxs fun a vs m ga r => ?_
  refine tail_any (value := v) (slice := .Slice lo hi none p) (T := "list") (id := "list.__getitem__") (ops := [.ref sl, .ref a]) ⟨_, ga, rfl⟩ slot_list_getitem.lookup ?_ rfl
  refine wpAny_getItem_list_slice (isList_of ga) ⟨_, st.sub _ _ hsl, rfl, rfl⟩ pl pu .none (by simp) ?_ (by rw [size_of r]; exact okLen_size hl)
  exact fin_push (s := (sh s h' tk)) st rfl (fun Z2 k2 g2 => .list g2 ((rds_slice r _ _).ext k2)) _

theorem fields_find {es : List DictEntry} {fs : List (Str × Val)} (r : FieldsAre Z S es fs) (n : Str) : match fs.lookup n with
    | some d => ∃ v, getL n es = some (some v) ∧ RV Z S v d
    | none => getL n es = some none := by
  have key : ∀ {es : List DictEntry} {fs : List (Str × Val)}, FieldsAre Z S es fs → es.any (·.refKey) = false := by
    intro es fs r
    induction r with
    | nil => rfl
    | cons h _ ih => obtain ⟨⟨t, e⟩, _⟩ := h; rw [List.any_cons, ih]; unfold DictEntry.refKey; rw [e]; rfl
  have main : match fs.lookup n with
    | some d => ∃ e, es.find? (·.key.isStr n) = some e ∧ RV Z S e.val d
    | none => es.find? (·.key.isStr n) = none := by
    clear key
    induction r with
    | nil => rfl
    | @cons e f es fs h r ih =>
      obtain ⟨k, d⟩ := f
      obtain ⟨⟨t, ek⟩, rv⟩ := h
      dsimp only at ek rv
      have hi : e.key.isStr n = (k == n) := by rw [ek]; rfl
      rw [List.lookup_cons, List.find?_cons, hi]
      by_cases hk : k = n
      · subst hk
        simp only [beq_self_eq_true]
        exact ⟨e, rfl, rv⟩
      · have h1 : (k == n) = false := by simpa using hk
        have h2 : (n == k) = false := by simpa using fun q : n = k => hk q.symm
        rw [h1, h2]
        exact ih
  unfold getL
  split at main
  · obtain ⟨e, he, rv⟩ := main
    rename_i d hd
    rw [he]
    exact ⟨_, rfl, rv⟩
  · rename_i hd
    rw [main, key r]; rfl

theorem at_inst {h : Heap} (st : St Z (HR W Z S ++ R) h) {i : Nat} {l : Lc} {c : Str} {fs : List (Str × Val)} (e : S[i]? = some l) (em : l.m = .inst c fs) :
    ∃ C es n, W.cA c = some C ∧ FieldsAre Z S es fs ∧ InstAt h l.x (instObj C l.dx) C (some (dictOf es n)) := by
  obtain ⟨o, ho, C, hc, rfl⟩ := at_HR (P := fun o => ∃ C, W.cA c = some C ∧ o = instObj C l.dx) (a := l.x) st e (by unfold mres; rw [em]; simp)
  obtain ⟨o', ho', es, n, rfl, r⟩ := at_HR (P := fun o => ∃ es n, o = dictOf es n ∧ FieldsAre Z S es fs) (a := l.dx) st e (by unfold mres; rw [em]; simp)
  exact ⟨C, es, n, hc, r, ho, rfl, rfl, ho'⟩

theorem base_plain {o : Expr} {name : Str} {whole : Sem Value} (h : okBase o = true) : attributeBase o name env whole = whole := by
  cases o <;> first | rfl | cases h

theorem handedIn_RV {v : Value} {d : Val} (r : RV Z S v d) : handedIn v = true := by
  cases d with
  | p i => obtain ⟨l, _, rfl⟩ := r; rfl
  | d x => cases (show RD Z v x from r) <;> rfl

theorem sim_Attribute (B : Bs prog w W K H0 G adr) (hev : EvOk prog w W H0 A sc env ρ R ev) (x0 : Ext H0 Z) (F : FrameAt sc env ρ Z S R) {o : Expr} {name : Str} {pos : Pos} (ho : okBase o = true) :
    Sim (model prog w) W A (RelV R) Z S R s (eval (.Attribute o name pos) env) (do
      let a ← ev o
      getσ fun σ => attrD σ a name) := by
  rw [arm_eval_Attribute, base_plain ho]
  refine Sim.bind' (hev o Z S s x0 F) fun a x Z' S' R' h' tk k g q => ?_
  obtain ⟨rfl, ra⟩ := q
  refine Sim.at (Sim.getσ fun d e => ?_)
  intro st b σ' he
  cases he
  refine obE e fun i hi e => obE e fun m hm e => obE e fun q hq e => itE' e fun hn e => ?_
  rw [ptV_eq hi] at ra
  rw [instM_eq hq] at hm
  obtain ⟨l, el, em⟩ := abs_get hm
  obtain ⟨l', el', rfl⟩ := ra
  rw [el] at el'; cases el'
  obtain ⟨C, es, n, hc, r, I⟩ := at_inst st el em
  have hf := fields_find r name
  rw [e] at hf
  obtain ⟨v, hv, rv⟩ := hf
  have ck := B.cls q.1 C hc
  have X : K.In h' := fun b o e => st.sub _ _ ((x0.trans k) _ _ (B.KI b o e))
  refine wpAny_bind (wpAny_holding (get_value X I (plainGet_of ck.get).1 (findObj_own ck.dict (ck.flds name hn) rfl (by rw [lookIn_dict]; exact hv)) (handedIn_RV rv) ?_))
  refine wpAny_bind (wpAny_letTemporaryGo (wpAny_pure ?_))
  exact SimPost.same (Rel := RelV _) (s := (sh s h' tk)) st ⟨rfl, rv⟩ (tk + 1)

theorem toString_int (k : Nat) : (toString (k : Int) : String) = toString k := rfl

theorem intText_short (n : Nat) (hn : n < 4096) : (intText n).length ≤ 10 := by
  unfold intText
  rw [PySem.Str.ofString_eq_toList]
  show ((toString n).toList.map Char.toNat).toArray.size ≤ 10
  rw [List.size_toArray, List.length_map, String.length_toList]
  exact (Nat.length_repr_le_iff (by decide)).mpr (Nat.lt_of_lt_of_le hn (by decide))

theorem sim_JoinedStr (hev : EvOk prog w W H0 A sc env ρ R ev) (x0 : Ext H0 Z) (F : FrameAt sc env ρ Z S R) {t : Str} {c : Nat} {p1 p2 pos : Pos} {e : Expr} :
    Sim (model prog w) W A (RelV R) Z S R s (eval (.JoinedStr [.Constant (.str t) c p1, .FormattedValue e (-1) none p2] pos) env) (do
      let v ← ev e
      let k ← ofO (intV v)
      if decide (0 ≤ k) && decide (k < 4096) && decide (t.length ≤ 100) then pure (.d (.str (t ++ intText k.toNat))) else stop) := by
  intro st b σ' he
  refine M.on he fun v σ₁ h1 h2 => M.onO h2 fun k hv h2 => stE h2 fun hk h2 => ?_
  obtain ⟨rfl, rfl⟩ := pure_inv h2
  rw [Bool.and_eq_true, Bool.and_eq_true] at hk
  have k1 := of_decide_eq_true hk.1.1
  have k2 := of_decide_eq_true hk.1.2
  have ht := of_decide_eq_true hk.2
  rw [intV_eq hv] at h1
  refine wpAny_JoinedStr ?_
  show wpAny _ _ (eval (.Constant (.str t) c p1) env) _ _ _
  rw [arm_eval_Constant]
  have hlen : ∀ n : Nat, n < 4096 → (intText n).length ≤ 10 := intText_short
  have fits : ∀ n : Nat, n < 4096 → t.length + (intText n).length ≤ sizeLine := fun n hn => by have := hlen n hn; rw [sizeLine_eq]; omega
  have e0 : Str.empty ++ t = t := by cases t; show Str.mk (#[] ++ _) = _; simp
  refine wpAny_mkText ⟨t, _, rfl, ?_, ?_⟩
  · rw [e0, sizeLine_eq]; omega
  · show wpAny _ _ (eval (.FormattedValue e (-1) none p2) env) _ _ _
    refine wpAny_FormattedValue_plain ?_
    have := hev e Z S { s with toks := s.toks + 1 } x0 F st _ _ h1
    refine wpAny_mono this (fun v s' p => ?_) fun _ _ z => z
    obtain ⟨Z', S', R', h', tk, rfl, k', g, q, st', rfl, rv⟩ := p
    subst q
    obtain ⟨u, rfl⟩ := RD.int_of rv
    obtain ⟨n, rfl⟩ := Int.eq_ofNat_of_zero_le k1
    have hn : n < 4096 := by omega
    have e1 : ((toString (n : Int) : String) : Str) = intText n := rfl
    refine wpAny_formatField_int (by
      rw [Int.natAbs_natCast]
      by_cases h0 : n = 0
      · subst h0; decide +kernel
      · exact (Nat.log2_lt h0).mpr (Nat.lt_of_lt_of_le hn (Nat.le_trans (by decide : 4096 ≤ 2 ^ 12) (Nat.pow_le_pow_right (by decide) (by decide))))) ⟨_, _, rfl, ?_, ?_⟩
    · rw [e0, e1, strLen_append]; exact fits n hn
    · show (Str.empty ++ t ++ _).length ≤ sizeLine ∧ _
      rw [e0, e1, strLen_append]
      refine ⟨fits n hn, ?_⟩
      exact ⟨_, _, _, _, _, rfl, k', g, rfl, st', rfl, .str _ _⟩
end
end Mine
end
section
open PySem PySem.W PyProof.Rows
set_option Elab.async false
set_option maxRecDepth 10000
namespace Mine

structure CallsOk (prog : Program) (w : World) (W : Wd) (H0 : Heap) (adr : Callee → Option Addr) (r : Nat) (C : Calls) : Prop where
  sim : ∀ c a vs ds Z S R s A, adr c = some a → Room r A → Ext H0 Z → RVs Z S vs ds → Sim (model prog w) W A (RelV R) Z S R s (call (.ref a) vs) (C c ds)
  dom : ∀ c ds σ x, C c ds σ = some x → (adr c).isSome = true

theorem Grow.set {S : Sg} {i : Nat} {l l' : Lc} (e : S[i]? = some l) (hx : l'.x = l.x) (hd : l'.dx = l.dx) : Grow S (S.set i l') := by
  intro j m em
  by_cases h : i = j
  · subst h
    rw [e] at em; cases em
    have hi : i < S.length := by
      rcases Nat.lt_or_ge i S.length with h | h
      · exact h
      · rw [List.getElem?_eq_none h] at e; cases e
    exact ⟨l', by rw [List.getElem?_set_self hi], hx, hd⟩
  · exact ⟨m, by rw [List.getElem?_set_ne h]; exact em, rfl, rfl⟩
theorem abs_set {S : Sg} {i : Nat} {l' : Lc} : abs (S.set i l') = (abs S).set i l'.m := by unfold abs; rw [List.map_set]

theorem St.setAt {W : Wd} {Z h h' : Heap} {S : Sg} {R : Own} {i : Nat} {l : Lc} (l' : Lc) (st : St Z (HR W Z S ++ R) h) (e : S[i]? = some l) (hx : l'.x = l.x) (hd : l'.dx = l.dx)
    (k : ∀ b o, b ∉ (mres W Z S l).map (·.1) → h.get? b = some o → h'.get? b = some o) (n : ∀ p ∈ mres W Z S l', ∃ o, h'.get? p.1 = some o ∧ p.2 o) (ha : (mres W Z S l').map (·.1) = (mres W Z S l).map (·.1)) :
    Up Z (fun Z' => HR W Z' (S.set i l') ++ R) h' fun _ => Grow S (S.set i l') := by
  have g := Grow.set e hx hd
  have st1 := (St.focus e).mp st
  have nd : ((mres W Z S l').map (·.1)).Nodup := by
    rw [ha]
    have := st1.nd
    rw [List.map_append, List.nodup_append] at this
    exact this.1
  obtain ⟨Z', x, st2, _⟩ := St.step (O₁' := mres W Z S l') st1 k n nd (fun p hp => .inl (by rw [← ha]; exact List.mem_map_of_mem hp))
  refine ⟨Z', x, ?_, g⟩
  have hi : i < S.length := by
    rcases Nat.lt_or_ge i S.length with h | h
    · exact h
    · rw [List.getElem?_eq_none h] at e; cases e
  have e2 : (S.set i l')[i]? = some l' := by rw [List.getElem?_set_self hi]
  have e3 : (S.set i l').eraseIdx i = S.eraseIdx i := by rw [List.eraseIdx_set_eq]
  have st3 : St Z' ((S.set i l').flatMap (mres W Z S) ++ R) h' := by
    have p := List.Perm.append_right R (perm_focus (mres W Z S) (S.set i l') i l' e2)
    rw [List.append_assoc, e3] at p
    exact st2.perm p.symm
  exact St.mono (T := S.set i l') st3 x g

section
variable {prog : Program} {w : World} {W : Wd} {K : Frag} {H0 : Heap} {G : Str → Option PyData} {adr : Callee → Option Addr} {A : Around} {Z : Heap} {S : Sg} {R : Own} {s : Shared} {sc : Names} {env : Env} {ρ : Rho} {ev : Expr → M Val}

theorem no_star {pos : Pos} (hns : NoStar ev) : ∀ (es : List Expr) (σ σ₁ : List MO) (ds : List Val), evList ev es σ = some (ds, σ₁) → (backTo pos (starEach es env)).all (!·.1) = true
  | [], _, _, _, _ => rfl
  | e :: r, σ, σ₁, ds, h => by
    obtain ⟨d, σ₂, h1, h2⟩ := M.inv h
    obtain ⟨d2, σ₃, h3, h4⟩ := M.inv h2
    have hne : ∀ e' p, e ≠ .Starred e' p := fun e' p q => by subst q; rw [hns] at h1; cases h1
    rw [starEach_plain hne]
    show (true && (backTo pos (starEach r env)).all (!·.1)) = true
    rw [no_star hns r _ _ _ h3]; rfl

theorem append_exact {l : Addr} {vs : Array Value} {n : Nat} {x : Value} {Q : Value → Shared → Prop} {E : Value → Shared → Prop} (ho : s.heap.get? l = some (listOf vs n)) (hz : vs.size ≤ 4096)
    (h : ∀ h', h'.get? l = some (listOf (vs.push x) (n + 1)) → Heap.SameBut l s.heap h' → Q .none { s with heap := h' }) : wpAny (model prog w) A (call (.builtin "list.append") [.ref l, x]) Q E s := by
  refine wpAny_call_entry slot_list_append (isList_of ho).typeIs entry_list_append ?_ (args_list_append _ _)
  show wpAny _ _ (updateSeq l (·.push x) >>= fun _ => ret .none) _ _ s
  refine wpAny_bind ?_
  have hz1 : vs.size ≤ sizeLine := by rw [sizeLine_eq]; (first | lia | omega)
  refine wpAny_updateSeq ho rfl (wpAny_pure ⟨.none, rfl, h _ ?_ (Heap.SameBut.update ..)⟩) hz1 (by rw [Array.size_push, sizeLine_eq]; (first | lia | omega))
  rw [Heap.get?_update_self (Obj.mapSeq (·.push x)) ho (by rfl)]
  have hs : ((vs.push x).size == vs.size) = false := by rw [Array.size_push]; simp
  show some (_ : Obj) = _
  unfold Obj.mapSeq PySem.W.listOf
  simp only [hs, Bool.false_eq_true, if_false]

theorem sim_append {i : Nat} {l : Lc} {vs : List Value} {ds : List Val} (el : S[i]? = some l) (rv : RVs Z S vs ds) :
    Sim (model prog w) W A (RelV R) Z S R s (call (.builtin "list.append") ([.ref l.x] ++ vs)) (fun σ => appendD σ i ds) := by
  intro st b σ' he
  replace he : appendD (abs S) i ds = some (b, σ') := he
  refine obE he fun m hi he => obE he fun xs hxs he => obE he fun d hd he => obE he fun x hx he => ?_
  have hl := gdT he
  have he' : some (Val.d .none, (abs S).set i (.list (xs ++ [x]))) = some (b, σ') := by rw [← he]; unfold gd; rw [if_pos hl]
  cases he'
  rw [lstM_eq hxs] at hi
  rw [one_eq hd, data_eq hx] at rv
  obtain ⟨v, rfl, r⟩ := rv.one
  obtain ⟨l', el', em⟩ := abs_get hi
  rw [el] at el'; cases el'
  obtain ⟨vs, n, ho, rs⟩ := at_list st el em
  refine append_exact ho (by rw [size_of rs]; exact okLen_of hl) fun h' hn hsb => ?_
  have hm : mres W Z S l = [(l.x, fun o => ∃ vs n, o = listOf vs n ∧ RDs Z vs.toList xs)] := by unfold mres; rw [em]
  obtain ⟨Z', x', st', g⟩ := St.setAt (h' := h') ⟨l.x, l.dx, .list (xs ++ [x])⟩ st el rfl rfl (by
      intro b o hb e
      rw [hm] at hb
      rw [hsb.2 b (by simpa using hb)]; exact e) (by
      intro p hp
      simp only [mres, List.mem_singleton] at hp
      subst hp
      exact ⟨_, hn, _, _, rfl, by rw [Array.toList_push]; exact rs.snoc r⟩) (by rw [hm]; rfl)
  exact ⟨Z', _, R, h', s.toks, rfl, x', g, abs_set, st', rfl, .none⟩

theorem sim_methodCall {r : Nat} {C : Calls} (B : Bs prog w W K H0 G adr) (hC : CallsOk prog w W H0 adr r C) (rm : Room r A) (hev : EvOk prog w W H0 A sc env ρ R ev) (hns : NoStar ev) (x0 : Ext H0 Z) (F : FrameAt sc env ρ Z S R)
    {o : Expr} {name : Str} {ap pos : Pos} {args : List Expr} (ho : okBase o = true) (h8 : args.length ≤ 8) (hp : (ap.endLine == pos.line) = true) :
    Sim (model prog w) W A (RelV R) Z S R s (eval (.Call (.Attribute o name ap) args [] pos) env) (methE C ev o name args) := by
  rw [arm_eval_Call, base_plain ho]
  unfold methE
  refine Sim.bind' (hev o Z S s x0 F) fun a x Z' S' R' h' tk k g q => ?_
  obtain ⟨rfl, ra⟩ := q
  refine Sim.ofOb fun i hi => ?_
  rw [ptV_eq hi] at ra
  refine Sim.at (Sim.getσb fun m hm => ?_)
  intro st b σ' he
  obtain ⟨l, el, rfl⟩ := ra
  refine M.on he fun ds σ₁ h1 h2 => ?_
  have few : methodCallForm (args.length + ([] : List Keyword).length) (backTo pos (starEach args env)) (backToKw pos (keywordEach [] env)) = true := by
    unfold methodCallForm
    rw [no_star hns args _ _ _ h1]
    have : args.length + 0 + 0 < 30 := by (first | lia | omega)
    show (true && true && decide (args.length + 0 + 0 < 30)) = true
    rw [decide_eq_true this]; rfl
  unfold methodCall
  rw [few]
  refine wp_any fun Q hQ => ?_
  have fin : ∀ {f : Value} {first : List Value} {pos' : Pos}, wpAny (model prog w) A (callWith pos f first (backTo pos' (starEach args env)) []) (SimPost W (RelV R) (sh s h' tk) Z' S' b σ') No (sh s h' tk) →
      wpAny (model prog w) A (do
        let callPos ← methodCallPos true o env ap pos
        callWith callPos f first (backTo pos' (starEach args env)) []) Q No (sh s h' tk) := by
    intro f first pos' h
    unfold methodCallPos
    rw [hp]
    exact wpAny_bind (wpAny_pure (wpAny_mono h hQ fun _ _ z => z))
  refine obE hm fun mo hmo hm => ?_
  cases hin : instM mo with
  | some q =>
    obtain ⟨c, fs⟩ := q
    rw [hin] at hm
    rw [instM_eq hin] at hmo
    replace hm : (if (fs.lookup name).isSome then none else some (some c)) = some m := hm
    cases hlk : fs.lookup name with
    | some d => rw [hlk] at hm; cases hm
    | none =>
      rw [hlk] at hm
      cases hm
      obtain ⟨l', el', em⟩ := abs_get hmo
      rw [el] at el'; cases el'
      obtain ⟨Cc, es, n, hc, rf, I⟩ := at_inst st el em
      have hf := fields_find rf name
      rw [hlk] at hf
      have hf : getL name es = some none := hf
      have ck := B.cls c Cc hc
      have X : K.In h' := fun b o e => st.sub _ _ ((x0.trans k) _ _ (B.KI b o e))
      obtain ⟨ad, had⟩ := Option.isSome_iff_exists.mp (hC.dom _ _ _ _ h2)
      obtain ⟨hm1, hm2⟩ := B.mth c name ad Cc had hc
      refine wpAny_bind (wpAny_holding (method_fn X I (plainGet_of ck.get).1 (plainGet_of ck.get).2 hm1 (beq_iff_eq.mp hm2) (by show (lookIn name (dictOf es n)).map _ = _; rw [lookIn_dict, hf]; rfl) ?_))
      refine fin ?_
      refine sim_callWith (c := fun vs => C (.mth c name) (.p i :: vs)) hev hns h8 (x0.trans k) (F.mono k g) (fun h x => keeps_K (B.keep _ _ had) h fun b o e => x _ _ (B.KI b o e)) (fun vs ds Z2 S2 h2 tk2 k2 g2 rv => ?_) st b σ' (by rw [ptV_eq hi] at he; exact he)
      exact hC.sim (.mth c name) ad (.ref l.x :: vs) (.p i :: ds) Z2 S2 R _ A had rm ((x0.trans k).trans k2) (.cons (RV.mono (d := .p i) ⟨l, el, rfl⟩ k2 g2) rv)
  | none =>
    rw [hin] at hm
    refine obE (show (lstM mo).bind (fun _ => gd (name == ("append" : Str)) none) = some m from hm) fun xs hxs hm => ?_
    have hn := gdT hm
    rw [hn] at hm
    cases hm
    obtain rfl := eq_of_beq hn
    rw [lstM_eq hxs] at hmo
    obtain ⟨l', el', em⟩ := abs_get hmo
    rw [el] at el'; cases el'
    obtain ⟨vs, n, hob, rs⟩ := at_list st el em
    refine wpAny_bind (wpAny_holding (Calls.getMethod_list_append hob rfl rfl ?_))
    refine fin ?_
    refine sim_callWith (c := fun vs σ => appendD σ i vs) hev hns h8 (x0.trans k) (F.mono k g) (fun h x => ?_) (fun vs ds Z2 S2 h2 tk2 k2 g2 rv => ?_) st b σ' he
    · exact ⟨.machine, .inr (.inl rfl), Looks.of_pure (by rfl)⟩
    · obtain ⟨l2, el2, hx, hd⟩ := g2 i l el
      rw [← hx]
      exact sim_append el2 rv

theorem sim_fnCall {r : Nat} {C : Calls} (B : Bs prog w W K H0 G adr) (hC : CallsOk prog w W H0 adr r C) (rm : Room r A) (hev : EvOk prog w W H0 A sc env ρ R ev) (hns : NoStar ev) (x0 : Ext H0 Z) (F : FrameAt sc env ρ Z S R)
    {f : Str} {p pos : Pos} {args : List Expr} (h8 : args.length ≤ 8) (hsc : sc.lookup f = some .globalImplicit) (hb : badName f = false) :
    Sim (model prog w) W A (RelV R) Z S R s (eval (.Call (.Name f p) args [] pos) env) (fnE C ev f args) := by
  rw [arm_eval_Call_Name']
  intro st b σ' he
  obtain ⟨ds, σ₁, h1, h2⟩ := M.inv he
  obtain ⟨ad, had⟩ := Option.isSome_iff_exists.mp (hC.dom _ _ _ _ h2)
  refine wpAny_bind (wp_fn B x0 F st hsc hb had ?_)
  refine sim_callWith (c := fun vs => C (.fn f) vs) hev hns h8 x0 F (fun h x => keeps_K (B.keep _ _ had) h fun b o e => x _ _ (B.KI b o e)) (fun vs ds Z2 S2 h2 tk2 k2 g2 rv => ?_) st b σ' he
  exact hC.sim (.fn f) ad vs ds Z2 S2 R _ A had rm (x0.trans k2) rv

theorem sim_bltCall {n : Nat} (B : Bs prog w W K H0 G adr) (rm : Room n A) (hev : EvOk prog w W H0 A sc env ρ R ev) (hns : NoStar ev) (x0 : Ext H0 Z) (F : FrameAt sc env ρ Z S R)
    {f : Str} {p pos : Pos} {args : List Expr} (h8 : args.length ≤ 8) (hsc : sc.lookup f = some .globalImplicit) (hb : badName f = false) (hbn : builtinNames.contains f = true) :
    Sim (model prog w) W A (RelV R) Z S R s (eval (.Call (.Name f p) args [] pos) env) (bltE ev f args) := by
  rw [arm_eval_Call_Name']
  unfold bltE
  intro st b σ' he
  have hv : ∃ v, builtinVal f = some v := by
    have := List.contains_iff_mem.mp hbn
    simp only [builtinNames, List.mem_cons, List.not_mem_nil, or_false] at this
    rcases this with rfl | rfl | rfl | rfl | rfl | rfl | rfl | rfl <;> exact ⟨_, rfl⟩
  obtain ⟨fv, hv⟩ := hv
  refine wpAny_bind (wp_fixed B x0 F st hsc hb hv ?_)
  refine sim_callWith (c := fun vs => getσ (fun σ => builtinD σ f vs) >>= fun y => pure (.d y)) hev hns h8 x0 F (fun h x => keeper_builtin hv h) (fun vs ds Z2 S2 h2 tk2 k2 g2 rv => ?_) st b σ' he
  refine Sim.getσb fun y e => ?_
  intro st2 b2 σ2 he2
  cases he2
  exact sim_builtin st2 rv rm hv e

theorem sim_isiCall {n : Nat} (B : Bs prog w W K H0 G adr) (rm : Room n A) (hev : EvOk prog w W H0 A sc env ρ R ev) (hns : NoStar ev) (x0 : Ext H0 Z) (F : FrameAt sc env ρ Z S R)
    {p pos p2 : Pos} {e : Expr} {t : Str} (hsc : sc.lookup ("isinstance" : Str) = some .globalImplicit) (hst : sc.lookup t = some .globalImplicit) (hbt : badName t = false) :
    Sim (model prog w) W A (RelV R) Z S R s (eval (.Call (.Name "isinstance" p) [e, .Name t p2] [] pos) env) (do
      let v ← ev e
      let b ← ofO (isinstD v t)
      pure (.d (.bool b))) := by
  rw [arm_eval_Call_Name']
  intro st b σ' he
  have ht : ∃ tv, builtinVal t = some tv := M.on he fun d σ₁ _ h => M.onO h fun bb h30 _ => obE h30 fun x _ h30 => by
    by_cases q : (t == ("bool" : Str)) = true
    · obtain rfl := eq_of_beq q; exact ⟨_, rfl⟩
    · rw [if_neg q] at h30
      exact itE' h30 fun q _ => by obtain rfl := eq_of_beq q; exact ⟨_, rfl⟩
  have hne : ∀ e' p, e ≠ .Starred e' p := M.on he fun d σ₁ h1 _ e' p q => by subst q; rw [hns] at h1; cases h1
  obtain ⟨tv, htv⟩ := ht
  refine wp_any fun Q hQ => ?_
  refine wpAny_bind (wp_fixed B x0 F st hsc (by decide) (v := .builtin "isinstance") rfl ?_)
  refine callWith_of (P := fun _ => True) (by rw [starEach_plain hne]; rfl) (fun h _ => keeper_builtin (f := "isinstance") rfl h) ?_
  rw [starEach_plain hne]
  refine Calls.evalArgs_plain ?_
  show wpAny _ _ (spliced ((false, eval e env) :: (backTo pos (starEach [.Name t p2] env)))) _ _ _
  rw [spliced]
  simp only [Bool.false_eq_true, if_false]
  refine stpV he (hev e Z S s x0 F) st fun v d Z' S' h' tk k g he st' rv => M.onO he fun bb h30 he => ?_
  obtain ⟨rfl, rfl⟩ := pure_inv he
  refine wpAny_bind (wpAny_pure (wpAny_bind (wpAny_holding ?_)))
  rw [starEach_plain (e := .Name t p2) (fun _ _ q => Expr.noConfusion q)]
  show wpAny _ _ (spliced ((false, eval (.Name t p2) env) :: backTo pos (starEach [] env))) _ _ _
  rw [spliced]
  simp only [Bool.false_eq_true, if_false]
  have F' := F.mono k g
  refine wpAny_bind (wp_fixed B (x0.trans k) F' st' hst hbt htv ?_)
  refine wpAny_bind (wpAny_pure (wpAny_bind (wpAny_holding ?_)))
  show wpAny _ _ (spliced []) _ _ _
  rw [spliced]
  refine wpAny_pure (wpAny_pure (wpAny_pure ⟨trivial, ?_⟩))
  exact wpAny_mono (sim_isinst rm htv st' rv h30) (fun v s'' q => hQ _ _ (SimPost.trans q k g)) fun _ _ z => z
end
end Mine
end
section
open PySem PySem.W PyProof.Rows
set_option Elab.async false
set_option maxRecDepth 10000
namespace Mine

noncomputable abbrev CV := List (Str × Addr × Option Value)
noncomputable def frOwn (L : Addr) (m : Str → Option Value) (cv : CV) : Own := (L, NsP m) :: cv.map fun q => (q.2.1, CellP q.2.2)

structure FrameR (sc : Names) (env : Env) (ρ : Rho) (Z : Heap) (S : Sg) (m : Str → Option Value) (cv : CV) (R₀ : Own) : Prop where
  kind : env.scope.kind = .function
  glob : env.globals = mainGlobals
  blt : env.builtins = builtinsNs
  kr : KRel sc env
  nod : (cv.map (·.1)).Nodup
  own : ∀ x c v, (x, c, v) ∈ cv → env.cells.lookup x = some c
  cells : ∀ x, sc.lookup x = some .cell → ∃ c v, (x, c, v) ∈ cv
  loc : ∀ x d, ρ.lookup x = some d → sc.lookup x = some .local → ∃ v, m x = some v ∧ RV Z S v d
  cel : ∀ x d, ρ.lookup x = some d → sc.lookup x = some .cell → ∃ c v, (x, c, some v) ∈ cv ∧ RV Z S v d
  fre : ∀ x d, ρ.lookup x = some d → sc.lookup x = some .free → ∃ c v, env.cells.lookup x = some c ∧ (c, CellP (some v)) ∈ R₀ ∧ RV Z S v d

section
variable {sc : Names} {env : Env} {ρ : Rho} {Z Z' : Heap} {S S' : Sg} {m : Str → Option Value} {cv : CV} {R₀ R₁ : Own}
theorem FrameR.mono (F : FrameR sc env ρ Z S m cv R₀) (k : Ext Z Z') (g : Grow S S') : FrameR sc env ρ Z' S' m cv R₀ :=
  { F with
    loc := fun x d e q => let ⟨v, a, b⟩ := F.loc x d e q; ⟨v, a, b.mono k g⟩
    cel := fun x d e q => let ⟨c, v, a, b⟩ := F.cel x d e q; ⟨c, v, a, b.mono k g⟩
    fre := fun x d e q => let ⟨c, v, a, b, t⟩ := F.fre x d e q; ⟨c, v, a, b, t.mono k g⟩ }
theorem FrameR.sub (F : FrameR sc env ρ Z S m cv R₀) (k : ∀ p ∈ R₀, p ∈ R₁) : FrameR sc env ρ Z S m cv R₁ :=
  { F with fre := fun x d e q => let ⟨c, v, a, b, t⟩ := F.fre x d e q; ⟨c, v, a, k _ b, t⟩ }
theorem FrameR.at (F : FrameR sc env ρ Z S m cv R₀) : FrameAt sc env ρ Z S (frOwn env.locals m cv ++ R₀) where
  kind := F.kind
  glob := F.glob
  blt := F.blt
  kr := F.kr
  loc := ⟨m, .head _, F.loc⟩
  cel := fun x d e q => by
    rcases q with q | q
    · obtain ⟨c, v, a, b⟩ := F.cel x d e q
      refine ⟨c, v, F.own _ _ _ a, List.mem_append_left _ (List.mem_cons_of_mem _ (List.mem_map.mpr ⟨_, a, rfl⟩)), b⟩
    · obtain ⟨c, v, a, b, t⟩ := F.fre x d e q
      exact ⟨c, v, a, List.mem_append_right _ b, t⟩

theorem own_kind {x : Str} (h : (sc.lookup x).any isOwnK = true) : sc.lookup x = some .local ∨ sc.lookup x = some .cell := by
  cases q : sc.lookup x with
  | none => rw [q] at h; cases h
  | some k => rw [q] at h; cases k <;> first | exact .inl rfl | exact .inr rfl | cases h
theorem lookup_cons_ne {x y : Str} {d : Val} (h : y ≠ x) : List.lookup y ((x, d) :: ρ) = ρ.lookup y := by
  rw [List.lookup_cons, show (y == x) = false from by simpa using h]
theorem lookup_cons_self {x : Str} {d : Val} : List.lookup x ((x, d) :: ρ) = some d := by
  rw [List.lookup_cons, show (x == x) = true from by simp]

theorem lookup_filter_ne {x y : Str} (h : y ≠ x) : ∀ {ρ : Rho}, (ρ.filter fun q => q.1 != x).lookup y = ρ.lookup y
  | [] => rfl
  | (z, d) :: r => by
    have ih := lookup_filter_ne (x := x) h (ρ := r)
    rw [List.filter_cons]
    by_cases hz : z = x
    · subst hz
      rw [if_neg (by simp), ih, lookup_cons_ne h]
    · rw [if_pos (by simpa using hz), List.lookup_cons, List.lookup_cons, ih]
theorem lookup_bindR {x y : Str} {d : Val} : (bindR x d ρ).lookup y = List.lookup y ((x, d) :: ρ) := by
  unfold bindR
  by_cases h : y = x
  · subst h; rw [lookup_cons_self, lookup_cons_self]
  · rw [lookup_cons_ne h, lookup_cons_ne h, lookup_filter_ne h]

theorem FrameR.back {ρ' : Rho} (F : FrameR sc env ρ' Z S m cv R₀) (h : ∀ x d, ρ.lookup x = some d → ρ'.lookup x = some d) : FrameR sc env ρ Z S m cv R₀ :=
  { F with
    loc := fun x d e q => F.loc x d (h x d e) q
    cel := fun x d e q => F.cel x d (h x d e) q
    fre := fun x d e q => F.fre x d (h x d e) q }

theorem FrameR.setL (F : FrameR sc env ρ Z S m cv R₀) {x : Str} {v : Value} {d : Val} (hx : sc.lookup x = some .local) (r : RV Z S v d) : FrameR sc env ((x, d) :: ρ) Z S (fun y => if y = x then some v else m y) cv R₀ :=
  { F with
    loc := fun y e h q => by
      by_cases hy : y = x
      · subst hy; rw [lookup_cons_self] at h; cases h; exact ⟨v, if_pos rfl, r⟩
      · rw [lookup_cons_ne hy] at h
        obtain ⟨u, a, b⟩ := F.loc y e h q
        exact ⟨u, by rw [if_neg hy]; exact a, b⟩
    cel := fun y e h q => by
      have hy : y ≠ x := fun hy => by subst hy; rw [hx] at q; cases q
      rw [lookup_cons_ne hy] at h; exact F.cel y e h q
    fre := fun y e h q => by
      have hy : y ≠ x := fun hy => by subst hy; rw [hx] at q; cases q
      rw [lookup_cons_ne hy] at h; exact F.fre y e h q }
theorem FrameR.setC {pre post : CV} {x : Str} {c : Addr} {v₀ : Option Value} (F : FrameR sc env ρ Z S m (pre ++ (x, c, v₀) :: post) R₀) {v : Value} {d : Val} (hx : sc.lookup x = some .cell) (r : RV Z S v d) :
    FrameR sc env ((x, d) :: ρ) Z S m (pre ++ (x, c, some v) :: post) R₀ := by
  have hm : ∀ y c' v', y ≠ x → ((y, c', v') ∈ pre ++ (x, c, v₀) :: post ↔ (y, c', v') ∈ pre ++ (x, c, some v) :: post) := by
    intro y c' v' hy
    simp only [List.mem_append, List.mem_cons, Prod.mk.injEq, hy, false_and, false_or]
  exact { F with
    nod := by have := F.nod; simpa using this
    own := fun y c' v' h => by
      by_cases hy : y = x
      · subst hy
        have hc : c' = c := by
          have nd := F.nod
          simp only [List.map_append, List.map_cons] at nd
          rw [List.nodup_append] at nd
          obtain ⟨_, n2, n3⟩ := nd
          rw [List.nodup_cons] at n2
          rcases List.mem_append.mp h with h | h
          · exact absurd rfl (n3 y (List.mem_map.mpr ⟨_, h, rfl⟩) y (.head _))
          · rcases List.mem_cons.mp h with h | h
            · cases h; rfl
            · exact absurd (List.mem_map.mpr ⟨_, h, rfl⟩) n2.1
        subst hc
        exact F.own y c' v₀ (List.mem_append_right _ (.head _))
      · exact F.own y c' v' ((hm y c' v' hy).mpr h)
    cells := fun y q => by
      by_cases hy : y = x
      · subst hy; exact ⟨c, _, List.mem_append_right _ (.head _)⟩
      · obtain ⟨c', v', h⟩ := F.cells y q
        exact ⟨c', v', (hm y c' v' hy).mp h⟩
    loc := fun y e h q => by
      have hy : y ≠ x := fun hy => by subst hy; rw [hx] at q; cases q
      rw [lookup_cons_ne hy] at h; exact F.loc y e h q
    cel := fun y e h q => by
      by_cases hy : y = x
      · subst hy; rw [lookup_cons_self] at h; cases h; exact ⟨c, v, List.mem_append_right _ (.head _), r⟩
      · rw [lookup_cons_ne hy] at h
        obtain ⟨c', v', a, b⟩ := F.cel y e h q
        exact ⟨c', v', (hm y c' _ hy).mp a, b⟩
    fre := fun y e h q => by
      have hy : y ≠ x := fun hy => by subst hy; rw [hx] at q; cases q
      rw [lookup_cons_ne hy] at h; exact F.fre y e h q }
end

section
variable {prog : Program} {w : World} {W : Wd} {A : Around} {Z : Heap} {S : Sg} {R : Own} {s : Shared}

/-- one resource among others changes in place -/
theorem St.updIn {h h' : Heap} {a : Addr} {P P' : Obj → Prop} {O₁ O₂ : Own} (st : St Z (HR W Z S ++ (O₁ ++ (a, P) :: O₂)) h) (hs : Heap.SameBut a h h') (n : ∃ o, h'.get? a = some o ∧ P' o) :
    Up Z (fun Z' => HR W Z' S ++ (O₁ ++ (a, P') :: O₂)) h' fun _ => True := by
  have p1 : ∀ q : Addr × (Obj → Prop), (HR W Z S ++ (O₁ ++ q :: O₂)).Perm (q :: (HR W Z S ++ (O₁ ++ O₂))) := fun q => by
    have e : HR W Z S ++ (O₁ ++ q :: O₂) = (HR W Z S ++ O₁) ++ q :: O₂ := (List.append_assoc _ _ _).symm
    have e2 : HR W Z S ++ (O₁ ++ O₂) = (HR W Z S ++ O₁) ++ O₂ := (List.append_assoc _ _ _).symm
    rw [e, e2]
    exact List.perm_middle
  obtain ⟨Z', x, st', _⟩ := (st.perm (p1 _)).upd (P' := P') (fun b o hb e => (hs.2 b hb).trans e) n
  exact ⟨Z', x, St.mono (T := S) (st'.perm (p1 _).symm) x (Grow.refl _), trivial⟩

inductive StorePost (W : Wd) (sc : Names) (env : Env) (Rf R₀ : Own) (ρ' : Rho) (Z : Heap) (S : Sg) (s : Shared) (u : Unit) (s' : Shared) : Prop
  | mk (Z' : Heap) (m' : Str → Option Value) (cv' : CV) (h' : Heap) (tk : Nat) (e : s' = sh s h' tk) (x : Ext Z Z') (F : FrameR sc env ρ' Z' S m' cv' Rf) (st : St Z' (HR W Z' S ++ (frOwn env.locals m' cv' ++ R₀)) h') : StorePost W sc env Rf R₀ ρ' Z S s u s'

variable {sc : Names} {env : Env} {ρ ρ' : Rho} {m : Str → Option Value} {cv : CV} {Rf R₀ : Own}

theorem sim_store {x : Str} {v : Value} {d : Val} (hx : (sc.lookup x).any isOwnK = true) (F : FrameR sc env ρ Z S m cv Rf) (r : RV Z S v d) (st : St Z (HR W Z S ++ (frOwn env.locals m cv ++ R₀)) s.heap) :
    wpAny (model prog w) A (storeName env x v) (StorePost W sc env Rf R₀ ((x, d) :: ρ) Z S s) No s := by
  rcases own_kind hx with hx | hx
  · obtain ⟨k', hk, q⟩ := F.kr x _ hx
    obtain rfl : k' = .local := by rcases q with q | q; exact q.symm; exact nomatch q.1
    refine wpAny_storeName_local hk (NsP.ns (st.at (.head _))) (fun h' hn hs => ?_) (by rw [F.kind]; rfl)
    obtain ⟨Z', x', st', _⟩ := St.updIn (O₁ := []) (O₂ := cv.map (fun q => (q.2.1, CellP q.2.2)) ++ R₀) (P' := NsP fun y => if y = x then some v else m y) st hs (NsP.of hn)
    exact ⟨Z', _, cv, h', _, rfl, x', (F.setL hx r).mono x' (Grow.refl _), st'⟩
  · obtain ⟨k', hk, q⟩ := F.kr x _ hx
    obtain rfl : k' = .cell := by rcases q with q | q; exact q.symm; exact nomatch q.1
    obtain ⟨c, v₀, hm⟩ := F.cells x hx
    have hc := F.own _ _ _ hm
    obtain ⟨pre, post, rfl⟩ := List.append_of_mem hm
    have hcell : s.heap.IsCell c v₀ := by
      obtain ⟨o, a, b⟩ := st.at (a := c) (P := CellP v₀) (by unfold frOwn; simp)
      exact ⟨o, a, b⟩
    refine wpAny_storeName_cell F.kind hk hc hcell fun h' hn hs => ?_
    have e : ∀ u : Option Value, frOwn env.locals m (pre ++ (x, c, u) :: post) ++ R₀ = (frOwn env.locals m pre) ++ (c, CellP u) :: (post.map (fun q => (q.2.1, CellP q.2.2)) ++ R₀) := fun u => by
      unfold frOwn; simp
    rw [e] at st
    obtain ⟨Z', x', st', _⟩ := St.updIn (P' := CellP (some v)) st hs (let ⟨o, a, b⟩ := hn; ⟨o, a, b⟩)
    rw [← e] at st'
    exact ⟨Z', m, _, h', _, rfl, x', (F.setC hx r).mono x' (Grow.refl _), st'⟩

theorem sim_bindName {x : Str} {v : Value} {d : Val} (hx : (sc.lookup x).any isOwnK = true) (F : FrameR sc env ρ Z S m cv Rf) (r : RV Z S v d) (st : St Z (HR W Z S ++ (frOwn env.locals m cv ++ R₀)) s.heap) :
    wpAny (model prog w) A (bindName env x v) (StorePost W sc env Rf R₀ ((x, d) :: ρ) Z S s) No s := by
  unfold bindName
  refine wpAny_bind (wpAny_holding (wpAny_point ?_))
  exact wpAny_bind (wpAny_mono (sim_store hx F r st) (fun _ _ h => wpAny_point h) fun _ _ z => z)

theorem Store.back {s' : Shared} {ρ1 ρ2 : Rho} (h : ∀ x d, ρ2.lookup x = some d → ρ1.lookup x = some d) (p : StorePost W sc env Rf R₀ ρ1 Z S s () s') : StorePost W sc env Rf R₀ ρ2 Z S s () s' := by
  obtain ⟨Z2, m2, cv2, h2, tk2, e, x2, F2, st2⟩ := p
  exact ⟨Z2, m2, cv2, h2, tk2, e, x2, F2.back h, st2⟩
theorem sim_bindR {x : Str} {v : Value} {d : Val} (hx : (sc.lookup x).any isOwnK = true) (F : FrameR sc env ρ Z S m cv Rf) (r : RV Z S v d) (st : St Z (HR W Z S ++ (frOwn env.locals m cv ++ R₀)) s.heap) :
    wpAny (model prog w) A (bindName env x v) (StorePost W sc env Rf R₀ (bindR x d ρ) Z S s) No s :=
  wpAny_mono (sim_bindName hx F r st) (fun _ _ p => Store.back (fun y e h => by rw [← lookup_bindR]; exact h) p) fun _ _ z => z

theorem Store.trans {s' : Shared} {Z' : Heap} {h' : Heap} {tk : Nat} {ρ' : Rho} (x : Ext Z Z') (p : StorePost W sc env Rf R₀ ρ' Z' S (sh s h' tk) () s') : StorePost W sc env Rf R₀ ρ' Z S s () s' := by
  obtain ⟨Z2, m2, cv2, h2, tk2, rfl, x2, F2, st2⟩ := p
  exact ⟨Z2, m2, cv2, h2, tk2, rfl, x.trans x2, F2, st2⟩

theorem stpStore {Md : Model} {γ : Type} {t : Sem Unit} {k : Unit → Sem γ} {Q : γ → Shared → Prop} (h : wpAny Md A t (StorePost W sc env Rf R₀ ρ' Z S s) No s)
    (g : ∀ Z' m' cv' h' tk, Ext Z Z' → FrameR sc env ρ' Z' S m' cv' Rf → St Z' (HR W Z' S ++ (frOwn env.locals m' cv' ++ R₀)) h' → wpAny Md A (k ()) Q No (sh s h' tk)) : wpAny Md A (t >>= k) Q No s :=
  wb h fun _ s' p => by obtain ⟨Z', m', cv', h', tk, rfl, x, F, st⟩ := p; exact g Z' m' cv' h' tk x F st
theorem sim_bindN {t : Expr} {d : Val} {v : Value} (h : bindN sc t d ρ = some ρ') (F : FrameR sc env ρ Z S m cv Rf) (r : RV Z S v d) (st : St Z (HR W Z S ++ (frOwn env.locals m cv ++ R₀)) s.heap) : wpAny (model prog w) A (assign t env v) (StorePost W sc env Rf R₀ ρ' Z S s) No s :=
  bindNE h fun _ _ hx => wpAny_bind (wpAny_standAt (sim_bindR hx F r st))
theorem each_one {ts : List Expr} {t : Expr} {v : Val} {ρ ρ' : Rho} (h : bindV sc t v ρ = some ρ') : assignEach (t :: ts) env = (false, assign t env) :: assignEach ts env := by
  cases t <;> first | rfl | (refine obE h fun x _ h => ?_; cases h)
theorem bindN_V {t : Expr} {v : Val} {ρ ρ' : Rho} (h : bindN sc t v ρ = some ρ') : bindV sc t v ρ = some ρ' := by cases t <;> first | exact h | cases h
theorem each_no_star : ∀ (ts : List Expr) (xs : List PyData) (ρ ρ' : Rho), bindDs sc ts xs ρ = some ρ' → ts.length = xs.length ∧ assignEach ts env = ts.map fun t => (false, assign t env) := by
  intro ts
  induction ts with
  | nil => intro xs ρ ρ' h; rw [(bindDs0 h).1]; exact ⟨rfl, rfl⟩
  | cons t ts ih =>
    intro xs ρ ρ' h
    refine bindDsE (P := fun xs => (t :: ts).length = xs.length ∧ _) h fun x r ρ₁ h1 h2 => ?_
    obtain ⟨a, b⟩ := ih r ρ₁ ρ' h2
    exact ⟨by rw [List.length_cons, List.length_cons, a], by rw [each_one (bindN_V h1), b]; rfl⟩
theorem sim_bindDs : ∀ (ts : List Expr) (xs : List PyData) (ρ ρ' : Rho), bindDs sc ts xs ρ = some ρ' → ∀ (vs : List Value) (Z : Heap) (s : Shared) (m : Str → Option Value) (cv : CV), FrameR sc env ρ Z S m cv Rf → RDs Z vs xs →
    St Z (HR W Z S ++ (frOwn env.locals m cv ++ R₀)) s.heap → wpAny (model prog w) A (assignInOrder (ts.map fun t => assign t env) vs) (StorePost W sc env Rf R₀ ρ' Z S s) No s := by
  intro ts
  induction ts with
  | nil =>
    intro xs ρ ρ' h vs Z s m cv F r st
    obtain ⟨rfl, rfl⟩ := bindDs0 h
    exact wpAny_pure ⟨Z, m, cv, s.heap, s.toks, rfl, Ext.refl _, F, st⟩
  | cons t ts ih =>
    intro xs ρ ρ' h vs Z s m cv F r st
    refine bindDsE (P := fun xs => RDs Z vs xs → _) h (fun x xs ρ₁ h1 h2 r => ?_) r
    obtain ⟨v, vs, rfl, a, b⟩ := r.uncons'
    rw [List.map_cons, show ∀ t x ts xs, assignInOrder (t :: ts) (x :: xs) = (holding xs (t x) >>= fun _ => assignInOrder ts xs) from fun _ _ _ _ => rfl]
    refine stpStore (wpAny_holding (sim_bindN h1 F (d := .d x) a st)) fun Z' m' cv' h' tk x' F' st' => ?_
    exact wpAny_mono (ih xs ρ₁ ρ' h2 vs Z' _ m' cv' F' (b.ext x') st') (fun _ _ p => Store.trans x' p) fun _ _ z => z
theorem sim_bindD (hh : A.handled = none) (t : Expr) (x : PyData) (ρ ρ' : Rho) (h : bindD sc t x ρ = some ρ') (v : Value) (Z : Heap) (s : Shared) (m : Str → Option Value) (cv : CV) (F : FrameR sc env ρ Z S m cv Rf) (r : RD Z v x)
    (st : St Z (HR W Z S ++ (frOwn env.locals m cv ++ R₀)) s.heap) : wpAny (model prog w) A (assign t env v) (StorePost W sc env Rf R₀ ρ' Z S s) No s := by
  refine bindDE (P := fun t x ρ' => RD Z v x → wpAny (model prog w) A (assign t env v) (StorePost W sc env Rf R₀ ρ' Z S s) No s) h (fun n p hx r => wpAny_bind (wpAny_standAt (sim_bindR hx F (d := .d x) r st))) (fun ts c p xs h r => ?_) r
  refine RD.tupE r fun a vs n g q => ?_
  obtain ⟨hl, he⟩ := each_no_star (env := env) ts xs ρ ρ' h
  show wpAny _ _ (standAt p >>= fun _ => unpack (.ref a) (assignEach ts env)) _ _ _
  rw [he]
  refine wpAny_bind (wpAny_standAt (wpAny_unpack_tuple hh (isTuple_of (st.sub _ _ g)) (by rw [List.length_map, hl, size_of q]) ?_ fun h' hx => ?_))
  · rw [List.findIdx?_eq_none_iff]; simp
  · obtain ⟨Z', x', st', _⟩ := st.grow (h' := h') fun b o e => hx b o (Nat.ne_of_lt (Heap.lt_size e)) e
    rw [List.map_map]
    exact wpAny_mono (sim_bindDs ts xs ρ ρ' h vs.toList Z' { s with heap := h' } m cv (F.mono x' (Grow.refl _)) (q.ext x') (St.mono (T := S) st' x' (Grow.refl _))) (fun _ _ p => Store.trans (tk := s.toks) x' p) fun _ _ z => z

theorem sim_bindV (hh : A.handled = none) {t : Expr} {d : Val} {v : Value} (h : bindV sc t d ρ = some ρ') (F : FrameR sc env ρ Z S m cv Rf) (r : RV Z S v d) (st : St Z (HR W Z S ++ (frOwn env.locals m cv ++ R₀)) s.heap) :
    wpAny (model prog w) A (assign t env v) (StorePost W sc env Rf R₀ ρ' Z S s) No s :=
  bindVE (P := fun t d ρ' => RV Z S v d → wpAny (model prog w) A (assign t env v) (StorePost W sc env Rf R₀ ρ' Z S s) No s) h (fun n p hx r => wpAny_bind (wpAny_standAt (sim_bindR hx F r st))) (fun x h r => sim_bindD hh _ _ _ _ h v Z s m cv F r st) r
end
end Mine
end
section
open PySem PySem.W PyProof.Rows
set_option Elab.async false
set_option maxRecDepth 10000
namespace Mine

section
variable {prog : Program} {w : World} {A : Around} {E : Value → Shared → Prop} {s : Shared}

theorem nextOf_tup {it t : Addr} {i : Nat} {items : Array Value} {x : Value} {Q : Value → Shared → Prop} (hit : s.heap.IsTupleIter it t i) (ht : s.heap.IsTuple t items) (hx : items[i]? = some x)
    (hQ : ∀ h', h'.IsTupleIter it t (i + 1) → Heap.SameBut it s.heap h' → Q x { s with heap := h' }) : wpAny (model prog w) A (Builtin.SmallTypes.nextOf (.ref it)) Q E s := by
  obtain ⟨o, ho, hc, hd⟩ := id hit
  obtain ⟨ol, hol, _, nl, hdl⟩ := ht
  unfold Builtin.SmallTypes.nextOf
  refine wpAny_bind (wpAny_callSpecial?_slot (name := Str.ofString "__next__") hit.typeIs F.slot_tuple_iterator_next
    (wpAny_call_entry F.slot_tuple_iterator_next hit.typeIs F.entry_tuple_iterator_next ?_ (F.args_tuple_iterator_next_1 _)))
  show wpAny _ _ (field (.ref it) 0 >>= _) _ _ s
  refine wpAny_bind (wpAny_field ho hd (x := .ref t) rfl ?_)
  show wpAny _ _ (if (Value.ref t == Value.none) = true then _ else _) _ _ s
  rw [if_neg (show ¬ ((Value.ref t == Value.none) = true) from Bool.false_ne_true)]
  show wpAny _ _ (field (.ref it) 1 >>= _) _ _ s
  refine wpAny_bind (wpAny_field ho hd (x := .int i 0) rfl ?_)
  show wpAny _ _ (seqItems? (.ref t) >>= _) _ _ s
  refine wpAny_bind (wpAny_seqItems hol hdl ?_)
  simp only [Int.toNat_natCast, hx]
  refine wpAny_bind (wpAny_setField ho hd (by simp) (wpAny_pure ⟨x, rfl, wpAny_pure (hQ _ ?_ (Heap.SameBut.update ..))⟩))
  exact ⟨_, Heap.get?_update_self _ ho (Obj.isFreed_of_fields (Obj.data_mapFields hd _)), (Obj.cls_mapFields ..).trans hc, by
    rw [Obj.data_mapFields hd]; simp [rawInt]⟩

theorem nextOf_tup_end {it t : Addr} {i : Nat} {items : Array Value} {Q : Value → Shared → Prop} (hh : A.handled = none) (hit : s.heap.IsTupleIter it t i) (ht : s.heap.IsTuple t items) (hx : items[i]? = none)
    (hE : ∀ h' e, Heap.ExtBut it s.heap h' → (∃ o, h'.get? e = some o ∧ o.cls = .type "StopIteration") → E (.ref e) { s with heap := h' }) :
    wpAny (model prog w) A (Builtin.SmallTypes.nextOf (.ref it)) Q E s := by
  obtain ⟨o, ho, hc, hd⟩ := id hit
  obtain ⟨ol, hol, _, nl, hdl⟩ := ht
  unfold Builtin.SmallTypes.nextOf
  refine wpAny_bind (wpAny_callSpecial?_slot (name := Str.ofString "__next__") hit.typeIs F.slot_tuple_iterator_next
    (wpAny_call_entry F.slot_tuple_iterator_next hit.typeIs F.entry_tuple_iterator_next ?_ (F.args_tuple_iterator_next_1 _)))
  show wpAny _ _ (field (.ref it) 0 >>= _) _ _ s
  refine wpAny_bind (wpAny_field ho hd (x := .ref t) rfl ?_)
  show wpAny _ _ (if (Value.ref t == Value.none) = true then _ else _) _ _ s
  rw [if_neg (show ¬ ((Value.ref t == Value.none) = true) from Bool.false_ne_true)]
  show wpAny _ _ (field (.ref it) 1 >>= _) _ _ s
  refine wpAny_bind (wpAny_field ho hd (x := .int i 0) rfl ?_)
  show wpAny _ _ (seqItems? (.ref t) >>= _) _ _ s
  refine wpAny_bind (wpAny_seqItems hol hdl ?_)
  simp only [Int.toNat_natCast, hx]
  refine wpAny_bind (wpAny_rule (wpAny_bind (wpAny_setField ho hd (by simp) ?_)))
  show wpAny _ _ (newExc (.type "StopIteration") [] >>= _) _ _ _
  refine wpAny_bind ?_
  simp only [newExc, newTuple]
  refine wpAny_bind (wpAny_newObj_type ?_ (by size_fits))
  refine wpAny_bind (m := firstArgMember _ _) (wpAny_of_eq (a := Value.none) (by first | rfl | (simp only [firstArgMember]; rfl)) ?_)
  refine wpAny_newObj_type ?_ (by size_fits)
  refine wpAny_bind (wpAny_handled ?_)
  first | rw [show A.in1.handled = none from hh] | rw [hh]
  refine wpAny_bind (wpAny_pure (wpAny_throw ?_))
  exact hE _ _ (((Heap.SameBut.update ..).extBut.push _).push _) ⟨_, Heap.get?_push_size _ rfl, rfl⟩
end

theorem drawsTuple {prog : Program} {w : World} {A : Around} (hh : A.handled = none) (it l : Addr) (hne : l ≠ it) (items : Array Value) :
    Draws prog w A it [it, l] items.size (fun i v => items[i]? = some v) (fun i h => h.IsTupleIter it l i ∧ h.IsTuple l items) where
  live := fun _ _ st => let ⟨o, ho, _⟩ := st.1; ⟨o, ho⟩
  frame := fun _ _ _ st hk => ⟨st.1.at fun o e => hk it (by simp) o e, st.2.at fun o e => hk l (by simp) o e⟩
  item := fun i s Q E hi st hQ => by
    refine nextOf_tup st.1 st.2 (x := items[i]) (by simp [hi]) fun h' hit' hs' => ?_
    exact hQ _ h' s.toks (by simp [hi]) ⟨hit', st.2.extBut hs'.extBut hne⟩ hs'
  done := fun s Q E st hE => nextOf_tup_end hh st.1 st.2 (by simp) hE

structure ZAp (z TI TO i1 i2 : Addr) (fp1 fp2 : List Addr) : Prop where
  TIz : TI ≠ z
  TOz : TO ≠ z
  i1z : i1 ≠ z
  i2z : i2 ≠ z
  TOi1 : TO ≠ i1
  TOi2 : TO ≠ i2
  i12 : i1 ≠ i2
  z1 : z ∉ fp1
  z2 : z ∉ fp2
  t1 : TO ∉ fp1
  t2 : TO ∉ fp2
  i1f : i2 ∉ fp1
  i2f : i1 ∉ fp2

section
variable {prog : Program} {w : World} {A : Around} {E : Value → Shared → Prop} {s : Shared}

theorem zip_item {z TI TO i1 i2 : Addr} {fp1 fp2 : List Addr} {n1 n2 k : Nat} {P1 P2 : Nat → Value → Prop} {St1 St2 : Nat → Heap → Prop} {a b : Value} {Q : Value → Shared → Prop} (D : ZAp z TI TO i1 i2 fp1 fp2)
    (D1 : Draws prog w A i1 fp1 n1 P1 St1) (D2 : Draws prog w A i2 fp2 n2 P2 St2)
    (hz : IsZip s.heap z TI TO .none) (hTI : IsPair s.heap TI (.ref i1) (.ref i2)) (hTO : IsPair s.heap TO a b) (h1 : St1 k s.heap) (h2 : St2 k s.heap) (k1 : k < n1) (k2 : k < n2)
    (hQ : ∀ x y h' tk, P1 k x → P2 k y → IsZip h' z TI TO (rawInt s.heap.objs.size) → IsPair h' TO x y → St1 (k + 1) h' → St2 (k + 1) h' → IsPair h' s.heap.objs.size x y →
      (∀ c o, c ≠ z → c ≠ TO → c ≠ i1 → c ≠ i2 → s.heap.get? c = some o → h'.get? c = some o) → Q (.ref s.heap.objs.size) (sh s h' tk)) :
    wpAny (model prog w) A (Builtin.«zip.__next__» ⟨[.ref z], []⟩) (fun fin s' => ∃ v, fin = .done (.ret v) ∧ Q v s') E s := by
  obtain ⟨hp, g, d, tk₀, os⟩ := s
  show wpAny _ _ (field (.ref z) 2 >>= _) _ _ _
  refine wpAny_bind (wpAny_field hz rfl (x := .bool false) rfl ?_)
  show wpAny _ _ (field (.ref z) 3 >>= _) _ _ _
  refine wpAny_bind (wpAny_field hz rfl (x := .ref TI) rfl ?_)
  refine wpAny_bind (wpAny_seqItems hTI rfl ?_)
  show wpAny _ _ (Builtin.SmallTypes.ownedTupleIsFree (.ref z) >>= _) _ _ _
  refine wpAny_bind ?_
  unfold Builtin.SmallTypes.ownedTupleIsFree
  refine wpAny_bind (wpAny_field hz rfl (x := .none) rfl (wpAny_pure ?_))
  simp only [if_true]
  refine wpAny_bind (wpAny_rule ?_)
  refine wpAny_bind (wpAny_field hz rfl (x := .ref TO) rfl ?_)
  refine wpAny_bind (wpAny_setField_rec hz (by simp) fun h₁ hz₁ hs₁ => ?_)
  replace hz₁ : IsZip h₁ z TI TO .ellipsis := hz₁
  replace hs₁ : Heap.SameBut z hp h₁ := hs₁
  refine wpAny_bind ?_
  simp only [List.zipIdx_cons, List.zipIdx_nil, List.forIn_cons, List.forIn_nil]
  have h1₁ : St1 k h₁ := D1.frame _ _ _ h1 fun c hc o e => hs₁.extBut _ _ (fun q => D.z1 (q ▸ hc)) e
  have h2₁ : St2 k h₁ := D2.frame _ _ _ h2 fun c hc o e => hs₁.extBut _ _ (fun q => D.z2 (q ▸ hc)) e
  refine wpAny_bind (wpAny_bind (wpAny_onRaise ?_))
  show wpAny _ _ (Builtin.SmallTypes.nextOf (.ref i1) >>= _) _ _ _
  refine wpAny_bind (D1.item k _ _ _ k1 h1₁ fun x h₂ tk₂ hx h1₂ hs₂ => wpAny_pure ?_)
  replace hs₂ : Heap.SameBut i1 h₁ h₂ := hs₂
  have h2₂ : St2 k h₂ := D2.frame _ _ _ h2₁ fun c hc o e => hs₂.extBut _ _ (fun q => D.i2f (q ▸ hc)) e
  have hTO₂ : IsPair h₂ TO a b := hs₂.extBut _ _ D.TOi1 (hs₁.extBut _ _ D.TOz hTO)
  refine wpAny_bind (wpAny_seqItems hTO₂ rfl ?_)
  refine wpAny_bind (wpAny_updateSeq_pair hTO₂ fun h₃ hTO₃ hs₃ => ?_)
  replace hs₃ : Heap.SameBut TO h₂ h₃ := hs₃
  replace hTO₃ : IsPair h₃ TO x b := hTO₃
  have h1₃ : St1 (k + 1) h₃ := D1.frame _ _ _ h1₂ fun c hc o e => hs₃.extBut _ _ (fun q => D.t1 (q ▸ hc)) e
  have h2₃ : St2 k h₃ := D2.frame _ _ _ h2₂ fun c hc o e => hs₃.extBut _ _ (fun q => D.t2 (q ▸ hc)) e
  refine wpAny_bind (wpAny_letGo (wpAny_pure ?_))
  refine wpAny_bind (wpAny_bind (wpAny_onRaise ?_))
  show wpAny _ _ (Builtin.SmallTypes.nextOf (.ref i2) >>= _) _ _ _
  refine wpAny_bind (D2.item k _ _ _ k2 h2₃ fun y h₄ tk₄ hy h2₄ hs₄ => wpAny_pure ?_)
  replace hs₄ : Heap.SameBut i2 h₃ h₄ := hs₄
  have h1₄ : St1 (k + 1) h₄ := D1.frame _ _ _ h1₃ fun c hc o e => hs₄.extBut _ _ (fun q => D.i1f (q ▸ hc)) e
  have hTO₄ : IsPair h₄ TO x b := hs₄.extBut _ _ D.TOi2 hTO₃
  refine wpAny_bind (wpAny_seqItems hTO₄ rfl ?_)
  refine wpAny_bind (wpAny_updateSeq_pair hTO₄ fun h₅ hTO₅ hs₅ => ?_)
  replace hs₅ : Heap.SameBut TO h₄ h₅ := hs₅
  replace hTO₅ : IsPair h₅ TO x y := hTO₅
  have h1₅ : St1 (k + 1) h₅ := D1.frame _ _ _ h1₄ fun c hc o e => hs₅.extBut _ _ (fun q => D.t1 (q ▸ hc)) e
  have h2₅ : St2 (k + 1) h₅ := D2.frame _ _ _ h2₄ fun c hc o e => hs₅.extBut _ _ (fun q => D.t2 (q ▸ hc)) e
  refine wpAny_bind (wpAny_letGo (wpAny_pure (wpAny_pure ?_)))
  refine wpAny_bind (wpAny_seqItems hTO₅ rfl ?_)
  refine wpAny_bind (wpAny_newTuple ?_)
  have hsz : h₅.objs.size = hp.objs.size := by rw [hs₅.1, hs₄.1, hs₃.1, hs₂.1, hs₁.1]
  have hz₅ : IsZip h₅ z TI TO .ellipsis := hs₅.extBut _ _ D.TOz.symm (hs₄.extBut _ _ D.i2z.symm (hs₃.extBut _ _ D.TOz.symm (hs₂.extBut _ _ D.i1z.symm hz₁)))
  have hk₅ : ∀ c o, c ≠ z → c ≠ TO → c ≠ i1 → c ≠ i2 → hp.get? c = some o → h₅.get? c = some o := fun c o c1 c2 c3 c4 e =>
    hs₅.extBut _ _ c2 (hs₄.extBut _ _ c4 (hs₃.extBut _ _ c2 (hs₂.extBut _ _ c3 (hs₁.extBut _ _ c1 e))))
  have hzlt : z < h₅.objs.size := Heap.lt_size hz₅
  show wpAny _ _ (Builtin.SmallTypes.ownedTupleHandOut (.ref z) (.ref h₅.objs.size) >>= _) _ _ _
  refine wpAny_bind ?_
  unfold Builtin.SmallTypes.ownedTupleHandOut
  have hz₆ : IsZip (h₅.push { cls := .type "tuple", data := .seq #[x, y] }) z TI TO .ellipsis := Heap.get?_push_of_some _ hz₅
  refine wpAny_bind (wpAny_setField_rec hz₆ (by simp) fun h₇ hz₇ hs₇ => ?_)
  replace hz₇ : IsZip h₇ z TI TO (rawInt h₅.objs.size) := hz₇
  refine wpAny_setField_rec hz₇ (by simp) fun h₈ hz₈ hs₈ => ?_
  replace hz₈ : IsZip h₈ z TI TO (rawInt h₅.objs.size) := hz₈
  have up : ∀ c o, c ≠ z → h₅.get? c = some o → h₈.get? c = some o := fun c o c1 e => hs₈.extBut _ _ c1 (hs₇.extBut _ _ c1 (Heap.get?_push_of_some _ e))
  have hT₈ : IsPair h₈ h₅.objs.size x y := hs₈.extBut _ _ (Nat.ne_of_gt hzlt) (hs₇.extBut _ _ (Nat.ne_of_gt hzlt) (Heap.get?_push_size _ rfl))
  rw [hsz] at hz₈ hT₈
  refine wpAny_pure ⟨_, rfl, ?_⟩
  show Q (.ref h₅.objs.size) _
  rw [hsz]
  exact hQ x y h₈ tk₄ hx hy hz₈ (up _ _ D.TOz hTO₅) (D1.frame _ _ _ h1₅ fun c hc o e => up _ o (fun q => D.z1 (q ▸ hc)) e) (D2.frame _ _ _ h2₅ fun c hc o e => up _ o (fun q => D.z2 (q ▸ hc)) e) hT₈ fun c o c1 c2 c3 c4 e => up c o c1 (hk₅ c o c1 c2 c3 c4 e)

theorem zip_end {z TI TO i1 i2 : Addr} {fp1 fp2 : List Addr} {n1 n2 k : Nat} {P1 P2 : Nat → Value → Prop} {St1 St2 : Nat → Heap → Prop} {a b : Value} {Q : Fin → Shared → Prop} (D : ZAp z TI TO i1 i2 fp1 fp2)
    (D1 : Draws prog w A i1 fp1 n1 P1 St1) (D2 : Draws prog w A i2 fp2 n2 P2 St2)
    (hz : IsZip s.heap z TI TO .none) (hTI : IsPair s.heap TI (.ref i1) (.ref i2)) (hTO : IsPair s.heap TO a b) (h1 : St1 k s.heap) (h2 : St2 k s.heap) (hk1 : k ≤ n1) (hend : k = n1 ∨ k = n2)
    (hE : ∀ h' e tk, (∀ c o, c ≠ z → c ≠ TO → c ≠ i1 → c ≠ i2 → s.heap.get? c = some o → h'.get? c = some o) → (∃ o, h'.get? e = some o ∧ o.cls = .type "StopIteration") → E (.ref e) (sh s h' tk)) :
    wpAny (model prog w) A (Builtin.«zip.__next__» ⟨[.ref z], []⟩) Q E s := by
  obtain ⟨hp, g, d, tk₀, os⟩ := s
  show wpAny _ _ (field (.ref z) 2 >>= _) _ _ _
  refine wpAny_bind (wpAny_field hz rfl (x := .bool false) rfl ?_)
  show wpAny _ _ (field (.ref z) 3 >>= _) _ _ _
  refine wpAny_bind (wpAny_field hz rfl (x := .ref TI) rfl ?_)
  refine wpAny_bind (wpAny_seqItems hTI rfl ?_)
  show wpAny _ _ (Builtin.SmallTypes.ownedTupleIsFree (.ref z) >>= _) _ _ _
  refine wpAny_bind ?_
  unfold Builtin.SmallTypes.ownedTupleIsFree
  refine wpAny_bind (wpAny_field hz rfl (x := .none) rfl (wpAny_pure ?_))
  simp only [if_true]
  refine wpAny_bind (wpAny_rule ?_)
  refine wpAny_bind (wpAny_field hz rfl (x := .ref TO) rfl ?_)
  refine wpAny_bind (wpAny_setField_rec hz (by simp) fun h₁ hz₁ hs₁ => ?_)
  replace hz₁ : IsZip h₁ z TI TO .ellipsis := hz₁
  replace hs₁ : Heap.SameBut z hp h₁ := hs₁
  refine wpAny_bind ?_
  simp only [List.zipIdx_cons, List.zipIdx_nil, List.forIn_cons, List.forIn_nil]
  have h1₁ : St1 k h₁ := D1.frame _ _ _ h1 fun c hc o e => hs₁.extBut _ _ (fun q => D.z1 (q ▸ hc)) e
  have h2₁ : St2 k h₁ := D2.frame _ _ _ h2 fun c hc o e => hs₁.extBut _ _ (fun q => D.z2 (q ▸ hc)) e
  refine wpAny_bind (wpAny_bind (wpAny_onRaise ?_))
  show wpAny _ _ (Builtin.SmallTypes.nextOf (.ref i1) >>= _) _ _ _
  by_cases hk : k = n1
  · subst hk
    refine wpAny_bind (D1.done _ _ _ h1₁ fun h₂ e hs₂ he => ?_)
    obtain ⟨oe, hoe, hce⟩ := he
    have hz₂ : IsZip h₂ z TI TO .ellipsis := hs₂ _ _ D.i1z.symm hz₁
    have hez : e ≠ z := fun x => by subst x; rw [hz₂] at hoe; cases hoe; simp at hce
    refine wpAny_setField_rec hz₂ (by simp) fun h₃ _ hs₃ => hE h₃ e tk₀ (fun c o c1 _ c3 _ x => hs₃.extBut _ _ c1 (hs₂ _ _ c3 (hs₁.extBut _ _ c1 x))) ⟨oe, hs₃.extBut _ _ hez hoe, hce⟩
  · have hk2 : k = n2 := hend.resolve_left hk
    subst hk2
    refine wpAny_bind (D1.item k _ _ _ (by (first | lia | omega)) h1₁ fun x h₂ tk₂ hx h1₂ hs₂ => wpAny_pure ?_)
    replace hs₂ : Heap.SameBut i1 h₁ h₂ := hs₂
    have h2₂ : St2 k h₂ := D2.frame _ _ _ h2₁ fun c hc o e => hs₂.extBut _ _ (fun q => D.i2f (q ▸ hc)) e
    have hTO₂ : IsPair h₂ TO a b := hs₂.extBut _ _ D.TOi1 (hs₁.extBut _ _ D.TOz hTO)
    refine wpAny_bind (wpAny_seqItems hTO₂ rfl ?_)
    refine wpAny_bind (wpAny_updateSeq_pair hTO₂ fun h₃ hTO₃ hs₃ => ?_)
    replace hs₃ : Heap.SameBut TO h₂ h₃ := hs₃
    have h2₃ : St2 k h₃ := D2.frame _ _ _ h2₂ fun c hc o e => hs₃.extBut _ _ (fun q => D.t2 (q ▸ hc)) e
    refine wpAny_bind (wpAny_letGo (wpAny_pure ?_))
    refine wpAny_bind (wpAny_bind (wpAny_onRaise ?_))
    show wpAny _ _ (Builtin.SmallTypes.nextOf (.ref i2) >>= _) _ _ _
    refine wpAny_bind (D2.done _ _ _ h2₃ fun h₄ e hs₄ he => ?_)
    obtain ⟨oe, hoe, hce⟩ := he
    have hz₄ : IsZip h₄ z TI TO .ellipsis := hs₄ _ _ D.i2z.symm (hs₃.extBut _ _ D.TOz.symm (hs₂.extBut _ _ D.i1z.symm hz₁))
    have hez : e ≠ z := fun x => by subst x; rw [hz₄] at hoe; cases hoe; simp at hce
    refine wpAny_setField_rec hz₄ (by simp) fun h₅ _ hs₅ => hE h₅ e tk₂ (fun c o c1 c2 c3 c4 x => hs₅.extBut _ _ c1 (hs₄ _ _ c4 (hs₃.extBut _ _ c2 (hs₂.extBut _ _ c3 (hs₁.extBut _ _ c1 x))))) ⟨oe, hs₅.extBut _ _ hez hoe, hce⟩

theorem next_zip {z TI TO i1 i2 : Addr} {fp1 fp2 : List Addr} {n1 n2 k : Nat} {P1 P2 : Nat → Value → Prop} {St1 St2 : Nat → Heap → Prop} {a b : Value} {Q : Option Value → Shared → Prop} (D : ZAp z TI TO i1 i2 fp1 fp2)
    (D1 : Draws prog w A.in1 i1 fp1 n1 P1 St1) (D2 : Draws prog w A.in1 i2 fp2 n2 P2 St2)
    (hz : IsZip s.heap z TI TO .none) (hTI : IsPair s.heap TI (.ref i1) (.ref i2)) (hTO : IsPair s.heap TO a b) (h1 : St1 k s.heap) (h2 : St2 k s.heap) (k1 : k < n1) (k2 : k < n2)
    (hQ : ∀ x y h' tk, P1 k x → P2 k y → IsZip h' z TI TO (rawInt s.heap.objs.size) → IsPair h' TO x y → St1 (k + 1) h' → St2 (k + 1) h' → IsPair h' s.heap.objs.size x y →
      (∀ c o, c ≠ z → c ≠ TO → c ≠ i1 → c ≠ i2 → s.heap.get? c = some o → h'.get? c = some o) → Q (some (.ref s.heap.objs.size)) (sh s h' tk)) :
    wpAny (model prog w) A (pyNext (.ref z)) Q E s := by
  have hT : s.TypeIs (.ref z) "zip" := ⟨_, hz, rfl⟩
  unfold pyNext
  exact wpAny_bind (wpAny_attempt (wpAny_callSpecial?_slot (name := Str.ofString "__next__") hT F.slot_zip_next
    (wpAny_call_entry F.slot_zip_next hT F.entry_zip_next
      (zip_item D D1 D2 hz hTI hTO h1 h2 k1 k2 fun x y h' tk a1 a2 a3 a4 a5 a6 a7 a8 => wpAny_pure (hQ x y h' tk a1 a2 a3 a4 a5 a6 a7 a8)) (F.args_zip_next_1 _))))

theorem next_zip_end {z TI TO i1 i2 : Addr} {fp1 fp2 : List Addr} {n1 n2 k : Nat} {P1 P2 : Nat → Value → Prop} {St1 St2 : Nat → Heap → Prop} {a b : Value} {Q : Option Value → Shared → Prop} (D : ZAp z TI TO i1 i2 fp1 fp2)
    (D1 : Draws prog w A.in1 i1 fp1 n1 P1 St1) (D2 : Draws prog w A.in1 i2 fp2 n2 P2 St2)
    (hz : IsZip s.heap z TI TO .none) (hTI : IsPair s.heap TI (.ref i1) (.ref i2)) (hTO : IsPair s.heap TO a b) (h1 : St1 k s.heap) (h2 : St2 k s.heap) (hk1 : k ≤ n1) (hend : k = n1 ∨ k = n2)
    (hQ : ∀ h' tk, (∀ c o, c ≠ z → c ≠ TO → c ≠ i1 → c ≠ i2 → s.heap.get? c = some o → h'.get? c = some o) → Q none (sh s h' tk)) : wpAny (model prog w) A (pyNext (.ref z)) Q E s := by
  have hT : s.TypeIs (.ref z) "zip" := ⟨_, hz, rfl⟩
  unfold pyNext
  refine wpAny_bind (wpAny_attempt (wpAny_callSpecial?_slot (name := Str.ofString "__next__") hT F.slot_zip_next
    (wpAny_call_entry F.slot_zip_next hT F.entry_zip_next (zip_end D D1 D2 hz hTI hTO h1 h2 hk1 hend fun h' e tk hk he => ?_) (F.args_zip_next_1 _))))
  obtain ⟨o, ho, hc⟩ := he
  refine wpAny_bind (wpAny_isInstance (T := "StopIteration") (b := true) ⟨o, ho, hc⟩ isSubtype_stop ?_)
  exact wpAny_pure (hQ _ _ hk)
end
end Mine
end
section
open PySem PySem.W PyProof.Rows
set_option Elab.async false
set_option maxRecDepth 100000
namespace Mine

noncomputable abbrev itOf (c : String) (l : Addr) : Obj := { cls := .type c, data := .fields #[.ref l, .int 0 0] }
noncomputable abbrev zA (c1 : String) (h : Heap) (l1 : Addr) : Heap := h.push (itOf c1 l1)
noncomputable abbrev zB (c1 c2 : String) (h : Heap) (l1 l2 : Addr) : Heap := (zA c1 h l1).push (itOf c2 l2)
noncomputable abbrev zC (c1 c2 : String) (h : Heap) (l1 l2 : Addr) : Heap := (zB c1 c2 h l1 l2).push { cls := .type "tuple", data := .seq #[.ref h.objs.size, .ref (zA c1 h l1).objs.size] }
noncomputable abbrev zD (c1 c2 : String) (h : Heap) (l1 l2 : Addr) : Heap := (zC c1 c2 h l1 l2).push { cls := .type "tuple", data := .seq #[.none, .none] }
noncomputable abbrev zE (c1 c2 : String) (h : Heap) (l1 l2 : Addr) : Heap := (zD c1 c2 h l1 l2).push { cls := .type "zip", data := .fields #[.none, .bool false, .bool false, .ref (zB c1 c2 h l1 l2).objs.size, .ref (zC c1 c2 h l1 l2).objs.size] }

theorem meets_zip_lt (l1 l2 : Addr) (xs ys : Array Value) :
    Meets (Builtin.«zip.__new__» ⟨[.type "zip", .ref l1, .ref l2], []⟩) (fun _ R s => s.heap.IsList l1 xs ∧ s.heap.IsTuple l2 ys ∧
      R (.ok (.ret (.ref (zD "list_iterator" "tuple_iterator" s.heap l1 l2).objs.size))) { s with heap := zE "list_iterator" "tuple_iterator" s.heap l1 l2 }) :=
  .of_wp fun prog w A R s h => by
    obtain ⟨hp, g, d, tk, os⟩ := s; obtain ⟨hl1, hl2, h⟩ := h
    have hsub := sub_zip
    have hL1 : Heap.IsList (Shared.heap ⟨hp, g, d, tk, os⟩) l1 xs := hl1
    have hL2 : Heap.IsTuple (Shared.heap ⟨hp.push (itOf "list_iterator" l1), g, d, tk, os⟩) l2 ys := Heap.IsTuple.push hl2 _
    wp_walk using wpAny_pyIter_list hL1, wpAny_pyIter_tuple hL2
    exact ⟨_, rfl, h⟩
theorem meets_zip_tt (l1 l2 : Addr) (xs ys : Array Value) :
    Meets (Builtin.«zip.__new__» ⟨[.type "zip", .ref l1, .ref l2], []⟩) (fun _ R s => s.heap.IsTuple l1 xs ∧ s.heap.IsTuple l2 ys ∧
      R (.ok (.ret (.ref (zD "tuple_iterator" "tuple_iterator" s.heap l1 l2).objs.size))) { s with heap := zE "tuple_iterator" "tuple_iterator" s.heap l1 l2 }) :=
  .of_wp fun prog w A R s h => by
    obtain ⟨hp, g, d, tk, os⟩ := s; obtain ⟨hl1, hl2, h⟩ := h
    have hsub := sub_zip
    have hL1 : Heap.IsTuple (Shared.heap ⟨hp, g, d, tk, os⟩) l1 xs := hl1
    have hL2 : Heap.IsTuple (Shared.heap ⟨hp.push (itOf "tuple_iterator" l1), g, d, tk, os⟩) l2 ys := Heap.IsTuple.push hl2 _
    wp_walk using wpAny_pyIter_tuple hL1, wpAny_pyIter_tuple hL2
    exact ⟨_, rfl, h⟩

section
variable {prog : Program} {w : World} {A : Around} {E : Value → Shared → Prop} {s : Shared}

structure ZNew (c1 c2 : String) (h h' : Heap) (l1 l2 : Addr) : Prop where
  z : IsZip h' (h.objs.size + 4) (h.objs.size + 2) (h.objs.size + 3) .none
  ti : IsPair h' (h.objs.size + 2) (.ref h.objs.size) (.ref (h.objs.size + 1))
  to : IsPair h' (h.objs.size + 3) .none .none
  i1 : h'.get? h.objs.size = some (itOf c1 l1)
  i2 : h'.get? (h.objs.size + 1) = some (itOf c2 l2)
  keep : ∀ c o, h.get? c = some o → h'.get? c = some o

theorem zNew (c1 c2 : String) (h : Heap) (l1 l2 : Addr) : ZNew c1 c2 h (zE c1 c2 h l1 l2) l1 l2 ∧ (zD c1 c2 h l1 l2).objs.size = h.objs.size + 4 := by
  have z1 : (zA c1 h l1).objs.size = h.objs.size + 1 := Heap.size_push ..
  have z2 : (zB c1 c2 h l1 l2).objs.size = h.objs.size + 2 := by rw [Heap.size_push, z1]
  have z3 : (zC c1 c2 h l1 l2).objs.size = h.objs.size + 3 := by rw [Heap.size_push, z2]
  have z4 : (zD c1 c2 h l1 l2).objs.size = h.objs.size + 4 := by rw [Heap.size_push, z3]
  have g5 : (zE c1 c2 h l1 l2).get? (zD c1 c2 h l1 l2).objs.size = some _ := Heap.get?_push_size _ rfl
  have g4 : (zE c1 c2 h l1 l2).get? (zC c1 c2 h l1 l2).objs.size = some _ := Heap.get?_push_of_some _ (Heap.get?_push_size _ rfl)
  have g3 : (zE c1 c2 h l1 l2).get? (zB c1 c2 h l1 l2).objs.size = some _ := Heap.get?_push_of_some _ (Heap.get?_push_of_some _ (Heap.get?_push_size _ rfl))
  have g2 : (zE c1 c2 h l1 l2).get? (zA c1 h l1).objs.size = some _ := Heap.get?_push_of_some _ (Heap.get?_push_of_some _ (Heap.get?_push_of_some _ (Heap.get?_push_size _ rfl)))
  have g1 : (zE c1 c2 h l1 l2).get? h.objs.size = some _ := Heap.get?_push_of_some _ (Heap.get?_push_of_some _ (Heap.get?_push_of_some _ (Heap.get?_push_of_some _ (Heap.get?_push_size _ rfl))))
  rw [z2, z3, z4] at g5
  rw [z1, z2] at g3
  rw [z3] at g4
  rw [z1] at g2
  exact ⟨⟨g5, g3, g4, g1, g2, fun c o x => Heap.get?_push_of_some _ (Heap.get?_push_of_some _ (Heap.get?_push_of_some _ (Heap.get?_push_of_some _ (Heap.get?_push_of_some _ x))))⟩, z4⟩

theorem call_zip_lt {l1 l2 : Addr} {xs ys : Array Value} {Q : Value → Shared → Prop} (hl1 : s.heap.IsList l1 xs) (hl2 : s.heap.IsTuple l2 ys)
    (h : ∀ h', ZNew "list_iterator" "tuple_iterator" s.heap h' l1 l2 → Q (.ref (s.heap.objs.size + 4)) { s with heap := h' }) : wpAny (model prog w) A (call (.type "zip") [.ref l1, .ref l2]) Q E s := by
  obtain ⟨N, z4⟩ := zNew "list_iterator" "tuple_iterator" s.heap l1 l2
  refine callType_new F.called_zip (by decide) (F.typeCall_zip_2 _ _) (F.newCall_zip_2 _ _) (fun obj => F.args_object_init_3 obj _ _) F.entry_zip_new (meets_zip_lt l1 l2 xs ys) ⟨hl1, hl2, ?_⟩
  show _ ∧ _
  rw [z4]
  exact ⟨⟨_, N.z, rfl⟩, h _ N⟩
theorem call_zip_tt {l1 l2 : Addr} {xs ys : Array Value} {Q : Value → Shared → Prop} (hl1 : s.heap.IsTuple l1 xs) (hl2 : s.heap.IsTuple l2 ys)
    (h : ∀ h', ZNew "tuple_iterator" "tuple_iterator" s.heap h' l1 l2 → Q (.ref (s.heap.objs.size + 4)) { s with heap := h' }) : wpAny (model prog w) A (call (.type "zip") [.ref l1, .ref l2]) Q E s := by
  obtain ⟨N, z4⟩ := zNew "tuple_iterator" "tuple_iterator" s.heap l1 l2
  refine callType_new F.called_zip (by decide) (F.typeCall_zip_2 _ _) (F.newCall_zip_2 _ _) (fun obj => F.args_object_init_3 obj _ _) F.entry_zip_new (meets_zip_tt l1 l2 xs ys) ⟨hl1, hl2, ?_⟩
  show _ ∧ _
  rw [z4]
  exact ⟨⟨_, N.z, rfl⟩, h _ N⟩
end
end Mine
end
section
open PySem PySem.W PyProof.Rows
set_option Elab.async false
set_option maxRecDepth 10000
namespace Mine

noncomputable def LI (c : String) (l : Addr) (k : Nat) (o : Obj) : Prop := o.cls = .type c ∧ o.data = .fields #[.ref l, .int k 0]

section
variable {prog : Program} {w : World} {W : Wd} {K : Frag} {H0 : Heap} {G : Str → Option PyData} {adr : Callee → Option Addr} {A : Around} {Z : Heap} {S : Sg} {R : Own} {s : Shared} {sc : Names} {env : Env} {ρ : Rho} {ev : Expr → M Val}

theorem perm_in (H I R : Own) : (H ++ (I ++ R)).Perm (I ++ (H ++ R)) := by
  rw [← List.append_assoc, ← List.append_assoc]
  exact List.Perm.append_right R List.perm_append_comm

theorem St.iter {h h' : Heap} {I I' : Own} (st : St Z (HR W Z S ++ (I ++ R)) h) (k : ∀ b o, b ∉ I.map (·.1) → h.get? b = some o → h'.get? b = some o) (n : ∀ p ∈ I', ∃ o, h'.get? p.1 = some o ∧ p.2 o)
    (nd : (I'.map (·.1)).Nodup) (ap : ∀ p ∈ I', p.1 ∈ I.map (·.1) ∨ h.get? p.1 = none) :
    Up Z (fun Z' => HR W Z' S ++ (I' ++ R)) h' fun Z' => ∀ b o, h'.get? b = some o → h.get? b = none → b ∉ I'.map (·.1) → Z'.get? b = some o := by
  obtain ⟨Z', x, st', f⟩ := St.step (O₁' := I') (st.perm (perm_in _ _ _)) k n nd ap
  refine ⟨Z', x, St.mono (T := S) (st'.perm (perm_in _ _ _).symm) x (Grow.refl _), fun b o e hn hm => f b o e fun hb => ?_⟩
  rw [List.map_append, List.mem_append] at hb
  rcases hb with hb | hb
  · exact hm hb
  · obtain ⟨p, hp, rfl⟩ := List.mem_map.mp hb
    obtain ⟨_, o', e', _⟩ := (st.perm (perm_in _ _ _)).own p (List.mem_append_right _ hp)
    rw [hn] at e'; cases e'

noncomputable def InR (src : Src) (k : Nat) : Prop := ∀ xs, src = .fix xs → k ≤ xs.length
theorem InR.zero {src : Src} : InR src 0 := fun _ _ => Nat.zero_le _
theorem InR.succ {src : Src} {k : Nat} {σ : List MO} {x : PyData} (h : src.at σ k = some (some x)) : InR src (k + 1) := fun xs e => by
  subst e
  cases h2 : xs[k]? with
  | none => rw [show (Src.fix xs).at σ k = some xs[k]? from rfl, h2] at h; cases h
  | some y =>
    rcases Nat.lt_or_ge k xs.length with hl | hl
    · exact hl
    · rw [List.getElem?_eq_none hl] at h2; cases h2

inductive NxE (W : Wd) (R : Own) (Z : Heap) (S : Sg) (s s' : Shared) : Prop
  | mk (Z' : Heap) (h' : Heap) (tk : Nat) (e : s' = sh s h' tk) (x : Ext Z Z') (st : St Z' (HR W Z' S ++ R) h') : NxE W R Z S s s'
inductive NxI (W : Wd) (R : Own) (x : PyData) (v : Value) (Z : Heap) (S : Sg) (s s' : Shared) : Prop
  | mk (Z' : Heap) (h' : Heap) (tk : Nat) (e : s' = sh s h' tk) (k : Ext Z Z') (r : RD Z' v x) (st : St Z' (HR W Z' S ++ R) h') : NxI W R x v Z S s s'
noncomputable def NextOk (prog : Program) (w : World) (W : Wd) (t : Expr) (src : Src) (it : Value) (I : Nat → Own) (Z0 : Heap) (S0 : Sg) : Prop :=
  ∀ A k Z S R s r, A.handled = none → Ext Z0 Z → Grow S0 S → InR src k → src.at (abs S) k = some r → St Z (HR W Z S ++ (I k ++ R)) s.heap →
    wpAny (model prog w) A (pyNext it) (fun o s' => match r with
      | none => o = none ∧ NxE W R Z S s s'
      | some x => ∃ v, o = some v ∧ wpAny (model prog w) A (letOwnedTupleGo t it v) (fun _ s'' => NxI W (I (k + 1) ++ R) x v Z S s s'') No s') No s

noncomputable def SelfOk (prog : Program) (w : World) (W : Wd) (it : Value) (I : Nat → Own) : Prop :=
  ∀ A k Z S R s (Q : Value → Shared → Prop) (E : Value → Shared → Prop), St Z (HR W Z S ++ (I k ++ R)) s.heap → Q it s → wpAny (model prog w) A (pyIter it) Q E s

inductive IterPost (prog : Program) (w : World) (W : Wd) (R : Own) (t : Expr) (s : Shared) (Z : Heap) (S : Sg) (src : Src) (σ' : List MO) (it : Value) (s₂ : Shared) : Prop
  | mk (Z' : Heap) (S' : Sg) (I : Nat → Own) (h' : Heap) (tk : Nat) (e : s₂ = sh s h' tk) (x : Ext Z Z') (g : Grow S S') (q : abs S' = σ') (st : St Z' (HR W Z' S' ++ (I 0 ++ R)) h') (n : NextOk prog w W t src it I Z' S') (o : SelfOk prog w W it I) : IterPost prog w W R t s Z S src σ' it s₂

noncomputable def RelHead (prog : Program) (w : World) (W : Wd) (t : Expr) (R : Own) (Z : Heap) (S : Sg) (R' : Own) (v : Value) (src : Src) : Prop :=
  ∀ A s, A.handled = none → St Z (HR W Z S ++ R') s.heap → wpAny (model prog w) A (pyIter v) (IterPost prog w W R t s Z S src (abs S)) No s

noncomputable abbrev owned : List String := ["enumerate", "zip", "dict_itemiterator", "dict_reverseitemiterator", "odict_iterator", "itertools.zip_longest", "itertools.pairwise"]
theorem go_other {Md : Model} {t : Expr} {it : Addr} {v : Value} {o : Obj} {c : String} {vs : Array Value} {Q : Unit → Shared → Prop} {E : Value → Shared → Prop} (ho : s.heap.get? it = some o) (hc : o.cls = .type c) (hd : o.data = .fields vs)
    (hn : owned.contains c = false) (h : Q () s) : wpAny Md A (letOwnedTupleGo t (.ref it) v) Q E s := by
  have body : ∀ a : Addr, wpAny Md A (do
      let o ← load it
      match o.cls, o.data with
      | .type n, .fields vs =>
        if owned.contains n && vs[0]? == some (rawInt a) then
          rule "for.unpacks-the-owned-tuple"
          updateField it 0 .none
      | _, _ => pure ()) Q E s := by
    intro a
    refine wpAny_bind (wpAny_load ho ?_)
    rw [hc, hd]
    show wpAny _ _ (if (owned.contains c && vs[0]? == some (rawInt a)) = true then _ else _) _ _ _
    rw [hn, Bool.false_and, if_neg (by decide)]
    exact wpAny_pure h
  unfold letOwnedTupleGo
  cases t <;> first
    | exact wpAny_pure h
    | (cases v <;> first
        | exact body _
        | exact wpAny_pure h)

noncomputable def AtIs (Z : Heap) (vs : Array Value) (k : Nat) (r : Option PyData) : Prop := match r with
  | none => vs[k]? = none
  | some x => ∃ v, vs[k]? = some v ∧ RD Z v x
/-- a list, whatever it holds now -/
noncomputable def SrcL (W : Wd) (src : Src) (l : Addr) (Z0 : Heap) (S0 : Sg) : Prop :=
  ∀ Z S R h k r, Ext Z0 Z → Grow S0 S → src.at (abs S) k = some r → St Z (HR W Z S ++ R) h → ∃ vs n, h.get? l = some (listOf vs n) ∧ AtIs Z vs k r
noncomputable def SrcT (src : Src) (l : Addr) (Z0 : Heap) : Prop :=
  ∃ vs n xs, Z0.get? l = some (tupOf vs n) ∧ src = .fix xs ∧ RDs Z0 vs.toList xs

theorem at_fix {xs : List PyData} {σ : List MO} {k : Nat} {r : Option PyData} (h : (Src.fix xs).at σ k = some r) : xs[k]? = r := by cases h; rfl
theorem rds_at {vs : Array Value} {xs : List PyData} {k : Nat} {r : Option PyData} (q : RDs Z vs.toList xs) (h : xs[k]? = r) : AtIs Z vs k r := by
  cases r with
  | none =>
    have h1 := List.getElem?_eq_none_iff.mp h
    exact Array.getElem?_eq_none (by rw [size_of q]; exact h1)
  | some x =>
    obtain ⟨v, a, b⟩ := q.get h
    exact ⟨v, by rw [← Array.getElem?_toList]; exact a, b⟩

theorem next_list {t : Expr} {src : Src} {it l : Addr} {Z0 : Heap} {S0 : Sg} (hs : SrcL W src l Z0 S0) : NextOk prog w W t src (.ref it) (fun k => [(it, LI "list_iterator" l k)]) Z0 S0 := by
  intro A k Z S R s r hh x0 g0 hin ha st
  obtain ⟨vs, n, hl, hr⟩ := hs Z S _ s.heap k r x0 g0 ha st
  obtain ⟨o, ho, hc, hd⟩ := (st.perm (perm_in _ _ _)).own _ (.head _) |>.2
  have hit : s.heap.IsListIter it l k := ⟨o, ho, hc, hd⟩
  cases r with
  | none =>
    refine wpAny_pyNext_list_end hh hit (isList_of hl) hr fun h' hx => ⟨rfl, ?_⟩
    obtain ⟨Z', x, st', _⟩ := St.iter (I' := []) (h' := h') st (fun b o hb e => hx b o (by simpa using hb) e) (fun _ h => nomatch h) List.nodup_nil (fun _ h => nomatch h)
    exact ⟨Z', h', s.toks, rfl, x, st'⟩
  | some y =>
    obtain ⟨v, hv, rv⟩ := hr
    refine wpAny_pyNext_list_item hit (isList_of hl) hv fun h' hit' hsb => ⟨v, rfl, ?_⟩
    obtain ⟨o', ho', hc', hd'⟩ := hit'
    refine go_other ho' hc' hd' (by decide) ?_
    obtain ⟨Z', x, st', _⟩ := St.iter (I' := [(it, LI "list_iterator" l (k + 1))]) (h' := h') st (fun b o hb e => (hsb.2 b (by simpa using hb)).trans e) (fun p hp => by rw [List.mem_singleton.mp hp]; exact ⟨o', ho', hc', hd'⟩) (by simp)
      (fun p hp => by rw [List.mem_singleton.mp hp]; exact .inl (by simp))
    exact ⟨Z', h', s.toks, rfl, x, rv.ext x, st'⟩

theorem self_list {it l : Addr} : SelfOk prog w W (.ref it) (fun k => [(it, LI "list_iterator" l k)]) := fun A k Z S R s Q E st hq => by
  obtain ⟨o, ho, hc, hd⟩ := (st.perm (perm_in _ _ _)).own _ (.head _) |>.2
  exact wpAny_pyIter_listiter ⟨o, ho, hc, hd⟩ hq

theorem next_tuple {t : Expr} {src : Src} {it l : Addr} {Z0 : Heap} {S0 : Sg} (hs : SrcT src l Z0) : NextOk prog w W t src (.ref it) (fun k => [(it, LI "tuple_iterator" l k)]) Z0 S0 := by
  intro A k Z S R s r hh x0 g0 hin ha st
  obtain ⟨vs, n, xs, hl, rfl, q⟩ := hs
  have hr := rds_at (q.ext x0) (at_fix ha)
  have hl : s.heap.get? l = some (tupOf vs n) := st.sub _ _ (x0 _ _ hl)
  obtain ⟨o, ho, hc, hd⟩ := (st.perm (perm_in _ _ _)).own _ (.head _) |>.2
  have hit : s.heap.IsTupleIter it l k := ⟨o, ho, hc, hd⟩
  cases r with
  | none =>
    refine wpAny_pyNext_tuple_end hh hit (isTuple_of hl) hr fun h' hx => ⟨rfl, ?_⟩
    obtain ⟨Z', x, st', _⟩ := St.iter (I' := []) (h' := h') st (fun b o hb e => hx b o (by simpa using hb) e) (fun _ h => nomatch h) List.nodup_nil (fun _ h => nomatch h)
    exact ⟨Z', h', s.toks, rfl, x, st'⟩
  | some y =>
    obtain ⟨v, hv, rv⟩ := hr
    refine wpAny_pyNext_tuple_item hit (isTuple_of hl) hv fun h' hit' hsb => ⟨v, rfl, ?_⟩
    obtain ⟨o', ho', hc', hd'⟩ := hit'
    refine go_other ho' hc' hd' (by decide) ?_
    obtain ⟨Z', x, st', _⟩ := St.iter (I' := [(it, LI "tuple_iterator" l (k + 1))]) (h' := h') st (fun b o hb e => (hsb.2 b (by simpa using hb)).trans e) (fun p hp => by rw [List.mem_singleton.mp hp]; exact ⟨o', ho', hc', hd'⟩) (by simp)
      (fun p hp => by rw [List.mem_singleton.mp hp]; exact .inl (by simp))
    exact ⟨Z', h', s.toks, rfl, x, rv.ext x, st'⟩

theorem self_tuple {it l : Addr} : SelfOk prog w W (.ref it) (fun k => [(it, LI "tuple_iterator" l k)]) := fun A k Z S R s Q E st hq => by
  obtain ⟨o, ho, hc, hd⟩ := (st.perm (perm_in _ _ _)).own _ (.head _) |>.2
  exact wpAny_pyIter_tupleiter ⟨o, ho, hc, hd⟩ hq

/-- a new iterator over a list or a tuple -/
theorem head_list {t : Expr} {src : Src} {l : Addr} (hs : SrcL W src l Z S) (hget : ∀ h R, St Z (HR W Z S ++ R) h → ∃ vs n, h.get? l = some (listOf vs n)) : RelHead prog w W t R Z S R (.ref l) src := by
  intro A s hh st
  obtain ⟨vs, n, hl⟩ := hget _ _ st
  refine wpAny_pyIter_list (isList_of hl) ?_
  obtain ⟨Z', x, st', _⟩ := St.iter (I := []) (I' := [(s.heap.objs.size, LI "list_iterator" l 0)]) (h' := s.heap.push { cls := .type "list_iterator", data := .fields #[.ref l, .int 0 0] }) st (fun b o _ e => Heap.get?_push_of_some _ e)
    (fun p hp => by rw [List.mem_singleton.mp hp]; exact ⟨_, Heap.get?_push_size _ rfl, rfl, rfl⟩) (by simp) (fun p hp => by rw [List.mem_singleton.mp hp]; exact .inr (get_size _))
  refine ⟨Z', S, fun k => [(s.heap.objs.size, LI "list_iterator" l k)], _, s.toks, rfl, x, Grow.refl _, rfl, st', next_list ?_, self_list⟩
  exact fun Z2 S2 R2 h2 k2 r2 a b => hs Z2 S2 R2 h2 k2 r2 (x.trans a) b
theorem head_tuple {t : Expr} {src : Src} {l : Addr} (hs : SrcT src l Z) : RelHead prog w W t R Z S R (.ref l) src := by
  intro A s hh st
  obtain ⟨vs, n, xs, hl, rfl, q⟩ := hs
  refine wpAny_pyIter_tuple (isTuple_of (st.sub _ _ hl)) ?_
  obtain ⟨Z', x, st', _⟩ := St.iter (I := []) (I' := [(s.heap.objs.size, LI "tuple_iterator" l 0)]) (h' := s.heap.push { cls := .type "tuple_iterator", data := .fields #[.ref l, .int 0 0] }) st (fun b o _ e => Heap.get?_push_of_some _ e)
    (fun p hp => by rw [List.mem_singleton.mp hp]; exact ⟨_, Heap.get?_push_size _ rfl, rfl, rfl⟩) (by simp) (fun p hp => by rw [List.mem_singleton.mp hp]; exact .inr (get_size _))
  exact ⟨Z', S, fun k => [(s.heap.objs.size, LI "tuple_iterator" l k)], _, s.toks, rfl, x, Grow.refl _, rfl, st', next_tuple ⟨vs, n, xs, x _ _ hl, rfl, q.ext x⟩, self_tuple⟩

theorem head_iterOf {t : Expr} {src : Src} {v : Value} {d : Val} (r : RV Z S v d) (e : iterOf (abs S) d = some src) : RelHead prog w W t R Z S R v src := by
  unfold iterOf at e
  cases hp : ptV d with
  | some i =>
    rw [hp] at e
    rw [ptV_eq hp] at r
    refine obE e fun m hm e => obE e fun xs0 hx0 e => ?_
    cases e
    rw [lstM_eq hx0] at hm
    obtain ⟨l, el, rfl⟩ := r
    obtain ⟨l', el', em⟩ := abs_get hm
    rw [el] at el'; cases el'
    refine head_list (fun Z2 S2 R2 h2 k2 r2 a b c st => ?_) fun h R st => (let ⟨vs, n, a, _⟩ := at_list st el em; ⟨vs, n, a⟩)
    obtain ⟨l2, el2, hx, _⟩ := b i l el
    rw [← hx]
    refine obE c fun m2 hi2 c => obE c fun xs hxs c => ?_
    rw [lstM_eq hxs] at hi2
    obtain ⟨l3, el3, em3⟩ := abs_get hi2
    rw [el2] at el3; cases el3
    obtain ⟨vs, n, g, q⟩ := at_list st el2 em3
    exact ⟨vs, n, g, rds_at q (Option.some.inj c)⟩
  | none =>
    rw [hp] at e
    refine obE e fun x hx e => obE e fun xs hxs e => gdE e fun _ => ?_
    rw [data_eq hx] at r
    rcases itemsOf_eq hxs with rfl | rfl
    · refine RD.lstE (show RD Z v (.list xs) from r) fun l vs n g q => ?_
      exact head_list (fun Z2 S2 R2 h2 k2 r2 a b c st => ⟨vs, n, st.sub _ _ (a _ _ g), rds_at (q.ext a) (at_fix c)⟩) fun h R st => ⟨vs, n, st.sub _ _ g⟩
    · refine RD.tupE (show RD Z v (.tuple xs) from r) fun l vs n g q => ?_
      exact head_tuple ⟨vs, n, xs, g, rfl, q⟩


/- range -/
theorem upI_get (a n k : Nat) : (upI a n)[k]? = if k < n then some ((a : Int) + k) else none := by
  unfold upI
  rw [List.getElem?_map]
  split
  · rename_i h; rw [List.getElem?_range h]; rfl
  · rename_i h; rw [List.getElem?_eq_none (by rw [List.length_range]; omega)]; rfl

noncomputable abbrev rIt (x left : Int) : Obj := { cls := .type "range_iterator", dict := none, data := .fields #[rawInt x, rawInt left, rawInt 1], slots := #[] }
theorem next_range {t : Expr} {a n : Nat} {it : Addr} {Z0 : Heap} {S0 : Sg} : NextOk prog w W t (.fix ((upI a n).map .int)) (.ref it) (fun k => [(it, fun o => o = rIt ((a : Int) + k) ((n : Int) - k))]) Z0 S0 := by
  intro A k Z S R s r hh x0 g0 hin ha st
  have hr := at_fix ha
  rw [List.getElem?_map, upI_get] at hr
  obtain ⟨o, ho, rfl⟩ := (st.perm (perm_in _ _ _)).own _ (.head _) |>.2
  split at hr
  · rename_i hk
    subst hr
    refine wpAny_pyNext_range_item ho (by (first | lia | omega)) fun h' hit' hsb => ⟨_, rfl, ?_⟩
    refine go_other hit' rfl rfl (by decide) ?_
    obtain ⟨Z', x, st', _⟩ := St.iter (I' := [(it, fun o => o = rIt ((a : Int) + (k + 1 : Nat)) ((n : Int) - (k + 1 : Nat)))]) (h' := h') st (fun b o hb e => (hsb.2 b (by simpa using hb)).trans e)
      (fun p hp => by
        rw [List.mem_singleton.mp hp]
        have e1 : (a : Int) + k + 1 = (a : Int) + (k + 1 : Nat) := by (first | lia | omega)
        have e2 : (n : Int) - k - 1 = (n : Int) - (k + 1 : Nat) := by (first | lia | omega)
        rw [e1, e2] at hit'
        exact ⟨_, hit', rfl⟩) (by simp)
      (fun p hp => by rw [List.mem_singleton.mp hp]; exact .inl (by simp))
    exact ⟨Z', h', _, rfl, x, .int _ _, st'⟩
  · rename_i hk
    subst hr
    refine wpAny_pyNext_range_end hh ho (by (first | lia | omega)) fun h' hx => ⟨rfl, ?_⟩
    obtain ⟨Z', x, st', _⟩ := St.iter (I' := []) (h' := h') st (fun b o hb e => hx b o (by simpa using hb) e) (fun _ h => nomatch h) List.nodup_nil (fun _ h => nomatch h)
    exact ⟨Z', h', s.toks, rfl, x, st'⟩
end

section
variable {Md : Model} {W : Wd} {A : Around} {α β γ δ : Type} {Rel : Heap → Sg → Own → α → β → Prop} {Z : Heap} {S : Sg} {R : Own} {s : Shared} {t : Sem α} {k : α → Sem γ} {Q : γ → Shared → Prop} {P : α → Shared → Prop} {s2 : Shared}
theorem wpNext {prog : Program} {w : World} {t : Expr} {src : Src} {it : Value} {I : Nat → Own} {Z0 : Heap} {S0 : Sg} {n : Nat} {r : Option PyData} {Q : Option Value → Shared → Prop} {E : Value → Shared → Prop} (hN : NextOk prog w W t src it I Z0 S0) (hh : A.handled = none) (xz : Ext Z0 Z) (gz : Grow S0 S) (hin : InR src n) (hat : src.at (abs S) n = some r)
    (st : St Z (HR W Z S ++ (I n ++ R)) s.heap) (h0 : r = none → ∀ Z' h' tk, Ext Z Z' → St Z' (HR W Z' S ++ R) h' → Q none (sh s h' tk))
    (h1 : ∀ x v s2, r = some x → wpAny (model prog w) A (letOwnedTupleGo t it v) (fun _ s'' => NxI W (I (n + 1) ++ R) x v Z S s s'') No s2 → Q (some v) s2) : wpAny (model prog w) A (pyNext it) Q E s := by
  refine wpAny_mono (hN A n Z S R s r hh xz gz hin hat st) (fun o s2 p => ?_) fun _ _ z => z.elim
  cases r with
  | none => obtain ⟨rfl, Z4, h4, tk4, rfl, x4, st4⟩ := p; exact h0 rfl Z4 h4 tk4 x4 st4
  | some x => obtain ⟨v, rfl, p⟩ := p; exact h1 x v s2 rfl p
theorem stpGo {x : PyData} {v : Value} {t : Sem Unit} {k : Unit → Sem γ} (p : wpAny Md A t (fun _ s'' => NxI W R x v Z S s s'') No s2) (h : ∀ Z' h' tk, Ext Z Z' → RD Z' v x → St Z' (HR W Z' S ++ R) h' → wpAny Md A (k ()) Q No (sh s h' tk)) : wpAny Md A (t >>= k) Q No s2 :=
  wb p fun _ s3 q => by obtain ⟨Z4, h4, tk4, rfl, x4, rv, st4⟩ := q; exact h Z4 h4 tk4 x4 rv st4
theorem stpIter {prog : Program} {w : World} {t : Expr} {src : Src} {v : Value} {k : Value → Sem γ} {R' : Own} (rh : RelHead prog w W t R Z S R' v src) (hh : A.handled = none) (st : St Z (HR W Z S ++ R') s.heap)
    (h : ∀ it Z' S' I h' tk, Ext Z Z' → Grow S S' → abs S' = abs S → St Z' (HR W Z' S' ++ (I 0 ++ R)) h' → NextOk prog w W t src it I Z' S' → SelfOk prog w W it I → wpAny (model prog w) A (k it) Q No (sh s h' tk)) : wpAny (model prog w) A (holding [v] (pyIter v) >>= k) Q No s :=
  wpAny_bind (wpAny_holding (wpAny_mono (rh A s hh st) (fun it s2 p => by obtain ⟨Z2, S2, I, h2, tk2, rfl, x2, g2, q2, st2, hN, hS⟩ := p; exact h it Z2 S2 I h2 tk2 x2 g2 q2 st2 hN hS) fun _ _ z => z))
end
end Mine
end
section
open PySem PySem.W PyProof.Rows
set_option Elab.async false
set_option maxRecDepth 10000
namespace Mine
section
variable {prog : Program} {w : World} {W : Wd} {K : Frag} {H0 : Heap} {G : Str → Option PyData} {adr : Callee → Option Addr} {A : Around} {Z : Heap} {S : Sg} {R : Own} {s : Shared} {sc : Names} {env : Env} {ρ : Rho} {ev : Expr → M Val}

theorem self_range {a n : Nat} {it : Addr} : SelfOk prog w W (.ref it) (fun k => [(it, fun o => o = rIt ((a : Int) + k) ((n : Int) - k))]) := fun A k Z S R s Q E st hq => by
  obtain ⟨o, ho, rfl⟩ := (st.perm (perm_in _ _ _)).own _ (.head _) |>.2
  exact wpAny_pyIter_rangeiter ho hq

theorem head_range {t : Expr} {a b : Int} {r : Addr} {t1 t2 t3 : Tok} (h0 : 0 ≤ a) (h1 : a ≤ 4096) (h2 : 0 ≤ b) (h3 : b ≤ 4096) (hr : IsRange Z r a b 1 t1 t2 t3) : RelHead prog w W t R Z S R (.ref r) (.fix ((upI a.toNat (b - a).toNat).map .int)) := by
  intro A s hh st
  refine wpAny_pyIter_range (st.sub _ _ hr) (small_one (by (first | lia | omega)) (by (first | lia | omega)) (by (first | lia | omega)) (by (first | lia | omega))) ?_
  have e : Builtin.Range.rangeSize a b 1 = ((b - a).toNat : Int) := by rw [rangeSize_one]; split <;> (first | lia | omega)
  have ea : a = ((a.toNat : Nat) : Int) := by (first | lia | omega)
  rw [e]
  generalize (b - a).toNat = n
  generalize a.toNat = m at ea
  subst ea
  obtain ⟨Z', x, st', _⟩ := St.iter (I := []) (I' := [(s.heap.objs.size, fun o => o = rIt ((m : Int) + (0 : Nat)) ((n : Int) - (0 : Nat)))]) (h' := s.heap.push (rIt m n)) st (fun b o _ e => Heap.get?_push_of_some _ e)
    (fun p hp => by rw [List.mem_singleton.mp hp]; exact ⟨_, Heap.get?_push_size _ rfl, by simp⟩) (by simp) (fun p hp => by rw [List.mem_singleton.mp hp]; exact .inr (get_size _))
  exact ⟨Z', S, fun k => [(s.heap.objs.size, fun o => o = rIt ((m : Int) + k) ((n : Int) - k))], _, s.toks, rfl, x, Grow.refl _, rfl, st', next_range, self_range⟩

/- enumerate -/
noncomputable abbrev eOf (it : Addr) (i : Int) (old : Value) : Obj := { cls := .type "enumerate", dict := none, data := .fields #[.none, .bool false, .ref it, rawInt i, .none, old], slots := #[] }
noncomputable def enI (e it l : Addr) (k : Nat) : Own := [(e, fun o => ∃ old, o = eOf it k old), (it, LI "list_iterator" l k)]
theorem isTup_of' {t : Expr} (h : isTup t = true) : ∃ es k p, t = .Tuple es k p := by cases t <;> first | exact ⟨_, _, _, rfl⟩ | cases h

theorem next_enum {t : Expr} (ht : isTup t = true) {e it l : Addr} {vs : Array Value} {n : Nat} {xs : List PyData} {Z0 : Heap} {S0 : Sg} (hl : Z0.get? l = some (listOf vs n)) (q : RDs Z0 vs.toList xs) :
    NextOk prog w W t (.fix (xs.zipIdx.map fun q => .tuple [.int q.2, q.1])) (.ref e) (enI e it l) Z0 S0 := by
  obtain ⟨es, kk, pp, rfl⟩ := isTup_of' ht
  intro A k Z S R s r hh x0 g0 hin ha st
  have hr := at_fix ha
  rw [List.getElem?_map, List.getElem?_zipIdx] at hr
  obtain ⟨o, ho, old, rfl⟩ := (st.perm (perm_in _ _ _)).own _ (.head _) |>.2
  obtain ⟨o2, ho2, hc, hd⟩ := (st.perm (perm_in _ _ _)).own _ (.tail _ (.head _)) |>.2
  have hit : s.heap.IsListIter it l k := ⟨o2, ho2, hc, hd⟩
  have hL : s.heap.get? l = some (listOf vs n) := st.sub _ _ (x0 _ _ hl)
  have hne : e ≠ it := by
    have := (st.perm (perm_in _ _ _)).nd
    simp only [enI, List.map_append, List.map_cons, List.map_nil, List.cons_append, List.nodup_cons, List.mem_cons] at this
    exact fun q => this.1 (.inl q)
  have nd : ∀ j, ((enI e it l j).map (·.1)).Nodup := fun j => by simp [enI, hne]
  cases hx : xs[k]? with
  | none =>
    rw [hx] at hr
    subst hr
    refine wpAny_pyNext_enum_end hh ho hit (isList_of hL) (Array.getElem?_eq_none (by rw [size_of q]; exact List.getElem?_eq_none_iff.mp hx)) fun h' hx => ⟨rfl, ?_⟩
    obtain ⟨Z', x, st', _⟩ := St.iter (I' := []) (h' := h') st (fun b o hb e => hx b o (fun q => hb (by rw [q]; simp [enI])) e) (fun _ h => nomatch h) List.nodup_nil (fun _ h => nomatch h)
    exact ⟨Z', h', s.toks, rfl, x, st'⟩
  | some y =>
    rw [hx] at hr
    subst hr
    obtain ⟨v, hv, rv⟩ := q.get hx
    refine wpAny_pyNext_enum_item ho hit (isList_of hL) (by rw [← Array.getElem?_toList]; exact hv) hne fun h' ho' hit' hT hsz hk => ⟨_, rfl, ?_⟩
    refine wpAny_letOwnedTupleGo_enum ho' fun h2 he2 hs2 => ?_
    obtain ⟨o3, ho3, hc3, hd3⟩ := hit'
    have hse : s.heap.objs.size ≠ e := Nat.ne_of_gt (Heap.lt_size ho)
    have hsi : s.heap.objs.size ≠ it := Nat.ne_of_gt (Heap.lt_size ho2)
    obtain ⟨Z', x, st', f⟩ := St.iter (I' := enI e it l (k + 1)) (h' := h2) st (fun b o hb eq => (hs2.2 b (fun q => hb (by rw [q]; simp [enI]))).trans (hk b o (fun q => hb (by rw [q]; simp [enI])) (fun q => hb (by rw [q]; simp [enI])) eq)) (fun p hp => by
        simp only [enI, List.mem_cons, List.not_mem_nil, or_false] at hp
        rcases hp with rfl | rfl
        · exact ⟨_, he2, _, by rw [show ((k + 1 : Nat) : Int) = (k : Int) + 1 from by (first | lia | omega)]⟩
        · exact ⟨o3, (hs2.2 it hne.symm).trans ho3, hc3, hd3⟩) (nd _) (fun p hp => by
        simp only [enI, List.mem_cons, List.not_mem_nil, or_false] at hp
        rcases hp with rfl | rfl <;> exact .inl (by simp [enI]))
    have hT2 := f _ _ ((hs2.2 _ hse).trans hT) (get_size _) (by simp [enI, hse, hsi])
    refine ⟨Z', h2, _, rfl, x, .tuple (n := 0) hT2 (.cons ?_ (.cons ((rv.ext x0).ext x) .nil)), st'⟩
    simp only [Nat.zero_add]
    exact .int _ _

theorem self_enum {e it l : Addr} : SelfOk prog w W (.ref e) (enI e it l) := fun A k Z S R s Q E st hq => by
  obtain ⟨o, ho, old, rfl⟩ := (st.perm (perm_in _ _ _)).own _ (.head _) |>.2
  exact wpAny_pyIter_enum ho hq

/- zip -/
noncomputable abbrev zOf (TI TO : Addr) (f0 : Value) : Obj := { cls := .type "zip", dict := none, data := .fields #[f0, .bool false, .bool false, .ref TI, .ref TO], slots := #[] }
noncomputable abbrev pOf (a b : Value) : Obj := { cls := .type "tuple", data := .seq #[a, b] }
noncomputable def zI (c1 c2 : String) (z TI TO i1 i2 l1 l2 : Addr) (k : Nat) : Own := [(z, fun o => o = zOf TI TO .none), (TO, fun o => ∃ a b, o = pOf a b), (i1, LI c1 l1 k), (i2, LI c2 l2 k)]

structure Drw (prog : Program) (w : World) (c : String) (i l : Addr) (vs : Array Value) (Z0 : Heap) (St1 : Nat → Heap → Prop) : Prop where
  d : ∀ A, A.handled = none → Draws prog w A i [i, l] vs.size (fun k v => vs[k]? = some v) St1
  to : ∀ k h, (∃ o, h.get? i = some o ∧ LI c l k o) → Ext Z0 h → St1 k h
  of : ∀ k h, St1 k h → ∃ o, h.get? i = some o ∧ LI c l k o
theorem drwL {i l : Addr} {vs : Array Value} {n : Nat} {Z0 : Heap} (hl : Z0.get? l = some (listOf vs n)) (hne : l ≠ i) : Drw prog w "list_iterator" i l vs Z0 (fun k h => h.IsListIter i l k ∧ h.IsList l vs) where
  d := fun A hh => Draws.list hh i l hne vs
  to := fun k h hi x => ⟨let ⟨o, a, b, c⟩ := hi; ⟨o, a, b, c⟩, isList_of (x _ _ hl)⟩
  of := fun k h hs => let ⟨o, a, b, c⟩ := hs.1; ⟨o, a, b, c⟩
theorem drwT {i l : Addr} {vs : Array Value} {n : Nat} {Z0 : Heap} (hl : Z0.get? l = some (tupOf vs n)) (hne : l ≠ i) : Drw prog w "tuple_iterator" i l vs Z0 (fun k h => h.IsTupleIter i l k ∧ h.IsTuple l vs) where
  d := fun A hh => drawsTuple hh i l hne vs
  to := fun k h hi x => ⟨let ⟨o, a, b, c⟩ := hi; ⟨o, a, b, c⟩, isTuple_of (x _ _ hl)⟩
  of := fun k h hs => let ⟨o, a, b, c⟩ := hs.1; ⟨o, a, b, c⟩

theorem next_zipOk {t : Expr} (ht : isTup t = true) {c1 c2 : String} {z TI TO i1 i2 l1 l2 : Addr} {vs us : Array Value} {xs ys : List PyData} {Z0 : Heap} {S0 : Sg} {St1 St2 : Nat → Heap → Prop} (D1 : Drw prog w c1 i1 l1 vs Z0 St1) (D2 : Drw prog w c2 i2 l2 us Z0 St2)
    (hTI : Z0.get? TI = some (pOf (.ref i1) (.ref i2))) (hl1 : ∃ o, Z0.get? l1 = some o) (hl2 : ∃ o, Z0.get? l2 = some o) (q1 : RDs Z0 vs.toList xs) (q2 : RDs Z0 us.toList ys) :
    NextOk prog w W t (.fix ((xs.zip ys).map fun q => .tuple [q.1, q.2])) (.ref z) (zI c1 c2 z TI TO i1 i2 l1 l2) Z0 S0 := by
  obtain ⟨es, kk, pp, rfl⟩ := isTup_of' ht
  intro A k Z S R s r hh x0 g0 hin ha st
  have hr := at_fix ha
  have stp := st.perm (perm_in _ _ _)
  obtain ⟨o, ho, rfl⟩ := stp.own _ (.head _) |>.2
  obtain ⟨oT, hoT, a, b, rfl⟩ := stp.own _ (.tail _ (.head _)) |>.2
  have e1 := stp.own _ (.tail _ (.tail _ (.head _))) |>.2
  have e2 := stp.own _ (.tail _ (.tail _ (.tail _ (.head _)))) |>.2
  have f1 : ∀ p ∈ zI c1 c2 z TI TO i1 i2 l1 l2 k, Z.get? p.1 = none := fun p hp => (stp.own _ (List.mem_append_left _ hp)).1
  have nz := f1 _ (.head _)
  have nT := f1 _ (.tail _ (.head _))
  have n1 := f1 _ (.tail _ (.tail _ (.head _)))
  have n2 := f1 _ (.tail _ (.tail _ (.tail _ (.head _))))
  dsimp only at nz nT n1 n2
  obtain ⟨ol1, hl1⟩ := hl1
  obtain ⟨ol2, hl2⟩ := hl2
  have hTIz := x0 _ _ hTI
  have ne : ∀ {a b : Addr} {o : Obj}, Z.get? a = some o → Z.get? b = none → a ≠ b := fun h h' q => by subst q; rw [h] at h'; cases h'
  have ndk := stp.nd
  simp only [zI, List.map_append, List.map_cons, List.map_nil, List.cons_append, List.nil_append, List.nodup_cons, List.mem_cons, not_or] at ndk
  obtain ⟨⟨d1, d2, d3, _⟩, ⟨d4, d5, _⟩, ⟨d6, _⟩, _⟩ := ndk
  have nd : ∀ j, ((zI c1 c2 z TI TO i1 i2 l1 l2 j).map (·.1)).Nodup := fun j => by simp [zI, d1, d2, d3, d4, d5, d6]
  have D : ZAp z TI TO i1 i2 [i1, l1] [i2, l2] := ⟨ne hTIz nz, Ne.symm d1, Ne.symm d2, Ne.symm d3, d4, d5, d6, by simp [d2, (ne (x0 _ _ hl1) nz).symm], by simp [d3, (ne (x0 _ _ hl2) nz).symm],
    by simp [d4, (ne (x0 _ _ hl1) nT).symm], by simp [d5, (ne (x0 _ _ hl2) nT).symm], by simp [Ne.symm d6, (ne (x0 _ _ hl1) n2).symm], by simp [d6, (ne (x0 _ _ hl2) n1).symm]⟩
  have s1 := D1.to k s.heap e1 (x0.trans st.sub)
  have s2 := D2.to k s.heap e2 (x0.trans st.sub)
  have hTIs : IsPair s.heap TI (.ref i1) (.ref i2) := st.sub _ _ hTIz
  have hh1 : A.in1.handled = none := hh
  have mem4 : ∀ j b, b ∈ (zI c1 c2 z TI TO i1 i2 l1 l2 j).map (·.1) ↔ (b = z ∨ b = TO ∨ b = i1 ∨ b = i2) := fun j b => by simp [zI]
  by_cases hk : k < xs.length ∧ k < ys.length
  · have hx : xs[k]? = some xs[k] := List.getElem?_eq_getElem hk.1
    have hy : ys[k]? = some ys[k] := List.getElem?_eq_getElem hk.2
    have hzip : (xs.zip ys)[k]? = some (xs[k], ys[k]) := by rw [List.getElem?_zip_eq_some]; exact ⟨hx, hy⟩
    rw [List.getElem?_map, hzip] at hr
    subst hr
    refine next_zip D (D1.d _ hh1) (D2.d _ hh1) ho hTIs hoT s1 s2 (by rw [size_of q1]; exact hk.1) (by rw [size_of q2]; exact hk.2) fun x y h' tk p1 p2 hz' hTO' t1 t2 hT hkp => ⟨_, rfl, ?_⟩
    refine wpAny_letOwnedTupleGo_zip hz' fun h2 hz2 hs2 => ?_
    have lt : ∀ {c o}, s.heap.get? c = some o → s.heap.objs.size ≠ c := fun e => Nat.ne_of_gt (Heap.lt_size e)
    obtain ⟨o1, ho1, _⟩ := id e1
    obtain ⟨o2, ho2, _⟩ := id e2
    obtain ⟨Z', x', st', f⟩ := St.iter (I' := zI c1 c2 z TI TO i1 i2 l1 l2 (k + 1)) (h' := h2) st (fun b o hb eq => by
        rw [mem4] at hb
        simp only [not_or] at hb
        exact (hs2.2 b hb.1).trans (hkp b o hb.1 hb.2.1 hb.2.2.1 hb.2.2.2 eq)) (fun p hp => by
        simp only [zI, List.mem_cons, List.not_mem_nil, or_false] at hp
        rcases hp with rfl | rfl | rfl | rfl
        · exact ⟨_, hz2, rfl⟩
        · exact ⟨_, (hs2.2 _ (Ne.symm d1)).trans hTO', _, _, rfl⟩
        · obtain ⟨o, a, b⟩ := D1.of _ _ t1; exact ⟨o, (hs2.2 _ (Ne.symm d2)).trans a, b⟩
        · obtain ⟨o, a, b⟩ := D2.of _ _ t2; exact ⟨o, (hs2.2 _ (Ne.symm d3)).trans a, b⟩) (nd _) (fun p hp => .inl (by rw [mem4]; exact (mem4 (k + 1) p.1).mp (List.mem_map_of_mem hp)))
    have hT2 := f _ _ ((hs2.2 _ (lt ho)).trans hT) (get_size _) (by rw [mem4]; simp only [not_or]; exact ⟨lt ho, lt hoT, lt ho1, lt ho2⟩)
    obtain ⟨v, hv, rv⟩ := q1.get hx
    obtain ⟨u, hu, ru⟩ := q2.get hy
    rw [Array.getElem?_toList] at hv hu
    rw [hv] at p1; cases p1
    rw [hu] at p2; cases p2
    exact ⟨Z', h2, tk, rfl, x', .tuple (n := 0) hT2 (.cons ((rv.ext x0).ext x') (.cons ((ru.ext x0).ext x') .nil)), st'⟩
  · have hzip : (xs.zip ys)[k]? = none := by
      rw [List.getElem?_eq_none_iff, List.length_zip]; omega
    rw [List.getElem?_map, hzip] at hr
    subst hr
    have hz2 := hin _ rfl
    rw [List.length_map, List.length_zip] at hz2
    refine next_zip_end D (D1.d _ hh1) (D2.d _ hh1) ho hTIs hoT s1 s2 (by rw [size_of q1]; omega) (by rw [size_of q1, size_of q2]; omega) fun h' tk hkp => ⟨rfl, ?_⟩
    obtain ⟨Z', x, st', _⟩ := St.iter (I' := []) (h' := h') st (fun b o hb e => by
      rw [mem4] at hb
      simp only [not_or] at hb
      exact hkp b o hb.1 hb.2.1 hb.2.2.1 hb.2.2.2 e) (fun _ h => nomatch h) List.nodup_nil (fun _ h => nomatch h)
    exact ⟨Z', h', tk, rfl, x, st'⟩

theorem self_zip {c1 c2 : String} {z TI TO i1 i2 l1 l2 : Addr} : SelfOk prog w W (.ref z) (zI c1 c2 z TI TO i1 i2 l1 l2) := fun A k Z S R s Q E st hq => by
  obtain ⟨o, ho, rfl⟩ := (st.perm (perm_in _ _ _)).own _ (.head _) |>.2
  exact wpAny_pyIter_zip ho hq

theorem sim_range {t : Expr} {vs : List Value} {ds : List Val} (rv : RVs Z S vs ds) : Sim (model prog w) W A (RelHead prog w W t R) Z S R s (call (.type "range") vs) (rangeD ds) := by
  intro st src σ' he
  unfold rangeD at he
  cases h1 : one ds with
  | some d =>
    rw [h1] at he
    obtain ⟨hz, rfl⟩ := ofO_inv he
    rw [one_eq h1] at rv
    obtain ⟨v, rfl, r⟩ := rv.one
    refine obE hz fun b hv he => gdE he fun hb => ?_
    rw [intV_eq hv] at r
    refine and2 hb fun b1 b2 => RD.intE r fun u => call_range_1 ?_
    have b1 := of_decide_eq_true b1
    have b2 := of_decide_eq_true b2
    obtain ⟨Z', x, st', e⟩ := st.push { cls := .type "range", data := .fields #[.int 0 s.toks, .int b u, .int 1 (s.toks + 1)] } rfl
    have hd := head_range (prog := prog) (w := w) (W := W) (S := S) (R := R) (t := t) (a := 0) (b := b) (by (first | lia | omega)) (by (first | lia | omega)) b1 b2 e
    simp only [Int.sub_zero, Int.toNat_zero] at hd
    exact ⟨Z', S, R, _, _, rfl, x, Grow.refl _, rfl, St.mono (T := S) st' x (Grow.refl _), hd⟩
  | none =>
    rw [h1] at he
    obtain ⟨hz, rfl⟩ := ofO_inv he
    refine obE hz fun q hq he => obE he fun a ha he => obE he fun b hb he => gdE he fun hab => ?_
    rw [two_eq hq] at rv
    obtain ⟨v, v2, rfl, r, r2⟩ := rv.two
    rw [intV_eq ha] at r
    rw [intV_eq hb] at r2
    refine and2 hab fun h1 h2 => and2 h1 fun a1 a2 => and2 h2 fun b1 b2 => RD.intE r fun u => RD.intE r2 fun u2 => call_range_2 ?_
    obtain ⟨Z', x, st', e⟩ := st.push { cls := .type "range", data := .fields #[.int a u, .int b u2, .int 1 s.toks] } rfl
    exact ⟨Z', S, R, _, _, rfl, x, Grow.refl _, rfl, St.mono (T := S) st' x (Grow.refl _), head_range (of_decide_eq_true a1) (of_decide_eq_true a2) (of_decide_eq_true b1) (of_decide_eq_true b2) e⟩

theorem sim_enum {t : Expr} (ht : isTup t = true) {vs : List Value} {ds : List Val} (rv : RVs Z S vs ds) : Sim (model prog w) W A (RelHead prog w W t R) Z S R s (call (.type "enumerate") vs) (enumD ds) := by
  intro st src σ' he
  obtain ⟨hz, rfl⟩ := ofO_inv he
  refine obE hz fun d hd he => obE he fun y hy he => obE he fun xs hxs he => gdE he fun _ => ?_
  rw [one_eq hd, data_eq hy, lstP_eq hxs] at rv
  obtain ⟨v, rfl, r⟩ := rv.one
  refine RD.lstE (show RD Z v (.list xs) from r) fun l vs n g q => ?_
  refine call_enumerate_list (isList_of (st.sub _ _ g)) fun h' he hit _ hk => ?_
  obtain ⟨o, ho, hc, hd⟩ := hit
  have hs1 : s.heap.get? (s.heap.objs.size + 1) = none := by
    cases e : s.heap.get? (s.heap.objs.size + 1) with
    | none => rfl
    | some o => exact absurd (Heap.lt_size e) (Nat.not_lt.mpr (Nat.le_add_right _ _))
  obtain ⟨Z', x, st', _⟩ := St.iter (I := []) (I' := enI (s.heap.objs.size + 1) s.heap.objs.size l 0) (h' := h') st (fun b o _ e => hk b o e) (fun p hp => by
    simp only [enI, List.mem_cons, List.not_mem_nil, or_false] at hp
    rcases hp with rfl | rfl
    · exact ⟨_, he, _, rfl⟩
    · exact ⟨o, ho, hc, hd⟩) (by simp [enI]) (fun p hp => by
    simp only [enI, List.mem_cons, List.not_mem_nil, or_false] at hp
    rcases hp with rfl | rfl
    · exact .inr hs1
    · exact .inr (get_size _))
  refine ⟨Z', S, _, h', s.toks, rfl, x, Grow.refl _, rfl, st', ?_⟩
  intro A s2 hh st2
  obtain ⟨o2, ho2, old, rfl⟩ := (st2.perm (perm_in _ _ _)).own _ (.head _) |>.2
  refine wpAny_pyIter_enum ho2 ⟨Z', S, enI (s.heap.objs.size + 1) s.heap.objs.size l, s2.heap, s2.toks, rfl, Ext.refl _, Grow.refl _, rfl, st2, next_enum ht (x _ _ g) (q.ext x), self_enum⟩

theorem zip_fin {t : Expr} (ht : isTup t = true) {c1 c2 : String} {l1 l2 : Addr} {vs us : Array Value} {xs ys : List PyData} {h' : Heap} {o1 o2 : Obj} (st : St Z (HR W Z S ++ R) s.heap) (N : ZNew c1 c2 s.heap h' l1 l2)
    (hl1 : Z.get? l1 = some o1) (hl2 : Z.get? l2 = some o2) (q1 : RDs Z vs.toList xs) (q2 : RDs Z us.toList ys)
    (D1 : ∀ Z' i, Ext Z Z' → l1 ≠ i → ∃ St1, Drw prog w c1 i l1 vs Z' St1) (D2 : ∀ Z' i, Ext Z Z' → l2 ≠ i → ∃ St2, Drw prog w c2 i l2 us Z' St2) :
    SimPost W (RelHead prog w W t R) s Z S (.fix ((xs.zip ys).map fun q => .tuple [q.1, q.2])) (abs S) (.ref (s.heap.objs.size + 4)) { s with heap := h' } := by
  have big : ∀ j, s.heap.get? (s.heap.objs.size + j) = none := fun j => by
    cases e : s.heap.get? (s.heap.objs.size + j) with
    | none => rfl
    | some o => exact absurd (Heap.lt_size e) (Nat.not_lt.mpr (Nat.le_add_right _ _))
  have lt1 : l1 < s.heap.objs.size := Heap.lt_size (st.sub _ _ hl1)
  have lt2 : l2 < s.heap.objs.size := Heap.lt_size (st.sub _ _ hl2)
  obtain ⟨Z', x, st', f⟩ := St.iter (I := []) (I' := zI c1 c2 (s.heap.objs.size + 4) (s.heap.objs.size + 2) (s.heap.objs.size + 3) s.heap.objs.size (s.heap.objs.size + 1) l1 l2 0) (h' := h') st (fun b o _ e => N.keep b o e) (fun p hp => by
    simp only [zI, List.mem_cons, List.not_mem_nil, or_false] at hp
    rcases hp with rfl | rfl | rfl | rfl
    · exact ⟨_, N.z, rfl⟩
    · exact ⟨_, N.to, _, _, rfl⟩
    · exact ⟨_, N.i1, rfl, rfl⟩
    · exact ⟨_, N.i2, rfl, rfl⟩) (by simp [zI]) (fun p hp => by
    simp only [zI, List.mem_cons, List.not_mem_nil, or_false] at hp
    rcases hp with rfl | rfl | rfl | rfl
    · exact .inr (big 4)
    · exact .inr (big 3)
    · exact .inr (get_size _)
    · exact .inr (big 1))
  have hTI := f _ _ N.ti (big 2) (by simp [zI])
  obtain ⟨St1, d1⟩ := D1 Z' s.heap.objs.size x (Nat.ne_of_lt lt1)
  obtain ⟨St2, d2⟩ := D2 Z' (s.heap.objs.size + 1) x (Nat.ne_of_lt (Nat.lt_succ_of_lt lt2))
  refine ⟨Z', S, _, h', s.toks, rfl, x, Grow.refl _, rfl, st', ?_⟩
  intro A s2 hh st2
  obtain ⟨o, ho, rfl⟩ := (st2.perm (perm_in _ _ _)).own _ (.head _) |>.2
  exact wpAny_pyIter_zip ho ⟨Z', S, _, s2.heap, s2.toks, rfl, Ext.refl _, Grow.refl _, rfl, st2, next_zipOk ht d1 d2 hTI ⟨_, x _ _ hl1⟩ ⟨_, x _ _ hl2⟩ (q1.ext x) (q2.ext x), self_zip⟩

theorem sim_zip {t : Expr} (ht : isTup t = true) {vs : List Value} {ds : List Val} (rv : RVs Z S vs ds) : Sim (model prog w) W A (RelHead prog w W t R) Z S R s (call (.type "zip") vs) (zipD ds) := by
  intro st src σ' he
  obtain ⟨hz, rfl⟩ := ofO_inv he
  refine obE hz fun q hq he => obE he fun x hx he => obE he fun xs hxs he => obE he fun y hy he => obE he fun ys hys he => gdE he fun _ => ?_
  rw [two_eq hq, data_eq hx, data_eq hy, tupP_eq hys] at rv
  obtain ⟨v, u, rfl, r1, r2⟩ := rv.two
  refine RD.tupE (show RD Z u (.tuple ys) from r2) fun l2 us n2 g2 q2 => ?_
  rcases itemsOf_eq hxs with rfl | rfl
  · refine RD.lstE (show RD Z v (.list xs) from r1) fun l1 vs n1 g1 q1 => ?_
    exact call_zip_lt (isList_of (st.sub _ _ g1)) (isTuple_of (st.sub _ _ g2)) fun h' N => zip_fin ht st N g1 g2 q1 q2 (fun Z' i x hne => ⟨_, drwL (x _ _ g1) hne⟩) (fun Z' i x hne => ⟨_, drwT (x _ _ g2) hne⟩)
  · refine RD.tupE (show RD Z v (.tuple xs) from r1) fun l1 vs n1 g1 q1 => ?_
    exact call_zip_tt (isTuple_of (st.sub _ _ g1)) (isTuple_of (st.sub _ _ g2)) fun h' N => zip_fin ht st N g1 g2 q1 q2 (fun Z' i x hne => ⟨_, drwT (x _ _ g1) hne⟩) (fun Z' i x hne => ⟨_, drwT (x _ _ g2) hne⟩)

theorem sim_headCall (B : Bs prog w W K H0 G adr) {t : Expr} (hev : EvOk prog w W H0 A sc env ρ R ev) (hns : NoStar ev) (x0 : Ext H0 Z) (F : FrameAt sc env ρ Z S R)
    {f : Str} {fv : Value} {p pos : Pos} {args : List Expr} {c : List Val → M Src} (h8 : args.length ≤ 8) (hsc : sc.lookup f = some .globalImplicit) (hb : badName f = false) (hv : builtinVal f = some fv)
    (hc : ∀ vs ds Z S s, RVs Z S vs ds → Sim (model prog w) W A (RelHead prog w W t R) Z S R s (call fv vs) (c ds)) :
    Sim (model prog w) W A (RelHead prog w W t R) Z S R s (eval (.Call (.Name f p) args [] pos) env) (evList ev args >>= c) := by
  rw [arm_eval_Call_Name']
  intro st b σ' he
  refine wpAny_bind (wp_fixed B x0 F st hsc hb hv ?_)
  exact sim_callWith (c := c) hev hns h8 x0 F (fun h _ => keeper_builtin hv h) (fun vs ds Z2 S2 h2 tk2 k2 g2 rv => hc vs ds Z2 S2 _ rv) st b σ' he

theorem sim_headPlain {t : Expr} (hev : EvOk prog w W H0 A sc env ρ R ev) (x0 : Ext H0 Z) (F : FrameAt sc env ρ Z S R) {e : Expr} :
    Sim (model prog w) W A (RelHead prog w W t R) Z S R s (eval e env) (iterPlain ev e) := by
  unfold iterPlain
  have e1 : eval e env = (eval e env >>= fun v => pure v) := by simp
  rw [e1]
  refine Sim.bind' (hev e Z S s x0 F) fun a x Z' S' R' h' tk k g q => ?_
  obtain ⟨rfl, ra⟩ := q
  refine Sim.getσ fun src e => ?_
  exact Sim.pure (head_iterOf ra e)

theorem sim_iterCall (B : Bs prog w W K H0 G adr) {t : Expr} (hev : EvOk prog w W H0 A sc env ρ R ev) (hns : NoStar ev) (x0 : Ext H0 Z) (F : FrameAt sc env ρ Z S R) (f : Str) (p : Pos) (as : List Expr) (ks : List Keyword) (pos : Pos) :
    Sim (model prog w) W A (RelHead prog w W t R) Z S R s (eval (.Call (.Name f p) as ks pos) env) (iterCall ev sc (isTup t) f p as ks pos) := by
  unfold iterCall
  refine simIf (fun h => ?_) fun _ => sim_headPlain hev x0 F
  refine and2 h fun h h4 => and2 h fun h2 h3 => ?_
  obtain rfl := List.isEmpty_iff.mp h3
  have h8 := of_decide_eq_true h4
  have hsc := eq_of_beq h2
  refine simIf (fun h => ?_) fun _ => simIf (fun h => and2 h fun h ht => ?_) fun _ => simIf (fun h => and2 h fun h ht => ?_) fun _ => sim_headPlain hev x0 F
  · obtain rfl := eq_of_beq h
    exact sim_headCall B hev hns x0 F h8 hsc (by decide) (fv := .type "range") rfl fun vs ds Z S s rv => sim_range rv
  · obtain rfl := eq_of_beq h
    exact sim_headCall B hev hns x0 F h8 hsc (by decide) (fv := .type "zip") rfl fun vs ds Z S s rv => sim_zip ht rv
  · obtain rfl := eq_of_beq h
    exact sim_headCall B hev hns x0 F h8 hsc (by decide) (fv := .type "enumerate") rfl fun vs ds Z S s rv => sim_enum ht rv
/-- the head of a for -/
theorem sim_head (B : Bs prog w W K H0 G adr) {t : Expr} (hev : EvOk prog w W H0 A sc env ρ R ev) (hns : NoStar ev) (x0 : Ext H0 Z) (F : FrameAt sc env ρ Z S R) (e : Expr) :
    Sim (model prog w) W A (RelHead prog w W t R) Z S R s (eval e env) (evIter ev sc (isTup t) e) := by
  have plain := fun e => sim_headPlain (s := s) (t := t) (e := e) hev x0 F
  cases e with
  | Call f as ks pos =>
    cases f with
    | Name f p => exact sim_iterCall B hev hns x0 F f p as ks pos
    | _ => exact plain _
  | Set es k p => exact Sim.stop
  | _ => exact plain _

theorem folded_plain {e : Expr} {x : Value} {σ : List MO} {r : Src × List MO} {tup : Bool} (h : evIter ev sc tup e σ = some r) : foldedSetIterable e env x = pure x := by
  cases e <;> first | rfl | cases h
end
end Mine
end
section
open PySem PySem.W PyProof.Rows
set_option Elab.async false
set_option maxRecDepth 10000
namespace Mine

theorem cellsFrom_app : ∀ (names : List (Str × NameKind)) (n : Nat) (a b : List (Str × Addr)), cellsFrom n names (a ++ b) = cellsFrom n names a ++ b
  | [], _, _, _ => rfl
  | (x, k) :: r, n, a, b => by
    unfold cellsFrom
    split
    · exact cellsFrom_app r (n + 1) ((x, n) :: a) b
    · exact cellsFrom_app r n a b
theorem cellsFrom_names : ∀ (names : List (Str × NameKind)) (n : Nat) (a : List (Str × Addr)), (cellsFrom n names a).map (·.1) = ((names.filter (·.2 == .cell)).map (·.1)).reverse ++ a.map (·.1)
  | [], _, _ => rfl
  | (x, k) :: r, n, a => by
    unfold cellsFrom
    split
    · rename_i h
      rw [cellsFrom_names r, List.filter_cons]
      simp [h]
    · rename_i h
      rw [cellsFrom_names r, List.filter_cons]
      simp [h]

noncomputable def closeL (env : Env) (names : List (Str × NameKind)) (acc : List (Str × Addr)) : List (Str × Addr) :=
  names.foldl (fun cs q => if q.2 == .free then (q.1, (env.cells.lookup q.1).getD 0) :: cs else cs) acc
theorem closeL_mem (env : Env) : ∀ (names : List (Str × NameKind)) (acc : List (Str × Addr)) (x : Str) (c : Addr), (x, c) ∈ closeL env names acc → (x, c) ∈ acc ∨ ((x, .free) ∈ names ∧ c = (env.cells.lookup x).getD 0)
  | [], _, _, _, h => .inl h
  | (y, k) :: r, acc, x, c, h => by
    have h' : (x, c) ∈ closeL env r (if k == .free then (y, (env.cells.lookup y).getD 0) :: acc else acc) := h
    rcases closeL_mem env r _ x c h' with q | q
    · split at q
      · rename_i hk
        obtain rfl := eq_of_beq hk
        rcases List.mem_cons.mp q with q | q
        · cases q; exact .inr ⟨.head _, rfl⟩
        · exact .inl q
      · exact .inl q
    · exact .inr ⟨.tail _ q.1, q.2⟩
theorem closeL_has (env : Env) : ∀ (names : List (Str × NameKind)) (acc : List (Str × Addr)) (x : Str), ((x, .free) ∈ names ∨ x ∈ acc.map (·.1)) → x ∈ (closeL env names acc).map (·.1)
  | [], _, _, h => by rcases h with h | h; cases h; exact h
  | (y, k) :: r, acc, x, h => by
    show x ∈ (closeL env r (if k == .free then (y, (env.cells.lookup y).getD 0) :: acc else acc)).map (·.1)
    refine closeL_has env r _ x ?_
    rcases h with h | h
    · rcases List.mem_cons.mp h with h | h
      · cases h; exact .inr (by simp)
      · exact .inl h
    · refine .inr ?_
      split
      · exact .tail _ h
      · exact h
theorem close_eq {scope : Scope} {env : Env} (h : ∀ x, (x, NameKind.free) ∈ scope.names → ∃ c, env.cells.lookup x = some c) : closureFor scope env = pure (closeL env scope.names []) := by
  have key : ∀ (names : List (Str × NameKind)) (acc : List (Str × Addr)), (∀ x, (x, NameKind.free) ∈ names → ∃ c, env.cells.lookup x = some c) →
      (forIn names acc fun (q : Str × NameKind) (cs : List (Str × Addr)) => (if (q.2 == NameKind.free) = true then do let c ← cellOf env q.1; pure (ForInStep.yield ((q.1, c) :: cs)) else pure (ForInStep.yield cs) : Sem (ForInStep (List (Str × Addr))))) = pure (closeL env names acc) := by
    intro names
    induction names with
    | nil => intro acc _; rw [List.forIn_nil]; rfl
    | cons q r ih =>
      intro acc hh
      rw [List.forIn_cons]
      have hr : ∀ x, (x, NameKind.free) ∈ r → ∃ c, env.cells.lookup x = some c := fun x hx => hh x (.tail _ hx)
      by_cases hk : (q.2 == NameKind.free) = true
      · obtain ⟨c, hc⟩ := hh q.1 (by obtain ⟨a, b⟩ := q; obtain rfl := eq_of_beq hk; exact .head _)
        rw [if_pos hk]
        have e : cellOf env q.1 = pure c := by unfold cellOf; rw [hc]
        rw [e]
        simp only [pure_bind]
        rw [ih _ hr]
        unfold closeL
        rw [List.foldl_cons, if_pos hk, hc]
        rfl
      · rw [if_neg hk]
        simp only [pure_bind]
        rw [ih _ hr]
        unfold closeL
        rw [List.foldl_cons, if_neg hk]
  unfold closureFor
  have := key scope.names [] h
  simp only [bind_pure]
  exact this

theorem lookup_relabel {env : Env} : ∀ {names : List (Str × NameKind)} {x : Str} {k : NameKind}, names.lookup x = some k → ∃ k',
    (names.map fun (n, k) => if (k == NameKind.free && env.scope.kind == .function && env.kindOf n == some .cell) then (n, NameKind.cell) else (n, k)).lookup x = some k' ∧ (k = k' ∨ (k = .free ∧ k' = .cell))
  | [], _, _, h => by simp at h
  | (n, k) :: r, x, k0, h => by
    have ih := @lookup_relabel env r x k0
    show ∃ k', List.lookup x ((if (k == NameKind.free && env.scope.kind == .function && env.kindOf n == some .cell) = true then (n, NameKind.cell) else (n, k)) :: _) = some k' ∧ _
    cases hx : x == n with
    | true =>
      simp only [List.lookup_cons, hx] at h
      cases h
      by_cases hc : (k == NameKind.free && env.scope.kind == .function && env.kindOf n == some .cell) = true
      · rw [if_pos hc]
        simp only [Bool.and_eq_true] at hc
        exact ⟨.cell, by simp [List.lookup_cons, hx], .inr ⟨eq_of_beq hc.1.1, rfl⟩⟩
      · rw [if_neg hc]
        exact ⟨k, by simp [List.lookup_cons, hx], .inl rfl⟩
    | false =>
      simp only [List.lookup_cons, hx] at h
      obtain ⟨k', a, b⟩ := ih h
      by_cases hc : (k == NameKind.free && env.scope.kind == .function && env.kindOf n == some .cell) = true
      · rw [if_pos hc]; exact ⟨k', by simp only [List.lookup_cons, hx]; exact a, b⟩
      · rw [if_neg hc]; exact ⟨k', by simp only [List.lookup_cons, hx]; exact a, b⟩

theorem mem_of_nodup {names : List (Str × NameKind)} (nd : (names.map (·.1)).Nodup) {x : Str} {k : NameKind} (h : (x, k) ∈ names) : names.lookup x = some k := by
  induction names with
  | nil => cases h
  | cons q r ih =>
    obtain ⟨y, j⟩ := q
    rw [List.map_cons, List.nodup_cons] at nd
    rcases List.mem_cons.mp h with h | h
    · cases h; simp [List.lookup_cons]
    · have hy : x ≠ y := fun q => nd.1 (by rw [← q]; exact List.mem_map.mpr ⟨_, h, rfl⟩)
      rw [List.lookup_cons, show (x == y) = false from by simpa using hy]
      exact ih nd.2 h
theorem lookup_of_mem {α : Type} {l : List (Str × α)} (nd : (l.map (·.1)).Nodup) {x : Str} {k : α} (h : (x, k) ∈ l) : l.lookup x = some k := by
  induction l with
  | nil => cases h
  | cons q r ih =>
    obtain ⟨y, j⟩ := q
    rw [List.map_cons, List.nodup_cons] at nd
    rcases List.mem_cons.mp h with h | h
    · cases h; simp [List.lookup_cons]
    · have hy : x ≠ y := fun q => nd.1 (by rw [← q]; exact List.mem_map.mpr ⟨_, h, rfl⟩)
      rw [List.lookup_cons, show (x == y) = false from by simpa using hy]
      exact ih nd.2 h
theorem lookup_append {α : Type} {l m : List (Str × α)} {x : Str} : (l ++ m).lookup x = (l.lookup x).or (m.lookup x) := by
  induction l with
  | nil => rfl
  | cons q r ih =>
    obtain ⟨y, j⟩ := q
    rw [List.cons_append, List.lookup_cons, List.lookup_cons]
    cases x == y with
    | true => rfl
    | false => exact ih
theorem lookup_none {α : Type} {l : List (Str × α)} {x : Str} (h : x ∉ l.map (·.1)) : l.lookup x = none := by
  cases q : l.lookup x with
  | none => rfl
  | some c => exact absurd (List.mem_map.mpr ⟨_, PySem.mem_of_lookup q, rfl⟩) h
theorem lookup_some {α : Type} {l : List (Str × α)} {x : Str} (h : x ∈ l.map (·.1)) : ∃ c, l.lookup x = some c := by
  cases q : l.lookup x with
  | some c => exact ⟨c, rfl⟩
  | none =>
    induction l with
    | nil => cases h
    | cons p r ih =>
      obtain ⟨y, j⟩ := p
      rw [List.lookup_cons] at q
      cases e : x == y with
      | true => rw [e] at q; cases q
      | false =>
        rw [e] at q
        rcases List.mem_cons.mp h with h | h
        · rw [h] at e; simp at e
        · exact ih h q

/-- what a free name sees: the binding as it stands outside -/
theorem lookup_freeOf {names : Names} {ρ : Rho} {x : Str} {d : Val} (h : (freeOf names ρ).lookup x = some d) : names.lookup x = some .free ∧ ρ.lookup x = some d := by
  unfold freeOf at h
  induction ρ with
  | nil => (first | exact nope h | exact nopeB h | cases h)
  | cons q r ih =>
    obtain ⟨y, e⟩ := q
    rw [List.filter_cons] at h
    by_cases hk : (names.lookup y == some NameKind.free) = true
    · rw [if_pos hk] at h
      rw [List.lookup_cons] at h ⊢
      cases hx : x == y with
      | true => rw [hx] at h; obtain rfl := eq_of_beq hx; exact ⟨eq_of_beq hk, h⟩
      | false => rw [hx] at h; exact ih h
    · rw [if_neg hk] at h
      obtain ⟨a, b⟩ := ih h
      refine ⟨a, ?_⟩
      have hy : x ≠ y := fun q => by subst q; rw [a] at hk; simp at hk
      rw [List.lookup_cons, show (x == y) = false from by simpa using hy]
      exact b

section
variable {prog : Program} {w : World} {W : Wd} {A : Around} {Z : Heap} {S : Sg} {R : Own} {s : Shared} {sc : Names} {env : Env} {ρ : Rho} {E : Value → Shared → Prop}

/-- the frame of a comprehension is made -/
theorem newEnvC {R₂ : Own} {scope : Scope} {Q : Env → Shared → Prop} (hk : scope.kind = .function) (hc : compOk sc ρ scope.names = true) (F : FrameAt sc env ρ Z S R) (st : St Z (HR W Z S ++ R₂) s.heap)
    (h : ∀ cenv Z' m cv h', cenv.scope = scope → Ext Z Z' → (∀ b o, s.heap.get? b = some o → h'.get? b = some o) → St Z' (HR W Z' S ++ (frOwn cenv.locals m cv ++ R₂)) h' → FrameR scope.names { cenv with scope := relabel scope env } (freeOf scope.names ρ) Z' S m cv R →
      Q cenv { s with heap := h' }) :
    closureFor scope env = pure (closeL env scope.names []) ∧ wpAny (model prog w) A (newFunctionEnv scope env.globals (closeL env scope.names []) [] env.qual none .none (some env)) Q E s := by
  unfold compOk at hc
  rw [Bool.and_eq_true, List.all_eq_true] at hc
  obtain ⟨hfree, hnd⟩ := hc
  have nd := of_decide_eq_true hnd
  have hfr : ∀ x, (x, NameKind.free) ∈ scope.names → ∃ d, ρ.lookup x = some d ∧ (sc.lookup x = some .cell ∨ sc.lookup x = some .free) := by
    intro x hx
    have := hfree _ hx
    simp only [bne_self_eq_false, Bool.false_or, Bool.and_eq_true] at this
    obtain ⟨h1, h2⟩ := this
    obtain ⟨d, hd⟩ := Option.isSome_iff_exists.mp h1
    refine ⟨d, hd, ?_⟩
    cases q : sc.lookup x with
    | none => rw [q] at h2; cases h2
    | some k => rw [q] at h2; cases k <;> first | exact .inl rfl | exact .inr rfl | cases h2
  have hcells : ∀ x, (x, NameKind.free) ∈ scope.names → ∃ c, env.cells.lookup x = some c := fun x hx => by
    obtain ⟨d, hd, hk⟩ := hfr x hx
    obtain ⟨c, v, a, _⟩ := F.cel x d hd hk
    exact ⟨c, a⟩
  refine ⟨close_eq hcells, ?_⟩
  simp only [newFunctionEnv, Option.isSome_some, if_true]
  refine wpAny_bind (wpAny_alloc ?_)
  refine wpAny_bind (wpAny_layCells _ (fun name kind cells => by cases hkc : kind == NameKind.cell <;> simp [hkc]) _ _ _ _ ?_)
  have ok := cellsFrom_ok scope.names (s.heap.push { cls := .type "dict", data := .dict #[] }) (s.heap.objs.size + 1) [] ⟨fun _ _ hm => (nomatch hm), List.Pairwise.nil⟩ (by rw [Heap.size_push]; exact Nat.le_refl _)
  have hsz : (s.heap.push { cls := .type "dict", data := .dict #[] }).objs.size = s.heap.objs.size + 1 := Heap.size_push ..
  rw [hsz] at ok
  rw [show ({ s with heap := s.heap.push { cls := .type "dict", data := .dict #[] } } : Shared).heap.objs.size = s.heap.objs.size + 1 from hsz]
  have eapp : cellsFrom (s.heap.objs.size + 1) scope.names (closeL env scope.names []) = cellsFrom (s.heap.objs.size + 1) scope.names [] ++ closeL env scope.names [] := by
    have := cellsFrom_app scope.names (s.heap.objs.size + 1) [] (closeL env scope.names [])
    simpa using this
  rw [eapp]
  have nm := cellsFrom_names scope.names (s.heap.objs.size + 1) []
  simp only [List.map_nil, List.append_nil] at nm
  generalize hnew : cellsFrom (s.heap.objs.size + 1) scope.names [] = new at ok nm
  have ndn : (new.map (·.1)).Nodup := by
    rw [nm, (List.reverse_perm _).nodup_iff]
    exact (List.filter_sublist.map _).nodup nd
  have keep : ∀ b o, s.heap.get? b = some o → (pushCells (s.heap.push { cls := .type "dict", data := .dict #[] }) scope.names).get? b = some o := fun b o e => pushCells_keeps _ _ b o (Heap.get?_push_of_some _ e)
  have hns : (pushCells (s.heap.push { cls := .type "dict", data := .dict #[] }) scope.names).Ns s.heap.objs.size (fun _ => none) := (Heap.Ns.new s.heap (.type "dict")).keeps (pushCells_keeps _ _)
  have above : ∀ j, s.heap.objs.size ≤ j → s.heap.get? j = none := fun j hj => by
    cases e : s.heap.get? j with
    | none => rfl
    | some o => exact absurd (Heap.lt_size e) (Nat.not_lt.mpr hj)
  obtain ⟨Z', x, st', _⟩ := St.iter (I := []) (I' := frOwn s.heap.objs.size (fun _ => none) (new.map fun q => (q.1, q.2, none))) (h' := pushCells (s.heap.push { cls := .type "dict", data := .dict #[] }) scope.names) st (fun b o _ e => keep b o e) (fun p hp => by
      unfold frOwn at hp
      rcases List.mem_cons.mp hp with rfl | hp
      · exact NsP.of hns
      · obtain ⟨q, hq, rfl⟩ := List.mem_map.mp hp
        obtain ⟨q', hq', rfl⟩ := List.mem_map.mp hq
        obtain ⟨⟨o, a, b⟩, _⟩ := ok.empty q'.1 q'.2 hq'
        exact ⟨o, a, b⟩) (by
      unfold frOwn
      rw [List.map_cons, List.nodup_cons]
      refine ⟨fun hm => ?_, ?_⟩
      · obtain ⟨p, hp, e⟩ := List.mem_map.mp hm
        obtain ⟨q, hq, rfl⟩ := List.mem_map.mp hp
        obtain ⟨q', hq', rfl⟩ := List.mem_map.mp hq
        have := (ok.empty q'.1 q'.2 hq').2
        have e : q'.2 = s.heap.objs.size := e
        rw [e] at this
        exact Nat.not_succ_le_self _ this
      · rw [List.map_map, List.map_map]
        rw [List.Nodup, List.pairwise_map]
        exact ok.apart.imp fun h => h) (fun p hp => by
      refine .inr (above _ ?_)
      unfold frOwn at hp
      rcases List.mem_cons.mp hp with rfl | hp
      · exact Nat.le_refl _
      · obtain ⟨q, hq, rfl⟩ := List.mem_map.mp hp
        obtain ⟨q', hq', rfl⟩ := List.mem_map.mp hq
        exact Nat.le_of_succ_le (ok.empty q'.1 q'.2 hq').2)
  show wpAny _ _ (do
    let _ ← (forIn ([] : List (Str × Value)) PUnit.unit _ : Sem PUnit)
    pure _) _ _ _
  refine wpAny_bind ?_
  rw [List.forIn_nil]
  refine wpAny_pure (wpAny_pure ?_)
  refine h _ Z' (fun _ => none) (new.map fun q => (q.1, q.2, none)) _ rfl x keep st' ?_
  have cellName : ∀ y c, (y, c) ∈ new → scope.names.lookup y = some .cell := fun y c hm => by
    have : y ∈ new.map (·.1) := List.mem_map.mpr ⟨_, hm, rfl⟩
    rw [nm, List.mem_reverse] at this
    obtain ⟨q, hq, rfl⟩ := List.mem_map.mp this
    obtain ⟨h1, h2⟩ := List.mem_filter.mp hq
    obtain ⟨a, b⟩ := q
    obtain rfl := eq_of_beq h2
    exact mem_of_nodup nd h1
  exact {
    kind := by show (relabel scope env).kind = .function; unfold relabel; exact hk
    glob := F.glob
    blt := F.blt
    kr := fun y k hy => lookup_relabel hy
    nod := by rw [List.map_map]; exact ndn
    own := fun y c v hm => by
      obtain ⟨q, hq, e⟩ := List.mem_map.mp hm
      cases e
      show (new ++ closeL env scope.names []).lookup q.1 = some q.2
      rw [lookup_append, lookup_of_mem ndn hq]; rfl
    cells := fun y hy => by
      have : y ∈ new.map (·.1) := by
        rw [nm, List.mem_reverse]
        exact List.mem_map.mpr ⟨(y, .cell), List.mem_filter.mpr ⟨PySem.mem_of_lookup hy, rfl⟩, rfl⟩
      obtain ⟨c, hc⟩ := lookup_some this
      exact ⟨c, none, List.mem_map.mpr ⟨_, PySem.mem_of_lookup hc, rfl⟩⟩
    loc := fun y d e q => by have := (lookup_freeOf e).1; rw [q] at this; cases this
    cel := fun y d e q => by have := (lookup_freeOf e).1; rw [q] at this; cases this
    fre := fun y d e q => by
      obtain ⟨_, hd⟩ := lookup_freeOf e
      have hm : (y, NameKind.free) ∈ scope.names := PySem.mem_of_lookup q
      obtain ⟨d', hd', hk'⟩ := hfr y hm
      obtain ⟨c, v, a, b, r⟩ := F.cel y d hd hk'
      refine ⟨c, v, ?_, b, r.mono x (Grow.refl _)⟩
      show (new ++ closeL env scope.names []).lookup y = some c
      have hnn : new.lookup y = none := lookup_none fun hmm => by
        obtain ⟨⟨y', c'⟩, hc', rfl⟩ := List.mem_map.mp hmm
        have := cellName _ _ hc'
        rw [q] at this; cases this
      rw [lookup_append, hnn]
      obtain ⟨c', hc'⟩ := lookup_some (closeL_has env scope.names [] y (.inl hm))
      rcases closeL_mem env _ _ _ _ (PySem.mem_of_lookup hc') with h1 | h1
      · cases h1
      · rw [hc', h1.2, a]; rfl }
end
end Mine
end
section
open PySem PySem.W PyProof.Rows
set_option Elab.async false
set_option maxRecDepth 10000
namespace Mine
noncomputable def turnTail (elt : Expr) (gens : List Comprehension) (scope : Scope) (pos : Pos) (d : Nat) (it acc : Value) (env : Env) (ok : Bool) : Sem Fin :=
  if ok then (match gens[d + 1]? with
    | some g' => do
      let x ← eval g'.iter env
      standAt g'.iter.pos
      let x ← (if g'.is_async != 0 then foldedIterable g'.iter x else foldedSetIterable g'.iter env x)
      let it' ← holding [x] (if g'.is_async != 0 then asyncIter x else pyIter x)
      let _ ← runOwn (.compStart (.ListComp elt gens scope pos) (d + 1) it' acc env) env
      again (.compLoop (.ListComp elt gens scope pos) d it acc env)
    | none => do
      let x ← eval elt env
      let _ ← call (.builtin "list.append") [acc, x]
      again (.compLoop (.ListComp elt gens scope pos) d it acc env))
  else again (.compLoop (.ListComp elt gens scope pos) d it acc env)
theorem compTurn_gen {elt : Expr} {gens : List Comprehension} {scope : Scope} {pos : Pos} {d : Nat} {it acc : Value} {env : Env} {g : Comprehension} (hg : gens[d]? = some g) (ha : g.is_async = 0) :
    compTurn (.ListComp elt gens scope pos) d it acc env = (do
      standAt g.iter.pos
      match ← pyNext it with
      | none => pure (.done .next)
      | some v =>
        letOwnedTupleGo g.target it v
        assign g.target env v
        let ok ← compTests g.ifs env
        turnTail elt gens scope pos d it acc env ok) := by
  unfold compTurn
  simp only [hg, ha]
  simp
  congr 1
  funext _
  congr 1
  funext r
  cases r with
  | none => rfl
  | some v =>
    simp
    congr 1; funext _
    congr 1; funext _
    unfold compTests
    simp
    congr 1; funext ok
    unfold turnTail
    cases ok
    · rfl
    · cases gens[d + 1]? with
      | none => simp
      | some g' => by_cases h0 : g'.is_async = 0 <;> simp [h0]

theorem mark_none (A : Around) : A.mark none = A := by cases A; rfl

section
variable {prog : Program} {w : World} {W : Wd} {K : Frag} {H0 : Heap} {G : Str → Option PyData} {adr : Callee → Option Addr} {A : Around} {Z : Heap} {S : Sg} {R : Own} {s : Shared} {sc : Names} {env : Env} {ρ : Rho} {ev : Expr → M Val}

theorem compStart_gen {elt : Expr} {gens : List Comprehension} {scope : Scope} {pos : Pos} {d : Nat} {it acc : Value} {g : Comprehension} {Rr : Result → Shared → Prop} (hg : gens[d]? = some g) (ha : g.is_async = 0)
    (h0 : codeAny (model prog w) A (.compLoop (.ListComp elt gens scope pos) d it acc env) Rr s)
    (h : wpAny (model prog w) A (pyIter it) (fun it' s' => codeAny (model prog w) A (.compLoop (.ListComp elt gens scope pos) d it' acc env) Rr s') No s) :
    codeAny (model prog w) A (.compStart (.ListComp elt gens scope pos) d it acc env) Rr s := by
  refine codeAny_of_tree ?_
  show wpAny _ _ ((compStart (.ListComp elt gens scope pos) d it acc env).onRaise (fun x => do noteFrame x env; standAt theWindowsPlace)) _ _ s
  refine wpAny_notedAt ?_
  unfold compStart
  have e1 : clausesOf (.ListComp elt gens scope pos) = gens := rfl
  simp only [e1, hg, Option.elim_some, ha]
  show wpAny _ _ (ask >>= _) _ _ s
  refine wpAny_bind (wpAny_askSetting (wpAny_ite ?_))
  split
  · first
      | exact wpAny_bind (wpAny_pure (wpAny_pure (And.intro rfl h0)))
      | exact wpAny_pure (And.intro rfl h0)
  · refine wpAny_bind (wpAny_rule ?_)
    show wpAny _ _ (standAt g.iter.pos >>= _) _ _ s
    exact wpAny_bind (wpAny_standAt (wpAny_bind (wpAny_mono h (fun it' s' h' => wpAny_pure (And.intro rfl h')) fun _ _ z => z.elim)))

theorem sim_tests (htr : TrOk prog w W H0 A sc env ρ R ev) : ∀ (ifs : List Expr) (Z : Heap) (S : Sg) (s : Shared), Ext H0 Z → FrameAt sc env ρ Z S R → Sim (model prog w) W A (RelB R) Z S R s (compTests ifs env) (testsC ev ifs) := by
  have off : ∀ (ifs : List Expr) (s : Shared) (Q : Bool → Shared → Prop), Q false s →
      wpAny (model prog w) A (forIn ifs false fun c r => if r = true then do let ok ← isTrue c env (eval c env); pure (ForInStep.yield ok) else pure (ForInStep.yield r)) Q No s := by
    intro ifs
    induction ifs with
    | nil => intro s Q h; rw [List.forIn_nil]; exact wpAny_pure h
    | cons e r ih => intro s Q h; rw [List.forIn_cons, if_neg (by decide)]; exact wpAny_bind (wpAny_pure (ih s Q h))
  intro ifs
  have key : ∀ (ifs : List Expr) (Z : Heap) (S : Sg) (s : Shared), Ext H0 Z → FrameAt sc env ρ Z S R →
      Sim (model prog w) W A (RelB R) Z S R s (forIn ifs true fun c r => if r = true then do let ok ← isTrue c env (eval c env); pure (ForInStep.yield ok) else pure (ForInStep.yield r)) (testsC ev ifs) := by
    intro ifs
    induction ifs with
    | nil => intro Z S s x0 F; rw [List.forIn_nil]; exact Sim.pure ⟨rfl, rfl⟩
    | cons e r ih =>
      intro Z S s x0 F
      rw [List.forIn_cons, if_pos rfl]
      intro st b σ' he
      obtain ⟨v, σ₁, h1, h2⟩ := M.inv he
      obtain ⟨b1, σ₂, h3, h4⟩ := M.inv h2
      obtain ⟨h30, rfl⟩ := ofO_inv h3
      refine wpAny_bind (wpAny_bind ?_)
      refine wpAny_mono (htr e Z S s x0 F st b1 σ₂ (M.run h1 (by unfold truthM; rw [h30]; rfl))) (fun c s' p => ?_) fun _ _ z => z
      obtain ⟨Z', S', R', h', tk, rfl, x, g, q, st', rfl, rfl⟩ := p
      subst q
      refine wpAny_pure ?_
      dsimp only
      cases c with
      | true =>
        refine wpAny_mono (ih Z' S' _ (x0.trans x) (F.mono x g) st' b σ' h4) (fun a s'' p => SimPost.trans p x g) fun _ _ z => z
      | false =>
        obtain ⟨rfl, rfl⟩ := pure_inv h4
        refine off r _ _ ?_
        exact ⟨Z', S', _, h', tk, rfl, x, g, rfl, st', rfl, rfl⟩
  intro Z S s x0 F
  have e : compTests ifs env = (forIn ifs true fun c r => if r = true then do let ok ← isTrue c env (eval c env); pure (ForInStep.yield ok) else pure (ForInStep.yield r)) := by
    unfold compTests
    simp
  rw [e]
  exact key ifs Z S s x0 F

noncomputable def AccP (D : Addr) (xs : List PyData) (Z1 : Heap) : Addr × (Obj → Prop) := (D, fun o => ∃ vs n, o = listOf vs n ∧ RDs Z1 vs.toList xs)

inductive CompEnd (W : Wd) (sc : Names) (cenv : Env) (ρ : Rho) (Z : Heap) (S : Sg) (Rf R : Own) (D : Addr) (tot : List PyData) (σ' : List MO) (s : Shared) (r : Result) (s' : Shared) : Prop
  | mk (er : r = .ok .next) (Z' : Heap) (S' : Sg) (m' : Str → Option Value) (cv' : CV) (h' : Heap) (tk : Nat) (Z1 : Heap) (e : s' = sh s h' tk) (x : Ext Z Z') (g : Grow S S') (q : abs S' = σ') (F : FrameR sc cenv ρ Z' S' m' cv' Rf) (xa : Ext Z1 Z') (st : St Z' (HR W Z' S' ++ (frOwn cenv.locals m' cv' ++ (AccP D tot Z1 :: R))) h') : CompEnd W sc cenv ρ Z S Rf R D tot σ' s r s'

theorem CompEnd.trans {Z' : Heap} {S' : Sg} {h' : Heap} {tk : Nat} {Rf R : Own} {D : Addr} {tot : List PyData} {σ' : List MO} {r : Result} {s' : Shared} (p : CompEnd W sc env ρ Z' S' Rf R D tot σ' (sh s h' tk) r s') (x : Ext Z Z') (g : Grow S S') :
    CompEnd W sc env ρ Z S Rf R D tot σ' s r s' := by
  obtain ⟨a, Z2, S2, m2, cv2, h2, tk2, Z1, b, c, d, e, f, k, l⟩ := p
  exact ⟨a, Z2, S2, m2, cv2, h2, tk2, Z1, b, x.trans c, g.trans d, e, f, k, l⟩

theorem bindR_other {x y : Str} {d : Val} {ρ : Rho} (h : y ≠ x) : (bindR x d ρ).lookup y = ρ.lookup y := by rw [lookup_bindR]; exact lookup_cons_ne h
theorem bindDs_other {sc : Names} : ∀ (ts : List Expr) (xs : List PyData) (ρ ρ' : Rho), bindDs sc ts xs ρ = some ρ' → ∀ y, y ∉ ts.flatMap nameL → ρ'.lookup y = ρ.lookup y := by
  intro ts
  induction ts with
  | nil => intro xs ρ ρ' h y _; rw [(bindDs0 h).2]
  | cons t ts ih =>
    intro xs ρ ρ' h y hy
    rw [List.flatMap_cons, List.mem_append, not_or] at hy
    refine bindDsE (P := fun _ => ρ'.lookup y = ρ.lookup y) h fun x r ρ₁ h1 h2 => ?_
    rw [ih r ρ₁ ρ' h2 y hy.2]
    refine bindNE (P := fun t ρ₁ => y ∉ nameL t → ρ₁.lookup y = ρ.lookup y) h1 (fun n p _ hy => bindR_other fun q => hy (by rw [q]; exact .head _)) hy.1
theorem bindD_other {sc : Names} (t : Expr) (x : PyData) (ρ ρ' : Rho) (h : bindD sc t x ρ = some ρ') (y : Str) (hy : y ∉ tnames t) : ρ'.lookup y = ρ.lookup y :=
  bindDE (P := fun t _ ρ' => y ∉ tnames t → ρ'.lookup y = ρ.lookup y) h (fun n p _ hy => bindR_other fun q => hy (by rw [q]; exact .head _)) (fun ts c p xs h hy => bindDs_other ts xs ρ _ h y hy) hy

theorem genOk_sub {g : Comprehension} (h : genOk ρ g = true) {x : PyData} {ρ' : Rho} (hb : bindD sc g.target x ρ = some ρ') : ∀ y d, ρ.lookup y = some d → ρ'.lookup y = some d := by
  unfold genOk at h
  rw [Bool.and_eq_true, List.all_eq_true] at h
  intro y d hy
  rw [bindD_other _ _ _ _ hb y fun hm => by have := h.2 y hm; rw [hy] at this; cases this]
  exact hy

theorem fr_in (H F I X : Own) : (H ++ (F ++ (I ++ X))).Perm (H ++ (I ++ (F ++ X))) := List.Perm.append_left _ (perm_in F I X)
end
end Mine
end
section
open PySem PySem.W PyProof.Rows
set_option Elab.async false
set_option maxRecDepth 10000
namespace Mine

noncomputable def genBody (evS : Expr → Rho → M Val) (ev1 : Bool → Expr → Rho → M Src) (sc : Names) (elt : Expr) (g : Comprehension) (gs : List Comprehension) (ρ : Rho) (x : PyData) : M (List PyData) := do
  let ρ' ← ofO (bindD sc g.target x ρ)
  let ok ← testsC (fun e => evS e ρ') g.ifs
  if ok then
    match gs with
    | [] => do
      let v ← evS elt ρ'
      let y ← ofO v.data?
      pure [y]
    | g' :: _ => do
      let src' ← ev1 (isTup g'.target) g'.iter ρ'
      evGens evS ev1 sc elt gs src' ρ'
  else pure []
theorem evGens_cons (evS : Expr → Rho → M Val) (ev1 : Bool → Expr → Rho → M Src) (sc : Names) (elt : Expr) (g : Comprehension) (gs : List Comprehension) (src : Src) (ρ : Rho) :
    evGens evS ev1 sc elt (g :: gs) src ρ = if genOk ρ g then loopC src (genBody evS ev1 sc elt g gs ρ) lim 0 else stop := by
  cases gs <;> rfl

inductive LoopStep (src : Src) (body : PyData → M (List PyData)) (m k : Nat) (σ : List MO) (ys : List PyData) (σ' : List MO) : Prop
  | stop (h : src.at σ k = some none) (e : ys = []) (e2 : σ' = σ) : LoopStep src body m k σ ys σ'
  | item (n : Nat) (x : PyData) (ys' zs : List PyData) (σ₁ : List MO) (lt : n < m) (h : src.at σ k = some (some x)) (hb : body x σ = some (ys', σ₁)) (hl : loopC src body n (k + 1) σ₁ = some (zs, σ')) (e : ys = ys' ++ zs) : LoopStep src body m k σ ys σ'
theorem loopC_inv {src : Src} {body : PyData → M (List PyData)} {m k : Nat} {σ : List MO} {ys : List PyData} {σ' : List MO} (hl : loopC src body m k σ = some (ys, σ')) : LoopStep src body m k σ ys σ' := by
  cases m with
  | zero => (first | exact nope hl | exact nopeB hl | cases hl)
  | succ n =>
    rw [loopC_succ] at hl
    cases hat : src.at σ k with
    | none => simp only [hat] at hl; cases hl
    | some r =>
      simp only [hat] at hl
      cases r with
      | none => cases hl; exact .stop hat rfl rfl
      | some x =>
        obtain ⟨ys', σ1, hb, hrest⟩ := M.inv hl
        obtain ⟨zs, σ2, hl2, hp⟩ := M.inv hrest
        obtain ⟨rfl, rfl⟩ := pure_inv hp
        exact .item n x ys' zs σ1 (Nat.lt_succ_self n) hat hb hl2 rfl

section
variable {prog : Program} {w : World} {W : Wd} {K : Frag} {H0 : Heap} {G : Str → Option PyData} {adr : Callee → Option Addr} {A : Around} {evS : Expr → Rho → M Val} {elt : Expr} {gens : List Comprehension} {scope : Scope} {pos : Pos} {cenv : Env}

noncomputable abbrev ev1Of (evS : Expr → Rho → M Val) (sc : Names) : Bool → Expr → Rho → M Src := fun tup e ρ' => evIter (fun e => evS e ρ') sc tup e

noncomputable def RunOk (prog : Program) (w : World) (W : Wd) (H0 : Heap) (A : Around) (evS : Expr → Rho → M Val) (sc : Names) (elt : Expr) (gens : List Comprehension) (scope : Scope) (pos : Pos) (cenv : Env) (gs : List Comprehension) (d : Nat) : Prop :=
  ∀ (src : Src) (it : Value) (I : Nat → Own) (Z0 : Heap) (S0 : Sg) (ρ : Rho) (t : Expr), gs.head?.map (·.target) = some t → NextOk prog w W t src it I Z0 S0 → SelfOk prog w W it I →
    ∀ Z S m cv Rf R D xs Z1 s ys σ', Ext H0 Z → Ext Z0 Z → Grow S0 S → (∀ p ∈ Rf, p ∈ R) → evGens evS (ev1Of evS sc) sc elt gs src ρ (abs S) = some (ys, σ') → (xs ++ ys).length ≤ 4096 → FrameR sc cenv ρ Z S m cv Rf → Ext Z1 Z →
      St Z (HR W Z S ++ (frOwn cenv.locals m cv ++ (I 0 ++ (AccP D xs Z1 :: R)))) s.heap → codeAny (model prog w) A (.compStart (.ListComp elt gens scope pos) d it (.ref D) cenv) (CompEnd W sc cenv ρ Z S Rf R D (xs ++ ys) σ' s) s

theorem data_some {v : Val} {y : PyData} (h : v.data? = some y) : v = .d y := by cases v <;> cases h; rfl

/-- where a loop stands -/
inductive GI (W : Wd) (sc : Names) (cenv : Env) (Rf R : Own) (D : Addr) (I : Nat → Own) (src : Src) (body : PyData → M (List PyData)) (Z : Heap) (S : Sg) (tot : List PyData) (σ' : List MO) (ρ : Rho) (s : Shared) (n : Nat) (s1 : Shared) : Prop
  | mk (k : Nat) (Z2 : Heap) (S2 : Sg) (m2 : Str → Option Value) (cv2 : CV) (xs2 ys2 : List PyData) (h2 : Heap) (tk2 : Nat) (Z3 : Heap) (e : s1 = sh s h2 tk2) (x : Ext Z Z2) (g : Grow S S2) (hin : InR src k) (hl : loopC src body n k (abs S2) = some (ys2, σ')) (ht : xs2 ++ ys2 = tot)
      (F : FrameR sc cenv ρ Z2 S2 m2 cv2 Rf) (xa : Ext Z3 Z2) (st : St Z2 (HR W Z2 S2 ++ (frOwn cenv.locals m2 cv2 ++ (I k ++ (AccP D xs2 Z3 :: R)))) h2) : GI W sc cenv Rf R D I src body Z S tot σ' ρ s n s1

/-- the end of a turn: the state has moved on -/
inductive GEnd (W : Wd) (sc : Names) (cenv : Env) (Rf R : Own) (D : Addr) (I1 : Own) (Z : Heap) (S : Sg) (tot : List PyData) (σ' : List MO) (ρ : Rho) (s s1 : Shared) : Prop
  | mk (Z2 : Heap) (S2 : Sg) (m2 : Str → Option Value) (cv2 : CV) (h2 : Heap) (tk2 : Nat) (Z3 : Heap) (e : s1 = sh s h2 tk2) (x : Ext Z Z2) (g : Grow S S2) (q : abs S2 = σ') (F : FrameR sc cenv ρ Z2 S2 m2 cv2 Rf) (xa : Ext Z3 Z2)
      (st : St Z2 (HR W Z2 S2 ++ (frOwn cenv.locals m2 cv2 ++ (I1 ++ (AccP D tot Z3 :: R)))) h2) : GEnd W sc cenv Rf R D I1 Z S tot σ' ρ s s1

theorem genOk_async {g : Comprehension} {ρ : Rho} (h : genOk ρ g = true) : g.is_async = 0 := by
  unfold genOk at h
  rw [Bool.and_eq_true] at h
  exact eq_of_beq h.1

/-- the last clause: an item is made and put at the end -/
theorem tail_item {sc : Names} {ρ' : Rho} {Z : Heap} {S : Sg} {s : Shared} {R Rf I1 : Own} {D : Addr} {m : Str → Option Value} {cv : CV} {xs ys : List PyData} {Z3 : Heap} {σ' : List MO} {Q : Fin → Shared → Prop} {d : Nat} {it : Value}
    (hE : ∀ R, EvOk prog w W H0 A sc cenv ρ' R (fun e => evS e ρ')) (hg1 : gens[d + 1]? = none) (x0 : Ext H0 Z) (hsub : ∀ p ∈ Rf, p ∈ R) (F : FrameR sc cenv ρ' Z S m cv Rf) (xa : Ext Z3 Z) (hz : xs.length ≤ 4096)
    (st : St Z (HR W Z S ++ (frOwn cenv.locals m cv ++ (I1 ++ (AccP D xs Z3 :: R)))) s.heap) (hb : (do let v ← evS elt ρ'; let y ← ofO v.data?; pure [y] : M (List PyData)) (abs S) = some (ys, σ'))
    (hQ : ∀ s1, GEnd W sc cenv Rf R D I1 Z S (xs ++ ys) σ' ρ' s s1 → Q (.again (.compLoop (.ListComp elt gens scope pos) d it (.ref D) cenv)) s1) :
    wpAny (model prog w) A (turnTail elt gens scope pos d it (.ref D) cenv true) Q No s := by
  unfold turnTail
  rw [if_pos rfl, hg1]
  have FA : FrameAt sc cenv ρ' Z S (frOwn cenv.locals m cv ++ (I1 ++ (AccP D xs Z3 :: R))) := F.at.sub fun p hp => by
    rcases List.mem_append.mp hp with hp | hp
    · exact List.mem_append_left _ hp
    · exact List.mem_append_right _ (List.mem_append_right _ (.tail _ (hsub p hp)))
  refine stpV hb (hE _ elt Z S s x0 FA) st fun vv u Z8 S8 h8 tk8 x8 g8 hb st8 rv8 => ?_
  refine M.onO hb fun y hy hb => ?_
  obtain ⟨rfl, rfl⟩ := pure_inv hb
  obtain rfl := data_some hy
  obtain ⟨o, ho, vs, nn, rfl, rds⟩ := st8.at (a := D) (P := fun o => ∃ vs n, o = listOf vs n ∧ RDs Z3 vs.toList xs) (by simp [AccP])
  refine wpAny_bind (append_exact ho (by rw [size_of rds]; exact hz) fun h9 hn hsb => ?_)
  have e9 : ∀ X Zx, frOwn cenv.locals m cv ++ (I1 ++ (AccP D X Zx :: R)) = (frOwn cenv.locals m cv ++ I1) ++ AccP D X Zx :: R := fun X Zx => (List.append_assoc _ _ _).symm
  rw [e9] at st8
  obtain ⟨Z9, x9, st9, _⟩ := St.updIn (P' := (AccP D (xs ++ [y]) Z8).2) st8 hsb ⟨_, hn, _, _, rfl, by rw [Array.toList_push]; exact (rds.ext (xa.trans x8)).snoc rv8⟩
  exact wpAny_pure (hQ _ ⟨Z9, S8, m, cv, h9, tk8, Z8, rfl, x8.trans x9, g8, rfl, F.mono (x8.trans x9) g8, x9, by rw [e9]; exact st9⟩)

/-- another clause follows -/
theorem tail_more {sc : Names} {ρ' : Rho} {Z : Heap} {S : Sg} {s : Shared} {R Rf I1 : Own} {D : Addr} {m : Str → Option Value} {cv : CV} {xs ys : List PyData} {Z3 : Heap} {σ' : List MO} {Q : Fin → Shared → Prop} {d : Nat} {it : Value} {g' : Comprehension} {gs' : List Comprehension} (B : Bs prog w W K H0 G adr) (hh : A.handled = none)
    (hE : ∀ R, EvOk prog w W H0 A sc cenv ρ' R (fun e => evS e ρ')) (hns : NoStar (fun e => evS e ρ')) (ih : RunOk prog w W H0 A evS sc elt gens scope pos cenv (g' :: gs') (d + 1)) (hg1 : gens[d + 1]? = some g') (x0 : Ext H0 Z) (hsub : ∀ p ∈ Rf, p ∈ R) (F : FrameR sc cenv ρ' Z S m cv Rf) (xa : Ext Z3 Z) (hz : (xs ++ ys).length ≤ 4096)
    (st : St Z (HR W Z S ++ (frOwn cenv.locals m cv ++ (I1 ++ (AccP D xs Z3 :: R)))) s.heap) (hb : (do let src' ← ev1Of evS sc (isTup g'.target) g'.iter ρ'; evGens evS (ev1Of evS sc) sc elt (g' :: gs') src' ρ' : M (List PyData)) (abs S) = some (ys, σ'))
    (hQ : ∀ s1, GEnd W sc cenv Rf R D I1 Z S (xs ++ ys) σ' ρ' s s1 → Q (.again (.compLoop (.ListComp elt gens scope pos) d it (.ref D) cenv)) s1) :
    wpAny (model prog w) A (turnTail elt gens scope pos d it (.ref D) cenv true) Q No s := by
  unfold turnTail
  rw [if_pos rfl, hg1]
  have FA : FrameAt sc cenv ρ' Z S (frOwn cenv.locals m cv ++ (I1 ++ (AccP D xs Z3 :: R))) := F.at.sub fun p hp => by
    rcases List.mem_append.mp hp with hp | hp
    · exact List.mem_append_left _ hp
    · exact List.mem_append_right _ (List.mem_append_right _ (.tail _ (hsub p hp)))
  have hf : ∀ x, foldedSetIterable g'.iter cenv x = pure x := M.on hb fun _ _ h _ x => folded_plain h
  have ha' : g'.is_async = 0 := M.on hb fun src' σ₁ _ h => by
    rw [evGens_cons] at h
    split at h
    · rename_i hok; exact genOk_async hok
    · (first | exact nope h | exact nopeB h | cases h)
  refine stp hb (sim_head (t := g'.target) B (hE _) hns x0 FA g'.iter) st fun xv src' Z8 S8 R8 h8 tk8 x8 g8 hb st8 rh => ?_
  refine wpAny_bind (wpAny_standAt ?_)
  simp only [ha', bne_self_eq_false, Bool.false_eq_true, if_false]
  rw [hf]
  refine wpAny_bind (wpAny_pure (stpIter rh hh st8 fun it' Z9 S9 I' h9 tk9 x9 g9 q9 st9 hN' hS' => ?_))
  refine wpAny_bind (wpAny_runOwn ?_)
  rw [mark_none]
  have st9' : St Z9 (HR W Z9 S9 ++ (frOwn cenv.locals m cv ++ (I' 0 ++ (AccP D xs Z3 :: (I1 ++ R))))) h9 := by
    refine (st9.perm (fr_in _ _ _ _).symm).perm (List.Perm.append_left _ (List.Perm.append_left _ (List.Perm.append_left _ ?_)))
    exact List.perm_middle
  refine codeAny_mono (ih src' it' I' Z9 S9 ρ' g'.target rfl hN' hS' Z9 S9 m cv Rf (I1 ++ R) D xs Z3 (sh s h9 tk9) ys σ' ((x0.trans x8).trans x9) (Ext.refl _) (Grow.refl _)
    (fun p hp => List.mem_append_right _ (hsub p hp)) (by rw [q9]; exact hb) hz (F.mono (x8.trans x9) (g8.trans g9)) ((xa.trans x8).trans x9) st9') fun r s8 p => ?_
  obtain ⟨rfl, Z10, S10, m10, cv10, h10, tk10, Z11, rfl, x10, g10, q10, F10, xa10, st10⟩ := p
  exact wpAny_pure (hQ _ ⟨Z10, S10, m10, cv10, h10, tk10, Z11, rfl, (x8.trans x9).trans x10, (g8.trans g9).trans g10, q10, F10, xa10, st10.perm (List.Perm.append_left _ (List.Perm.append_left _ List.perm_middle.symm))⟩)

/-- one turn of a clause -/
theorem gen_turn {sc : Names} (B : Bs prog w W K H0 G adr) (hh : A.handled = none) (hE : ∀ ρ R, EvOk prog w W H0 A sc cenv ρ R (fun e => evS e ρ)) (hT : ∀ ρ R, TrOk prog w W H0 A sc cenv ρ R (fun e => evS e ρ)) (hns : ∀ ρ, NoStar (fun e => evS e ρ))
    {g : Comprehension} {gs : List Comprehension} {d : Nat} (hg : gens[d]? = some g) (hg1 : gens[d + 1]? = gs.head?) (ih : RunOk prog w W H0 A evS sc elt gens scope pos cenv gs (d + 1)) {src : Src} {it : Value} {I : Nat → Own} {Z0 : Heap} {S0 : Sg} {ρ : Rho} (hok : genOk ρ g = true) (hN : NextOk prog w W g.target src it I Z0 S0)
    {Z : Heap} {S : Sg} {Rf R : Own} {D : Addr} {tot : List PyData} {s : Shared} {σ' : List MO} (x0 : Ext H0 Z) (xz : Ext Z0 Z) (gz : Grow S0 S) (hsub : ∀ p ∈ Rf, p ∈ R) (hlen : tot.length ≤ 4096) {n : Nat} {s1 : Shared} {Q : Fin → Shared → Prop}
    (hI : GI W sc cenv Rf R D I src (genBody evS (ev1Of evS sc) sc elt g gs ρ) Z S tot σ' ρ s n s1) (h0 : ∀ s1, CompEnd W sc cenv ρ Z S Rf R D tot σ' s (.ok .next) s1 → Q (.done .next) s1)
    (h1 : ∀ k s1, k < n → GI W sc cenv Rf R D I src (genBody evS (ev1Of evS sc) sc elt g gs ρ) Z S tot σ' ρ s k s1 → Q (.again (.compLoop (.ListComp elt gens scope pos) d it (.ref D) cenv)) s1) :
    wpAny (model prog w) A (compTurn (.ListComp elt gens scope pos) d it (.ref D) cenv) Q No s1 := by
  rw [compTurn_gen hg (genOk_async hok)]
  obtain ⟨k, Z2, S2, m2, cv2, xs2, ys2, h2, tk2, Z3, rfl, x2, g2, hin, hl, rfl, F2, xa2, st2⟩ := hI
  refine wpAny_bind (wpAny_standAt ?_)
  have st2' := st2.perm (fr_in _ _ _ _)
  cases loopC_inv hl with
  | stop hat e1 e2 =>
    subst e1 e2
    refine wpAny_bind (wpNext (s := sh s h2 tk2) hN hh (xz.trans x2) (gz.trans g2) hin hat st2' (fun _ Z4 h4 tk4 x4 st4 => ?_) (fun _ _ _ h => nomatch h))
    exact wpAny_pure (h0 _ ⟨rfl, Z4, S2, m2, cv2, h4, tk4, Z3, rfl, x2.trans x4, g2, rfl, F2.mono x4 (Grow.refl _), xa2.trans x4, by rw [List.append_nil]; exact st4⟩)
  | item n' x ys' zs σ1 lt hat hb hl2 e =>
    subst e
    refine wpAny_bind (wpNext (s := sh s h2 tk2) hN hh (xz.trans x2) (gz.trans g2) hin hat st2' (fun h => nomatch h) (fun y v s2 e p => ?_))
    cases e
    refine stpGo p fun Z4 h4 tk4 x4 rv st4 => ?_
    refine M.onO hb fun ρ' hbd hb => ?_
    refine stpStore (sim_bindD hh g.target x ρ ρ' hbd v Z4 _ m2 cv2 (F2.mono x4 (Grow.refl _)) rv (st4.perm (fr_in _ _ _ _).symm)) fun Z6 m6 cv6 h6 tk6 x6 F6 st6 => ?_
    have x26 : Ext Z2 Z6 := x4.trans x6
    have FA : FrameAt sc cenv ρ' Z6 S2 (frOwn cenv.locals m6 cv6 ++ (I (k + 1) ++ (AccP D xs2 Z3 :: R))) := F6.at.sub fun p hp => by
      rcases List.mem_append.mp hp with hp | hp
      · exact List.mem_append_left _ hp
      · exact List.mem_append_right _ (List.mem_append_right _ (.tail _ (hsub p hp)))
    refine stpB hb (sim_tests (hT ρ' _) g.ifs Z6 S2 _ ((x0.trans x2).trans x26) FA) st6 fun ok Z7 S7 h7 tk7 x7 g7 hb st7 => ?_
    have fin : ∀ s1, GEnd W sc cenv Rf R D (I (k + 1)) Z7 S7 (xs2 ++ ys') σ1 ρ' (sh s h7 tk7) s1 → Q (.again (.compLoop (.ListComp elt gens scope pos) d it (.ref D) cenv)) s1 := fun s1 p => by
      obtain ⟨Z8, S8, m8, cv8, h8, tk8, Z9, rfl, x8, g8, q8, F8, xa8, st8⟩ := p
      exact h1 n' _ lt ⟨k + 1, Z8, S8, m8, cv8, xs2 ++ ys', zs, h8, tk8, Z9, rfl, x2.trans (x26.trans (x7.trans x8)), g2.trans (g7.trans g8), InR.succ hat, by rw [q8]; exact hl2, List.append_assoc _ _ _, F8.back (genOk_sub hok hbd), xa8, st8⟩
    cases ok with
    | false =>
      obtain ⟨rfl, rfl⟩ := pure_inv hb
      exact wpAny_pure (fin _ ⟨Z7, S7, m6, cv6, h7, tk7, Z3, rfl, Ext.refl _, Grow.refl _, rfl, F6.mono x7 g7, (xa2.trans x26).trans x7, by rw [List.append_nil]; exact st7⟩)
    | true =>
      have hl' : (xs2 ++ ys').length ≤ 4096 := Nat.le_trans (by rw [← List.append_assoc, List.length_append (as := xs2 ++ ys')]; exact Nat.le_add_right _ _) hlen
      cases gs with
      | nil => exact tail_item (hE ρ') hg1 ((x0.trans x2).trans (x26.trans x7)) hsub (F6.mono x7 g7) ((xa2.trans x26).trans x7) (Nat.le_trans (by rw [List.length_append]; exact Nat.le_add_right _ _) hl') st7 hb fin
      | cons g' gs' => exact tail_more B hh (hE ρ') (hns ρ') ih hg1 ((x0.trans x2).trans (x26.trans x7)) hsub (F6.mono x7 g7) ((xa2.trans x26).trans x7) hl' st7 hb fin

theorem run_ok {sc : Names} (B : Bs prog w W K H0 G adr) (hh : A.handled = none) (hE : ∀ ρ R, EvOk prog w W H0 A sc cenv ρ R (fun e => evS e ρ)) (hT : ∀ ρ R, TrOk prog w W H0 A sc cenv ρ R (fun e => evS e ρ)) (hns : ∀ ρ, NoStar (fun e => evS e ρ)) :
    ∀ (gs : List Comprehension) (d : Nat), gens.drop d = gs → RunOk prog w W H0 A evS sc elt gens scope pos cenv gs d := by
  intro gs
  induction gs with
  | nil => intro d hd src it I Z0 S0 ρ t ht; cases ht
  | cons g gs ihg =>
    intro d hd
    have hg : gens[d]? = some g := by
      have : (gens.drop d)[0]? = some g := by rw [hd]; rfl
      simpa using this
    have hd1 : gens.drop (d + 1) = gs := by rw [← List.drop_drop, hd]; rfl
    have hg1 : gens[d + 1]? = gs.head? := by
      have : (gens.drop (d + 1))[0]? = gs.head? := by rw [hd1]; cases gs <;> rfl
      simpa using this
    have ih := ihg (d + 1) hd1
    intro src it I Z0 S0 ρ t ht hN hS Z S m cv Rf R D xs Z1 s ys σ' x0 xz gz hsub he hlen F xa st
    cases ht
    rw [evGens_cons] at he
    split at he
    case isFalse => (first | exact nope he | exact nopeB he | cases he)
    rename_i hok
    have main : codeAny (model prog w) A (.compLoop (.ListComp elt gens scope pos) d it (.ref D) cenv) (CompEnd W sc cenv ρ Z S Rf R D (xs ++ ys) σ' s) s := by
      refine codeAny_loop rfl (GI W sc cenv Rf R D I src (genBody evS (ev1Of evS sc) sc elt g gs ρ) Z S (xs ++ ys) σ' ρ s) (fun n s1 hI => ?_) lim
        ⟨0, Z, S, m, cv, xs, ys, s.heap, s.toks, Z1, rfl, Ext.refl _, Grow.refl _, InR.zero, he, rfl, F, xa, st⟩
      refine wpAny_noted (wpAny_mono (E := No) (gen_turn B hh hE hT hns hg hg1 ih hok hN x0 xz gz hsub hlen hI (fun _ h => h) fun k _ lt h => ⟨rfl, k, lt, h⟩) (fun _ _ h => h) (fun _ _ z => z.elim))
    exact compStart_gen hg (genOk_async hok) main (hS A 0 Z S _ s _ _ (st.perm (fr_in _ _ _ _)) main)
end
end Mine
end
section
open PySem PySem.W PyProof.Rows
set_option Elab.async false
set_option maxRecDepth 10000
namespace Mine

noncomputable def compM (ev : Expr → M Val) (evS : Expr → Rho → M Val) (sc : Names) (names : Names) (ρ : Rho) (elt : Expr) (g : Comprehension) (gs : List Comprehension) : M (List PyData) := do
  let src ← evIter ev sc (isTup g.target) g.iter
  evGens evS (ev1Of evS names) names elt (g :: gs) src (freeOf names ρ)

section
variable {prog : Program} {w : World} {W : Wd} {K : Frag} {H0 : Heap} {G : Str → Option PyData} {adr : Callee → Option Addr} {A : Around} {Z : Heap} {S : Sg} {R : Own} {s : Shared} {sc : Names} {env : Env} {ρ : Rho} {ev : Expr → M Val} {evS : Expr → Rho → M Val}

theorem comp_core {elt : Expr} {g : Comprehension} {gs : List Comprehension} {scope : Scope} {pos pos' : Pos} {use : Option (Value → Sem Unit)} {Q : Value → Shared → Prop} (B : Bs prog w W K H0 G adr) (hh : A.handled = none)
    (hev : EvOk prog w W H0 A sc env ρ R ev) (hns : NoStar ev) (hE : ∀ cenv ρ R, EvOk prog w W H0 A scope.names cenv ρ R (fun e => evS e ρ)) (hT : ∀ cenv ρ R, TrOk prog w W H0 A scope.names cenv ρ R (fun e => evS e ρ)) (hnS : ∀ ρ, NoStar (fun e => evS e ρ))
    (hok : compOk sc ρ scope.names = true) (hk : scope.kind = .function) (x0 : Ext H0 Z) (F : FrameAt sc env ρ Z S R) (st : St Z (HR W Z S ++ R) s.heap) {xs : List PyData} {σ' : List MO}
    (he : compM ev evS sc scope.names ρ elt g gs (abs S) = some (xs, σ')) (hl : xs.length ≤ 4096)
    (h : ∀ D Z' S' h' tk C m cv, Ext Z Z' → Grow S S' → abs S' = σ' → RD Z' (.ref D) (.list xs) → St Z' (HR W Z' S' ++ (frOwn C m cv ++ R)) h' → compPost (model prog w) A No use Q (.ref D) C (.ok .next) (sh s h' tk)) :
    wpAny (model prog w) A (comprehension (.ListComp elt (g :: gs) scope pos) scope env pos' (newList []) false (eval g.iter env) use) Q No s := by
  obtain ⟨src, σ₁, hs', hg⟩ := M.inv he
  have hnd : (scope.names.map (·.1)).Nodup := by
    unfold compOk at hok
    rw [Bool.and_eq_true] at hok
    exact of_decide_eq_true hok.2
  have hclos := (newEnvC (prog := prog) (w := w) (A := A) (E := No) (Q := fun _ _ => True) hk hok F st fun _ _ _ _ _ _ _ _ _ _ => trivial).1
  refine wpAny_comprehension_free (g := g) (gs := gs) rfl (fun x => folded_plain hs') hclos hk (fun x hx hxl => mem_of_nodup hnd (by obtain ⟨a, b⟩ := x; dsimp only at hxl ⊢; subst hxl; exact hx)) ?_
  refine wpAny_mono (sim_head (t := g.target) B hev hns x0 F g.iter st src σ₁ hs') (fun xv s1 p => ?_) fun _ _ z => z
  obtain ⟨Z1, S1, R1, h1, tk1, rfl, x1, g1, q1, st1, rh⟩ := p
  subst q1
  refine wpAny_mono (rh A _ hh st1) (fun it s2 p => ?_) fun _ _ z => z
  obtain ⟨Z2, S2, I, h2, tk2, rfl, x2, g2, q2, st2, hN, hS⟩ := p
  obtain ⟨Z3, x3, st3, _⟩ := St.iter (I := []) (I' := [AccP h2.objs.size [] Z2]) (h' := h2.push (listOf #[] 0)) st2 (fun b o _ e => Heap.get?_push_of_some _ e)
    (fun p hp => by rw [List.mem_singleton.mp hp]; exact ⟨_, Heap.get?_push_size _ rfl, #[], 0, rfl, .nil⟩) (by simp) (fun p hp => by rw [List.mem_singleton.mp hp]; exact .inr (get_size _))
  refine wpAny_newList ?_ (by simp)
  have F3 : FrameAt sc env ρ Z3 S2 R := F.mono ((x1.trans x2).trans x3) (g1.trans g2)
  refine (newEnvC (prog := prog) (w := w) (A := A) hk hok F3 st3 fun cenv Z4 m cv h4 hsc x4 keep st4 F4 => ?_).2
  have st4' : St Z4 (HR W Z4 S2 ++ (frOwn cenv.locals m cv ++ (I 0 ++ (AccP h2.objs.size [] Z2 :: R)))) h4 := st4.perm (List.Perm.append_left _ (List.Perm.append_left _ (by show ((AccP h2.objs.size [] Z2) :: (I 0 ++ R)).Perm _; exact List.perm_middle.symm)))
  have run := run_ok (prog := prog) (w := w) (W := W) (A := A) (gens := g :: gs) (elt := elt) (scope := scope) (pos := pos) (evS := evS) (cenv := { cenv with scope := relabel scope env }) (sc := scope.names) B hh (hE _) (hT _) hnS (g :: gs) 0 rfl
    src it I Z2 S2 (freeOf scope.names ρ) g.target rfl hN hS Z4 S2 m cv R R h2.objs.size [] Z2 (sh s h4 tk2) xs σ' ((((x0.trans x1).trans x2).trans x3).trans x4) (x3.trans x4) (Grow.refl _) (fun p hp => hp)
    (by rw [q2]; exact hg) (by simpa using hl) F4 (x3.trans x4) st4'
  refine codeAny_mono run fun r s5 p => ?_
  obtain ⟨rfl, Z5, S5, m5, cv5, h5, tk5, Z6, rfl, x5, g5, q5, F5, xa5, st5⟩ := p
  have st5' : St Z5 (AccP h2.objs.size ([] ++ xs) Z6 :: (HR W Z5 S5 ++ (frOwn cenv.locals m5 cv5 ++ R))) h5 := by
    refine st5.perm ?_
    rw [← List.append_assoc, ← List.append_assoc]
    exact List.perm_middle
  obtain ⟨o, Z7, ⟨vs, n, rfl, rds⟩, x7, st7, e7⟩ := st5'.freeze
  exact h h2.objs.size Z7 S5 h5 tk5 cenv.locals m5 cv5 (((((x1.trans x2).trans x3).trans x4).trans x5).trans x7) ((g1.trans g2).trans g5) q5 (.list e7 (rds.ext (xa5.trans x7))) (St.mono (T := S5) st7 x7 (Grow.refl _))

/-- the frame of a comprehension goes -/
theorem drop_frame {C : Addr} {m : Str → Option Value} {cv : CV} {h h' : Heap} (st : St Z (HR W Z S ++ (frOwn C m cv ++ R)) h) (hs : Heap.SameBut C h h') : Up Z (fun Z' => HR W Z' S ++ R) h' fun _ => True := by
  obtain ⟨Z', x, st', _⟩ := St.iter (I' := []) (h' := h') st (fun b o hb e => (hs.2 b (fun q => hb (by rw [q]; unfold frOwn; simp))).trans e) (fun _ h => nomatch h) List.nodup_nil (fun _ h => nomatch h)
  exact ⟨Z', x, st', trivial⟩

theorem sim_ListComp {elt : Expr} {g : Comprehension} {gs : List Comprehension} {scope : Scope} {pos : Pos} (B : Bs prog w W K H0 G adr) (hh : A.handled = none) (hasync : g.is_async = 0)
    (hev : EvOk prog w W H0 A sc env ρ R ev) (hns : NoStar ev) (hE : ∀ cenv ρ R, EvOk prog w W H0 A scope.names cenv ρ R (fun e => evS e ρ)) (hT : ∀ cenv ρ R, TrOk prog w W H0 A scope.names cenv ρ R (fun e => evS e ρ)) (hnS : ∀ ρ, NoStar (fun e => evS e ρ))
    (hok : compOk sc ρ scope.names = true) (hk : scope.kind = .function) (x0 : Ext H0 Z) (F : FrameAt sc env ρ Z S R) :
    Sim (model prog w) W A (RelV R) Z S R s (eval (.ListComp elt (g :: gs) scope pos) env) (do
      let xs ← compM ev evS sc scope.names ρ elt g gs
      if okLen xs.length then pure (.d (.list xs)) else stop) := by
  intro st b σ' he
  obtain ⟨xs, σ₁, h1, h2⟩ := M.inv he
  split at h2
  · rename_i hl
    obtain ⟨rfl, rfl⟩ := pure_inv h2
    rw [arm_eval_ListComp]
    have e1 : firstAsync (g :: gs) = false := by
      cases g with
      | mk a b c d =>
        show (d != 0) = false
        rw [show d = 0 from hasync]; rfl
    have e2 : firstIter (g :: gs) env = eval g.iter env := by cases g; rfl
    dsimp only
    rw [e1, e2]
    refine comp_core B hh hev hns hE hT hnS hok hk x0 F st h1 (okLen_of hl) fun D Z' S' h' tk C m cv x gr q rd st' => ?_
    refine ⟨m, NsP.ns (st'.at (R := frOwn C m cv ++ R) (.head _)), fun h2 hs => ?_⟩
    obtain ⟨Z2, x2, st2, _⟩ := drop_frame st' hs
    exact ⟨Z2, S', R, h2, tk, rfl, x.trans x2, gr, q, st2, rfl, rd.ext x2⟩
  · (first | exact nope h2 | exact nopeB h2 | cases h2)
end
end Mine
end
section
open PySem PySem.W PyProof.Rows
set_option Elab.async false
set_option maxRecDepth 10000
namespace Mine

theorem noStar_evE (C : Calls) (G : Str → Option PyData) : ∀ n sc ρ, NoStar (evE C G n sc ρ)
  | 0, _, _ => fun _ _ _ => rfl
  | _ + 1, _, _ => fun _ _ _ => rfl
theorem marks_set {op : CmpOp} {r : Expr} (h : behindInMarks op r = true) : ∃ es k p, r = .Set es k p := by
  cases r <;> first | exact ⟨_, _, _, rfl⟩ | cases h
theorem evE_set (C : Calls) (G : Str → Option PyData) (n : Nat) (sc : Names) (ρ : Rho) (es : List Expr) (k : Nat) (p : Pos) (σ : List MO) : evE C G n sc ρ (.Set es k p) σ = none := by cases n <;> rfl

section
variable {prog : Program} {w : World} {W : Wd} {K : Frag} {H0 : Heap} {G : Str → Option PyData} {adr : Callee → Option Addr} {A : Around} {Z : Heap} {S : Sg} {R : Own} {s : Shared} {sc : Names} {env : Env} {ρ : Rho} {ev : Expr → M Val}

noncomputable def SortedOk (prog : Program) (w : World) (W : Wd) : Prop := ∀ (A : Around) (n : Nat) (Z : Heap) (S : Sg) (R : Own) (s : Shared) (v : Value) (d : Val) (y : PyData), Room n A → sortedSetD d = some y → RV Z S v d → St Z (HR W Z S ++ R) s.heap →
  wpAny (model prog w) A (call (.type "set") [v]) (fun u s' => wpAny (model prog w) A (call (.builtin "sorted") [u]) (SimPost W (RelV R) s Z S (.d y) (abs S)) No s') No s

theorem sim_sorted {n : Nat} (hS : SortedOk prog w W) (B : Bs prog w W K H0 G adr) (rm : Room n A) (hev : EvOk prog w W H0 A sc env ρ R ev) (hns : NoStar ev) (x0 : Ext H0 Z) (F : FrameAt sc env ρ Z S R)
    {p p2 pos pos2 : Pos} {e : Expr} (h1 : sc.lookup ("sorted" : Str) = some .globalImplicit) (h2 : sc.lookup ("set" : Str) = some .globalImplicit) :
    Sim (model prog w) W A (RelV R) Z S R s (eval (.Call (.Name "sorted" p) [.Call (.Name "set" p2) [e] [] pos2] [] pos) env) (setE ev e) := by
  rw [arm_eval_Call_Name']
  intro st b σ' he
  have hne : ∀ e' p, e ≠ .Starred e' p := M.on he fun d σ₁ a1 _ e' p q => by subst q; rw [hns] at a1; cases a1
  refine wp_any fun Q hQ => ?_
  refine wpAny_bind (wp_fixed B x0 F st h1 (by decide) (v := .builtin "sorted") rfl ?_)
  refine callWith_of (P := fun _ => True) (by rw [starEach_plain (fun _ _ q => Expr.noConfusion q)]; rfl) (fun h _ => keeper_builtin (f := "sorted") rfl h) ?_
  rw [starEach_plain (e := .Call (.Name "set" p2) [e] [] pos2) (fun _ _ q => Expr.noConfusion q)]
  refine Calls.evalArgs_plain ?_
  show wpAny _ _ (spliced ((false, eval (.Call (.Name "set" p2) [e] [] pos2) env) :: (backTo pos (starEach [] env)))) _ _ _
  rw [spliced]
  simp only [Bool.false_eq_true, if_false]
  refine wpAny_bind ?_
  rw [arm_eval_Call_Name']
  refine wpAny_bind (wp_fixed B x0 F st h2 (by decide) (v := .type "set") rfl ?_)
  refine callWith_of (P := fun _ => True) (by rw [starEach_plain hne]; rfl) (fun h _ => keeper_builtin (f := "set") rfl h) ?_
  rw [starEach_plain hne]
  refine Calls.evalArgs_plain ?_
  show wpAny _ _ (spliced ((false, eval e env) :: (backTo pos2 (starEach [] env)))) _ _ _
  rw [spliced]
  simp only [Bool.false_eq_true, if_false]
  refine stpV he (hev e Z S s x0 F) st fun v d Z' S' h' tk k g he st' rv => M.onO he fun y a5 he => ?_
  obtain ⟨rfl, rfl⟩ := pure_inv he
  refine wpAny_bind (wpAny_pure (wpAny_bind (wpAny_holding ?_)))
  show wpAny _ _ (spliced []) _ _ _
  rw [spliced]
  refine wpAny_pure (wpAny_pure ⟨trivial, ?_⟩)
  show wpAny _ _ (call (.type "set") [v]) _ _ _
  refine wpAny_mono (hS A n Z' S' _ (sh s h' tk) v d y rm a5 rv st') (fun u s2 q => ?_) fun _ _ z => z
  refine wpAny_bind (wpAny_pure (wpAny_bind (wpAny_holding ?_)))
  show wpAny _ _ (spliced []) _ _ _
  rw [spliced]
  refine wpAny_pure (wpAny_pure ⟨trivial, ?_⟩)
  show wpAny _ _ (call (.builtin "sorted") [u]) _ _ _
  exact wpAny_mono q (fun _ _ p => hQ _ _ (SimPost.trans p k g)) fun _ _ z => z

theorem sim_none {t : Sem Value} {c : M Val} (h : ∀ σ, c σ = none) : Sim (model prog w) W A (RelV R) Z S R s t c := fun _ b σ' e => by rw [h] at e; cases e
theorem simB_none {t : Sem Bool} {c : M Bool} (h : ∀ σ, c σ = none) : Sim (model prog w) W A (RelB R) Z S R s t c := fun _ b σ' e => by rw [h] at e; cases e

theorem sim_ite {t : Sem Value} {c : M Val} {b : Bool} (h : b = true → Sim (model prog w) W A (RelV R) Z S R s t c) : Sim (model prog w) W A (RelV R) Z S R s t (if b then c else stop) := simIf h fun _ => Sim.stop
section
variable {n r : Nat} {C : Calls} (B : Bs prog w W K H0 G adr) (hw : W.hk = fun k => hashD w (tkD k)) (hC : CallsOk prog w W H0 adr r C) (hS : SortedOk prog w W) (rm : Room r A) (hev : EvOk prog w W H0 A sc env ρ R ev) (hns : NoStar ev) (hset : ∀ es k p σ, ev (.Set es k p) σ = none) (x0 : Ext H0 Z) (F : FrameAt sc env ρ Z S R)
include hev x0 F
theorem sim_un {op : UnaryOp} {x : Expr} {pos : Pos} : Sim (model prog w) W A (RelV R) Z S R s (eval (.UnaryOp op x pos) env) (unE ev op x) := by
  cases op with
  | USub => exact sim_USub hev x0 F
  | Not => exact sim_Not hev x0 F
  | _ => exact Sim.stop
include hw rm in
theorem sim_sub {v i : Expr} {pos : Pos} : Sim (model prog w) W A (RelV R) Z S R s (eval (.Subscript v i pos) env) (subE ev v i) := by
  have it := fun h => sim_Subscript (s := s) (v := v) (i := i) (pos := pos) ⟨_, rm⟩ hw hev x0 F h
  cases i with
  | Slice lo hi st p =>
    cases st with
    | none => exact sim_Cut hev x0 F
    | some e => exact Sim.stop
  | _ => exact it fun lo hi p q => nomatch q
include hns B rm in
theorem sim_isi {p fp : Pos} {e t : Expr} (hsc : sc.lookup ("isinstance" : Str) = some .globalImplicit) : Sim (model prog w) W A (RelV R) Z S R s (eval (.Call (.Name "isinstance" fp) [e, t] [] p) env) (isiE ev sc e t) := by
  have no := Sim.stop (Md := model prog w) (W := W) (A := A) (Rel := RelV R) (Z := Z) (S := S) (R := R) (s := s) (t := eval (.Call (.Name "isinstance" fp) [e, t] [] p) env) (β := Val)
  cases t with
  | Name t p2 => exact sim_ite fun h => and2 h fun h1 h2 => sim_isiCall B rm hev hns x0 F hsc (eq_of_beq h1) ((Bool.not_eq_true' _).mp h2)
  | _ => exact no
include hns B rm hS in
theorem sim_sort {p fp : Pos} {e : Expr} (hsc : sc.lookup ("sorted" : Str) = some .globalImplicit) : Sim (model prog w) W A (RelV R) Z S R s (eval (.Call (.Name "sorted" fp) [e] [] p) env) (sortE ev sc e) := by
  have no := Sim.stop (Md := model prog w) (W := W) (A := A) (Rel := RelV R) (Z := Z) (S := S) (R := R) (s := s) (t := eval (.Call (.Name "sorted" fp) [e] [] p) env) (β := Val)
  cases e with
  | Call g as ks p2 =>
    cases g with
    | Name g gp =>
      refine sim_ite fun h => and2 h fun h h3 => and2 h fun h1 h2 => Sim.ofOb fun e he => ?_
      obtain rfl := eq_of_beq h2
      obtain rfl := List.isEmpty_iff.mp h3
      rw [one_eq he]
      exact sim_sorted hS B rm hev hns x0 F hsc (eq_of_beq h1)
    | _ => exact no
  | _ => exact no
include hns B rm hS hC in
theorem sim_nameE {f : Str} {args : List Expr} {p fp : Pos} (hsc : sc.lookup f = some .globalImplicit) (hbn : badName f = false) (h8 : args.length ≤ 8) : Sim (model prog w) W A (RelV R) Z S R s (eval (.Call (.Name f fp) args [] p) env) (nameE C ev sc f args) := by
  refine simIf (fun h => Sim.ofOb fun q hq => ?_) fun _ => simIf (fun h => Sim.ofOb fun q hq => ?_) fun _ => simIf (fun hb => sim_bltCall B rm hev hns x0 F h8 hsc hbn hb) fun _ => sim_fnCall B hC rm hev hns x0 F h8 hsc hbn
  · obtain rfl := eq_of_beq h
    rw [two_eq hq]
    exact sim_isi B rm hev hns x0 F hsc
  · obtain rfl := eq_of_beq h
    rw [one_eq hq]
    exact sim_sort B hS rm hev hns x0 F hsc
include hns B rm hS hC in
theorem sim_callE {f : Expr} {args : List Expr} {ks : List Keyword} {p : Pos} : Sim (model prog w) W A (RelV R) Z S R s (eval (.Call f args ks p) env) (callE C ev sc f args ks p) := by
  have no := Sim.stop (Md := model prog w) (W := W) (A := A) (Rel := RelV R) (Z := Z) (S := S) (R := R) (s := s) (t := eval (.Call f args ks p) env) (β := Val)
  cases f with
  | Attribute o name ap =>
    refine sim_ite fun h => and2 h fun h h4 => and2 h fun h h3 => and2 h fun h1 h2 => ?_
    obtain rfl := List.isEmpty_iff.mp h4
    exact sim_methodCall B hC rm hev hns x0 F h1 (of_decide_eq_true h2) h3
  | Name f fp =>
    refine sim_ite fun h => and2 h fun h h4 => and2 h fun h h3 => and2 h fun h1 h2 => ?_
    obtain rfl := List.isEmpty_iff.mp h4
    exact sim_nameE B hC hS rm hev hns x0 F (eq_of_beq h1) ((Bool.not_eq_true' _).mp h2) (of_decide_eq_true h3)
  | _ => exact no
theorem sim_fmt {a : Expr} {t : Str} {f : Expr} {pos : Pos} (ha : strC a = some t) : Sim (model prog w) W A (RelV R) Z S R s (eval (.JoinedStr [a, f] pos) env) (fmtE ev t f) := by
  have no := Sim.stop (Md := model prog w) (W := W) (A := A) (Rel := RelV R) (Z := Z) (S := S) (R := R) (s := s) (t := eval (.JoinedStr [a, f] pos) env) (β := Val)
  cases f with
  | FormattedValue e cv sp fp =>
    refine sim_ite fun h => and2 h fun h1 h2 => ?_
    obtain rfl := eq_of_beq h1
    obtain rfl := Option.isNone_iff_eq_none.mp h2
    cases a with
    | Constant c k p =>
      cases c with
      | str x => cases ha; exact sim_JoinedStr hev x0 F
      | _ => (first | exact nope ha | exact nopeB ha | cases ha)
    | _ => (first | exact nope ha | exact nopeB ha | cases ha)
  | _ => exact no
theorem sim_join {vs : List Expr} {pos : Pos} : Sim (model prog w) W A (RelV R) Z S R s (eval (.JoinedStr vs pos) env) (joinE ev vs) := by
  refine Sim.ofOb fun q hq => ?_
  rw [two_eq hq]
  exact Sim.ofOb fun t ht => sim_fmt hev x0 F ht
include hset in
theorem cmp_marks {op : CmpOp} {l r : Expr} (h : behindInMarks op r = true) : ∀ σ, cmpE ev l op r σ = none := by
  intro σ
  obtain ⟨es, k, p, rfl⟩ := marks_set h
  unfold cmpE
  cases h1 : ev l σ with
  | none => exact M.bind_none h1
  | some q => rw [M.bind_some h1]; exact M.bind_none (hset es k p _)
include rm hw hset in
theorem sim_cmps {l : Expr} {ops : List CmpOp} {rs : List Expr} {pos : Pos} : Sim (model prog w) W A (RelV R) Z S R s (eval (.Compare l ops rs pos) env) (cmpsE ev l ops rs) := by
  refine Sim.ofOb fun op hop => Sim.ofOb fun r hr => ?_
  rw [one_eq hop, one_eq hr]
  cases hm : behindInMarks op r with
  | false => exact sim_Compare ⟨_, rm⟩ hw hev x0 F hm
  | true => exact sim_none (cmp_marks hev hset x0 F hm)
include rm hw hset in
theorem tr_cmps {l : Expr} {ops : List CmpOp} {rs : List Expr} {pos : Pos} {whole : Sem Value} : Sim (model prog w) W A (RelB R) Z S R s (isTrue (.Compare l ops rs pos) env whole) (cmpsE ev l ops rs >>= truthM) := by
  unfold cmpsE
  rw [M.assoc]
  refine Sim.ofOb fun op hop => ?_
  rw [M.assoc]
  refine Sim.ofOb fun r hr => ?_
  rw [one_eq hop, one_eq hr]
  cases hm : behindInMarks op r with
  | false => exact tr_Compare ⟨_, rm⟩ hw hev x0 F hm
  | true => exact simB_none fun σ => M.bind_none (cmp_marks hev hset x0 F hm σ)
end
theorem sim_comp {n r : Nat} {C : Calls} (B : Bs prog w W K H0 G adr) (rm : Room r A) (hE : ∀ sc env ρ R, EvOk prog w W H0 A sc env ρ R (evE C G n sc ρ)) (hT : ∀ sc env ρ R, TrOk prog w W H0 A sc env ρ R (evE C G n sc ρ)) (x0 : Ext H0 Z) (F : FrameAt sc env ρ Z S R) {elt : Expr} {gens : List Comprehension} {scope : Scope} {pos : Pos} :
    Sim (model prog w) W A (RelV R) Z S R s (eval (.ListComp elt gens scope pos) env) (compE (evE C G n) sc ρ elt gens scope) := by
  cases gens with
  | nil => exact Sim.stop
  | cons g gs =>
    refine sim_ite fun h => and2 h fun h1 h2 => ?_
    by_cases ha : g.is_async = 0
    · have := sim_ListComp (s := s) (elt := elt) (g := g) (gs := gs) (scope := scope) (pos := pos) (evS := fun e ρ' => evE C G n scope.names ρ' e) B rm.hh ha (hE sc env ρ R) (noStar_evE C G n sc ρ) (fun cenv ρ R => hE _ cenv ρ R) (fun cenv ρ R => hT _ cenv ρ R) (fun ρ => noStar_evE C G n _ ρ) h1 (eq_of_beq h2) x0 F
      unfold compM at this
      rw [M.assoc] at this
      exact this
    · refine fun _ b σ' he => M.on he fun src σ₁ _ he => M.on he fun xs σ₂ h3 _ => ?_
      rw [evGens_cons] at h3
      have : genOk (freeOf scope.names ρ) g = false := by unfold genOk; simp [ha]
      rw [this] at h3
      cases h3
theorem evE_step {r n : Nat} {C : Calls} (B : Bs prog w W K H0 G adr) (hw : W.hk = fun k => hashD w (tkD k)) (hC : CallsOk prog w W H0 adr r C) (hS : SortedOk prog w W) (rm : Room r A)
    (hE : ∀ sc env ρ R, EvOk prog w W H0 A sc env ρ R (evE C G n sc ρ)) (hT : ∀ sc env ρ R, TrOk prog w W H0 A sc env ρ R (evE C G n sc ρ)) : ∀ sc env ρ R, EvOk prog w W H0 A sc env ρ R (evE C G (n + 1) sc ρ) := by
  intro sc env ρ R e Z S s x0 F
  have hns := noStar_evE C G n sc ρ
  have hev := hE sc env ρ R
  have hset := evE_set C G n sc ρ
  cases e with
  | Constant c k p => exact sim_const
  | Name x p => exact sim_name B x0 F
  | BinOp l op r p => exact sim_BinOp hev x0 F
  | UnaryOp op x p => exact sim_un hev x0 F
  | BoolOp op es p => rw [arm_eval_BoolOp]; exact sim_bool hev _ Z S s x0 F
  | IfExp t a b p => exact sim_IfExp hev (hT sc env ρ R) x0 F
  | Compare l ops rs p => exact sim_cmps hw rm hev hset x0 F
  | Tuple es k p => exact sim_tuple hev hns x0 F
  | List es p => exact sim_list hev hns x0 F
  | Subscript v i pos => exact sim_sub hw rm hev x0 F
  | Attribute o name p => exact sim_ite fun h => sim_Attribute B hev x0 F h
  | Call f args kws pos => exact sim_callE B hC hS rm hev hns x0 F
  | ListComp elt gens scope pos => exact sim_comp B rm hE hT x0 F
  | JoinedStr vs pos => exact sim_join hev x0 F
  | _ => exact Sim.stop

theorem evE_ok {r : Nat} {C : Calls} (B : Bs prog w W K H0 G adr) (hw : W.hk = fun k => hashD w (tkD k)) (hC : CallsOk prog w W H0 adr r C) (hS : SortedOk prog w W) (rm : Room r A) :
    ∀ n, (∀ sc env ρ R, EvOk prog w W H0 A sc env ρ R (evE C G n sc ρ)) ∧ (∀ sc env ρ R, TrOk prog w W H0 A sc env ρ R (evE C G n sc ρ))
  | 0 => ⟨fun sc env ρ R e Z S s x0 F => Sim.stop, fun sc env ρ R e Z S s x0 F => simB_none fun σ => rfl⟩
  | n + 1 => by
    obtain ⟨hE, hT⟩ := evE_ok B hw hC hS rm n
    have hE1 := evE_step B hw hC hS rm hE hT
    refine ⟨hE1, fun sc env ρ R e Z S s x0 F => ?_⟩
    have plain := fun (h : isTrue e env (eval e env) = (do
      let v ← eval e env
      standAt e.pos
      holding [v] (truthy v))) => tr_plain (s := s) (hE1 sc env ρ R) x0 F h
    cases e with
    | UnaryOp op x pos =>
      cases op with
      | Not => exact tr_Not (hT sc env ρ R) x0 F
      | _ => exact plain rfl
    | BoolOp op es pos =>
      rw [arm_isTrue_BoolOp]
      exact sim_allTrue (hT sc env ρ R) es Z S s x0 F
    | IfExp t a b pos => exact tr_IfExp (hT sc env ρ R) x0 F
    | Compare l ops rs pos =>
      exact tr_cmps hw rm (hE sc env ρ R) (evE_set C G n sc ρ) x0 F
    | _ => exact plain rfl
end
end Mine
end
section
open PySem PySem.W PyProof.Rows
set_option Elab.async false
set_option maxRecDepth 10000
namespace Mine

theorem Grow.push (S : Sg) (l : Lc) : Grow S (S ++ [l]) := fun i m e => ⟨m, by
  have hi : i < S.length := by
    rcases Nat.lt_or_ge i S.length with h | h
    · exact h
    · rw [List.getElem?_eq_none h] at e; cases e
  rw [List.getElem?_append_left hi]; exact e, rfl, rfl⟩
theorem abs_push (S : Sg) (l : Lc) : abs (S ++ [l]) = abs S ++ [l.m] := by unfold abs; simp
theorem get_push (S : Sg) (l : Lc) : (S ++ [l])[S.length]? = some l := by simp

section
variable {prog : Program} {w : World} {W : Wd} {K : Frag} {H0 : Heap} {G : Str → Option PyData} {adr : Callee → Option Addr} {A : Around} {Z : Heap} {S : Sg} {R : Own} {s : Shared}

theorem St.newMO {h h' : Heap} (l : Lc) (st : St Z (HR W Z S ++ R) h) (k : Ext h h') (n : ∀ p ∈ mres W Z S l, ∃ o, h'.get? p.1 = some o ∧ p.2 o) (nd : ((mres W Z S l).map (·.1)).Nodup) (ap : ∀ p ∈ mres W Z S l, h.get? p.1 = none) :
    Up Z (fun Z' => HR W Z' (S ++ [l]) ++ R) h' fun _ => Grow S (S ++ [l]) := by
  obtain ⟨Z', x, st', _⟩ := St.iter (I := []) (I' := mres W Z S l) (h' := h') st (fun b o _ e => k b o e) n nd (fun p hp => .inr (ap p hp))
  refine ⟨Z', x, ?_, Grow.push S l⟩
  have g := Grow.push S l
  have e : HR W Z' (S ++ [l]) ++ R = S.flatMap (mres W Z' (S ++ [l])) ++ (mres W Z' (S ++ [l]) l ++ R) := by
    unfold HR
    rw [List.flatMap_append, List.append_assoc]
    simp
  rw [e]
  exact st'.weak (paired_append (HR_mono' (Ext.refl _) g S) (paired_append (mres_mono x g l) (wk_refl R)))

theorem putL_new {n : Str} {hsh : Int} {key v : Value} : ∀ {es : List DictEntry}, (∀ e ∈ es, e.key.isStr n = false) → putL n hsh key v es = es ++ [⟨hsh, key, v⟩]
  | [], _ => rfl
  | e :: r, h => by
    unfold putL
    rw [h e (.head _)]
    simp only [Bool.false_eq_true, if_false]
    rw [putL_new fun x hx => h x (.tail _ hx)]; rfl

theorem fields_fresh {es : List DictEntry} {fs : List (Str × Val)} (r : FieldsAre Z S es fs) {n : Str} (h : fs.lookup n = none) : ∀ e ∈ es, e.key.isStr n = false := by
  induction r with
  | nil => intro e he; cases he
  | @cons e0 f es fs h0 r ih =>
    obtain ⟨k, d⟩ := f
    obtain ⟨⟨t, ek⟩, rv⟩ := h0
    dsimp only at ek
    rw [List.lookup_cons] at h
    have hne : (n == k) = false := by cases q : n == k with | false => rfl | true => rw [q] at h; cases h
    rw [hne] at h
    intro e he
    rcases List.mem_cons.mp he with rfl | he
    · rw [ek]
      show (k == n) = false
      have : k ≠ n := fun q => by subst q; simp at hne
      simpa using this
    · exact ih h e he

theorem osa_field {x C dx : Addr} {es : List DictEntry} {m : Nat} {name : Str} {tk0 : Tok} {v : Value} {Rr : Result → Shared → Prop} (X : K.In s.heap) (I : InstAt s.heap x (instObj C dx) C (some (dictOf es m))) (ck : ClsOk K C) (hf : fieldNames.contains name = true)
    (hn : ∀ e ∈ es, e.key.isStr name = false) (hr : es.any (·.refKey) = false) (hz : es.length ≤ 100)
    (h : ∀ h' hsh t, h'.get? dx = some (dictOf (es ++ [⟨hsh, .str name t, v⟩]) (m + 1)) → Heap.SameBut dx s.heap h' → ∀ tk, Rr (.ok (.ret .none)) (sh s h' tk)) :
    codeAny (model prog w) A (.call (.builtin "object.__setattr__") ⟨[.ref x, .str name tk0, v], []⟩) Rr s := by
  have ht : takerIn K C name = some none := by unfold takerIn; rw [ck.flds name hf]; rfl
  refine osa_open X I ck.over ht fun b => ?_
  obtain ⟨cd, hc, hd'⟩ := any_some ck.dict
  have D := I.dict
  have hx := I.at_
  dsimp only at D
  refine wpAny_bind (wpAny_pure (wpAny_bind (wpAny_bind (wpAny_loadPart hx (wpAny_bind ((looks_clsIn X hc).here ?_))))))
  rw [hd']
  refine wpAny_pure (a := some dx) (wpAny_bind (wpAny_pure (wpAny_bind ?_)))
  unfold nsSet
  refine wpAny_bind (wpAny_bind (wpAny_askSetting (wpAny_pure (wpAny_bind (wpAny_mkText (wpAny_bind (wpAny_loadPart D ?_)))))))
  dsimp only
  have c : (!es.toArray.any (·.key.isStr name) && es.toArray.any (·.refKey)) = false := by
    have h2 : es.toArray.any (fun e : DictEntry => e.refKey) = false := by rw [← Array.any_toList]; exact hr
    rw [h2, Bool.and_false]
  rw [aRefKeyMayBeTheName_at, c]
  have e1 := putName_dict name (PyData.keyHash w.params name) (.str name s.toks) v es m
  have e2 : putN name es m = m + 1 := by
    unfold putN
    rw [if_neg]
    rw [Bool.not_eq_true, List.any_eq_false]
    intro e he
    rw [hn e he]; simp
  rw [putL_new hn, e2] at e1
  have hup : (s.heap.update dx (Obj.putName name (PyData.keyHash w.params name) (.str name s.toks) v)).get? dx = some (dictOf (es ++ [⟨PyData.keyHash w.params name, .str name s.toks, v⟩]) (m + 1)) := by
    rw [Heap.get?_update_self _ D (by rw [e1]; rfl), e1]
  refine wpAny_updatePart D ?_
  refine wpAny_bind (wpAny_lookBehind hup (pastItsLine_dict (by rw [List.size_toArray, List.length_append, List.length_singleton, sizeLine_eq]; (first | lia | omega))) ?_)
  exact wpAny_pure (h _ _ _ hup (Heap.SameBut.update ..) _)

/-- a new field of a made thing -/
theorem set_field {x C dx : Addr} {es : List DictEntry} {m : Nat} {name : Str} {v : Value} {Q : Unit → Shared → Prop} {E : Value → Shared → Prop} (X : K.In s.heap) (I : InstAt s.heap x (instObj C dx) C (some (dictOf es m))) (ck : ClsOk K C) (hf : fieldNames.contains name = true)
    (hn : ∀ e ∈ es, e.key.isStr name = false) (hr : es.any (·.refKey) = false) (hz : es.length ≤ 100)
    (h : ∀ h' hsh t, h'.get? dx = some (dictOf (es ++ [⟨hsh, .str name t, v⟩]) (m + 1)) → Heap.SameBut dx s.heap h' → ∀ tk, Q () (sh s h' tk)) : wpAny (model prog w) A (setAttr (.ref x) name v) Q E s :=
  set_plain X I ck.set (osa_field (s := { s with toks := s.toks + 1 }) X I ck hf hn hr hz fun h' hsh t a b tk => h h' hsh t a b tk)

theorem any_ref {es : List DictEntry} {fs : List (Str × Val)} (r : FieldsAre Z S es fs) : es.any (·.refKey) = false := by
  induction r with
  | nil => rfl
  | cons h _ ih => obtain ⟨⟨t, e⟩, _⟩ := h; rw [List.any_cons, ih]; unfold DictEntry.refKey; rw [e]; rfl
theorem fields_len {es : List DictEntry} {fs : List (Str × Val)} (r : FieldsAre Z S es fs) : es.length = fs.length := by
  induction r with
  | nil => rfl
  | cons _ _ ih => rw [List.length_cons, List.length_cons, ih]

inductive SetPost (W : Wd) (R : Own) (σ' : List MO) (Z : Heap) (S : Sg) (s : Shared) (u : Unit) (s' : Shared) : Prop
  | mk (Z' : Heap) (S' : Sg) (h' : Heap) (tk : Nat) (e : s' = sh s h' tk) (x : Ext Z Z') (g : Grow S S') (q : abs S' = σ') (st : St Z' (HR W Z' S' ++ R) h') : SetPost W R σ' Z S s u s'

theorem sim_storeAttr (B : Bs prog w W K H0 G adr) (x0 : Ext H0 Z) {o : Value} {a v : Val} {u : Value} {n : Str} {σ' : List MO} (ra : RV Z S o a) (rv : RV Z S u v) (st : St Z (HR W Z S ++ R) s.heap) (e : storeAttr (abs S) a n v = some σ') :
    wpAny (model prog w) A (setAttr o n u) (SetPost W R σ' Z S s) No s := by
  refine obE e fun p hp e => obE e fun mo hmo e => obE e fun q hq e => gdE e fun h => and2 h fun h h3 => and2 h fun h1 h2 => ?_
  rw [ptV_eq hp] at ra
  rw [instM_eq hq] at hmo
  have hnone : q.2.lookup n = none := Option.isNone_iff_eq_none.mp h2
  obtain ⟨l, el, em⟩ := abs_get hmo
  obtain ⟨l', el', rfl⟩ := ra
  rw [el] at el'; cases el'
  obtain ⟨C, es, m, hc, rf, I⟩ := at_inst st el em
  have X : K.In s.heap := fun b o e => st.sub _ _ (x0 _ _ (B.KI b o e))
  have h16 := of_decide_eq_true h3
  refine set_field X I (B.cls q.1 C hc) h1 (fields_fresh rf hnone) (any_ref rf) (by rw [fields_len rf]; (first | lia | omega)) fun h' hsh t hg hsb tk => ?_
  have hm : ∀ fs', mres W Z S ⟨l.x, l.dx, .inst q.1 fs'⟩ = [(l.x, fun o => ∃ C, W.cA q.1 = some C ∧ o = instObj C l.dx), (l.dx, fun o => ∃ es n, o = dictOf es n ∧ FieldsAre Z S es fs')] := fun _ => rfl
  have hml : mres W Z S l = [(l.x, fun o => ∃ C, W.cA q.1 = some C ∧ o = instObj C l.dx), (l.dx, fun o => ∃ es n, o = dictOf es n ∧ FieldsAre Z S es q.2)] := by unfold mres; rw [em]
  have hne : l.x ≠ l.dx := by
    intro q'
    have e1 := I.at_
    have e2 := I.dict
    dsimp only at e2
    rw [q'] at e1
    rw [e1] at e2
    exact absurd (congrArg (fun o : Obj => o.cls) (Option.some.inj e2)) (by simp)
  obtain ⟨Z', x', st', g⟩ := St.setAt (h' := h') ⟨l.x, l.dx, .inst q.1 (q.2 ++ [(n, v)])⟩ st el rfl rfl (by
      intro b o hb e
      rw [hml] at hb
      simp only [List.map_cons, List.map_nil, List.mem_cons, List.not_mem_nil, or_false, not_or] at hb
      exact (hsb.2 b hb.2).trans e) (by
      intro p hp
      rw [hm] at hp
      rcases List.mem_cons.mp hp with rfl | hp
      · exact ⟨_, (hsb.2 _ hne).trans I.at_, C, hc, rfl⟩
      · rw [List.mem_singleton.mp hp]
        exact ⟨_, hg, _, _, rfl, paired_append rf (.cons ⟨⟨t, rfl⟩, rv⟩ .nil)⟩) (by rw [hml, hm]; rfl)
  exact ⟨Z', _, h', tk, rfl, x', g, abs_set, st'⟩

theorem setItem_rec {d : Addr} {es : List DictEntry} {m : Nat} {fs : List (Str × PyData)} {n : Str} {t : Tok} {x y : PyData} {v : Value} {Q : Unit → Shared → Prop} {E : Value → Shared → Prop} (ho : s.heap.get? d = some (dictOf es m)) (r : RecAre Z es fs) (e : fs.lookup n = some x) (rv : RD Z v y)
    (hq : ∀ h' es' tk, h'.get? d = some (dictOf es' m) → RecAre Z es' (setF fs n y) → Heap.SameBut d s.heap h' → Q () (sh s h' tk)) : wpAny (model prog w) A (setItem (.ref d) (.str n t) v) Q E s := by
  obtain ⟨i, en, a, b, c, up⟩ := rec_find r e
  have hT : s.TypeIs (.ref d) "dict" := ⟨_, ho, rfl⟩
  unfold setItem
  refine wpAny_holding (wpAny_bind (wpAny_sequenceKey hT (by decide) ?_))
  refine wpAny_bind (wpAny_callSpecial?_slot (name := Str.ofString "__setitem__") hT slot_dict_setitem (wpAny_call_entry slot_dict_setitem hT entry_dict_setitem ?_ (args_dict_setitem _ _ _)))
  show wpAny _ _ (Builtin.Dict.notOrdered "__setitem__" ⟨[.ref d, .str n t, v], []⟩ >>= _) _ _ s
  refine wpAny_bind (wpAny_notOrdered_dict hT ?_)
  show wpAny _ _ (dictSet d (.str n t) v >>= _) _ _ s
  refine wpAny_bind ?_
  unfold dictSet
  refine wpAny_holding (wpAny_bind (wpAny_pyHash_str ?_))
  unfold dictSetHashed
  refine wpAny_holding (wpAny_bind (KTD.kt_dictFind_strs (s := { s with toks := s.toks + 1 }) ho rfl (rec_strs r) ?_))
  rw [List.findIdx?_toArray, a]
  refine wpAny_bind (wpAny_rule (wpAny_bind (wpAny_updateDict (s := { s with toks := s.toks + 1 }) ho rfl (wpAny_point (wpAny_pure ⟨.none, rfl, wpAny_pure ?_⟩)))))
  refine hq _ (es.modify i fun e => { e with val := v }) _ ?_ (up Z v y (Ext.refl _) rv) (Heap.SameBut.update ..)
  rw [Heap.get?_update_self _ ho rfl]
  first | (refine congrArg some ?_; show Obj.mk _ _ (Data.dict (es.toArray.modify i _) m) _ = Obj.mk _ _ (Data.dict (es.modify i _).toArray m) _; rw [List.modify_toArray]; done) | simp [Obj.mapDict]

theorem setItem_last {l : Addr} {vs : Array Value} {m : Nat} {t : Tok} {v : Value} {Q : Unit → Shared → Prop} {E : Value → Shared → Prop} (ho : s.heap.get? l = some (listOf vs m)) (hz : 0 < vs.size)
    (hq : ∀ h', h'.get? l = some (listOf (vs.setIfInBounds (vs.size - 1) v) m) → Heap.SameBut l s.heap h' → Q () { s with heap := h' }) : wpAny (model prog w) A (setItem (.ref l) (.int (-1) t) v) Q E s := by
  have hT : s.TypeIs (.ref l) "list" := ⟨_, ho, rfl⟩
  unfold setItem
  refine wpAny_holding (wpAny_bind (wpAny_sequenceKey hT (by decide) ?_))
  refine wpAny_bind (wpAny_callSpecial?_slot (name := Str.ofString "__setitem__") hT slot_list_setitem (wpAny_call_entry slot_list_setitem hT entry_list_setitem ?_ (args_list_setitem _ _ _)))
  show wpAny _ _ (Builtin.List.listSubscript? (.int (-1) t) >>= _) _ _ s
  refine wpAny_bind (wpAny_listSubscript_int (fitsIndex_neg (by decide) (by decide)) ?_)
  show wpAny _ _ ((Builtin.List.listItems (.ref l) >>= fun xs => pure ((seqIndex? (Int.negSucc 0) xs.size).bind fun i => xs[i]?.map (i, ·))) >>= _) _ _ s
  refine wpAny_bind (wpAny_bind ?_)
  show wpAny _ _ (seqItems? (.ref l) >>= _) _ _ s
  refine wpAny_bind (wpAny_seqItems ho rfl (wpAny_pure (wpAny_pure ?_)))
  have hi : seqIndex? (Int.negSucc 0) vs.size = some (vs.size - 1) := by
    unfold seqIndex?
    simp only [show Int.negSucc 0 < 0 by decide, if_true]
    rw [if_pos (by simp only [Bool.and_eq_true, decide_eq_true_eq]; omega)]
    congr 1
    omega
  have hx : vs[vs.size - 1]? = some vs[vs.size - 1] := Array.getElem?_eq_getElem (by omega)
  rw [hi]
  simp only [Option.bind_some, hx, Option.map_some]
  show wpAny _ _ (setSeqItemAt l (vs.size - 1) v >>= _) _ _ s
  have hg : (s.heap.update l (Obj.mapSeq (·.setIfInBounds (vs.size - 1) v))).get? l = some (listOf (vs.setIfInBounds (vs.size - 1) v) m) := by
    rw [Heap.get?_update_self (Obj.mapSeq (·.setIfInBounds (vs.size - 1) v)) ho (by rfl)]
    have hs : ((vs.setIfInBounds (vs.size - 1) v).size == vs.size) = true := by simp
    unfold Obj.mapSeq PySem.W.listOf
    simp only [hs, if_true]
  refine wpAny_bind (wpAny_setSeqItemAt ho rfl ?_)
  first
    | exact wpAny_bind (wpAny_pure (wpAny_pure ⟨.none, rfl, wpAny_pure (hq _ hg (Heap.SameBut.update ..))⟩))
    | exact wpAny_pure ⟨.none, rfl, wpAny_pure (hq _ hg (Heap.SameBut.update ..))⟩
end
end Mine
end
section
open PySem PySem.W PyProof.Rows
set_option Elab.async false
set_option maxRecDepth 10000
namespace Mine

theorem RDs.set {Z : Heap} : ∀ {vs : List Value} {xs : List PyData} (i : Nat) {v : Value} {x : PyData}, RDs Z vs xs → RD Z v x → RDs Z (vs.set i v) (xs.set i x)
  | [], _, i, v, x, h, r => by rw [h.nil_left]; exact .nil
  | u :: vs, _, 0, v, x, h, r => by obtain ⟨y, xs', rfl, a, b⟩ := h.uncons; exact .cons r b
  | u :: vs, _, i + 1, v, x, h, r => by obtain ⟨y, xs', rfl, a, b⟩ := h.uncons; exact .cons a (b.set i r)

theorem paired_len {α β : Type} {F : α → β → Prop} : ∀ {l : List α} {m : List β}, Paired F l m → l.length = m.length
  | _, _, .nil => rfl
  | _, _, .cons _ t => by rw [List.length_cons, List.length_cons, paired_len t]

section
variable {prog : Program} {w : World} {W : Wd} {K : Frag} {H0 : Heap} {G : Str → Option PyData} {adr : Callee → Option Addr} {A : Around} {Z : Heap} {S : Sg} {R : Own} {s : Shared} {sc : Names} {env : Env} {ρ : Rho} {ev : Expr → M Val}

/-- a thing changes in place, one that hangs on one address alone -/
theorem set_one {h' : Heap} {P P' : Obj → Prop} {p : Nat} {l : Lc} {m' : MO} {tk : Nat} (st : St Z (HR W Z S ++ R) s.heap) (el : S[p]? = some l) (h1 : mres W Z S l = [(l.x, P)]) (h2 : mres W Z S ⟨l.x, l.dx, m'⟩ = [(l.x, P')]) (hs : Heap.SameBut l.x s.heap h') (n : ∃ o, h'.get? l.x = some o ∧ P' o) :
    SetPost W R ((abs S).set p m') Z S s () (sh s h' tk) := by
  obtain ⟨Z', x', st', g⟩ := St.setAt (h' := h') ⟨l.x, l.dx, m'⟩ st el rfl rfl (fun b o hb e => by
    rw [h1] at hb
    exact (hs.2 b (fun q => hb (by rw [q]; exact .head _))).trans e) (fun q hq => by
    rw [h2] at hq
    rw [List.mem_singleton.mp hq]; exact n) (by rw [h1, h2]; rfl)
  exact ⟨Z', _, h', tk, rfl, x', g, abs_set, st'⟩
theorem sto_rcd {i u : Value} {p : Nat} {l : Lc} {fs : List (Str × PyData)} {n : Str} {x : PyData} (st : St Z (HR W Z S ++ R) s.heap) (el : S[p]? = some l) (em : l.m = .rcd fs) (ri : RD Z i (.str n)) (rv : RD Z u x) (h : (fs.lookup n).isSome = true) :
    wpAny (model prog w) A (setItem (.ref l.x) i u) (SetPost W R ((abs S).set p (.rcd (setF fs n x))) Z S s) No s := by
  obtain ⟨y, hy⟩ := Option.isSome_iff_exists.mp h
  have hml : mres W Z S l = [(l.x, fun o => ∃ es n, o = dictOf es n ∧ RecAre Z es fs)] := by unfold mres; rw [em]
  obtain ⟨ob, ho, es, m, rfl, hm⟩ := at_HR (P := fun o => ∃ es n, o = dictOf es n ∧ RecAre Z es fs) (a := l.x) st el (by rw [hml]; exact .head _)
  refine RD.strE ri fun t => setItem_rec ho hm hy rv fun h' es' tk hg hr hsb => ?_
  exact set_one st el hml rfl hsb ⟨_, hg, _, _, rfl, hr⟩
theorem sto_list {i u : Value} {p : Nat} {l : Lc} {xs ys : List PyData} {k : Int} {x : PyData} (st : St Z (HR W Z S ++ R) s.heap) (el : S[p]? = some l) (em : l.m = .list xs) (ri : RD Z i (.int k)) (rv : RD Z u x) (hl : xs.length ≤ 4096) (h : setL xs k x = some ys) :
    wpAny (model prog w) A (setItem (.ref l.x) i u) (SetPost W R ((abs S).set p (.list ys)) Z S s) No s := by
  unfold setL at h
  refine itE' h fun h e => and2 h fun h1 h2 => ?_
  cases e
  obtain rfl := eq_of_beq h1
  have hpos := of_decide_eq_true h2
  have hml : mres W Z S l = [(l.x, fun o => ∃ vs n, o = listOf vs n ∧ RDs Z vs.toList xs)] := by unfold mres; rw [em]
  obtain ⟨vs, m, ho, rs⟩ := at_list st el em
  have hsz := size_of rs
  refine RD.intE ri fun t => setItem_last ho (by (first | lia | omega)) fun h' hg hsb => ?_
  refine set_one (tk := s.toks) st el hml rfl hsb ⟨_, hg, _, _, rfl, ?_⟩
  rw [Array.toList_setIfInBounds, hsz]
  exact rs.set _ rv
theorem sto_made {n : Nat} (rm : Room n A) (hw : W.hk = fun k => hashD w (tkD k)) {o i u : Value} {p : Nat} {kvs : List (TKey × Int)} {kk : TKey} {nn : Int} (st : St Z (HR W Z S ++ R) s.heap) (hi : (abs S)[p]? = some (.made kvs)) (ro : RV Z S o (.p p)) (ri : RD Z i (tkD kk)) (hl : (tkD kk).canLay0 = true) (rv : RD Z u (.int nn)) (hnone : kvs.lookup kk = none) (h512 : kvs.length ≤ 512) :
    wpAny (model prog w) A (setItem o i u) (SetPost W R ((abs S).set p (.made (kvs ++ [(kk, nn)]))) Z S s) No s := by
  have hu := rm.un
  refine made_st (prog := prog) (w := w) (P := fun o => wpAny (model prog w) A (setItem o i u) (SetPost W R ((abs S).set p (.made (kvs ++ [(kk, nn)]))) Z S s) No s) hw st hi ro fun l xs el em h3 hD hR hP => ?_
  have hL := made_look hP kk
  rw [hnone] at hL
  have hL : atKey xs kk = none := hL
  refine RD.tupE ri fun ka kvs' kn g0 rr => RD.intE rv fun t => ?_
  have ri : RD Z (.ref ka) (tkD kk) := .tuple g0 rr
  refine wpAny_setItem_heap (knd := kndT prog w) (k := kk) (xs := xs) (by show A.units + 1 + 16 < 9900; (first | lia | omega)) ⟨RD.ext ri st.sub, hl⟩ hD (fun h' hD' hsb => ?_) (by have := paired_len hP; rw [sizeLine_eq]; (first | lia | omega))
  rw [storedH_new hL] at hD'
  obtain ⟨ob', es', ep', hg, ⟨c1, c2, c3⟩, hdat, hes, _, hnd⟩ := hD'
  have hob : ob' = dictOf es'.toList ep' := by
    obtain ⟨oc, od, oda, osl⟩ := ob'
    dsimp only at c1 c2 c3 hdat
    subst c1 c2 c3 hdat
    simp [dictOf]
  subst hob
  have hml : mres W Z S l = [(l.x, fun o => 3 < l.x ∧ ∃ es n, o = dictOf es n ∧ MadeAre W.hk Z es kvs)] := by unfold mres; rw [em]
  refine set_one st el hml rfl hsb ⟨_, hg, h3, _, _, rfl, xs ++ [(kk, ka, .int nn t)], ?_, ?_, hnd, paired_append hP (.cons ⟨rfl, t, rfl⟩ .nil)⟩
  · rw [hes, hw]; rfl
  · intro y hy
    rcases List.mem_append.mp hy with hy | hy
    · exact hR y hy
    · rw [List.mem_singleton.mp hy]; exact ⟨ri, hl⟩

theorem sim_storeItem {n : Nat} (rm : Room n A) (hw : W.hk = fun k => hashD w (tkD k)) {o i u : Value} {a k v : Val} {σ' : List MO} (ra : RV Z S o a) (ri : RV Z S i k) (rv : RV Z S u v) (st : St Z (HR W Z S ++ R) s.heap) (e : storeItem (abs S) a k v = some σ') :
    wpAny (model prog w) A (setItem o i u) (SetPost W R σ' Z S s) No s := by
  refine obE e fun p hp e => obE e fun m hm e => obE e fun y hy e => obE e fun x hx e => obE e fun m' hm' e => ?_
  cases e
  rw [ptV_eq hp] at ra
  rw [data_eq hy] at ri
  rw [data_eq hx] at rv
  have at_ : ∃ l, S[p]? = some l ∧ l.m = m ∧ o = .ref l.x := by
    obtain ⟨l, el, em⟩ := abs_get hm
    obtain ⟨l', el', rfl⟩ := ra
    rw [el] at el'; cases el'
    exact ⟨l, el, em, rfl⟩
  cases m with
  | rcd fs =>
    obtain ⟨l, el, em, rfl⟩ := at_
    refine obE (show (strP y).bind _ = some m' from hm') fun n hn h => gdE h fun h => ?_
    rw [strP_eq hn] at ri
    exact sto_rcd st el em ri rv h
  | list xs =>
    obtain ⟨l, el, em, rfl⟩ := at_
    refine obE (show (intP y).bind _ = some m' from hm') fun k hk h => itE' h fun hl h => ?_
    obtain ⟨ys, hys, rfl⟩ := Option.map_eq_some_iff.mp h
    rw [intP_eq hk] at ri
    exact sto_list st el em ri rv (okLen_of hl) hys
  | made kvs =>
    refine obE (show (keyOf? y).bind _ = some m' from hm') fun kk hk h => obE h fun nn hn h => gdE h fun h => and2 h fun h1 h2 => ?_
    obtain ⟨rfl, hl⟩ := keyOf_some hk
    rw [intP_eq hn] at rv
    exact sto_made rm hw st hm ra ri hl rv (Option.isNone_iff_eq_none.mp h1) (of_decide_eq_true h2)
  | _ => (first | exact nope hm' | exact nopeB hm' | cases hm')

theorem St.adopt {Z' h : Heap} (l : Lc) (x : Ext Z Z') (st' : St Z' (HR W Z' S ++ (mres W Z S l ++ R)) h) : St Z' (HR W Z' (S ++ [l]) ++ R) h := by
  have g := Grow.push S l
  have e : HR W Z' (S ++ [l]) ++ R = S.flatMap (mres W Z' (S ++ [l])) ++ (mres W Z' (S ++ [l]) l ++ R) := by
    unfold HR
    rw [List.flatMap_append, List.append_assoc]
    simp
  rw [e]
  exact st'.weak (paired_append (HR_mono' (Ext.refl _) g S) (paired_append (mres_mono x g l) (wk_refl R)))

theorem fin_new {l : Lc} {Z' h' : Heap} {tk : Nat} (x : Ext Z Z') (st : St Z' (HR W Z' (S ++ [l]) ++ R) h') : SimPost W (RelV R) s Z S (.p (abs S).length) (abs S ++ [l.m]) (.ref l.x) (sh s h' tk) :=
  ⟨Z', S ++ [l], R, h', tk, rfl, x, Grow.push S l, abs_push S l, st, rfl, l, by rw [show (abs S).length = S.length from by unfold abs; simp]; exact get_push S l, rfl⟩

theorem dictSet_new {d : Addr} {es : List DictEntry} {m : Nat} {n : Str} {t : Tok} {v : Value} {Q : Unit → Shared → Prop} {E : Value → Shared → Prop} (ho : s.heap.get? d = some (dictOf es m)) (hs : ∀ e ∈ es, isExactStrKey e.key = true) (hn : ∀ e ∈ es, e.key.isStr n = false) (hz : es.length ≤ 100)
    (hq : ∀ h' hsh tk, h'.get? d = some (dictOf (es ++ [⟨hsh, .str n t, v⟩]) (m + 1)) → Heap.SameBut d s.heap h' → Q () (sh s h' tk)) : wpAny (model prog w) A (dictSet d (.str n t) v) Q E s := by
  unfold dictSet
  refine wpAny_holding (wpAny_bind (wpAny_pyHash_str ?_))
  unfold dictSetHashed
  refine wpAny_holding (wpAny_bind (KTD.kt_dictFind_strs (s := { s with toks := s.toks + 1 }) ho rfl (by rw [← Array.all_toList, List.all_eq_true]; exact hs) ?_))
  have : es.toArray.findIdx? (fun e => e.key.isStr n) = none := by
    rw [List.findIdx?_toArray, List.findIdx?_eq_none_iff]
    exact hn
  rw [this]
  refine wpAny_bind (wpAny_rule (wpAny_updateDictKeys (s := { s with toks := s.toks + 1 }) ho rfl (hq _ (hashStr w n) _ ?_ (Heap.SameBut.update ..)) (by rw [List.size_toArray, sizeLine_eq]; omega)))
  rw [Heap.get?_update_self _ ho rfl]
  first | (refine congrArg some ?_; show Obj.mk _ _ (Data.dict (es.toArray.push _) _) _ = Obj.mk _ _ (Data.dict (es ++ [_]).toArray _) _; rw [List.push_toArray]; done) | simp [Obj.mapDictKeys, dictOf]

theorem strK_eq {o : Option Expr} {a : Str} (h : strK o = some a) : ∃ c p, o = some (.Constant (.str a) c p) := by
  cases o with
  | none => (first | exact nope h | exact nopeB h | cases h)
  | some e =>
    cases e with
    | Constant c k p =>
      cases c with
      | str x => cases h; exact ⟨_, _, rfl⟩
      | _ => (first | exact nope h | exact nopeB h | cases h)
    | _ => (first | exact nope h | exact nopeB h | cases h)
/-- what newKind says of an expression -/
inductive NK : NewK → Expr → Prop
  | lst (pos : Pos) : NK .lst (.List [] pos)
  | made (pos : Pos) : NK .made (.Dict [] [] pos)
  | rcd (a b : Str) (x y : Expr) (c1 c2 : Nat) (p1 p2 pos : Pos) : NK (.rcd a b x y) (.Dict [some (.Constant (.str a) c1 p1), some (.Constant (.str b) c2 p2)] [x, y] pos)
  | other (e : Expr) : NK .other e
theorem newKind_is (e : Expr) : NK (newKind e) e := by
  cases e with
  | List es pos =>
    cases es with
    | nil => exact .lst pos
    | cons _ _ => exact .other _
  | Dict ks vs pos =>
    show NK (if ks.isEmpty && vs.isEmpty then .made else _) _
    cases hb : ks.isEmpty && vs.isEmpty with
    | true =>
      refine and2 hb fun h1 h2 => ?_
      rw [List.isEmpty_iff.mp h1, List.isEmpty_iff.mp h2]
      exact .made pos
    | false =>
      rw [if_neg Bool.false_ne_true]
      cases hq : (two ks).bind (fun q => (strK q.1).bind fun a => (strK q.2).bind fun b => (two vs).bind fun w => some (a, b, w)) with
      | none => exact .other _
      | some q =>
        refine obE hq fun k hk hq => obE hq fun a ha hq => obE hq fun b hb hq => obE hq fun w hw hq => ?_
        cases hq
        rw [two_eq hk, two_eq hw]
        obtain ⟨c1, p1, e1⟩ := strK_eq ha
        obtain ⟨c2, p2, e2⟩ := strK_eq hb
        rw [e1, e2]
        exact .rcd a b _ _ c1 c2 p1 p2 pos
  | _ => exact .other _

theorem new_lst {pos : Pos} : Sim (model prog w) W A (RelV R) Z S R s (eval (.List [] pos) env) (fun σ => some (.p σ.length, σ ++ [.list []])) := by
  intro st b σ' he
  cases he
  rw [arm_eval_List]
  refine wpAny_bind (wpAny_standAt (wpAny_bind ?_))
  show wpAny _ _ (spliced []) _ _ _
  rw [spliced]
  refine wpAny_pure (wpAny_newList ?_ (by simp))
  obtain ⟨Z', x, st', g⟩ := St.newMO (h' := s.heap.push (listOf #[] 0)) ⟨s.heap.objs.size, 0, .list []⟩ st (fun b o e => Heap.get?_push_of_some _ e) (fun p hp => by
    simp only [mres, List.mem_singleton] at hp
    subst hp
    exact ⟨_, Heap.get?_push_size _ rfl, #[], 0, rfl, .nil⟩) (by simp [mres]) (fun p hp => by
    simp only [mres, List.mem_singleton] at hp
    subst hp
    exact get_size _)
  exact fin_new (l := ⟨s.heap.objs.size, 0, .list []⟩) (tk := s.toks) x st'
theorem new_made (B : Bs prog w W K H0 G adr) (x0 : Ext H0 Z) {pos : Pos} : Sim (model prog w) W A (RelV R) Z S R s (eval (.Dict [] [] pos) env) (fun σ => some (.p σ.length, σ ++ [.made []])) := by
  intro st b σ' he
  cases he
  refine wpAny_Dict_empty ?_
  have h3 : 3 < s.heap.objs.size := by
    obtain ⟨a, o, h1, h2⟩ := B.big
    exact Nat.lt_of_le_of_lt h2 (Heap.lt_size (st.sub _ _ (x0 _ _ h1)))
  obtain ⟨Z', x, st', g⟩ := St.newMO (h' := s.heap.push (dictOf [] 0)) ⟨s.heap.objs.size, 0, .made []⟩ st (fun b o e => Heap.get?_push_of_some _ e) (fun p hp => by
    simp only [mres, List.mem_singleton] at hp
    subst hp
    exact ⟨_, Heap.get?_push_size _ rfl, h3, [], 0, rfl, [], rfl, fun _ h => (nomatch h), List.nodup_nil, .nil⟩) (by simp [mres]) (fun p hp => by
    simp only [mres, List.mem_singleton] at hp
    subst hp
    exact get_size _)
  exact fin_new (l := ⟨s.heap.objs.size, 0, .made []⟩) (tk := s.toks) x st'
theorem new_rcd (hev : ∀ R, EvOk prog w W H0 A sc env ρ R ev) (x0 : Ext H0 Z) (F : FrameAt sc env ρ Z S R) {a b : Str} {x y : Expr} {c1 c2 : Nat} {p1 p2 pos : Pos} : Sim (model prog w) W A (RelV R) Z S R s (eval (.Dict [some (.Constant (.str a) c1 p1), some (.Constant (.str b) c2 p2)] [x, y] pos) env) (do
    let v ← ev x
    let w ← ev y
    let p ← ofO v.data?
    let q ← ofO w.data?
    if a != b then pushRcd a b p q else stop) := by
  intro st bb σ' he
  refine wp_any fun Q hQ => ?_
  refine wpAny_Dict_any (by rfl) (by rfl) (by simp) (by simp) ?_
  have hd : s.heap.objs.size = s.heap.objs.size := rfl
  generalize hD : s.heap.objs.size = D at hd
  obtain ⟨Z1, x1, st1, _⟩ := St.iter (I := []) (I' := [(D, fun o => o = dictOf [] 0)]) (h' := s.heap.push (dictOf [] 0)) st (fun b o _ e => Heap.get?_push_of_some _ e)
    (fun p hp => by rw [List.mem_singleton.mp hp]; exact ⟨_, by rw [← hD]; exact Heap.get?_push_size _ rfl, rfl⟩) (by simp) (fun p hp => by rw [List.mem_singleton.mp hp]; exact .inr (by rw [← hD]; exact get_size _))
  show wpAny _ _ (evalPairs [(eval (.Constant (.str a) c1 p1) env, do let z ← eval x env; standAt pos; pure z), (eval (.Constant (.str b) c2 p2) env, do let z ← eval y env; standAt pos; pure z)]) _ _ _
  rw [evalPairs, arm_eval_Constant]
  refine wpAny_bind (wpAny_mkText ?_)
  have F1 : FrameAt sc env ρ Z1 S ([(D, fun o => o = dictOf [] 0)] ++ R) := (F.mono x1 (Grow.refl _)).sub fun p hp => List.mem_append_right _ hp
  refine wpAny_bind (wpAny_holding (stpV he (hev _ x Z1 S (sh s (s.heap.push (dictOf [] 0)) (s.toks + 1)) (x0.trans x1) F1) st1 fun vv v Z2 S2 h2' tk2 x2 g2 he st2 rv2 => ?_))
  refine wpAny_bind (wpAny_standAt (wpAny_pure ?_))
  refine wpAny_bind (wpAny_holding ?_)
  rw [evalPairs, arm_eval_Constant]
  refine wpAny_bind (wpAny_mkText ?_)
  refine wpAny_bind (wpAny_holding (stpV he (hev _ y Z2 S2 (sh s h2' (tk2 + 1)) ((x0.trans x1).trans x2) (F1.mono x2 g2)) st2 fun uu u Z3 S3 h3' tk3 x3 g3 he st3 rv3 => M.onO he fun p hp he => M.onO he fun q hq he => stE he fun hab he => ?_))
  cases he
  rw [data_eq hp] at rv2
  rw [data_eq hq] at rv3
  refine wpAny_bind (wpAny_standAt (wpAny_pure ?_))
  refine wpAny_bind (wpAny_holding ?_)
  rw [evalPairs]
  refine wpAny_pure (wpAny_pure (wpAny_pure ?_))
  unfold storeAll
  rw [List.forIn_cons]
  obtain ⟨o, ho, rfl⟩ := (st3.perm (perm_in _ _ _)).own _ (.head _) |>.2
  have hne : (a == b) = false := by
    have : (a != b) = true := hab
    simpa using this
  refine wpAny_bind (wpAny_bind (dictSet_new (es := []) (m := 0) ho (fun _ h => nomatch h) (fun _ h => nomatch h) (by simp) fun h4' hsh tk4 hg4 hsb4 => wpAny_pure ?_))
  dsimp only
  rw [List.forIn_cons]
  refine wpAny_bind (wpAny_bind (dictSet_new (es := [] ++ [⟨hsh, .str a s.toks, vv⟩]) (m := 1) hg4 (fun e he => by rw [List.mem_singleton.mp he]; rfl) (fun e he => by
    rw [List.mem_singleton.mp he]
    exact hne) (by simp) fun h5' hsh5 tk5 hg5 hsb5 => wpAny_pure ?_))
  dsimp only
  rw [List.forIn_nil]
  refine wpAny_pure ?_
  have rv2' : RD Z3 vv p := (RV.mono rv2 x3 g3 : RV Z3 S3 vv (.d p))
  obtain ⟨Z6, x6, st6, _⟩ := St.iter (I' := mres W Z3 S3 ⟨D, 0, .rcd [(a, p), (b, q)]⟩) (h' := h5') st3 (fun c o hc e => (hsb5.2 c (by simpa using hc)).trans ((hsb4.2 c (by simpa using hc)).trans e)) (fun pp hp => by
    simp only [mres, List.mem_singleton] at hp
    subst hp
    exact ⟨_, hg5, _, _, rfl, .cons ⟨⟨_, rfl⟩, rv2'⟩ (.cons ⟨⟨_, rfl⟩, rv3⟩ .nil)⟩) (by simp [mres]) (fun pp hp => by
    simp only [mres, List.mem_singleton] at hp
    subst hp
    exact .inl (by simp))
  have st7 := St.adopt (R := R) ⟨D, 0, .rcd [(a, p), (b, q)]⟩ x6 st6
  exact hQ _ _ (SimPost.trans (fin_new (l := ⟨D, 0, .rcd [(a, p), (b, q)]⟩) (s := (sh s h3' tk3)) x6 st7) ((x1.trans x2).trans x3) (g2.trans g3))
theorem sim_new (B : Bs prog w W K H0 G adr) (hev : ∀ R, EvOk prog w W H0 A sc env ρ R ev) (x0 : Ext H0 Z) (F : FrameAt sc env ρ Z S R) (e : Expr) :
    Sim (model prog w) W A (RelV R) Z S R s (eval e env) (evNew ev e) := by
  unfold evNew
  have h := newKind_is e
  revert h
  generalize newKind e = k
  intro h
  cases h with
  | lst pos => exact new_lst
  | made pos => exact new_made B x0
  | rcd a b x y c1 c2 p1 p2 pos => exact new_rcd hev x0 F
  | other => exact hev R e Z S s x0 F
end
end Mine
end
section
open PySem PySem.W PyProof.Rows
set_option Elab.async false
set_option maxRecDepth 10000
namespace Mine

noncomputable def localAt (sc : Names) (line : Nat) : Expr → Bool
  | .Name x p => sc.lookup x == some .local && p.line == line
  | _ => false
@[elab_as_elim] theorem localE {sc : Names} {line : Nat} {P : Expr → Prop} {t : Expr} (h : localAt sc line t = true) (k : ∀ x pos, (sc.lookup x == some NameKind.local && pos.line == line) = true → P (.Name x pos)) : P t := by
  cases t <;> first | exact nopeB h | exact k _ _ h
noncomputable def nameOf : Expr → Str
  | .Name x _ => x
  | _ => ⟨#[]⟩
noncomputable def headLine (ts : List Expr) : Nat := (ts.head?.map (·.pos.line)).getD 0
noncomputable def swapOk (sc : Names) (ts es : List Expr) : Bool :=
  (ts.length == 2 || ts.length == 3) && es.length == ts.length && ts.all (localAt sc (headLine ts)) && decide ((ts.map nameOf).Nodup) && !(es.all (foldedForSure 8)) && !(es.all (constantsAlone 8))
noncomputable def notLocal (sc : Names) : Expr → Bool
  | .Name x _ => sc.lookup x == some .cell
  | _ => true

noncomputable def isCompE : Expr → Bool
  | .ListComp .. | .SetComp .. | .DictComp .. => true
  | _ => false

/- statements, sort by sort -/
noncomputable def plainV : Val → Option Unit
  | .d (.none) => some ()
  | .d (.int _) => some ()
  | _ => none
noncomputable def retS (ev : Expr → M Val) (ρ : Rho) (e : Expr) : M (Fl × Rho) := do
  let v ← ev e
  pure (.ret v, ρ)
noncomputable def exprS (ev : Expr → M Val) (ρ : Rho) (e : Expr) : M (Fl × Rho) := if isCompE e then stop else do
  let v ← ev e
  let _ ← ofO (plainV v)
  pure (.next, ρ)
noncomputable def nameS (ev : Expr → M Val) (sc : Names) (ρ : Rho) (x : Str) (p : Pos) (e : Expr) : M (Fl × Rho) := do
  let v ← evNew ev e
  let ρ' ← ofO (bindV sc (.Name x p) v ρ)
  pure (.next, ρ')
noncomputable def pairS (ev : Expr → M Val) (sc : Names) (ρ : Rho) (ts es : List Expr) : M (Fl × Rho) := if swapOk sc ts es || ts.any (notLocal sc) then do
  let vs ← evList ev es
  let ρ' ← ofO (bindVs sc ts vs ρ)
  if okLen vs.length then pure (.next, ρ') else stop
  else stop
noncomputable def tupS (ev : Expr → M Val) (sc : Names) (ρ : Rho) (t e : Expr) : M (Fl × Rho) := if isCompE e then stop else do
  let v ← ev e
  let ρ' ← ofO (bindV sc t v ρ)
  pure (.next, ρ')
noncomputable def stoM (ρ : Rho) (g : List MO → Option (List MO)) : M (Fl × Rho) := fun σ => (g σ).bind fun σ' => some ((.next, ρ), σ')
noncomputable def attrS (ev : Expr → M Val) (ρ : Rho) (o : Expr) (name : Str) (e : Expr) : M (Fl × Rho) := do
  let v ← evNew ev e
  let a ← ev o
  stoM ρ fun σ => storeAttr σ a name v
noncomputable def itemS (ev : Expr → M Val) (ρ : Rho) (o i e : Expr) : M (Fl × Rho) := do
  let v ← ev e
  let a ← ev o
  let k ← ev i
  stoM ρ fun σ => storeItem σ a k v
noncomputable def tupE : Expr → Option (List Expr)
  | .Tuple es _ _ => some es
  | _ => none
noncomputable def asgS (ev : Expr → M Val) (sc : Names) (ρ : Rho) (e t : Expr) : M (Fl × Rho) := match t with
  | .Name x p => nameS ev sc ρ x p e
  | .Tuple ts k p => (match tupE e with
    | some es => pairS ev sc ρ ts es
    | none => tupS ev sc ρ (.Tuple ts k p) e)
  | .Attribute o name _ => attrS ev ρ o name e
  | .Subscript o i _ => itemS ev ρ o i e
  | _ => stop
noncomputable def ifS (ev : Expr → M Val) (bl : List Stmt → Rho → M (Fl × Rho)) (ρ : Rho) (t : Expr) (a b : List Stmt) : M (Fl × Rho) := do
  let v ← ev t
  let c ← ofO (truthD v)
  if c then bl a ρ else bl b ρ
noncomputable def forS (ev : Expr → M Val) (sc : Names) (bl : List Stmt → Rho → M (Fl × Rho)) (ρ : Rho) (t it : Expr) (body : List Stmt) : M (Fl × Rho) := do
  let src ← evIter ev sc (isTup t) it
  forG sc t src (bl body) lim 0 ρ
noncomputable def testM (ev : Rho → Expr → M Val) (t : Expr) (ρ : Rho) : M Bool := do
  let v ← ev ρ t
  ofO (truthD v)
/-- one statement; bl: a block -/
noncomputable def stM (ev : Rho → Expr → M Val) (sc : Names) (bl : List Stmt → Rho → M (Fl × Rho)) (st : Stmt) (ρ : Rho) : M (Fl × Rho) :=
  match st with
  | .Return e _ => ofO e >>= retS (ev ρ) ρ
  | .Expr e _ => exprS (ev ρ) ρ e
  | .Assign ts e _ => ofO (one ts) >>= asgS (ev ρ) sc ρ e
  | .If t a b _ => ifS (ev ρ) bl ρ t a b
  | .For t it body els _ => if els.isEmpty then forS (ev ρ) sc bl ρ t it body else stop
  | .While t body els _ => if els.isEmpty then whileG (testM ev t) (bl body) lim ρ else stop
  | _ => stop

noncomputable def evBl (ev : Rho → Expr → M Val) (sc : Names) : Nat → List Stmt → Rho → M (Fl × Rho)
  | 0, _, _ => stop
  | _ + 1, [], ρ => pure (.next, ρ)
  | n + 1, st :: rest, ρ => do
    let r ← stM ev sc (evBl ev sc n) st ρ
    match r with
    | (.next, ρ') => evBl ev sc n rest ρ'
    | (.ret v, ρ') => pure (.ret v, ρ')

noncomputable def FlR (Z : Heap) (S : Sg) : Flow → Fl → Prop
  | .next, .next => True
  | .ret v, .ret d => RV Z S v d
  | _, _ => False
noncomputable def RelF (sc : Names) (env : Env) (Rf R₀ : Own) (Z : Heap) (S : Sg) (R' : Own) (f : Flow) (p : Fl × Rho) : Prop :=
  (∃ m cv, R' = frOwn env.locals m cv ++ R₀ ∧ FrameR sc env p.2 Z S m cv Rf) ∧ FlR Z S f p.1

section
variable {prog : Program} {w : World} {W : Wd} {K : Frag} {H0 : Heap} {G : Str → Option PyData} {adr : Callee → Option Addr} {A : Around} {Z : Heap} {S : Sg} {R₀ Rf : Own} {s : Shared} {sc : Names} {env : Env} {ρ : Rho} {m : Str → Option Value} {cv : CV} {ev : Rho → Expr → M Val} {bl : List Stmt → Rho → M (Fl × Rho)}

noncomputable def BlOk (prog : Program) (w : World) (W : Wd) (H0 : Heap) (A : Around) (sc : Names) (env : Env) (bl : List Stmt → Rho → M (Fl × Rho)) : Prop :=
  ∀ (b : List Stmt) (ρ : Rho) (Rf R₀ : Own) (Z : Heap) (S : Sg) (m : Str → Option Value) (cv : CV) (s : Shared), Ext H0 Z → FrameR sc env ρ Z S m cv Rf → (∀ p ∈ Rf, p ∈ R₀) →
    Sim (model prog w) W A (RelF sc env Rf R₀) Z S (frOwn env.locals m cv ++ R₀) s (execs b env) (bl b ρ)

theorem FrameR.all (F : FrameR sc env ρ Z S m cv Rf) (h : ∀ p ∈ Rf, p ∈ R₀) : FrameAt sc env ρ Z S (frOwn env.locals m cv ++ R₀) :=
  F.at.sub fun p hp => by
    rcases List.mem_append.mp hp with hp | hp
    · exact List.mem_append_left _ hp
    · exact List.mem_append_right _ (h p hp)

theorem fin_same {ρ' : Rho} {f : Flow} {g : Fl} (st : St Z (HR W Z S ++ (frOwn env.locals m cv ++ R₀)) s.heap) (F : FrameR sc env ρ' Z S m cv Rf) (h : FlR Z S f g) : SimPost W (RelF sc env Rf R₀) s Z S (g, ρ') (abs S) f s :=
  SimPost.same (Rel := RelF sc env Rf R₀) (s := s) st ⟨⟨m, cv, rfl, F⟩, h⟩
theorem fin_store {ρ' : Rho} {s' : Shared} (p : StorePost W sc env Rf R₀ ρ' Z S s () s') : SimPost W (RelF sc env Rf R₀) s Z S (.next, ρ') (abs S) .next s' := by
  obtain ⟨Z', m', cv', h', tk, rfl, x, F, st⟩ := p
  exact ⟨Z', S, _, h', tk, rfl, x, Grow.refl _, rfl, st, ⟨m', cv', rfl, F⟩, trivial⟩

theorem swaps_plain {e : Expr} {t : Option Expr} {line : Nat} (h : isCompE e = false) : swapsWith e t line env = pure false := by
  cases e <;> first | rfl | cases h

theorem st_Return {e : Expr} {pos : Pos} (hev : EvOk prog w W H0 A sc env ρ (frOwn env.locals m cv ++ R₀) (ev ρ)) (x0 : Ext H0 Z) (F : FrameR sc env ρ Z S m cv Rf) (hs : ∀ p ∈ Rf, p ∈ R₀) :
    Sim (model prog w) W A (RelF sc env Rf R₀) Z S (frOwn env.locals m cv ++ R₀) s (exec (.Return (some e) pos) env) (retS (ev ρ) ρ e) := by
  rw [arm_exec_Return]
  refine Sim.at ?_
  show Sim _ _ _ _ _ _ _ _ (eval e env >>= fun v => (pure (Flow.ret v) : Sem Flow)) _
  refine Sim.bind' (hev e Z S s x0 (F.all hs)) fun v d Z' S' R' h' tk k g q => ?_
  obtain ⟨rfl, rv⟩ := q
  exact Sim.pure ⟨⟨m, cv, rfl, F.mono k g⟩, rv⟩

theorem st_Expr {e : Expr} {pos : Pos} (hev : EvOk prog w W H0 A sc env ρ (frOwn env.locals m cv ++ R₀) (ev ρ)) (x0 : Ext H0 Z) (F : FrameR sc env ρ Z S m cv Rf) (hs : ∀ p ∈ Rf, p ∈ R₀) :
    Sim (model prog w) W A (RelF sc env Rf R₀) Z S (frOwn env.locals m cv ++ R₀) s (exec (.Expr e pos) env) (exprS (ev ρ) ρ e) := by
  refine simIf (fun _ => Sim.stop) fun hc => ?_
  intro st b σ' he
  have hi : interactive env = false := by unfold interactive; rw [F.kind]; rfl
  refine wpAny_Expr (stnV he (hev e Z S s x0 (F.all hs)) st fun v d Z' S' h' tk k g he st' rv => M.onO he fun u hu he => ?_) hi (swaps_plain hc)
  obtain ⟨rfl, rfl⟩ := pure_inv he
  have fin := SimPost.trans (fin_same (s := (sh s h' tk)) (f := .next) (g := .next) st' (F.mono k g) trivial) k g
  cases d with
  | p i => (first | exact nope hu | exact nopeB hu | cases hu)
  | d x =>
    cases x with
    | none => cases (show RD Z' v .none from rv); exact fin
    | int i => exact RD.intE (show RD Z' v (.int i) from rv) fun t => fin
    | _ => (first | exact nope hu | exact nopeB hu | cases hu)

theorem st_If {t : Expr} {a b : List Stmt} {pos : Pos} (htr : TrOk prog w W H0 A sc env ρ (frOwn env.locals m cv ++ R₀) (ev ρ)) (hb : BlOk prog w W H0 A sc env bl) (x0 : Ext H0 Z) (F : FrameR sc env ρ Z S m cv Rf) (hs : ∀ p ∈ Rf, p ∈ R₀) :
    Sim (model prog w) W A (RelF sc env Rf R₀) Z S (frOwn env.locals m cv ++ R₀) s (exec (.If t a b pos) env) (ifS (ev ρ) bl ρ t a b) := by
  rw [arm_exec_If]
  unfold ifS
  have e : (do
      let v ← ev ρ t
      let c ← ofO (truthD v)
      if c then bl a ρ else bl b ρ : M (Fl × Rho)) = ((ev ρ t >>= truthM) >>= fun c => if c then bl a ρ else bl b ρ) := by rw [M.assoc]; rfl
  rw [e]
  refine Sim.at (Sim.bind' (htr t Z S s x0 (F.all hs)) fun c c' Z' S' R' h' tk k g q => ?_)
  obtain ⟨rfl, rfl⟩ := q
  cases c
  · exact hb b ρ Rf R₀ Z' S' m cv _ (x0.trans k) (F.mono k g) hs
  · exact hb a ρ Rf R₀ Z' S' m cv _ (x0.trans k) (F.mono k g) hs

theorem st_Name {x : Str} {e : Expr} {p pos : Pos} (hnew : Sim (model prog w) W A (RelV (frOwn env.locals m cv ++ R₀)) Z S (frOwn env.locals m cv ++ R₀) s (eval e env) (evNew (ev ρ) e)) (F : FrameR sc env ρ Z S m cv Rf)
    (hc : swapsWith e (some (.Name x p)) pos.line env = pure false) :
    Sim (model prog w) W A (RelF sc env Rf R₀) Z S (frOwn env.locals m cv ++ R₀) s (exec (.Assign [.Name x p] e pos) env) (nameS (ev ρ) sc ρ x p e) := by
  intro st b σ' he
  refine wpAny_Assign_Name (stnV he hnew st fun v d Z' S' h' tk k g he st' rv => M.onO he fun ρ' h3 he => ?_) hc
  obtain ⟨rfl, rfl⟩ := pure_inv he
  refine gdE (show gd _ _ = some ρ' from h3) fun hx => ?_
  exact wpAny_mono (sim_store hx (F.mono k g) rv st') (fun _ s' p => SimPost.trans (fin_store (Store.back (fun y e h => by rw [← lookup_bindR]; exact h) p)) k g) fun _ _ z => z

/-- the end of a store into a thing -/
theorem fin_set {ρ : Rho} {σ' : List MO} {s' : Shared} (F : FrameR sc env ρ Z S m cv Rf) (p : SetPost W (frOwn env.locals m cv ++ R₀) σ' Z S s () s') : SimPost W (RelF sc env Rf R₀) s Z S (.next, ρ) σ' .next s' := by
  obtain ⟨Z', S', h', tk, rfl, k, g, q, st⟩ := p
  exact ⟨Z', S', _, h', tk, rfl, k, g, q, st, ⟨m, cv, rfl, F.mono k g⟩, trivial⟩
theorem stoM_inv {g : List MO → Option (List MO)} {ρ : Rho} {σ σ' : List MO} {b : Fl × Rho} (h : stoM ρ g σ = some (b, σ')) : g σ = some σ' ∧ b = (.next, ρ) := obE h fun a ha h => by cases h; exact ⟨ha, rfl⟩

theorem st_Attr {o e : Expr} {n : Str} {p pos : Pos} (B : Bs prog w W K H0 G adr) (hev : EvOk prog w W H0 A sc env ρ (frOwn env.locals m cv ++ R₀) (ev ρ)) (hnew : Sim (model prog w) W A (RelV (frOwn env.locals m cv ++ R₀)) Z S (frOwn env.locals m cv ++ R₀) s (eval e env) (evNew (ev ρ) e))
    (x0 : Ext H0 Z) (F : FrameR sc env ρ Z S m cv Rf) (hs : ∀ p ∈ Rf, p ∈ R₀) :
    Sim (model prog w) W A (RelF sc env Rf R₀) Z S (frOwn env.locals m cv ++ R₀) s (exec (.Assign [.Attribute o n p] e pos) env) (attrS (ev ρ) ρ o n e) := by
  intro st b σ' he
  have hsw : swapsWith e (some (.Attribute o n p)) pos.line env = pure false := by cases e <;> rfl
  refine wp_any fun Q hQ => plainObj_wpAny_Assign_Attribute (stnV he hnew st fun v d Z' S' h' tk k g he st' rv => ?_) hsw
  refine stnV he (hev o Z' S' _ (x0.trans k) ((F.mono k g).all hs)) st' fun ov a Z2 S2 h2' tk2 k2 g2 he st2 ra => ?_
  obtain ⟨hst, rfl⟩ := stoM_inv he
  exact wpAny_mono (sim_storeAttr B ((x0.trans k).trans k2) ra (rv.mono k2 g2) st2 hst) (fun _ s3 pp => hQ _ _ (SimPost.trans (SimPost.trans (fin_set ((F.mono k g).mono k2 g2) pp) k2 g2) k g)) fun _ _ z => z

theorem st_Item {r : Nat} {o i e : Expr} {p pos : Pos} (rm : Room r A) (hw : W.hk = fun k => hashD w (tkD k)) (hev : EvOk prog w W H0 A sc env ρ (frOwn env.locals m cv ++ R₀) (ev ρ))
    (x0 : Ext H0 Z) (F : FrameR sc env ρ Z S m cv Rf) (hs : ∀ p ∈ Rf, p ∈ R₀) :
    Sim (model prog w) W A (RelF sc env Rf R₀) Z S (frOwn env.locals m cv ++ R₀) s (exec (.Assign [.Subscript o i p] e pos) env) (itemS (ev ρ) ρ o i e) := by
  intro st b σ' he
  have hsw : swapsWith e (some (.Subscript o i p)) pos.line env = pure false := by cases e <;> rfl
  refine wp_any fun Q hQ => wpAny_Assign_Subscript (stnV he (hev e Z S s x0 (F.all hs)) st fun v d Z' S' h' tk k g he st' rv => ?_) hsw
  refine stnV he (hev o Z' S' _ (x0.trans k) ((F.mono k g).all hs)) st' fun ov a Z2 S2 h2' tk2 k2 g2 he st2 ra => ?_
  refine stnV he (hev i Z2 S2 _ ((x0.trans k).trans k2) (((F.mono k g).mono k2 g2).all hs)) st2 fun iv kk Z3 S3 h3' tk3 k3 g3 he st3 ri => ?_
  obtain ⟨hst, rfl⟩ := stoM_inv he
  exact wpAny_mono (sim_storeItem rm hw (ra.mono k3 g3) ri ((rv.mono k2 g2).mono k3 g3) st3 hst) (fun _ s4 pp => hQ _ _ (SimPost.trans (SimPost.trans (SimPost.trans (fin_set (((F.mono k g).mono k2 g2).mono k3 g3) pp) k3 g3) k2 g2) k g)) fun _ _ z => z

theorem sim_bindVs (hh : A.handled = none) : ∀ (ts : List Expr) (ds : List Val) (ρ ρ' : Rho) (vs : List Value) (Z : Heap) (s : Shared) (m : Str → Option Value) (cv : CV), bindVs sc ts ds ρ = some ρ' → FrameR sc env ρ Z S m cv Rf → RVs Z S vs ds →
    St Z (HR W Z S ++ (frOwn env.locals m cv ++ R₀)) s.heap → wpAny (model prog w) A (assignInOrder (ts.map fun t => assign t env) vs) (StorePost W sc env Rf R₀ ρ' Z S s) No s := by
  intro ts
  induction ts with
  | nil =>
    intro ds ρ ρ' vs Z s m cv h F r st
    obtain ⟨rfl, rfl⟩ := bindVs0 h
    exact wpAny_pure ⟨Z, m, cv, s.heap, s.toks, rfl, Ext.refl _, F, st⟩
  | cons t ts ih =>
    intro ds ρ ρ' vs Z s m cv h F r st
    refine bindVsE (P := fun ds => RVs Z S vs ds → _) h (fun d ds ρ₁ h1 h2 r => ?_) r
    cases r with
    | cons a b =>
      rw [List.map_cons, show ∀ t x ts xs, assignInOrder (t :: ts) (x :: xs) = (holding xs (t x) >>= fun _ => assignInOrder ts xs) from fun _ _ _ _ => rfl]
      refine stpStore (wpAny_holding (sim_bindV hh h1 F a st)) fun Z' m' cv' h' tk x' F' st' => ?_
      exact wpAny_mono (ih ds ρ₁ ρ' _ Z' _ m' cv' h2 F' (RVs.mono b x' (Grow.refl _)) st') (fun _ _ p => Store.trans x' p) fun _ _ z => z

theorem sim_names (hh : A.handled = none) : ∀ (ns : List Str) (ds : List Val) (ρ : Rho) (vs : List Value) (Z : Heap) (s : Shared) (m : Str → Option Value) (cv : CV), ns.length = ds.length → (∀ n ∈ ns, (sc.lookup n).any isOwnK = true) → FrameR sc env ρ Z S m cv Rf → RVs Z S vs ds →
    St Z (HR W Z S ++ (frOwn env.locals m cv ++ R₀)) s.heap → wpAny (model prog w) A (assignInOrder (ns.map fun n => bindName env n) vs) (StorePost W sc env Rf R₀ ((ns.zip ds).reverse ++ ρ) Z S s) No s := by
  intro ns
  induction ns with
  | nil =>
    intro ds ρ vs Z s m cv h hn F r st
    cases ds with
    | nil => exact wpAny_pure ⟨Z, m, cv, s.heap, s.toks, rfl, Ext.refl _, F, st⟩
    | cons _ _ => cases h
  | cons n ns ih =>
    intro ds ρ vs Z s m cv h hn F r st
    cases r with
    | nil => cases h
    | @cons v d vs ds a b =>
      rw [List.map_cons, show ∀ t x ts xs, assignInOrder (t :: ts) (x :: xs) = (holding xs (t x) >>= fun _ => assignInOrder ts xs) from fun _ _ _ _ => rfl]
      refine stpStore (wpAny_holding (sim_bindName (hn n (.head _)) F a st)) fun Z' m' cv' h' tk x' F' st' => ?_
      have e : ((n :: ns).zip (d :: ds)).reverse ++ ρ = (ns.zip ds).reverse ++ (n, d) :: ρ := by simp
      rw [e]
      exact wpAny_mono (ih ds ((n, d) :: ρ) _ Z' _ m' cv' (Nat.succ.inj h) (fun y hy => hn y (.tail _ hy)) F' (RVs.mono b x' (Grow.refl _)) st') (fun _ _ p => Store.trans x' p) fun _ _ z => z
end
end Mine
end
section
open PySem PySem.W PyProof.Rows
set_option Elab.async false
set_option maxRecDepth 10000
namespace Mine

theorem filterMap_lt {α β : Type} {f : α → Option β} : ∀ {l : List α} {a : α}, a ∈ l → f a = none → (l.filterMap f).length < l.length
  | x :: r, a, h, e => by
    rcases List.mem_cons.mp h with rfl | h
    · rw [List.filterMap_cons, e]
      exact Nat.lt_succ_of_le (List.length_filterMap_le f r)
    · have ih := filterMap_lt h e
      rw [List.filterMap_cons]
      split
      · exact Nat.lt_succ_of_lt ih
      · exact Nat.succ_lt_succ ih

structure NmF (env : Env) (line : Nat) (f : Expr → Option Str) : Prop where
  nm : ∀ id pos, f (.Name id pos) = if (env.kindOf id == some NameKind.local && pos.line == line) = true then some id else none
  other : ∀ e, (∀ id pos, e ≠ .Name id pos) → f e = none

theorem names_lt {sc : Names} {env : Env} {line : Nat} {ts : List Expr} {f : Expr → Option Str} (hkr : KRel sc env) (h : ts.any (notLocal sc) = true) (hf : NmF env line f) : (ts.filterMap f).length < ts.length := by
  obtain ⟨t, ht, hn⟩ := List.any_eq_true.mp h
  refine filterMap_lt ht ?_
  by_cases hnm : ∃ id pos, t = .Name id pos
  · obtain ⟨x, pos, rfl⟩ := hnm
    have hx : sc.lookup x = some .cell := eq_of_beq hn
    obtain ⟨k', e, q⟩ := hkr x _ hx
    have : k' = .cell := by rcases q with q | q; exact q.symm; exact nomatch q.1
    subst this
    rw [hf.nm, e]
    have h2 : (some NameKind.cell == some NameKind.local) = false := by decide
    rw [h2, Bool.false_and]; rfl
  · exact hf.other t fun id pos q => hnm ⟨id, pos, q⟩

theorem swapped_none {sc : Names} {env : Env} {ts es : List Expr} {k k2 : Nat} {p p2 : Pos} (hkr : KRel sc env) (h : ts.any (notLocal sc) = true) : swappedStores [.Tuple ts k p] (.Tuple es k2 p2) env = pure none := by
  unfold swappedStores
  dsimp only
  split
  · rfl
  split
  · rfl
  rw [if_pos]
  rw [Bool.or_eq_true]
  left
  refine bne_iff_ne.mpr (Nat.ne_of_lt (names_lt (line := (Option.map (fun x => x.pos.line) ts.head?).getD 0) hkr h ⟨fun _ _ => rfl, fun e he => ?_⟩))
  cases e <;> first | rfl | exact absurd rfl (he _ _)

theorem names_localF {sc : Names} {env : Env} (hkr : KRel sc env) {line : Nat} {f : Expr → Option Str} (hf : NmF env line f) : ∀ {ts : List Expr}, ts.all (localAt sc line) = true → ts.filterMap f = ts.map nameOf
  | [], _ => rfl
  | t :: ts, h => by
    rw [List.all_cons, Bool.and_eq_true] at h
    have a := names_localF hkr hf h.2
    refine localE (P := fun t => (t :: ts).filterMap f = (t :: ts).map nameOf) h.1 fun x pos h1' => ?_
    rw [Bool.and_eq_true] at h1'
    have hx := eq_of_beq h1'.1
    obtain ⟨k', e, q⟩ := hkr x _ hx
    have : k' = .local := by rcases q with q | q; exact q.symm; exact nomatch q.1
    subst this
    have e2 : f (.Name x pos) = some x := by rw [hf.nm, e, h1'.2]; rfl
    rw [List.filterMap_cons, e2, a]; rfl
theorem names_loc {sc : Names} {line : Nat} : ∀ {ts : List Expr}, ts.all (localAt sc line) = true → ∀ n ∈ ts.map nameOf, sc.lookup n = some .local
  | [], _ => fun _ h => nomatch h
  | t :: ts, h => by
    rw [List.all_cons, Bool.and_eq_true] at h
    refine localE (P := fun t => ∀ n ∈ (t :: ts).map nameOf, sc.lookup n = some .local) h.1 fun x pos h1' => ?_
    rw [Bool.and_eq_true] at h1'
    intro n hn
    rcases List.mem_cons.mp hn with rfl | hn
    · exact eq_of_beq h1'.1
    · exact names_loc h.2 n hn

noncomputable def isStar : Expr → Bool
  | .Starred .. => true
  | _ => false
theorem any_isStar {f : Expr → Bool} {es : List Expr} (h : es.any isStar = false) (hf : ∀ e, f e = isStar e) : es.any f = false := by
  have : f = isStar := funext hf
  rw [this]; exact h

theorem eraseDups_nodup {l : List Str} (h : l.Nodup) : l.eraseDups = l := by
  induction l with
  | nil => rfl
  | cons a r ih =>
    rw [List.nodup_cons] at h
    rw [List.eraseDups_cons]
    have : r.filter (fun b => !b == a) = r := List.filter_eq_self.mpr fun b hb => by
      have : b ≠ a := fun q => h.1 (q ▸ hb)
      simpa using this
    rw [this, ih h.2]

theorem swapped_some {sc : Names} {env : Env} {ts es : List Expr} {k k2 : Nat} {p p2 : Pos} (hkr : KRel sc env) (hk : env.scope.kind = .function) (h : swapOk sc ts es = true) (hst : es.any isStar = false) :
    swappedStores [.Tuple ts k p] (.Tuple es k2 p2) env = pure (some (ts.map nameOf)) := by
  unfold swapOk at h
  simp only [Bool.and_eq_true] at h
  obtain ⟨⟨⟨⟨⟨h1, h2⟩, h3⟩, h4⟩, h5⟩, h6⟩ := h
  have hnd := of_decide_eq_true h4
  have key : ∀ f : Expr → Option Str, NmF env (headLine ts) f → ts.filterMap f = ts.map nameOf := fun f hf => names_localF hkr hf h3
  unfold headLine at key
  unfold swappedStores
  dsimp only
  rw [if_neg (by
    rw [h1]
    have e2 : (es.length != ts.length) = false := by have := eq_of_beq h2; simp [this]
    have e3 : (env.blockKind != ScopeKind.function) = false := by unfold Env.blockKind; rw [hk]; rfl
    rw [e2, e3]; decide)]
  rw [if_neg (by rw [any_isStar hst (fun e => by cases e <;> rfl)]; decide)]
  rw [key _ ⟨fun _ _ => rfl, fun e he => by cases e <;> first | rfl | exact absurd rfl (he _ _)⟩]
  rw [if_neg (by rw [eraseDups_nodup hnd]; simp), if_neg (by rw [(Bool.not_eq_true' _).mp h5]; decide), if_neg (by rw [(Bool.not_eq_true' _).mp h6]; decide)]

theorem paired_rev {α β : Type} {F : α → β → Prop} : ∀ {l : List α} {m : List β}, Paired F l m → Paired F l.reverse m.reverse
  | _, _, .nil => .nil
  | _, _, .cons h t => by rw [List.reverse_cons, List.reverse_cons]; exact paired_append (paired_rev t) (.cons h .nil)

section
variable {prog : Program} {w : World} {W : Wd} {K : Frag} {H0 : Heap} {G : Str → Option PyData} {adr : Callee → Option Addr} {A : Around} {Z : Heap} {S : Sg} {R₀ Rf : Own} {s : Shared} {sc : Names} {env : Env} {ρ : Rho} {m : Str → Option Value} {cv : CV} {ev : Rho → Expr → M Val} {bl : List Stmt → Rho → M (Fl × Rho)}

theorem each_no_starV : ∀ (ts : List Expr) (ds : List Val) (ρ ρ' : Rho), bindVs sc ts ds ρ = some ρ' → ts.length = ds.length ∧ assignEach ts env = ts.map fun t => (false, assign t env) := by
  intro ts
  induction ts with
  | nil => intro xs ρ ρ' h; rw [(bindVs0 h).1]; exact ⟨rfl, rfl⟩
  | cons t ts ih =>
    intro xs ρ ρ' h
    refine bindVsE (P := fun xs => (t :: ts).length = xs.length ∧ _) h fun x r ρ₁ h1 h2 => ?_
    obtain ⟨a, b⟩ := ih r ρ₁ ρ' h2
    exact ⟨by rw [List.length_cons, List.length_cons, a], by rw [each_one h1, b]; rfl⟩

theorem bindVs_names {line : Nat} : ∀ (ts : List Expr) (ds : List Val) (ρ ρ' : Rho), ts.all (localAt sc line) = true → bindVs sc ts ds ρ = some ρ' → ∀ y, ρ'.lookup y = (((ts.map nameOf).zip ds).reverse ++ ρ).lookup y := by
  intro ts
  induction ts with
  | nil => intro ds ρ ρ' _ h y; obtain ⟨rfl, rfl⟩ := bindVs0 h; rfl
  | cons t ts ih =>
    intro ds ρ ρ' ha h y
    rw [List.all_cons] at ha
    refine and2 ha fun h2 ha => bindVsE (P := fun ds => ρ'.lookup y = ((((t :: ts).map nameOf).zip ds).reverse ++ ρ).lookup y) h fun x r ρ₁ h1 h3 => ?_
    rw [ih r ρ₁ ρ' ha h3 y]
    refine localE (P := fun t => bindV sc t x ρ = some ρ₁ → (((ts.map nameOf).zip r).reverse ++ ρ₁).lookup y = ((((t :: ts).map nameOf).zip (x :: r)).reverse ++ ρ).lookup y) h2 (fun _ _ _ h1 => ?_) h1
    refine gdE (show gd _ _ = some ρ₁ from h1) fun _ => ?_
    rw [lookup_append, lookup_bindR, ← lookup_append, List.map_cons, List.zip_cons_cons, List.reverse_cons, List.append_assoc]
    rfl

theorem zip_rev {α β : Type} : ∀ {l : List α} {m : List β}, l.length = m.length → l.reverse.zip m.reverse = (l.zip m).reverse
  | [], [], _ => rfl
  | a :: l, b :: m, h => by
    have h' : l.length = m.length := by simpa using h
    rw [List.reverse_cons, List.reverse_cons, List.zip_append (by simpa using h'), zip_rev h']
    simp

theorem lookup_rev {l : Rho} (nd : (l.map (·.1)).Nodup) (x : Str) : l.reverse.lookup x = l.lookup x := by
  by_cases hx : x ∈ l.map (·.1)
  · obtain ⟨⟨y, d⟩, hm, rfl⟩ := List.mem_map.mp hx
    rw [lookup_of_mem nd hm, lookup_of_mem (by rw [List.map_reverse]; exact (List.reverse_perm _).nodup_iff.mpr nd) (List.mem_reverse.mpr hm)]
  · rw [lookup_none hx, lookup_none (by rw [List.map_reverse, List.mem_reverse]; exact hx)]

theorem no_star_any {ev : Expr → M Val} (hns : NoStar ev) : ∀ (es : List Expr) (σ σ₁ : List MO) (ds : List Val), evList ev es σ = some (ds, σ₁) → es.any isStar = false
  | [], _, _, _, _ => rfl
  | e :: r, σ, σ₁, ds, h => by
    obtain ⟨d, σ₂, h1, h2⟩ := M.inv h
    obtain ⟨d2, σ₃, h3, h4⟩ := M.inv h2
    rw [List.any_cons, no_star_any hns r _ _ _ h3, Bool.or_false]
    cases e <;> first | rfl | (rw [hns] at h1; cases h1)

theorem pair_swap {ts es : List Expr} {ds : List Val} {vs : List Value} {ρ' : Rho} {tp : Addr} (hh : A.handled = none) (F : FrameR sc env ρ Z S m cv Rf) (hsp : swapOk sc ts es = true) (h : bindVs sc ts ds ρ = some ρ') (rv : RVs Z S vs ds) (ht : s.heap.IsTuple tp vs.toArray)
    (st : St Z (HR W Z S ++ (frOwn env.locals m cv ++ R₀)) s.heap) {Q : Flow → Shared → Prop} (hQ : ∀ s3, StorePost W sc env Rf R₀ ρ' Z S s () s3 → Q .next s3) : wpAny (model prog w) A (unpackItems (.ref tp) (ts.map nameOf).length none >>= fun items => assignInOrder ((ts.map nameOf).reverse.map fun n => bindName env n) items.reverse >>= fun _ => pure Flow.next) Q No s := by
  have hlen : vs.length = ds.length := paired_len rv
  refine and2 hsp fun hsp _ => and2 hsp fun hsp _ => and2 hsp fun hsp a4 => and2 hsp fun _ a3 => ?_
  have hnl : (ts.map nameOf).length = ds.length := by rw [List.length_map]; exact (each_no_starV (env := env) ts ds ρ ρ' h).1
  have hu : (ts.map nameOf).length = vs.toArray.size := by rw [hnl, ← hlen]; simp
  rw [hu]
  refine wpAny_bind (wpAny_unpackItems_tuple hh ht fun h3 hx3 => ?_)
  obtain ⟨Z3, x3, st3, _⟩ := St.grow st (h' := h3) fun b o e => hx3 b o (Nat.ne_of_lt (Heap.lt_size e)) e
  have hloc := names_loc a3
  refine wpAny_bind (wpAny_mono (sim_names (prog := prog) (w := w) (R₀ := R₀) hh (ts.map nameOf).reverse ds.reverse ρ vs.reverse Z3 { s with heap := h3 } m cv (by rw [List.length_reverse, List.length_reverse, hnl])
    (fun n hn => by rw [hloc n (List.mem_reverse.mp hn)]; rfl) (F.mono x3 (Grow.refl _)) (paired_rev (RVs.mono rv x3 (Grow.refl _))) (St.mono (T := S) st3 x3 (Grow.refl _))) (fun _ s4 q => wpAny_pure (hQ _ ?_)) fun _ _ z => z)
  refine Store.trans (h' := h3) (tk := s.toks) x3 (Store.back (fun x d hx => ?_) q)
  rw [bindVs_names ts ds ρ ρ' a3 h] at hx
  rw [zip_rev hnl, List.reverse_reverse]
  rw [lookup_append] at hx ⊢
  rw [lookup_rev (by rw [List.map_fst_zip (by rw [hnl]; exact Nat.le_refl _)]; exact of_decide_eq_true a4)] at hx
  exact hx
theorem pair_plain {ts : List Expr} {ds : List Val} {vs : List Value} {ρ' : Rho} {tp : Addr} {k : Nat} {p : Pos} (hh : A.handled = none) (F : FrameR sc env ρ Z S m cv Rf) (h : bindVs sc ts ds ρ = some ρ') (rv : RVs Z S vs ds) (ht : s.heap.IsTuple tp vs.toArray)
    (st : St Z (HR W Z S ++ (frOwn env.locals m cv ++ R₀)) s.heap) : wpAny (model prog w) A (assign (.Tuple ts k p) env (.ref tp)) (StorePost W sc env Rf R₀ ρ' Z S s) No s := by
  have hlen : vs.length = ds.length := paired_len rv
  obtain ⟨hle, hea⟩ := each_no_starV (env := env) ts ds ρ ρ' h
  show wpAny _ _ (standAt p >>= fun _ => unpack (.ref tp) (assignEach ts env)) _ _ _
  rw [hea]
  refine wpAny_bind (wpAny_standAt (wpAny_unpack_tuple hh ht (by rw [List.length_map, hle, ← hlen]; simp) ?_ fun h3 hx3 => ?_))
  · rw [List.findIdx?_eq_none_iff]; simp
  · obtain ⟨Z3, x3, st3, _⟩ := St.grow st (h' := h3) fun b o e => hx3 b o (Nat.ne_of_lt (Heap.lt_size e)) e
    rw [List.map_map]
    exact wpAny_mono (sim_bindVs (R₀ := R₀) hh ts ds ρ ρ' vs Z3 { s with heap := h3 } m cv h (F.mono x3 (Grow.refl _)) (RVs.mono rv x3 (Grow.refl _)) (St.mono (T := S) st3 x3 (Grow.refl _))) (fun _ s4 q => Store.trans (h' := h3) (tk := s.toks) x3 q) fun _ _ z => z

theorem st_Pair {ts es : List Expr} {k k2 : Nat} {p p2 pos : Pos} (hh : A.handled = none) (hev : EvOk prog w W H0 A sc env ρ (frOwn env.locals m cv ++ R₀) (ev ρ)) (hns : NoStar (ev ρ)) (x0 : Ext H0 Z) (F : FrameR sc env ρ Z S m cv Rf) (hs : ∀ p ∈ Rf, p ∈ R₀) :
    Sim (model prog w) W A (RelF sc env Rf R₀) Z S (frOwn env.locals m cv ++ R₀) s (exec (.Assign [.Tuple ts k p] (.Tuple es k2 p2) pos) env) (pairS (ev ρ) sc ρ ts es) := by
  refine simIf (fun hok => ?_) fun _ => Sim.stop
  intro st b σ' he
  have hst : es.any isStar = false := M.on he fun _ _ h1 _ => no_star_any hns es _ _ _ h1
  refine wp_any fun Q hQ => ?_
  rw [arm_exec_Assign]
  refine wpAny_bind (wpAny_standAt ?_)
  have hsw : swapsWithSole [.Tuple ts k p] (.Tuple es k2 p2) pos.line env = pure false := rfl
  rw [hsw]
  refine wpAny_bind (wpAny_pure ?_)
  rw [if_neg (by decide)]
  rw [arm_eval_Tuple]
  refine wpAny_bind (wpAny_bind (wpAny_standAt (stp he (sim_spliced (pos := p2) hev hns es Z S s x0 (F.all hs)) st fun vs ds Z' S' R' h' tk kx g he st' rl => M.onO he fun ρ' h30 he => stE he fun hl he => ?_)))
  obtain ⟨rfl, rv⟩ := rl
  obtain ⟨rfl, rfl⟩ := pure_inv he
  have hlen : vs.length = ds.length := paired_len rv
  refine wpAny_newTuple ?_ (by rw [hlen]; exact okLen_size hl)
  obtain ⟨Z2, x2, st2, e2⟩ := st'.push (tupOf vs.toArray 0) rfl
  have st2 := St.mono (T := S') st2 x2 (Grow.refl _)
  have F2 := (F.mono kx g).mono x2 (Grow.refl _)
  have rv2 := RVs.mono rv x2 (Grow.refl _)
  have ht : (h'.push (tupOf vs.toArray 0)).IsTuple h'.objs.size vs.toArray := isTuple_of (Heap.get?_push_size _ rfl)
  have fin : ∀ s3, StorePost W sc env Rf R₀ ρ' Z2 S' (sh s (h'.push (tupOf vs.toArray 0)) tk) () s3 → Q .next s3 := fun s3 q => hQ _ _ (SimPost.trans (fin_store q) (kx.trans x2) g)
  by_cases hsp : swapOk sc ts es = true
  · rw [swapped_some F.kr F.kind hsp hst]
    refine wpAny_bind (wpAny_pure ?_)
    unfold assignStores
    refine wpAny_bind (wpAny_rule ?_)
    exact pair_swap (s := sh s (h'.push (tupOf vs.toArray 0)) tk) hh F2 hsp h30 rv2 ht st2 fin
  · rw [(Bool.not_eq_true _).mp hsp, Bool.false_or] at hok
    rw [swapped_none F.kr hok]
    refine wpAny_bind (wpAny_pure ?_)
    unfold assignStores
    refine wpAny_bind ?_
    show wpAny _ _ (assign (.Tuple ts k p) env (.ref h'.objs.size)) _ _ _
    exact wpAny_mono (pair_plain (s := sh s (h'.push (tupOf vs.toArray 0)) tk) hh F2 h30 rv2 ht st2) (fun _ s4 q => wpAny_pure (fin _ q)) fun _ _ z => z

theorem st_Unpack {ts : List Expr} {e : Expr} {k : Nat} {p pos : Pos} (hh : A.handled = none) (hev : EvOk prog w W H0 A sc env ρ (frOwn env.locals m cv ++ R₀) (ev ρ)) (x0 : Ext H0 Z) (F : FrameR sc env ρ Z S m cv Rf) (hs : ∀ p ∈ Rf, p ∈ R₀) (hnt : tupE e = none) :
    Sim (model prog w) W A (RelF sc env Rf R₀) Z S (frOwn env.locals m cv ++ R₀) s (exec (.Assign [.Tuple ts k p] e pos) env) (tupS (ev ρ) sc ρ (.Tuple ts k p) e) := by
  refine simIf (fun _ => Sim.stop) fun hc => ?_
  intro st b σ' he
  refine wp_any fun Q hQ => ?_
  rw [arm_exec_Assign]
  refine wpAny_bind (wpAny_standAt ?_)
  have hsw : swapsWithSole [.Tuple ts k p] e pos.line env = pure false := by
    show swapsWith e (some (.Tuple ts k p)) pos.line env = pure false
    exact swaps_plain hc
  rw [hsw]
  refine wpAny_bind (wpAny_pure ?_)
  rw [if_neg (by decide)]
  refine stpV he (hev e Z S s x0 (F.all hs)) st fun v d Z' S' h' tk kx g he st' rv => M.onO he fun ρ' h30 he => ?_
  obtain ⟨rfl, rfl⟩ := pure_inv he
  have hsn : swappedStores [.Tuple ts k p] e env = pure none := by
    cases e <;> first | rfl | cases hnt
  rw [hsn]
  refine wpAny_bind (wpAny_pure ?_)
  unfold assignStores
  refine wpAny_bind ?_
  show wpAny _ _ (assign (.Tuple ts k p) env v) _ _ _
  exact wpAny_mono (sim_bindV hh h30 (F.mono kx g) rv st') (fun _ s2 q => wpAny_pure (hQ _ _ (SimPost.trans (fin_store q) kx g))) fun _ _ z => z
end
end Mine
end
section
open PySem PySem.W PyProof.Rows
set_option Elab.async false
set_option maxRecDepth 10000
namespace Mine
section
variable {prog : Program} {w : World} {W : Wd} {K : Frag} {H0 : Heap} {G : Str → Option PyData} {adr : Callee → Option Addr} {A : Around} {Z : Heap} {S : Sg} {R₀ Rf : Own} {s : Shared} {sc : Names} {env : Env} {ρ : Rho} {m : Str → Option Value} {cv : CV} {ev : Rho → Expr → M Val} {bl : List Stmt → Rho → M (Fl × Rho)}

theorem st_NameUse {x : Str} {p pos cpos : Pos} {elt : Expr} {g : Comprehension} {gs : List Comprehension} {scope : Scope} {ev : Expr → M Val} {evS : Expr → Rho → M Val} (B : Bs prog w W K H0 G adr) (hh : A.handled = none) (hasync : g.is_async = 0)
    (hev : EvOk prog w W H0 A sc env ρ (frOwn env.locals m cv ++ R₀) ev) (hns : NoStar ev) (hE : ∀ cenv ρ R, EvOk prog w W H0 A scope.names cenv ρ R (fun e => evS e ρ)) (hT : ∀ cenv ρ R, TrOk prog w W H0 A scope.names cenv ρ R (fun e => evS e ρ)) (hnS : ∀ ρ, NoStar (fun e => evS e ρ))
    (hok : compOk sc ρ scope.names = true) (hk : scope.kind = .function) (x0 : Ext H0 Z) (F : FrameR sc env ρ Z S m cv Rf) (hs : ∀ p ∈ Rf, p ∈ R₀)
    (hsw : swapsWith (.ListComp elt (g :: gs) scope cpos) (some (.Name x p)) pos.line env = pure true) {xs : List PyData} {ρ' : Rho} {σ' : List MO} (st : St Z (HR W Z S ++ (frOwn env.locals m cv ++ R₀)) s.heap)
    (he : compM ev evS sc scope.names ρ elt g gs (abs S) = some (xs, σ')) (hl : xs.length ≤ 4096) (hb : bindV sc (.Name x p) (.d (.list xs)) ρ = some ρ') :
    wpAny (model prog w) A (exec (.Assign [.Name x p] (.ListComp elt (g :: gs) scope cpos) pos) env) (SimPost W (RelF sc env Rf R₀) s Z S (.next, ρ') σ') No s := by
  rw [exec_Assign_Name_used x p _ pos hsw]
  refine wpAny_bind (wpAny_standAt ?_)
  have e1 : firstAsync (g :: gs) = false := by
    cases g with
    | mk a b c d =>
      show (d != 0) = false
      rw [show d = 0 from hasync]; rfl
  have e2 : firstIter (g :: gs) env = eval g.iter env := by cases g; rfl
  show wpAny _ _ (evalThenUse (.ListComp elt (g :: gs) scope cpos) env (assign (.Name x p) env) >>= _) _ _ _
  refine wpAny_bind ?_
  show wpAny _ _ (comprehension (.ListComp elt (g :: gs) scope cpos) scope env (firstIterPos (g :: gs) cpos) (newList []) (firstAsync (g :: gs)) (firstIter (g :: gs) env) (some (assign (.Name x p) env)) >>= _) _ _ _
  refine wpAny_bind ?_
  rw [e1, e2]
  refine comp_core B hh hev hns hE hT hnS hok hk x0 (F.all hs) st he hl fun D Z' S' h' tk C m1 cv1 xz gr q rd st' => ?_
  have F' := F.mono xz gr
  have := sim_bindV (prog := prog) (w := w) (W := W) (R₀ := frOwn C m1 cv1 ++ R₀) (v := .ref D) (s := (sh s h' tk)) hh hb F' (rv_d rd) (st'.perm (fr_in _ _ _ _).symm)
  refine wpAny_mono this (fun _ s2 pp => ?_) fun _ _ z => z
  obtain ⟨Z2, m2, cv2, h2, tk2, rfl, x2, F2, st2⟩ := pp
  have st2' := st2.perm (fr_in _ _ _ _)
  refine ⟨m1, NsP.ns (st2'.at (R := frOwn C m1 cv1 ++ (frOwn env.locals m2 cv2 ++ R₀)) (.head _)), fun h3 hsb => ?_⟩
  obtain ⟨Z3, x3, st3, _⟩ := drop_frame st2' hsb
  exact wpAny_pure (wpAny_pure ⟨Z3, S', _, h3, tk2, rfl, (xz.trans x2).trans x3, gr, q, st3, ⟨m2, cv2, rfl, F2.mono x3 (Grow.refl _)⟩, trivial⟩)

/-- where a for loop stands -/
inductive FI (W : Wd) (sc : Names) (env : Env) (Rf R₀ : Own) (t : Expr) (I : Nat → Own) (src : Src) (body : Rho → M (Fl × Rho)) (Z : Heap) (S : Sg) (b : Fl × Rho) (σ' : List MO) (s : Shared) (n : Nat) (s1 : Shared) : Prop
  | mk (k : Nat) (ρ2 : Rho) (Z2 : Heap) (S2 : Sg) (m2 : Str → Option Value) (cv2 : CV) (h2 : Heap) (tk2 : Nat) (e : s1 = sh s h2 tk2) (x : Ext Z Z2) (g : Grow S S2) (hin : InR src k) (hl : forG sc t src body n k ρ2 (abs S2) = some (b, σ'))
      (F : FrameR sc env ρ2 Z2 S2 m2 cv2 Rf) (st : St Z2 (HR W Z2 S2 ++ (frOwn env.locals m2 cv2 ++ (I k ++ R₀))) h2) : FI W sc env Rf R₀ t I src body Z S b σ' s n s1
inductive ForStep (sc : Names) (t : Expr) (src : Src) (body : Rho → M (Fl × Rho)) (m k : Nat) (ρ : Rho) (σ : List MO) (b : Fl × Rho) (σ' : List MO) : Prop
  | stop (h : src.at σ k = some none) (e : b = (.next, ρ)) (e2 : σ' = σ) : ForStep sc t src body m k ρ σ b σ'
  | item (n : Nat) (x : PyData) (ρ' ρ'' : Rho) (fl : Fl) (σ₁ : List MO) (lt : n < m) (h : src.at σ k = some (some x)) (hd : bindD sc t x ρ = some ρ') (hb : body ρ' σ = some ((fl, ρ''), σ₁)) (h0 : fl = .next → forG sc t src body n (k + 1) ρ'' σ₁ = some (b, σ'))
      (h1 : ∀ v, fl = .ret v → b = (.ret v, ρ'') ∧ σ' = σ₁) : ForStep sc t src body m k ρ σ b σ'
theorem forG_inv {t : Expr} {src : Src} {body : Rho → M (Fl × Rho)} {m k : Nat} {σ : List MO} {b : Fl × Rho} {σ' : List MO} (hl : forG sc t src body m k ρ σ = some (b, σ')) : ForStep sc t src body m k ρ σ b σ' := by
  cases m with
  | zero => (first | exact nope hl | exact nopeB hl | cases hl)
  | succ n =>
    rw [forG_succ] at hl
    cases hat : src.at σ k with
    | none => simp only [hat] at hl; cases hl
    | some r =>
      simp only [hat] at hl
      cases r with
      | none => cases hl; exact .stop hat rfl rfl
      | some x =>
        refine M.onO hl fun ρ' hd hl => ?_
        refine M.on hl fun r σ1 hb hl => ?_
        obtain ⟨fl, ρ''⟩ := r
        cases fl with
        | next => exact .item n x ρ' ρ'' _ σ1 (Nat.lt_succ_self n) hat hd hb (fun _ => hl) (fun _ h => nomatch h)
        | ret v => exact .item n x ρ' ρ'' _ σ1 (Nat.lt_succ_self n) hat hd hb (fun h => nomatch h) (fun _ h => by cases h; cases hl; exact ⟨rfl, rfl⟩)

theorem for_turn {t : Expr} {src : Src} {it : Value} {I : Nat → Own} {Z0 : Heap} {S0 : Sg} {body : List Stmt} (hh : A.handled = none) (hb : BlOk prog w W H0 A sc env bl) (hN : NextOk prog w W t src it I Z0 S0) (x0 : Ext H0 Z) (xz : Ext Z0 Z) (gz : Grow S0 S)
    (hs : ∀ p ∈ Rf, p ∈ R₀) {b : Fl × Rho} {σ' : List MO} {n : Nat} {s1 : Shared} (hI : FI W sc env Rf R₀ t I src (bl body) Z S b σ' s n s1) {Q : Fin → Shared → Prop} (h0 : ∀ s1, SimPost W (RelF sc env Rf R₀) s Z S b σ' .next s1 → Q (.again (.block [] env)) s1)
    (h1 : ∀ k s1, k < n → FI W sc env Rf R₀ t I src (bl body) Z S b σ' s k s1 → Q (.again (.forLoop t it body [] env)) s1) (h2 : ∀ v s1, SimPost W (RelF sc env Rf R₀) s Z S b σ' (.ret v) s1 → Q (.done (.ret v)) s1) :
    wpAny (model prog w) A (forTurn t it body [] env) Q No s1 := by
  obtain ⟨k, ρ2, Z2, S2, m2, cv2, h2', tk2, rfl, x2, g2, hin, hl, F2, st2⟩ := hI
  refine wpAny_bind (wpAny_standAt (wpAny_bind (wpAny_onRaise ?_)))
  have st2' := st2.perm (fr_in _ _ _ _)
  cases forG_inv hl with
  | stop hat e1 e2 =>
    subst e1 e2
    refine wpNext (s := sh s h2' tk2) hN hh (xz.trans x2) (gz.trans g2) hin hat st2' (fun _ Z4 h4 tk4 x4 st4 => ?_) (fun _ _ _ h => nomatch h)
    exact wpAny_pure (h0 _ ⟨Z4, S2, _, h4, tk4, rfl, x2.trans x4, g2, rfl, st4, ⟨m2, cv2, rfl, F2.mono x4 (Grow.refl _)⟩, trivial⟩)
  | item n' x ρ' ρ7 fl σ1 lt hat hd hbody hn hr =>
    refine wpNext (s := sh s h2' tk2) hN hh (xz.trans x2) (gz.trans g2) hin hat st2' (fun h => nomatch h) (fun y v s2 e p => ?_)
    cases e
    refine stpGo p fun Z4 h4 tk4 x4 rv st4 => ?_
    refine stpStore (sim_bindD hh t x ρ2 ρ' hd v Z4 _ m2 cv2 (F2.mono x4 (Grow.refl _)) rv (st4.perm (fr_in _ _ _ _).symm)) fun Z6 m6 cv6 h6 tk6 x6 F6 st6 => ?_
    refine wpAny_bind (stm hbody (hb body ρ' Rf (I (k + 1) ++ R₀) Z6 S2 m6 cv6 _ ((x0.trans x2).trans (x4.trans x6)) F6 fun p hp => List.mem_append_right _ (hs p hp)) st6 fun f Z7 S7 R7 h7 tk7 x7 g7 q7 st7 rl => ?_)
    obtain ⟨⟨m7, cv7, rfl, F7⟩, hf⟩ := rl
    have xx7 : Ext Z Z7 := x2.trans ((x4.trans x6).trans x7)
    cases fl with
    | next =>
      have fin : Q (.again (.forLoop t it body [] env)) (sh s h7 tk7) := h1 n' _ lt ⟨k + 1, ρ7, Z7, S7, m7, cv7, h7, tk7, rfl, xx7, g2.trans g7, InR.succ hat, by rw [q7]; exact hn rfl, F7, st7⟩
      cases f with
      | next => exact wpAny_pure fin
      | _ => exact hf.elim
    | ret d =>
      obtain ⟨rfl, rfl⟩ := hr d rfl
      have st8 := ((st7.perm (fr_in _ _ _ _)).perm (perm_in _ _ _)).drop
      cases f with
      | ret u => exact wpAny_pure (h2 u _ ⟨Z7, S7, frOwn env.locals m7 cv7 ++ R₀, h7, tk7, rfl, xx7, g2.trans g7, q7, st8, ⟨m7, cv7, rfl, F7⟩, hf⟩)
      | _ => exact hf.elim

theorem for_run {t : Expr} {src : Src} {it : Value} {I : Nat → Own} {Z0 : Heap} {S0 : Sg} {body : List Stmt} (hh : A.handled = none) (hb : BlOk prog w W H0 A sc env bl) (hN : NextOk prog w W t src it I Z0 S0) (x0 : Ext H0 Z) (xz : Ext Z0 Z) (gz : Grow S0 S)
    (F : FrameR sc env ρ Z S m cv Rf) (hs : ∀ p ∈ Rf, p ∈ R₀) (st : St Z (HR W Z S ++ (frOwn env.locals m cv ++ (I 0 ++ R₀))) s.heap) {b : Fl × Rho} {σ' : List MO} (he : forG sc t src (bl body) lim 0 ρ (abs S) = some (b, σ')) :
    codeAny (model prog w) A (.forLoop t it body [] env) (fun r s' => ∃ f, r = .ok f ∧ SimPost W (RelF sc env Rf R₀) s Z S b σ' f s') s := by
  refine codeAny_loop' rfl (FI W sc env Rf R₀ t I src (bl body) Z S b σ' s) (fun n s1 hI => ?_) lim ⟨0, ρ, Z, S, m, cv, s.heap, s.toks, rfl, Ext.refl _, Grow.refl _, InR.zero, he, F, st⟩
  refine wpAny_noted (wpAny_mono (E := No) (for_turn hh hb hN x0 xz gz hs hI (fun s1 p => .inr ⟨rfl, codeAny_block ?_⟩) (fun k s1 lt h => .inl ⟨rfl, k, lt, h⟩) fun v s1 p => ⟨_, rfl, p⟩) (fun _ _ h => h) (fun _ _ z => z.elim))
  rw [arm_execs_nil]
  exact wpAny_pure ⟨_, rfl, p⟩

theorem st_For {t it : Expr} {body : List Stmt} {pos : Pos} (B : Bs prog w W K H0 G adr) (hh : A.handled = none) (hev : EvOk prog w W H0 A sc env ρ (frOwn env.locals m cv ++ R₀) (ev ρ)) (hns : NoStar (ev ρ)) (hb : BlOk prog w W H0 A sc env bl) (x0 : Ext H0 Z) (F : FrameR sc env ρ Z S m cv Rf) (hs : ∀ p ∈ Rf, p ∈ R₀) :
    Sim (model prog w) W A (RelF sc env Rf R₀) Z S (frOwn env.locals m cv ++ R₀) s (exec (.For t it body [] pos) env) (forS (ev ρ) sc bl ρ t it body) := by
  intro st b σ' he
  have hf : ∀ x, foldedSetIterable it env x = pure x := M.on he fun _ _ h _ x => folded_plain h
  refine wpAny_For ?_ hf
  refine stn he (sim_head (t := t) B hev hns x0 (F.all hs) it) st fun xv src Z1 S1 R1 h1' tk1 x1 g1 he st1 rh => ?_
  refine wpAny_mono (rh A _ hh st1) (fun itv s2 p => ?_) fun _ _ z => z
  obtain ⟨Z2, S2, I, h2', tk2, rfl, x2, g2, q2, st2, hN, hS⟩ := p
  refine codeAny_mono (for_run (s := sh s h2' tk2) (body := body) hh hb hN ((x0.trans x1).trans x2) (Ext.refl _) (Grow.refl _) (F.mono (x1.trans x2) (g1.trans g2)) hs (st2.perm (fr_in _ _ _ _).symm) (b := b) (σ' := σ') (by rw [q2]; exact he)) fun r s3 p => ?_
  obtain ⟨f, rfl, p⟩ := p
  exact SimPost.trans p (x1.trans x2) (g1.trans g2)

/-- where a while loop stands -/
inductive WI (W : Wd) (sc : Names) (env : Env) (Rf R₀ : Own) (test : Rho → M Bool) (body : Rho → M (Fl × Rho)) (Z : Heap) (S : Sg) (b : Fl × Rho) (σ' : List MO) (s : Shared) (n : Nat) (s1 : Shared) : Prop
  | mk (ρ2 : Rho) (Z2 : Heap) (S2 : Sg) (m2 : Str → Option Value) (cv2 : CV) (h2 : Heap) (tk2 : Nat) (e : s1 = sh s h2 tk2) (x : Ext Z Z2) (g : Grow S S2) (hl : whileG test body n ρ2 (abs S2) = some (b, σ'))
      (F : FrameR sc env ρ2 Z2 S2 m2 cv2 Rf) (st : St Z2 (HR W Z2 S2 ++ (frOwn env.locals m2 cv2 ++ R₀)) h2) : WI W sc env Rf R₀ test body Z S b σ' s n s1
theorem while_turn {t : Expr} {body : List Stmt} (htr : ∀ ρ R, TrOk prog w W H0 A sc env ρ R (ev ρ)) (hb : BlOk prog w W H0 A sc env bl) (x0 : Ext H0 Z) (hs : ∀ p ∈ Rf, p ∈ R₀) {b : Fl × Rho} {σ' : List MO} {n : Nat} {s1 : Shared}
    (hI : WI W sc env Rf R₀ (fun ρ' => ev ρ' t >>= truthM) (bl body) Z S b σ' s n s1) {Q : Bool → Shared → Prop}
    (h0 : ∀ s1, SimPost W (RelF sc env Rf R₀) s Z S b σ' .next s1 → Q false s1) (h1 : ∀ s2, (∀ {Q2 : Flow → Shared → Prop}, (∀ k s3, k < n → WI W sc env Rf R₀ (fun ρ' => ev ρ' t >>= truthM) (bl body) Z S b σ' s k s3 → Q2 .next s3) → (∀ v s3, SimPost W (RelF sc env Rf R₀) s Z S b σ' (.ret v) s3 → Q2 (.ret v) s3) → wpAny (model prog w) A (execs body env) Q2 No s2) → Q true s2) :
    wpAny (model prog w) A (isTrue t env (eval t env)) Q No s1 := by
  obtain ⟨ρ2, Z2, S2, m2, cv2, h2, tk2, rfl, x2, g2, hl, F2, st2⟩ := hI
  cases n with
  | zero => (first | exact nope hl | exact nopeB hl | cases hl)
  | succ n =>
    rw [whileG_succ] at hl
    refine stn hl (htr ρ2 _ t Z2 S2 _ (x0.trans x2) (F2.all hs)) st2 fun c c' Z3 S3 R3 h3 tk3 x3 g3 hl st3 rl => ?_
    obtain ⟨rfl, rfl⟩ := rl
    have F3 := F2.mono x3 g3
    cases c with
    | false =>
      obtain ⟨rfl, rfl⟩ := pure_inv hl
      exact h0 _ ⟨Z3, S3, _, h3, tk3, rfl, x2.trans x3, g2.trans g3, rfl, st3, ⟨m2, cv2, rfl, F3⟩, trivial⟩
    | true =>
      refine h1 _ fun {Q2} k1 k2 => ?_
      refine stn (f := fun r => match r with
        | (.next, ρ'') => whileG (fun ρ' => ev ρ' t >>= truthM) (bl body) n ρ''
        | (.ret v, ρ'') => pure (.ret v, ρ'')) hl (hb body ρ2 Rf R₀ Z3 S3 m2 cv2 _ ((x0.trans x2).trans x3) F3 hs) st3 fun f r Z7 S7 R7 h7 tk7 x7 g7 hl st7 rl => ?_
      obtain ⟨⟨m7, cv7, rfl, F7⟩, hf⟩ := rl
      obtain ⟨fl, ρ7⟩ := r
      cases fl with
      | next =>
        cases f with
        | next => exact k1 n _ (Nat.lt_succ_self n) ⟨ρ7, Z7, S7, m7, cv7, h7, tk7, rfl, (x2.trans x3).trans x7, (g2.trans g3).trans g7, hl, F7, st7⟩
        | _ => exact hf.elim
      | ret d =>
        obtain ⟨rfl, rfl⟩ := pure_inv hl
        cases f with
        | ret u => exact k2 u _ ⟨Z7, S7, _, h7, tk7, rfl, (x2.trans x3).trans x7, (g2.trans g3).trans g7, rfl, st7, ⟨m7, cv7, rfl, F7⟩, hf⟩
        | _ => exact hf.elim

theorem st_While {t : Expr} {body : List Stmt} {pos : Pos} (htr : ∀ ρ R, TrOk prog w W H0 A sc env ρ R (ev ρ)) (hb : BlOk prog w W H0 A sc env bl) (x0 : Ext H0 Z) (F : FrameR sc env ρ Z S m cv Rf) (hs : ∀ p ∈ Rf, p ∈ R₀) :
    Sim (model prog w) W A (RelF sc env Rf R₀) Z S (frOwn env.locals m cv ++ R₀) s (exec (.While t body [] pos) env) (whileG (testM ev t) (bl body) lim ρ) := by
  intro st b σ' he
  refine wpAny_While ?_
  refine codeAny_mono (R := fun r s' => ∃ f, r = .ok f ∧ SimPost W (RelF sc env Rf R₀) s Z S b σ' f s') ?_ fun r s3 p => by obtain ⟨f, rfl, p⟩ := p; exact p
  refine codeAny_whileLoop (WI W sc env Rf R₀ (fun ρ' => ev ρ' t >>= truthM) (bl body) Z S b σ' s) (fun n s1 hI => ?_) lim ⟨ρ, Z, S, m, cv, s.heap, s.toks, rfl, Ext.refl _, Grow.refl _, he, F, st⟩
  refine wpAny_mono (E := No) (while_turn htr hb x0 hs hI (fun s1 p => ?_) fun s2 h => ?_) (fun _ _ h => h) (fun _ _ z => z.elim)
  · rw [if_neg (by decide), arm_execs_nil]
    exact wpAny_pure ⟨_, rfl, p⟩
  · rw [if_pos rfl]
    exact wpAny_mono (E := No) (h (fun k s3 lt h => ⟨k, lt, h⟩) fun v s3 p => ⟨_, rfl, p⟩) (fun _ _ h => h) (fun _ _ z => z.elim)
end
end Mine
end
section
open PySem PySem.W PyProof.Rows
set_option Elab.async false
set_option maxRecDepth 10000
namespace Mine
section
variable {prog : Program} {w : World} {W : Wd} {K : Frag} {H0 : Heap} {G : Str → Option PyData} {adr : Callee → Option Addr} {A : Around} {Z : Heap} {S : Sg} {R₀ Rf : Own} {s : Shared} {sc : Names} {env : Env} {ρ : Rho} {m : Str → Option Value} {cv : CV} {bl : List Stmt → Rho → M (Fl × Rho)}

theorem simF_none {t : Sem Flow} {c : M (Fl × Rho)} {Rel : Heap → Sg → Own → Flow → Fl × Rho → Prop} {R : Own} (h : ∀ σ, c σ = none) : Sim (model prog w) W A Rel Z S R s t c := fun _ b σ' e => by rw [h] at e; cases e

section
variable {r f : Nat} {C : Calls} (B : Bs prog w W K H0 G adr) (hw : W.hk = fun k => hashD w (tkD k)) (hC : CallsOk prog w W H0 adr r C) (hS : SortedOk prog w W) (rm : Room r A) (hb : BlOk prog w W H0 A sc env bl) (x0 : Ext H0 Z) (F : FrameR sc env ρ Z S m cv Rf) (hs : ∀ p ∈ Rf, p ∈ R₀)
include B hw hC hS rm x0 F hs
/-- a comprehension that is stored under a name at once -/
theorem st_NameC {elt : Expr} {gens : List Comprehension} {scope : Scope} {cpos : Pos} {x : Str} {p pos : Pos} :
    Sim (model prog w) W A (RelF sc env Rf R₀) Z S (frOwn env.locals m cv ++ R₀) s (exec (.Assign [.Name x p] (.ListComp elt gens scope cpos) pos) env) (nameS (evE C G f sc ρ) sc ρ x p (.ListComp elt gens scope cpos)) := by
  have hok := fun n => evE_ok (A := A) (G := G) B hw hC hS rm n
  obtain ⟨b, hb2⟩ : ∃ b, swapsWith (.ListComp elt gens scope cpos) (some (.Name x p)) pos.line env = pure b := ⟨_, rfl⟩
  cases b with
  | false => exact st_Name (ev := fun ρ => evE C G f sc ρ) (sim_new B (fun R => (hok f).1 _ _ _ _) x0 (F.all hs) _) F hb2
  | true =>
    cases f with
    | zero => exact simF_none fun σ => M.bind_none rfl
    | succ f =>
      cases gens with
      | nil => exact simF_none fun σ => M.bind_none rfl
      | cons g gs =>
        intro st b σ' he
        refine M.on he fun d σ₁ h1 he => M.onO he fun ρ' h30 he => ?_
        obtain ⟨rfl, rfl⟩ := pure_inv he
        replace h1 : compE (evE C G f) sc ρ elt (g :: gs) scope (abs S) = some (d, _) := h1
        refine stE h1 fun hco h1 => and2 hco fun c1 c2 => M.on h1 fun src σa a1 h1 => M.on h1 fun xs σb a3 h1 => stE h1 fun hl h1 => ?_
        obtain ⟨rfl, rfl⟩ := pure_inv h1
        have ha : g.is_async = 0 := by
          have a4 := a3
          rw [evGens_cons] at a4
          exact stE a4 fun hg _ => genOk_async hg
        exact st_NameUse (evS := fun e ρ' => evE C G f scope.names ρ' e) (ev := evE C G f sc ρ) B rm.hh ha ((hok f).1 _ _ _ _) (noStar_evE C G f sc ρ) (fun cenv ρ R => (hok f).1 _ cenv ρ R) (fun cenv ρ R => (hok f).2 _ cenv ρ R) (fun ρ => noStar_evE C G f _ ρ) c1 (eq_of_beq c2) x0 F hs hb2 st
          (M.run a1 a3) (okLen_of hl) h30
theorem st_asg {t e : Expr} {pos : Pos} : Sim (model prog w) W A (RelF sc env Rf R₀) Z S (frOwn env.locals m cv ++ R₀) s (exec (.Assign [t] e pos) env) (asgS (evE C G f sc ρ) sc ρ e t) := by
  have hE := (evE_ok (A := A) (G := G) B hw hC hS rm f).1
  have no := Sim.stop (Md := model prog w) (W := W) (A := A) (Rel := RelF sc env Rf R₀) (Z := Z) (S := S) (R := frOwn env.locals m cv ++ R₀) (s := s) (t := exec (.Assign [t] e pos) env) (β := Fl × Rho)
  cases t with
  | Name x p =>
    have pl := fun h => st_Name (s := s) (e := e) (x := x) (p := p) (pos := pos) (ev := fun ρ => evE C G f sc ρ) (sim_new B (fun R => hE _ _ _ _) x0 (F.all hs) e) F h
    have none_ : (∀ σ, evE C G f sc ρ e σ = none) → newKind e = .other → Sim (model prog w) W A (RelF sc env Rf R₀) Z S (frOwn env.locals m cv ++ R₀) s (exec (.Assign [.Name x p] e pos) env) (nameS (evE C G f sc ρ) sc ρ x p e) := fun h k => simF_none fun σ => M.bind_none (by unfold evNew; rw [k]; exact h σ)
    cases e with
    | ListComp elt gens scope cpos => exact st_NameC B hw hC hS rm x0 F hs
    | SetComp => exact none_ (fun σ => by cases f <;> rfl) rfl
    | DictComp => exact none_ (fun σ => by cases f <;> rfl) rfl
    | _ => exact pl rfl
  | Tuple ts k p =>
    show Sim _ _ _ _ _ _ _ _ _ (match tupE e with
      | some es => pairS (evE C G f sc ρ) sc ρ ts es
      | none => tupS (evE C G f sc ρ) sc ρ (.Tuple ts k p) e)
    cases h : tupE e with
    | none => exact st_Unpack (ev := fun ρ => evE C G f sc ρ) rm.hh (hE _ _ _ _) x0 F hs h
    | some es =>
      cases e with
      | Tuple es' k2 p2 => cases h; exact st_Pair (ev := fun ρ => evE C G f sc ρ) rm.hh (hE _ _ _ _) (noStar_evE C G f sc ρ) x0 F hs
      | _ => (first | exact nope h | exact nopeB h | cases h)
  | Attribute o n p => exact st_Attr (ev := fun ρ => evE C G f sc ρ) B (hE _ _ _ _) (sim_new B (fun R => hE _ _ _ _) x0 (F.all hs) e) x0 F hs
  | Subscript o i p => exact st_Item (ev := fun ρ => evE C G f sc ρ) rm hw (hE _ _ _ _) x0 F hs
  | _ => exact no
include hb in
theorem st_ok (st : Stmt) : Sim (model prog w) W A (RelF sc env Rf R₀) Z S (frOwn env.locals m cv ++ R₀) s (exec st env) (stM (fun ρ => evE C G f sc ρ) sc bl st ρ) := by
  obtain ⟨hE, hT⟩ := evE_ok (A := A) (G := G) B hw hC hS rm f
  cases st with
  | Return e p =>
    cases e with
    | some e => exact st_Return (ev := fun ρ => evE C G f sc ρ) (hE _ _ _ _) x0 F hs
    | none => exact Sim.stop
  | Expr e p => exact st_Expr (ev := fun ρ => evE C G f sc ρ) (hE _ _ _ _) x0 F hs
  | Assign ts e pos =>
    refine Sim.ofOb fun t ht => ?_
    rw [one_eq ht]
    exact st_asg B hw hC hS rm x0 F hs
  | If t a b p => exact st_If (ev := fun ρ => evE C G f sc ρ) (hT _ _ _ _) hb x0 F hs
  | For t it body els p =>
    refine simIf (fun h => ?_) fun _ => Sim.stop
    rw [List.isEmpty_iff.mp h]
    exact st_For (ev := fun ρ => evE C G f sc ρ) B rm.hh (hE _ _ _ _) (noStar_evE C G f sc ρ) hb x0 F hs
  | While t body els p =>
    refine simIf (fun h => ?_) fun _ => Sim.stop
    rw [List.isEmpty_iff.mp h]
    exact st_While (ev := fun ρ => evE C G f sc ρ) (fun ρ R => hT _ _ ρ R) hb x0 F hs
  | _ => exact Sim.stop
end

theorem bl_ok {r f : Nat} {C : Calls} (B : Bs prog w W K H0 G adr) (hw : W.hk = fun k => hashD w (tkD k)) (hC : CallsOk prog w W H0 adr r C) (hS : SortedOk prog w W) (rm : Room r A) (sc : Names) (env : Env) : ∀ n, BlOk prog w W H0 A sc env (evBl (fun ρ => evE C G f sc ρ) sc n)
  | 0 => fun b ρ Rf R₀ Z S m cv s x0 F hs => simF_none fun σ => rfl
  | n + 1 => by
    have ih := bl_ok (f := f) B hw hC hS rm sc env n
    intro b ρ Rf R₀ Z S m cv s x0 F hs
    cases b with
    | nil => rw [arm_execs_nil]; exact Sim.pure ⟨⟨m, cv, rfl, F⟩, trivial⟩
    | cons st rest =>
      rw [arm_execs_cons]
      show Sim _ _ _ _ _ _ _ _ _ (do
        let r ← stM (fun ρ => evE C G f sc ρ) sc (evBl (fun ρ => evE C G f sc ρ) sc n) st ρ
        match r with
        | (.next, ρ') => evBl (fun ρ => evE C G f sc ρ) sc n rest ρ'
        | (.ret v, ρ') => pure (.ret v, ρ'))
      refine Sim.bind' (st_ok B hw hC hS rm ih x0 F hs st) fun fl p Z' S' R' h' tk k g q => ?_
      obtain ⟨⟨m', cv', rfl, F'⟩, hf⟩ := q
      obtain ⟨fl', ρ'⟩ := p
      cases fl' with
      | next =>
        cases fl <;> first | exact hf.elim | skip
        exact ih rest ρ' Rf R₀ Z' S' m' cv' _ (x0.trans k) F' hs
      | ret d =>
        cases fl <;> first | exact hf.elim | skip
        exact Sim.pure ⟨⟨m', cv', rfl, F'⟩, hf⟩
end
end Mine
end
section
open PySem PySem.W PyProof.Rows
set_option Elab.async false
set_option maxRecDepth 10000
namespace Mine

noncomputable def fnOk (fn : Fn) : Bool :=
  decide ((fn.sc.map (·.1)).Nodup) && decide (fn.ps.Nodup) && fn.sc.all (fun q => q.2 != .free) && fn.ps.all fun p => (fn.sc.lookup p).any isOwnK

structure FnAt (K : Frag) (a : Addr) (fn : Fn) : Prop where
  at_ : ∃ oc od osl fd, K.lookup a = some ⟨oc, od, .func fd, osl⟩ ∧ fd.body = .stmts fn.body ∧ fd.scope.names = fn.sc ∧ fd.closure = [] ∧ fd.globals = mainGlobals ∧ fd.builtins = builtinsNs ∧ codeIn K fd.code fd.qualname = true ∧
    fd.scope.isCoroutine = false ∧ fd.scope.isGenerator = false ∧ fd.scope.kind = .function ∧ ∀ vs : List Value, vs.length = fn.ps.length → bindArgs fd ⟨vs, []⟩ = pure (fn.ps.zip vs)
  ok : fnOk fn = true

noncomputable def runF (C : Calls) (G : Str → Option PyData) (fn : Fn) (vs : List Val) : M Val := do
  let ρ ← ofO (zipP fn.ps vs)
  let r ← evBl (fun ρ => evE C G 40 fn.sc ρ) fn.sc 40 fn.body ρ
  match r with
  | (.ret v, _) => pure v
  | (.next, _) => pure (.d .none)

theorem bindL_other {kd : Str → Option NameKind} : ∀ {bs : List (Str × Value)} {m : Str → Option Value} {x : Str}, x ∉ bs.map (·.1) → bindL kd bs m x = m x
  | [], _, _, _ => rfl
  | (n, v) :: r, m, x, h => by
    rw [List.map_cons, List.mem_cons, not_or] at h
    rw [bindL, bindL_other h.2]
    split
    · show (if x = n then some v else m x) = m x
      rw [if_neg h.1]
    · rfl
theorem bindL_at {kd : Str → Option NameKind} : ∀ {bs : List (Str × Value)} {m : Str → Option Value} {x : Str} {v : Value}, (bs.map (·.1)).Nodup → (x, v) ∈ bs → kd x = some .local → bindL kd bs m x = some v
  | (n, u) :: r, m, x, v, nd, h, hk => by
    rw [List.map_cons, List.nodup_cons] at nd
    rw [bindL]
    rcases List.mem_cons.mp h with h | h
    · cases h
      rw [bindL_other nd.1, if_pos hk, if_pos rfl]
    · exact bindL_at nd.2 h hk
theorem bindC_other {kd : Str → Option NameKind} : ∀ {bs : List (Str × Value)} {m : Str → Option Value} {x : Str}, x ∉ bs.map (·.1) → bindC kd bs m x = m x
  | [], _, _, _ => rfl
  | (n, v) :: r, m, x, h => by
    rw [List.map_cons, List.mem_cons, not_or] at h
    rw [bindC, bindC_other h.2]
    split
    · rfl
    · show (if x = n then some v else m x) = m x
      rw [if_neg h.1]
theorem bindC_at {kd : Str → Option NameKind} : ∀ {bs : List (Str × Value)} {m : Str → Option Value} {x : Str} {v : Value}, (bs.map (·.1)).Nodup → (x, v) ∈ bs → kd x ≠ some .local → bindC kd bs m x = some v
  | (n, u) :: r, m, x, v, nd, h, hk => by
    rw [List.map_cons, List.nodup_cons] at nd
    rw [bindC]
    rcases List.mem_cons.mp h with h | h
    · cases h
      rw [bindC_other nd.1, if_neg hk, if_pos rfl]
    · exact bindC_at nd.2 h hk

section
variable {prog : Program} {w : World} {W : Wd} {K : Frag} {H0 : Heap} {G : Str → Option PyData} {adr : Callee → Option Addr} {A : Around} {Z : Heap} {S : Sg} {R : Own} {s : Shared}

theorem zipP_spec : ∀ {ps : List Str} {ds : List Val} {ρ : Rho} {vs : List Value}, zipP ps ds = some ρ → RVs Z S vs ds → vs.length = ps.length ∧ ∀ x d, ρ.lookup x = some d → ∃ v, (x, v) ∈ ps.zip vs ∧ RV Z S v d
  | [], [], ρ, vs, h, r => by cases r; cases h; exact ⟨rfl, fun _ _ h => nomatch h⟩
  | [], _ :: _, _, _, h, _ => by (first | exact nope h | exact nopeB h | cases h)
  | _ :: _, [], _, _, h, _ => by (first | exact nope h | exact nopeB h | cases h)
  | p :: ps, d :: ds, ρ, vs, h, r => by
    obtain ⟨ρ1, h1, rfl⟩ := Option.map_eq_some_iff.mp (show (zipP ps ds).map ((p, d) :: ·) = some ρ from h)
    cases r with
    | cons a b =>
      obtain ⟨hl, hx⟩ := zipP_spec h1 b
      refine ⟨by rw [List.length_cons, List.length_cons, hl], fun x e hxe => ?_⟩
      by_cases hxp : x = p
      · subst hxp
        rw [lookup_cons_self] at hxe
        cases hxe
        exact ⟨_, .head _, a⟩
      · rw [lookup_cons_ne hxp] at hxe
        obtain ⟨v, m, q⟩ := hx x e hxe
        exact ⟨v, .tail _ m, q⟩

theorem own_iter {h1 : Heap} {tk1 : Nat} {m cm : Str → Option Value} {cs : List (Str × Addr)} {L : Addr} (st : St Z (HR W Z S ++ R) s.heap) (ndn : (cs.map (·.1)).Nodup) (I : InCallC s L m cs cm (sh s h1 tk1)) :
    Up Z (fun Z' => HR W Z' S ++ (frOwn L m (cs.map fun q => (q.1, q.2, cm q.1)) ++ R)) h1 fun _ => True := by
  obtain ⟨Z1, x1, st1, _⟩ := St.iter (I := []) (I' := frOwn L m (cs.map fun q => (q.1, q.2, cm q.1))) (h' := h1) st (fun b o _ e => I.toInCall.keep b o e) (fun p hp => by
      rcases List.mem_cons.mp hp with rfl | hp
      · exact NsP.of I.toInCall.ns
      · obtain ⟨q, hq, rfl⟩ := List.mem_map.mp hp
        obtain ⟨q', hq', rfl⟩ := List.mem_map.mp hq
        obtain ⟨o, e1, e2⟩ := I.cell q'.1 q'.2 (lookup_of_mem ndn hq')
        exact ⟨o, e1, e2⟩) (by
      unfold frOwn
      rw [List.map_cons, List.nodup_cons]
      refine ⟨fun hmm => ?_, ?_⟩
      · obtain ⟨p, hp, e⟩ := List.mem_map.mp hmm
        obtain ⟨q, hq, rfl⟩ := List.mem_map.mp hp
        obtain ⟨q', hq', rfl⟩ := List.mem_map.mp hq
        have := I.above q'.1 q'.2 hq'
        have e : q'.2 = L := e
        rw [e] at this
        exact Nat.lt_irrefl _ this
      · rw [List.map_map, List.map_map, List.Nodup, List.pairwise_map]
        exact I.apart.imp fun h => h) (fun p hp => by
      have above : ∀ j, s.heap.objs.size ≤ j → s.heap.get? j = none := fun j hj => by
        cases e : s.heap.get? j with
        | none => rfl
        | some o => exact absurd (Heap.lt_size e) (Nat.not_lt.mpr hj)
      refine .inr (above _ ?_)
      rcases List.mem_cons.mp hp with rfl | hp
      · exact I.toInCall.fresh
      · obtain ⟨q, hq, rfl⟩ := List.mem_map.mp hp
        obtain ⟨q', hq', rfl⟩ := List.mem_map.mp hq
        exact Nat.le_trans I.toInCall.fresh (Nat.le_of_lt (I.above q'.1 q'.2 hq')))
  exact ⟨Z1, x1, st1, trivial⟩

theorem fr_start {fn : Fn} {env : Env} {ρ : Rho} {vs : List Value} {mL mC : Str → Option Value} {Z1 : Heap} (hkind : env.scope.kind = .function) (hglob : env.globals = mainGlobals) (hblt : env.builtins = builtinsNs)
    (ekind : ∀ x, env.kindOf x = fn.sc.lookup x) (ndn : (env.cells.map (·.1)).Nodup) (hcells : ∀ x, fn.sc.lookup x = some .cell → ∃ c, env.cells.lookup x = some c)
    (hm : bindL env.kindOf (fn.ps.zip vs) (fun _ => none) = mL) (hcm : bindC env.kindOf (fn.ps.zip vs) (fun _ => none) = mC) (hzk : ((fn.ps.zip vs).map (·.1)).Nodup)
    (hx : ∀ x d, ρ.lookup x = some d → ∃ v, (x, v) ∈ fn.ps.zip vs ∧ RV Z S v d) (x1 : Ext Z Z1) (o3 : fn.sc.all (fun q => q.2 != .free) = true) :
    FrameR fn.sc env ρ Z1 S mL (env.cells.map fun q => (q.1, q.2, mC q.1)) ([] : Own) where
  kind := hkind
  glob := hglob
  blt := hblt
  kr := fun x k hx => ⟨k, by rw [ekind]; exact hx, .inl rfl⟩
  nod := by rw [List.map_map]; exact ndn
  own := fun y c v hmm => by
    obtain ⟨q, hq, e⟩ := List.mem_map.mp hmm
    cases e
    exact lookup_of_mem ndn hq
  cells := fun y hy => by
    obtain ⟨c, hc⟩ := hcells y hy
    exact ⟨c, mC y, List.mem_map.mpr ⟨_, PySem.mem_of_lookup hc, rfl⟩⟩
  loc := fun y d e q => by
    obtain ⟨v, hmm, r⟩ := hx y d e
    exact ⟨v, by rw [← hm]; exact bindL_at hzk hmm (by rw [ekind]; exact q), r.mono x1 (Grow.refl _)⟩
  cel := fun y d e q => by
    obtain ⟨v, hmm, r⟩ := hx y d e
    obtain ⟨c, hc⟩ := hcells y q
    have : mC y = some v := by rw [← hcm]; exact bindC_at hzk hmm (by rw [ekind, q]; decide)
    exact ⟨c, v, List.mem_map.mpr ⟨_, PySem.mem_of_lookup hc, by rw [this]⟩, r.mono x1 (Grow.refl _)⟩
  fre := fun y d e q => by
    have := List.all_eq_true.mp o3 _ (PySem.mem_of_lookup q)
    simp at this

theorem fn_run {r : Nat} {C : Calls} {fn : Fn} (B : Bs prog w W K H0 G adr) (hw : W.hk = fun k => hashD w (tkD k)) (hC : CallsOk prog w W H0 adr r C) (hS : SortedOk prog w W) (rm : Room (r + 1) A) (x0 : Ext H0 Z) {ds : List Val}
    {Q : Flow → Shared → Prop} {E : Value → Shared → Prop} {env : Env} {ρ : Rho} {mL mC : Str → Option Value} {s₁ : Shared} (I : InCallC s env.locals mL env.cells mC s₁)
    (st : St Z (HR W Z S ++ R) s.heap) {b : Val} {σ' : List MO} (he : runF C G fn ds (abs S) = some (b, σ')) (hz : zipP fn.ps ds = some ρ) (ndn : (env.cells.map (·.1)).Nodup)
    (F : ∀ Z1, Ext Z Z1 → FrameR fn.sc env ρ Z1 S mL (env.cells.map fun q => (q.1, q.2, mC q.1)) ([] : Own))
    (hQ : ∀ f s', SimPost W (RelV R) s Z S b σ' (match f with | .ret v => v | _ => .none) s' → Q f s') : wpAny (model prog w) (A.deeper env) (execs fn.body env) Q E s₁ := by
  obtain ⟨ρ', σ₁, h1, h2⟩ := M.inv he
  obtain ⟨h10, rfl⟩ := ofO_inv h1
  rw [hz] at h10
  cases h10
  obtain ⟨r1, σ₂, h3, h4⟩ := M.inv h2
  obtain ⟨h1', tk1, rfl⟩ := I.toInCall.same
  obtain ⟨Z1, x1, st1, _⟩ := own_iter st ndn I
  have run := bl_ok (f := 40) (G := G) B hw hC hS (rm.deeper env) fn.sc env 40 fn.body ρ [] R Z1 S mL _ (sh s h1' tk1) (x0.trans x1) (F Z1 x1) (fun _ h => nomatch h) st1 r1 σ₂ h3
  refine wpAny_mono run (fun f s2 p => hQ f s2 ?_) fun _ _ z => z.elim
  obtain ⟨Z2, S2, R2, h2', tk2, rfl, x2, g2, q2, st2, ⟨m2, cv2, rfl, F2⟩, hf⟩ := p
  subst q2
  have st3 : St Z2 (HR W Z2 S2 ++ R) h2' := (st2.perm (perm_in _ _ _)).drop
  obtain ⟨fl, ρ2⟩ := r1
  cases fl with
  | next =>
    cases f <;> first | exact hf.elim | skip
    obtain ⟨rfl, rfl⟩ := pure_inv h4
    exact ⟨Z2, S2, R, h2', tk2, rfl, x1.trans x2, g2, rfl, st3, rfl, .none⟩
  | ret d =>
    cases f <;> first | exact hf.elim | skip
    obtain ⟨rfl, rfl⟩ := pure_inv h4
    exact ⟨Z2, S2, R, h2', tk2, rfl, x1.trans x2, g2, rfl, st3, rfl, hf⟩

theorem fn_code0 {r : Nat} {C : Calls} {fn : Fn} {a : Addr} (B : Bs prog w W K H0 G adr) (hw : W.hk = fun k => hashD w (tkD k)) (hC : CallsOk prog w W H0 adr r C) (hS : SortedOk prog w W) (FA : FnAt K a fn) (rm : Room (r + 1) A) (x0 : Ext H0 Z) {vs : List Value} {ds : List Val} (rv : RVs Z S vs ds)
    (st : St Z (HR W Z S ++ R) s.heap) {b : Val} {σ' : List MO} (he : runF C G fn ds (abs S) = some (b, σ')) {Q : Result → Shared → Prop} (hQ : ∀ v s', SimPost W (RelV R) s Z S b σ' v s' → Q (.ok (.ret v)) s') :
    codeAny (model prog w) A (.call (.ref a) ⟨vs, []⟩) Q s := by
  obtain ⟨ρ, σ₁, h1, -⟩ := M.inv he
  obtain ⟨h10, -⟩ := ofO_inv h1
  obtain ⟨hl, hx⟩ := zipP_spec h10 rv
  obtain ⟨oc, od, osl, fd, hK, hbody, hsc, hclo, hglob, hblt, hcode, hco, hgen, hkind, hbind⟩ := FA.at_
  have ok := FA.ok
  unfold fnOk at ok
  simp only [Bool.and_eq_true] at ok
  obtain ⟨⟨⟨o1, o2⟩, o3⟩, o4⟩ := ok
  have nd := of_decide_eq_true o1
  have k0 : Ext H0 s.heap := x0.trans st.sub
  have X : K.In s.heap := fun b o e => k0 _ _ (B.KI b o e)
  have nm := cellsFrom_names fd.scope.names (s.heap.objs.size + 1) []
  rw [List.map_nil, List.append_nil] at nm
  have hcells : ∀ x, fn.sc.lookup x = some .cell → ∃ c, (cellsFrom (s.heap.objs.size + 1) fd.scope.names []).lookup x = some c := fun x hx => by
    refine lookup_some ?_
    rw [nm, List.mem_reverse]
    exact List.mem_map.mpr ⟨(x, .cell), List.mem_filter.mpr ⟨PySem.mem_of_lookup (by rw [hsc]; exact hx), rfl⟩, rfl⟩
  refine codeAny_call_cells (fd := fd) (body := fn.body) (binds := fn.ps.zip vs) rm.depth (X _ _ hK) rfl (B.nolimit.keeps k0) (codeRec_of X hcode) hbody (hbind vs hl) hclo (fun x hx => ?_) (fun s₁ I => ?_) hco hgen hkind
  · obtain ⟨p, v⟩ := x
    rcases own_kind (List.all_eq_true.mp o4 p (List.of_mem_zip hx).1) with q | q
    · exact .inl (by rw [hsc]; exact q)
    · exact .inr ⟨by rw [hsc]; exact q, by obtain ⟨c, hc⟩ := hcells p q; rw [hc]; rfl⟩
  · have ndn : ((callEnvC fd s.heap.objs.size a).cells.map (·.1)).Nodup := by
      show ((cellsFrom (s.heap.objs.size + 1) fd.scope.names []).map (·.1)).Nodup
      rw [nm, (List.reverse_perm _).nodup_iff]
      exact (List.filter_sublist.map _).nodup (by rw [hsc]; exact nd)
    have hzk : ((fn.ps.zip vs).map (·.1)).Nodup := by rw [List.map_fst_zip (by rw [hl]; exact Nat.le_refl _)]; exact of_decide_eq_true o2
    exact fn_run B hw hC hS rm x0 I st he h10 ndn (fun Z1 x1 => fr_start hkind hglob hblt (fun x => by rw [← hsc]; rfl) ndn hcells rfl rfl hzk hx x1 o3) fun f s' p => hQ _ _ p

theorem fn_code {r : Nat} {C : Calls} {fn : Fn} {a : Addr} (B : Bs prog w W K H0 G adr) (hw : W.hk = fun k => hashD w (tkD k)) (hC : CallsOk prog w W H0 adr r C) (hS : SortedOk prog w W) (FA : FnAt K a fn) (rm : Room (r + 1) A) (x0 : Ext H0 Z) {vs : List Value} {ds : List Val} (rv : RVs Z S vs ds)
    (st : St Z (HR W Z S ++ R) s.heap) {b : Val} {σ' : List MO} (he : runF C G fn ds (abs S) = some (b, σ')) :
    codeAny (model prog w) A (.call (.ref a) ⟨vs, []⟩) (fun r s' => match r with | .ok (.ret v) => SimPost W (RelV R) s Z S b σ' v s' | .ok _ => False | .error e => No e s') s :=
  fn_code0 B hw hC hS FA rm x0 rv st he fun _ _ p => p

theorem fn_sim {r : Nat} {C : Calls} {fn : Fn} {a : Addr} (B : Bs prog w W K H0 G adr) (hw : W.hk = fun k => hashD w (tkD k)) (hC : CallsOk prog w W H0 adr r C) (hS : SortedOk prog w W) (FA : FnAt K a fn) (rm : Room (r + 1) A) (x0 : Ext H0 Z) {vs : List Value} {ds : List Val} (rv : RVs Z S vs ds) :
    Sim (model prog w) W A (RelV R) Z S R s (call (.ref a) vs) (runF C G fn ds) :=
  fun st _ _ he => wpAny_call (fn_code B hw hC hS FA rm x0 rv st he)
end
end Mine
end
section
open PySem PySem.W PyProof.Rows
set_option Elab.async false
set_option maxRecDepth 10000
namespace Mine

theorem mk_weight (C : Addr) : (Code.builtin "type.__call__" ⟨[.ref C], []⟩).weight = 1 := by rfl
theorem mk_units (C : Addr) : (Code.builtin "type.__call__" ⟨[.ref C], []⟩).cUnits = 1 := by rfl
theorem room_mk {n : Nat} {A : Around} {C : Addr} (r : Room (n + 1) A) : Room n (A.under (Code.builtin "type.__call__" ⟨[.ref C], []⟩)) :=
  ⟨r.hh, by have := r.dep; show A.depth + (Code.builtin "type.__call__" ⟨[.ref C], []⟩).weight + 2 * n + 2 ≤ 900; rw [mk_weight]; (first | lia | omega),
    by have := r.un; show A.units + (Code.builtin "type.__call__" ⟨[.ref C], []⟩).cUnits + 20 * n + 200 ≤ 9900; rw [mk_units]; (first | lia | omega)⟩

noncomputable def isNoneV : Val → Bool
  | .d .none => true
  | _ => false
theorem isNoneV_eq {v : Val} (h : isNoneV v = true) : v = .d .none := by
  cases v with
  | d x => cases x <;> first | rfl | exact nopeB h
  | p i => exact nopeB h
noncomputable def mkF (C : Calls) (G : Str → Option PyData) (c : Str) (fnI : Fn) : List Val → M Val
  | [] => fun σ => (runF C G fnI [.p σ.length] (σ ++ [.inst c []])).bind fun q => if isNoneV q.1 = true then some (.p σ.length, q.2) else none
  | _ => stop

structure ClsAt (K : Frag) (W : Wd) (adr : Callee → Option Addr) (c : Str) (fnI : Fn) : Prop where
  at_ : ∃ Ca fI, W.cA c = some Ca ∧ adr (.fn c) = some Ca ∧ makesIn K Ca = true ∧ findIn K (.ref Ca) "__init__" = some (some (.ref fI)) ∧ typeIn K (.ref fI) = some (.type "function") ∧ FnAt K fI fnI

section
variable {prog : Program} {w : World} {W : Wd} {K : Frag} {H0 : Heap} {G : Str → Option PyData} {adr : Callee → Option Addr} {A : Around} {Z : Heap} {S : Sg} {R : Own} {s : Shared}

theorem mk_sim {r : Nat} {C : Calls} {c : Str} {fnI : Fn} {Ca : Addr} (B : Bs prog w W K H0 G adr) (hw : W.hk = fun k => hashD w (tkD k)) (hC : CallsOk prog w W H0 adr r C) (hS : SortedOk prog w W) (CA : ClsAt K W adr c fnI) (ha : adr (.fn c) = some Ca) (rm : Room (r + 2) A) (x0 : Ext H0 Z) {vs : List Value} {ds : List Val} (rv : RVs Z S vs ds) :
    Sim (model prog w) W A (RelV R) Z S R s (call (.ref Ca) vs) (mkF C G c fnI ds) := by
  intro st b σ' he
  cases ds with
  | cons _ _ => (first | exact nope he | exact nopeB he | cases he)
  | nil =>
    cases rv
    obtain ⟨Ca', fI, hcA, had, hmk, hin, htf, FA⟩ := CA.at_
    rw [ha] at had; cases had
    refine obE (show ((runF C G fnI [.p (abs S).length] (abs S ++ [.inst c []])).bind fun q => if isNoneV q.1 = true then some (Val.p (abs S).length, q.2) else none) = some (b, σ') from he) fun q hr he => itE' he fun hn he => ?_
    obtain ⟨q1, σ2⟩ := q
    obtain rfl := isNoneV_eq hn
    · cases he
      have k0 : Ext H0 s.heap := x0.trans st.sub
      have X : K.In s.heap := fun b o e => k0 _ _ (B.KI b o e)
      obtain ⟨hh, g, d, t, os⟩ := s
      have big1 : hh.get? (hh.objs.size + 1) = none := by
        cases e : hh.get? (hh.objs.size + 1) with
        | none => rfl
        | some o => exact absurd (Heap.lt_size e) (Nat.not_lt.mpr (Nat.le_add_right _ _))
      have hsz : (hh.push emptyDict).objs.size = hh.objs.size + 1 := Heap.size_push ..
      obtain ⟨Z1, x1, st1, g1⟩ := St.newMO (h' := (hh.push emptyDict).push (instObj Ca hh.objs.size)) ⟨hh.objs.size + 1, hh.objs.size, .inst c []⟩ st (fun b o e => Heap.get?_push_of_some _ (Heap.get?_push_of_some _ e)) (fun p hp => by
          simp only [mres, List.mem_cons, List.not_mem_nil, or_false] at hp
          rcases hp with rfl | rfl
          · exact ⟨_, by rw [← hsz]; exact Heap.get?_push_size _ rfl, Ca, hcA, rfl⟩
          · exact ⟨_, Heap.get?_push_of_some _ (Heap.get?_push_size _ rfl), [], 0, rfl, .nil⟩) (by simp [mres]) (fun p hp => by
          simp only [mres, List.mem_cons, List.not_mem_nil, or_false] at hp
          rcases hp with rfl | rfl
          · exact big1
          · exact get_size _)
      have eabs : abs (S ++ [⟨hh.objs.size + 1, hh.objs.size, .inst c []⟩]) = abs S ++ [.inst c []] := abs_push _ _
      have hr' : runF C G fnI [.p S.length] (abs (S ++ [⟨hh.objs.size + 1, hh.objs.size, .inst c []⟩])) = some (.d .none, σ2) := by
        rw [eabs]
        have : (abs S).length = S.length := by unfold abs; simp
        rw [← this]; exact hr
      refine wpAny_call (make_core (makes_of X hmk) (looks_findIn X hin) (fun self => bind_fn X self htf) (.inl rfl) ?_)
      refine fn_code0 (R := R) (A := A.under (Code.builtin "type.__call__" ⟨[.ref Ca], []⟩)) (s := ⟨(hh.push emptyDict).push (instObj Ca hh.objs.size), g, d, t, os⟩) (vs := [.ref (hh.objs.size + 1)]) (ds := [.p S.length])
        B hw hC hS FA (room_mk (C := Ca) rm) (x0.trans x1) (.cons ⟨_, get_push S _, rfl⟩ .nil) st1 hr' fun v s' p => ?_
      obtain ⟨Z2, S2, R2, h2, tk2, rfl, x2, g2, q2, st2, rfl, rv2⟩ := p
      cases (show RD Z2 v .none from rv2)
      refine ⟨rfl, Z2, S2, _, h2, tk2, rfl, x1.trans x2, g1.trans g2, q2, st2, rfl, ?_⟩
      obtain ⟨l2, el2, hx, _⟩ := g2 S.length _ (get_push S _)
      exact ⟨l2, by rw [show (abs S).length = S.length from by unfold abs; simp]; exact el2, by rw [hx]⟩

noncomputable def isCls (c : Str) : Bool := c == ("Gatherer" : Str) || c == ("Flat" : Str)
noncomputable def callStep (tab : List (Callee × Fn)) (G : Str → Option PyData) (C : Calls) : Calls := fun f vs => match f with
  | .fn c => if isCls c then (match tab.lookup (.mth c "__init__") with
      | some fnI => mkF C G c fnI vs
      | none => stop)
    else match tab.lookup (.fn c) with
      | some fn => runF C G fn vs
      | none => stop
  | .mth c m => match tab.lookup (.mth c m) with
      | some fn => runF C G fn vs
      | none => stop
noncomputable def callAt (tab : List (Callee × Fn)) (G : Str → Option PyData) : Nat → Calls
  | 0 => fun _ _ => stop
  | n + 1 => callStep tab G (callAt tab G n)

theorem callsOk_at {tab : List (Callee × Fn)} (B : Bs prog w W K H0 G adr) (hw : W.hk = fun k => hashD w (tkD k)) (hS : SortedOk prog w W)
    (hfn : ∀ c fn, isCls c = false → tab.lookup (.fn c) = some fn → ∃ a, adr (.fn c) = some a ∧ FnAt K a fn) (hm : ∀ c m fn, tab.lookup (.mth c m) = some fn → ∃ a, adr (.mth c m) = some a ∧ FnAt K a fn)
    (hcl : ∀ c fn, isCls c = true → tab.lookup (.mth c "__init__") = some fn → ClsAt K W adr c fn) : ∀ n, CallsOk prog w W H0 adr (2 * n) (callAt tab G n)
  | 0 => ⟨fun _ _ _ _ _ _ _ _ _ _ _ _ _ => Sim.stop, fun _ _ _ _ h => nomatch h⟩
  | n + 1 => by
    have ihn := callsOk_at B hw hS hfn hm hcl n
    constructor
    · intro c a vs ds Z S R s A had rm x0 rv
      have rm2 : Room (2 * n + 2) A := rm.le (by (first | lia | omega))
      have rm1 : Room (2 * n + 1) A := rm.le (by (first | lia | omega))
      show Sim _ _ _ _ _ _ _ _ _ (callStep tab G (callAt tab G n) c ds)
      unfold callStep
      split
      · rename_i c
        split
        · rename_i hc
          split
          · rename_i fnI hf
            exact mk_sim B hw ihn hS (hcl c fnI hc hf) had rm2 x0 rv
          · exact Sim.stop
        · rename_i hc
          split
          · rename_i fn hf
            obtain ⟨a', ha', FA⟩ := hfn c fn (by simpa using hc) hf
            rw [had] at ha'; cases ha'
            exact fn_sim B hw ihn hS FA rm1 x0 rv
          · exact Sim.stop
      · rename_i c m
        split
        · rename_i fn hf
          obtain ⟨a', ha', FA⟩ := hm c m fn hf
          rw [had] at ha'; cases ha'
          exact fn_sim B hw ihn hS FA rm1 x0 rv
        · exact Sim.stop
    · intro c ds σ x h
      have h : callStep tab G (callAt tab G n) c ds σ = some x := h
      unfold callStep at h
      cases c with
      | fn c =>
        dsimp only at h
        by_cases hc : isCls c = true
        · cases hf : tab.lookup (.mth c "__init__") with
          | none => rw [if_pos hc, hf] at h; cases h
          | some fnI =>
            obtain ⟨Ca, fI, _, had, _⟩ := (hcl c fnI hc hf).at_
            rw [had]; rfl
        · cases hf : tab.lookup (.fn c) with
          | none => rw [if_neg hc, hf] at h; cases h
          | some fn =>
            obtain ⟨a', ha', _⟩ := hfn c fn (by simpa using hc) hf
            rw [ha']; rfl
      | mth c m =>
        dsimp only at h
        cases hf : tab.lookup (.mth c m) with
        | none => rw [hf] at h; cases h
        | some fn =>
          obtain ⟨a', ha', _⟩ := hm c m fn hf
          rw [ha']; rfl
end
end Mine
end
section
open PySem PySem.W PyProof.Rows
set_option Elab.async false
set_option maxRecDepth 10000
namespace Mine
noncomputable def fnOf' : Stmt → Option (Str × Fn)
  | .FunctionDef n a b _ _ _ sc _ _ _ => some (n, ⟨a.args.map (·.arg), sc.names, b⟩)
  | _ => none
noncomputable def tab : List (Callee × Fn) := PySem.Challenge.pw_nz0019_01.main.body.flatMap fun st => match st with
  | .ClassDef c _ _ b .. => b.filterMap fun s => (fnOf' s).map fun q => (.mth c q.1, q.2)
  | s => ((fnOf' s).map fun q => (.fn q.1, q.2)).toList
noncomputable def glob : Str → Option PyData := fun x =>
  if x == ("TRUTHS" : Str) then some (.tuple [.tuple [.int 0, .int 1]])
  else if x == ("MOST_SHOWN" : Str) then some (.int 1000)
  else if x == ("_law_menu" : Str) then some (.tuple ([0, 1, -1, 2, -2, 3, 4, -6].map .int))
  else none
end Mine
end
section
open PySem PySem.W PyProof.Rows
set_option Elab.async false
set_option maxRecDepth 10000
namespace Mine

theorem lookup_zip {names : List Str} {vs : List Value} (nd : names.Nodup) (hl : vs.length = names.length) {n : Str} (h : n ∈ names) : ∃ v, (names.zip vs).lookup n = some v ∧ (n, v) ∈ names.zip vs := by
  have : n ∈ (names.zip vs).map (·.1) := by rw [List.map_fst_zip (by rw [hl]; exact Nat.le_refl _)]; exact h
  obtain ⟨⟨m, v⟩, hm, rfl⟩ := List.mem_map.mp this
  exact ⟨v, lookup_of_mem (by rw [List.map_fst_zip (by rw [hl]; exact Nat.le_refl _)]; exact nd) hm, hm⟩

theorem filterMap_zip : ∀ {names : List Str} {vs : List Value}, names.Nodup → vs.length = names.length → ∀ {l : List (Str × Value)}, (∀ p ∈ names.zip vs, l.lookup p.1 = some p.2) → names.filterMap (fun n => (l.lookup n).map (n, ·)) = names.zip vs
  | [], vs, _, _, _, _ => rfl
  | n :: ns, v :: vs, nd, hl, l, h => by
    rw [List.nodup_cons] at nd
    rw [List.filterMap_cons, h (n, v) (.head _), List.zip_cons_cons]
    simp only [Option.map_some]
    rw [filterMap_zip nd.2 (by simpa using hl) fun p hp => h p (.tail _ hp)]
  | n :: ns, [], _, hl, _, _ => by simp at hl

theorem ite_f {α : Type} {b : Bool} {x y z : α} (h : b = false) (e : y = z) : (if b = true then x else y) = z := by subst h; exact e
theorem forIn_nil {α β γ : Type} {l : List α} {b : β} {f : α → β → Sem (ForInStep β)} {k : β → Sem γ} {z : Sem γ} (h : l = []) (e : k b = z) : (forIn l b f >>= k) = z := by subst h; exact e
theorem bind_simple0 {a1 a2 : Str} {a3 a4 a5} {a6 a7} {a8 a9 a10 a11 a12 a13 a14 a15} {a16 : Addr} {names : List Str} {vs : List Value} 
    (hn : a3.map (·.arg) = names) 
    (h1 : (decide (vs.length > names.length) && true) = false) (h2 : (!(List.filter (fun n => ((names.zip vs).lookup n).isNone) (names.take (names.length - (List.drop (0 - names.length) ([] : List Value)).length))).isEmpty) = false) 
    (h3 : names.filterMap (fun n => ((names.zip vs).lookup n).map (n, ·)) = names.zip vs) : bindArgs ⟨a1, a2, ⟨[], a3, none, [], a4, none, a5⟩, a6, a7, a8, a9, .none, a10, a11, a12, a13, a14, a15, a16⟩ ⟨vs, []⟩ = pure (names.zip vs) := by
  unfold bindArgs
  dsimp only [List.map_nil, List.nil_append]
  rw [hn]
  refine ite_f h1 (ite_f h2 (forIn_nil ?_ ?_))
  · show (List.drop _ names).zip (List.drop (0 - names.length) []) = []
    rw [List.drop_nil, List.zip_nil_right]
  · refine forIn_nil rfl (ite_f rfl (congrArg pure ?_))
    exact (congrArg (List.filterMap _) (List.append_nil names)).trans h3
theorem args_eta {p : Arguments} {a b c d} (h1 : p.posonlyargs = a) (h2 : p.vararg = b) (h3 : p.kwonlyargs = c) (h4 : p.kwarg = d) : p = ⟨a, p.args, b, c, p.kw_defaults, d, p.defaults⟩ := by subst h1; subst h2; subst h3; subst h4; cases p; rfl
theorem fd_eta {fd : FuncData} {p d} (h1 : fd.params = p) (h2 : fd.defaults = d) : fd = { fd with params := p, defaults := d } := by subst h1; subst h2; rfl
theorem bind_simple1 {names : List Str} {vs : List Value} (h1 : (decide (vs.length > names.length) && true) = false) (h2 : (!(List.filter (fun n => ((names.zip vs).lookup n).isNone) (names.take (names.length - (List.drop (0 - names.length) ([] : List Value)).length))).isEmpty) = false) 
    (h3 : names.filterMap (fun n => ((names.zip vs).lookup n).map (n, ·)) = names.zip vs) {fd : FuncData} (hp : fd.params.posonlyargs = []) (hk : fd.params.kwonlyargs = []) (hv : fd.params.vararg = none) (hkw : fd.params.kwarg = none) (hd : fd.defaults = .none) (hn : fd.params.args.map (·.arg) = names) : bindArgs fd ⟨vs, []⟩ = pure (names.zip vs) :=
  (congrArg (bindArgs · ⟨vs, []⟩) (fd_eta (args_eta hp hv hk hkw) hd)).trans (bind_simple0 hn h1 h2 h3)
theorem bind_simple2 {names : List Str} {fd : FuncData} (hp : fd.params.posonlyargs = []) (hk : fd.params.kwonlyargs = []) (hv : fd.params.vararg = none) (hkw : fd.params.kwarg = none) (hd : fd.defaults = .none) (hn : fd.params.args.map (·.arg) = names) (nd : names.Nodup) {vs : List Value}
    (hl : vs.length = names.length) : bindArgs fd ⟨vs, []⟩ = pure (names.zip vs) := by
  refine bind_simple1 ?_ ?_ ?_ hp hk hv hkw hd hn
  · rw [Bool.and_true, hl]; exact decide_eq_false (Nat.lt_irrefl _)
  · rw [List.drop_nil]
    refine congrArg not (List.isEmpty_iff.mpr (List.filter_eq_nil_iff.mpr fun n hn => ?_))
    obtain ⟨v, hv, _⟩ := lookup_zip nd hl (List.mem_of_mem_take hn)
    rw [hv]; exact Bool.false_ne_true
  · refine filterMap_zip nd hl fun p hp => ?_
    obtain ⟨a, b⟩ := p
    exact lookup_of_mem (by rw [List.map_fst_zip (by rw [hl]; exact Nat.le_refl _)]; exact nd) hp
theorem bind_simple {fd : FuncData} (hp : fd.params.posonlyargs = []) (hk : fd.params.kwonlyargs = []) (hv : fd.params.vararg = none) (hkw : fd.params.kwarg = none) (hd : fd.defaults = .none) (nd : (fd.params.args.map (·.arg)).Nodup) {vs : List Value}
    (hl : vs.length = (fd.params.args.map (·.arg)).length) : bindArgs fd ⟨vs, []⟩ = pure ((fd.params.args.map (·.arg)).zip vs) := bind_simple2 hp hk hv hkw hd rfl nd hl

noncomputable def fnB (fd : FuncData) : Bool :=
  fd.params.posonlyargs.isEmpty && fd.params.kwonlyargs.isEmpty && fd.params.vararg.isNone && fd.params.kwarg.isNone && fd.defaults == .none && fd.closure.isEmpty && fd.globals == mainGlobals && fd.builtins == builtinsNs &&
    !fd.scope.isCoroutine && !fd.scope.isGenerator && fd.scope.kind == .function

noncomputable def fnK (K : Frag) (a : Addr) : Option Fn := match K.lookup a with
  | some ⟨_, _, .func fd, _⟩ => match fd.body with
    | .stmts b => if fnB fd && codeIn K fd.code fd.qualname then some ⟨fd.params.args.map (·.arg), fd.scope.names, b⟩ else none
    | _ => none
  | _ => none

theorem fnAt_of {K : Frag} {a : Addr} {fn : Fn} (h : fnK K a = some fn) (ok : fnOk fn = true) : FnAt K a fn := by
  unfold fnK at h
  cases hK : K.lookup a with
  | none => rw [hK] at h; exact nope h
  | some o =>
    rw [hK] at h
    obtain ⟨oc, od, dt, osl⟩ := o
    cases dt with
    | func fd =>
      dsimp only at h
      cases hb : fd.body with
      | stmts b =>
        rw [hb] at h
        refine itE' h fun hc h => ?_
        cases h
        unfold fnB at hc
        simp only [Bool.and_eq_true, List.isEmpty_iff, Option.isNone_iff_eq_none, beq_iff_eq, Bool.not_eq_true'] at hc
        obtain ⟨⟨⟨⟨⟨⟨⟨⟨⟨⟨⟨h1, h2⟩, h3⟩, h4⟩, h5⟩, h6⟩, h7⟩, h8⟩, h9⟩, h10⟩, h11⟩, h12⟩ := hc
        refine ⟨⟨oc, od, osl, fd, hK, hb, rfl, h6, h7, h8, h12, h9, h10, h11, fun vs hl => bind_simple h1 h2 h3 h4 h5 ?_ hl⟩, ok⟩
        unfold fnOk at ok
        simp only [Bool.and_eq_true] at ok
        exact of_decide_eq_true ok.1.1.2
      | _ => rw [hb] at h; exact nope h
    | _ => exact nope h

noncomputable def reached : List Callee := [.fn "least", .fn "greatest", .mth "Flat" "__init__", .mth "Flat" "new_var", .mth "Flat" "post", .mth "Flat" "size", .mth "Flat" "domain_of", .fn "within_figures", .fn "is_made", .fn "sum_of", .fn "contrary", .fn "common_of",
  .mth "Gatherer" "__init__", .mth "Gatherer" "once", .mth "Gatherer" "bounds", .mth "Gatherer" "row", .mth "Gatherer" "row_truth", .mth "Gatherer" "told_truth",
  .fn "_law_draw", .fn "_law_rows", .fn "_law_domain", .fn "_law_sum", .fn "_law_stands", .fn "_law_truth_at", .fn "_law_is_row_right", .fn "_law_is_sum_right", .fn "law"]
end Mine
end
section
open PySem PySem.W PyProof.Rows
set_option Elab.async false
set_option maxRecDepth 10000
namespace Mine

noncomputable def glb (K : Frag) (f : Str) : Option Addr := match nsIn K mainGlobals f with
  | some (some (.ref a)) => some a
  | _ => none
theorem glb_inv {K : Frag} {f : Str} {a : Addr} (h : glb K f = some a) : nsIn K mainGlobals f = some (some (.ref a)) := by
  unfold glb at h
  split at h
  · rename_i e
    cases h
    exact e
  · exact nope h
noncomputable def clsB (K : Frag) (C : Addr) : Bool :=
  plainGet K C "" && hasDictIn K C && findIn K (.ref C) "__setattr__" == some (some (.builtin "object.__setattr__")) && plainOver K C && fieldNames.all fun n => findIn K (.ref C) n == some none
noncomputable def clsK (K : Frag) (c : Str) : Option Addr := if isCls c then (glb K c).bind fun C => if clsB K C then some C else none else none
noncomputable def adrK (K : Frag) : Callee → Option Addr
  | .fn f => (glb K f).bind fun a => if keepIn K (.ref a) then some a else none
  | .mth c m => (clsK K c).bind fun C => match findIn K (.ref C) m with
    | some (some (.ref a)) => if keepIn K (.ref a) && isFn K (.ref a) then some a else none
    | _ => none
noncomputable def builtinsB (K : Frag) : Bool := builtinTab.all fun q => nsIn K mainGlobals q.1 == some none

noncomputable def tupK (o : Obj) : Option (Array Value × Nat) := match o.data with
  | .seq vs n => if o.cls == .type "tuple" && o.dict == none && o.slots.size == 0 then some (vs, n) else none
  | _ => none
theorem tupK_ok {o : Obj} {vs : Array Value} {n : Nat} (h : tupK o = some (vs, n)) : o = tupOf vs n := by
  obtain ⟨c, d, dt, sl⟩ := o
  cases dt with
  | seq us k =>
    refine itE' (show (if (c == .type "tuple" && d == none && sl.size == 0) = true then some (us, k) else none) = some (vs, n) from h) fun hc h => ?_
    cases h
    simp only [Bool.and_eq_true, beq_iff_eq] at hc
    obtain ⟨⟨rfl, rfl⟩, h3⟩ := hc
    have : sl = #[] := Array.eq_empty_of_size_eq_zero h3
    subst this; rfl
  | _ => exact nope h
noncomputable def seqK (K : Frag) (v : Value) : Option (Array Value × Nat) := match v with
  | .ref a => (K.lookup a).bind tupK
  | _ => none
theorem seqK_inv {K : Frag} {v : Value} {q : Array Value × Nat} (h : seqK K v = some q) : ∃ a, v = .ref a ∧ K.lookup a = some (tupOf q.1 q.2) := by
  cases v with
  | ref a =>
    obtain ⟨o, h2, h3⟩ := Option.bind_eq_some_iff.mp (show (K.lookup a).bind tupK = some q from h)
    exact ⟨a, rfl, (tupK_ok h3) ▸ h2⟩
  | _ => exact nope h
noncomputable def intK (v : Value) : Option Int := match v with
  | .int i _ => some i
  | _ => none
mutual
noncomputable def rdK (K : Frag) : Nat → Value → Option PyData
  | 0, _ => none
  | n + 1, v => match intK v with
    | some i => some (.int i)
    | none => (seqK K v).bind fun q => (rdKs K n q.1.toList).map .tuple
noncomputable def rdKs (K : Frag) : Nat → List Value → Option (List PyData)
  | 0, _ => none
  | _ + 1, [] => some []
  | n + 1, v :: vs => (rdK K n v).bind fun x => (rdKs K n vs).map (x :: ·)
end
theorem rdK_succ {K : Frag} {n : Nat} {v : Value} : rdK K (n + 1) v = match intK v with
    | some i => some (.int i)
    | none => (seqK K v).bind fun q => (rdKs K n q.1.toList).map .tuple := rfl
mutual
theorem rdK_ok {K : Frag} {h : Heap} (X : K.In h) : ∀ (n : Nat) (v : Value) (x : PyData), rdK K n v = some x → RD h v x
  | 0, v, x, e => nope e
  | n + 1, v, x, e => by
    cases hi : intK v with
    | some i =>
      rw [show rdK K (n + 1) v = some (.int i) by rw [rdK_succ, hi]] at e
      cases e
      cases v <;> cases hi
      exact .int _ _
    | none =>
        rw [show rdK K (n + 1) v = (seqK K v).bind fun q => (rdKs K n q.1.toList).map .tuple by rw [rdK_succ, hi]] at e
        obtain ⟨q, hq, e⟩ := Option.bind_eq_some_iff.mp e
        obtain ⟨xs, h1, rfl⟩ := Option.map_eq_some_iff.mp e
        obtain ⟨a, rfl, h2⟩ := seqK_inv hq
        exact .tuple (n := q.2) (X _ _ h2) (rdKs_ok X n _ _ h1)
theorem rdKs_ok {K : Frag} {h : Heap} (X : K.In h) : ∀ (n : Nat) (v : List Value) (x : List PyData), rdKs K n v = some x → RDs h v x
  | 0, v, x, e => nope e
  | n + 1, [], x, e => by cases e; exact .nil
  | n + 1, v :: vs, x, e => by
    obtain ⟨a, h1, e⟩ := Option.bind_eq_some_iff.mp (show (rdK K n v).bind _ = some x from e)
    obtain ⟨b, h2, rfl⟩ := Option.map_eq_some_iff.mp e
    exact .cons (rdK_ok X n v _ h1) (rdKs_ok X n vs _ h2)
end

theorem boots : ∀ q ∈ builtinTab, bootBuiltins q.1 = some q.2 ∧ q.1 ≠ "__name__" := by
  intro q hq
  simp only [builtinTab, List.mem_cons, List.not_mem_nil, or_false] at hq
  rcases hq with rfl | rfl | rfl | rfl | rfl | rfl | rfl | rfl | rfl | rfl | rfl | rfl | rfl | rfl | rfl <;> exact ⟨by decide +kernel, by decide⟩

theorem mkBs {prog : Program} {w : World} {K : Frag} {H0 : Heap} {G : Str → Option PyData} {p : Program} {loose : List Str} {mg mb : Str → Option Value} (X : K.In H0) (T : TopRead p loose mg mb H0) (hb : builtinsB K = true)
    (hg : ∀ x d, G x = some d → ∃ v, nsIn K mainGlobals x = some (some v) ∧ rdK K 20 v = some d) (hbig : ∃ a o, K.lookup a = some o ∧ 3 ≤ a) :
    Nonempty (Bs prog w ⟨clsK K, fun k => hashD w (tkD k)⟩ K H0 G (adrK K)) := by
  have cls_of : ∀ c C, clsK K c = some C → glb K c = some C ∧ clsB K C = true := by
    intro c C h
    unfold clsK at h
    split at h
    · obtain ⟨C', h1, h2⟩ := Option.bind_eq_some_iff.mp h
      split at h2
      · cases h2; exact ⟨h1, by assumption⟩
      · (first | exact nope h2 | exact nopeB h2 | cases h2)
    · (first | exact nope h | exact nopeB h | cases h)
  have glb_of : ∀ f a, glb K f = some a → mg f = some (.ref a) := by
    intro f a h
    exact mg_of X T.g (glb_inv h)
  exact ⟨{
    KI := X
    mg := mg
    mb := mb
    g := T.g
    b := T.b
    nolimit := T.nolimit
    big := by obtain ⟨a, o, h1, h2⟩ := hbig; exact ⟨a, o, X _ _ h1, h2⟩
    glob := fun x d h => by
      obtain ⟨v, h1, h2⟩ := hg x d h
      exact ⟨v, mg_of X T.g h1, rdK_ok X _ _ _ h2⟩
    blt := fun x v h => by
      have hm := PySem.mem_of_lookup h
      obtain ⟨b1, b2⟩ := boots _ hm
      have h1 := List.all_eq_true.mp hb _ hm
      exact ⟨ns_none_of X T.g (eq_of_beq h1), by rw [T.builtins x b2]; exact b1⟩
    fn := fun f a h => by
      unfold adrK at h
      obtain ⟨a', h1, h2⟩ := Option.bind_eq_some_iff.mp h
      split at h2
      · cases h2; exact glb_of _ _ h1
      · (first | exact nope h2 | exact nopeB h2 | cases h2)
    keep := fun c a h => by
      unfold adrK at h
      split at h
      · obtain ⟨a', h1, h2⟩ := Option.bind_eq_some_iff.mp h
        split at h2
        · cases h2; assumption
        · (first | exact nope h2 | exact nopeB h2 | cases h2)
      · obtain ⟨C, h1, h2⟩ := Option.bind_eq_some_iff.mp h
        split at h2
        · split at h2
          · rename_i hk
            cases h2
            rw [Bool.and_eq_true] at hk
            exact hk.1
          · (first | exact nope h2 | exact nopeB h2 | cases h2)
        · (first | exact nope h2 | exact nopeB h2 | cases h2)
    cls := fun c C h => by
      obtain ⟨_, h1⟩ := cls_of c C h
      unfold clsB at h1
      simp only [Bool.and_eq_true] at h1
      obtain ⟨⟨⟨⟨a1, a2⟩, a3⟩, a4⟩, a5⟩ := h1
      exact ⟨a1, a2, eq_of_beq a3, a4, fun n hn => eq_of_beq (List.all_eq_true.mp a5 n (List.contains_iff_mem.mp hn))⟩
    mth := fun c m a C h hc => by
      unfold adrK at h
      obtain ⟨C', h1, h2⟩ := Option.bind_eq_some_iff.mp h
      have hc : clsK K c = some C := hc
      rw [hc] at h1; cases h1
      split at h2
      · rename_i a' e
        split at h2
        · rename_i hk
          cases h2
          rw [Bool.and_eq_true] at hk
          exact ⟨e, hk.2⟩
        · (first | exact nope h2 | exact nopeB h2 | cases h2)
      · cases h2 }⟩
end Mine
end
section
open PySem PySem.W PyProof.Rows
set_option Elab.async false
set_option maxRecDepth 100000
set_option maxHeartbeats 4000000
namespace Mine
noncomputable def clsOkB (K : Frag) (c : Str) : Bool := (clsK K c).any fun C => (adrK K (.fn c)).any fun C' => (adrK K (.mth c "__init__")).any fun fI =>
  C == C' && makesIn K C && findIn K (.ref C) "__init__" == some (some (.ref fI)) && typeIn K (.ref fI) == some (.type "function")
theorem anyE {α : Type} {o : Option α} {p : α → Bool} {P : Prop} (h : o.any p = true) (k : ∀ a, o = some a → p a = true → P) : P := by
  cases o with
  | none => exact nopeB h
  | some a => exact k a rfl h
noncomputable def glK (K : Frag) (x : Str) : Option PyData := (nsIn K mainGlobals x).bind fun v => v.bind fun v => rdK K 20 v
/-- all that is asked of the heap behind the top -/
noncomputable def factsOf (K : Frag) : Bool × Bool × Bool × Bool × Option PyData × Option PyData × Option PyData × List (Option Fn) :=
  (builtinsB K, (K.lookup 3).isSome, clsOkB K "Gatherer", clsOkB K "Flat", glK K "TRUTHS", glK K "MOST_SHOWN", glK K "_law_menu", reached.map fun f => (adrK K f).bind (fnK K))
noncomputable def factsGood : Bool × Bool × Bool × Bool × Option PyData × Option PyData × Option PyData × List (Option Fn) :=
  (true, true, true, true, some (.tuple [.tuple [.int 0, .int 1]]), some (.int 1000), some (.tuple ([0, 1, -1, 2, -2, 3, 4, -6].map .int)), reached.map fun f => tab.lookup f)
structure KFacts (K : Frag) : Prop where
  blt : builtinsB K = true
  big : (K.lookup 3).isSome = true
  c1 : clsOkB K "Gatherer" = true
  c2 : clsOkB K "Flat" = true
  truths : glK K "TRUTHS" = some (.tuple [.tuple [.int 0, .int 1]])
  most : glK K "MOST_SHOWN" = some (.int 1000)
  menu : glK K "_law_menu" = some (.tuple ([0, 1, -1, 2, -2, 3, 4, -6].map .int))
  fns : ∀ f ∈ reached, (adrK K f).bind (fnK K) = tab.lookup f
theorem KFacts.of {K : Frag} (h : factsOf K = factsGood) : KFacts K :=
  ⟨congrArg (·.1) h, congrArg (·.2.1) h, congrArg (·.2.2.1) h, congrArg (·.2.2.2.1) h, congrArg (·.2.2.2.2.1) h, congrArg (·.2.2.2.2.2.1) h, congrArg (·.2.2.2.2.2.2.1) h, List.map_inj_left.mp (congrArg (·.2.2.2.2.2.2.2) h)⟩
theorem gl_at {K : Frag} {x : Str} {d : PyData} (h : glK K x = some d) : ∃ v, nsIn K mainGlobals x = some (some v) ∧ rdK K 20 v = some d := by
  unfold glK at h
  obtain ⟨o, h1, h2⟩ := Option.bind_eq_some_iff.mp h
  obtain ⟨v, h3, h4⟩ := Option.bind_eq_some_iff.mp h2
  subst h3
  exact ⟨v, h1, h4⟩
theorem k_glob {K : Frag} (F : KFacts K) : ∀ x d, glob x = some d → ∃ v, nsIn K mainGlobals x = some (some v) ∧ rdK K 20 v = some d := by
  intro x d h
  unfold glob at h
  split at h
  · rename_i hx; obtain rfl := eq_of_beq hx; cases h; exact gl_at F.truths
  split at h
  · rename_i hx; obtain rfl := eq_of_beq hx; cases h; exact gl_at F.most
  split at h
  · rename_i hx; obtain rfl := eq_of_beq hx; cases h; exact gl_at F.menu
  · cases h
theorem k_ok : (reached.all fun f => (tab.lookup f).all fnOk) = true := by kernel_rfl
noncomputable def tabR : List (Callee × Fn) := reached.filterMap fun c => (tab.lookup c).map (c, ·)
theorem filterMap_lookup {l : List Callee} {g : Callee → Option Fn} {f : Callee} {fn : Fn} (h : (l.filterMap fun c => (g c).map (c, ·)).lookup f = some fn) : f ∈ l ∧ g f = some fn := by
  induction l with
  | nil => cases h
  | cons c r ih =>
    rw [List.filterMap_cons] at h
    cases hc : g c with
    | none => simp only [hc, Option.map_none] at h; obtain ⟨a, b⟩ := ih h; exact ⟨.tail _ a, b⟩
    | some x =>
      simp only [hc, Option.map_some] at h
      rw [List.lookup_cons] at h
      by_cases e : f = c
      · subst e; simp at h; subst h; exact ⟨.head _, hc⟩
      · rw [show (f == c) = false from by simpa using e] at h
        obtain ⟨a, b⟩ := ih h
        exact ⟨.tail _ a, b⟩
theorem tab_at {K : Frag} (F : KFacts K) {f : Callee} {fn : Fn} (h : tabR.lookup f = some fn) : ∃ a, adrK K f = some a ∧ FnAt K a fn := by
  obtain ⟨h1, h2⟩ := filterMap_lookup h
  have h3 := F.fns f h1
  rw [h2] at h3
  obtain ⟨a, h4, h5⟩ := Option.bind_eq_some_iff.mp h3
  have h6 := List.all_eq_true.mp k_ok f h1
  rw [h2] at h6
  exact ⟨a, h4, fnAt_of h5 h6⟩
theorem cls_at {K : Frag} (F : KFacts K) {w : World} {c : Str} {fn : Fn} (hc : isCls c = true) (h : tabR.lookup (.mth c "__init__") = some fn) : ClsAt K ⟨clsK K, fun k => hashD w (tkD k)⟩ (adrK K) c fn := by
  obtain ⟨a, ha, FA⟩ := tab_at F h
  have hb : clsOkB K c = true := by
    unfold isCls at hc
    rcases Bool.or_eq_true_iff.mp hc with q | q
    · obtain rfl := eq_of_beq q; exact F.c1
    · obtain rfl := eq_of_beq q; exact F.c2
  unfold clsOkB at hb
  refine anyE hb fun C e1 hb => anyE hb fun C' e2 hb => anyE hb fun fI e3 hb => and2 hb fun hb b4 => and2 hb fun hb b3 => and2 hb fun b1 b2 => ?_
  obtain rfl := eq_of_beq b1
  rw [ha] at e3; cases e3
  exact ⟨C, _, e1, e2, b2, eq_of_beq b3, eq_of_beq b4, FA⟩
end Mine
end
section
open PySem PySem.W PyProof.Rows
set_option Elab.async false
set_option maxRecDepth 100000
set_option maxHeartbeats 8000000
namespace Mine
noncomputable abbrev pw := PySem.Challenge.pw_nz0019_01
/-- the statements of the top, but those that name the file -/
noncomputable def keepI : List Nat := [0, 2, 3, 5, 7, 8, 10, 11, 13, 14, 15, 16, 17, 18, 20, 21, 22, 23, 24, 25, 26, 27, 28, 29]
noncomputable def qv : Program := { pw with main := { pw.main with body := keepI.filterMap (pw.main.body[·]?) } }
noncomputable def fragAll (h : Heap) : Frag := (List.range 400).filterMap fun a => (h.get? a).map (a, ·)
theorem lk_mem {a : Addr} {o : Obj} : ∀ {l : List (Addr × Obj)}, l.lookup a = some o → (a, o) ∈ l
  | [], h => nomatch h
  | (b, p) :: l, h => by
    rw [List.lookup_cons] at h
    by_cases e : a = b
    · subst e
      simp at h
      subst h; exact .head _
    · rw [show (a == b) = false from beq_eq_false_iff_ne.mpr e] at h
      exact .tail _ (lk_mem h)
theorem fragAll_in (h : Heap) : (fragAll h).In h := by
  intro a o e
  unfold fragAll at e
  have hm := lk_mem e
  obtain ⟨b, _, hb⟩ := List.mem_filterMap.mp hm
  obtain ⟨o', h1, h2⟩ := Option.map_eq_some_iff.mp hb
  cases h2
  exact h1
noncomputable def saysK (_ : World) (h : Heap) : Prop := ∃ K : Frag, K.In h ∧ KFacts K
theorem said : OpenLaw.wellSaid PySem.Challenge.rw_nz0019_01 = true := by kernel_rfl
theorem leftO : LeftO pw qv [] (fun s => xlAt qv [] s && recOk (RowW.records (OpenRow.toRowW PySem.Challenge.rw_nz0019_01.row)) s) (fun s => factsOf (fragAll s.heap)) (fun _ => factsGood) 4294 := by intro w; kernel_rfl
end Mine
end
section
open PySem PySem.W PyProof.Rows
set_option Elab.async false
set_option maxRecDepth 100000
set_option maxHeartbeats 8000000
namespace Mine

noncomputable def LawTrue : Prop := ∀ ns : List Int, ns.length ≤ 63 → ∃ fn σ', tabR.lookup (.fn "law") = some fn ∧ runF (callAt tabR glob 11) glob fn [.d (.list (ns.map .int))] [] = some (.d (.bool true), σ')

theorem rds_well {P : Params} {h : Heap} : ∀ {vs : List Value} {ns : List Int}, WellAll P h vs (ofPys (ns.map .int)) → RDs h vs (ns.map .int)
  | vs, [], x => by cases x; exact .nil
  | vs, n :: ns, x => by
    cases x with
    | cons a b =>
      cases a
      exact .cons (.int _ _) (rds_well b)

theorem law_end (hS : ∀ prog w W, SortedOk prog w W) (hL : LawTrue) {K : Frag} (KF : KFacts K) {prog : Program} {w : World} {s₁ : Shared} {mg mb : Str → Option Value} {p : Program} {loose : List Str} {fa l : Addr} {ns : List Int} {A : Around} (X : K.In s₁.heap) (T : TopRead p loose mg mb s₁.heap)
    (hm : mg "law" = some (.ref fa)) (w1 : Well w.params s₁.heap (.ref l) (ofPy (.list (ns.map .int)))) (hn : ns.length ≤ 63) (rm : Room 23 A) :
    codeAny (model prog w) A (.call (.ref fa) ⟨[.ref l], []⟩) (fun r s' => r = .ok (.ret (.bool true)) ∧ ∃ h' tk, s' = (sh s₁ h' tk) ∧ Ext s₁.heap h') s₁ := by
  have hbig : ∃ a o, K.lookup a = some o ∧ 3 ≤ a := by
    obtain ⟨o, ho⟩ := Option.isSome_iff_exists.mp KF.big
    exact ⟨3, o, ho, Nat.le_refl _⟩
  obtain ⟨B⟩ := mkBs (prog := prog) (w := w) (G := glob) X T KF.blt (k_glob KF) hbig
  have hw : (⟨clsK K, fun k => hashD w (tkD k)⟩ : Wd).hk = fun k => hashD w (tkD k) := rfl
  have hC := callsOk_at (tab := tabR) B hw (hS _ _ _) (fun c fn _ h => tab_at KF h) (fun c m fn h => tab_at KF h) (fun c fn hc h => cls_at KF hc h) 11
  obtain ⟨fn, σ', hf, hr⟩ := hL ns hn
  obtain ⟨a, ha, FA⟩ := tab_at KF hf
  have hfa : fa = a := by
    unfold adrK at ha
    obtain ⟨a', h1, h2⟩ := Option.bind_eq_some_iff.mp ha
    split at h2
    · (first | exact nope h2 | exact nopeB h2 | cases h2)
      have := mg_of X T.g (glb_inv h1)
      rw [hm] at this
      cases this; rfl
    · (first | exact nope h2 | exact nopeB h2 | cases h2)
  subst hfa
  have rd : RD s₁.heap (.ref l) (.list (ns.map .int)) := by
    cases w1 with
    | list h1 h2 => exact .list (n := 0) h1 (by simpa using rds_well h2)
  have st : St s₁.heap (HR ⟨clsK K, fun k => hashD w (tkD k)⟩ s₁.heap ([] : Sg) ++ ([] : Own)) s₁.heap := ⟨Ext.refl _, (fun _ h => nomatch h), List.nodup_nil⟩
  have run := fn_code (S := []) (R := []) (s := s₁) (A := A) B hw hC (hS _ _ _) FA rm (Ext.refl _) (vs := [.ref l]) (ds := [.d (.list (ns.map .int))]) (.cons rd .nil) st hr
  refine codeAny_mono run fun r s' q => ?_
  rcases r with e | f
  · exact False.elim q
  cases f with
  | ret v =>
    obtain ⟨Z', S', R', h', tk, rfl, x, g, q, st', rfl, rv⟩ := q
    rw [RD.bool_of rv]
    exact ⟨rfl, h', tk, rfl, x.trans st'.sub⟩
  | next => exact False.elim q
  | brk => exact False.elim q
  | cont => exact False.elim q

set_option maxHeartbeats 8000000 in
theorem join (hS : ∀ prog w W, SortedOk prog w W) (hL : LawTrue) : PySem.Challenge.rw_nz0019_01.Holds := by
  w_on
  refine holds_law said fun said => ?_
  refine holds_open (q := qv) (loose := []) (Xt := fun s => xlAt qv [] s && recOk (RowW.records (OpenRow.toRowW PySem.Challenge.rw_nz0019_01.row)) s) (XP := XL qv []) (Yf := fun s => factsOf (fragAll s.heap)) (Ya := fun _ => factsGood) (YP := saysK) (N := 4294) leftO (fun w s e => ⟨fragAll s.heap, fragAll_in _, KFacts.of e⟩) (fun w h h' y k => let ⟨K, a, b⟩ := y; ⟨K, fun x o e => k _ _ (a x o e), b⟩) (fun s e => xl_of s (Bool.and_eq_true_iff.mp e).1) XL.keeps (by rfl) (by rfl) (by rfl) (fun s e => recFacts_of (Bool.and_eq_true_iff.mp e).2) (by rfl) said (by decide +kernel) ⟨rfl, rfl, rfl, rfl, rfl, by decide +kernel⟩ ?hw ?hc
  case hw => w_witness2
  intro w s₀ s₁ mg mb G Y fa o pm cd doc dV kV ho hd hcd hD hmg hg args vals as hpre hlay hrd hwl hlo
  obtain ⟨K, KX, KF⟩ := Y
  have X := (Ground.X G).1
  have V := (Ground.X G).2
  refine Ground.open G ?_
  intro T B D TE TW
  try (refine guard_noD D (by decide +kernel) ?_; clear D)
  obtain ⟨_, _, M⟩ := bmod_of_top T
  have TA := at_of_top T
  wrow_args hpre hlay hrd hwl hlo
  all_goals (
    first | refine callC_kw (enter_call ?_) | refine enter_call ?_ | refine callC_kw (enter_callW ?_) | refine enter_callW ?_ | w_how
    w_top on
    try refine codeAny_mono ?_ (fun _ _ g => GoodW.toG g))
  rename_i hcond _
  refine codeAny_mono (law_end hS hL KF KX (topRead_of T) hmg (by assumption) (by omega) ⟨rfl, by decide, by decide⟩) (fun r s' q => ?_)
  obtain ⟨rfl, h', tk, rfl, k⟩ := q
  exact ⟨.inl ⟨.bool true, .bool true, [], rfl, (fun _ => rfl), .bool true, (by first | with_unfolding_all rfl | kernel_rfl | decide +kernel), (fun _ => ⟨List.nodup_nil, (fun _ h => nomatch h)⟩)⟩, k, rfl, hg⟩
end Mine
end
section
open PySem PySem.W PyProof.Rows
set_option Elab.async false
set_option maxRecDepth 10000
namespace Mine

section
variable {α β γ : Type}
/-- the interpreter with what comes after in hand -/
noncomputable def toK (c : M α) (k : α → List MO → Option β) (σ : List MO) : Option β := (c σ).bind fun p => k p.1 p.2
noncomputable def ofK (o : Option α) (k : α → List MO → Option β) (σ : List MO) : Option β := o.bind fun a => k a σ
noncomputable def gtK (g : List MO → Option α) (k : α → List MO → Option β) (σ : List MO) : Option β := (g σ).bind fun a => k a σ
noncomputable def noK (_ : List MO) : Option β := none

theorem toK_pure (a : α) (k : α → List MO → Option β) : toK (Pure.pure a : M α) k = k a := rfl
theorem toK_bind (c : M α) (f : α → M γ) (k : γ → List MO → Option β) : toK (c >>= f) k = toK c fun a => toK (f a) k := by
  funext σ
  show (M.bind c f σ).bind _ = _
  unfold M.bind toK
  cases c σ with
  | none => rfl
  | some p => rfl
theorem ofK_some (a : α) (k : α → List MO → Option β) : ofK (some a) k = k a := rfl
theorem toK_stop (k : α → List MO → Option β) : toK (stop : M α) k = noK := rfl
theorem toK_ofO (o : Option α) (k : α → List MO → Option β) : toK (ofO o) k = ofK o k := by cases o <;> rfl
theorem toK_getσ (g : List MO → Option α) (k : α → List MO → Option β) : toK (getσ g) k = gtK g k := by
  funext σ
  unfold toK getσ gtK
  cases g σ <;> rfl
theorem toK_ite {c : Prop} [Decidable c] (a b : M α) (k : α → List MO → Option β) : toK (if c then a else b) k = if c then toK a k else toK b k := by split <;> rfl
theorem toK_id (c : M α) : toK c (fun a σ => some (a, σ)) = c := by
  funext σ
  unfold toK
  cases c σ <;> rfl

noncomputable def negD : Val → Option PyData
  | .d (.int a) => some (.int (-a))
  | _ => none
noncomputable def intD : Val → Option Int
  | .d (.int a) => some a
  | _ => none

noncomputable def evListK (ev : Expr → (Val → List MO → Option β) → List MO → Option β) : List Expr → (List Val → List MO → Option β) → List MO → Option β
  | [], k => k []
  | e :: r, k => ev e fun v => evListK ev r fun vs => k (v :: vs)
noncomputable def boolK (ev : Expr → (Val → List MO → Option β) → List MO → Option β) (op : BoolOp) : List Expr → (Val → List MO → Option β) → List MO → Option β
  | [], _ => noK
  | [e], k => ev e k
  | e :: r, k => ev e fun v => ofK (truthD v) fun b => match op with
    | .And => if b then boolK ev op r k else k v
    | .Or => if b then k v else boolK ev op r k
noncomputable def partK (ev : Expr → (Val → List MO → Option β) → List MO → Option β) (e : Option Expr) (k : Option Int → List MO → Option β) : List MO → Option β := match e with
  | none => k none
  | some e => ev e fun w => ofK (intD w) fun a => k (some a)
noncomputable abbrev EvK (β : Type) := Expr → (Val → List MO → Option β) → List MO → Option β
noncomputable def iterPlainK (ev : EvK β) (e : Expr) (k : Src → List MO → Option β) : List MO → Option β := ev e fun v => gtK (fun σ => iterOf σ v) k
noncomputable def iterCallK (ev : EvK β) (sc : Names) (tup : Bool) (f : Str) (p : Pos) (as : List Expr) (ks : List Keyword) (pos : Pos) (k : Src → List MO → Option β) : List MO → Option β :=
  if sc.lookup f == some .globalImplicit && ks.isEmpty && decide (as.length ≤ 8) then
    if f == ("range" : Str) then evListK ev as fun vs => toK (rangeD vs) k
    else if f == ("zip" : Str) && tup then evListK ev as fun vs => toK (zipD vs) k
    else if f == ("enumerate" : Str) && tup then evListK ev as fun vs => toK (enumD vs) k
    else iterPlainK ev (.Call (.Name f p) as ks pos) k
  else iterPlainK ev (.Call (.Name f p) as ks pos) k
noncomputable def evIterK (ev : EvK β) (sc : Names) (tup : Bool) (e : Expr) (k : Src → List MO → Option β) : List MO → Option β := match e with
  | .Call f as ks pos => (match f with
    | .Name f p => iterCallK ev sc tup f p as ks pos k
    | f => iterPlainK ev (.Call f as ks pos) k)
  | .Set _ _ _ => noK
  | e => iterPlainK ev e k

noncomputable def ptD : Val → Option Nat
  | .p i => some i
  | _ => none
noncomputable def methM (C : Calls) (name : Str) (a : Val) (i : Nat) (vs : List Val) : Option Str → M Val
  | some c => C (.mth c name) (a :: vs)
  | none => fun σ => appendD σ i vs
noncomputable def methK (C : Calls) (ev : EvK β) (o : Expr) (name : Str) (args : List Expr) (k : Val → List MO → Option β) : List MO → Option β :=
  ev o fun a => ofK (ptD a) fun i => gtK (fun σ => methD σ i name) fun m => evListK ev args fun vs => toK (methM C name a i vs m) k
noncomputable def unK (ev : EvK β) (op : UnaryOp) (x : Expr) (k : Val → List MO → Option β) : List MO → Option β := match op with
  | .USub => ev x fun v => ofK (negD v) fun y => k (.d y)
  | .Not => ev x fun v => ofK (truthD v) fun b => k (.d (.bool (!b)))
  | _ => noK
noncomputable def cmpsK (ev : EvK β) (l : Expr) (ops : List CmpOp) (rs : List Expr) (k : Val → List MO → Option β) : List MO → Option β :=
  ofK (one ops) fun op => ofK (one rs) fun r => ev l fun a => ev r fun b => gtK (fun σ => cmpD op σ a b) fun y => k (.d (.bool y))
noncomputable def itK (ev : EvK β) (v i : Expr) (k : Val → List MO → Option β) : List MO → Option β := ev v fun a => ev i fun b => gtK (fun σ => itemD σ a b) fun y => k (.d y)
noncomputable def subK (ev : EvK β) (v i : Expr) (k : Val → List MO → Option β) : List MO → Option β := match i with
  | .Slice lo hi st _ => (match st with
    | none => ev v fun a => partK ev lo fun l => partK ev hi fun h => gtK (fun σ => sliceD σ a l h) fun y => k (.d y)
    | some _ => noK)
  | i => itK ev v i k
noncomputable def isiK (ev : EvK β) (sc : Names) (e t : Expr) (k : Val → List MO → Option β) : List MO → Option β := match t with
  | .Name t _ => if sc.lookup t == some .globalImplicit && !badName t then ev e fun v => ofK (isinstD v t) fun b => k (.d (.bool b)) else noK
  | _ => noK
noncomputable def setK (ev : EvK β) (k : Val → List MO → Option β) (e : Expr) : List MO → Option β := ev e fun v => ofK (sortedSetD v) fun y => k (.d y)
noncomputable def sortK (ev : EvK β) (sc : Names) (k : Val → List MO → Option β) (e : Expr) : List MO → Option β := match e with
  | .Call g as ks _ => (match g with
    | .Name g _ => if sc.lookup g == some .globalImplicit && g == ("set" : Str) && ks.isEmpty then ofK (one as) (setK ev k) else noK
    | _ => noK)
  | _ => noK
noncomputable def nameK (C : Calls) (ev : EvK β) (sc : Names) (f : Str) (args : List Expr) (k : Val → List MO → Option β) : List MO → Option β :=
  if f == ("isinstance" : Str) then ofK (two args) fun q => isiK ev sc q.1 q.2 k
  else if f == ("sorted" : Str) then ofK (one args) (sortK ev sc k)
  else if builtinNames.contains f then evListK ev args fun vs => gtK (fun σ => builtinD σ f vs) fun y => k (.d y)
  else evListK ev args fun vs => toK (C (.fn f) vs) k
noncomputable def callK (C : Calls) (ev : EvK β) (sc : Names) (f : Expr) (args : List Expr) (ks : List Keyword) (pos : Pos) (k : Val → List MO → Option β) : List MO → Option β := match f with
  | .Attribute o name ap => if okBase o && decide (args.length ≤ 8) && ap.endLine == pos.line && ks.isEmpty then methK C ev o name args k else noK
  | .Name f _ => if sc.lookup f == some .globalImplicit && !badName f && decide (args.length ≤ 8) && ks.isEmpty then nameK C ev sc f args k else noK
  | _ => noK
noncomputable def compK (E : Names → Rho → Expr → M Val) (ev : EvK β) (sc : Names) (ρ : Rho) (elt : Expr) (gens : List Comprehension) (scope : Scope) (k : Val → List MO → Option β) : List MO → Option β := match gens with
  | [] => noK
  | g :: gs => if compOk sc ρ scope.names && scope.kind == .function then
      evIterK ev sc (isTup g.target) g.iter fun src =>
        toK (evGens (fun e ρ' => E scope.names ρ' e) (fun tup e ρ' => evIter (E scope.names ρ') scope.names tup e) scope.names elt (g :: gs) src (freeOf scope.names ρ)) fun xs => if okLen xs.length then k (.d (.list xs)) else noK
      else noK
noncomputable def fmtK (ev : EvK β) (s : Str) (f : Expr) (k : Val → List MO → Option β) : List MO → Option β := match f with
  | .FormattedValue e cv sp _ => if cv == -1 && sp.isNone then ev e fun v => ofK (intD v) fun a => if decide (0 ≤ a) && decide (a < 4096) && decide (s.length ≤ 100) then k (.d (.str (s ++ intText a.toNat))) else noK
    else noK
  | _ => noK
noncomputable def joinK (ev : EvK β) (vs : List Expr) (k : Val → List MO → Option β) : List MO → Option β := ofK (two vs) fun q => ofK (strC q.1) fun s => fmtK ev s q.2 k

noncomputable def evK (C : Calls) (G : Str → Option PyData) : Nat → Names → Rho → Expr → (Val → List MO → Option β) → List MO → Option β
  | 0, _, _, _, _ => noK
  | n + 1, sc, ρ, e, k => match e with
    | .Constant c _ _ => ofK ((litC c).map .d) k
    | .Name x _ => ofK (nameD G sc ρ x) k
    | .BinOp l op r _ => evK C G n sc ρ l fun a => evK C G n sc ρ r fun b => gtK (fun σ => binD op σ a b) fun y => k (.d y)
    | .UnaryOp op x _ => unK (fun e => evK C G n sc ρ e) op x k
    | .BoolOp op es _ => boolK (fun e => evK C G n sc ρ e) op es k
    | .IfExp t a b _ => evK C G n sc ρ t fun v => ofK (truthD v) fun c => if c then evK C G n sc ρ a k else evK C G n sc ρ b k
    | .Compare l ops rs _ => cmpsK (fun e => evK C G n sc ρ e) l ops rs k
    | .Tuple es _ _ => evListK (fun e => evK C G n sc ρ e) es fun vs => ofK (allD vs) fun xs => if okLen xs.length then k (.d (.tuple xs)) else noK
    | .List es _ => evListK (fun e => evK C G n sc ρ e) es fun vs => ofK (allD vs) fun xs => if okLen xs.length then k (.d (.list xs)) else noK
    | .Subscript v i _ => subK (fun e => evK C G n sc ρ e) v i k
    | .Attribute o name _ => if okBase o then evK C G n sc ρ o fun a => gtK (fun σ => attrD σ a name) k else noK
    | .Call f args ks pos => callK C (fun e => evK C G n sc ρ e) sc f args ks pos k
    | .ListComp elt gens scope _ => compK (evE C G n) (fun e => evK C G n sc ρ e) sc ρ elt gens scope k
    | .JoinedStr vs _ => joinK (fun e => evK C G n sc ρ e) vs k
    | _ => noK

/- the two forms say the same, step by step -/
section
variable {γ : Type} {ev : Expr → M Val} {evk : EvK β} (h : ∀ e k, evk e k = toK (ev e) k)
theorem kO {o : Option α} {g : α → M γ} {k : α → List MO → Option β} {k' : γ → List MO → Option β} (hk : ∀ v, k v = toK (g v) k') : ofK o k = toK (ofO o >>= g) k' := by
  cases o with
  | none => rfl
  | some a => exact hk a
theorem kG {f : List MO → Option α} {g : α → M γ} {k : α → List MO → Option β} {k' : γ → List MO → Option β} (hk : ∀ v, k v = toK (g v) k') : gtK f k = toK (getσ f >>= g) k' := by
  rw [toK_bind, toK_getσ, funext hk]
theorem kIf {c : Bool} {a a' : List MO → Option β} {b b' : M α} {k : α → List MO → Option β} (h : a = toK b k) (h' : a' = toK b' k) : (if c then a else a') = toK (if c then b else b') k := by
  cases c with
  | true => exact h
  | false => exact h'
include h
theorem k1 {e : Expr} {g : Val → M γ} {k : Val → List MO → Option β} {k' : γ → List MO → Option β} (hk : ∀ v, k v = toK (g v) k') : evk e k = toK (ev e >>= g) k' := by
  rw [h, toK_bind, funext hk]
theorem evListK_eq (es : List Expr) : ∀ (k : List Val → List MO → Option β), evListK evk es k = toK (evList ev es) k := by
  induction es with
  | nil => intro k; rfl
  | cons e r ih => intro k; refine k1 h fun v => ?_; rw [ih, toK_bind]; rfl
theorem boolK_eq (op : BoolOp) (es : List Expr) : ∀ (k : Val → List MO → Option β), boolK evk op es k = toK (boolD ev op es) k := by
  induction es with
  | nil => intro k; rfl
  | cons e r ih =>
    intro k
    cases r with
    | nil => exact h e k
    | cons e2 r =>
      rw [boolD_cons]
      refine (show evk e _ = _ from k1 h fun v => kO fun b => ?_)
      cases op <;> cases b <;> first | rfl | exact ih k
theorem kL {es : List Expr} {g : List Val → M γ} {k : List Val → List MO → Option β} {k' : γ → List MO → Option β} (hk : ∀ v, k v = toK (g v) k') : evListK evk es k = toK (evList ev es >>= g) k' := by
  rw [evListK_eq h, toK_bind, funext hk]
omit h in
theorem ptD_eq (v : Val) : ptD v = ptV v := by cases v <;> rfl
omit h in
theorem intD_eq (v : Val) : intD v = intV v := by
  cases v with
  | p i => rfl
  | d x => cases x <;> rfl
omit h in
theorem negD_eq (v : Val) : negD v = (intV v).bind fun a => some (.int (-a)) := by
  cases v with
  | p i => rfl
  | d x => cases x <;> rfl
theorem kP {e : Option Expr} {g : Option Int → M γ} {k : Option Int → List MO → Option β} {k' : γ → List MO → Option β} (hk : ∀ v, k v = toK (g v) k') : partK evk e k = toK (partM ev e >>= g) k' := by
  cases e with
  | none => exact hk none
  | some e =>
    show evk e _ = toK ((ev e >>= fun w => ofO (intV w) >>= fun k => pure (some k)) >>= g) k'
    rw [M.assoc]
    refine k1 h fun v => ?_
    rw [M.assoc, intD_eq]
    exact kO fun a => hk (some a)
theorem iterPlainK_eq (e : Expr) (k : Src → List MO → Option β) : iterPlainK evk e k = toK (iterPlain ev e) k := k1 h fun v => (toK_getσ _ _).symm
theorem evIterK_eq (sc : Names) (tup : Bool) (e : Expr) (k : Src → List MO → Option β) : evIterK evk sc tup e k = toK (evIter ev sc tup e) k := by
  have pl := iterPlainK_eq (β := β) h
  cases e with
  | Call f as ks pos =>
    cases f with
    | Name f p => exact kIf (kIf (kL h fun vs => rfl) (kIf (kL h fun vs => rfl) (kIf (kL h fun vs => rfl) (pl _ k)))) (pl _ k)
    | _ => exact pl _ k
  | Set => rfl
  | _ => exact pl _ k
theorem unK_eq (op : UnaryOp) (x : Expr) (k : Val → List MO → Option β) : unK evk op x k = toK (unE ev op x) k := by
  cases op with
  | USub => exact k1 h fun v => by rw [negD_eq]; cases intV v <;> rfl
  | Not => exact k1 h fun v => kO fun b => rfl
  | _ => rfl
theorem cmpsK_eq (l : Expr) (ops : List CmpOp) (rs : List Expr) (k : Val → List MO → Option β) : cmpsK evk l ops rs k = toK (cmpsE ev l ops rs) k := kO fun op => kO fun r => k1 h fun a => k1 h fun b => kG fun y => rfl
theorem subK_eq (v i : Expr) (k : Val → List MO → Option β) : subK evk v i k = toK (subE ev v i) k := by
  have it : itK evk v i k = toK (itE ev v i) k := k1 h fun a => k1 h fun b => kG fun y => rfl
  cases i with
  | Slice lo hi st p =>
    cases st with
    | none => exact k1 h fun a => kP h fun l => kP h fun r => kG fun y => rfl
    | some _ => rfl
  | _ => exact it
theorem methK_eq (C : Calls) (o : Expr) (name : Str) (args : List Expr) (k : Val → List MO → Option β) : methK C evk o name args k = toK (methE C ev o name args) k :=
  k1 h fun a => by rw [ptD_eq]; exact kO fun i => kG fun m => kL h fun vs => by cases m <;> rfl
theorem isiK_eq (sc : Names) (e t : Expr) (k : Val → List MO → Option β) : isiK evk sc e t k = toK (isiE ev sc e t) k := by
  cases t with
  | Name t p => exact kIf (k1 h fun v => kO fun b => rfl) rfl
  | _ => rfl
theorem sortK_eq (sc : Names) (e : Expr) (k : Val → List MO → Option β) : sortK evk sc k e = toK (sortE ev sc e) k := by
  cases e with
  | Call g as ks p =>
    cases g with
    | Name g p => exact kIf (kO fun e => k1 h fun v => kO fun y => rfl) rfl
    | _ => rfl
  | _ => rfl
theorem nameK_eq (C : Calls) (sc : Names) (f : Str) (args : List Expr) (k : Val → List MO → Option β) : nameK C evk sc f args k = toK (nameE C ev sc f args) k :=
  kIf (kO fun q => isiK_eq h sc q.1 q.2 k) (kIf (kO fun q => sortK_eq h sc q k) (kIf (kL h fun vs => kG fun y => rfl) (kL h fun vs => rfl)))
theorem callK_eq (C : Calls) (sc : Names) (f : Expr) (args : List Expr) (ks : List Keyword) (pos : Pos) (k : Val → List MO → Option β) : callK C evk sc f args ks pos k = toK (callE C ev sc f args ks pos) k := by
  cases f with
  | Attribute o name ap => exact kIf (methK_eq h C o name args k) rfl
  | Name f p => exact kIf (nameK_eq h C sc f args k) rfl
  | _ => rfl
theorem fmtK_eq (s : Str) (f : Expr) (k : Val → List MO → Option β) : fmtK evk s f k = toK (fmtE ev s f) k := by
  cases f with
  | FormattedValue e cv sp p => exact kIf (k1 h fun v => by rw [intD_eq]; exact kO fun a => kIf rfl rfl) rfl
  | _ => rfl
theorem joinK_eq (vs : List Expr) (k : Val → List MO → Option β) : joinK evk vs k = toK (joinE ev vs) k := kO fun q => kO fun s => fmtK_eq h s q.2 k
end
theorem compK_eq {E : Names → Rho → Expr → M Val} {evk : EvK β} (sc : Names) (ρ : Rho) (h : ∀ e k, evk e k = toK (E sc ρ e) k) (elt : Expr) (gens : List Comprehension) (scope : Scope) (k : Val → List MO → Option β) : compK E evk sc ρ elt gens scope k = toK (compE E sc ρ elt gens scope) k := by
  cases gens with
  | nil => rfl
  | cons g gs =>
    refine kIf ?_ rfl
    rw [evIterK_eq h, toK_bind]
    congr 1; funext src
    rw [toK_bind]
    congr 1; funext xs
    exact kIf rfl rfl
theorem evK_eq (C : Calls) (G : Str → Option PyData) : ∀ (n : Nat) (sc : Names) (ρ : Rho) (e : Expr) (k : Val → List MO → Option β), evK C G n sc ρ e k = toK (evE C G n sc ρ e) k := by
  intro n
  induction n with
  | zero => intro sc ρ e k; rfl
  | succ n ih =>
    intro sc ρ e k
    have h := ih sc ρ
    cases e with
    | Constant c ck p => exact (toK_ofO _ _).symm
    | Name x p => exact (toK_ofO _ _).symm
    | BinOp l op r p => exact k1 h fun a => k1 h fun b => kG fun y => rfl
    | UnaryOp op x p => exact unK_eq h op x k
    | BoolOp op es p => exact boolK_eq h op es k
    | IfExp t a b p => exact k1 h fun v => kO fun c => kIf (h a k) (h b k)
    | Compare l ops rs p => exact cmpsK_eq h l ops rs k
    | Tuple es ck p => exact kL h fun vs => kO fun xs => kIf rfl rfl
    | List es p => exact kL h fun vs => kO fun xs => kIf rfl rfl
    | Subscript v i p => exact subK_eq h v i k
    | Attribute o name p => exact kIf (k1 h fun a => (toK_getσ _ _).symm) rfl
    | Call f args ks pos => exact callK_eq h C sc f args ks pos k
    | ListComp elt gens scope p => exact compK_eq sc ρ h elt gens scope k
    | JoinedStr vs p => exact joinK_eq h vs k
    | _ => rfl

noncomputable def testsK (ev : Expr → (Val → List MO → Option β) → List MO → Option β) : List Expr → (Bool → List MO → Option β) → List MO → Option β
  | [], k => k true
  | e :: r, k => ev e fun v => ofK (truthD v) fun b => if b then testsK ev r k else k false
theorem testsK_eq {ev : Expr → M Val} {evk : EvK β} (h : ∀ e k, evk e k = toK (ev e) k) (es : List Expr) : ∀ (k : Bool → List MO → Option β), testsK evk es k = toK (testsC ev es) k := by
  induction es with
  | nil => intro k; rfl
  | cons e r ih => intro k; exact k1 h fun v => kO fun b => kIf (ih k) rfl

/-- a turn of a comprehension, with what comes after in hand -/
noncomputable def genK (C : Calls) (G : Str → Option PyData) (n : Nat) (sc : Names) (elt : Expr) (g : Comprehension) (gs : List Comprehension) (ρ : Rho) (x : PyData) (k : List PyData → List MO → Option β) : List MO → Option β :=
  ofK (bindD sc g.target x ρ) fun ρ' => testsK (fun e => evK C G n sc ρ' e) g.ifs fun ok => if ok then (match gs with
    | [] => evK C G n sc ρ' elt fun v => ofK v.data? fun y => k [y]
    | g' :: _ => evIterK (fun e => evK C G n sc ρ' e) sc (isTup g'.target) g'.iter fun src' => toK (evGens (fun e ρ' => evE C G n sc ρ' e) (fun tup e ρ' => evIter (evE C G n sc ρ') sc tup e) sc elt gs src' ρ') k) else k []
theorem genK_eq (C : Calls) (G : Str → Option PyData) (n : Nat) (sc : Names) (elt : Expr) (g : Comprehension) (gs : List Comprehension) (ρ : Rho) (x : PyData) (k : List PyData → List MO → Option β) :
    genK C G n sc elt g gs ρ x k = toK (genBody (fun e ρ' => evE C G n sc ρ' e) (fun tup e ρ' => evIter (evE C G n sc ρ') sc tup e) sc elt g gs ρ x) k := by
  have he := fun ρ => evK_eq (β := β) C G n sc ρ
  refine kO fun ρ' => ?_
  rw [toK_bind, testsK_eq (he ρ')]
  congr 1; funext ok
  refine kIf ?_ rfl
  cases gs with
  | nil => exact k1 (he ρ') fun v => kO fun y => rfl
  | cons g' gs' => exact (evIterK_eq (he ρ') _ _ _ _).trans (toK_bind _ _ _).symm
end
end Mine
end
section
open PySem PySem.W PyProof.Rows
set_option Elab.async false
set_option maxRecDepth 10000
namespace Mine
section
variable {β : Type}
noncomputable def toK2 (c : M (Fl × Rho)) (kn : Rho → List MO → Option β) (kr : Val → List MO → Option β) (σ : List MO) : Option β := (c σ).bind fun p => match p.1 with
  | (.next, ρ) => kn ρ p.2
  | (.ret v, _) => kr v p.2
theorem toK2_bind {γ : Type} (c : M γ) (f : γ → M (Fl × Rho)) (kn : Rho → List MO → Option β) (kr : Val → List MO → Option β) : toK2 (c >>= f) kn kr = toK c fun a => toK2 (f a) kn kr := by
  funext σ
  show (M.bind c f σ).bind _ = _
  unfold M.bind toK
  cases c σ with
  | none => rfl
  | some p => rfl
theorem toK2_ite {c : Prop} [Decidable c] (a b : M (Fl × Rho)) (kn : Rho → List MO → Option β) (kr : Val → List MO → Option β) : toK2 (if c then a else b) kn kr = if c then toK2 a kn kr else toK2 b kn kr := by split <;> rfl

noncomputable def newK (ev : EvK β) (e : Expr) (k : Val → List MO → Option β) : List MO → Option β :=
  match newKind e with
  | .lst => fun σ => k (.p σ.length) (σ ++ [.list []])
  | .made => fun σ => k (.p σ.length) (σ ++ [.made []])
  | .rcd a b x y => ev x fun v => ev y fun u => ofK v.data? fun p => ofK u.data? fun q => if a != b then fun σ => k (.p σ.length) (σ ++ [.rcd [(a, p), (b, q)]]) else noK
  | .other => ev e k
noncomputable def stoK (g : List MO → Option (List MO)) (k : List MO → Option β) (σ : List MO) : Option β := (g σ).bind k
noncomputable def asgK (ev : EvK β) (sc : Names) (ρ : Rho) (e : Expr) (kn : Rho → List MO → Option β) (t : Expr) : List MO → Option β := match t with
  | .Name x p => newK ev e fun v => ofK (bindV sc (.Name x p) v ρ) kn
  | .Tuple ts k p => (match tupE e with
    | some es => if swapOk sc ts es || ts.any (notLocal sc) then evListK ev es fun vs => ofK (bindVs sc ts vs ρ) fun ρ' => if okLen vs.length then kn ρ' else noK else noK
    | none => if isCompE e then noK else ev e fun v => ofK (bindV sc (.Tuple ts k p) v ρ) kn)
  | .Attribute o name _ => newK ev e fun v => ev o fun a => stoK (fun σ => storeAttr σ a name v) (kn ρ)
  | .Subscript o i _ => ev e fun v => ev o fun a => ev i fun b => stoK (fun σ => storeItem σ a b v) (kn ρ)
  | _ => noK

noncomputable def stK (C : Calls) (G : Str → Option PyData) (f : Nat) (sc : Names) (n : Nat) (blk : List Stmt → Rho → (Rho → List MO → Option β) → (Val → List MO → Option β) → List MO → Option β) (st : Stmt) (ρ : Rho) (kn : Rho → List MO → Option β) (kr : Val → List MO → Option β) : List MO → Option β :=
  match st with
  | .Return e _ => ofK e fun e => evK C G f sc ρ e kr
  | .Expr e _ => if isCompE e then noK else evK C G f sc ρ e fun v => ofK (plainV v) fun _ => kn ρ
  | .Assign ts e _ => ofK (one ts) (asgK (fun e => evK C G f sc ρ e) sc ρ e kn)
  | .If t a b _ => evK C G f sc ρ t fun v => ofK (truthD v) fun c => if c then blk a ρ kn kr else blk b ρ kn kr
  | .For t it body els _ => if els.isEmpty then evIterK (fun e => evK C G f sc ρ e) sc (isTup t) it fun src => toK2 (forG sc t src (evBl (fun ρ => evE C G f sc ρ) sc n body) lim 0 ρ) kn kr else noK
  | .While t body els _ => if els.isEmpty then toK2 (whileG (testM (fun ρ => evE C G f sc ρ) t) (evBl (fun ρ => evE C G f sc ρ) sc n body) lim ρ) kn kr else noK
  | _ => noK

noncomputable def blK (C : Calls) (G : Str → Option PyData) (f : Nat) (sc : Names) : Nat → List Stmt → Rho → (Rho → List MO → Option β) → (Val → List MO → Option β) → List MO → Option β
  | 0, _, _, _, _ => noK
  | _ + 1, [], ρ, kn, _ => kn ρ
  | n + 1, st :: rest, ρ, kn, kr => stK C G f sc n (blK C G f sc n) st ρ (fun ρ' => blK C G f sc n rest ρ' kn kr) kr

section
variable {ev : Expr → M Val} {evk : EvK β} (h : ∀ e k, evk e k = toK (ev e) k)
theorem o2 {γ : Type} {o : Option γ} {g : γ → M (Fl × Rho)} {k : γ → List MO → Option β} {kn : Rho → List MO → Option β} {kr : Val → List MO → Option β} (hk : ∀ v, k v = toK2 (g v) kn kr) : ofK o k = toK2 (ofO o >>= g) kn kr := by
  cases o with
  | none => rfl
  | some a => exact hk a
theorem i2 {c : Bool} {a a' : List MO → Option β} {m m' : M (Fl × Rho)} {kn : Rho → List MO → Option β} {kr : Val → List MO → Option β} (h : a = toK2 m kn kr) (h' : a' = toK2 m' kn kr) : (if c then a else a') = toK2 (if c then m else m') kn kr := by
  cases c with
  | true => exact h
  | false => exact h'
theorem s2 {ρ : Rho} {g : List MO → Option (List MO)} {kn : Rho → List MO → Option β} {kr : Val → List MO → Option β} : stoK g (kn ρ) = toK2 (stoM ρ g) kn kr := by
  funext σ
  show (g σ).bind _ = ((g σ).bind _).bind _
  cases g σ <;> rfl
include h
theorem e2 {e : Expr} {g : Val → M (Fl × Rho)} {k : Val → List MO → Option β} {kn : Rho → List MO → Option β} {kr : Val → List MO → Option β} (hk : ∀ v, k v = toK2 (g v) kn kr) : evk e k = toK2 (ev e >>= g) kn kr := by
  rw [h, toK2_bind, funext hk]
theorem newK_eq (e : Expr) (k : Val → List MO → Option β) : newK evk e k = toK (evNew ev e) k := by
  unfold newK evNew
  cases newKind e with
  | lst => rfl
  | made => rfl
  | other => exact h e k
  | rcd a b x y => exact k1 h fun v => k1 h fun u => kO fun p => kO fun q => kIf rfl rfl
theorem n2 {e : Expr} {g : Val → M (Fl × Rho)} {k : Val → List MO → Option β} {kn : Rho → List MO → Option β} {kr : Val → List MO → Option β} (hk : ∀ v, k v = toK2 (g v) kn kr) : newK evk e k = toK2 (evNew ev e >>= g) kn kr := by
  rw [newK_eq h, toK2_bind, funext hk]
theorem l2 {es : List Expr} {g : List Val → M (Fl × Rho)} {k : List Val → List MO → Option β} {kn : Rho → List MO → Option β} {kr : Val → List MO → Option β} (hk : ∀ v, k v = toK2 (g v) kn kr) : evListK evk es k = toK2 (evList ev es >>= g) kn kr := by
  rw [evListK_eq h, toK2_bind, funext hk]
theorem asgK_eq (sc : Names) (ρ : Rho) (e : Expr) (kn : Rho → List MO → Option β) (kr : Val → List MO → Option β) (t : Expr) : asgK evk sc ρ e kn t = toK2 (asgS ev sc ρ e t) kn kr := by
  cases t with
  | Name x p =>
    show newK evk e (fun v => ofK (bindV sc (.Name x p) v ρ) kn) = toK2 (evNew ev e >>= fun v => ofO (bindV sc (.Name x p) v ρ) >>= fun ρ' => pure (.next, ρ')) kn kr
    exact n2 h fun v => o2 fun ρ' => rfl
  | Tuple ts k p =>
    show (match tupE e with
      | some es => _
      | none => _) = toK2 (match tupE e with
      | some es => pairS ev sc ρ ts es
      | none => tupS ev sc ρ (.Tuple ts k p) e) kn kr
    cases tupE e with
    | some es => exact i2 (l2 h fun vs => o2 fun ρ' => i2 rfl rfl) rfl
    | none => exact i2 rfl (e2 h fun v => o2 fun ρ' => rfl)
  | Attribute o name p =>
    show newK evk e (fun v => evk o fun a => stoK (fun σ => storeAttr σ a name v) (kn ρ)) = toK2 (evNew ev e >>= fun v => ev o >>= fun a => stoM ρ fun σ => storeAttr σ a name v) kn kr
    exact n2 h fun v => e2 h fun a => s2
  | Subscript o i p => exact e2 h fun v => e2 h fun a => e2 h fun b => s2
  | _ => rfl
end

theorem stK_eq (C : Calls) (G : Str → Option PyData) (f : Nat) (sc : Names) (n : Nat) {blk : List Stmt → Rho → (Rho → List MO → Option β) → (Val → List MO → Option β) → List MO → Option β}
    (hb : ∀ b ρ kn kr, blk b ρ kn kr = toK2 (evBl (fun ρ => evE C G f sc ρ) sc n b ρ) kn kr) (st : Stmt) (ρ : Rho) (kn : Rho → List MO → Option β) (kr : Val → List MO → Option β) :
    stK C G f sc n blk st ρ kn kr = toK2 (stM (fun ρ => evE C G f sc ρ) sc (evBl (fun ρ => evE C G f sc ρ) sc n) st ρ) kn kr := by
  have h := evK_eq (β := β) C G f sc ρ
  cases st with
  | Return e p => exact o2 fun e => e2 h fun v => rfl
  | Expr e p => exact i2 rfl (e2 h fun v => o2 fun _ => rfl)
  | Assign ts e pos => exact o2 fun t => asgK_eq h sc ρ e kn kr t
  | If t a b p => exact e2 h fun v => o2 fun c => i2 (hb _ _ _ _) (hb _ _ _ _)
  | For t it body els p => exact i2 (by rw [evIterK_eq h]; exact (toK2_bind _ _ _ _).symm) rfl
  | While t body els p => exact i2 rfl rfl
  | _ => rfl

theorem blK_eq (C : Calls) (G : Str → Option PyData) (f : Nat) (sc : Names) : ∀ (n : Nat) (b : List Stmt) (ρ : Rho) (kn : Rho → List MO → Option β) (kr : Val → List MO → Option β), blK C G f sc n b ρ kn kr = toK2 (evBl (fun ρ => evE C G f sc ρ) sc n b ρ) kn kr
  | 0, b, ρ, kn, kr => rfl
  | n + 1, [], ρ, kn, kr => rfl
  | n + 1, st :: rest, ρ, kn, kr => by
    refine (stK_eq C G f sc n (blK_eq C G f sc n) st ρ _ kr).trans ?_
    show _ = toK2 (do
      let r ← stM (fun ρ => evE C G f sc ρ) sc (evBl (fun ρ => evE C G f sc ρ) sc n) st ρ
      match r with
      | (.next, ρ') => evBl (fun ρ => evE C G f sc ρ) sc n rest ρ'
      | (.ret v, ρ') => pure (.ret v, ρ')) kn kr
    rw [toK2_bind]
    funext σ
    unfold toK2 toK
    cases stM (fun ρ => evE C G f sc ρ) sc (evBl (fun ρ => evE C G f sc ρ) sc n) st ρ σ with
    | none => rfl
    | some p =>
      obtain ⟨⟨fl, ρ'⟩, σ'⟩ := p
      cases fl with
      | ret v => rfl
      | next =>
        show blK C G f sc n rest ρ' kn kr σ' = _
        rw [blK_eq C G f sc n]; rfl

noncomputable def runK (C : Calls) (G : Str → Option PyData) (fn : Fn) (vs : List Val) : List MO → Option (Val × List MO) :=
  ofK (zipP fn.ps vs) fun ρ => blK C G 40 fn.sc 40 fn.body ρ (fun _ σ => some (.d .none, σ)) fun v σ => some (v, σ)
theorem runK_eq (C : Calls) (G : Str → Option PyData) (fn : Fn) (vs : List Val) : runF C G fn vs = runK C G fn vs := by
  have e : runF C G fn vs = toK (runF C G fn vs) fun a σ => some (a, σ) := (toK_id _).symm
  rw [e]
  unfold runF runK
  rw [toK_bind, toK_ofO]
  congr 1; funext ρ
  rw [toK_bind, blK_eq]
  funext σ
  unfold toK toK2
  cases evBl (fun ρ => evE C G 40 fn.sc ρ) fn.sc 40 fn.body ρ σ with
  | none => rfl
  | some p => obtain ⟨⟨fl, ρ'⟩, σ'⟩ := p; cases fl <;> rfl
end
end Mine
end
section
open PySem PySem.W PyProof.Rows
set_option Elab.async false
set_option maxRecDepth 100000
namespace Mine
noncomputable def fnI (f : Callee) : Fn := (tab.lookup f).getD ⟨[], [], []⟩
noncomputable def eNo : Expr := .Tuple [] 0 ⟨0, 0, 0, 0⟩
noncomputable def sNo : Stmt := .Pass ⟨0, 0, 0, 0⟩
noncomputable def sAt (i : Nat) (b : List Stmt) : Stmt := (b[i]?).getD sNo
noncomputable def sE : Stmt → Expr
  | .Return (some e) _ => e
  | .Expr e _ => e
  | .Assign _ e _ => e
  | _ => eNo
noncomputable def sT : Stmt → Expr
  | .If t _ _ _ => t
  | .While t _ _ _ => t
  | _ => eNo
noncomputable def sB : Stmt → List Stmt
  | .If _ b _ _ => b
  | .While _ b _ _ => b
  | .For _ _ b _ _ => b
  | _ => []
noncomputable def sO : Stmt → List Stmt
  | .If _ _ b _ => b
  | _ => []
noncomputable def sI : Stmt → Expr
  | .For _ i _ _ _ => i
  | _ => eNo
noncomputable def sTg : Stmt → Expr
  | .For t _ _ _ _ => t
  | .Assign [t] _ _ => t
  | _ => eNo
noncomputable def eL : Expr → Expr
  | .BinOp l _ _ _ => l
  | .UnaryOp _ l _ => l
  | .Compare l _ _ _ => l
  | .IfExp _ l _ _ => l
  | .Subscript l _ _ => l
  | .Attribute l _ _ => l
  | .Call (.Attribute l _ _) _ _ _ => l
  | .JoinedStr [_, .FormattedValue l _ _ _] _ => l
  | _ => eNo
noncomputable def eR : Expr → Expr
  | .BinOp _ _ l _ => l
  | .Compare _ _ [l] _ => l
  | .IfExp _ _ l _ => l
  | .Subscript _ l _ => l
  | _ => eNo
noncomputable def eT : Expr → Expr
  | .IfExp l _ _ _ => l
  | _ => eNo
noncomputable def eItems : Expr → List Expr
  | .Tuple es _ _ => es
  | .List es _ => es
  | .BoolOp _ es _ => es
  | .Call _ es _ _ => es
  | _ => []
noncomputable def eItem (i : Nat) (e : Expr) : Expr := ((eItems e)[i]?).getD eNo
noncomputable def eDict : Expr → Expr
  | .Dict _ (e :: _) _ => e
  | _ => eNo
noncomputable def eIter : Expr → Expr
  | .ListComp _ (g :: _) _ _ => g.iter
  | _ => eNo
noncomputable def eNames : Expr → Names
  | .ListComp _ _ sc _ => sc.names
  | _ => []
noncomputable def eElt : Expr → Expr
  | .ListComp e _ _ _ => e
  | _ => eNo
noncomputable def eGens : Expr → List Comprehension
  | .ListComp _ gs _ _ => gs
  | _ => []
noncomputable def exK {β : Type} (v : Val) (k : List MO → Option β) (σ : List MO) : Option β := (plainV v).bind fun _ => k σ
noncomputable def g_lsum_0 (C : Calls) (src : Src) (ρ : Rho) : M (List PyData) := evGens (fun e ρ' => evE C glob 37 (eNames (eItem 0 (eItem 1 (sE (sAt 0 (fnI (.fn "_law_sum")).body))))) ρ' e) (fun tup e ρ' => evIter (evE C glob 37 (eNames (eItem 0 (eItem 1 (sE (sAt 0 (fnI (.fn "_law_sum")).body))))) ρ') (eNames (eItem 0 (eItem 1 (sE (sAt 0 (fnI (.fn "_law_sum")).body))))) tup e) (eNames (eItem 0 (eItem 1 (sE (sAt 0 (fnI (.fn "_law_sum")).body))))) (eElt (eItem 0 (eItem 1 (sE (sAt 0 (fnI (.fn "_law_sum")).body))))) (eGens (eItem 0 (eItem 1 (sE (sAt 0 (fnI (.fn "_law_sum")).body))))) src ρ
noncomputable def g_row_c_0 (C : Calls) (src : Src) (ρ : Rho) : M (List PyData) := evGens (fun e ρ' => evE C glob 38 (eNames (eItem 0 (eItem 0 (sE (sAt 2 (fnI (.mth "Gatherer" "row")).body))))) ρ' e) (fun tup e ρ' => evIter (evE C glob 38 (eNames (eItem 0 (eItem 0 (sE (sAt 2 (fnI (.mth "Gatherer" "row")).body))))) ρ') (eNames (eItem 0 (eItem 0 (sE (sAt 2 (fnI (.mth "Gatherer" "row")).body))))) tup e) (eNames (eItem 0 (eItem 0 (sE (sAt 2 (fnI (.mth "Gatherer" "row")).body))))) (eElt (eItem 0 (eItem 0 (sE (sAt 2 (fnI (.mth "Gatherer" "row")).body))))) (eGens (eItem 0 (eItem 0 (sE (sAt 2 (fnI (.mth "Gatherer" "row")).body))))) src ρ
noncomputable def g_row_t_0 (C : Calls) (src : Src) (ρ : Rho) : M (List PyData) := evGens (fun e ρ' => evE C glob 37 (eNames (eItem 0 (eItem 1 (sE (sAt 4 (fnI (.mth "Gatherer" "row")).body))))) ρ' e) (fun tup e ρ' => evIter (evE C glob 37 (eNames (eItem 0 (eItem 1 (sE (sAt 4 (fnI (.mth "Gatherer" "row")).body))))) ρ') (eNames (eItem 0 (eItem 1 (sE (sAt 4 (fnI (.mth "Gatherer" "row")).body))))) tup e) (eNames (eItem 0 (eItem 1 (sE (sAt 4 (fnI (.mth "Gatherer" "row")).body))))) (eElt (eItem 0 (eItem 1 (sE (sAt 4 (fnI (.mth "Gatherer" "row")).body))))) (eGens (eItem 0 (eItem 1 (sE (sAt 4 (fnI (.mth "Gatherer" "row")).body))))) src ρ
noncomputable def g_row_t_1 (C : Calls) (src : Src) (ρ : Rho) : M (List PyData) := evGens (fun e ρ' => evE C glob 37 (eNames (eItem 0 (eItem 2 (sE (sAt 4 (fnI (.mth "Gatherer" "row")).body))))) ρ' e) (fun tup e ρ' => evIter (evE C glob 37 (eNames (eItem 0 (eItem 2 (sE (sAt 4 (fnI (.mth "Gatherer" "row")).body))))) ρ') (eNames (eItem 0 (eItem 2 (sE (sAt 4 (fnI (.mth "Gatherer" "row")).body))))) tup e) (eNames (eItem 0 (eItem 2 (sE (sAt 4 (fnI (.mth "Gatherer" "row")).body))))) (eElt (eItem 0 (eItem 2 (sE (sAt 4 (fnI (.mth "Gatherer" "row")).body))))) (eGens (eItem 0 (eItem 2 (sE (sAt 4 (fnI (.mth "Gatherer" "row")).body))))) src ρ
noncomputable def g_rt_a_0 (C : Calls) (src : Src) (ρ : Rho) : M (List PyData) := evGens (fun e ρ' => evE C glob 38 (eNames (eItem 0 (sE (sAt 4 (fnI (.mth "Gatherer" "row_truth")).body)))) ρ' e) (fun tup e ρ' => evIter (evE C glob 38 (eNames (eItem 0 (sE (sAt 4 (fnI (.mth "Gatherer" "row_truth")).body)))) ρ') (eNames (eItem 0 (sE (sAt 4 (fnI (.mth "Gatherer" "row_truth")).body)))) tup e) (eNames (eItem 0 (sE (sAt 4 (fnI (.mth "Gatherer" "row_truth")).body)))) (eElt (eItem 0 (sE (sAt 4 (fnI (.mth "Gatherer" "row_truth")).body)))) (eGens (eItem 0 (sE (sAt 4 (fnI (.mth "Gatherer" "row_truth")).body)))) src ρ
noncomputable def g_truth_at_r_0 (C : Calls) (src : Src) (ρ : Rho) : M (List PyData) := evGens (fun e ρ' => evE C glob 39 (eNames (sE (sAt 3 (fnI (.fn "_law_truth_at")).body))) ρ' e) (fun tup e ρ' => evIter (evE C glob 39 (eNames (sE (sAt 3 (fnI (.fn "_law_truth_at")).body))) ρ') (eNames (sE (sAt 3 (fnI (.fn "_law_truth_at")).body))) tup e) (eNames (sE (sAt 3 (fnI (.fn "_law_truth_at")).body))) (eElt (sE (sAt 3 (fnI (.fn "_law_truth_at")).body))) (eGens (sE (sAt 3 (fnI (.fn "_law_truth_at")).body))) src ρ
noncomputable def g_truth_at_e_0 (C : Calls) (src : Src) (ρ : Rho) : M (List PyData) := evGens (fun e ρ' => evE C glob 35 (eNames (eItem 0 (eL (eItem 1 (eL (sE (sAt 6 (fnI (.fn "_law_truth_at")).body))))))) ρ' e) (fun tup e ρ' => evIter (evE C glob 35 (eNames (eItem 0 (eL (eItem 1 (eL (sE (sAt 6 (fnI (.fn "_law_truth_at")).body))))))) ρ') (eNames (eItem 0 (eL (eItem 1 (eL (sE (sAt 6 (fnI (.fn "_law_truth_at")).body))))))) tup e) (eNames (eItem 0 (eL (eItem 1 (eL (sE (sAt 6 (fnI (.fn "_law_truth_at")).body))))))) (eElt (eItem 0 (eL (eItem 1 (eL (sE (sAt 6 (fnI (.fn "_law_truth_at")).body))))))) (eGens (eItem 0 (eL (eItem 1 (eL (sE (sAt 6 (fnI (.fn "_law_truth_at")).body))))))) src ρ
noncomputable def g_rr_b_0 (C : Calls) (src : Src) (ρ : Rho) : M (List PyData) := evGens (fun e ρ' => evE C glob 38 (eNames (eItem 0 (sE (sAt 4 (fnI (.fn "_law_is_row_right")).body)))) ρ' e) (fun tup e ρ' => evIter (evE C glob 38 (eNames (eItem 0 (sE (sAt 4 (fnI (.fn "_law_is_row_right")).body)))) ρ') (eNames (eItem 0 (sE (sAt 4 (fnI (.fn "_law_is_row_right")).body)))) tup e) (eNames (eItem 0 (sE (sAt 4 (fnI (.fn "_law_is_row_right")).body)))) (eElt (eItem 0 (sE (sAt 4 (fnI (.fn "_law_is_row_right")).body)))) (eGens (eItem 0 (sE (sAt 4 (fnI (.fn "_law_is_row_right")).body)))) src ρ
noncomputable def g_rr_b_1 (C : Calls) (src : Src) (ρ : Rho) : M (List PyData) := evGens (fun e ρ' => evE C glob 38 (eNames (eL (sT (sAt 5 (fnI (.fn "_law_is_row_right")).body)))) ρ' e) (fun tup e ρ' => evIter (evE C glob 38 (eNames (eL (sT (sAt 5 (fnI (.fn "_law_is_row_right")).body)))) ρ') (eNames (eL (sT (sAt 5 (fnI (.fn "_law_is_row_right")).body)))) tup e) (eNames (eL (sT (sAt 5 (fnI (.fn "_law_is_row_right")).body)))) (eElt (eL (sT (sAt 5 (fnI (.fn "_law_is_row_right")).body)))) (eGens (eL (sT (sAt 5 (fnI (.fn "_law_is_row_right")).body)))) src ρ
noncomputable def g_rr_b_2 (C : Calls) (src : Src) (ρ : Rho) : M (List PyData) := evGens (fun e ρ' => evE C glob 38 (eNames (eL (sE (sAt 6 (fnI (.fn "_law_is_row_right")).body)))) ρ' e) (fun tup e ρ' => evIter (evE C glob 38 (eNames (eL (sE (sAt 6 (fnI (.fn "_law_is_row_right")).body)))) ρ') (eNames (eL (sE (sAt 6 (fnI (.fn "_law_is_row_right")).body)))) tup e) (eNames (eL (sE (sAt 6 (fnI (.fn "_law_is_row_right")).body)))) (eElt (eL (sE (sAt 6 (fnI (.fn "_law_is_row_right")).body)))) (eGens (eL (sE (sAt 6 (fnI (.fn "_law_is_row_right")).body)))) src ρ
noncomputable def g_sum_b1_0 (C : Calls) (src : Src) (ρ : Rho) : M (List PyData) := evGens (fun e ρ' => evE C glob 39 (eNames (sE (sAt 0 (sB (sAt 1 (fnI (.fn "_law_is_sum_right")).body))))) ρ' e) (fun tup e ρ' => evIter (evE C glob 39 (eNames (sE (sAt 0 (sB (sAt 1 (fnI (.fn "_law_is_sum_right")).body))))) ρ') (eNames (sE (sAt 0 (sB (sAt 1 (fnI (.fn "_law_is_sum_right")).body))))) tup e) (eNames (sE (sAt 0 (sB (sAt 1 (fnI (.fn "_law_is_sum_right")).body))))) (eElt (sE (sAt 0 (sB (sAt 1 (fnI (.fn "_law_is_sum_right")).body))))) (eGens (sE (sAt 0 (sB (sAt 1 (fnI (.fn "_law_is_sum_right")).body))))) src ρ
noncomputable def g_sum_b1_1 (C : Calls) (src : Src) (ρ : Rho) : M (List PyData) := evGens (fun e ρ' => evE C glob 39 (eNames (sE (sAt 1 (sB (sAt 1 (fnI (.fn "_law_is_sum_right")).body))))) ρ' e) (fun tup e ρ' => evIter (evE C glob 39 (eNames (sE (sAt 1 (sB (sAt 1 (fnI (.fn "_law_is_sum_right")).body))))) ρ') (eNames (sE (sAt 1 (sB (sAt 1 (fnI (.fn "_law_is_sum_right")).body))))) tup e) (eNames (sE (sAt 1 (sB (sAt 1 (fnI (.fn "_law_is_sum_right")).body))))) (eElt (sE (sAt 1 (sB (sAt 1 (fnI (.fn "_law_is_sum_right")).body))))) (eGens (sE (sAt 1 (sB (sAt 1 (fnI (.fn "_law_is_sum_right")).body))))) src ρ
noncomputable def g_sum_b1_2 (C : Calls) (src : Src) (ρ : Rho) : M (List PyData) := evGens (fun e ρ' => evE C glob 38 (eNames (eL (sT (sAt 4 (sB (sAt 1 (fnI (.fn "_law_is_sum_right")).body)))))) ρ' e) (fun tup e ρ' => evIter (evE C glob 38 (eNames (eL (sT (sAt 4 (sB (sAt 1 (fnI (.fn "_law_is_sum_right")).body)))))) ρ') (eNames (eL (sT (sAt 4 (sB (sAt 1 (fnI (.fn "_law_is_sum_right")).body)))))) tup e) (eNames (eL (sT (sAt 4 (sB (sAt 1 (fnI (.fn "_law_is_sum_right")).body)))))) (eElt (eL (sT (sAt 4 (sB (sAt 1 (fnI (.fn "_law_is_sum_right")).body)))))) (eGens (eL (sT (sAt 4 (sB (sAt 1 (fnI (.fn "_law_is_sum_right")).body)))))) src ρ
noncomputable def g_sum_b2_0 (C : Calls) (src : Src) (ρ : Rho) : M (List PyData) := evGens (fun e ρ' => evE C glob 39 (eNames (sE (sAt 0 (sB (sAt 1 (fnI (.fn "_law_is_sum_right")).body))))) ρ' e) (fun tup e ρ' => evIter (evE C glob 39 (eNames (sE (sAt 0 (sB (sAt 1 (fnI (.fn "_law_is_sum_right")).body))))) ρ') (eNames (sE (sAt 0 (sB (sAt 1 (fnI (.fn "_law_is_sum_right")).body))))) tup e) (eNames (sE (sAt 0 (sB (sAt 1 (fnI (.fn "_law_is_sum_right")).body))))) (eElt (sE (sAt 0 (sB (sAt 1 (fnI (.fn "_law_is_sum_right")).body))))) (eGens (sE (sAt 0 (sB (sAt 1 (fnI (.fn "_law_is_sum_right")).body))))) src ρ
noncomputable def g_sum_b2_1 (C : Calls) (src : Src) (ρ : Rho) : M (List PyData) := evGens (fun e ρ' => evE C glob 39 (eNames (sE (sAt 1 (sB (sAt 1 (fnI (.fn "_law_is_sum_right")).body))))) ρ' e) (fun tup e ρ' => evIter (evE C glob 39 (eNames (sE (sAt 1 (sB (sAt 1 (fnI (.fn "_law_is_sum_right")).body))))) ρ') (eNames (sE (sAt 1 (sB (sAt 1 (fnI (.fn "_law_is_sum_right")).body))))) tup e) (eNames (sE (sAt 1 (sB (sAt 1 (fnI (.fn "_law_is_sum_right")).body))))) (eElt (sE (sAt 1 (sB (sAt 1 (fnI (.fn "_law_is_sum_right")).body))))) (eGens (sE (sAt 1 (sB (sAt 1 (fnI (.fn "_law_is_sum_right")).body))))) src ρ
noncomputable def g_sum_b2_2 (C : Calls) (src : Src) (ρ : Rho) : M (List PyData) := evGens (fun e ρ' => evE C glob 38 (eNames (eL (sT (sAt 4 (sB (sAt 1 (fnI (.fn "_law_is_sum_right")).body)))))) ρ' e) (fun tup e ρ' => evIter (evE C glob 38 (eNames (eL (sT (sAt 4 (sB (sAt 1 (fnI (.fn "_law_is_sum_right")).body)))))) ρ') (eNames (eL (sT (sAt 4 (sB (sAt 1 (fnI (.fn "_law_is_sum_right")).body)))))) tup e) (eNames (eL (sT (sAt 4 (sB (sAt 1 (fnI (.fn "_law_is_sum_right")).body)))))) (eElt (eL (sT (sAt 4 (sB (sAt 1 (fnI (.fn "_law_is_sum_right")).body)))))) (eGens (eL (sT (sAt 4 (sB (sAt 1 (fnI (.fn "_law_is_sum_right")).body)))))) src ρ
noncomputable def g_sum_x6_0 (C : Calls) (src : Src) (ρ : Rho) : M (List PyData) := evGens (fun e ρ' => evE C glob 36 (eNames (eItem 0 (eItem 1 (eL (sT (sAt 6 (sB (sAt 1 (fnI (.fn "_law_is_sum_right")).body)))))))) ρ' e) (fun tup e ρ' => evIter (evE C glob 36 (eNames (eItem 0 (eItem 1 (eL (sT (sAt 6 (sB (sAt 1 (fnI (.fn "_law_is_sum_right")).body)))))))) ρ') (eNames (eItem 0 (eItem 1 (eL (sT (sAt 6 (sB (sAt 1 (fnI (.fn "_law_is_sum_right")).body)))))))) tup e) (eNames (eItem 0 (eItem 1 (eL (sT (sAt 6 (sB (sAt 1 (fnI (.fn "_law_is_sum_right")).body)))))))) (eElt (eItem 0 (eItem 1 (eL (sT (sAt 6 (sB (sAt 1 (fnI (.fn "_law_is_sum_right")).body)))))))) (eGens (eItem 0 (eItem 1 (eL (sT (sAt 6 (sB (sAt 1 (fnI (.fn "_law_is_sum_right")).body)))))))) src ρ
noncomputable def g_sum_x7_0 (C : Calls) (src : Src) (ρ : Rho) : M (List PyData) := evGens (fun e ρ' => evE C glob 36 (eNames (eItem 0 (eItem 1 (eL (sT (sAt 0 (sB (sAt 7 (sB (sAt 1 (fnI (.fn "_law_is_sum_right")).body)))))))))) ρ' e) (fun tup e ρ' => evIter (evE C glob 36 (eNames (eItem 0 (eItem 1 (eL (sT (sAt 0 (sB (sAt 7 (sB (sAt 1 (fnI (.fn "_law_is_sum_right")).body)))))))))) ρ') (eNames (eItem 0 (eItem 1 (eL (sT (sAt 0 (sB (sAt 7 (sB (sAt 1 (fnI (.fn "_law_is_sum_right")).body)))))))))) tup e) (eNames (eItem 0 (eItem 1 (eL (sT (sAt 0 (sB (sAt 7 (sB (sAt 1 (fnI (.fn "_law_is_sum_right")).body)))))))))) (eElt (eItem 0 (eItem 1 (eL (sT (sAt 0 (sB (sAt 7 (sB (sAt 1 (fnI (.fn "_law_is_sum_right")).body)))))))))) (eGens (eItem 0 (eItem 1 (eL (sT (sAt 0 (sB (sAt 7 (sB (sAt 1 (fnI (.fn "_law_is_sum_right")).body)))))))))) src ρ
noncomputable def g_sum_x7_1 (C : Calls) (src : Src) (ρ : Rho) : M (List PyData) := evGens (fun e ρ' => evE C glob 36 (eNames (eItem 0 (eItem 1 (eL (sT (sAt 0 (sO (sAt 7 (sB (sAt 1 (fnI (.fn "_law_is_sum_right")).body)))))))))) ρ' e) (fun tup e ρ' => evIter (evE C glob 36 (eNames (eItem 0 (eItem 1 (eL (sT (sAt 0 (sO (sAt 7 (sB (sAt 1 (fnI (.fn "_law_is_sum_right")).body)))))))))) ρ') (eNames (eItem 0 (eItem 1 (eL (sT (sAt 0 (sO (sAt 7 (sB (sAt 1 (fnI (.fn "_law_is_sum_right")).body)))))))))) tup e) (eNames (eItem 0 (eItem 1 (eL (sT (sAt 0 (sO (sAt 7 (sB (sAt 1 (fnI (.fn "_law_is_sum_right")).body)))))))))) (eElt (eItem 0 (eItem 1 (eL (sT (sAt 0 (sO (sAt 7 (sB (sAt 1 (fnI (.fn "_law_is_sum_right")).body)))))))))) (eGens (eItem 0 (eItem 1 (eL (sT (sAt 0 (sO (sAt 7 (sB (sAt 1 (fnI (.fn "_law_is_sum_right")).body)))))))))) src ρ
noncomputable def g_rows_b1_0 (C : Calls) (src : Src) (ρ : Rho) : M (List PyData) := evGens (fun e ρ' => evE C glob 36 (eNames (eR (eL (eItem 0 (sE (sAt 1 (sB (sAt 1 (fnI (.fn "_law_rows")).body)))))))) ρ' e) (fun tup e ρ' => evIter (evE C glob 36 (eNames (eR (eL (eItem 0 (sE (sAt 1 (sB (sAt 1 (fnI (.fn "_law_rows")).body)))))))) ρ') (eNames (eR (eL (eItem 0 (sE (sAt 1 (sB (sAt 1 (fnI (.fn "_law_rows")).body)))))))) tup e) (eNames (eR (eL (eItem 0 (sE (sAt 1 (sB (sAt 1 (fnI (.fn "_law_rows")).body)))))))) (eElt (eR (eL (eItem 0 (sE (sAt 1 (sB (sAt 1 (fnI (.fn "_law_rows")).body)))))))) (eGens (eR (eL (eItem 0 (sE (sAt 1 (sB (sAt 1 (fnI (.fn "_law_rows")).body)))))))) src ρ
noncomputable def g_rows_b2_0 (C : Calls) (src : Src) (ρ : Rho) : M (List PyData) := evGens (fun e ρ' => evE C glob 36 (eNames (eR (eL (eItem 0 (sE (sAt 1 (sB (sAt 1 (fnI (.fn "_law_rows")).body)))))))) ρ' e) (fun tup e ρ' => evIter (evE C glob 36 (eNames (eR (eL (eItem 0 (sE (sAt 1 (sB (sAt 1 (fnI (.fn "_law_rows")).body)))))))) ρ') (eNames (eR (eL (eItem 0 (sE (sAt 1 (sB (sAt 1 (fnI (.fn "_law_rows")).body)))))))) tup e) (eNames (eR (eL (eItem 0 (sE (sAt 1 (sB (sAt 1 (fnI (.fn "_law_rows")).body)))))))) (eElt (eR (eL (eItem 0 (sE (sAt 1 (sB (sAt 1 (fnI (.fn "_law_rows")).body)))))))) (eGens (eR (eL (eItem 0 (sE (sAt 1 (sB (sAt 1 (fnI (.fn "_law_rows")).body)))))))) src ρ
noncomputable def g_law_r_0 (C : Calls) (src : Src) (ρ : Rho) : M (List PyData) := evGens (fun e ρ' => evE C glob 39 (eNames (sE (sAt 3 (fnI (.fn "law")).body))) ρ' e) (fun tup e ρ' => evIter (evE C glob 39 (eNames (sE (sAt 3 (fnI (.fn "law")).body))) ρ') (eNames (sE (sAt 3 (fnI (.fn "law")).body))) tup e) (eNames (sE (sAt 3 (fnI (.fn "law")).body))) (eElt (sE (sAt 3 (fnI (.fn "law")).body))) (eGens (sE (sAt 3 (fnI (.fn "law")).body))) src ρ
noncomputable def g_law_t1_0 (C : Calls) (src : Src) (ρ : Rho) : M (List PyData) := evGens (fun e ρ' => evE C glob 39 (eNames (sE (sAt 0 (sB (sAt 4 (fnI (.fn "law")).body))))) ρ' e) (fun tup e ρ' => evIter (evE C glob 39 (eNames (sE (sAt 0 (sB (sAt 4 (fnI (.fn "law")).body))))) ρ') (eNames (sE (sAt 0 (sB (sAt 4 (fnI (.fn "law")).body))))) tup e) (eNames (sE (sAt 0 (sB (sAt 4 (fnI (.fn "law")).body))))) (eElt (sE (sAt 0 (sB (sAt 4 (fnI (.fn "law")).body))))) (eGens (sE (sAt 0 (sB (sAt 4 (fnI (.fn "law")).body))))) src ρ
noncomputable def g_law_t2_0 (C : Calls) (src : Src) (ρ : Rho) : M (List PyData) := evGens (fun e ρ' => evE C glob 39 (eNames (sE (sAt 0 (sB (sAt 4 (fnI (.fn "law")).body))))) ρ' e) (fun tup e ρ' => evIter (evE C glob 39 (eNames (sE (sAt 0 (sB (sAt 4 (fnI (.fn "law")).body))))) ρ') (eNames (sE (sAt 0 (sB (sAt 4 (fnI (.fn "law")).body))))) tup e) (eNames (sE (sAt 0 (sB (sAt 4 (fnI (.fn "law")).body))))) (eElt (sE (sAt 0 (sB (sAt 4 (fnI (.fn "law")).body))))) (eGens (sE (sAt 0 (sB (sAt 4 (fnI (.fn "law")).body))))) src ρ
noncomputable def g_law_0 (C : Calls) (src : Src) (ρ : Rho) : M (List PyData) := evGens (fun e ρ' => evE C glob 38 (eNames (eL (eDict (sE (sAt 0 (fnI (.fn "law")).body))))) ρ' e) (fun tup e ρ' => evIter (evE C glob 38 (eNames (eL (eDict (sE (sAt 0 (fnI (.fn "law")).body))))) ρ') (eNames (eL (eDict (sE (sAt 0 (fnI (.fn "law")).body))))) tup e) (eNames (eL (eDict (sE (sAt 0 (fnI (.fn "law")).body))))) (eElt (eL (eDict (sE (sAt 0 (fnI (.fn "law")).body))))) (eGens (eL (eDict (sE (sAt 0 (fnI (.fn "law")).body))))) src ρ
theorem s_least (C : Calls) (d : Val) (σ : List MO) : runK C glob (fnI (.fn "least")) [d] σ =
  ((itemD σ (d) (.d (.int 0))).bind fun y1 => (itemD σ (.d (y1)) (.d (.int 0))).bind fun y2 => some (.d (y2), σ)) := by kernel_rfl
theorem s_greatest (C : Calls) (d : Val) (σ : List MO) : runK C glob (fnI (.fn "greatest")) [d] σ =
  ((itemD σ (d) (.d (.int (-1)))).bind fun y1 => (itemD σ (.d (y1)) (.d (.int 1))).bind fun y2 => some (.d (y2), σ)) := by kernel_rfl
theorem s_is_made (C : Calls) (a b : Val) (σ : List MO) : runK C glob (fnI (.fn "is_made")) [a, b] σ =
  ((isinstD (a) "tuple").bind fun b1 => (if b1 then (fun σ2 => (builtinD σ2 "len" [a]).bind fun y3 => (cmpD .Eq σ2 (.d (y3)) (.d (.int 3))).bind fun b4 => (if b4 then (fun σ5 => (itemD σ5 (a) (.d (.int 0))).bind fun y6 => (cmpD .Eq σ5 (.d (y6)) (b)).bind fun b7 => some (.d (.bool b7), σ5)) else (fun σ5 => some (.d (.bool b4), σ5))) σ2) else (fun σ2 => some (.d (.bool b1), σ2))) σ) := by kernel_rfl
theorem s_sum_of (C : Calls) (a : Val) (σ : List MO) : runK C glob (fnI (.fn "sum_of")) [a] σ =
  ((C (.fn "is_made") [a, .d (.str "sum")] σ).bind fun p1 => (truthD (p1.1)).bind fun b2 => (if b2 then (fun σ3 => some (a, σ3)) else (fun σ3 => (C (.fn "is_made") [a, .d (.str "bit")] σ3).bind fun p4 => (truthD (p4.1)).bind fun b5 => (if !b5 then (fun σ6 => (builtinD σ6 "int" [a]).bind fun y7 => some (.d (.tuple [.str "sum", .tuple [], y7]), σ6)) else (fun σ6 => (itemD σ6 (a) (.d (.int 2))).bind fun y8 => (truthD (.d (y8))).bind fun b9 => (if b9 then (fun σ10 => (itemD σ10 (a) (.d (.int 1))).bind fun y11 => some (.d (.tuple [.str "sum", .tuple [.tuple [y11, .int 1]], .int 0]), σ10)) else (fun σ10 => (itemD σ10 (a) (.d (.int 1))).bind fun y12 => some (.d (.tuple [.str "sum", .tuple [.tuple [y12, .int (-1)]], .int 1]), σ10))) σ6)) p4.2)) p1.2) := by kernel_rfl
theorem s_contrary (C : Calls) (a : Val) (σ : List MO) : runK C glob (fnI (.fn "contrary")) [a] σ =
  ((isinstD (a) "bool").bind fun b1 => (if b1 then (fun σ2 => (truthD (a)).bind fun b3 => some (.d (.bool (!b3)), σ2)) else (fun σ2 => (itemD σ2 (a) (.d (.int 1))).bind fun y4 => (itemD σ2 (a) (.d (.int 2))).bind fun y5 => (truthD (.d (y5))).bind fun b6 => some (.d (.tuple [.str "bit", y4, .bool (!b6)]), σ2))) σ) := by kernel_rfl
theorem s_new_var (C : Calls) (s a b : Val) (σ : List MO) : runK C glob (fnI (.mth "Flat" "new_var")) [s, a, b] σ =
  ((attrD σ (s) "vars").bind fun v1 => (ptD (v1)).bind fun i2 => (methD σ i2 "append").bind fun m3 => (allD [a, b]).bind fun ys4 => (if okLen ys4.length then (fun σ5 => (methM C "append" (v1) i2 [.d (.tuple ys4)] m3 σ5).bind fun p6 => exK (p6.1) (fun σ7 => (attrD σ7 (s) "vars").bind fun v8 => (builtinD σ7 "len" [v8]).bind fun y9 => (binD .Sub σ7 (.d (y9)) (.d (.int 1))).bind fun y10 => some (.d (y10), σ7)) p6.2) else noK) σ) := by kernel_rfl
theorem s_post (C : Calls) (s a : Val) (σ : List MO) : runK C glob (fnI (.mth "Flat" "post")) [s, a] σ =
  ((attrD σ (s) "tolds").bind fun v1 => (ptD (v1)).bind fun i2 => (methD σ i2 "append").bind fun m3 => (methM C "append" (v1) i2 [a] m3 σ).bind fun p4 => exK (p4.1) (fun σ5 => some (.d .none, σ5)) p4.2) := by kernel_rfl
theorem s_size (C : Calls) (s : Val) (σ : List MO) : runK C glob (fnI (.mth "Flat" "size")) [s] σ =
  ((attrD σ (s) "vars").bind fun v1 => (builtinD σ "len" [v1]).bind fun y2 => some (.d (y2), σ)) := by kernel_rfl
theorem s_domain_of (C : Calls) (s x : Val) (σ : List MO) : runK C glob (fnI (.mth "Flat" "domain_of")) [s, x] σ =
  ((attrD σ (s) "vars").bind fun v1 => (itemD σ (v1) (x)).bind fun y2 => (itemD σ (.d (y2)) (.d (.int 1))).bind fun y3 => some (.d (y3), σ)) := by kernel_rfl
theorem s_bounds (C : Calls) (s a : Val) (σ : List MO) : runK C glob (fnI (.mth "Gatherer" "bounds")) [s, a] σ =
  ((C (.fn "sum_of") [a] σ).bind fun p1 => (itemD p1.2 (p1.1) (.d (.int 2))).bind fun y2 => (itemD p1.2 (p1.1) (.d (.int 2))).bind fun y3 => (itemD p1.2 (p1.1) (.d (.int 1))).bind fun y4 => (iterOf p1.2 (.d (y4))).bind fun r5 => toK2 (forG (fnI (.mth "Gatherer" "bounds")).sc (sTg (sAt 2 (fnI (.mth "Gatherer" "bounds")).body)) (r5) (evBl (fun ρ => evE C glob 40 (fnI (.mth "Gatherer" "bounds")).sc ρ) (fnI (.mth "Gatherer" "bounds")).sc 37 (sB (sAt 2 (fnI (.mth "Gatherer" "bounds")).body))) lim 0 [("high", .d (y3)), ("low", .d (y2)), ("total", p1.1), ("self", s), ("value", a)]) (fun ρ => blK C glob 40 (fnI (.mth "Gatherer" "bounds")).sc 37 ((fnI (.mth "Gatherer" "bounds")).body.drop 3) ρ (fun _ σ => some (.d .none, σ)) (fun v σ => some (v, σ))) (fun v σ => some (v, σ)) p1.2) := by kernel_rfl
theorem s_row (C : Calls) (s k a : Val) (σ : List MO) : runK C glob (fnI (.mth "Gatherer" "row")) [s, k, a] σ =
  ((ptD (s)).bind fun i1 => (methD σ i1 "bounds").bind fun m2 => (methM C "bounds" (s) i1 [a] m2 σ).bind fun p3 => (C (.fn "sum_of") [a] p3.2).bind fun p4 => (bindVs (fnI (.mth "Gatherer" "row")).sc (eItems (sTg (sAt 0 (fnI (.mth "Gatherer" "row")).body))) [p3.1, p4.1] [("self", s), ("kind", k), ("value", a)]).bind fun ρ => blK C glob 40 (fnI (.mth "Gatherer" "row")).sc 39 ((fnI (.mth "Gatherer" "row")).body.drop 1) ρ (fun _ σ => some (.d .none, σ)) (fun v σ => some (v, σ)) p4.2) := by kernel_rfl
theorem s_row_truth (C : Calls) (s k a : Val) (σ : List MO) : runK C glob (fnI (.mth "Gatherer" "row_truth")) [s, k, a] σ =
  ((ptD (s)).bind fun i1 => (methD σ i1 "row").bind fun m2 => (methM C "row" (s) i1 [k, a] m2 σ).bind fun p3 => (isinstD (p3.1) "bool").bind fun b4 => (if b4 then (fun σ5 => some (p3.1, σ5)) else (fun σ5 => (bindV (fnI (.mth "Gatherer" "row_truth")).sc (sTg (sAt 2 (fnI (.mth "Gatherer" "row_truth")).body)) (p3.1) [("told", p3.1), ("self", s), ("kind", k), ("value", a)]).bind fun ρ => blK C glob 40 (fnI (.mth "Gatherer" "row_truth")).sc 37 ((fnI (.mth "Gatherer" "row_truth")).body.drop 3) ρ (fun _ σ => some (.d .none, σ)) (fun v σ => some (v, σ)) σ5)) p3.2) := by kernel_rfl
theorem s_told_truth (C : Calls) (s : Val) (k cs xs c : PyData) (σ : List MO) : runK C glob (fnI (.mth "Gatherer" "told_truth")) [s, .d (.tuple [k, cs, xs, c])] σ =
  ((cmpD .Eq σ (.d (cs)) (.d (.tuple [.int 1]))).bind fun b1 => (if b1 then (fun σ2 => (attrD σ2 (s) "flat").bind fun v3 => (ptD (v3)).bind fun i4 => (methD σ2 i4 "domain_of").bind fun m5 => (itemD σ2 (.d (xs)) (.d (.int 0))).bind fun y6 => (methM C "domain_of" (v3) i4 [.d (y6)] m5 σ2).bind fun p7 => (cmpD .Eq p7.2 (p7.1) (.d (.tuple [.tuple [.int 0, .int 1]]))).bind fun b8 => (if b8 then (fun σ9 => (itemD σ9 (.d (xs)) (.d (.int 0))).bind fun y10 => (cmpD .Eq σ9 (.d (k)) (.d (.str "linear_eq"))).bind fun b11 => (if b11 then (fun σ12 => (cmpD .Eq σ12 (.d (c)) (.d (.int 1))).bind fun b13 => some (.d (.tuple [.str "bit", y10, .bool b13]), σ12)) else (fun σ12 => some (.d (.tuple [.str "bit", y10, .bool b11]), σ12))) σ9) else (fun σ9 => (ptD (s)).bind fun i14 => (methD σ9 i14 "once").bind fun m15 => (methM C "once" (s) i14 [.d (.tuple [.str "reif", .tuple [k, cs, xs, c]]), .d (.tuple [.tuple [.int 0, .int 1]])] m15 σ9).bind fun p16 => (bindV (fnI (.mth "Gatherer" "told_truth")).sc (sTg (sAt 2 (fnI (.mth "Gatherer" "told_truth")).body)) (p16.1) [("c", .d (c)), ("some", .d (xs)), ("coefs", .d (cs)), ("kind", .d (k)), ("self", s), ("told", .d (.tuple [k, cs, xs, c]))]).bind fun ρ => blK C glob 40 (fnI (.mth "Gatherer" "told_truth")).sc 37 ((fnI (.mth "Gatherer" "told_truth")).body.drop 3) ρ (fun _ σ => some (.d .none, σ)) (fun v σ => some (v, σ)) p16.2)) p7.2) else (fun σ2 => (if b1 then (fun σ17 => (itemD σ17 (.d (xs)) (.d (.int 0))).bind fun y18 => (cmpD .Eq σ17 (.d (k)) (.d (.str "linear_eq"))).bind fun b19 => (if b19 then (fun σ20 => (cmpD .Eq σ20 (.d (c)) (.d (.int 1))).bind fun b21 => some (.d (.tuple [.str "bit", y18, .bool b21]), σ20)) else (fun σ20 => some (.d (.tuple [.str "bit", y18, .bool b19]), σ20))) σ17) else (fun σ17 => (ptD (s)).bind fun i22 => (methD σ17 i22 "once").bind fun m23 => (methM C "once" (s) i22 [.d (.tuple [.str "reif", .tuple [k, cs, xs, c]]), .d (.tuple [.tuple [.int 0, .int 1]])] m23 σ17).bind fun p24 => (bindV (fnI (.mth "Gatherer" "told_truth")).sc (sTg (sAt 2 (fnI (.mth "Gatherer" "told_truth")).body)) (p24.1) [("c", .d (c)), ("some", .d (xs)), ("coefs", .d (cs)), ("kind", .d (k)), ("self", s), ("told", .d (.tuple [k, cs, xs, c]))]).bind fun ρ => blK C glob 40 (fnI (.mth "Gatherer" "told_truth")).sc 37 ((fnI (.mth "Gatherer" "told_truth")).body.drop 3) ρ (fun _ σ => some (.d .none, σ)) (fun v σ => some (v, σ)) p24.2)) σ2)) σ) := by kernel_rfl
theorem s_draw (C : Calls) (a b : Val) (σ : List MO) : runK C glob (fnI (.fn "_law_draw")) [a, b] σ =
  ((itemD σ (a) (.d (.str "cells"))).bind fun y1 => (itemD σ (a) (.d (.str "spot"))).bind fun y2 => (binD .Add σ (.d (y2)) (.d (.int 1))).bind fun y3 => (storeItem σ (a) (.d (.str "spot")) (.d (y3))).bind fun σ4 => (builtinD σ4 "len" [.d (y1)]).bind fun y5 => (binD .FloorDiv σ4 (.d (y2)) (.d (y5))).bind fun y6 => (builtinD σ4 "len" [.d (y1)]).bind fun y7 => (binD .Mod σ4 (.d (y2)) (.d (y7))).bind fun y8 => (itemD σ4 (.d (y1)) (.d (y8))).bind fun y9 => (binD .FloorDiv σ4 (.d (y2)) (.d (.int 2))).bind fun y10 => (binD .Add σ4 (.d (y10)) (.d (.int 5))).bind fun y11 => (binD .Mult σ4 (.d (y6)) (.d (y11))).bind fun y12 => (binD .Add σ4 (.d (y9)) (.d (y12))).bind fun y13 => (binD .Mod σ4 (.d (y13)) (b)).bind fun y14 => some (.d (y14), σ4)) := by kernel_rfl
theorem s_lsum (C : Calls) (a b : Val) (σ : List MO) : runK C glob (fnI (.fn "_law_sum")) [a, b] σ =
  ((enumD [a] σ).bind fun p1 => (g_lsum_0 C (p1.1) [] p1.2).bind fun q2 => (if okLen q2.1.length then (fun σ3 => (builtinD σ3 "tuple" [.d (.list q2.1)]).bind fun y4 => (allD [.d (.str "sum"), .d (y4), b]).bind fun ys5 => (if okLen ys5.length then (fun σ6 => some (.d (.tuple ys5), σ6)) else noK) σ3) else noK) q2.2) := by kernel_rfl
theorem s_stands (C : Calls) (a b : Val) (σ : List MO) : runK C glob (fnI (.fn "_law_stands")) [a, b] σ =
  ((cmpD .Eq σ (a) (.d (.str "linear_le"))).bind fun b1 => (if b1 then (fun σ2 => (cmpD .LtE σ2 (b) (.d (.int 0))).bind fun b3 => some (.d (.bool b3), σ2)) else (fun σ2 => (cmpD .Eq σ2 (b) (.d (.int 0))).bind fun b4 => (cmpD .Eq σ2 (a) (.d (.str "linear_eq"))).bind fun b5 => (cmpD .Eq σ2 (.d (.bool b4)) (.d (.bool b5))).bind fun b6 => some (.d (.bool b6), σ2))) σ) := by kernel_rfl
theorem s_within (C : Calls) (a : Val) (σ : List MO) : runK C glob (fnI (.fn "within_figures")) [a] σ =
  ((builtinD σ "abs" [a]).bind fun y1 => (binD .Pow σ (.d (.int 10)) (.d (.int 1000))).bind fun y2 => (cmpD .GtE σ (.d (y1)) (.d (y2))).bind fun b3 => (if b3 then (fun σ4 => none) else (fun σ4 => some (a, σ4))) σ) := by kernel_rfl
theorem s_flat0 (C : Calls) (s : Val) (σ : List MO) : runK C glob (fnI (.mth "Flat" "__init__")) [s] σ =
  ((storeAttr (σ ++ [.list []]) (s) "vars" (.p σ.length)).bind fun σ1 => (storeAttr (σ1 ++ [.list []]) (s) "tolds" (.p σ1.length)).bind fun σ2 => (storeAttr σ2 (s) "goal" (.d (.tuple [.str "satisfy", .none]))).bind fun σ3 => (storeAttr σ3 (s) "shown" (.d (.tuple []))).bind fun σ4 => some (.d .none, σ4)) := by kernel_rfl
theorem s_gath0 (C : Calls) (s : Val) (σ : List MO) : runK C glob (fnI (.mth "Gatherer" "__init__")) [s] σ =
  ((C (.fn "Flat") [] σ).bind fun p1 => (storeAttr p1.2 (s) "flat" (p1.1)).bind fun σ2 => (storeAttr (σ2 ++ [.made []]) (s) "made" (.p (σ2).length)).bind fun σ3 => some (.d .none, σ3)) := by kernel_rfl
theorem s_once (C : Calls) (s k d : Val) (σ : List MO) : runK C glob (fnI (.mth "Gatherer" "once")) [s, k, d] σ =
  ((attrD σ (s) "made").bind fun v1 => (cmpD .NotIn σ (k) (v1)).bind fun b2 => (if b2 then (fun σ3 => (iterOf σ3 (d)).bind fun r4 => toK2 (forG (fnI (.mth "Gatherer" "once")).sc (sTg (sAt 0 (sB (sAt 1 (fnI (.mth "Gatherer" "once")).body)))) (r4) (evBl (fun ρ => evE C glob 40 (fnI (.mth "Gatherer" "once")).sc ρ) (fnI (.mth "Gatherer" "once")).sc 37 (sB (sAt 0 (sB (sAt 1 (fnI (.mth "Gatherer" "once")).body))))) lim 0 [("is_new", .d (.bool b2)), ("self", s), ("key", k), ("domain", d)]) (fun ρ => blK C glob 40 (fnI (.mth "Gatherer" "once")).sc 37 ((sB (sAt 1 (fnI (.mth "Gatherer" "once")).body)).drop 1) ρ (fun ρ => blK C glob 40 (fnI (.mth "Gatherer" "once")).sc 38 ((fnI (.mth "Gatherer" "once")).body.drop 2) ρ (fun _ σ => some (.d .none, σ)) (fun v σ => some (v, σ))) (fun v σ => some (v, σ))) (fun v σ => some (v, σ)) σ3) else (fun σ3 => (attrD σ3 (s) "made").bind fun v5 => (itemD σ3 (v5) (k)).bind fun y6 => some (.d (.tuple [y6, .bool b2]), σ3))) σ) := by kernel_rfl
theorem s_common (C : Calls) (a : Val) (σ : List MO) : runK C glob (fnI (.fn "common_of")) [a] σ =
  ((iterOf σ (a)).bind fun r1 => toK2 (forG (fnI (.fn "common_of")).sc (sTg (sAt 1 (fnI (.fn "common_of")).body)) (r1) (evBl (fun ρ => evE C glob 40 (fnI (.fn "common_of")).sc ρ) (fnI (.fn "common_of")).sc 38 (sB (sAt 1 (fnI (.fn "common_of")).body))) lim 0 [("found", .d (.int 0)), ("numbers", a)]) (fun ρ => blK C glob 40 (fnI (.fn "common_of")).sc 38 ((fnI (.fn "common_of")).body.drop 2) ρ (fun _ σ => some (.d .none, σ)) (fun v σ => some (v, σ))) (fun v σ => some (v, σ)) σ) := by kernel_rfl
theorem s_bounds_b1 {β : Type} (C : Calls) (a x h l : PyData) (t s va : Val) (kn : Rho → List MO → Option β) (kr : Val → List MO → Option β) (σ : List MO) : blK C glob 40 (fnI (.mth "Gatherer" "bounds")).sc 37 ((sB (sAt 2 (fnI (.mth "Gatherer" "bounds")).body))) [("a", .d (a)), ("x", .d (x)), ("high", .d (h)), ("low", .d (l)), ("total", t), ("self", s), ("value", va)] kn kr σ =
  ((attrD σ (s) "flat").bind fun v1 => (ptD (v1)).bind fun i2 => (methD σ i2 "domain_of").bind fun m3 => (methM C "domain_of" (v1) i2 [.d (x)] m3 σ).bind fun p4 => (C (.fn "least") [p4.1] p4.2).bind fun p5 => (binD .Mult p5.2 (.d (a)) (p5.1)).bind fun y6 => (attrD p5.2 (s) "flat").bind fun v7 => (ptD (v7)).bind fun i8 => (methD p5.2 i8 "domain_of").bind fun m9 => (methM C "domain_of" (v7) i8 [.d (x)] m9 p5.2).bind fun p10 => (C (.fn "greatest") [p10.1] p10.2).bind fun p11 => (binD .Mult p11.2 (.d (a)) (p11.1)).bind fun y12 => (builtinD p11.2 "min" [.d (.tuple [y6, y12])]).bind fun y13 => (binD .Add p11.2 (.d (l)) (.d (y13))).bind fun y14 => (builtinD p11.2 "max" [.d (.tuple [y6, y12])]).bind fun y15 => (binD .Add p11.2 (.d (h)) (.d (y15))).bind fun y16 => kn [("high", .d (y16)), ("low", .d (y14)), ("ends", .d (.tuple [y6, y12])), ("a", .d (a)), ("x", .d (x)), ("total", t), ("self", s), ("value", va)] p11.2) := by kernel_rfl
theorem s_bounds_b2 {β : Type} (C : Calls) (a x h l e : PyData) (t s va : Val) (kn : Rho → List MO → Option β) (kr : Val → List MO → Option β) (σ : List MO) : blK C glob 40 (fnI (.mth "Gatherer" "bounds")).sc 37 ((sB (sAt 2 (fnI (.mth "Gatherer" "bounds")).body))) [("a", .d (a)), ("x", .d (x)), ("high", .d (h)), ("low", .d (l)), ("ends", .d (e)), ("total", t), ("self", s), ("value", va)] kn kr σ =
  ((attrD σ (s) "flat").bind fun v1 => (ptD (v1)).bind fun i2 => (methD σ i2 "domain_of").bind fun m3 => (methM C "domain_of" (v1) i2 [.d (x)] m3 σ).bind fun p4 => (C (.fn "least") [p4.1] p4.2).bind fun p5 => (binD .Mult p5.2 (.d (a)) (p5.1)).bind fun y6 => (attrD p5.2 (s) "flat").bind fun v7 => (ptD (v7)).bind fun i8 => (methD p5.2 i8 "domain_of").bind fun m9 => (methM C "domain_of" (v7) i8 [.d (x)] m9 p5.2).bind fun p10 => (C (.fn "greatest") [p10.1] p10.2).bind fun p11 => (binD .Mult p11.2 (.d (a)) (p11.1)).bind fun y12 => (builtinD p11.2 "min" [.d (.tuple [y6, y12])]).bind fun y13 => (binD .Add p11.2 (.d (l)) (.d (y13))).bind fun y14 => (builtinD p11.2 "max" [.d (.tuple [y6, y12])]).bind fun y15 => (binD .Add p11.2 (.d (h)) (.d (y15))).bind fun y16 => kn [("high", .d (y16)), ("low", .d (y14)), ("ends", .d (.tuple [y6, y12])), ("a", .d (a)), ("x", .d (x)), ("total", t), ("self", s), ("value", va)] p11.2) := by kernel_rfl
theorem s_bounds_e1 {β : Type} (C : Calls) (h l : PyData) (t s va : Val) (kn : Rho → List MO → Option β) (kr : Val → List MO → Option β) (σ : List MO) : blK C glob 40 (fnI (.mth "Gatherer" "bounds")).sc 37 ((fnI (.mth "Gatherer" "bounds")).body.drop 3) [("high", .d (h)), ("low", .d (l)), ("total", t), ("self", s), ("value", va)] kn kr σ =
  (kr (.d (.tuple [l, h])) σ) := by kernel_rfl
theorem s_bounds_e2 {β : Type} (C : Calls) (h l e a x : PyData) (t s va : Val) (kn : Rho → List MO → Option β) (kr : Val → List MO → Option β) (σ : List MO) : blK C glob 40 (fnI (.mth "Gatherer" "bounds")).sc 37 ((fnI (.mth "Gatherer" "bounds")).body.drop 3) [("high", .d (h)), ("low", .d (l)), ("ends", .d (e)), ("a", .d (a)), ("x", .d (x)), ("total", t), ("self", s), ("value", va)] kn kr σ =
  (kr (.d (.tuple [l, h])) σ) := by kernel_rfl
theorem s_common_b1 {β : Type} (C : Calls) (a f : PyData) (s : Val) (kn : Rho → List MO → Option β) (kr : Val → List MO → Option β) (σ : List MO) : blK C glob 40 (fnI (.fn "common_of")).sc 38 ((sB (sAt 1 (fnI (.fn "common_of")).body))) [("a", .d (a)), ("found", .d (f)), ("numbers", s)] kn kr σ =
  ((builtinD σ "abs" [.d (a)]).bind fun y1 => toK2 (whileG (fun ρ' => (evE C glob 40 (fnI (.fn "common_of")).sc ρ' (sT (sAt 1 (sB (sAt 1 (fnI (.fn "common_of")).body))))) >>= fun v => ofO (truthD v)) (evBl (fun ρ => evE C glob 40 (fnI (.fn "common_of")).sc ρ) (fnI (.fn "common_of")).sc 36 (sB (sAt 1 (sB (sAt 1 (fnI (.fn "common_of")).body))))) lim [("rest", .d (f)), ("found", .d (y1)), ("a", .d (a)), ("numbers", s)]) (fun ρ => blK C glob 40 (fnI (.fn "common_of")).sc 36 ((sB (sAt 1 (fnI (.fn "common_of")).body)).drop 2) ρ kn kr) kr σ) := by kernel_rfl
theorem s_common_b2 {β : Type} (C : Calls) (a r f : PyData) (s : Val) (kn : Rho → List MO → Option β) (kr : Val → List MO → Option β) (σ : List MO) : blK C glob 40 (fnI (.fn "common_of")).sc 38 ((sB (sAt 1 (fnI (.fn "common_of")).body))) [("a", .d (a)), ("rest", .d (r)), ("found", .d (f)), ("numbers", s)] kn kr σ =
  ((builtinD σ "abs" [.d (a)]).bind fun y1 => toK2 (whileG (fun ρ' => (evE C glob 40 (fnI (.fn "common_of")).sc ρ' (sT (sAt 1 (sB (sAt 1 (fnI (.fn "common_of")).body))))) >>= fun v => ofO (truthD v)) (evBl (fun ρ => evE C glob 40 (fnI (.fn "common_of")).sc ρ) (fnI (.fn "common_of")).sc 36 (sB (sAt 1 (sB (sAt 1 (fnI (.fn "common_of")).body))))) lim [("rest", .d (f)), ("found", .d (y1)), ("a", .d (a)), ("numbers", s)]) (fun ρ => blK C glob 40 (fnI (.fn "common_of")).sc 36 ((sB (sAt 1 (fnI (.fn "common_of")).body)).drop 2) ρ kn kr) kr σ) := by kernel_rfl
theorem s_common_w {β : Type} (C : Calls) (r f a : PyData) (s : Val) (kn : Rho → List MO → Option β) (kr : Val → List MO → Option β) (σ : List MO) : blK C glob 40 (fnI (.fn "common_of")).sc 36 ((sB (sAt 1 (sB (sAt 1 (fnI (.fn "common_of")).body))))) [("rest", .d (r)), ("found", .d (f)), ("a", .d (a)), ("numbers", s)] kn kr σ =
  ((binD .Mod σ (.d (f)) (.d (r))).bind fun y1 => kn [("rest", .d (y1)), ("found", .d (r)), ("a", .d (a)), ("numbers", s)] σ) := by kernel_rfl
theorem s_common_e1 {β : Type} (C : Calls) (f : PyData) (s : Val) (kn : Rho → List MO → Option β) (kr : Val → List MO → Option β) (σ : List MO) : blK C glob 40 (fnI (.fn "common_of")).sc 38 ((fnI (.fn "common_of")).body.drop 2) [("found", .d (f)), ("numbers", s)] kn kr σ =
  (kr (.d (f)) σ) := by kernel_rfl
theorem s_common_e2 {β : Type} (C : Calls) (r f a : PyData) (s : Val) (kn : Rho → List MO → Option β) (kr : Val → List MO → Option β) (σ : List MO) : blK C glob 40 (fnI (.fn "common_of")).sc 38 ((fnI (.fn "common_of")).body.drop 2) [("rest", .d (r)), ("found", .d (f)), ("a", .d (a)), ("numbers", s)] kn kr σ =
  (kr (.d (f)) σ) := by kernel_rfl
theorem s_row_a {β : Type} (C : Calls) (t : Val) (h l : PyData) (s k va : Val) (kn : Rho → List MO → Option β) (kr : Val → List MO → Option β) (σ : List MO) : blK C glob 40 (fnI (.mth "Gatherer" "row")).sc 39 (List.take 1 ((fnI (.mth "Gatherer" "row")).body.drop 1)) [("total", t), ("high", .d (h)), ("low", .d (l)), ("self", s), ("kind", k), ("value", va)] kn kr σ =
  ((cmpD .Eq σ (k) (.d (.str "linear_le"))).bind fun b1 => (if b1 then (fun σ2 => (cmpD .LtE σ2 (.d (h)) (.d (.int 0))).bind fun b3 => (if b3 then (fun σ4 => (if b3 then (fun σ5 => (cmpD .LtE σ5 (.d (h)) (.d (.int 0))).bind fun b6 => kr (.d (.bool b6)) σ5) else (fun σ5 => kn [("total", t), ("high", .d (h)), ("low", .d (l)), ("self", s), ("kind", k), ("value", va)] σ5)) σ4) else (fun σ4 => (cmpD .Gt σ4 (.d (l)) (.d (.int 0))).bind fun b7 => (if b7 then (fun σ8 => (cmpD .LtE σ8 (.d (h)) (.d (.int 0))).bind fun b9 => kr (.d (.bool b9)) σ8) else (fun σ8 => kn [("total", t), ("high", .d (h)), ("low", .d (l)), ("self", s), ("kind", k), ("value", va)] σ8)) σ4)) σ2) else (fun σ2 => (cmpD .Gt σ2 (.d (l)) (.d (.int 0))).bind fun b10 => (if b10 then (fun σ11 => (if b10 then (fun σ12 => (cmpD .Eq σ12 (k) (.d (.str "linear_ne"))).bind fun b13 => kr (.d (.bool b13)) σ12) else (fun σ12 => (cmpD .Eq σ12 (.d (l)) (.d (h))).bind fun b14 => (if b14 then (fun σ15 => (cmpD .Eq σ15 (k) (.d (.str "linear_eq"))).bind fun b16 => kr (.d (.bool b16)) σ15) else (fun σ15 => kn [("total", t), ("high", .d (h)), ("low", .d (l)), ("self", s), ("kind", k), ("value", va)] σ15)) σ12)) σ11) else (fun σ11 => (cmpD .Lt σ11 (.d (h)) (.d (.int 0))).bind fun b17 => (if b17 then (fun σ18 => (cmpD .Eq σ18 (k) (.d (.str "linear_ne"))).bind fun b19 => kr (.d (.bool b19)) σ18) else (fun σ18 => (cmpD .Eq σ18 (.d (l)) (.d (h))).bind fun b20 => (if b20 then (fun σ21 => (cmpD .Eq σ21 (k) (.d (.str "linear_eq"))).bind fun b22 => kr (.d (.bool b22)) σ21) else (fun σ21 => kn [("total", t), ("high", .d (h)), ("low", .d (l)), ("self", s), ("kind", k), ("value", va)] σ21)) σ18)) σ11)) σ2)) σ) := by kernel_rfl
theorem s_row_c {β : Type} (C : Calls) (t : Val) (h l : PyData) (s k va : Val) (kn : Rho → List MO → Option β) (kr : Val → List MO → Option β) (σ : List MO) : blK C glob 40 (fnI (.mth "Gatherer" "row")).sc 38 (List.take 1 (List.drop 1 ((fnI (.mth "Gatherer" "row")).body.drop 1))) [("total", t), ("high", .d (h)), ("low", .d (l)), ("self", s), ("kind", k), ("value", va)] kn kr σ =
  ((itemD σ (t) (.d (.int 1))).bind fun y1 => (iterOf σ (.d (y1))).bind fun r2 => (g_row_c_0 C (r2) [] σ).bind fun q3 => (if okLen q3.1.length then (fun σ4 => (C (.fn "common_of") [.d (.list q3.1)] σ4).bind fun p5 => (itemD p5.2 (t) (.d (.int 2))).bind fun y6 => (negD (.d (y6))).bind fun y7 => kn [("c", .d (y7)), ("common", p5.1), ("total", t), ("high", .d (h)), ("low", .d (l)), ("self", s), ("kind", k), ("value", va)] p5.2) else noK) q3.2) := by kernel_rfl
theorem s_row_m {β : Type} (C : Calls) (c : PyData) (g : Val) (t : Val) (h l : PyData) (s k va : Val) (kn : Rho → List MO → Option β) (kr : Val → List MO → Option β) (σ : List MO) : blK C glob 40 (fnI (.mth "Gatherer" "row")).sc 37 (List.take 1 (List.drop 1 (List.drop 1 ((fnI (.mth "Gatherer" "row")).body.drop 1)))) [("c", .d (c)), ("common", g), ("total", t), ("high", .d (h)), ("low", .d (l)), ("self", s), ("kind", k), ("value", va)] kn kr σ =
  ((cmpD .NotEq σ (k) (.d (.str "linear_le"))).bind fun b1 => (if b1 then (fun σ2 => (binD .Mod σ2 (.d (c)) (g)).bind fun y3 => (cmpD .NotEq σ2 (.d (y3)) (.d (.int 0))).bind fun b4 => (if b4 then (fun σ5 => (cmpD .Eq σ5 (k) (.d (.str "linear_ne"))).bind fun b6 => kr (.d (.bool b6)) σ5) else (fun σ5 => kn [("c", .d (c)), ("common", g), ("total", t), ("high", .d (h)), ("low", .d (l)), ("self", s), ("kind", k), ("value", va)] σ5)) σ2) else (fun σ2 => (if b1 then (fun σ7 => (cmpD .Eq σ7 (k) (.d (.str "linear_ne"))).bind fun b8 => kr (.d (.bool b8)) σ7) else (fun σ7 => kn [("c", .d (c)), ("common", g), ("total", t), ("high", .d (h)), ("low", .d (l)), ("self", s), ("kind", k), ("value", va)] σ7)) σ2)) σ) := by kernel_rfl
theorem s_row_t {β : Type} (C : Calls) (c : PyData) (g : Val) (t : Val) (h l : PyData) (s k va : Val) (kn : Rho → List MO → Option β) (kr : Val → List MO → Option β) (σ : List MO) : blK C glob 40 (fnI (.mth "Gatherer" "row")).sc 36 ((List.drop 1 (List.drop 1 (List.drop 1 ((fnI (.mth "Gatherer" "row")).body.drop 1))))) [("c", .d (c)), ("common", g), ("total", t), ("high", .d (h)), ("low", .d (l)), ("self", s), ("kind", k), ("value", va)] kn kr σ =
  ((itemD σ (t) (.d (.int 1))).bind fun y1 => (iterOf σ (.d (y1))).bind fun r2 => (g_row_t_0 C (r2) [("common", g)] σ).bind fun q3 => (if okLen q3.1.length then (fun σ4 => (builtinD σ4 "tuple" [.d (.list q3.1)]).bind fun y5 => (itemD σ4 (t) (.d (.int 1))).bind fun y6 => (iterOf σ4 (.d (y6))).bind fun r7 => (g_row_t_1 C (r7) [] σ4).bind fun q8 => (if okLen q8.1.length then (fun σ9 => (builtinD σ9 "tuple" [.d (.list q8.1)]).bind fun y10 => (binD .FloorDiv σ9 (.d (c)) (g)).bind fun y11 => (allD [k, .d (y5), .d (y10), .d (y11)]).bind fun ys12 => (if okLen ys12.length then (fun σ13 => kr (.d (.tuple ys12)) σ13) else noK) σ9) else noK) q8.2) else noK) q3.2) := by kernel_rfl
theorem s_rt_a {β : Type} (C : Calls) (c xs cs k : PyData) (s va : Val) (kn : Rho → List MO → Option β) (kr : Val → List MO → Option β) (σ : List MO) : blK C glob 40 (fnI (.mth "Gatherer" "row_truth")).sc 37 (List.take 2 ((fnI (.mth "Gatherer" "row_truth")).body.drop 3)) [("c", .d (c)), ("some", .d (xs)), ("coefs", .d (cs)), ("kind", .d (k)), ("told", .d (.tuple [k, cs, xs, c])), ("self", s), ("value", va)] kn kr σ =
  ((cmpD .Eq σ (.d (k)) (.d (.str "linear_ne"))).bind fun b1 => (if b1 then (fun σ2 => (ptD (s)).bind fun i3 => (methD σ2 i3 "row_truth").bind fun m4 => (methM C "row_truth" (s) i3 [.d (.str "linear_eq"), va] m4 σ2).bind fun p5 => (C (.fn "contrary") [p5.1] p5.2).bind fun p6 => kr (p6.1) p6.2) else (fun σ2 => (iterOf σ2 (.d (cs))).bind fun r7 => (g_rt_a_0 C (r7) [] σ2).bind fun q8 => (if okLen q8.1.length then (fun σ9 => (builtinD σ9 "tuple" [.d (.list q8.1)]).bind fun y10 => kn [("turned", .d (y10)), ("c", .d (c)), ("some", .d (xs)), ("coefs", .d (cs)), ("kind", .d (k)), ("told", .d (.tuple [k, cs, xs, c])), ("self", s), ("value", va)] σ9) else noK) q8.2)) σ) := by kernel_rfl
theorem s_rt_b {β : Type} (C : Calls) (tu c xs cs k : PyData) (s va : Val) (kn : Rho → List MO → Option β) (kr : Val → List MO → Option β) (σ : List MO) : blK C glob 40 (fnI (.mth "Gatherer" "row_truth")).sc 35 (List.take 1 (List.drop 2 ((fnI (.mth "Gatherer" "row_truth")).body.drop 3))) [("turned", .d (tu)), ("c", .d (c)), ("some", .d (xs)), ("coefs", .d (cs)), ("kind", .d (k)), ("told", .d (.tuple [k, cs, xs, c])), ("self", s), ("value", va)] kn kr σ =
  ((itemD σ (.d (cs)) (.d (.int 0))).bind fun y1 => (cmpD .Lt σ (.d (y1)) (.d (.int 0))).bind fun b2 => (if b2 then (fun σ3 => (cmpD .Eq σ3 (.d (k)) (.d (.str "linear_le"))).bind fun b4 => (if b4 then (fun σ5 => (ptD (s)).bind fun i6 => (methD σ5 i6 "told_truth").bind fun m7 => (negD (.d (c))).bind fun y8 => (binD .Sub σ5 (.d (y8)) (.d (.int 1))).bind fun y9 => (methM C "told_truth" (s) i6 [.d (.tuple [k, tu, xs, y9])] m7 σ5).bind fun p10 => (C (.fn "contrary") [p10.1] p10.2).bind fun p11 => kr (p11.1) p11.2) else (fun σ5 => kn [("turned", .d (tu)), ("c", .d (c)), ("some", .d (xs)), ("coefs", .d (cs)), ("kind", .d (k)), ("told", .d (.tuple [k, cs, xs, c])), ("self", s), ("value", va)] σ5)) σ3) else (fun σ3 => (if b2 then (fun σ12 => (ptD (s)).bind fun i13 => (methD σ12 i13 "told_truth").bind fun m14 => (negD (.d (c))).bind fun y15 => (binD .Sub σ12 (.d (y15)) (.d (.int 1))).bind fun y16 => (methM C "told_truth" (s) i13 [.d (.tuple [k, tu, xs, y16])] m14 σ12).bind fun p17 => (C (.fn "contrary") [p17.1] p17.2).bind fun p18 => kr (p18.1) p18.2) else (fun σ12 => kn [("turned", .d (tu)), ("c", .d (c)), ("some", .d (xs)), ("coefs", .d (cs)), ("kind", .d (k)), ("told", .d (.tuple [k, cs, xs, c])), ("self", s), ("value", va)] σ12)) σ3)) σ) := by kernel_rfl
theorem s_rt_c {β : Type} (C : Calls) (tu c xs cs k : PyData) (s va : Val) (kn : Rho → List MO → Option β) (kr : Val → List MO → Option β) (σ : List MO) : blK C glob 40 (fnI (.mth "Gatherer" "row_truth")).sc 34 ((List.drop 1 (List.drop 2 ((fnI (.mth "Gatherer" "row_truth")).body.drop 3)))) [("turned", .d (tu)), ("c", .d (c)), ("some", .d (xs)), ("coefs", .d (cs)), ("kind", .d (k)), ("told", .d (.tuple [k, cs, xs, c])), ("self", s), ("value", va)] kn kr σ =
  ((ptD (s)).bind fun i1 => (methD σ i1 "told_truth").bind fun m2 => (itemD σ (.d (cs)) (.d (.int 0))).bind fun y3 => (cmpD .Gt σ (.d (y3)) (.d (.int 0))).bind fun b4 => (if b4 then (fun σ5 => (methM C "told_truth" (s) i1 [.d (.tuple [k, cs, xs, c])] m2 σ5).bind fun p6 => kr (p6.1) p6.2) else (fun σ5 => (negD (.d (c))).bind fun y7 => (methM C "told_truth" (s) i1 [.d (.tuple [k, tu, xs, y7])] m2 σ5).bind fun p8 => kr (p8.1) p8.2)) σ) := by kernel_rfl
theorem s_told_truth_r {β : Type} (C : Calls) (nw b c xs cs k : PyData) (s t : Val) (kn : Rho → List MO → Option β) (kr : Val → List MO → Option β) (σ : List MO) : blK C glob 40 (fnI (.mth "Gatherer" "told_truth")).sc 37 ((fnI (.mth "Gatherer" "told_truth")).body.drop 3) [("is_new", .d (nw)), ("b", .d (b)), ("c", .d (c)), ("some", .d (xs)), ("coefs", .d (cs)), ("kind", .d (k)), ("self", s), ("told", t)] kn kr σ =
  ((truthD (.d (nw))).bind fun b1 => (if b1 then (fun σ2 => (attrD σ2 (s) "flat").bind fun v3 => (ptD (v3)).bind fun i4 => (methD σ2 i4 "post").bind fun m5 => (allD [.d (.str "reif"), .d (b), t]).bind fun ys6 => (if okLen ys6.length then (fun σ7 => (methM C "post" (v3) i4 [.d (.tuple ys6)] m5 σ7).bind fun p8 => exK (p8.1) (fun σ9 => kr (.d (.tuple [.str "bit", b, .bool true])) σ9) p8.2) else noK) σ2) else (fun σ2 => kr (.d (.tuple [.str "bit", b, .bool true])) σ2)) σ) := by kernel_rfl
theorem s_truth_at (C : Calls) (g t o : Val) (σ : List MO) : runK C glob (fnI (.fn "_law_truth_at")) [g, t, o] σ =
  ((isinstD (t) "bool").bind fun b1 => (if b1 then (fun σ2 => some (t, σ2)) else (fun σ2 => (bindV (fnI (.fn "_law_truth_at")).sc (sTg (sAt 1 (fnI (.fn "_law_truth_at")).body)) (t) [("gatherer", g), ("truth", t), ("one", o)]).bind fun ρ => blK C glob 40 (fnI (.fn "_law_truth_at")).sc 38 ((fnI (.fn "_law_truth_at")).body.drop 2) ρ (fun _ σ => some (.d .none, σ)) (fun v σ => some (v, σ)) σ2)) σ) := by kernel_rfl
theorem s_truth_at_r {β : Type} (C : Calls) (u x w : PyData) (g t o : Val) (kn : Rho → List MO → Option β) (kr : Val → List MO → Option β) (σ : List MO) : blK C glob 40 (fnI (.fn "_law_truth_at")).sc 38 ((fnI (.fn "_law_truth_at")).body.drop 2) [("is_up", .d (u)), ("x", .d (x)), ("word", .d (w)), ("gatherer", g), ("truth", t), ("one", o)] kn kr σ =
  ((cmpD .Lt σ (.d (x)) (.d (.int 3))).bind fun b1 => (if b1 then (fun σ2 => (itemD σ2 (o) (.d (x))).bind fun y3 => (cmpD .Eq σ2 (.d (y3)) (.d (.int 1))).bind fun b4 => (cmpD .Eq σ2 (.d (.bool b4)) (.d (u))).bind fun b5 => kr (.d (.bool b5)) σ2) else (fun σ2 => (attrD σ2 (g) "flat").bind fun v6 => (attrD σ2 (v6) "tolds").bind fun v7 => (iterOf σ2 (v7)).bind fun r8 => (g_truth_at_r_0 C (r8) [("x", .d (x))] σ2).bind fun q9 => (if okLen q9.1.length then (fun σ10 => (builtinD σ10 "len" [.d (.list q9.1)]).bind fun y11 => (cmpD .NotEq σ10 (.d (y11)) (.d (.int 1))).bind fun b12 => (if b12 then (fun σ13 => (if b12 then (fun σ14 => kr (.d (.none)) σ14) else (fun σ14 => blK C glob 40 (fnI (.fn "_law_truth_at")).sc 35 ((fnI (.fn "_law_truth_at")).body.drop 5) [("told", .d (.list q9.1)), ("is_up", .d (u)), ("x", .d (x)), ("word", .d (w)), ("gatherer", g), ("truth", t), ("one", o)] kn kr σ14)) σ13) else (fun σ13 => (attrD σ13 (g) "flat").bind fun v15 => (ptD (v15)).bind fun i16 => (methD σ13 i16 "domain_of").bind fun m17 => (methM C "domain_of" (v15) i16 [.d (x)] m17 σ13).bind fun p18 => (cmpD .NotEq p18.2 (p18.1) (.d (.tuple [.tuple [.int 0, .int 1]]))).bind fun b19 => (if b19 then (fun σ20 => kr (.d (.none)) σ20) else (fun σ20 => blK C glob 40 (fnI (.fn "_law_truth_at")).sc 35 ((fnI (.fn "_law_truth_at")).body.drop 5) [("told", .d (.list q9.1)), ("is_up", .d (u)), ("x", .d (x)), ("word", .d (w)), ("gatherer", g), ("truth", t), ("one", o)] kn kr σ20)) p18.2)) σ10) else noK) q9.2)) σ) := by kernel_rfl
theorem s_truth_at_b {β : Type} (C : Calls) (td u x w : PyData) (g t o : Val) (kn : Rho → List MO → Option β) (kr : Val → List MO → Option β) (σ : List MO) : blK C glob 40 (fnI (.fn "_law_truth_at")).sc 35 ((fnI (.fn "_law_truth_at")).body.drop 5) [("told", .d (td)), ("is_up", .d (u)), ("x", .d (x)), ("word", .d (w)), ("gatherer", g), ("truth", t), ("one", o)] kn kr σ =
  ((itemD σ (.d (td)) (.d (.int 0))).bind fun y1 => (itemD σ (.d (y1)) (.d (.int 2))).bind fun y2 => (bindV (fnI (.fn "_law_truth_at")).sc (sTg (sAt 5 (fnI (.fn "_law_truth_at")).body)) (.d (y2)) [("told", .d (td)), ("is_up", .d (u)), ("x", .d (x)), ("word", .d (w)), ("gatherer", g), ("truth", t), ("one", o)]).bind fun ρ => blK C glob 40 (fnI (.fn "_law_truth_at")).sc 34 ((fnI (.fn "_law_truth_at")).body.drop 6) ρ kn kr σ) := by kernel_rfl
theorem s_truth_at_e {β : Type} (C : Calls) (c xs cs k td u x w : PyData) (g t o : Val) (kn : Rho → List MO → Option β) (kr : Val → List MO → Option β) (σ : List MO) : blK C glob 40 (fnI (.fn "_law_truth_at")).sc 34 ((fnI (.fn "_law_truth_at")).body.drop 6) [("c", .d (c)), ("some", .d (xs)), ("coefs", .d (cs)), ("kind", .d (k)), ("told", .d (td)), ("is_up", .d (u)), ("x", .d (x)), ("word", .d (w)), ("gatherer", g), ("truth", t), ("one", o)] kn kr σ =
  ((zipD [.d (cs), .d (xs)] σ).bind fun p1 => (g_truth_at_e_0 C (p1.1) [("one", o)] p1.2).bind fun q2 => (if okLen q2.1.length then (fun σ3 => (builtinD σ3 "sum" [.d (.list q2.1)]).bind fun y4 => (binD .Sub σ3 (.d (y4)) (.d (c))).bind fun y5 => (C (.fn "_law_stands") [.d (k), .d (y5)] σ3).bind fun p6 => (cmpD .Eq p6.2 (p6.1) (.d (u))).bind fun b7 => kr (.d (.bool b7)) p6.2) else noK) q2.2) := by kernel_rfl
theorem s_row_right (C : Calls) (t k ps du : Val) (σ : List MO) : runK C glob (fnI (.fn "_law_is_row_right")) [t, k, ps, du] σ =
  ((isinstD (t) "bool").bind fun b1 => (if b1 then (fun σ2 => (allD [t]).bind fun ys3 => (if okLen ys3.length then (fun σ4 => (builtinD σ4 "len" [du]).bind fun y5 => (binD .Mult σ4 (.d (.list ys3)) (.d (y5))).bind fun y6 => (cmpD .Eq σ4 (du) (.d (y6))).bind fun b7 => some (.d (.bool b7), σ4)) else noK) σ2) else (fun σ2 => (cmpD .Eq σ2 (k) (.d (.str "linear_le"))).bind fun b8 => (if b8 then (fun σ9 => (cmpD .NotIn σ9 (.d (.bool true)) (du)).bind fun b10 => (if b10 then (fun σ11 => (if b10 then (fun σ12 => some (.d (.bool false), σ12)) else (fun σ12 => (bindV (fnI (.fn "_law_is_row_right")).sc (sTg (sAt 2 (fnI (.fn "_law_is_row_right")).body)) (t) [("told", t), ("kind", k), ("points", ps), ("due", du)]).bind fun ρ => blK C glob 40 (fnI (.fn "_law_is_row_right")).sc 37 ((fnI (.fn "_law_is_row_right")).body.drop 3) ρ (fun _ σ => some (.d .none, σ)) (fun v σ => some (v, σ)) σ12)) σ11) else (fun σ11 => (cmpD .NotIn σ11 (.d (.bool false)) (du)).bind fun b13 => (if b13 then (fun σ14 => some (.d (.bool false), σ14)) else (fun σ14 => (bindV (fnI (.fn "_law_is_row_right")).sc (sTg (sAt 2 (fnI (.fn "_law_is_row_right")).body)) (t) [("told", t), ("kind", k), ("points", ps), ("due", du)]).bind fun ρ => blK C glob 40 (fnI (.fn "_law_is_row_right")).sc 37 ((fnI (.fn "_law_is_row_right")).body.drop 3) ρ (fun _ σ => some (.d .none, σ)) (fun v σ => some (v, σ)) σ14)) σ11)) σ9) else (fun σ9 => (if b8 then (fun σ15 => some (.d (.bool false), σ15)) else (fun σ15 => (bindV (fnI (.fn "_law_is_row_right")).sc (sTg (sAt 2 (fnI (.fn "_law_is_row_right")).body)) (t) [("told", t), ("kind", k), ("points", ps), ("due", du)]).bind fun ρ => blK C glob 40 (fnI (.fn "_law_is_row_right")).sc 37 ((fnI (.fn "_law_is_row_right")).body.drop 3) ρ (fun _ σ => some (.d .none, σ)) (fun v σ => some (v, σ)) σ15)) σ9)) σ2)) σ) := by kernel_rfl
theorem s_rr_a {β : Type} (C : Calls) (c xs cs nm : PyData) (t k ps du : Val) (kn : Rho → List MO → Option β) (kr : Val → List MO → Option β) (σ : List MO) : blK C glob 40 (fnI (.fn "_law_is_row_right")).sc 37 (List.take 1 ((fnI (.fn "_law_is_row_right")).body.drop 3)) [("c", .d (c)), ("some", .d (xs)), ("coefs", .d (cs)), ("name", .d (nm)), ("told", t), ("kind", k), ("points", ps), ("due", du)] kn kr σ =
  ((cmpD .NotEq σ (.d (nm)) (k)).bind fun b1 => (if b1 then (fun σ2 => (if b1 then (fun σ3 => kr (.d (.bool false)) σ3) else (fun σ3 => kn [("c", .d (c)), ("some", .d (xs)), ("coefs", .d (cs)), ("name", .d (nm)), ("told", t), ("kind", k), ("points", ps), ("due", du)] σ3)) σ2) else (fun σ2 => (builtinD σ2 "list" [.d (xs)]).bind fun y4 => (sortedSetD (.d (xs))).bind fun y5 => (cmpD .NotEq σ2 (.d (y4)) (.d (y5))).bind fun b6 => (if b6 then (fun σ7 => (if b6 then (fun σ8 => kr (.d (.bool false)) σ8) else (fun σ8 => kn [("c", .d (c)), ("some", .d (xs)), ("coefs", .d (cs)), ("name", .d (nm)), ("told", t), ("kind", k), ("points", ps), ("due", du)] σ8)) σ7) else (fun σ7 => (builtinD σ7 "len" [.d (cs)]).bind fun y9 => (builtinD σ7 "len" [.d (xs)]).bind fun y10 => (cmpD .NotEq σ7 (.d (y9)) (.d (y10))).bind fun b11 => (if b11 then (fun σ12 => (if b11 then (fun σ13 => kr (.d (.bool false)) σ13) else (fun σ13 => kn [("c", .d (c)), ("some", .d (xs)), ("coefs", .d (cs)), ("name", .d (nm)), ("told", t), ("kind", k), ("points", ps), ("due", du)] σ13)) σ12) else (fun σ12 => (cmpD .In σ12 (.d (.int 0)) (.d (cs))).bind fun b14 => (if b14 then (fun σ15 => (if b14 then (fun σ16 => kr (.d (.bool false)) σ16) else (fun σ16 => kn [("c", .d (c)), ("some", .d (xs)), ("coefs", .d (cs)), ("name", .d (nm)), ("told", t), ("kind", k), ("points", ps), ("due", du)] σ16)) σ15) else (fun σ15 => (cmpD .Eq σ15 (.d (cs)) (.d (.tuple []))).bind fun b17 => (if b17 then (fun σ18 => kr (.d (.bool false)) σ18) else (fun σ18 => kn [("c", .d (c)), ("some", .d (xs)), ("coefs", .d (cs)), ("name", .d (nm)), ("told", t), ("kind", k), ("points", ps), ("due", du)] σ18)) σ15)) σ12)) σ7)) σ2)) σ) := by kernel_rfl
theorem s_rr_b {β : Type} (C : Calls) (c xs cs nm : PyData) (t k ps du : Val) (kn : Rho → List MO → Option β) (kr : Val → List MO → Option β) (σ : List MO) : blK C glob 40 (fnI (.fn "_law_is_row_right")).sc 36 ((List.drop 1 ((fnI (.fn "_law_is_row_right")).body.drop 3))) [("c", .d (c)), ("some", .d (xs)), ("coefs", .d (cs)), ("name", .d (nm)), ("told", t), ("kind", k), ("points", ps), ("due", du)] kn kr σ =
  ((iterOf σ (.d (cs))).bind fun r1 => (g_rr_b_0 C (r1) [] σ).bind fun q2 => (if okLen q2.1.length then (fun σ3 => (builtinD σ3 "max" [.d (.list q2.1)]).bind fun y4 => (binD .Add σ3 (.d (y4)) (.d (.int 1))).bind fun y5 => (rangeD [.d (.int 2), .d (y5)] σ3).bind fun p6 => (g_rr_b_1 C (p6.1) [("coefs", .d (cs))] p6.2).bind fun q7 => (if okLen q7.1.length then (fun σ8 => (cmpD .NotEq σ8 (.d (.list q7.1)) (.d (.list []))).bind fun b9 => (if b9 then (fun σ10 => kr (.d (.bool false)) σ10) else (fun σ10 => (iterOf σ10 (ps)).bind fun r11 => (g_rr_b_2 C (r11) [("c", .d (c)), ("some", .d (xs)), ("coefs", .d (cs)), ("kind", k)] σ10).bind fun q12 => (if okLen q12.1.length then (fun σ13 => (cmpD .Eq σ13 (.d (.list q12.1)) (du)).bind fun b14 => kr (.d (.bool b14)) σ13) else noK) q12.2)) σ8) else noK) q7.2) else noK) q2.2) := by kernel_rfl
theorem s_sum_b1 {β : Type} (C : Calls) (k : PyData) (o f g ps ns c : Val) (kn : Rho → List MO → Option β) (kr : Val → List MO → Option β) (σ : List MO) : blK C glob 40 (fnI (.fn "_law_is_sum_right")).sc 38 (List.take 6 (sB (sAt 1 (fnI (.fn "_law_is_sum_right")).body))) [("kind", .d (k)), ("often", o), ("feed", f), ("gatherer", g), ("points", ps), ("numbers", ns), ("constant", c)] kn kr σ =
  ((iterOf σ (ps)).bind fun r1 => (g_sum_b1_0 C (r1) [("numbers", ns), ("constant", c)] σ).bind fun q2 => (if okLen q2.1.length then (fun σ3 => (iterOf σ3 (.d (.list q2.1))).bind fun r4 => (g_sum_b1_1 C (r4) [("kind", .d (k))] σ3).bind fun q5 => (if okLen q5.1.length then (fun σ6 => (ptD (g)).bind fun i7 => (methD σ6 i7 "row").bind fun m8 => (C (.fn "_law_sum") [ns, c] σ6).bind fun p9 => (methM C "row" (g) i7 [.d (k), p9.1] m8 p9.2).bind fun p10 => (C (.fn "_law_is_row_right") [p10.1, .d (k), ps, .d (.list q5.1)] p10.2).bind fun p11 => (truthD (p11.1)).bind fun b12 => (if !b12 then (fun σ13 => kr (.d (.bool false)) σ13) else (fun σ13 => (ptD (g)).bind fun i14 => (methD σ13 i14 "row_truth").bind fun m15 => (C (.fn "_law_sum") [ns, c] σ13).bind fun p16 => (methM C "row_truth" (g) i14 [.d (k), p16.1] m15 p16.2).bind fun p17 => (iterOf p17.2 (ps)).bind fun r18 => (g_sum_b1_2 C (r18) [("truth", p17.1), ("gatherer", g)] p17.2).bind fun q19 => (if okLen q19.1.length then (fun σ20 => (cmpD .NotEq σ20 (.d (.list q19.1)) (.d (.list q5.1))).bind fun b21 => (if b21 then (fun σ22 => kr (.d (.bool false)) σ22) else (fun σ22 => (attrD σ22 (g) "flat").bind fun v23 => (ptD (v23)).bind fun i24 => (methD σ22 i24 "size").bind fun m25 => (methM C "size" (v23) i24 [] m25 σ22).bind fun p26 => kn [("many", p26.1), ("truth", p17.1), ("due", .d (.list q5.1)), ("reached", .d (.list q2.1)), ("kind", .d (k)), ("often", o), ("feed", f), ("gatherer", g), ("points", ps), ("numbers", ns), ("constant", c)] p26.2)) σ20) else noK) q19.2)) p11.2) else noK) q5.2) else noK) q2.2) := by kernel_rfl
theorem s_sum_b2 {β : Type} (C : Calls) (k : PyData) (m t d r o f g ps ns c : Val) (kn : Rho → List MO → Option β) (kr : Val → List MO → Option β) (σ : List MO) : blK C glob 40 (fnI (.fn "_law_is_sum_right")).sc 38 (List.take 6 (sB (sAt 1 (fnI (.fn "_law_is_sum_right")).body))) [("kind", .d (k)), ("many", m), ("truth", t), ("due", d), ("reached", r), ("often", o), ("feed", f), ("gatherer", g), ("points", ps), ("numbers", ns), ("constant", c)] kn kr σ =
  ((iterOf σ (ps)).bind fun r1 => (g_sum_b2_0 C (r1) [("numbers", ns), ("constant", c)] σ).bind fun q2 => (if okLen q2.1.length then (fun σ3 => (iterOf σ3 (.d (.list q2.1))).bind fun r4 => (g_sum_b2_1 C (r4) [("kind", .d (k))] σ3).bind fun q5 => (if okLen q5.1.length then (fun σ6 => (ptD (g)).bind fun i7 => (methD σ6 i7 "row").bind fun m8 => (C (.fn "_law_sum") [ns, c] σ6).bind fun p9 => (methM C "row" (g) i7 [.d (k), p9.1] m8 p9.2).bind fun p10 => (C (.fn "_law_is_row_right") [p10.1, .d (k), ps, .d (.list q5.1)] p10.2).bind fun p11 => (truthD (p11.1)).bind fun b12 => (if !b12 then (fun σ13 => kr (.d (.bool false)) σ13) else (fun σ13 => (ptD (g)).bind fun i14 => (methD σ13 i14 "row_truth").bind fun m15 => (C (.fn "_law_sum") [ns, c] σ13).bind fun p16 => (methM C "row_truth" (g) i14 [.d (k), p16.1] m15 p16.2).bind fun p17 => (iterOf p17.2 (ps)).bind fun r18 => (g_sum_b2_2 C (r18) [("truth", p17.1), ("gatherer", g)] p17.2).bind fun q19 => (if okLen q19.1.length then (fun σ20 => (cmpD .NotEq σ20 (.d (.list q19.1)) (.d (.list q5.1))).bind fun b21 => (if b21 then (fun σ22 => kr (.d (.bool false)) σ22) else (fun σ22 => (attrD σ22 (g) "flat").bind fun v23 => (ptD (v23)).bind fun i24 => (methD σ22 i24 "size").bind fun m25 => (methM C "size" (v23) i24 [] m25 σ22).bind fun p26 => kn [("many", p26.1), ("truth", p17.1), ("due", .d (.list q5.1)), ("reached", .d (.list q2.1)), ("kind", .d (k)), ("often", o), ("feed", f), ("gatherer", g), ("points", ps), ("numbers", ns), ("constant", c)] p26.2)) σ20) else noK) q19.2)) p11.2) else noK) q5.2) else noK) q2.2) := by kernel_rfl
theorem s_sum_x6 {β : Type} (C : Calls) (m t d r : Val) (k : PyData) (o f g ps ns c : Val) (kn : Rho → List MO → Option β) (kr : Val → List MO → Option β) (σ : List MO) : blK C glob 40 (fnI (.fn "_law_is_sum_right")).sc 32 (List.take 1 (List.drop 6 (sB (sAt 1 (fnI (.fn "_law_is_sum_right")).body)))) [("many", m), ("truth", t), ("due", d), ("reached", r), ("kind", .d (k)), ("often", o), ("feed", f), ("gatherer", g), ("points", ps), ("numbers", ns), ("constant", c)] kn kr σ =
  ((ptD (g)).bind fun i1 => (methD σ i1 "row_truth").bind fun m2 => (iterOf σ (ns)).bind fun r3 => (g_sum_x6_0 C (r3) [("often", o)] σ).bind fun q4 => (if okLen q4.1.length then (fun σ5 => (binD .Mult σ5 (o) (c)).bind fun y6 => (C (.fn "_law_sum") [.d (.list q4.1), .d (y6)] σ5).bind fun p7 => (methM C "row_truth" (g) i1 [.d (k), p7.1] m2 p7.2).bind fun p8 => (cmpD .NotEq p8.2 (p8.1) (t)).bind fun b9 => (if b9 then (fun σ10 => kr (.d (.bool false)) σ10) else (fun σ10 => kn [("many", m), ("truth", t), ("due", d), ("reached", r), ("kind", .d (k)), ("often", o), ("feed", f), ("gatherer", g), ("points", ps), ("numbers", ns), ("constant", c)] σ10)) p8.2) else noK) q4.2) := by kernel_rfl
theorem s_sum_x7 {β : Type} (C : Calls) (m t d r : Val) (k : PyData) (o f g ps ns c : Val) (kn : Rho → List MO → Option β) (kr : Val → List MO → Option β) (σ : List MO) : blK C glob 40 (fnI (.fn "_law_is_sum_right")).sc 31 (List.take 1 (List.drop 1 (List.drop 6 (sB (sAt 1 (fnI (.fn "_law_is_sum_right")).body))))) [("many", m), ("truth", t), ("due", d), ("reached", r), ("kind", .d (k)), ("often", o), ("feed", f), ("gatherer", g), ("points", ps), ("numbers", ns), ("constant", c)] kn kr σ =
  ((cmpD .Eq σ (.d (k)) (.d (.str "linear_le"))).bind fun b1 => (if b1 then (fun σ2 => (ptD (g)).bind fun i3 => (methD σ2 i3 "row_truth").bind fun m4 => (iterOf σ2 (ns)).bind fun r5 => (g_sum_x7_0 C (r5) [] σ2).bind fun q6 => (if okLen q6.1.length then (fun σ7 => (binD .Sub σ7 (.d (.int 1)) (c)).bind fun y8 => (C (.fn "_law_sum") [.d (.list q6.1), .d (y8)] σ7).bind fun p9 => (methM C "row_truth" (g) i3 [.d (k), p9.1] m4 p9.2).bind fun p10 => (C (.fn "contrary") [t] p10.2).bind fun p11 => (cmpD .NotEq p11.2 (p10.1) (p11.1)).bind fun b12 => (if b12 then (fun σ13 => kr (.d (.bool false)) σ13) else (fun σ13 => kn [("many", m), ("truth", t), ("due", d), ("reached", r), ("kind", .d (k)), ("often", o), ("feed", f), ("gatherer", g), ("points", ps), ("numbers", ns), ("constant", c)] σ13)) p11.2) else noK) q6.2) else (fun σ2 => (ptD (g)).bind fun i14 => (methD σ2 i14 "row_truth").bind fun m15 => (iterOf σ2 (ns)).bind fun r16 => (g_sum_x7_1 C (r16) [] σ2).bind fun q17 => (if okLen q17.1.length then (fun σ18 => (binD .Sub σ18 (.d (.int 0)) (c)).bind fun y19 => (C (.fn "_law_sum") [.d (.list q17.1), .d (y19)] σ18).bind fun p20 => (methM C "row_truth" (g) i14 [.d (k), p20.1] m15 p20.2).bind fun p21 => (cmpD .NotEq p21.2 (p21.1) (t)).bind fun b22 => (if b22 then (fun σ23 => kr (.d (.bool false)) σ23) else (fun σ23 => kn [("many", m), ("truth", t), ("due", d), ("reached", r), ("kind", .d (k)), ("often", o), ("feed", f), ("gatherer", g), ("points", ps), ("numbers", ns), ("constant", c)] σ23)) p21.2) else noK) q17.2)) σ) := by kernel_rfl
theorem s_sum_x8 {β : Type} (C : Calls) (m t d r : Val) (k : PyData) (o f g ps ns c : Val) (kn : Rho → List MO → Option β) (kr : Val → List MO → Option β) (σ : List MO) : blK C glob 40 (fnI (.fn "_law_is_sum_right")).sc 30 ((List.drop 1 (List.drop 1 (List.drop 6 (sB (sAt 1 (fnI (.fn "_law_is_sum_right")).body)))))) [("many", m), ("truth", t), ("due", d), ("reached", r), ("kind", .d (k)), ("often", o), ("feed", f), ("gatherer", g), ("points", ps), ("numbers", ns), ("constant", c)] kn kr σ =
  ((attrD σ (g) "flat").bind fun v1 => (ptD (v1)).bind fun i2 => (methD σ i2 "size").bind fun m3 => (methM C "size" (v1) i2 [] m3 σ).bind fun p4 => (cmpD .NotEq p4.2 (p4.1) (m)).bind fun b5 => (if b5 then (fun σ6 => kr (.d (.bool false)) σ6) else (fun σ6 => kn [("many", m), ("truth", t), ("due", d), ("reached", r), ("kind", .d (k)), ("often", o), ("feed", f), ("gatherer", g), ("points", ps), ("numbers", ns), ("constant", c)] σ6)) p4.2) := by kernel_rfl
theorem s_sum_e {β : Type} (C : Calls) (m t d r : Val) (k : PyData) (o f g ps ns c : Val) (kn : Rho → List MO → Option β) (kr : Val → List MO → Option β) (σ : List MO) : blK C glob 40 (fnI (.fn "_law_is_sum_right")).sc 38 ((fnI (.fn "_law_is_sum_right")).body.drop 2) [("many", m), ("truth", t), ("due", d), ("reached", r), ("kind", .d (k)), ("often", o), ("feed", f), ("gatherer", g), ("points", ps), ("numbers", ns), ("constant", c)] kn kr σ =
  (kr (.d (.bool true)) σ) := by kernel_rfl
theorem s_rows (C : Calls) (f : Val) (σ : List MO) : runK C glob (fnI (.fn "_law_rows")) [f] σ =
  ((rangeD [.d (.int 3)] (σ ++ [.list []])).bind fun p1 => toK2 (forG (fnI (.fn "_law_rows")).sc (sTg (sAt 1 (fnI (.fn "_law_rows")).body)) (p1.1) (evBl (fun ρ => evE C glob 40 (fnI (.fn "_law_rows")).sc ρ) (fnI (.fn "_law_rows")).sc 38 (sB (sAt 1 (fnI (.fn "_law_rows")).body))) lim 0 [("found", .p σ.length), ("feed", f)]) (fun ρ => blK C glob 40 (fnI (.fn "_law_rows")).sc 38 ((fnI (.fn "_law_rows")).body.drop 2) ρ (fun _ σ => some (.d .none, σ)) (fun v σ => some (v, σ))) (fun v σ => some (v, σ)) p1.2) := by kernel_rfl
theorem s_once_b {β : Type} (C : Calls) (h l nw : PyData) (s k d : Val) (kn : Rho → List MO → Option β) (kr : Val → List MO → Option β) (σ : List MO) : blK C glob 40 (fnI (.mth "Gatherer" "once")).sc 37 ((sB (sAt 0 (sB (sAt 1 (fnI (.mth "Gatherer" "once")).body))))) [("high", .d (h)), ("low", .d (l)), ("is_new", .d (nw)), ("self", s), ("key", k), ("domain", d)] kn kr σ =
  ((builtinD σ "abs" [.d (l)]).bind fun y1 => (builtinD σ "abs" [.d (h)]).bind fun y2 => (builtinD σ "max" [.d (y1), .d (y2)]).bind fun y3 => (C (.fn "within_figures") [.d (y3)] σ).bind fun p4 => exK (p4.1) (fun σ5 => kn [("high", .d (h)), ("low", .d (l)), ("is_new", .d (nw)), ("self", s), ("key", k), ("domain", d)] σ5) p4.2) := by kernel_rfl
theorem s_once_m {β : Type} (C : Calls) (h l nw : PyData) (s k d : Val) (kn : Rho → List MO → Option β) (kr : Val → List MO → Option β) (σ : List MO) : blK C glob 40 (fnI (.mth "Gatherer" "once")).sc 37 ((sB (sAt 1 (fnI (.mth "Gatherer" "once")).body)).drop 1) [("high", .d (h)), ("low", .d (l)), ("is_new", .d (nw)), ("self", s), ("key", k), ("domain", d)] kn kr σ =
  ((attrD σ (s) "flat").bind fun v1 => (ptD (v1)).bind fun i2 => (methD σ i2 "new_var").bind fun m3 => (attrD σ (s) "flat").bind fun v4 => (ptD (v4)).bind fun i5 => (methD σ i5 "size").bind fun m6 => (methM C "size" (v4) i5 [] m6 σ).bind fun p7 => (intD (p7.1)).bind fun y8 => (if decide (0 ≤ y8) && decide (y8 < 4096) && decide (("#" : Str).length ≤ 100) then (fun σ9 => (methM C "new_var" (v1) i2 [.d (.str (("#" : Str) ++ intText y8.toNat)), d] m3 σ9).bind fun p10 => (attrD p10.2 (s) "made").bind fun v11 => (storeItem p10.2 (v11) (k) (p10.1)).bind fun σ12 => kn [("high", .d (h)), ("low", .d (l)), ("is_new", .d (nw)), ("self", s), ("key", k), ("domain", d)] σ12) else noK) p7.2) := by kernel_rfl
theorem s_once_e1 {β : Type} (C : Calls) (nw : PyData) (s k d : Val) (kn : Rho → List MO → Option β) (kr : Val → List MO → Option β) (σ : List MO) : blK C glob 40 (fnI (.mth "Gatherer" "once")).sc 38 ((fnI (.mth "Gatherer" "once")).body.drop 2) [("is_new", .d (nw)), ("self", s), ("key", k), ("domain", d)] kn kr σ =
  ((attrD σ (s) "made").bind fun v1 => (itemD σ (v1) (k)).bind fun y2 => kr (.d (.tuple [y2, nw])) σ) := by kernel_rfl
theorem s_once_e2 {β : Type} (C : Calls) (h l nw : PyData) (s k d : Val) (kn : Rho → List MO → Option β) (kr : Val → List MO → Option β) (σ : List MO) : blK C glob 40 (fnI (.mth "Gatherer" "once")).sc 38 ((fnI (.mth "Gatherer" "once")).body.drop 2) [("high", .d (h)), ("low", .d (l)), ("is_new", .d (nw)), ("self", s), ("key", k), ("domain", d)] kn kr σ =
  ((attrD σ (s) "made").bind fun v1 => (itemD σ (v1) (k)).bind fun y2 => kr (.d (.tuple [y2, nw])) σ) := by kernel_rfl
theorem s_rows_b1 {β : Type} (C : Calls) (x : PyData) (fo f : Val) (kn : Rho → List MO → Option β) (kr : Val → List MO → Option β) (σ : List MO) : blK C glob 40 (fnI (.fn "_law_rows")).sc 38 ((sB (sAt 1 (fnI (.fn "_law_rows")).body))) [("x", .d (x)), ("found", fo), ("feed", f)] kn kr σ =
  ((C (.fn "_law_draw") [f, .d (.int 3)] σ).bind fun p1 => (binD .Sub p1.2 (p1.1) (.d (.int 1))).bind fun y2 => (ptD (fo)).bind fun i3 => (methD p1.2 i3 "append").bind fun m4 => (iterOf p1.2 (.d (.tuple [.int 1, .int 2, .int 3]))).bind fun r5 => (g_rows_b1_0 C (r5) [("low", .d (y2)), ("feed", f)] p1.2).bind fun q6 => (if okLen q6.1.length then (fun σ7 => (binD .Add σ7 (.d (.list [y2])) (.d (.list q6.1))).bind fun y8 => (sliceD σ7 (.d (y8)) none (some 3)).bind fun y9 => (methM C "append" (fo) i3 [.d (y9)] m4 σ7).bind fun p10 => exK (p10.1) (fun σ11 => kn [("low", .d (y2)), ("x", .d (x)), ("found", fo), ("feed", f)] σ11) p10.2) else noK) q6.2) := by kernel_rfl
theorem s_rows_b2 {β : Type} (C : Calls) (x l : PyData) (fo f : Val) (kn : Rho → List MO → Option β) (kr : Val → List MO → Option β) (σ : List MO) : blK C glob 40 (fnI (.fn "_law_rows")).sc 38 ((sB (sAt 1 (fnI (.fn "_law_rows")).body))) [("x", .d (x)), ("low", .d (l)), ("found", fo), ("feed", f)] kn kr σ =
  ((C (.fn "_law_draw") [f, .d (.int 3)] σ).bind fun p1 => (binD .Sub p1.2 (p1.1) (.d (.int 1))).bind fun y2 => (ptD (fo)).bind fun i3 => (methD p1.2 i3 "append").bind fun m4 => (iterOf p1.2 (.d (.tuple [.int 1, .int 2, .int 3]))).bind fun r5 => (g_rows_b2_0 C (r5) [("low", .d (y2)), ("feed", f)] p1.2).bind fun q6 => (if okLen q6.1.length then (fun σ7 => (binD .Add σ7 (.d (.list [y2])) (.d (.list q6.1))).bind fun y8 => (sliceD σ7 (.d (y8)) none (some 3)).bind fun y9 => (methM C "append" (fo) i3 [.d (y9)] m4 σ7).bind fun p10 => exK (p10.1) (fun σ11 => kn [("low", .d (y2)), ("x", .d (x)), ("found", fo), ("feed", f)] σ11) p10.2) else noK) q6.2) := by kernel_rfl
theorem s_rows_e {β : Type} (C : Calls) (l x : PyData) (fo f : Val) (kn : Rho → List MO → Option β) (kr : Val → List MO → Option β) (σ : List MO) : blK C glob 40 (fnI (.fn "_law_rows")).sc 38 ((fnI (.fn "_law_rows")).body.drop 2) [("low", .d (l)), ("x", .d (x)), ("found", fo), ("feed", f)] kn kr σ =
  ((C (.fn "_law_draw") [f, .d (.int 3)] σ).bind fun p1 => (cmpD .Eq p1.2 (p1.1) (.d (.int 2))).bind fun b2 => (if b2 then (fun σ3 => (sliceD σ3 (fo) (some 1) none).bind fun y4 => (binD .Add σ3 (.d (.list [.list [.int 0, .int 1]])) (.d (y4))).bind fun y5 => kr (.d (y5)) σ3) else (fun σ3 => kr (fo) σ3)) p1.2) := by kernel_rfl
theorem s_law_b {β : Type} (C : Calls) (x : PyData) (g r f s : Val) (kn : Rho → List MO → Option β) (kr : Val → List MO → Option β) (σ : List MO) : blK C glob 40 (fnI (.fn "law")).sc 37 ((sB (sAt 2 (fnI (.fn "law")).body))) [("x", .d (x)), ("gatherer", g), ("rows", r), ("feed", f), ("script", s)] kn kr σ =
  ((attrD σ (g) "flat").bind fun v1 => (ptD (v1)).bind fun i2 => (methD σ i2 "new_var").bind fun m3 => (itemD σ (.d (.str "xyz")) (.d (x))).bind fun y4 => (itemD σ (r) (.d (x))).bind fun y5 => (C (.fn "_law_domain") [.d (y5)] σ).bind fun p6 => (methM C "new_var" (v1) i2 [.d (y4), p6.1] m3 p6.2).bind fun p7 => (cmpD .NotEq p7.2 (p7.1) (.d (x))).bind fun b8 => (if b8 then (fun σ9 => kr (.d (.bool false)) σ9) else (fun σ9 => kn [("x", .d (x)), ("gatherer", g), ("rows", r), ("feed", f), ("script", s)] σ9)) p7.2) := by kernel_rfl
theorem s_law_r {β : Type} (C : Calls) (x : PyData) (g r f s : Val) (kn : Rho → List MO → Option β) (kr : Val → List MO → Option β) (σ : List MO) : blK C glob 40 (fnI (.fn "law")).sc 37 ((fnI (.fn "law")).body.drop 3) [("x", .d (x)), ("gatherer", g), ("rows", r), ("feed", f), ("script", s)] kn kr σ =
  ((itemD σ (r) (.d (.int 0))).bind fun y1 => (iterOf σ (.d (y1))).bind fun r2 => (g_law_r_0 C (r2) [("rows", r)] σ).bind fun q3 => (if okLen q3.1.length then (fun σ4 => (rangeD [.d (.int 2)] σ4).bind fun p5 => toK2 (forG (fnI (.fn "law")).sc (sTg (sAt 4 (fnI (.fn "law")).body)) (p5.1) (evBl (fun ρ => evE C glob 40 (fnI (.fn "law")).sc ρ) (fnI (.fn "law")).sc 35 (sB (sAt 4 (fnI (.fn "law")).body))) lim 0 [("points", .d (.list q3.1)), ("x", .d (x)), ("gatherer", g), ("rows", r), ("feed", f), ("script", s)]) (fun ρ => blK C glob 40 (fnI (.fn "law")).sc 35 ((fnI (.fn "law")).body.drop 5) ρ kn kr) kr p5.2) else noK) q3.2) := by kernel_rfl
theorem s_law_t1 {β : Type} (C : Calls) (u x : PyData) (p g r f s : Val) (kn : Rho → List MO → Option β) (kr : Val → List MO → Option β) (σ : List MO) : blK C glob 40 (fnI (.fn "law")).sc 35 ((sB (sAt 4 (fnI (.fn "law")).body))) [("turn", .d (u)), ("points", p), ("x", .d (x)), ("gatherer", g), ("rows", r), ("feed", f), ("script", s)] kn kr σ =
  ((rangeD [.d (.int 3)] σ).bind fun p1 => (g_law_t1_0 C (p1.1) [("feed", f)] p1.2).bind fun q2 => (if okLen q2.1.length then (fun σ3 => (C (.fn "_law_draw") [f, .d (.int 11)] σ3).bind fun p4 => (binD .Sub p4.2 (p4.1) (.d (.int 5))).bind fun y5 => (C (.fn "_law_is_sum_right") [f, g, p, .d (.list q2.1), .d (y5)] p4.2).bind fun p6 => (truthD (p6.1)).bind fun b7 => (if !b7 then (fun σ8 => kr (.d (.bool false)) σ8) else (fun σ8 => kn [("numbers", .d (.list q2.1)), ("turn", .d (u)), ("points", p), ("x", .d (x)), ("gatherer", g), ("rows", r), ("feed", f), ("script", s)] σ8)) p6.2) else noK) q2.2) := by kernel_rfl
theorem s_law_t2 {β : Type} (C : Calls) (u x : PyData) (n p g r f s : Val) (kn : Rho → List MO → Option β) (kr : Val → List MO → Option β) (σ : List MO) : blK C glob 40 (fnI (.fn "law")).sc 35 ((sB (sAt 4 (fnI (.fn "law")).body))) [("turn", .d (u)), ("numbers", n), ("points", p), ("x", .d (x)), ("gatherer", g), ("rows", r), ("feed", f), ("script", s)] kn kr σ =
  ((rangeD [.d (.int 3)] σ).bind fun p1 => (g_law_t2_0 C (p1.1) [("feed", f)] p1.2).bind fun q2 => (if okLen q2.1.length then (fun σ3 => (C (.fn "_law_draw") [f, .d (.int 11)] σ3).bind fun p4 => (binD .Sub p4.2 (p4.1) (.d (.int 5))).bind fun y5 => (C (.fn "_law_is_sum_right") [f, g, p, .d (.list q2.1), .d (y5)] p4.2).bind fun p6 => (truthD (p6.1)).bind fun b7 => (if !b7 then (fun σ8 => kr (.d (.bool false)) σ8) else (fun σ8 => kn [("numbers", .d (.list q2.1)), ("turn", .d (u)), ("points", p), ("x", .d (x)), ("gatherer", g), ("rows", r), ("feed", f), ("script", s)] σ8)) p6.2) else noK) q2.2) := by kernel_rfl
theorem s_law_e {β : Type} (C : Calls) (u x : PyData) (n p g r f s : Val) (kn : Rho → List MO → Option β) (kr : Val → List MO → Option β) (σ : List MO) : blK C glob 40 (fnI (.fn "law")).sc 35 ((fnI (.fn "law")).body.drop 5) [("numbers", n), ("turn", .d (u)), ("points", p), ("x", .d (x)), ("gatherer", g), ("rows", r), ("feed", f), ("script", s)] kn kr σ =
  (kr (.d (.bool true)) σ) := by kernel_rfl
theorem s_law (C : Calls) (s : Val) (σ : List MO) : runK C glob (fnI (.fn "law")) [s] σ =
  ((sliceD σ (s) none (some 40)).bind fun y1 => (iterOf σ (.d (y1))).bind fun r2 => (g_law_0 C (r2) [] σ).bind fun q3 => (if okLen q3.1.length then (fun σ4 => (builtinD σ4 "len" [s]).bind fun y5 => (cmpD .Eq σ4 (.d (y5)) (.d (.int 0))).bind fun b6 => (builtinD σ4 "int" [.d (.bool b6)]).bind fun y7 => (binD .Mult σ4 (.d (.list [.int 5])) (.d (y7))).bind fun y8 => (binD .Add σ4 (.d (.list q3.1)) (.d (y8))).bind fun y9 => (C (.fn "_law_rows") [.p (σ4).length] (σ4 ++ [.rcd [("cells", y9), ("spot", .int 0)]])).bind fun p10 => (C (.fn "Gatherer") [] p10.2).bind fun p11 => (rangeD [.d (.int 3)] p11.2).bind fun p12 => toK2 (forG (fnI (.fn "law")).sc (sTg (sAt 2 (fnI (.fn "law")).body)) (p12.1) (evBl (fun ρ => evE C glob 40 (fnI (.fn "law")).sc ρ) (fnI (.fn "law")).sc 37 (sB (sAt 2 (fnI (.fn "law")).body))) lim 0 [("gatherer", p11.1), ("rows", p10.1), ("feed", .p (σ4).length), ("script", s)]) (fun ρ => blK C glob 40 (fnI (.fn "law")).sc 37 ((fnI (.fn "law")).body.drop 3) ρ (fun _ σ => some (.d .none, σ)) (fun v σ => some (v, σ))) (fun v σ => some (v, σ)) p12.2) else noK) q3.2) := by kernel_rfl
theorem s_sum_right (C : Calls) (f g ps ns c : Val) (σ : List MO) : runK C glob (fnI (.fn "_law_is_sum_right")) [f, g, ps, ns, c] σ =
  ((C (.fn "_law_draw") [f, .d (.int 3)] σ).bind fun p1 => (binD .Add p1.2 (.d (.int 2)) (p1.1)).bind fun y2 => (iterOf p1.2 (.d (.tuple [.str "linear_le", .str "linear_eq", .str "linear_ne"]))).bind fun r3 => toK2 (forG (fnI (.fn "_law_is_sum_right")).sc (sTg (sAt 1 (fnI (.fn "_law_is_sum_right")).body)) (r3) (evBl (fun ρ => evE C glob 40 (fnI (.fn "_law_is_sum_right")).sc ρ) (fnI (.fn "_law_is_sum_right")).sc 38 (sB (sAt 1 (fnI (.fn "_law_is_sum_right")).body))) lim 0 [("often", .d (y2)), ("feed", f), ("gatherer", g), ("points", ps), ("numbers", ns), ("constant", c)]) (fun ρ => blK C glob 40 (fnI (.fn "_law_is_sum_right")).sc 38 ((fnI (.fn "_law_is_sum_right")).body.drop 2) ρ (fun _ σ => some (.d .none, σ)) (fun v σ => some (v, σ))) (fun v σ => some (v, σ)) p1.2) := by kernel_rfl
end Mine
end
section
open PySem PySem.W PyProof.Rows
set_option Elab.async false
set_option maxRecDepth 10000
namespace Mine
section
variable {β : Type}
/-- a for over given items, with what comes after in hand -/
noncomputable def forL (C : Calls) (sc : Names) (t : Expr) (n : Nat) (b : List Stmt) : List PyData → Rho → (Rho → List MO → Option β) → (Val → List MO → Option β) → List MO → Option β
  | [], ρ, kn, _ => kn ρ
  | x :: xs, ρ, kn, kr => ofK (bindD sc t x ρ) fun ρ' => blK C glob 40 sc n b ρ' (fun ρ'' => forL C sc t n b xs ρ'' kn kr) kr
theorem forG_fix' (C : Calls) (sc : Names) (t : Expr) (n : Nat) (b : List Stmt) (ys : List PyData) (kn : Rho → List MO → Option β) (kr : Val → List MO → Option β) : ∀ (m k : Nat) (ρ : Rho) (σ : List MO), ys.length - k < m →
    toK2 (forG sc t (.fix ys) (evBl (fun ρ => evE C glob 40 sc ρ) sc n b) m k ρ) kn kr σ = forL C sc t n b (ys.drop k) ρ kn kr σ
  | 0, k, ρ, σ, h => absurd h (Nat.not_lt_zero _)
  | m + 1, k, ρ, σ, h => by
    by_cases hk : k < ys.length
    · rw [List.drop_eq_getElem_cons hk]
      have e1 : toK2 (forG sc t (.fix ys) (evBl (fun ρ => evE C glob 40 sc ρ) sc n b) (m + 1) k ρ) kn kr σ = toK2 (do
          let ρ' ← ofO (bindD sc t ys[k] ρ)
          let r ← evBl (fun ρ => evE C glob 40 sc ρ) sc n b ρ'
          match r with
          | (.next, ρ'') => forG sc t (.fix ys) (evBl (fun ρ => evE C glob 40 sc ρ) sc n b) m (k + 1) ρ''
          | (.ret v, ρ'') => pure (.ret v, ρ'')) kn kr σ := by
        unfold toK2
        rw [forG_succ]
        simp only [Src.at, List.getElem?_eq_getElem hk]
        all_goals rfl
      rw [e1, toK2_bind, toK_ofO]
      show ofK _ _ σ = ofK _ _ σ
      unfold ofK
      cases hb : bindD sc t ys[k] ρ with
      | none => rfl
      | some ρ' =>
        show toK2 (_ >>= _) kn kr σ = blK C glob 40 sc n b ρ' _ kr σ
        rw [toK2_bind, blK_eq]
        unfold toK toK2
        cases evBl (fun ρ => evE C glob 40 sc ρ) sc n b ρ' σ with
        | none => rfl
        | some p =>
          obtain ⟨⟨fl, ρ2⟩, σ2⟩ := p
          cases fl with
          | ret v => rfl
          | next => exact forG_fix' C sc t n b ys kn kr m (k + 1) ρ2 σ2 (by (first | lia | omega))
    · have e : ys.drop k = [] := List.drop_eq_nil_of_le (by (first | lia | omega))
      rw [e]
      unfold toK2
      rw [forG_succ]
      simp only [Src.at, List.getElem?_eq_none (Nat.le_of_not_lt hk)]
      rfl
theorem forG_fix (C : Calls) (sc : Names) (t : Expr) (n : Nat) (b : List Stmt) (ys : List PyData) (kn : Rho → List MO → Option β) (kr : Val → List MO → Option β) (ρ : Rho) (σ : List MO) (h : ys.length ≤ 4096) :
    toK2 (forG sc t (.fix ys) (evBl (fun ρ => evE C glob 40 sc ρ) sc n b) lim 0 ρ) kn kr σ = forL C sc t n b ys ρ kn kr σ :=
  forG_fix' C sc t n b ys kn kr lim 0 ρ σ (by unfold lim; (first | lia | omega))
end
/-- a comprehension over given items -/
noncomputable def compL (b : PyData → M (List PyData)) : List PyData → M (List PyData)
  | [], σ => some ([], σ)
  | x :: xs, σ => (b x σ).bind fun p => (compL b xs p.2).bind fun q => some (p.1 ++ q.1, q.2)
theorem compL_cons {b : PyData → M (List PyData)} {x : PyData} {xs : List PyData} {σ : List MO} : compL b (x :: xs) σ = (b x σ).bind fun p => (compL b xs p.2).bind fun q => some (p.1 ++ q.1, q.2) := rfl
theorem loopC_fix' (b : PyData → M (List PyData)) (ys : List PyData) : ∀ (m k : Nat) (σ : List MO), ys.length - k < m → loopC (.fix ys) b m k σ = compL b (ys.drop k) σ
  | 0, k, σ, h => absurd h (Nat.not_lt_zero _)
  | m + 1, k, σ, h => by
    by_cases hk : k < ys.length
    · rw [List.drop_eq_getElem_cons hk, loopC_succ]
      simp only [Src.at, List.getElem?_eq_getElem hk]
      show M.bind _ _ σ = _
      unfold M.bind
      rw [compL_cons]
      cases b ys[k] σ with
      | none => rfl
      | some p =>
        show M.bind _ _ p.2 = _
        unfold M.bind
        rw [loopC_fix' b ys m (k + 1) p.2 (by omega)]
        show _ = (compL b (ys.drop (k + 1)) p.2).bind _
        cases compL b (ys.drop (k + 1)) p.2 <;> rfl
    · have e : ys.drop k = [] := List.drop_eq_nil_of_le (by omega)
      rw [e, loopC_succ]
      simp only [Src.at, List.getElem?_eq_none (Nat.le_of_not_lt hk)]
      rfl
theorem loopC_fix (b : PyData → M (List PyData)) (ys : List PyData) (σ : List MO) (h : ys.length ≤ 4096) : loopC (.fix ys) b lim 0 σ = compL b ys σ :=
  loopC_fix' b ys lim 0 σ (by unfold lim; (first | lia | omega))
/-- a comprehension that changes nothing -/
theorem compL_pure {b : PyData → M (List PyData)} {f : PyData → List PyData} {σ : List MO} : ∀ {xs : List PyData}, (∀ x ∈ xs, b x σ = some (f x, σ)) → compL b xs σ = some (xs.flatMap f, σ)
  | [], _ => rfl
  | x :: xs, h => by
    rw [compL_cons, h x (.head _)]
    show (compL b xs σ).bind _ = _
    rw [compL_pure fun y hy => h y (.tail _ hy)]
    rfl
section
variable {α β : Type} {r : Option β} {σ : List MO}
/- steps along a shallow form -/
theorem ob {o : Option α} {a : α} {f : α → Option β} (h : o = some a) (k : f a = r) : o.bind f = r := by subst h; exact k
theorem iT {b : Bool} {A B : List MO → Option β} (h : b = true) (k : A σ = r) : (if b = true then A else B) σ = r := by rw [if_pos h]; exact k
theorem iF {b : Bool} {A B : List MO → Option β} (h : b = false) (k : B σ = r) : (if b = true then A else B) σ = r := by rw [h]; exact k
theorem iN {b : Bool} {A B : List MO → Option β} (h : b = true) (k : B σ = r) : (if (!b) = true then A else B) σ = r := by rw [h]; exact k
theorem obM {C : Calls} {n c : Str} {a : Val} {i : Nat} {ws : List Val} {p : Val × List MO} {f : Val × List MO → Option β} (h : C (.mth c n) (a :: ws) σ = some p) (k : f p = r) : (methM C n a i ws (some c) σ).bind f = r := ob h k
theorem blK_seg (C : Calls) (G : Str → Option PyData) (f : Nat) (sc : Names) (n : Nat) (kn : Rho → List MO → Option β) (kr : Val → List MO → Option β) : ∀ (j : Nat) (l : List Stmt) (ρ : Rho), blK C G f sc (n + 1 + j) l ρ kn kr = blK C G f sc (n + 1 + j) (List.take j l) ρ (fun ρ' => blK C G f sc (n + 1) (List.drop j l) ρ' kn kr) kr
  | 0, l, ρ => rfl
  | j + 1, [], ρ => rfl
  | j + 1, st :: l, ρ => by
    show stK _ _ _ _ _ _ st ρ _ kr = stK _ _ _ _ _ _ st ρ _ kr
    congr 1
    funext ρ'
    exact blK_seg C G f sc n kn kr j l ρ'
/-- the first j statements, then the rest -/
theorem sg {C : Calls} {f : Nat} {sc : Names} {kn : Rho → List MO → Option β} {kr : Val → List MO → Option β} (n j : Nat) {l : List Stmt} {ρ : Rho} (k : blK C glob f sc (n + 1 + j) (List.take j l) ρ (fun ρ' => blK C glob f sc (n + 1) (List.drop j l) ρ' kn kr) kr σ = r) : blK C glob f sc (n + 1 + j) l ρ kn kr σ = r :=
  (congrFun (blK_seg C glob f sc n kn kr j l ρ) σ).trans k
end
end Mine
end
section
open PySem PySem.W PyProof.Rows
set_option Elab.async false
set_option maxRecDepth 100000
namespace Mine
noncomputable abbrev Cn (n : Nat) : Calls := callAt tabR glob n
theorem k_least (n : Nat) (vs : List Val) : Cn (n + 1) (.fn "least") vs = runK (Cn n) glob (fnI (.fn "least")) vs := (by kernel_rfl : Cn (n + 1) (.fn "least") vs = runF (Cn n) glob (fnI (.fn "least")) vs).trans (runK_eq _ _ _ _)
theorem k_greatest (n : Nat) (vs : List Val) : Cn (n + 1) (.fn "greatest") vs = runK (Cn n) glob (fnI (.fn "greatest")) vs := (by kernel_rfl : Cn (n + 1) (.fn "greatest") vs = runF (Cn n) glob (fnI (.fn "greatest")) vs).trans (runK_eq _ _ _ _)
theorem k_within_figures (n : Nat) (vs : List Val) : Cn (n + 1) (.fn "within_figures") vs = runK (Cn n) glob (fnI (.fn "within_figures")) vs := (by kernel_rfl : Cn (n + 1) (.fn "within_figures") vs = runF (Cn n) glob (fnI (.fn "within_figures")) vs).trans (runK_eq _ _ _ _)
theorem k_is_made (n : Nat) (vs : List Val) : Cn (n + 1) (.fn "is_made") vs = runK (Cn n) glob (fnI (.fn "is_made")) vs := (by kernel_rfl : Cn (n + 1) (.fn "is_made") vs = runF (Cn n) glob (fnI (.fn "is_made")) vs).trans (runK_eq _ _ _ _)
theorem k_sum_of (n : Nat) (vs : List Val) : Cn (n + 1) (.fn "sum_of") vs = runK (Cn n) glob (fnI (.fn "sum_of")) vs := (by kernel_rfl : Cn (n + 1) (.fn "sum_of") vs = runF (Cn n) glob (fnI (.fn "sum_of")) vs).trans (runK_eq _ _ _ _)
theorem k_contrary (n : Nat) (vs : List Val) : Cn (n + 1) (.fn "contrary") vs = runK (Cn n) glob (fnI (.fn "contrary")) vs := (by kernel_rfl : Cn (n + 1) (.fn "contrary") vs = runF (Cn n) glob (fnI (.fn "contrary")) vs).trans (runK_eq _ _ _ _)
theorem k_common_of (n : Nat) (vs : List Val) : Cn (n + 1) (.fn "common_of") vs = runK (Cn n) glob (fnI (.fn "common_of")) vs := (by kernel_rfl : Cn (n + 1) (.fn "common_of") vs = runF (Cn n) glob (fnI (.fn "common_of")) vs).trans (runK_eq _ _ _ _)
theorem k_law_draw (n : Nat) (vs : List Val) : Cn (n + 1) (.fn "_law_draw") vs = runK (Cn n) glob (fnI (.fn "_law_draw")) vs := (by kernel_rfl : Cn (n + 1) (.fn "_law_draw") vs = runF (Cn n) glob (fnI (.fn "_law_draw")) vs).trans (runK_eq _ _ _ _)
theorem k_law_rows (n : Nat) (vs : List Val) : Cn (n + 1) (.fn "_law_rows") vs = runK (Cn n) glob (fnI (.fn "_law_rows")) vs := (by kernel_rfl : Cn (n + 1) (.fn "_law_rows") vs = runF (Cn n) glob (fnI (.fn "_law_rows")) vs).trans (runK_eq _ _ _ _)
theorem k_law_domain (n : Nat) (vs : List Val) : Cn (n + 1) (.fn "_law_domain") vs = runK (Cn n) glob (fnI (.fn "_law_domain")) vs := (by kernel_rfl : Cn (n + 1) (.fn "_law_domain") vs = runF (Cn n) glob (fnI (.fn "_law_domain")) vs).trans (runK_eq _ _ _ _)
theorem k_law_sum (n : Nat) (vs : List Val) : Cn (n + 1) (.fn "_law_sum") vs = runK (Cn n) glob (fnI (.fn "_law_sum")) vs := (by kernel_rfl : Cn (n + 1) (.fn "_law_sum") vs = runF (Cn n) glob (fnI (.fn "_law_sum")) vs).trans (runK_eq _ _ _ _)
theorem k_law_stands (n : Nat) (vs : List Val) : Cn (n + 1) (.fn "_law_stands") vs = runK (Cn n) glob (fnI (.fn "_law_stands")) vs := (by kernel_rfl : Cn (n + 1) (.fn "_law_stands") vs = runF (Cn n) glob (fnI (.fn "_law_stands")) vs).trans (runK_eq _ _ _ _)
theorem k_law_truth_at (n : Nat) (vs : List Val) : Cn (n + 1) (.fn "_law_truth_at") vs = runK (Cn n) glob (fnI (.fn "_law_truth_at")) vs := (by kernel_rfl : Cn (n + 1) (.fn "_law_truth_at") vs = runF (Cn n) glob (fnI (.fn "_law_truth_at")) vs).trans (runK_eq _ _ _ _)
theorem k_law_is_row_right (n : Nat) (vs : List Val) : Cn (n + 1) (.fn "_law_is_row_right") vs = runK (Cn n) glob (fnI (.fn "_law_is_row_right")) vs := (by kernel_rfl : Cn (n + 1) (.fn "_law_is_row_right") vs = runF (Cn n) glob (fnI (.fn "_law_is_row_right")) vs).trans (runK_eq _ _ _ _)
theorem k_law_is_sum_right (n : Nat) (vs : List Val) : Cn (n + 1) (.fn "_law_is_sum_right") vs = runK (Cn n) glob (fnI (.fn "_law_is_sum_right")) vs := (by kernel_rfl : Cn (n + 1) (.fn "_law_is_sum_right") vs = runF (Cn n) glob (fnI (.fn "_law_is_sum_right")) vs).trans (runK_eq _ _ _ _)
theorem k_law (n : Nat) (vs : List Val) : Cn (n + 1) (.fn "law") vs = runK (Cn n) glob (fnI (.fn "law")) vs := (by kernel_rfl : Cn (n + 1) (.fn "law") vs = runF (Cn n) glob (fnI (.fn "law")) vs).trans (runK_eq _ _ _ _)
theorem k_flat0 (n : Nat) (vs : List Val) : Cn (n + 1) (.mth "Flat" "__init__") vs = runK (Cn n) glob (fnI (.mth "Flat" "__init__")) vs := (by kernel_rfl : Cn (n + 1) (.mth "Flat" "__init__") vs = runF (Cn n) glob (fnI (.mth "Flat" "__init__")) vs).trans (runK_eq _ _ _ _)
theorem k_new_var (n : Nat) (vs : List Val) : Cn (n + 1) (.mth "Flat" "new_var") vs = runK (Cn n) glob (fnI (.mth "Flat" "new_var")) vs := (by kernel_rfl : Cn (n + 1) (.mth "Flat" "new_var") vs = runF (Cn n) glob (fnI (.mth "Flat" "new_var")) vs).trans (runK_eq _ _ _ _)
theorem k_post (n : Nat) (vs : List Val) : Cn (n + 1) (.mth "Flat" "post") vs = runK (Cn n) glob (fnI (.mth "Flat" "post")) vs := (by kernel_rfl : Cn (n + 1) (.mth "Flat" "post") vs = runF (Cn n) glob (fnI (.mth "Flat" "post")) vs).trans (runK_eq _ _ _ _)
theorem k_size (n : Nat) (vs : List Val) : Cn (n + 1) (.mth "Flat" "size") vs = runK (Cn n) glob (fnI (.mth "Flat" "size")) vs := (by kernel_rfl : Cn (n + 1) (.mth "Flat" "size") vs = runF (Cn n) glob (fnI (.mth "Flat" "size")) vs).trans (runK_eq _ _ _ _)
theorem k_domain_of (n : Nat) (vs : List Val) : Cn (n + 1) (.mth "Flat" "domain_of") vs = runK (Cn n) glob (fnI (.mth "Flat" "domain_of")) vs := (by kernel_rfl : Cn (n + 1) (.mth "Flat" "domain_of") vs = runF (Cn n) glob (fnI (.mth "Flat" "domain_of")) vs).trans (runK_eq _ _ _ _)
theorem k_gatherer0 (n : Nat) (vs : List Val) : Cn (n + 1) (.mth "Gatherer" "__init__") vs = runK (Cn n) glob (fnI (.mth "Gatherer" "__init__")) vs := (by kernel_rfl : Cn (n + 1) (.mth "Gatherer" "__init__") vs = runF (Cn n) glob (fnI (.mth "Gatherer" "__init__")) vs).trans (runK_eq _ _ _ _)
theorem k_once (n : Nat) (vs : List Val) : Cn (n + 1) (.mth "Gatherer" "once") vs = runK (Cn n) glob (fnI (.mth "Gatherer" "once")) vs := (by kernel_rfl : Cn (n + 1) (.mth "Gatherer" "once") vs = runF (Cn n) glob (fnI (.mth "Gatherer" "once")) vs).trans (runK_eq _ _ _ _)
theorem k_bounds (n : Nat) (vs : List Val) : Cn (n + 1) (.mth "Gatherer" "bounds") vs = runK (Cn n) glob (fnI (.mth "Gatherer" "bounds")) vs := (by kernel_rfl : Cn (n + 1) (.mth "Gatherer" "bounds") vs = runF (Cn n) glob (fnI (.mth "Gatherer" "bounds")) vs).trans (runK_eq _ _ _ _)
theorem k_row (n : Nat) (vs : List Val) : Cn (n + 1) (.mth "Gatherer" "row") vs = runK (Cn n) glob (fnI (.mth "Gatherer" "row")) vs := (by kernel_rfl : Cn (n + 1) (.mth "Gatherer" "row") vs = runF (Cn n) glob (fnI (.mth "Gatherer" "row")) vs).trans (runK_eq _ _ _ _)
theorem k_row_truth (n : Nat) (vs : List Val) : Cn (n + 1) (.mth "Gatherer" "row_truth") vs = runK (Cn n) glob (fnI (.mth "Gatherer" "row_truth")) vs := (by kernel_rfl : Cn (n + 1) (.mth "Gatherer" "row_truth") vs = runF (Cn n) glob (fnI (.mth "Gatherer" "row_truth")) vs).trans (runK_eq _ _ _ _)
theorem k_told_truth (n : Nat) (vs : List Val) : Cn (n + 1) (.mth "Gatherer" "told_truth") vs = runK (Cn n) glob (fnI (.mth "Gatherer" "told_truth")) vs := (by kernel_rfl : Cn (n + 1) (.mth "Gatherer" "told_truth") vs = runF (Cn n) glob (fnI (.mth "Gatherer" "told_truth")) vs).trans (runK_eq _ _ _ _)
end Mine
end
section
open PySem PySem.W PyProof.Rows
set_option Elab.async false
set_option maxRecDepth 100000
namespace Mine.Q
/-- what can be compared -/
noncomputable def Lay (k : Nat) (d : PyData) : Prop := d.canLay0 = true ∧ d.depth ≤ k
theorem Lay.ok {k : Nat} {d : PyData} (h : Lay k d) (hk : k ≤ 64) : eqOk d = true := by
  unfold eqOk SeqAt.shaped
  rw [h.1, Bool.true_and]
  exact decide_eq_true (Nat.le_trans h.2 hk)
theorem Lay.mono {k m : Nat} {d : PyData} (h : Lay k d) (hk : k ≤ m) : Lay m d := ⟨h.1, Nat.le_trans h.2 hk⟩
theorem lay_int (k : Nat) (i : Int) : Lay k (.int i) := ⟨rfl, Nat.zero_le _⟩
theorem lay_bool (k : Nat) (i : Bool) : Lay k (.bool i) := ⟨rfl, Nat.zero_le _⟩
theorem lay_str (k : Nat) {s : Str} (h : PyData.strOk s = true) : Lay k (.str s) := ⟨h, Nat.zero_le _⟩
theorem lay_all {k : Nat} : ∀ {xs : List PyData}, (∀ x ∈ xs, Lay k x) → PyData.canLayAll0 xs = true ∧ PyData.depthAll xs ≤ k
  | [], _ => ⟨rfl, Nat.zero_le _⟩
  | x :: xs, h => by
    have h1 := h x (.head _)
    have h2 := lay_all (xs := xs) fun y hy => h y (.tail _ hy)
    refine ⟨?_, ?_⟩
    · rw [PyData.canLayAll0, h1.1, h2.1]; rfl
    · rw [PyData.depthAll]; exact Nat.max_le.mpr ⟨h1.2, h2.2⟩
theorem lay_tuple {k : Nat} {xs : List PyData} (h : ∀ x ∈ xs, Lay k x) : Lay (k + 1) (.tuple xs) := by
  have := lay_all h
  exact ⟨this.1, by rw [PyData.depth]; (first | lia | omega)⟩
theorem lay_list {k : Nat} {xs : List PyData} (h : ∀ x ∈ xs, Lay k x) : Lay (k + 1) (.list xs) := by
  have := lay_all h
  exact ⟨this.1, by rw [PyData.depth]; omega⟩
theorem lay_ints {k : Nat} {is : List Int} : ∀ x ∈ is.map PyData.int, Lay k x := by
  intro x hx
  obtain ⟨i, _, rfl⟩ := List.mem_map.mp hx
  exact lay_int k i
theorem lay_bools {k : Nat} {is : List Bool} : ∀ x ∈ is.map PyData.bool, Lay k x := by
  intro x hx
  obtain ⟨i, _, rfl⟩ := List.mem_map.mp hx
  exact lay_bool k i
theorem eqv_ints : ∀ (a b : List Int), PyData.eqvAll (a.map .int) (b.map .int) = decide (a = b)
  | [], [] => rfl
  | [], _ :: _ => rfl
  | _ :: _, [] => rfl
  | x :: a, y :: b => by
    rw [List.map, List.map, PyData.eqvAll, eqv_ints a b, PyData.eqv]
    by_cases h : x = y <;> by_cases h2 : a = b <;> simp [h, h2]
theorem eqv_bools : ∀ (a b : List Bool), PyData.eqvAll (a.map .bool) (b.map .bool) = decide (a = b)
  | [], [] => rfl
  | [], _ :: _ => rfl
  | _ :: _, [] => rfl
  | x :: a, y :: b => by
    rw [List.map, List.map, PyData.eqvAll, eqv_bools a b, PyData.eqv]
    by_cases h : x = y <;> by_cases h2 : a = b <;> simp [h, h2]

theorem cmp_eq_int (σ : List MO) (a b : Int) : cmpD .Eq σ (.d (.int a)) (.d (.int b)) = some (a == b) := rfl
theorem cmp_ne_int (σ : List MO) (a b : Int) : cmpD .NotEq σ (.d (.int a)) (.d (.int b)) = some (!(a == b)) := rfl
theorem cmp_eq_bool (σ : List MO) (a b : Bool) : cmpD .Eq σ (.d (.bool a)) (.d (.bool b)) = some (a == b) := rfl
theorem cmp_lt (σ : List MO) (a b : Int) : cmpD .Lt σ (.d (.int a)) (.d (.int b)) = some (decide (a < b)) := rfl
theorem cmp_le (σ : List MO) (a b : Int) : cmpD .LtE σ (.d (.int a)) (.d (.int b)) = some (decide (a ≤ b)) := rfl
theorem cmp_gt (σ : List MO) (a b : Int) : cmpD .Gt σ (.d (.int a)) (.d (.int b)) = some (decide (b < a)) := rfl
theorem cmp_ge (σ : List MO) (a b : Int) : cmpD .GtE σ (.d (.int a)) (.d (.int b)) = some (decide (b ≤ a)) := rfl
theorem cmp_eq (σ : List MO) {x y : PyData} {k m : Nat} (hx : Lay k x) (hy : Lay m y) (hk : k ≤ 64) (hm : m ≤ 64) : cmpD .Eq σ (.d x) (.d y) = some (PyData.eqv x y) := by
  show (if eqOk x && eqOk y then _ else _) = _
  rw [hx.ok hk, hy.ok hm]; rfl
theorem cmp_ne (σ : List MO) {x y : PyData} {k m : Nat} (hx : Lay k x) (hy : Lay m y) (hk : k ≤ 64) (hm : m ≤ 64) : cmpD .NotEq σ (.d x) (.d y) = some (!PyData.eqv x y) := by
  show (if eqOk x && eqOk y then _ else _) = _
  rw [hx.ok hk, hy.ok hm]; rfl
theorem bin_add (σ : List MO) (a b : Int) : binD .Add σ (.d (.int a)) (.d (.int b)) = some (.int (a + b)) := rfl
theorem bin_sub (σ : List MO) (a b : Int) : binD .Sub σ (.d (.int a)) (.d (.int b)) = some (.int (a - b)) := rfl
noncomputable def Sm (a : Int) : Prop := -1000000 ≤ a ∧ a ≤ 1000000
theorem Sm.ok {a : Int} (h : Sm a) : okInt a = true := by
  obtain ⟨h1, h2⟩ := h
  unfold okInt
  rw [decide_eq_true (by omega : -(2 : Int) ^ 40 < a), decide_eq_true (by omega : a < (2 : Int) ^ 40)]; rfl
theorem bin_mul (σ : List MO) {a b : Int} (ha : Sm a) (hb : Sm b) : binD .Mult σ (.d (.int a)) (.d (.int b)) = some (.int (a * b)) := by
  show (if okInt a && okInt b then _ else _) = _
  rw [ha.ok, hb.ok]; rfl
theorem bin_div (σ : List MO) {a b : Int} (ha : Sm a) (hb : Sm b) (h0 : b ≠ 0) : binD .FloorDiv σ (.d (.int a)) (.d (.int b)) = some (.int (a.fdiv b)) := by
  show (if okInt a && okInt b && b != 0 then _ else _) = _
  rw [ha.ok, hb.ok, bne_iff_ne.mpr h0]; rfl
theorem bin_mod (σ : List MO) (a : Int) {b : Int} (h0 : b ≠ 0) : binD .Mod σ (.d (.int a)) (.d (.int b)) = some (.int (a.fmod b)) := by
  show (if b != 0 then _ else _) = _
  rw [bne_iff_ne.mpr h0]; rfl
theorem b_min (σ : List MO) (a b : Int) : builtinD σ "min" [.d (.tuple [.int a, .int b])] = some (.int (if b < a then b else a)) := by kernel_rfl
theorem b_max (σ : List MO) (a b : Int) : builtinD σ "max" [.d (.tuple [.int a, .int b])] = some (.int (if a < b then b else a)) := by kernel_rfl
theorem b_max2 (σ : List MO) (a b : Int) : builtinD σ "max" [.d (.int a), .d (.int b)] = some (.int (if a < b then b else a)) := by kernel_rfl
theorem b_abs (σ : List MO) (a : Int) : builtinD σ "abs" [.d (.int a)] = some (.int a.natAbs) := by kernel_rfl
theorem okLen_of {n : Nat} (h : n ≤ 4096) : okLen n = true := decide_eq_true h
theorem b_tuple (σ : List MO) {xs : List PyData} (h : xs.length ≤ 4096) : builtinD σ "tuple" [.d (.list xs)] = some (.tuple xs) := by
  have e : builtinD σ "tuple" [.d (.list xs)] = if okLen xs.length then some (.tuple xs) else none := by kernel_rfl
  rw [e, okLen_of h]; rfl
theorem b_list (σ : List MO) {xs : List PyData} (h : xs.length ≤ 4096) : builtinD σ "list" [.d (.tuple xs)] = some (.list xs) := by
  have e : builtinD σ "list" [.d (.tuple xs)] = if okLen xs.length then some (.list xs) else none := by kernel_rfl
  rw [e, okLen_of h]; rfl
theorem b_lenl (σ : List MO) {xs : List PyData} (h : xs.length ≤ 4096) : builtinD σ "len" [.d (.list xs)] = some (.int xs.length) := by
  have e : builtinD σ "len" [.d (.list xs)] = if okLen xs.length then some (.int xs.length) else none := by kernel_rfl
  rw [e, okLen_of h]; rfl
theorem b_lent (σ : List MO) {xs : List PyData} (h : xs.length ≤ 4096) : builtinD σ "len" [.d (.tuple xs)] = some (.int xs.length) := by
  have e : builtinD σ "len" [.d (.tuple xs)] = if okLen xs.length then some (.int xs.length) else none := by kernel_rfl
  rw [e, okLen_of h]; rfl
theorem allInts_map : ∀ (is : List Int), allInts (is.map .int) = some is
  | [] => rfl
  | i :: is => by show (allInts (is.map .int)).map (i :: ·) = some (i :: is); rw [allInts_map is]; rfl
theorem b_sum (σ : List MO) (is : List Int) : builtinD σ "sum" [.d (.list (is.map .int))] = some (.int is.sum) := by
  have e : ∀ xs, builtinD σ "sum" [.d (.list xs)] = match allInts xs with
      | some ns => some (.int ns.sum)
      | none => none := fun xs => by kernel_rfl
  rw [e, allInts_map]
theorem it_t (σ : List MO) {xs : List PyData} (k : Int) (h : xs.length ≤ 4096) : itemD σ (.d (.tuple xs)) (.d (.int k)) = atD xs k := by
  show (if okLen xs.length then atD xs k else none) = _
  rw [okLen_of h]; rfl
theorem it_l (σ : List MO) {xs : List PyData} (k : Int) (h : xs.length ≤ 4096) : itemD σ (.d (.list xs)) (.d (.int k)) = atD xs k := by
  show (if okLen xs.length then atD xs k else none) = _
  rw [okLen_of h]; rfl
theorem at_nat {xs : List PyData} {n : Nat} (h : n < 10000) : atD xs (n : Int) = xs[n]? := by
  unfold atD
  rw [if_neg (by omega), decide_eq_true (by omega : (n : Int) < 2 ^ 40)]
  simp
theorem io_t (σ : List MO) {xs : List PyData} (h : xs.length ≤ 4096) : iterOf σ (.d (.tuple xs)) = some (.fix xs) := by
  show (if okLen xs.length then _ else _) = _
  rw [okLen_of h]; rfl
theorem io_l (σ : List MO) {xs : List PyData} (h : xs.length ≤ 4096) : iterOf σ (.d (.list xs)) = some (.fix xs) := by
  show (if okLen xs.length then _ else _) = _
  rw [okLen_of h]; rfl

/-- rows and domains -/
noncomputable def runStep (acc : List (Int × Int)) (v : Int) : List (Int × Int) := match acc.getLast? with
  | some (a, b) => if b = v - 1 then acc.dropLast ++ [(a, v)] else acc ++ [(v, v)]
  | none => [(v, v)]
noncomputable def runsI (r : List Int) : List (Int × Int) := r.foldl runStep []
noncomputable def pairD (q : Int × Int) : PyData := .tuple [.int q.1, .int q.2]
noncomputable def domD (r : List Int) : PyData := .tuple ((runsI r).map pairD)
noncomputable def truths : PyData := .tuple [.tuple [.int 0, .int 1]]
noncomputable def shapes (l : Int) : List (List Int) := [[l], [l, l + 1], [l, l + 2], [l, l + 3], [l, l + 1, l + 2], [l, l + 1, l + 3], [l, l + 2, l + 3]]
noncomputable def allRows : List (List Int) := shapes (-1) ++ shapes 0 ++ shapes 1
noncomputable def lo (r : List Int) : Int := r.headD 0
noncomputable def hi (r : List Int) : Int := r.getLastD 0

/-- what the state hangs on -/
structure Cx where
  cs : List PyData
  sp : Int
  rw : MO
  a : MO
  b : MO
  c : MO
  r0 : List Int
  r1 : List Int
  r2 : List Int
noncomputable def Cx.row (x : Cx) : Nat → List Int
  | 0 => x.r0
  | 1 => x.r1
  | _ => x.r2
structure Cx.Ok (x : Cx) : Prop where
  h0 : x.r0 ∈ allRows
  h1 : x.r1 ∈ allRows
  h2 : x.r2 ∈ allRows
theorem Cx.Ok.row {x : Cx} (h : x.Ok) : ∀ n, x.row n ∈ allRows
  | 0 => h.h0
  | 1 => h.h1
  | _ + 2 => h.h2
noncomputable def Fd (cs : List PyData) (sp : Int) : MO := .rcd [("cells", .list cs), ("spot", .int sp)]
noncomputable def gathO : MO := .inst "Gatherer" [("flat", .p 3), ("made", .p 6)]
noncomputable def flatO : MO := .inst "Flat" [("vars", .p 4), ("tolds", .p 5), ("goal", .d (.tuple [.str "satisfy", .none])), ("shown", .d (.tuple []))]
noncomputable def st (x : Cx) (vs ts : List PyData) (md : List (TKey × Int)) : List MO :=
  [Fd x.cs x.sp, x.rw, gathO, flatO, .list vs, .list ts, .made md, x.a, x.b, x.c]
noncomputable def keyD (k : TKey) : PyData := .tuple [.str k.kind, .tuple (k.cs.map .int), .tuple (k.xs.map .int), .int k.c]
theorem tkD_eq (k : TKey) : tkD k = .tuple [.str k.tag, keyD k] := rfl
noncomputable def varK (q : TKey × Nat) : PyData := .tuple [.str (("#" : Str) ++ intText (q.2 + 3)), truths]
noncomputable def toldK (q : TKey × Nat) : PyData := .tuple [.str "reif", .int ((q.2 + 3 : Nat) : Int), keyD q.1]
noncomputable def madeKv (q : TKey × Nat) : TKey × Int := (q.1, ((q.2 + 3 : Nat) : Int))
noncomputable def vars0 (x : Cx) : List PyData := [.tuple [.str ⟨#[120]⟩, domD x.r0], .tuple [.str ⟨#[121]⟩, domD x.r1], .tuple [.str ⟨#[122]⟩, domD x.r2]]
noncomputable def varsD (x : Cx) (K : List TKey) : List PyData := vars0 x ++ K.zipIdx.map varK
noncomputable def toldsD (K : List TKey) : List PyData := K.zipIdx.map toldK
noncomputable def madeK (K : List TKey) : List (TKey × Int) := K.zipIdx.map madeKv
noncomputable abbrev S (x : Cx) (K : List TKey) : List MO := st x (varsD x K) (toldsD K) (madeK K)

section
variable (x : Cx) (vs ts : List PyData) (md : List (TKey × Int))
theorem a_flat : attrD (st x vs ts md) (.p 2) "flat" = some (.p 3) := by kernel_rfl
theorem a_made : attrD (st x vs ts md) (.p 2) "made" = some (.p 6) := by kernel_rfl
theorem a_vars : attrD (st x vs ts md) (.p 3) "vars" = some (.p 4) := by kernel_rfl
theorem a_tolds : attrD (st x vs ts md) (.p 3) "tolds" = some (.p 5) := by kernel_rfl
theorem m_dom : methD (st x vs ts md) 3 "domain_of" = some (some ("Flat" : Str)) := by kernel_rfl
theorem m_new : methD (st x vs ts md) 3 "new_var" = some (some ("Flat" : Str)) := by kernel_rfl
theorem m_size : methD (st x vs ts md) 3 "size" = some (some ("Flat" : Str)) := by kernel_rfl
theorem m_post : methD (st x vs ts md) 3 "post" = some (some ("Flat" : Str)) := by kernel_rfl
theorem m_bounds : methD (st x vs ts md) 2 "bounds" = some (some ("Gatherer" : Str)) := by kernel_rfl
theorem m_row : methD (st x vs ts md) 2 "row" = some (some ("Gatherer" : Str)) := by kernel_rfl
theorem m_rt : methD (st x vs ts md) 2 "row_truth" = some (some ("Gatherer" : Str)) := by kernel_rfl
theorem m_tt : methD (st x vs ts md) 2 "told_truth" = some (some ("Gatherer" : Str)) := by kernel_rfl
theorem m_once : methD (st x vs ts md) 2 "once" = some (some ("Gatherer" : Str)) := by kernel_rfl
theorem m_ap4 : methD (st x vs ts md) 4 "append" = some none := by kernel_rfl
theorem m_ap5 : methD (st x vs ts md) 5 "append" = some none := by kernel_rfl
theorem pt (i : Nat) : ptD (.p i) = some i := rfl
theorem mm_some (C : Calls) (n : Str) (a : Val) (i : Nat) (ws : List Val) (c : Str) : methM C n a i ws (some c) = C (.mth c n) (a :: ws) := rfl
theorem ap4 (C : Calls) (n : Str) (a : Val) (d : PyData) (h : vs.length ≤ 4096) : methM C n a 4 [.d d] none (st x vs ts md) = some (.d .none, st x (vs ++ [d]) ts md) := by
  have e : methM C n a 4 [.d d] none (st x vs ts md) = if okLen vs.length then some (.d .none, st x (vs ++ [d]) ts md) else none := by kernel_rfl
  rw [e, okLen_of h]; rfl
theorem ap5 (C : Calls) (n : Str) (a : Val) (d : PyData) (h : ts.length ≤ 4096) : methM C n a 5 [.d d] none (st x vs ts md) = some (.d .none, st x vs (ts ++ [d]) md) := by
  have e : methM C n a 5 [.d d] none (st x vs ts md) = if okLen ts.length then some (.d .none, st x vs (ts ++ [d]) md) else none := by kernel_rfl
  rw [e, okLen_of h]; rfl
theorem len4 (h : vs.length ≤ 4096) : builtinD (st x vs ts md) "len" [.p 4] = some (.int vs.length) := by
  have e : builtinD (st x vs ts md) "len" [.p 4] = if okLen vs.length then some (.int vs.length) else none := by kernel_rfl
  rw [e, okLen_of h]; rfl
theorem item4 (k : Int) (h : vs.length ≤ 4096) : itemD (st x vs ts md) (.p 4) (.d (.int k)) = atD vs k := by
  have e : itemD (st x vs ts md) (.p 4) (.d (.int k)) = if okLen vs.length then atD vs k else none := by kernel_rfl
  rw [e, okLen_of h]; rfl
theorem iter5 : iterOf (st x vs ts md) (.p 5) = some (.ptr 5) := by kernel_rfl
end
theorem lookup_none {K : List TKey} {k : TKey} : ∀ {n : Nat}, k ∉ K → ((K.zipIdx n).map madeKv).lookup k = none := by
  induction K with
  | nil => intro n _; rfl
  | cons a K ih =>
    intro n h
    rw [List.zipIdx_cons, List.map, List.lookup]
    have : (k == a) = false := by
      rw [beq_eq_false_iff_ne]; exact fun e => h (e ▸ .head _)
    show (match k == a with | true => _ | false => _) = _
    rw [this]
    exact ih fun e => h (.tail _ e)
theorem lookup_some {K : List TKey} {k : TKey} : ∀ {n : Nat}, k ∈ K → ((K.zipIdx n).map madeKv).lookup k = some (((n + K.idxOf k + 3 : Nat)) : Int) := by
  induction K with
  | nil => intro n h; cases h
  | cons a K ih =>
    intro n h
    rw [List.zipIdx_cons, List.map, List.lookup]
    show (match k == a with | true => _ | false => _) = _
    by_cases e : k = a
    · subst e
      simp [madeKv, List.idxOf_cons]
    · have h1 : (k == a) = false := beq_eq_false_iff_ne.mpr e
      have h2 : (a == k) = false := beq_eq_false_iff_ne.mpr fun h => e h.symm
      rw [h1]
      show _ = _
      rw [ih (by cases h with | head => exact absurd rfl e | tail _ h => exact h), List.idxOf_cons, h2]
      simp; (first | lia | omega)
end Mine.Q
end
section
open PySem PySem.W PyProof.Rows
set_option Elab.async false
set_option maxRecDepth 100000
set_option linter.unusedSimpArgs false
namespace Mine.Q
theorem plainV_i {i : Int} : plainV (.d (.int i)) = some () := rfl
theorem plainV_n : plainV (.d .none) = some () := rfl
theorem rows_all {P : List Int → Prop} (h : ∀ l, l = -1 ∨ l = 0 ∨ l = 1 → P [l] ∧ P [l, l + 1] ∧ P [l, l + 2] ∧ P [l, l + 3] ∧ P [l, l + 1, l + 2] ∧ P [l, l + 1, l + 3] ∧ P [l, l + 2, l + 3]) : ∀ r ∈ allRows, P r := by
  intro r hr
  have : ∃ l, (l = -1 ∨ l = 0 ∨ l = 1) ∧ r ∈ shapes l := by
    unfold allRows at hr
    rw [List.mem_append, List.mem_append] at hr
    rcases hr with (hr | hr) | hr
    · exact ⟨_, .inl rfl, hr⟩
    · exact ⟨_, .inr (.inl rfl), hr⟩
    · exact ⟨_, .inr (.inr rfl), hr⟩
  obtain ⟨l, hl, hr⟩ := this
  obtain ⟨h1, h2, h3, h4, h5, h6, h7⟩ := h l hl
  unfold shapes at hr
  simp only [List.mem_cons, List.not_mem_nil, or_false] at hr
  rcases hr with rfl | rfl | rfl | rfl | rfl | rfl | rfl <;> assumption
theorem c_least (n : Nat) (σ : List MO) : ∀ r ∈ allRows, Cn (n + 1) (.fn "least") [.d (domD r)] σ = some (.d (.int (lo r)), σ) := by
  refine rows_all fun l hl => ?_
  rcases hl with rfl | rfl | rfl <;> (refine ⟨?_, ?_, ?_, ?_, ?_, ?_, ?_⟩ <;> (rw [k_least, s_least]; kernel_rfl))
theorem c_greatest (n : Nat) (σ : List MO) : ∀ r ∈ allRows, Cn (n + 1) (.fn "greatest") [.d (domD r)] σ = some (.d (.int (hi r)), σ) := by
  refine rows_all fun l hl => ?_
  rcases hl with rfl | rfl | rfl <;> (refine ⟨?_, ?_, ?_, ?_, ?_, ?_, ?_⟩ <;> (rw [k_greatest, s_greatest]; kernel_rfl))
theorem vars_len (x : Cx) (K : List TKey) : (varsD x K).length = K.length + 3 := by
  unfold varsD; simp [vars0]
theorem c_dom (n : Nat) (x : Cx) (K : List TKey) (hK : K.length ≤ 1000) {v : Nat} (hv : v < 3) : Cn (n + 1) (.mth "Flat" "domain_of") [.p 3, .d (.int (v : Int))] (S x K) = some (.d (domD (x.row v)), S x K) := by
  have hl : (varsD x K).length ≤ 4096 := by rw [vars_len]; (first | lia | omega)
  rw [k_domain_of, s_domain_of]
  simp only [a_flat, a_made, a_vars, a_tolds, m_dom, m_new, m_size, m_post, m_bounds, m_row, m_rt, m_tt, m_once, m_ap4, m_ap5, pt, mm_some, Option.bind_some, cmp_eq_int, cmp_ne_int, cmp_eq_bool, cmp_lt, cmp_le, cmp_gt, cmp_ge, bin_add, bin_sub, b_min, b_max, b_max2, b_abs, exK, plainV_i, plainV_n, ↓reduceIte, Bool.false_eq_true, Bool.not_true, Bool.not_false, item4 _ _ _ _ _ hl, at_nat (show v < 10000 by (first | lia | omega))]
  match v, hv with
  | 0, _ => kernel_rfl
  | 1, _ => kernel_rfl
  | 2, _ => kernel_rfl
theorem c_dom3 (n : Nat) (x : Cx) (K : List TKey) (hK : K.length ≤ 1000) {i : Nat} (hi : i < K.length) : Cn (n + 1) (.mth "Flat" "domain_of") [.p 3, .d (.int ((i + 3 : Nat) : Int))] (S x K) = some (.d truths, S x K) := by
  have hl : (varsD x K).length ≤ 4096 := by rw [vars_len]; (first | lia | omega)
  rw [k_domain_of, s_domain_of]
  simp only [a_flat, a_made, a_vars, a_tolds, m_dom, m_new, m_size, m_post, m_bounds, m_row, m_rt, m_tt, m_once, m_ap4, m_ap5, pt, mm_some, Option.bind_some, cmp_eq_int, cmp_ne_int, cmp_eq_bool, cmp_lt, cmp_le, cmp_gt, cmp_ge, bin_add, bin_sub, b_min, b_max, b_max2, b_abs, exK, plainV_i, plainV_n, ↓reduceIte, Bool.false_eq_true, Bool.not_true, Bool.not_false, item4 _ _ _ _ _ hl, at_nat (show i + 3 < 10000 by (first | lia | omega))]
  have e : (varsD x K)[i + 3]? = some (varK (K[i], i)) := by
    unfold varsD vars0
    show (K.zipIdx.map varK)[i]? = _
    rw [List.getElem?_map, List.getElem?_zipIdx, List.getElem?_eq_getElem hi]
    simp
  rw [e]
  kernel_rfl
theorem c_size (n : Nat) (x : Cx) (K : List TKey) (hK : K.length ≤ 1000) : Cn (n + 1) (.mth "Flat" "size") [.p 3] (S x K) = some (.d (.int ((K.length + 3 : Nat) : Int)), S x K) := by
  have hl : (varsD x K).length ≤ 4096 := by rw [vars_len]; (first | lia | omega)
  rw [k_size, s_size]
  simp only [a_flat, a_made, a_vars, a_tolds, m_dom, m_new, m_size, m_post, m_bounds, m_row, m_rt, m_tt, m_once, m_ap4, m_ap5, pt, mm_some, Option.bind_some, cmp_eq_int, cmp_ne_int, cmp_eq_bool, cmp_lt, cmp_le, cmp_gt, cmp_ge, bin_add, bin_sub, b_min, b_max, b_max2, b_abs, exK, plainV_i, plainV_n, ↓reduceIte, Bool.false_eq_true, Bool.not_true, Bool.not_false, len4 _ _ _ _ hl, vars_len]
theorem c_post (n : Nat) (x : Cx) (vs ts : List PyData) (md : List (TKey × Int)) (t : PyData) (h : ts.length ≤ 4096) : Cn (n + 1) (.mth "Flat" "post") [.p 3, .d t] (st x vs ts md) = some (.d .none, st x vs (ts ++ [t]) md) := by
  rw [k_post, s_post]
  simp only [a_flat, a_made, a_vars, a_tolds, m_dom, m_new, m_size, m_post, m_bounds, m_row, m_rt, m_tt, m_once, m_ap4, m_ap5, pt, mm_some, Option.bind_some, cmp_eq_int, cmp_ne_int, cmp_eq_bool, cmp_lt, cmp_le, cmp_gt, cmp_ge, bin_add, bin_sub, b_min, b_max, b_max2, b_abs, exK, plainV_i, plainV_n, ↓reduceIte, Bool.false_eq_true, Bool.not_true, Bool.not_false, ap5 _ _ _ _ _ _ _ _ h]
theorem c_new (n : Nat) (x : Cx) (vs ts : List PyData) (md : List (TKey × Int)) (a b : PyData) (h : vs.length ≤ 4000) : Cn (n + 1) (.mth "Flat" "new_var") [.p 3, .d a, .d b] (st x vs ts md) = some (.d (.int vs.length), st x (vs ++ [.tuple [a, b]]) ts md) := by
  rw [k_new_var, s_new_var]
  have hl : (vs ++ [PyData.tuple [a, b]]).length ≤ 4096 := by simp; (first | lia | omega)
  have e : allD [.d a, .d b] = some [a, b] := rfl
  have o : okLen [a, b].length = true := by kernel_rfl
  simp only [a_flat, a_made, a_vars, a_tolds, m_dom, m_new, m_size, m_post, m_bounds, m_row, m_rt, m_tt, m_once, m_ap4, m_ap5, pt, mm_some, Option.bind_some, cmp_eq_int, cmp_ne_int, cmp_eq_bool, cmp_lt, cmp_le, cmp_gt, cmp_ge, bin_add, bin_sub, b_min, b_max, b_max2, b_abs, exK, plainV_i, plainV_n, ↓reduceIte, Bool.false_eq_true, Bool.not_true, Bool.not_false, e, o, if_true, ap4 _ _ _ _ _ _ _ _ (show vs.length ≤ 4096 by (first | lia | omega)), len4 _ _ _ _ hl]
  simp
theorem c_within (n : Nat) (a : Nat) (h : a < 100) (σ : List MO) : Cn (n + 1) (.fn "within_figures") [.d (.int (a : Int))] σ = some (.d (.int a), σ) := by
  rw [k_within_figures, s_within]
  have e : binD .Pow σ (.d (.int 10)) (.d (.int 1000)) = some (.int (10 ^ 1000)) := by kernel_rfl
  have c : decide ((10 : Int) ^ 1000 ≤ (((a : Int)).natAbs : Int)) = false := by
    rw [Int.natAbs_natCast]
    have : ((10 : Int) ^ 1000) > 100 := by decide +kernel
    exact decide_eq_false (by omega)
  simp only [a_flat, a_made, a_vars, a_tolds, m_dom, m_new, m_size, m_post, m_bounds, m_row, m_rt, m_tt, m_once, m_ap4, m_ap5, pt, mm_some, Option.bind_some, cmp_eq_int, cmp_ne_int, cmp_eq_bool, cmp_lt, cmp_le, cmp_gt, cmp_ge, bin_add, bin_sub, b_min, b_max, b_max2, b_abs, exK, plainV_i, plainV_n, ↓reduceIte, Bool.false_eq_true, Bool.not_true, Bool.not_false, e, c]
theorem c_is_made_sum (n : Nat) (ts : PyData) (c : PyData) (σ : List MO) : Cn (n + 1) (.fn "is_made") [.d (.tuple [.str "sum", ts, c]), .d (.str "sum")] σ = some (.d (.bool true), σ) := by
  rw [k_is_made, s_is_made]; kernel_rfl
theorem c_sum_of (n : Nat) (ts : PyData) (c : PyData) (σ : List MO) : Cn (n + 2) (.fn "sum_of") [.d (.tuple [.str "sum", ts, c])] σ = some (.d (.tuple [.str "sum", ts, c]), σ) := by
  rw [k_sum_of, s_sum_of, c_is_made_sum]; kernel_rfl
theorem c_contrary_b (n : Nat) (b : Bool) (σ : List MO) : Cn (n + 1) (.fn "contrary") [.d (.bool b)] σ = some (.d (.bool (!b)), σ) := by
  rw [k_contrary, s_contrary]; kernel_rfl
theorem c_contrary_t (n : Nat) (w x : PyData) (b : Bool) (σ : List MO) : Cn (n + 1) (.fn "contrary") [.d (.tuple [w, x, .bool b])] σ = some (.d (.tuple [.str "bit", x, .bool (!b)]), σ) := by
  rw [k_contrary, s_contrary]; kernel_rfl
inductive Kd where
  | le | eq | ne
  deriving DecidableEq
noncomputable def Kd.s : Kd → Str
  | .le => "linear_le"
  | .eq => "linear_eq"
  | .ne => "linear_ne"
noncomputable def stands : Kd → Int → Bool
  | .le, v => decide (v ≤ 0)
  | .eq, v => v == 0
  | .ne, v => !(v == 0)
theorem c_stands (n : Nat) (k : Kd) (v : Int) (σ : List MO) : Cn (n + 1) (.fn "_law_stands") [.d (.str k.s), .d (.int v)] σ = some (.d (.bool (stands k v)), σ) := by
  rw [k_law_stands, s_stands]
  cases k
  · kernel_rfl
  · have : stands .eq v = ((v == 0) == true) := by cases h : v == 0 <;> simp [stands, h]
    rw [this]; kernel_rfl
  · have : stands .ne v = ((v == 0) == false) := by cases h : v == 0 <;> simp [stands, h]
    rw [this]; kernel_rfl
end Mine.Q
end
section
open PySem PySem.W PyProof.Rows
set_option Elab.async false
set_option maxRecDepth 100000
set_option linter.unusedSimpArgs false
namespace Mine.Q
theorem forL_cons {β : Type} (C : Calls) (sc : Names) (t : Expr) (n : Nat) (b : List Stmt) (x : PyData) (xs : List PyData) (ρ : Rho) (kn : Rho → List MO → Option β) (kr : Val → List MO → Option β) (σ : List MO) : forL C sc t n b (x :: xs) ρ kn kr σ = (bindD sc t x ρ).bind fun ρ' => blK C glob 40 sc n b ρ' (fun ρ'' => forL C sc t n b xs ρ'' kn kr) kr σ := rfl
theorem forL_nil {β : Type} (C : Calls) (sc : Names) (t : Expr) (n : Nat) (b : List Stmt) (ρ : Rho) (kn : Rho → List MO → Option β) (kr : Val → List MO → Option β) (σ : List MO) : forL C sc t n b [] ρ kn kr σ = kn ρ σ := rfl
/-- the keys that are made -/
structure KOk (k : TKey) : Prop where
  tag : k.tag = "reif"
  kind : k.kind = "linear_le" ∨ k.kind = "linear_eq"
  cs : k.cs.length ≤ 3
  xs : k.xs.length ≤ 3
theorem keyOf_tk {k : TKey} (h : KOk k) : keyOf? (tkD k) = some k := by
  obtain ⟨t, kd, cs, xs, c⟩ := k
  obtain ⟨h1, h2, h3, h4⟩ := h
  dsimp only at h1 h2 h3 h4
  subst h1
  have e : ∀ s : Str, (s = "linear_le" ∨ s = "linear_eq") → PyData.strOk s = true := by
    intro s hs
    rcases hs with rfl | rfl <;> decide +kernel
  have e0 : PyData.strOk ("reif" : Str) = true := by decide +kernel
  have e1 : keyOf? (tkD ⟨"reif", kd, cs, xs, c⟩) = (allInts (cs.map .int)).bind fun cs => (allInts (xs.map .int)).bind fun xs => gd (decide (cs.length ≤ 64) && decide (xs.length ≤ 64) && PyData.strOk "reif" && PyData.strOk kd) ⟨"reif", kd, cs, xs, c⟩ := rfl
  rw [e1, allInts_map, allInts_map, Option.bind_some, Option.bind_some, e _ h2, e0, decide_eq_true (by (first | lia | omega) : cs.length ≤ 64), decide_eq_true (by (first | lia | omega) : xs.length ≤ 64)]
  rfl
theorem ni6 (x : Cx) (vs ts : List PyData) (md : List (TKey × Int)) {k : TKey} (h : KOk k) : cmpD .NotIn (st x vs ts md) (.d (tkD k)) (.p 6) = some (!(md.lookup k).isSome) := by
  have e : cmpD .NotIn (st x vs ts md) (.d (tkD k)) (.p 6) = (keyOf? (tkD k)).bind fun k => some (!(md.lookup k).isSome) := by kernel_rfl
  rw [e, keyOf_tk h]; rfl
theorem item6 (x : Cx) (vs ts : List PyData) (md : List (TKey × Int)) {k : TKey} (h : KOk k) : itemD (st x vs ts md) (.p 6) (.d (tkD k)) = (md.lookup k).map .int := by
  have e : itemD (st x vs ts md) (.p 6) (.d (tkD k)) = (keyOf? (tkD k)).bind fun k => (md.lookup k).map .int := by kernel_rfl
  rw [e, keyOf_tk h]; rfl
theorem sto6 (x : Cx) (vs ts : List PyData) (md : List (TKey × Int)) {k : TKey} (h : KOk k) (n : Int) (h1 : md.lookup k = none) (h2 : md.length ≤ 512) : storeItem (st x vs ts md) (.p 6) (.d (tkD k)) (.d (.int n)) = some (st x vs ts (md ++ [(k, n)])) := by
  have e : storeItem (st x vs ts md) (.p 6) (.d (tkD k)) (.d (.int n)) = ((keyOf? (tkD k)).bind fun k => gd ((md.lookup k).isNone && decide (md.length ≤ 512)) (MO.made (md ++ [(k, n)]))).bind fun m' => some ((st x vs ts md).set 6 m') := by kernel_rfl
  rw [e, keyOf_tk h, Option.bind_some, h1, decide_eq_true h2]
  rfl
noncomputable def put (K : List TKey) (k : TKey) : List TKey := if k ∈ K then K else K ++ [k]
noncomputable def ix (K : List TKey) (k : TKey) : Nat := (put K k).idxOf k + 3
theorem zip_snoc {α : Type} (f : TKey × Nat → α) (K : List TKey) (k : TKey) : (K ++ [k]).zipIdx.map f = K.zipIdx.map f ++ [f (k, K.length)] := by
  rw [List.zipIdx_append, List.map_append]; simp
theorem made_len (K : List TKey) : (madeK K).length = K.length := by unfold madeK; simp
theorem idx_snoc {K : List TKey} {k : TKey} (h : k ∉ K) : (K ++ [k]).idxOf k = K.length := by
  rw [List.idxOf_append, if_neg h]; simp
theorem c_once_old (n : Nat) (x : Cx) (K : List TKey) {k : TKey} (hk : KOk k) (h : k ∈ K) : Cn (n + 1) (.mth "Gatherer" "once") [.p 2, .d (tkD k), .d truths] (S x K) = some (.d (.tuple [.int (ix K k : Nat), .bool false]), S x K) := by
  have e : (madeK K).lookup k = some ((ix K k : Nat) : Int) := by
    unfold madeK ix put
    rw [lookup_some h, if_pos h, Nat.zero_add]
  have e1 := ni6 x (varsD x K) (toldsD K) (madeK K) hk
  have e2 := item6 x (varsD x K) (toldsD K) (madeK K) hk
  rw [e] at e1 e2
  rw [k_once, s_once]
  exact ob (a_made x _ _ _) (ob e1 (iF rfl (ob (a_made x _ _ _) (ob e2 rfl))))
theorem c_once_new (n : Nat) (x : Cx) (K : List TKey) {k : TKey} (hk : KOk k) (h : k ∉ K) (hK : K.length ≤ 500) : Cn (n + 2) (.mth "Gatherer" "once") [.p 2, .d (tkD k), .d truths] (S x K) = some (.d (.tuple [.int (ix K k : Nat), .bool true]), st x (varsD x (put K k)) (toldsD K) (madeK (put K k))) := by
  have e : (madeK K).lookup k = none := lookup_none h
  have e2 : (madeK (K ++ [k])).lookup k = some ((ix K k : Nat) : Int) := by
    unfold madeK ix put
    rw [lookup_some (by simp), if_neg h, Nat.zero_add]
  have e3 : madeK (K ++ [k]) = madeK K ++ [(k, ((K.length + 3 : Nat) : Int))] := zip_snoc madeKv K k
  have e4 : varsD x (K ++ [k]) = varsD x K ++ [varK (k, K.length)] := by unfold varsD; rw [zip_snoc, List.append_assoc]
  have e5 : put K k = K ++ [k] := if_neg h
  rw [e5, k_once, s_once]
  have i1 : iterOf (S x K) (.d truths) = some (.fix [.tuple [.int 0, .int 1]]) := by kernel_rfl
  have b1 : bindD (fnI (.mth "Gatherer" "once")).sc (sTg (sAt 0 (sB (sAt 1 (fnI (.mth "Gatherer" "once")).body)))) (.tuple [.int 0, .int 1]) [("is_new", .d (.bool true)), ("self", .p 2), ("key", .d (tkD k)), ("domain", .d truths)] = some ([("high", .d (.int 1)), ("low", .d (.int 0)), ("is_new", .d (.bool true)), ("self", .p 2), ("key", .d (tkD k)), ("domain", .d truths)] : Rho) := by kernel_rfl
  have w1 : Cn (n + 1) (.fn "within_figures") [.d (.int 1)] (S x K) = some (.d (.int 1), S x K) := c_within n 1 (by (first | lia | omega)) _
  have nn : (decide (0 ≤ ((K.length + 3 : Nat) : Int)) && decide (((K.length + 3 : Nat) : Int) < 4096) && decide (("#" : Str).length ≤ 100)) = true := by
    rw [decide_eq_true (by (first | lia | omega) : 0 ≤ ((K.length + 3 : Nat) : Int)), decide_eq_true (by (first | lia | omega) : ((K.length + 3 : Nat) : Int) < 4096)]; decide +kernel
  have a1 : (if ((Int.natAbs 0 : Nat) : Int) < ((Int.natAbs 1 : Nat) : Int) then ((Int.natAbs 1 : Nat) : Int) else ((Int.natAbs 0 : Nat) : Int)) = 1 := by decide
  have v4 : ∀ s : Str, varK (k, K.length) = .tuple [.str (("#" : Str) ++ intText (K.length + 3)), truths] := fun _ => rfl
  have n1 := ni6 x (varsD x K) (toldsD K) (madeK K) hk
  rw [e] at n1
  have sN := c_new n x (varsD x K) (toldsD K) (madeK K) (.str (("#" : Str) ++ intText (K.length + 3))) truths (by rw [vars_len]; (first | lia | omega))
  rw [vars_len, ← v4 "", ← e4] at sN
  have st6 := sto6 x (varsD x (K ++ [k])) (toldsD K) (madeK K) hk ((K.length + 3 : Nat) : Int) e (by rw [made_len]; (first | lia | omega))
  rw [← e3] at st6
  have i6 := item6 x (varsD x (K ++ [k])) (toldsD K) (madeK (K ++ [k])) hk
  rw [e2] at i6
  refine ob (a_made x _ _ _) (ob n1 (iT rfl (ob i1 ((forG_fix _ _ _ _ _ [PyData.tuple [.int 0, .int 1]] _ _ _ _ (by decide)).trans ((forL_cons _ _ _ _ _ _ _ _ _ _ _).trans (ob b1 ?_))))))
  have bm : builtinD (S x K) "max" [.d (.int ((Int.natAbs 0 : Nat) : Int)), .d (.int ((Int.natAbs 1 : Nat) : Int))] = some (.int 1) := (b_max2 _ _ _).trans (by rw [a1])
  refine (s_once_b _ _ _ _ _ _ _ _ _ _).trans (ob (b_abs _ _) (ob (b_abs _ _) (ob bm (ob w1 (ob (rfl : plainV (.d (.int 1)) = some ()) ((forL_nil _ _ _ _ _ _ _ _ _).trans ((s_once_m _ _ _ _ _ _ _ _ _ _).trans ?_)))))))
  refine ob (a_flat x _ _ _) (ob (pt 3) (ob (m_new x _ _ _) (ob (a_flat x _ _ _) (ob (pt 3) (ob (m_size x _ _ _) (obM (c_size n x K (by (first | lia | omega))) (ob (rfl : intD (.d (.int ((K.length + 3 : Nat) : Int))) = some ((K.length + 3 : Nat) : Int)) (iT nn ?_))))))))
  rw [Int.toNat_natCast]
  refine obM sN (ob (a_made x _ _ _) (ob st6 ((s_once_e2 _ _ _ _ _ _ _ _ _ _).trans (ob (a_made x _ _ _) (ob i6 rfl)))))
end Mine.Q
end
section
open PySem PySem.W PyProof.Rows
set_option Elab.async false
set_option maxRecDepth 100000
set_option linter.unusedSimpArgs false
namespace Mine.Q
theorem ke_le (σ : List MO) (k : Kd) : cmpD .Eq σ (.d (.str k.s)) (.d (.str "linear_le")) = some (decide (k = .le)) := by cases k <;> kernel_rfl
theorem ke_eq (σ : List MO) (k : Kd) : cmpD .Eq σ (.d (.str k.s)) (.d (.str "linear_eq")) = some (decide (k = .eq)) := by cases k <;> kernel_rfl
theorem ke_ne (σ : List MO) (k : Kd) : cmpD .Eq σ (.d (.str k.s)) (.d (.str "linear_ne")) = some (decide (k = .ne)) := by cases k <;> kernel_rfl
theorem kn_le (σ : List MO) (k : Kd) : cmpD .NotEq σ (.d (.str k.s)) (.d (.str "linear_le")) = some (!decide (k = .le)) := by cases k <;> kernel_rfl
theorem kn_same (σ : List MO) (k : Kd) : cmpD .NotEq σ (.d (.str k.s)) (.d (.str k.s)) = some false := by cases k <;> kernel_rfl
theorem cs_one (σ : List MO) (cs : List Int) : cmpD .Eq σ (.d (.tuple (cs.map .int))) (.d (.tuple [.int 1])) = some (decide (cs = [1])) := by
  rw [cmp_eq σ (k := 1) (m := 1) (lay_tuple lay_ints) (lay_tuple (k := 0) (fun x hx => by simp at hx; subst hx; exact lay_int _ _)) (by (first | lia | omega)) (by (first | lia | omega))]
  show some (PyData.eqvAll _ _) = _
  exact congrArg some (eqv_ints cs [1])
theorem dom_truths (σ : List MO) : ∀ r ∈ allRows, cmpD .Eq σ (.d (domD r)) (.d truths) = some (decide (r = [0, 1])) := by
  refine rows_all fun l hl => ?_
  rcases hl with rfl | rfl | rfl <;> exact ⟨by kernel_rfl, by kernel_rfl, by kernel_rfl, by kernel_rfl, by kernel_rfl, by kernel_rfl, by kernel_rfl⟩
theorem truths_ne (σ : List MO) : cmpD .NotEq σ (.d truths) (.d truths) = some false := by kernel_rfl
inductive Tr where
  | const (b : Bool)
  | bit (x : Nat) (up : Bool)
  deriving DecidableEq
noncomputable def trD : Tr → PyData
  | .const b => .bool b
  | .bit x up => .tuple [.str "bit", .int (x : Int), .bool up]
noncomputable def Tr.neg : Tr → Tr
  | .const b => .const !b
  | .bit x up => .bit x !up
noncomputable def mkKey (kd : Kd) (cs : List Int) (xs : List Nat) (c : Int) : TKey := ⟨"reif", kd.s, cs, xs.map fun v : Nat => (v : Int), c⟩
/-- a row that is a variable itself -/
noncomputable abbrev isDir (x : Cx) (cs : List Int) (xs : List Nat) : Prop := cs = [1] ∧ x.row (xs.headD 0) = [0, 1]
noncomputable def ttT (x : Cx) (K : List TKey) (kd : Kd) (cs : List Int) (xs : List Nat) (c : Int) : Tr :=
  if isDir x cs xs then .bit (xs.headD 0) (decide (kd = .eq) && c == 1) else .bit (ix K (mkKey kd cs xs c)) true
noncomputable def ttK (x : Cx) (K : List TKey) (kd : Kd) (cs : List Int) (xs : List Nat) (c : Int) : List TKey :=
  if isDir x cs xs then K else put K (mkKey kd cs xs c)
noncomputable def xsD (xs : List Nat) : List PyData := (xs.map fun v : Nat => (v : Int)).map .int
noncomputable def toldD (kd : Kd) (cs : List Int) (xs : List Nat) (c : Int) : PyData := .tuple [.str kd.s, .tuple (cs.map .int), .tuple (xsD xs), .int c]
theorem keyD_mk (kd : Kd) (cs : List Int) (xs : List Nat) (c : Int) : keyD (mkKey kd cs xs c) = toldD kd cs xs c := rfl
theorem tolds_snoc (K : List TKey) (k : TKey) : toldsD K ++ [.tuple [.str "reif", .int ((K.length + 3 : Nat) : Int), keyD k]] = toldsD (K ++ [k]) := (zip_snoc toldK K k).symm
theorem kok (kd : Kd) (hk : kd ≠ .ne) {cs : List Int} {xs : List Nat} (c : Int) (h1 : cs.length ≤ 3) (h2 : xs.length ≤ 3) : KOk (mkKey kd cs xs c) := ⟨rfl, by cases kd <;> first | exact .inl rfl | exact .inr rfl | exact absurd rfl hk, h1, by unfold mkKey; simpa using h2⟩
theorem put_old {K : List TKey} {k : TKey} (h : k ∈ K) : put K k = K := if_pos h
theorem put_new {K : List TKey} {k : TKey} (h : k ∉ K) : put K k = K ++ [k] := if_neg h
theorem ix_new {K : List TKey} {k : TKey} (h : k ∉ K) : ix K k = K.length + 3 := by unfold ix; rw [put_new h, idx_snoc h]
noncomputable abbrev ttE (kd : Kd) (cs : List Int) (xs : List Nat) (c : Int) : Rho := [("c", .d (.int c)), ("some", .d (.tuple (xsD xs))), ("coefs", .d (.tuple (cs.map .int))), ("kind", .d (.str kd.s)), ("self", .p 2), ("told", .d (toldD kd cs xs c))]
theorem tt_bv (kd : Kd) (cs : List Int) (xs : List Nat) (c : Int) (q : PyData) (b : Bool) : bindV (fnI (.mth "Gatherer" "told_truth")).sc (sTg (sAt 2 (fnI (.mth "Gatherer" "told_truth")).body)) (.d (.tuple [q, .bool b])) (ttE kd cs xs c) = some ((("is_new", .d (.bool b)) :: ("b", .d q) :: ttE kd cs xs c : Rho)) := by kernel_rfl
theorem c_tt_make (n : Nat) (x : Cx) (K : List TKey) (kd : Kd) (hk : kd ≠ .ne) (cs : List Int) (xs : List Nat) (c : Int) (h1 : cs.length ≤ 3) (h2 : xs.length ≤ 3) (hK : K.length ≤ 500) :
    ((methM (Cn (n + 2)) "once" (.p 2) 2 [.d (.tuple [.str "reif", toldD kd cs xs c]), .d (.tuple [.tuple [.int 0, .int 1]])] (some "Gatherer") (S x K)).bind fun p16 => (bindV (fnI (.mth "Gatherer" "told_truth")).sc (sTg (sAt 2 (fnI (.mth "Gatherer" "told_truth")).body)) (p16.1) (ttE kd cs xs c)).bind fun ρ => blK (Cn (n + 2)) glob 40 (fnI (.mth "Gatherer" "told_truth")).sc 37 ((fnI (.mth "Gatherer" "told_truth")).body.drop 3) ρ (fun _ σ => some (.d .none, σ)) (fun v σ => some (v, σ)) p16.2)
    = some (.d (trD (.bit (ix K (mkKey kd cs xs c)) true)), S x (put K (mkKey kd cs xs c))) := by
  have hkk := kok kd hk c h1 h2
  by_cases h : mkKey kd cs xs c ∈ K
  · have e := c_once_old (n + 1) x K hkk h
    rw [tkD_eq, keyD_mk] at e
    refine obM e (ob (tt_bv _ _ _ _ _ _) ((s_told_truth_r _ _ _ _ _ _ _ _ _ _ _ _).trans (ob (rfl : truthD (.d (.bool false)) = some false) (iF rfl ?_))))
    rw [put_old h]; rfl
  · have e := c_once_new n x K hkk h hK
    rw [tkD_eq, keyD_mk] at e
    have tl : (toldsD K).length ≤ 4096 := by unfold toldsD; simp; (first | lia | omega)
    refine obM e (ob (tt_bv _ _ _ _ _ _) ((s_told_truth_r _ _ _ _ _ _ _ _ _ _ _ _).trans (ob (rfl : truthD (.d (.bool true)) = some true) (iT rfl (ob (a_flat x _ _ _) (ob (pt 3) (ob (m_post x _ _ _) ?_)))))))
    refine ob (rfl : allD [.d (.str "reif"), .d (.int (ix K (mkKey kd cs xs c) : Nat)), .d (toldD kd cs xs c)] = some [.str "reif", .int (ix K (mkKey kd cs xs c) : Nat), toldD kd cs xs c]) (iT (by kernel_rfl) (obM (c_post (n + 1) x _ _ _ _ tl) (ob (rfl : plainV (.d (.none)) = some ()) ?_)))
    rw [← keyD_mk, ix_new h, tolds_snoc, put_new h]; rfl

theorem c_tt (n : Nat) (x : Cx) (hx : x.Ok) (K : List TKey) (kd : Kd) (hk : kd ≠ .ne) (cs : List Int) (xs : List Nat) (c : Int) (h1 : cs.length ≤ 3) (h2 : xs.length ≤ 3) (h3 : xs ≠ []) (h4 : ∀ v ∈ xs, v < 3) (hK : K.length ≤ 500) :
    Cn (n + 3) (.mth "Gatherer" "told_truth") [.p 2, .d (toldD kd cs xs c)] (S x K) = some (.d (trD (ttT x K kd cs xs c)), S x (ttK x K kd cs xs c)) := by
  obtain ⟨v, xs', rfl⟩ : ∃ v xs', xs = v :: xs' := by cases xs with | nil => exact absurd rfl h3 | cons v xs' => exact ⟨v, xs', rfl⟩
  have hv : v < 3 := h4 v (.head _)
  have hl : (xsD (v :: xs')).length ≤ 4096 := by unfold xsD; simp at h2 ⊢; (first | lia | omega)
  have at0 : itemD (S x K) (.d (.tuple (xsD (v :: xs')))) (.d (.int 0)) = some (.int (v : Int)) := by
    rw [it_t _ _ hl, show (0 : Int) = ((0 : Nat) : Int) from rfl, at_nat (by (first | lia | omega))]; rfl
  have key := c_tt_make n x K kd hk cs (v :: xs') c h1 h2 hK
  rw [k_told_truth]
  refine (s_told_truth _ _ _ _ _ _ _).trans (ob (cs_one _ cs) ?_)
  unfold ttT ttK
  by_cases e1 : cs = [1]
  · refine iT (decide_eq_true e1) (ob (a_flat x _ _ _) (ob (pt 3) (ob (m_dom x _ _ _) (ob at0 (obM (c_dom (n + 1) x K (by (first | lia | omega) : K.length ≤ 1000) hv) (ob (dom_truths _ _ (hx.row v)) ?_))))))
    by_cases e2 : x.row v = [0, 1]
    · rw [if_pos (⟨e1, e2⟩ : isDir x cs (v :: xs')), if_pos (⟨e1, e2⟩ : isDir x cs (v :: xs'))]
      refine iT (decide_eq_true e2) (ob at0 (ob (ke_eq _ _) ?_))
      by_cases e3 : kd = .eq
      · refine iT (decide_eq_true e3) (ob (cmp_eq_int _ _ _) ?_)
        rw [decide_eq_true e3]; rfl
      · refine iF (decide_eq_false e3) ?_
        rw [decide_eq_false e3]; rfl
    · rw [if_neg (fun h => e2 h.2 : ¬isDir x cs (v :: xs')), if_neg (fun h => e2 h.2 : ¬isDir x cs (v :: xs'))]
      exact iF (decide_eq_false e2) (ob (pt 2) (ob (m_once x _ _ _) key))
  · rw [if_neg (fun h => e1 h.1 : ¬isDir x cs (v :: xs')), if_neg (fun h => e1 h.1 : ¬isDir x cs (v :: xs'))]
    exact iF (decide_eq_false e1) (iF (decide_eq_false e1) (ob (pt 2) (ob (m_once x _ _ _) key)))
end Mine.Q
end
section
open PySem PySem.W PyProof.Rows
set_option Elab.async false
set_option maxRecDepth 100000
set_option linter.unusedSimpArgs false
namespace Mine.Q
/-- a comprehension over given items, turn by turn -/
noncomputable def turnK (C : Calls) (n : Nat) (sc : Names) (elt : Expr) (gens : List Comprehension) (ρ : Rho) (x : PyData) (σ : List MO) : Option (List PyData × List MO) := match gens with
  | [] => none
  | g :: gs => genK C glob n sc elt g gs ρ x (fun a σ => some (a, σ)) σ
noncomputable def okG (gens : List Comprehension) (ρ : Rho) : Bool := match gens with
  | [] => false
  | g :: _ => genOk ρ g
theorem gen_comp {C : Calls} {n : Nat} {sc : Names} {elt : Expr} {gens : List Comprehension} {ρ : Rho} {σ : List MO} {ys : List PyData} (ho : okG gens ρ = true) (hl : ys.length ≤ 4096) :
    evGens (fun e ρ' => evE C glob n sc ρ' e) (fun tup e ρ' => evIter (evE C glob n sc ρ') sc tup e) sc elt gens (.fix ys) ρ σ = compL (turnK C n sc elt gens ρ) ys σ := by
  cases gens with
  | nil => (first | exact nope ho | exact nopeB ho | cases ho)
  | cons g gs =>
    have h1 : genOk ρ g = true := ho
    rw [evGens_cons, if_pos h1, loopC_fix _ _ _ hl]
    have : turnK C n sc elt (g :: gs) ρ = genBody (fun e ρ' => evE C glob n sc ρ' e) (fun tup e ρ' => evIter (evE C glob n sc ρ') sc tup e) sc elt g gs ρ := by
      funext x σ
      show genK C glob n sc elt g gs ρ x (fun a σ => some (a, σ)) σ = _
      rw [genK_eq, toK_id]
    rw [this]
theorem comp_map {α : Type} {b : PyData → M (List PyData)} {f : α → List PyData} {enc : α → PyData} {σ : List MO} : ∀ {xs : List α}, (∀ x ∈ xs, b (enc x) σ = some (f x, σ)) → compL b (xs.map enc) σ = some (xs.flatMap f, σ)
  | [], _ => rfl
  | x :: xs, h => by
    rw [List.map, compL_cons, h x (.head _)]
    show (compL b (xs.map enc) σ).bind _ = _
    rw [comp_map fun y hy => h y (.tail _ hy)]
    rfl
theorem gen_map {α : Type} {C : Calls} {n : Nat} {sc : Names} {elt : Expr} {gens : List Comprehension} {ρ : Rho} {σ : List MO} {xs : List α} {enc : α → PyData} (f : α → List PyData) (ho : okG gens ρ = true) (hl : xs.length ≤ 4096) (h : ∀ x ∈ xs, turnK C n sc elt gens ρ (enc x) σ = some (f x, σ)) :
    evGens (fun e ρ' => evE C glob n sc ρ' e) (fun tup e ρ' => evIter (evE C glob n sc ρ') sc tup e) sc elt gens (.fix (xs.map enc)) ρ σ = some (xs.flatMap f, σ) := by
  rw [gen_comp ho (by simpa using hl)]
  exact comp_map h
theorem flat_one {α β : Type} (f : α → β) : ∀ xs : List α, xs.flatMap (fun x => [f x]) = xs.map f
  | [] => rfl
  | x :: xs => by rw [List.flatMap_cons, flat_one f xs]; rfl
theorem while_k {β : Type} {C : Calls} {sc : Names} {n : Nat} {b : List Stmt} (t : Rho → M Bool) (m : Nat) (ρ : Rho) (kn : Rho → List MO → Option β) (kr : Val → List MO → Option β) (σ : List MO) :
    toK2 (whileG t (evBl (fun ρ => evE C glob 40 sc ρ) sc n b) (m + 1) ρ) kn kr σ = (t ρ σ).bind fun p => if p.1 then blK C glob 40 sc n b ρ (fun ρ' => toK2 (whileG t (evBl (fun ρ => evE C glob 40 sc ρ) sc n b) m ρ') kn kr) kr p.2 else kn ρ p.2 := by
  rw [whileG_succ, toK2_bind]
  unfold toK
  cases t ρ σ with
  | none => rfl
  | some p =>
    obtain ⟨b1, σ1⟩ := p
    show toK2 (if b1 then _ else _) kn kr σ1 = if b1 then _ else _
    cases b1 with
    | false => rfl
    | true =>
      rw [if_pos rfl, if_pos rfl, toK2_bind, blK_eq]
      unfold toK toK2
      cases evBl (fun ρ => evE C glob 40 sc ρ) sc n b ρ σ1 with
      | none => rfl
      | some p =>
        obtain ⟨⟨fl, ρ2⟩, σ2⟩ := p
        cases fl <;> rfl
/-- the greatest common part -/
theorem w_common {β : Type} (C : Calls) (a : PyData) (s : Val) (kn : Rho → List MO → Option β) (kr : Val → List MO → Option β) (σ : List MO) : ∀ (m r f : Nat), r < m →
    toK2 (whileG (fun ρ' => (evE C glob 40 (fnI (.fn "common_of")).sc ρ' (sT (sAt 1 (sB (sAt 1 (fnI (.fn "common_of")).body))))) >>= fun v => ofO (truthD v)) (evBl (fun ρ => evE C glob 40 (fnI (.fn "common_of")).sc ρ) (fnI (.fn "common_of")).sc 36 (sB (sAt 1 (sB (sAt 1 (fnI (.fn "common_of")).body))))) m [("rest", .d (.int (r : Int))), ("found", .d (.int (f : Int))), ("a", .d a), ("numbers", s)]) kn kr σ
    = kn [("rest", .d (.int 0)), ("found", .d (.int (Nat.gcd r f : Nat))), ("a", .d a), ("numbers", s)] σ
  | 0, r, f, h => absurd h (Nat.not_lt_zero _)
  | m + 1, r, f, h => by
    rw [while_k]
    have e : ((evE C glob 40 (fnI (.fn "common_of")).sc [("rest", .d (.int (r : Int))), ("found", .d (.int (f : Int))), ("a", .d a), ("numbers", s)] (sT (sAt 1 (sB (sAt 1 (fnI (.fn "common_of")).body))))) >>= fun v => ofO (truthD v)) σ = some (decide ((0 : Int) < (r : Int)), σ) := by kernel_rfl
    rw [e, Option.bind_some]
    dsimp only
    by_cases h0 : r = 0
    · subst h0
      rw [decide_eq_false (by (first | lia | omega)), Nat.gcd_zero_left]
      rfl
    · rw [decide_eq_true (by (first | lia | omega)), if_pos rfl, s_common_w, bin_mod σ _ (by (first | lia | omega) : (r : Int) ≠ 0), Option.bind_some]
      have e2 : ((f : Int)).fmod (r : Int) = ((f % r : Nat) : Int) := by
        rw [Int.fmod_eq_emod_of_nonneg _ (by (first | lia | omega))]; exact (Int.natCast_emod f r).symm
      rw [e2, w_common C a s kn kr σ m (f % r) r (by have := Nat.mod_lt f (Nat.pos_of_ne_zero h0); (first | lia | omega))]
      rw [← Nat.gcd_rec r f]
noncomputable def gcdA (f : Nat) : List Int → Nat
  | [] => f
  | a :: as => gcdA (Nat.gcd f a.natAbs) as
theorem gcdA_c {f : Nat} {a : Int} {as : List Int} : gcdA f (a :: as) = gcdA (Nat.gcd f a.natAbs) as := rfl
theorem l_common2 {β : Type} (C : Calls) (s : Val) (kn : Rho → List MO → Option β) (kr : Val → List MO → Option β) (σ : List MO) : ∀ (as : List Int) (f : Nat) (r a : PyData), f < 4000 → (∀ a ∈ as, a ≠ 0 ∧ a.natAbs < 4000) →
    forL C (fnI (.fn "common_of")).sc (sTg (sAt 1 (fnI (.fn "common_of")).body)) 38 (sB (sAt 1 (fnI (.fn "common_of")).body)) (as.map .int) [("rest", .d r), ("found", .d (.int (f : Int))), ("a", .d a), ("numbers", s)] (fun ρ => blK C glob 40 (fnI (.fn "common_of")).sc 38 ((fnI (.fn "common_of")).body.drop 2) ρ kn kr) kr σ
    = kr (.d (.int (gcdA f as : Nat))) σ
  | [], f, r, a, _, _ => by
    rw [List.map, forL_nil, s_common_e2]; rfl
  | a' :: as, f, r, a, hf, h => by
    have b : bindD (fnI (.fn "common_of")).sc (sTg (sAt 1 (fnI (.fn "common_of")).body)) (.int a') [("rest", .d r), ("found", .d (.int (f : Int))), ("a", .d a), ("numbers", s)] = some ([("a", .d (.int a')), ("rest", .d r), ("found", .d (.int (f : Int))), ("numbers", s)] : Rho) := by kernel_rfl
    have hd : ∀ ρ kn', (blK C glob 40 (fnI (.fn "common_of")).sc 36 ((sB (sAt 1 (fnI (.fn "common_of")).body)).drop 2) ρ kn' kr : List MO → Option β) = kn' ρ := fun ρ kn' => by kernel_rfl
    rw [List.map, forL_cons, b, Option.bind_some, s_common_b2, b_abs, Option.bind_some, w_common C _ _ _ _ _ lim f a'.natAbs (by unfold lim; (first | lia | omega)), hd]
    have h1 := h a' (.head _)
    have : Nat.gcd f a'.natAbs < 4000 := Nat.lt_of_le_of_lt (Nat.gcd_le_right f (Nat.pos_of_ne_zero (by simpa using h1.1))) h1.2
    exact l_common2 C s kn kr σ as _ _ _ this fun b hb => h b (.tail _ hb)
theorem c_common (n : Nat) (as : List Int) (σ : List MO) (h : ∀ a ∈ as, a ≠ 0 ∧ a.natAbs < 4000) (hl : as.length ≤ 4096) : Cn (n + 1) (.fn "common_of") [.d (.list (as.map .int))] σ = some (.d (.int (gcdA 0 as : Nat)), σ) := by
  rw [k_common_of, s_common, io_l σ (by simpa using hl), Option.bind_some, forG_fix _ _ _ _ _ _ _ _ _ _ (by simpa using hl)]
  cases as with
  | nil => rw [List.map, forL_nil, s_common_e1]; rfl
  | cons a as =>
    have b : ∀ s : Val, bindD (fnI (.fn "common_of")).sc (sTg (sAt 1 (fnI (.fn "common_of")).body)) (.int a) [("found", .d (.int 0)), ("numbers", s)] = some ([("a", .d (.int a)), ("found", .d (.int 0)), ("numbers", s)] : Rho) := fun s => by kernel_rfl
    have hd : ∀ ρ kn', (blK (Cn n) glob 40 (fnI (.fn "common_of")).sc 36 ((sB (sAt 1 (fnI (.fn "common_of")).body)).drop 2) ρ kn' (fun v σ => some (v, σ)) : List MO → Option (Val × List MO)) = kn' ρ := fun ρ kn' => by kernel_rfl
    have w := fun (s : Val) (kn : Rho → List MO → Option (Val × List MO)) => w_common (Cn n) (.int a) s kn (fun v σ => some (v, σ)) σ lim 0 a.natAbs (by unfold lim; (first | lia | omega))
    simp only [Int.natCast_zero, Int.ofNat_zero, Int.cast_ofNat_Int] at w
    rw [List.map, forL_cons, b, Option.bind_some, s_common_b1, b_abs, Option.bind_some, w, hd]
    have h1 := h a (.head _)
    have : Nat.gcd 0 a.natAbs < 4000 := by rw [Nat.gcd_zero_left]; exact h1.2
    exact l_common2 (Cn n) _ _ _ σ as _ _ _ this fun b hb => h b (.tail _ hb)
end Mine.Q
end
section
open PySem PySem.W PyProof.Rows
set_option Elab.async false
set_option maxRecDepth 100000
set_option linter.unusedSimpArgs false
namespace Mine.Q
noncomputable abbrev Tm := List (Nat × Int)
noncomputable def tD (p : Nat × Int) : PyData := .tuple [.int (p.1 : Int), .int p.2]
noncomputable def sumD (tm : Tm) (c : Int) : PyData := .tuple [.str "sum", .tuple (tm.map tD), .int c]
structure TOk (tm : Tm) : Prop where
  len : tm.length ≤ 3
  vs : ∀ p ∈ tm, p.1 < 3
  cf : ∀ p ∈ tm, p.2 ≠ 0 ∧ -1000 ≤ p.2 ∧ p.2 ≤ 1000
noncomputable def bl (x : Cx) (p : Nat × Int) : Int := if p.2 * hi (x.row p.1) < p.2 * lo (x.row p.1) then p.2 * hi (x.row p.1) else p.2 * lo (x.row p.1)
noncomputable def bh (x : Cx) (p : Nat × Int) : Int := if p.2 * lo (x.row p.1) < p.2 * hi (x.row p.1) then p.2 * hi (x.row p.1) else p.2 * lo (x.row p.1)
noncomputable def lowS (x : Cx) (l : Int) (tm : Tm) : Int := tm.foldl (fun l p => l + bl x p) l
noncomputable def highS (x : Cx) (l : Int) (tm : Tm) : Int := tm.foldl (fun l p => l + bh x p) l
theorem lo_sm : ∀ r ∈ allRows, -1 ≤ lo r ∧ lo r ≤ hi r ∧ hi r ≤ 4 := by
  refine rows_all fun l hl => ?_
  rcases hl with rfl | rfl | rfl <;> decide
theorem l_bounds2 {β : Type} (n : Nat) (x : Cx) (hx : x.Ok) (K : List TKey) (hK : K.length ≤ 1000) (tt va : Val) (kn : Rho → List MO → Option β) (kr : Val → List MO → Option β) : ∀ (tm : Tm) (l h : Int) (e a0 x0 : PyData), (∀ p ∈ tm, p.1 < 3) → (∀ p ∈ tm, Sm p.2) →
    forL (Cn (n + 1)) (fnI (.mth "Gatherer" "bounds")).sc (sTg (sAt 2 (fnI (.mth "Gatherer" "bounds")).body)) 37 (sB (sAt 2 (fnI (.mth "Gatherer" "bounds")).body)) (tm.map tD) [("high", .d (.int h)), ("low", .d (.int l)), ("ends", .d e), ("a", .d a0), ("x", .d x0), ("total", tt), ("self", .p 2), ("value", va)] (fun ρ => blK (Cn (n + 1)) glob 40 (fnI (.mth "Gatherer" "bounds")).sc 37 ((fnI (.mth "Gatherer" "bounds")).body.drop 3) ρ kn kr) kr (S x K)
    = kr (.d (.tuple [.int (lowS x l tm), .int (highS x h tm)])) (S x K)
  | [], l, h, e, a0, x0, _, _ => by
    rw [List.map, forL_nil, s_bounds_e2]; rfl
  | p :: tm, l, h, e, a0, x0, hv, hs => by
    obtain ⟨v, a⟩ := p
    have b : bindD (fnI (.mth "Gatherer" "bounds")).sc (sTg (sAt 2 (fnI (.mth "Gatherer" "bounds")).body)) (tD (v, a)) [("high", .d (.int h)), ("low", .d (.int l)), ("ends", .d e), ("a", .d a0), ("x", .d x0), ("total", tt), ("self", .p 2), ("value", va)] = some ([("a", .d (.int a)), ("x", .d (.int (v : Int))), ("high", .d (.int h)), ("low", .d (.int l)), ("ends", .d e), ("total", tt), ("self", .p 2), ("value", va)] : Rho) := by kernel_rfl
    have hv0 : v < 3 := hv (v, a) (.head _)
    have ha : Sm a := hs (v, a) (.head _)
    have hr := lo_sm _ (hx.row v)
    have h1 : Sm (lo (x.row v)) := ⟨by (first | lia | omega), by (first | lia | omega)⟩
    have h2 : Sm (hi (x.row v)) := ⟨by (first | lia | omega), by (first | lia | omega)⟩
    rw [List.map, forL_cons, b, Option.bind_some, s_bounds_b2]
    simp only [a_flat, a_made, a_vars, a_tolds, m_dom, m_new, m_size, m_post, m_bounds, m_row, m_rt, m_tt, m_once, m_ap4, m_ap5, pt, mm_some, Option.bind_some, cmp_eq_int, cmp_ne_int, cmp_eq_bool, cmp_lt, cmp_le, cmp_gt, cmp_ge, bin_add, bin_sub, b_min, b_max, b_max2, b_abs, exK, plainV, ↓reduceIte, Bool.false_eq_true, Bool.not_true, Bool.not_false, c_dom n x K hK hv0, c_least n _ _ (hx.row v), c_greatest n _ _ (hx.row v), bin_mul _ ha h1, bin_mul _ ha h2]
    exact l_bounds2 n x hx K hK tt va kn kr tm _ _ _ _ _ (fun q hq => hv q (.tail _ hq)) fun q hq => hs q (.tail _ hq)
theorem c_bounds (n : Nat) (x : Cx) (hx : x.Ok) (K : List TKey) (hK : K.length ≤ 1000) (tm : Tm) (c : Int) (ht : TOk tm) :
    Cn (n + 3) (.mth "Gatherer" "bounds") [.p 2, .d (sumD tm c)] (S x K) = some (.d (.tuple [.int (lowS x c tm), .int (highS x c tm)]), S x K) := by
  have hl : (tm.map tD).length ≤ 4096 := by have := ht.len; simp; (first | lia | omega)
  have i2 : atD [PyData.str "sum", .tuple (tm.map tD), .int c] 2 = some (.int c) := by kernel_rfl
  have i1 : atD [PyData.str "sum", .tuple (tm.map tD), .int c] 1 = some (.tuple (tm.map tD)) := by kernel_rfl
  have hl3 : [PyData.str "sum", .tuple (tm.map tD), .int c].length ≤ 4096 := by simp
  rw [k_bounds, s_bounds]
  unfold sumD
  simp only [a_flat, a_made, a_vars, a_tolds, m_dom, m_new, m_size, m_post, m_bounds, m_row, m_rt, m_tt, m_once, m_ap4, m_ap5, pt, mm_some, Option.bind_some, cmp_eq_int, cmp_ne_int, cmp_eq_bool, cmp_lt, cmp_le, cmp_gt, cmp_ge, bin_add, bin_sub, b_min, b_max, b_max2, b_abs, exK, plainV, ↓reduceIte, Bool.false_eq_true, Bool.not_true, Bool.not_false, c_sum_of n, it_t _ _ hl3, i1, i2, io_t _ hl, forG_fix _ _ _ _ _ _ _ _ _ _ hl]
  have hv := ht.vs
  have hs : ∀ p ∈ tm, Sm p.2 := fun p hp => ⟨by have := (ht.cf p hp).2; (first | lia | omega), by have := (ht.cf p hp).2; (first | lia | omega)⟩
  clear ht i1 i2 hl3 hl
  cases tm with
  | nil => rw [List.map, forL_nil, s_bounds_e1]; rfl
  | cons p tm =>
    obtain ⟨v, a⟩ := p
    have b : ∀ tt va : Val, bindD (fnI (.mth "Gatherer" "bounds")).sc (sTg (sAt 2 (fnI (.mth "Gatherer" "bounds")).body)) (tD (v, a)) [("high", .d (.int c)), ("low", .d (.int c)), ("total", tt), ("self", .p 2), ("value", va)] = some ([("a", .d (.int a)), ("x", .d (.int (v : Int))), ("high", .d (.int c)), ("low", .d (.int c)), ("total", tt), ("self", .p 2), ("value", va)] : Rho) := fun tt va => by kernel_rfl
    have hv0 : v < 3 := hv (v, a) (.head _)
    have ha : Sm a := hs (v, a) (.head _)
    have hr := lo_sm _ (hx.row v)
    have h1 : Sm (lo (x.row v)) := ⟨by (first | lia | omega), by (first | lia | omega)⟩
    have h2 : Sm (hi (x.row v)) := ⟨by (first | lia | omega), by (first | lia | omega)⟩
    rw [List.map, forL_cons, b, Option.bind_some, s_bounds_b1]
    simp only [a_flat, a_made, a_vars, a_tolds, m_dom, m_new, m_size, m_post, m_bounds, m_row, m_rt, m_tt, m_once, m_ap4, m_ap5, pt, mm_some, Option.bind_some, cmp_eq_int, cmp_ne_int, cmp_eq_bool, cmp_lt, cmp_le, cmp_gt, cmp_ge, bin_add, bin_sub, b_min, b_max, b_max2, b_abs, exK, plainV, ↓reduceIte, Bool.false_eq_true, Bool.not_true, Bool.not_false, c_dom (n + 1) x K hK hv0, c_least (n + 1) _ _ (hx.row v), c_greatest (n + 1) _ _ (hx.row v), bin_mul _ ha h1, bin_mul _ ha h2]
    exact l_bounds2 (n + 1) x hx K hK _ _ _ _ tm _ _ _ _ _ (fun q hq => hv q (.tail _ hq)) fun q hq => hs q (.tail _ hq)
/-- what a row is -/
inductive Rw where
  | const (b : Bool)
  | told (cs : List Int) (xs : List Nat) (c : Int)
  deriving DecidableEq
noncomputable def rwD (kd : Kd) : Rw → PyData
  | .const b => .bool b
  | .told cs xs c => toldD kd cs xs c
noncomputable def cst (kd : Kd) (l h : Int) : Option Bool :=
  if kd = .le then (if h ≤ 0 then some true else if 0 < l then some false else none)
  else if 0 < l ∨ h < 0 then some (decide (kd = .ne)) else if l = h then some (decide (kd = .eq)) else none
noncomputable def gG (tm : Tm) : Nat := gcdA 0 (tm.map (·.2))
noncomputable def rowP (x : Cx) (kd : Kd) (tm : Tm) (c : Int) : Rw := match cst kd (lowS x c tm) (highS x c tm) with
  | some b => .const b
  | none => if kd ≠ .le ∧ (-c).fmod (gG tm : Int) ≠ 0 then .const (decide (kd = .ne)) else .told (tm.map fun p => p.2.fdiv (gG tm : Int)) (tm.map (·.1)) ((-c).fdiv (gG tm : Int))
theorem gcdA_pos : ∀ (as : List Int) (f : Nat), 0 < f → 0 < gcdA f as
  | [], f, h => h
  | a :: as, f, h => gcdA_pos as _ (Nat.gcd_pos_of_pos_left _ h)
theorem gcdA_le : ∀ (as : List Int) (f : Nat), 0 < f → gcdA f as ≤ f
  | [], f, h => Nat.le_refl _
  | a :: as, f, h => Nat.le_trans (gcdA_le as _ (Nat.gcd_pos_of_pos_left _ h)) (Nat.gcd_le_left _ h)
theorem gG_pos {tm : Tm} (h : TOk tm) (h0 : tm ≠ []) : 0 < gG tm ∧ gG tm ≤ 1000 := by
  cases tm with
  | nil => exact absurd rfl h0
  | cons p tm =>
    have h1 := h.cf p (.head _)
    unfold gG
    rw [List.map, gcdA_c, Nat.gcd_zero_left]
    have h2 : 0 < p.2.natAbs := by omega
    exact ⟨gcdA_pos _ _ h2, Nat.le_trans (gcdA_le _ _ h2) (by omega)⟩
theorem cst_nil {x : Cx} {kd : Kd} {c : Int} {tm : Tm} (h : cst kd (lowS x c tm) (highS x c tm) = none) : tm ≠ [] := by
  rintro rfl
  have this : ∀ kd c, cst kd c c ≠ none := by
    intro kd c; unfold cst
    by_cases h1 : kd = .le
    · rw [if_pos h1]; by_cases h2 : c ≤ 0
      · rw [if_pos h2]; simp
      · rw [if_neg h2, if_pos (by omega)]; simp
    · rw [if_neg h1]; by_cases h2 : 0 < c ∨ c < 0
      · rw [if_pos h2]; simp
      · rw [if_neg h2, if_pos rfl]; simp
  exact this kd c h
theorem g_r0 (C : Calls) (tm : Tm) (σ : List MO) (h : tm.length ≤ 3) : g_row_c_0 C (.fix (tm.map tD)) [] σ = some ((tm.map (·.2)).map .int, σ) := by
  unfold g_row_c_0
  rw [gen_map (fun p => [.int p.2]) (by kernel_rfl) (by (first | lia | omega)) fun p _ => by obtain ⟨v, a⟩ := p; kernel_rfl]
  rw [flat_one, List.map_map]; rfl
theorem g_r1 (C : Calls) (tm : Tm) (g : Int) (hg : g ≠ 0) (hs : Sm g) (ht : TOk tm) (σ : List MO) : g_row_t_0 C (.fix (tm.map tD)) [("common", .d (.int g))] σ = some ((tm.map fun p => p.2.fdiv g).map .int, σ) := by
  unfold g_row_t_0
  rw [gen_map (fun p => [.int (p.2.fdiv g)]) (by kernel_rfl) (by have := ht.len; (first | lia | omega)) fun p hp => ?_]
  · rw [flat_one, List.map_map]; rfl
  · obtain ⟨v, a⟩ := p
    refine Eq.trans (b := (binD .FloorDiv σ (.d (.int a)) (.d (.int g))).bind fun y => some ([y], σ)) (by kernel_rfl) ?_
    have h1 := (ht.cf _ hp).2
    rw [bin_div σ ⟨by dsimp only at h1; (first | lia | omega), by dsimp only at h1; (first | lia | omega)⟩ hs hg]; rfl
theorem g_r2 (C : Calls) (tm : Tm) (σ : List MO) (h : tm.length ≤ 3) : g_row_t_1 C (.fix (tm.map tD)) [] σ = some (xsD (tm.map (·.1)), σ) := by
  unfold g_row_t_1
  rw [gen_map (fun p => [.int (p.1 : Int)]) (by kernel_rfl) (by omega) fun p _ => by obtain ⟨v, a⟩ := p; kernel_rfl]
  unfold xsD
  rw [flat_one, List.map_map, List.map_map]; rfl
end Mine.Q
end
section
open PySem PySem.W PyProof.Rows
set_option Elab.async false
set_option maxRecDepth 100000
set_option linter.unusedSimpArgs false
namespace Mine.Q
noncomputable abbrev rowSc : Names := (fnI (.mth "Gatherer" "row")).sc
noncomputable abbrev rowL : List Stmt := (fnI (.mth "Gatherer" "row")).body.drop 1
noncomputable abbrev rowE (tm : Tm) (c : Int) (kd : Kd) (L H : Int) : Rho := [("total", .d (sumD tm c)), ("high", .d (.int H)), ("low", .d (.int L)), ("self", .p 2), ("kind", .d (.str kd.s)), ("value", .d (sumD tm c))]
section
variable {β : Type} (C : Calls) (tm : Tm) (c : Int) (kd : Kd) (L H g : Int) (kn : Rho → List MO → Option β) (kr : Val → List MO → Option β) (σ : List MO)
theorem row_a : blK C glob 40 rowSc 39 (List.take 1 rowL) (rowE tm c kd L H) kn kr σ = match cst kd L H with
    | some b => kr (.d (.bool b)) σ
    | none => kn (rowE tm c kd L H) σ := by
  refine (s_row_a _ _ _ _ _ _ _ _ _ _).trans (ob (ke_le σ kd) ?_)
  unfold cst
  by_cases hk : kd = .le
  · rw [if_pos hk]
    refine iT (decide_eq_true hk) (ob (cmp_le _ _ _) ?_)
    by_cases h1 : H ≤ 0
    · rw [if_pos h1]
      exact iT (decide_eq_true h1) (iT (decide_eq_true h1) (ob (cmp_le _ _ _) (by rw [decide_eq_true h1])))
    · rw [if_neg h1]
      refine iF (decide_eq_false h1) (ob (cmp_gt _ _ _) ?_)
      by_cases h2 : 0 < L
      · rw [if_pos h2]
        exact iT (decide_eq_true h2) (ob (cmp_le _ _ _) (by rw [decide_eq_false h1]))
      · rw [if_neg h2]
        exact iF (decide_eq_false h2) rfl
  · rw [if_neg hk]
    refine iF (decide_eq_false hk) (ob (cmp_gt _ _ _) ?_)
    by_cases h1 : 0 < L
    · rw [if_pos (Or.inl h1 : 0 < L ∨ H < 0)]
      exact iT (decide_eq_true h1) (iT (decide_eq_true h1) (ob (ke_ne _ _) rfl))
    · refine iF (decide_eq_false h1) (ob (cmp_lt _ _ _) ?_)
      by_cases h2 : H < 0
      · rw [if_pos (Or.inr h2 : 0 < L ∨ H < 0)]
        exact iT (decide_eq_true h2) (ob (ke_ne _ _) rfl)
      · rw [if_neg (by (first | lia | omega) : ¬(0 < L ∨ H < 0))]
        refine iF (decide_eq_false h2) (ob (cmp_eq_int _ _ _) ?_)
        by_cases h3 : L = H
        · rw [if_pos h3]
          exact iT (beq_iff_eq.mpr h3) (ob (ke_eq _ _) rfl)
        · rw [if_neg h3]
          exact iF (beq_eq_false_iff_ne.mpr h3) rfl
theorem row_m (c' : Int) (h0 : g ≠ 0) : blK C glob 40 rowSc 37 (List.take 1 (List.drop 1 (List.drop 1 rowL))) (("c", .d (.int c')) :: ("common", .d (.int g)) :: rowE tm c kd L H) kn kr σ =
    if kd ≠ .le ∧ c'.fmod g ≠ 0 then kr (.d (.bool (decide (kd = .ne)))) σ else kn (("c", .d (.int c')) :: ("common", .d (.int g)) :: rowE tm c kd L H) σ := by
  refine (s_row_m _ _ _ _ _ _ _ _ _ _ _ _).trans (ob (kn_le σ kd) ?_)
  by_cases hk : kd = .le
  · rw [if_neg (fun h => h.1 hk : ¬(kd ≠ .le ∧ c'.fmod g ≠ 0))]
    have e : (!decide (kd = .le)) = false := by rw [decide_eq_true hk]; rfl
    exact iF e (iF e rfl)
  · refine iT (by rw [decide_eq_false hk]; rfl) (ob (bin_mod _ _ h0) (ob (cmp_ne_int _ _ _) ?_))
    by_cases h4 : c'.fmod g = 0
    · rw [if_neg (fun h => h.2 h4 : ¬(kd ≠ .le ∧ c'.fmod g ≠ 0))]
      exact iF (by rw [beq_iff_eq.mpr h4]; rfl) rfl
    · rw [if_pos (⟨hk, h4⟩ : kd ≠ .le ∧ c'.fmod g ≠ 0)]
      exact iT (by rw [beq_eq_false_iff_ne.mpr h4]; rfl) (ob (ke_ne _ _) rfl)
variable (ht : TOk tm) (h1 : itemD σ (.d (sumD tm c)) (.d (.int 1)) = some (.tuple (tm.map tD))) (hl : (tm.map tD).length ≤ 4096)
include ht h1 hl
theorem row_c (h2 : itemD σ (.d (sumD tm c)) (.d (.int 2)) = some (.int c)) (cm : C (.fn "common_of") [.d (.list ((tm.map (·.2)).map .int))] σ = some (.d (.int g), σ)) : blK C glob 40 rowSc 38 (List.take 1 (List.drop 1 rowL)) (rowE tm c kd L H) kn kr σ =
    kn (("c", .d (.int (-c))) :: ("common", .d (.int g)) :: rowE tm c kd L H) σ :=
  have hlen := ht.len
  (s_row_c _ _ _ _ _ _ _ _ _ _).trans (ob h1 (ob (io_t _ hl) (ob (g_r0 C tm σ hlen) (iT (okLen_of (by simp; (first | lia | omega))) (ob cm (ob h2 (ob (rfl : negD (.d (.int c)) = some (.int (-c))) rfl)))))))
theorem row_t (c' : Int) (h0 : g ≠ 0) (hg : Sm g) (hc : Sm c') : blK C glob 40 rowSc 36 (List.drop 1 (List.drop 1 (List.drop 1 rowL))) (("c", .d (.int c')) :: ("common", .d (.int g)) :: rowE tm c kd L H) kn kr σ =
    kr (.d (toldD kd (tm.map fun p => p.2.fdiv g) (tm.map (·.1)) (c'.fdiv g))) σ :=
  have hlen := ht.len
  (s_row_t _ _ _ _ _ _ _ _ _ _ _ _).trans (ob h1 (ob (io_t _ hl) (ob (g_r1 C tm g h0 hg ht σ) (iT (okLen_of (by simp; (first | lia | omega))) (ob (b_tuple σ (by simp; (first | lia | omega))) (ob h1 (ob (io_t _ hl) (ob (g_r2 C tm σ hlen) (iT (okLen_of (by unfold xsD; simp; (first | lia | omega)))
    (ob (b_tuple σ (by unfold xsD; simp; (first | lia | omega))) (ob (bin_div σ hc hg h0) (ob (rfl : allD [.d (.str kd.s), .d (.tuple ((tm.map fun p => p.2.fdiv g).map .int)), .d (.tuple (xsD (tm.map (·.1)))), .d (.int (c'.fdiv g))] = some [.str kd.s, .tuple ((tm.map fun p => p.2.fdiv g).map .int), .tuple (xsD (tm.map (·.1))), .int (c'.fdiv g)])
      (iT (by kernel_rfl) rfl)))))))))))))
end
theorem c_row (n : Nat) (x : Cx) (hx : x.Ok) (K : List TKey) (hK : K.length ≤ 1000) (kd : Kd) (tm : Tm) (c : Int) (ht : TOk tm) (hc : -10000 ≤ c ∧ c ≤ 10000) :
    Cn (n + 4) (.mth "Gatherer" "row") [.p 2, .d (.str kd.s), .d (sumD tm c)] (S x K) = some (.d (rwD kd (rowP x kd tm c)), S x K) := by
  have hlen := ht.len
  have hl : (tm.map tD).length ≤ 4096 := by simp; omega
  have i2 : atD [PyData.str "sum", .tuple (tm.map tD), .int c] 2 = some (.int c) := by kernel_rfl
  have i1 : atD [PyData.str "sum", .tuple (tm.map tD), .int c] 1 = some (.tuple (tm.map tD)) := by kernel_rfl
  have hl3 : [PyData.str "sum", .tuple (tm.map tD), .int c].length ≤ 4096 := by simp
  have b1 : ∀ l h : Int, bindVs (fnI (.mth "Gatherer" "row")).sc (eItems (sTg (sAt 0 (fnI (.mth "Gatherer" "row")).body))) [.d (.tuple [.int l, .int h]), .d (sumD tm c)] [("self", .p 2), ("kind", .d (.str kd.s)), ("value", .d (sumD tm c))] = some (rowE tm c kd l h) := fun l h => by kernel_rfl
  have t1 : itemD (S x K) (.d (sumD tm c)) (.d (.int 1)) = some (.tuple (tm.map tD)) := by unfold sumD; rw [it_t _ _ hl3, i1]
  have t2 : itemD (S x K) (.d (sumD tm c)) (.d (.int 2)) = some (.int c) := by unfold sumD; rw [it_t _ _ hl3, i2]
  rw [k_row, s_row]
  refine ob (pt 2) (ob (m_bounds x _ _ _) ?_)
  refine obM (c_bounds n x hx K hK tm c ht) ?_
  refine ob (c_sum_of (n + 1) _ _ _) ?_
  refine ob (b1 _ _) ?_
  refine sg 37 1 ?_
  refine (row_a _ tm c kd _ _ _ _ _).trans ?_
  unfold rowP
  cases e : cst kd (lowS x c tm) (highS x c tm) with
  | some b => rfl
  | none =>
    have hg := gG_pos ht (cst_nil e)
    have h1 : (gG tm : Int) ≠ 0 := by omega
    have h2 : Sm (gG tm : Int) := ⟨by omega, by omega⟩
    have cm := c_common (n + 2) (tm.map (·.2)) (S x K) (by
      intro a ha
      obtain ⟨p, hp, rfl⟩ := List.mem_map.mp ha
      have := ht.cf p hp
      exact ⟨this.1, by omega⟩) (by simp; omega)
    have cm' : Cn (n + 3) (.fn "common_of") [.d (.list ((tm.map (·.2)).map .int))] (S x K) = some (.d (.int (gG tm : Int)), S x K) := cm
    refine sg 36 1 ((row_c _ tm c kd _ _ _ _ _ _ ht t1 hl t2 cm').trans (sg 35 1 ((row_m _ tm c kd _ _ _ _ _ _ _ h1).trans ?_)))
    by_cases h4 : kd ≠ .le ∧ (-c).fmod (gG tm : Int) ≠ 0
    · rw [if_pos h4, if_pos h4]; rfl
    · rw [if_neg h4, if_neg h4]
      exact row_t _ tm c kd _ _ _ _ _ _ ht t1 hl _ h1 h2 ⟨by omega, by omega⟩
end Mine.Q
end
section
open PySem PySem.W PyProof.Rows
set_option Elab.async false
set_option maxRecDepth 100000
set_option linter.unusedSimpArgs false
namespace Mine.Q
theorem c_contrary (n : Nat) (t : Tr) (σ : List MO) : Cn (n + 1) (.fn "contrary") [.d (trD t)] σ = some (.d (trD t.neg), σ) := by
  cases t with
  | const b => exact c_contrary_b n b σ
  | bit v up => exact c_contrary_t n _ _ up σ
/-- what a truth hangs on -/
inductive Lt where
  | const (b : Bool)
  | lit (kd : Kd) (cs : List Int) (xs : List Nat) (c : Int) (fl : Bool)
  deriving DecidableEq
noncomputable def Lt.neg : Lt → Lt
  | .const b => .const !b
  | .lit kd cs xs c fl => .lit kd cs xs c !fl
noncomputable def ngs (cs : List Int) : List Int := cs.map fun a => -a
noncomputable def norm (kd : Kd) (cs : List Int) (xs : List Nat) (c : Int) : Lt :=
  if cs.headD 0 < 0 ∧ kd = .le then .lit kd (ngs cs) xs (-c - 1) true
  else if 0 < cs.headD 0 then .lit kd cs xs c false else .lit kd (ngs cs) xs (-c) false
noncomputable def litE (x : Cx) (kd : Kd) (tm : Tm) (c : Int) : Lt := match rowP x kd tm c with
  | .const b => .const b
  | .told cs xs c => norm kd cs xs c
noncomputable def litP (x : Cx) (kd : Kd) (tm : Tm) (c : Int) : Lt := match kd with
  | .ne => (match rowP x .ne tm c with
    | .const b => .const b
    | .told _ _ _ => (litE x .eq tm c).neg)
  | kd => litE x kd tm c
noncomputable def ltT (x : Cx) (K : List TKey) : Lt → Tr
  | .const b => .const b
  | .lit kd cs xs c fl => if fl then (ttT x K kd cs xs c).neg else ttT x K kd cs xs c
noncomputable def ltK (x : Cx) (K : List TKey) : Lt → List TKey
  | .const _ => K
  | .lit kd cs xs c _ => ttK x K kd cs xs c
theorem tr_neg (t : Tr) : t.neg.neg = t := by cases t <;> simp [Tr.neg]
theorem ltT_neg (x : Cx) (K : List TKey) (l : Lt) : ltT x K l.neg = (ltT x K l).neg := by
  cases l with
  | const b => rfl
  | lit kd cs xs c fl => cases fl <;> simp [Lt.neg, ltT, tr_neg]
theorem ltK_neg (x : Cx) (K : List TKey) (l : Lt) : ltK x K l.neg = ltK x K l := by cases l <;> rfl
theorem g_rt0 (C : Calls) (cs : List Int) (σ : List MO) (h : cs.length ≤ 3) : g_rt_a_0 C (.fix (cs.map .int)) [] σ = some ((ngs cs).map .int, σ) := by
  unfold g_rt_a_0
  rw [gen_map (fun a : Int => [PyData.int (-a)]) (by kernel_rfl) (by (first | lia | omega)) fun a _ => by kernel_rfl]
  unfold ngs
  rw [flat_one, List.map_map]; rfl
theorem rowP_told {x : Cx} {kd : Kd} {tm : Tm} {c c' : Int} {cs : List Int} {xs : List Nat} (ht : TOk tm) (h : rowP x kd tm c = .told cs xs c') : tm ≠ [] ∧ cst kd (lowS x c tm) (highS x c tm) = none ∧ cs = tm.map (fun p => p.2.fdiv (gG tm : Int)) ∧ xs = tm.map (·.1) ∧ c' = (-c).fdiv (gG tm : Int) ∧ (kd ≠ .le → (-c).fmod (gG tm : Int) = 0) ∧ cs.length ≤ 3 ∧ xs.length ≤ 3 ∧ xs ≠ [] ∧ ∀ v ∈ xs, v < 3 := by
  unfold rowP at h
  cases e : cst kd (lowS x c tm) (highS x c tm) with
  | some b => rw [e] at h; cases h
  | none =>
    rw [e] at h
    have hn := cst_nil e
    dsimp only at h
    by_cases h2 : kd ≠ .le ∧ (-c).fmod (gG tm : Int) ≠ 0
    · rw [if_pos h2] at h; cases h
    · rw [if_neg h2] at h
      cases h
      have := ht.len
      refine ⟨hn, rfl, rfl, rfl, rfl, fun hk => ?_, by simpa using this, by simpa using this, by simpa using hn, fun v hv => ?_⟩
      · by_cases h3 : (-c).fmod (gG tm : Int) = 0
        · exact h3
        · exact absurd ⟨hk, h3⟩ h2
      · obtain ⟨p, hp, rfl⟩ := List.mem_map.mp hv
        exact ht.vs p hp
theorem isb_told (kd : Kd) (cs : List Int) (xs : List Nat) (c : Int) : isinstD (.d (toldD kd cs xs c)) "bool" = some false := by kernel_rfl
theorem isb_bool (b : Bool) : isinstD (.d (.bool b)) "bool" = some true := by kernel_rfl
noncomputable abbrev rtE (kd : Kd) (cs : List Int) (xs : List Nat) (c : Int) (va : Val) : Rho := [("c", .d (.int c)), ("some", .d (.tuple (xsD xs))), ("coefs", .d (.tuple (cs.map .int))), ("kind", .d (.str kd.s)), ("told", .d (toldD kd cs xs c)), ("self", .p 2), ("value", va)]
theorem rt_b1 (kd : Kd) (cs : List Int) (xs : List Nat) (c : Int) (va : Val) : bindV (fnI (.mth "Gatherer" "row_truth")).sc (sTg (sAt 2 (fnI (.mth "Gatherer" "row_truth")).body)) (.d (toldD kd cs xs c)) [("told", .d (toldD kd cs xs c)), ("self", .p 2), ("kind", .d (.str kd.s)), ("value", va)] = some (rtE kd cs xs c va) := by kernel_rfl
/-- a row as a truth -/
theorem rt_tail (n : Nat) (x : Cx) (hx : x.Ok) (K : List TKey) (hK : K.length ≤ 500) (kd : Kd) (hk : kd ≠ .ne) (cs : List Int) (xs : List Nat) (c : Int) (h0 : cs ≠ []) (h1 : cs.length ≤ 3) (h2 : xs.length ≤ 3) (h3 : xs ≠ []) (h4 : ∀ v ∈ xs, v < 3) (va : Val) :
    blK (Cn (n + 4)) glob 40 (fnI (.mth "Gatherer" "row_truth")).sc 37 ((fnI (.mth "Gatherer" "row_truth")).body.drop 3) (rtE kd cs xs c va) (fun _ σ => some (.d .none, σ)) (fun v σ => some (v, σ)) (S x K) = some (.d (trD (ltT x K (norm kd cs xs c))), S x (ltK x K (norm kd cs xs c))) := by
  have hcl : (cs.map PyData.int).length ≤ 4096 := by simp; (first | lia | omega)
  have a0 : ∃ c0 : Int, cs.headD 0 = c0 ∧ itemD (S x K) (.d (.tuple (cs.map .int))) (.d (.int 0)) = some (.int c0) := by
    cases cs with
    | nil => exact absurd rfl h0
    | cons c0 cs => exact ⟨c0, rfl, by rw [it_t _ _ hcl]; kernel_rfl⟩
  obtain ⟨c0, hc0, a0⟩ := a0
  have nn : (ngs cs).length = cs.length := List.length_map _
  have nl : (ngs cs).length ≤ 3 := by rw [nn]; exact h1
  have lN : ((ngs cs).map PyData.int).length ≤ 4096 := by rw [List.length_map]; (first | lia | omega)
  have ng : negD (.d (.int c)) = some (.int (-c)) := rfl
  refine sg 34 2 ((s_rt_a _ _ _ _ _ _ _ _ _ _).trans (ob (ke_ne _ _) (iF (decide_eq_false hk) (ob (io_t _ hcl) (ob (g_rt0 _ cs _ h1) (iT (okLen_of lN) (ob (b_tuple _ lN) (sg 33 1 ?_))))))))
  refine (s_rt_b _ _ _ _ _ _ _ _ _ _ _).trans (ob a0 (ob (cmp_lt _ _ _) ?_))
  unfold norm
  rw [hc0]
  by_cases n0 : c0 < 0
  · refine iT (decide_eq_true n0) (ob (ke_le _ _) ?_)
    by_cases k0 : kd = .le
    · rw [if_pos (⟨n0, k0⟩ : c0 < 0 ∧ kd = .le)]
      exact iT (decide_eq_true k0) (ob (pt 2) (ob (m_tt x _ _ _) (ob ng (ob (bin_sub _ _ _) (obM (c_tt (n + 1) x hx K kd hk (ngs cs) xs (-c - 1) nl h2 h3 h4 hK) (ob (c_contrary (n + 3) _ _) rfl))))))
    · rw [if_neg (fun h => k0 h.2 : ¬(c0 < 0 ∧ kd = .le)), if_neg (by (first | lia | omega) : ¬0 < c0)]
      refine iF (decide_eq_false k0) ((s_rt_c _ _ _ _ _ _ _ _ _ _ _).trans (ob (pt 2) (ob (m_tt x _ _ _) (ob a0 (ob (cmp_gt _ _ _) (iF (decide_eq_false (by (first | lia | omega) : ¬0 < c0)) ?_))))))
      exact ob ng (obM (c_tt (n + 1) x hx K kd hk (ngs cs) xs (-c) nl h2 h3 h4 hK) rfl)
  · rw [if_neg (fun h => n0 h.1 : ¬(c0 < 0 ∧ kd = .le))]
    refine iF (decide_eq_false n0) (iF (decide_eq_false n0) ((s_rt_c _ _ _ _ _ _ _ _ _ _ _).trans (ob (pt 2) (ob (m_tt x _ _ _) (ob a0 (ob (cmp_gt _ _ _) ?_))))))
    by_cases p0 : 0 < c0
    · rw [if_pos p0]
      exact iT (decide_eq_true p0) (obM (c_tt (n + 1) x hx K kd hk cs xs c h1 h2 h3 h4 hK) rfl)
    · rw [if_neg p0]
      exact iF (decide_eq_false p0) (ob ng (obM (c_tt (n + 1) x hx K kd hk (ngs cs) xs (-c) nl h2 h3 h4 hK) rfl))
section
variable (n : Nat) (x : Cx) (hx : x.Ok) (K : List TKey) (hK : K.length ≤ 500) (tm : Tm) (c : Int) (ht : TOk tm) (hc : -10000 ≤ c ∧ c ≤ 10000)
include hx hK ht hc
theorem c_rt_e (kd : Kd) (hk : kd ≠ .ne) : Cn (n + 5) (.mth "Gatherer" "row_truth") [.p 2, .d (.str kd.s), .d (sumD tm c)] (S x K) = some (.d (trD (ltT x K (litE x kd tm c))), S x (ltK x K (litE x kd tm c))) := by
  rw [k_row_truth, s_row_truth]
  refine ob (pt 2) (ob (m_row x _ _ _) (obM (c_row n x hx K (by (first | lia | omega)) kd tm c ht hc) ?_))
  unfold litE
  cases e : rowP x kd tm c with
  | const b => exact ob (isb_bool b) (iT rfl rfl)
  | told cs xs c' =>
    obtain ⟨h0, -, hcs, -, -, -, h1, h2, h3, h4⟩ := rowP_told ht e
    exact ob (isb_told _ _ _ _) (iF rfl (ob (rt_b1 _ _ _ _ _) (rt_tail n x hx K hK kd hk cs xs c' (fun h => h0 (List.map_eq_nil_iff.mp (hcs.symm.trans h))) h1 h2 h3 h4 _)))
theorem c_rt (kd : Kd) : Cn (n + 6) (.mth "Gatherer" "row_truth") [.p 2, .d (.str kd.s), .d (sumD tm c)] (S x K) = some (.d (trD (ltT x K (litP x kd tm c))), S x (ltK x K (litP x kd tm c))) := by
  cases kd with
  | le => exact c_rt_e (n + 1) x hx K hK tm c ht hc .le (by decide)
  | eq => exact c_rt_e (n + 1) x hx K hK tm c ht hc .eq (by decide)
  | ne =>
    rw [k_row_truth, s_row_truth]
    refine ob (pt 2) (ob (m_row x _ _ _) (obM (c_row (n + 1) x hx K (by omega) .ne tm c ht hc) ?_))
    unfold litP
    cases e : rowP x .ne tm c with
    | const b => exact ob (isb_bool b) (iT rfl rfl)
    | told cs xs c' =>
      refine ob (isb_told _ _ _ _) (iF rfl (ob (rt_b1 _ _ _ _ _) (sg 34 2 ((s_rt_a _ _ _ _ _ _ _ _ _ _).trans (ob (ke_ne _ _) (iT rfl ?_))))))
      refine ob (pt 2) (ob (m_rt x _ _ _) (obM (c_rt_e n x hx K hK tm c ht hc .eq (by decide)) (ob (c_contrary (n + 4) _ _) ?_)))
      rw [← ltT_neg, ← ltK_neg]
end
end Mine.Q
end
section
open PySem PySem.W PyProof.Rows
set_option Elab.async false
set_option maxRecDepth 100000
set_option linter.unusedSimpArgs false
namespace Mine.Q
theorem loopC_ptr (b : PyData → M (List PyData)) {i : Nat} {ys : List PyData} {σ : List MO} {f : PyData → List PyData} (hi : σ[i]? = some (.list ys)) (h : ∀ y ∈ ys, b y σ = some (f y, σ)) : ∀ (m k : Nat), ys.length - k < m → loopC (.ptr i) b m k σ = some ((ys.drop k).flatMap f, σ)
  | 0, k, h => absurd h (Nat.not_lt_zero _)
  | m + 1, k, hm => by
    by_cases hk : k < ys.length
    · have e0 : (Src.ptr i).at σ k = some (some ys[k]) := by
        show (σ[i]?.bind fun m => (lstM m).bind fun xs => some xs[k]?) = _
        rw [hi]
        exact congrArg some (List.getElem?_eq_getElem hk)
      rw [List.drop_eq_getElem_cons hk, loopC_succ]
      simp only [e0]
      show M.bind _ _ σ = _
      unfold M.bind
      rw [h _ (List.getElem_mem hk)]
      show M.bind _ _ σ = _
      unfold M.bind
      rw [loopC_ptr b hi h m (k + 1) (by omega)]
      rfl
    · have e : ys.drop k = [] := List.drop_eq_nil_of_le (by omega)
      have e0 : (Src.ptr i).at σ k = some none := by
        show (σ[i]?.bind fun m => (lstM m).bind fun xs => some xs[k]?) = _
        rw [hi]
        exact congrArg some (List.getElem?_eq_none (Nat.le_of_not_lt hk))
      rw [e, loopC_succ]
      simp only [e0]
      rfl
theorem gen_ptr {C : Calls} {n : Nat} {sc : Names} {elt : Expr} {gens : List Comprehension} {ρ : Rho} {σ : List MO} {i : Nat} {ys : List PyData} (f : PyData → List PyData) (hi : σ[i]? = some (.list ys)) (ho : okG gens ρ = true) (hl : ys.length ≤ 4096) (h : ∀ y ∈ ys, turnK C n sc elt gens ρ y σ = some (f y, σ)) :
    evGens (fun e ρ' => evE C glob n sc ρ' e) (fun tup e ρ' => evIter (evE C glob n sc ρ') sc tup e) sc elt gens (.ptr i) ρ σ = some (ys.flatMap f, σ) := by
  cases gens with
  | nil => (first | exact nope ho | exact nopeB ho | cases ho)
  | cons g gs =>
    have h1 : genOk ρ g = true := ho
    rw [evGens_cons, if_pos h1]
    refine (loopC_ptr _ hi (fun y hy => ?_) lim 0 (by unfold lim; (first | lia | omega))).trans rfl
    have e := h y hy
    unfold turnK at e
    dsimp only at e
    rw [genK_eq, toK_id] at e
    exact e
/-- a point -/
noncomputable abbrev Pt := Int × Int × Int
noncomputable def ptV (p : Pt) : PyData := .tuple [.int p.1, .int p.2.1, .int p.2.2]
noncomputable def Pt.at (p : Pt) : Nat → Int
  | 0 => p.1
  | 1 => p.2.1
  | _ => p.2.2
noncomputable def PSm (p : Pt) : Prop := Sm p.1 ∧ Sm p.2.1 ∧ Sm p.2.2
theorem PSm.at {p : Pt} (h : PSm p) : ∀ v, Sm (p.at v)
  | 0 => h.1
  | 1 => h.2.1
  | _ + 2 => h.2.2
theorem it_pt (σ : List MO) (p : Pt) {v : Nat} (hv : v < 3) : itemD σ (.d (ptV p)) (.d (.int (v : Int))) = some (.int (p.at v)) := by
  match v, hv with
  | 0, _ => kernel_rfl
  | 1, _ => kernel_rfl
  | 2, _ => kernel_rfl
noncomputable def dot (cs : List Int) (xs : List Nat) (p : Pt) : Int := ((cs.zip xs).map fun q => q.1 * p.at q.2).sum
noncomputable def cxD (q : Int × Nat) : PyData := .tuple [.int q.1, .int (q.2 : Int)]
theorem zip_cs : ∀ (cs : List Int) (xs : List Nat), ((cs.map PyData.int).zip (xsD xs)).map (fun q => PyData.tuple [q.1, q.2]) = (cs.zip xs).map cxD
  | [], _ => rfl
  | _ :: _, [] => rfl
  | c :: cs, x :: xs => by
    have := zip_cs cs xs
    unfold xsD at this ⊢
    simp only [List.map, List.zip_cons_cons]
    rw [this]; rfl
theorem zip_t (σ : List MO) {xs ys : List PyData} (hx : xs.length ≤ 4096) (hy : ys.length ≤ 4096) : zipD [.d (.tuple xs), .d (.tuple ys)] σ = some (.fix ((xs.zip ys).map fun q => .tuple [q.1, q.2]), σ) := by
  have e : zipD [.d (.tuple xs), .d (.tuple ys)] σ = ofO (gd (okLen xs.length && okLen ys.length) (.fix ((xs.zip ys).map fun q => .tuple [q.1, q.2]))) σ := rfl
  rw [e, okLen_of hx, okLen_of hy]; rfl
theorem zip_l (σ : List MO) {xs ys : List PyData} (hx : xs.length ≤ 4096) (hy : ys.length ≤ 4096) : zipD [.d (.list xs), .d (.tuple ys)] σ = some (.fix ((xs.zip ys).map fun q => .tuple [q.1, q.2]), σ) := by
  have e : zipD [.d (.list xs), .d (.tuple ys)] σ = ofO (gd (okLen xs.length && okLen ys.length) (.fix ((xs.zip ys).map fun q => .tuple [q.1, q.2]))) σ := rfl
  rw [e, okLen_of hx, okLen_of hy]; rfl
theorem sh_tae (C : Calls) (o : Val) (a v : PyData) (σ : List MO) : turnK C 35 (eNames (eItem 0 (eL (eItem 1 (eL (sE (sAt 6 (fnI (.fn "_law_truth_at")).body))))))) (eElt (eItem 0 (eL (eItem 1 (eL (sE (sAt 6 (fnI (.fn "_law_truth_at")).body))))))) (eGens (eItem 0 (eL (eItem 1 (eL (sE (sAt 6 (fnI (.fn "_law_truth_at")).body))))))) [("one", o)] (.tuple [a, v]) σ = (itemD σ o (.d v)).bind fun y => (binD .Mult σ (.d a) (.d y)).bind fun y => some ([y], σ) := by kernel_rfl
theorem g_tae (C : Calls) (cs : List Int) (xs : List Nat) (p : Pt) (hp : PSm p) (hc : ∀ a ∈ cs, Sm a) (hv : ∀ v ∈ xs, v < 3) (hl : cs.length ≤ 3) (σ : List MO) : g_truth_at_e_0 C (.fix ((cs.zip xs).map cxD)) [("one", .d (ptV p))] σ = some ((((cs.zip xs).map fun q => q.1 * p.at q.2)).map .int, σ) := by
  unfold g_truth_at_e_0
  rw [gen_map (fun q : Int × Nat => [PyData.int (q.1 * p.at q.2)]) (by kernel_rfl) (by rw [List.length_zip]; (first | lia | omega)) fun q hq => ?_]
  · rw [flat_one, List.map_map]; rfl
  · obtain ⟨a, v⟩ := q
    have hm := List.of_mem_zip hq
    refine (sh_tae C (.d (ptV p)) (.int a) (.int (v : Int)) σ).trans ?_
    rw [it_pt σ p (hv v hm.2), Option.bind_some, bin_mul σ (hc a hm.1) (hp.at v)]; rfl
theorem toldK_at {K : List TKey} {i : Nat} (hi : i < K.length) : ∀ n : Nat, ((K.zipIdx n).map toldK).flatMap (fun y => match y with
    | .tuple [_, .int v, _] => if v == ((n + i + 3 : Nat) : Int) then [y] else []
    | _ => []) = [toldK (K[i], n + i)] := by
  induction K generalizing i with
  | nil => exact absurd hi (Nat.not_lt_zero _)
  | cons a K ih =>
    intro n
    rw [List.zipIdx_cons, List.map, List.flatMap_cons]
    cases i with
    | zero =>
      have rest : ∀ (K : List TKey) (m : Nat), n < m → ((K.zipIdx m).map toldK).flatMap (fun y => match y with
          | .tuple [_, .int v, _] => if v == ((n + 0 + 3 : Nat) : Int) then [y] else []
          | _ => []) = [] := by
        intro K
        induction K with
        | nil => intro m _; rfl
        | cons a K ih =>
          intro m hm
          rw [List.zipIdx_cons, List.map, List.flatMap_cons, ih (m + 1) (by omega)]
          unfold toldK
          dsimp only
          rw [if_neg (by rw [beq_iff_eq]; omega)]; rfl
      rw [rest K (n + 1) (by omega)]
      unfold toldK
      dsimp only
      first | (rw [if_pos (by rw [beq_iff_eq])]; done) | (rw [if_pos (by rw [beq_iff_eq])]; rfl)
    | succ i =>
      have := ih (i := i) (by simpa using hi) (n + 1)
      rw [show n + 1 + i = n + (i + 1) by omega] at this
      rw [this]
      unfold toldK
      dsimp only
      rw [if_neg (by rw [beq_iff_eq]; omega)]; rfl
theorem g_tar (C : Calls) (x : Cx) (K : List TKey) (hK : K.length ≤ 500) {i : Nat} (hi : i < K.length) : g_truth_at_r_0 C (.ptr 5) [("x", .d (.int ((i + 3 : Nat) : Int)))] (S x K) = some ([toldK (K[i], i)], S x K) := by
  unfold g_truth_at_r_0
  have tl : (toldsD K).length ≤ 4096 := by unfold toldsD; simp; (first | lia | omega)
  rw [gen_ptr (ys := toldsD K) (fun y => match y with
    | .tuple [_, .int v, _] => if v == ((i + 3 : Nat) : Int) then [y] else []
    | _ => []) rfl (by kernel_rfl) tl fun y hy => ?_]
  · have := toldK_at hi 0
    rw [Nat.zero_add] at this
    unfold toldsD
    rw [this]
  · obtain ⟨q, hq, rfl⟩ := List.mem_map.mp hy
    unfold toldK
    dsimp only
    refine Eq.trans (b := (if ((q.2 + 3 : Nat) : Int) == ((i + 3 : Nat) : Int) then (fun σ => some ([PyData.tuple [.str "reif", .int ((q.2 + 3 : Nat) : Int), keyD q.1]], σ)) else (fun σ => some ([], σ))) (S x K)) (by kernel_rfl) ?_
    cases (((q.2 + 3 : Nat) : Int) == ((i + 3 : Nat) : Int)) <;> rfl
end Mine.Q
end
section
open PySem PySem.W PyProof.Rows
set_option Elab.async false
set_option maxRecDepth 100000
set_option linter.unusedSimpArgs false
namespace Mine.Q
theorem c_ta_const (n : Nat) (b : Bool) (o : Val) (σ : List MO) : Cn (n + 1) (.fn "_law_truth_at") [.p 2, .d (.bool b), o] σ = some (.d (.bool b), σ) := by
  rw [k_law_truth_at, s_truth_at]
  simp only [isb_bool, a_flat, a_made, a_vars, a_tolds, m_dom, m_new, m_size, m_post, m_bounds, m_row, m_rt, m_tt, m_once, m_ap4, m_ap5, pt, mm_some, Option.bind_some, cmp_eq_int, cmp_ne_int, cmp_eq_bool, cmp_lt, cmp_le, cmp_gt, cmp_ge, bin_add, bin_sub, b_min, b_max, b_max2, b_abs, exK, plainV, ↓reduceIte, Bool.false_eq_true, Bool.not_true, Bool.not_false]
theorem isb_bit (v : Int) (up : Bool) : isinstD (.d (.tuple [.str "bit", .int v, .bool up])) "bool" = some false := by kernel_rfl
theorem bv_ta0 (w v u : PyData) (t o : Val) : bindV (fnI (.fn "_law_truth_at")).sc (sTg (sAt 1 (fnI (.fn "_law_truth_at")).body)) (.d (.tuple [w, v, u])) [("gatherer", .p 2), ("truth", t), ("one", o)] = some ([("is_up", .d u), ("x", .d v), ("word", .d w), ("gatherer", .p 2), ("truth", t), ("one", o)] : Rho) := by kernel_rfl
theorem bv_ta (v : Int) (up : Bool) (o : Val) : bindV (fnI (.fn "_law_truth_at")).sc (sTg (sAt 1 (fnI (.fn "_law_truth_at")).body)) (.d (.tuple [.str "bit", .int v, .bool up])) [("gatherer", .p 2), ("truth", .d (.tuple [.str "bit", .int v, .bool up])), ("one", o)] = some ([("is_up", .d (.bool up)), ("x", .d (.int v)), ("word", .d (.str "bit")), ("gatherer", .p 2), ("truth", .d (.tuple [.str "bit", .int v, .bool up])), ("one", o)] : Rho) := bv_ta0 _ _ _ _ _
theorem trD_bit (v : Nat) (up : Bool) : trD (.bit v up) = .tuple [.str "bit", .int (v : Int), .bool up] := rfl
theorem c_ta_var0 (n : Nat) (w : Int) (hw : decide (w < 3) = true) (up : Bool) (o : PyData) (y : Int) (σ : List MO) (h : itemD σ (.d o) (.d (.int w)) = some (.int y)) : Cn (n + 1) (.fn "_law_truth_at") [.p 2, .d (.tuple [.str "bit", .int w, .bool up]), .d o] σ = some (.d (.bool ((y == 1) == up)), σ) := by
  have c1 := cmp_lt σ w 3
  rw [hw] at c1
  have c2 := cmp_eq_int σ y 1
  have c3 := cmp_eq_bool σ (y == 1) up
  rw [k_law_truth_at, s_truth_at, isb_bit, Option.bind_some, if_neg (by simp), bv_ta, Option.bind_some, s_truth_at_r, c1, Option.bind_some, if_pos rfl, h, Option.bind_some, c2, Option.bind_some, c3, Option.bind_some]
theorem c_ta_var (n : Nat) {v : Nat} (hv : v < 3) (up : Bool) (p : Pt) (σ : List MO) : Cn (n + 1) (.fn "_law_truth_at") [.p 2, .d (trD (.bit v up)), .d (ptV p)] σ = some (.d (.bool ((p.at v == 1) == up)), σ) := by
  rw [trD_bit]
  exact c_ta_var0 n v (decide_eq_true (by omega)) up (ptV p) (p.at v) σ (it_pt σ p hv)
theorem c_ta_key (n : Nat) (x : Cx) (K : List TKey) (hK : K.length ≤ 500) {i : Nat} (hi : i < K.length) (kd : Kd) (cs : List Int) (xs : List Nat) (c : Int) (hk : K[i] = mkKey kd cs xs c) (up : Bool) (p : Pt) (hp : PSm p) (hc : ∀ a ∈ cs, Sm a) (hv : ∀ v ∈ xs, v < 3) (h1 : cs.length ≤ 3) (h2 : xs.length ≤ 3) :
    Cn (n + 2) (.fn "_law_truth_at") [.p 2, .d (trD (.bit (i + 3) up)), .d (ptV p)] (S x K) = some (.d (.bool (stands kd (dot cs xs p - c) == up)), S x K) := by
  have h3 : decide (((i + 3 : Nat) : Int) < 3) = false := decide_eq_false (by (first | lia | omega))
  have it0 : ∀ y : PyData, itemD (S x K) (.d (.list [y])) (.d (.int 0)) = some y := fun _ => by kernel_rfl
  have it2 : ∀ a b y : PyData, itemD (S x K) (.d (.tuple [a, b, y])) (.d (.int 2)) = some y := fun _ _ _ => by kernel_rfl
  have bv : ∀ (td : PyData) (u v w : PyData) (t o : Val), bindV (fnI (.fn "_law_truth_at")).sc (sTg (sAt 5 (fnI (.fn "_law_truth_at")).body)) (.d (toldD kd cs xs c)) [("told", .d td), ("is_up", .d u), ("x", .d v), ("word", .d w), ("gatherer", .p 2), ("truth", t), ("one", o)] = some ([("c", .d (.int c)), ("some", .d (.tuple (xsD xs))), ("coefs", .d (.tuple (cs.map .int))), ("kind", .d (.str kd.s)), ("told", .d td), ("is_up", .d u), ("x", .d v), ("word", .d w), ("gatherer", .p 2), ("truth", t), ("one", o)] : Rho) := fun _ _ _ _ _ _ => by kernel_rfl
  have lz : okLen (((cs.zip xs).map fun q => q.1 * p.at q.2).map PyData.int).length = true := okLen_of (by simp [List.length_zip]; (first | lia | omega))
  have lc : (cs.map PyData.int).length ≤ 4096 := by simp; (first | lia | omega)
  have lx : (xsD xs).length ≤ 4096 := by unfold xsD; simp; (first | lia | omega)
  have T := g_tar (Cn (n + 1)) x K hK hi
  unfold toldK at T
  dsimp only at T
  rw [hk, keyD_mk] at T
  have zz : zipD [.d (.tuple (cs.map .int)), .d (.tuple (xsD xs))] (S x K) = some (.fix ((cs.zip xs).map cxD), S x K) := by rw [zip_t _ lc lx, zip_cs]
  rw [trD_bit, k_law_truth_at, s_truth_at]
  refine ob (isb_bit _ _) (iF rfl (ob (bv_ta _ _ _) ((s_truth_at_r _ _ _ _ _ _ _ _ _ _).trans (ob (cmp_lt _ _ _) (iF h3 (ob (a_flat x _ _ _) (ob (a_tolds x _ _ _) (ob (iter5 x _ _ _) (ob T (iT (by kernel_rfl) ?_))))))))))
  refine ob (b_lenl _ (Nat.succ_le_succ (Nat.zero_le _))) (ob (cmp_ne_int _ _ _) (iF rfl (ob (a_flat x _ _ _) (ob (pt 3) (ob (m_dom x _ _ _) (obM (c_dom3 n x K (by (first | lia | omega)) hi) (ob (truths_ne _) (iF rfl ?_))))))))
  refine (s_truth_at_b _ _ _ _ _ _ _ _ _ _ _).trans (ob (it0 _) (ob (it2 _ _ _) (ob (bv _ _ _ _ _ _) ?_)))
  exact (s_truth_at_e _ _ _ _ _ _ _ _ _ _ _ _ _ _ _).trans (ob zz (ob (g_tae _ cs xs p hp hc hv h1 _) (iT lz (ob (b_sum _ _) (ob (bin_sub _ _ _) (ob (c_stands n kd _ _) (ob (cmp_eq_bool _ _ _) rfl)))))))
/-- what a literal is worth at a point -/
noncomputable def ltV (p : Pt) : Lt → Bool
  | .const b => b
  | .lit kd cs xs c fl => stands kd (dot cs xs p - c) != fl
theorem ltV_lit (p : Pt) (kd : Kd) (cs : List Int) (xs : List Nat) (c : Int) (fl : Bool) : ltV p (.lit kd cs xs c fl) = (stands kd (dot cs xs p - c) != fl) := rfl
theorem ltT_lit (x : Cx) (K : List TKey) (kd : Kd) (cs : List Int) (xs : List Nat) (c : Int) (fl : Bool) : ltT x K (.lit kd cs xs c fl) = if fl then (ttT x K kd cs xs c).neg else ttT x K kd cs xs c := rfl
theorem ltK_lit (x : Cx) (K : List TKey) (kd : Kd) (cs : List Int) (xs : List Nat) (c : Int) (fl : Bool) : ltK x K (.lit kd cs xs c fl) = ttK x K kd cs xs c := rfl
structure LOk (kd : Kd) (cs : List Int) (xs : List Nat) : Prop where
  kn : kd ≠ .ne
  lc : cs.length ≤ 3
  sm : ∀ a ∈ cs, Sm a
  lx : xs.length ≤ 3
  vs : ∀ v ∈ xs, v < 3
  ne : xs ≠ []
theorem put_mem (K : List TKey) (k : TKey) : k ∈ put K k := by
  unfold put
  by_cases h : k ∈ K
  · rw [if_pos h]; exact h
  · rw [if_neg h]; simp
theorem beq_flip (a b : Bool) : (a == !b) = !(a == b) := by cases a <;> cases b <;> rfl
theorem c_ta_lit (n : Nat) (x : Cx) (K : List TKey) (kd : Kd) (cs : List Int) (xs : List Nat) (c : Int) (fl : Bool) (h : LOk kd cs xs) (hK : (ttK x K kd cs xs c).length ≤ 500) (p : Pt) (hp : PSm p) (hd : isDir x cs xs → ((p.at (xs.headD 0) == 1) == (decide (kd = .eq) && c == 1)) = stands kd (dot cs xs p - c)) :
    Cn (n + 2) (.fn "_law_truth_at") [.p 2, .d (trD (ltT x K (.lit kd cs xs c fl))), .d (ptV p)] (S x (ttK x K kd cs xs c)) = some (.d (.bool (ltV p (.lit kd cs xs c fl))), S x (ttK x K kd cs xs c)) := by
  rw [ltT_lit, ltV_lit]
  have hx : xs.headD 0 < 3 := by
    obtain ⟨-, -, -, -, h4, h3⟩ := h
    cases xs with
    | nil => exact absurd rfl h3
    | cons v xs => exact h4 v (.head _)
  by_cases e : isDir x cs xs
  · have e1 : ttT x K kd cs xs c = .bit (xs.headD 0) (decide (kd = .eq) && c == 1) := if_pos e
    rw [e1]
    cases fl with
    | false =>
      rw [if_neg (by simp), c_ta_var (n + 1) hx, hd e]
      simp
    | true =>
      rw [if_pos rfl]
      show Cn (n + 2) (.fn "_law_truth_at") [.p 2, .d (trD (.bit (xs.headD 0) (!(decide (kd = .eq) && c == 1)))), .d (ptV p)] _ = _
      rw [c_ta_var (n + 1) hx, beq_flip, hd e]
      simp
  · have e1 : ttT x K kd cs xs c = .bit (ix K (mkKey kd cs xs c)) true := if_neg e
    have e2 : ttK x K kd cs xs c = put K (mkKey kd cs xs c) := if_neg e
    rw [e1]
    rw [e2] at hK ⊢
    have hi := List.idxOf_lt_length_iff.mpr (put_mem K (mkKey kd cs xs c))
    have key := fun up => c_ta_key n x _ hK hi kd cs xs c (List.getElem_idxOf hi) up p hp h.sm h.vs h.lc h.lx
    cases fl with
    | false =>
      rw [if_neg (by simp)]
      have := key true
      unfold ix
      rw [this]
      simp
    | true =>
      rw [if_pos rfl]
      have := key false
      show Cn (n + 2) (.fn "_law_truth_at") [.p 2, .d (trD (.bit (ix K (mkKey kd cs xs c)) false)), .d (ptV p)] _ = _
      unfold ix
      rw [this]
      simp
end Mine.Q
end
section
open PySem PySem.W PyProof.Rows
set_option Elab.async false
set_option maxRecDepth 100000
set_option linter.unusedSimpArgs false
namespace Mine.Q
noncomputable def eIf : Expr → Expr
  | .ListComp _ (g :: _) _ _ => (g.ifs[0]?).getD eNo
  | _ => eNo
noncomputable def g_i_rr_b_1_0 (C : Calls) (src : Src) (ρ : Rho) : M (List PyData) := evGens (fun e ρ' => evE C glob 36 (eNames (eL (eIf (eL (sT (sAt 5 (fnI (.fn "_law_is_row_right")).body)))))) ρ' e) (fun tup e ρ' => evIter (evE C glob 36 (eNames (eL (eIf (eL (sT (sAt 5 (fnI (.fn "_law_is_row_right")).body)))))) ρ') (eNames (eL (eIf (eL (sT (sAt 5 (fnI (.fn "_law_is_row_right")).body)))))) tup e) (eNames (eL (eIf (eL (sT (sAt 5 (fnI (.fn "_law_is_row_right")).body)))))) (eElt (eL (eIf (eL (sT (sAt 5 (fnI (.fn "_law_is_row_right")).body)))))) (eGens (eL (eIf (eL (sT (sAt 5 (fnI (.fn "_law_is_row_right")).body)))))) src ρ
noncomputable def g_i_rr_b_2_0 (C : Calls) (src : Src) (ρ : Rho) : M (List PyData) := evGens (fun e ρ' => evE C glob 34 (eNames (eItem 0 (eL (eItem 1 (eElt (eL (sE (sAt 6 (fnI (.fn "_law_is_row_right")).body)))))))) ρ' e) (fun tup e ρ' => evIter (evE C glob 34 (eNames (eItem 0 (eL (eItem 1 (eElt (eL (sE (sAt 6 (fnI (.fn "_law_is_row_right")).body)))))))) ρ') (eNames (eItem 0 (eL (eItem 1 (eElt (eL (sE (sAt 6 (fnI (.fn "_law_is_row_right")).body)))))))) tup e) (eNames (eItem 0 (eL (eItem 1 (eElt (eL (sE (sAt 6 (fnI (.fn "_law_is_row_right")).body)))))))) (eElt (eItem 0 (eL (eItem 1 (eElt (eL (sE (sAt 6 (fnI (.fn "_law_is_row_right")).body)))))))) (eGens (eItem 0 (eL (eItem 1 (eElt (eL (sE (sAt 6 (fnI (.fn "_law_is_row_right")).body)))))))) src ρ
noncomputable def g_i_sum_b1_0_0 (C : Calls) (src : Src) (ρ : Rho) : M (List PyData) := evGens (fun e ρ' => evE C glob 36 (eNames (eItem 0 (eL (eElt (sE (sAt 0 (sB (sAt 1 (fnI (.fn "_law_is_sum_right")).body)))))))) ρ' e) (fun tup e ρ' => evIter (evE C glob 36 (eNames (eItem 0 (eL (eElt (sE (sAt 0 (sB (sAt 1 (fnI (.fn "_law_is_sum_right")).body)))))))) ρ') (eNames (eItem 0 (eL (eElt (sE (sAt 0 (sB (sAt 1 (fnI (.fn "_law_is_sum_right")).body)))))))) tup e) (eNames (eItem 0 (eL (eElt (sE (sAt 0 (sB (sAt 1 (fnI (.fn "_law_is_sum_right")).body)))))))) (eElt (eItem 0 (eL (eElt (sE (sAt 0 (sB (sAt 1 (fnI (.fn "_law_is_sum_right")).body)))))))) (eGens (eItem 0 (eL (eElt (sE (sAt 0 (sB (sAt 1 (fnI (.fn "_law_is_sum_right")).body)))))))) src ρ
theorem t_lsum_0 (C : Calls) (x a : PyData) (σ : List MO) : turnK C 37 (eNames (eItem 0 (eItem 1 (sE (sAt 0 (fnI (.fn "_law_sum")).body))))) (eElt (eItem 0 (eItem 1 (sE (sAt 0 (fnI (.fn "_law_sum")).body))))) (eGens (eItem 0 (eItem 1 (sE (sAt 0 (fnI (.fn "_law_sum")).body))))) [] (.tuple [x, a]) σ =
  ((cmpD .NotEq σ (.d (a)) (.d (.int 0))).bind fun b1 => (if b1 then (fun σ2 => some ([.tuple [x, a]], σ2)) else (fun σ2 => some ([], σ2))) σ) := by kernel_rfl
theorem t_rr_b_0 (C : Calls) (a : PyData) (σ : List MO) : turnK C 38 (eNames (eItem 0 (sE (sAt 4 (fnI (.fn "_law_is_row_right")).body)))) (eElt (eItem 0 (sE (sAt 4 (fnI (.fn "_law_is_row_right")).body)))) (eGens (eItem 0 (sE (sAt 4 (fnI (.fn "_law_is_row_right")).body)))) [] (a) σ =
  ((builtinD σ "abs" [.d (a)]).bind fun y1 => some ([y1], σ)) := by kernel_rfl
theorem t_rr_b_1 (C : Calls) (cs : Val) (d : PyData) (σ : List MO) : turnK C 38 (eNames (eL (sT (sAt 5 (fnI (.fn "_law_is_row_right")).body)))) (eElt (eL (sT (sAt 5 (fnI (.fn "_law_is_row_right")).body)))) (eGens (eL (sT (sAt 5 (fnI (.fn "_law_is_row_right")).body)))) [("coefs", cs)] (d) σ =
  ((iterOf σ (cs)).bind fun r1 => (g_i_rr_b_1_0 C (r1) [("d", .d (d))] σ).bind fun q2 => (if okLen q2.1.length then (fun σ3 => (cmpD .Eq σ3 (.d (.list q2.1)) (.d (.list []))).bind fun b4 => (if b4 then (fun σ5 => some ([d], σ5)) else (fun σ5 => some ([], σ5))) σ3) else noK) q2.2) := by kernel_rfl
theorem t_i_rr_b_1_0 (C : Calls) (d a : PyData) (σ : List MO) : turnK C 36 (eNames (eL (eIf (eL (sT (sAt 5 (fnI (.fn "_law_is_row_right")).body)))))) (eElt (eL (eIf (eL (sT (sAt 5 (fnI (.fn "_law_is_row_right")).body)))))) (eGens (eL (eIf (eL (sT (sAt 5 (fnI (.fn "_law_is_row_right")).body)))))) [("d", .d (d))] (a) σ =
  ((binD .Mod σ (.d (a)) (.d (d))).bind fun y1 => (cmpD .NotEq σ (.d (y1)) (.d (.int 0))).bind fun b2 => (if b2 then (fun σ3 => some ([a], σ3)) else (fun σ3 => some ([], σ3))) σ) := by kernel_rfl
theorem t_rr_b_2 (C : Calls) (c xs cs : PyData) (k : Val) (o : PyData) (σ : List MO) : turnK C 38 (eNames (eL (sE (sAt 6 (fnI (.fn "_law_is_row_right")).body)))) (eElt (eL (sE (sAt 6 (fnI (.fn "_law_is_row_right")).body)))) (eGens (eL (sE (sAt 6 (fnI (.fn "_law_is_row_right")).body)))) [("c", .d (c)), ("some", .d (xs)), ("coefs", .d (cs)), ("kind", k)] (o) σ =
  ((zipD [.d (cs), .d (xs)] σ).bind fun p1 => (g_i_rr_b_2_0 C (p1.1) [("one", .d (o))] p1.2).bind fun q2 => (if okLen q2.1.length then (fun σ3 => (builtinD σ3 "sum" [.d (.list q2.1)]).bind fun y4 => (binD .Sub σ3 (.d (y4)) (.d (c))).bind fun y5 => (C (.fn "_law_stands") [k, .d (y5)] σ3).bind fun p6 => (Val.data? (p6.1)).bind fun yy => some ([yy], p6.2)) else noK) q2.2) := by kernel_rfl
theorem t_i_rr_b_2_0 (C : Calls) (o a y : PyData) (σ : List MO) : turnK C 34 (eNames (eItem 0 (eL (eItem 1 (eElt (eL (sE (sAt 6 (fnI (.fn "_law_is_row_right")).body)))))))) (eElt (eItem 0 (eL (eItem 1 (eElt (eL (sE (sAt 6 (fnI (.fn "_law_is_row_right")).body)))))))) (eGens (eItem 0 (eL (eItem 1 (eElt (eL (sE (sAt 6 (fnI (.fn "_law_is_row_right")).body)))))))) [("one", .d (o))] (.tuple [a, y]) σ =
  ((itemD σ (.d (o)) (.d (y))).bind fun y1 => (binD .Mult σ (.d (a)) (.d (y1))).bind fun y2 => some ([y2], σ)) := by kernel_rfl
theorem t_sum_b1_0 (C : Calls) (ns c : Val) (o : PyData) (σ : List MO) : turnK C 39 (eNames (sE (sAt 0 (sB (sAt 1 (fnI (.fn "_law_is_sum_right")).body))))) (eElt (sE (sAt 0 (sB (sAt 1 (fnI (.fn "_law_is_sum_right")).body))))) (eGens (sE (sAt 0 (sB (sAt 1 (fnI (.fn "_law_is_sum_right")).body))))) [("numbers", ns), ("constant", c)] (o) σ =
  ((zipD [ns, .d (o)] σ).bind fun p1 => (g_i_sum_b1_0_0 C (p1.1) [] p1.2).bind fun q2 => (if okLen q2.1.length then (fun σ3 => (builtinD σ3 "sum" [.d (.list q2.1)]).bind fun y4 => (binD .Add σ3 (.d (y4)) (c)).bind fun y5 => some ([y5], σ3)) else noK) q2.2) := by kernel_rfl
theorem t_i_sum_b1_0_0 (C : Calls) (a b : PyData) (σ : List MO) : turnK C 36 (eNames (eItem 0 (eL (eElt (sE (sAt 0 (sB (sAt 1 (fnI (.fn "_law_is_sum_right")).body)))))))) (eElt (eItem 0 (eL (eElt (sE (sAt 0 (sB (sAt 1 (fnI (.fn "_law_is_sum_right")).body)))))))) (eGens (eItem 0 (eL (eElt (sE (sAt 0 (sB (sAt 1 (fnI (.fn "_law_is_sum_right")).body)))))))) [] (.tuple [a, b]) σ =
  ((binD .Mult σ (.d (a)) (.d (b))).bind fun y1 => some ([y1], σ)) := by kernel_rfl
theorem t_sum_b1_1 (C : Calls) (k a : PyData) (σ : List MO) : turnK C 39 (eNames (sE (sAt 1 (sB (sAt 1 (fnI (.fn "_law_is_sum_right")).body))))) (eElt (sE (sAt 1 (sB (sAt 1 (fnI (.fn "_law_is_sum_right")).body))))) (eGens (sE (sAt 1 (sB (sAt 1 (fnI (.fn "_law_is_sum_right")).body))))) [("kind", .d (k))] (a) σ =
  ((C (.fn "_law_stands") [.d (k), .d (a)] σ).bind fun p1 => (Val.data? (p1.1)).bind fun yy => some ([yy], p1.2)) := by kernel_rfl
theorem t_sum_b1_2 (C : Calls) (t g : Val) (o : PyData) (σ : List MO) : turnK C 38 (eNames (eL (sT (sAt 4 (sB (sAt 1 (fnI (.fn "_law_is_sum_right")).body)))))) (eElt (eL (sT (sAt 4 (sB (sAt 1 (fnI (.fn "_law_is_sum_right")).body)))))) (eGens (eL (sT (sAt 4 (sB (sAt 1 (fnI (.fn "_law_is_sum_right")).body)))))) [("truth", t), ("gatherer", g)] (o) σ =
  ((C (.fn "_law_truth_at") [g, t, .d (o)] σ).bind fun p1 => (Val.data? (p1.1)).bind fun yy => some ([yy], p1.2)) := by kernel_rfl
theorem t_sum_x6_0 (C : Calls) (o : Val) (a : PyData) (σ : List MO) : turnK C 36 (eNames (eItem 0 (eItem 1 (eL (sT (sAt 6 (sB (sAt 1 (fnI (.fn "_law_is_sum_right")).body)))))))) (eElt (eItem 0 (eItem 1 (eL (sT (sAt 6 (sB (sAt 1 (fnI (.fn "_law_is_sum_right")).body)))))))) (eGens (eItem 0 (eItem 1 (eL (sT (sAt 6 (sB (sAt 1 (fnI (.fn "_law_is_sum_right")).body)))))))) [("often", o)] (a) σ =
  ((binD .Mult σ (o) (.d (a))).bind fun y1 => some ([y1], σ)) := by kernel_rfl
theorem t_sum_x7_0 (C : Calls) (a : PyData) (σ : List MO) : turnK C 36 (eNames (eItem 0 (eItem 1 (eL (sT (sAt 0 (sB (sAt 7 (sB (sAt 1 (fnI (.fn "_law_is_sum_right")).body)))))))))) (eElt (eItem 0 (eItem 1 (eL (sT (sAt 0 (sB (sAt 7 (sB (sAt 1 (fnI (.fn "_law_is_sum_right")).body)))))))))) (eGens (eItem 0 (eItem 1 (eL (sT (sAt 0 (sB (sAt 7 (sB (sAt 1 (fnI (.fn "_law_is_sum_right")).body)))))))))) [] (a) σ =
  ((binD .Sub σ (.d (.int 0)) (.d (a))).bind fun y1 => some ([y1], σ)) := by kernel_rfl
theorem t_sum_x7_1 (C : Calls) (a : PyData) (σ : List MO) : turnK C 36 (eNames (eItem 0 (eItem 1 (eL (sT (sAt 0 (sO (sAt 7 (sB (sAt 1 (fnI (.fn "_law_is_sum_right")).body)))))))))) (eElt (eItem 0 (eItem 1 (eL (sT (sAt 0 (sO (sAt 7 (sB (sAt 1 (fnI (.fn "_law_is_sum_right")).body)))))))))) (eGens (eItem 0 (eItem 1 (eL (sT (sAt 0 (sO (sAt 7 (sB (sAt 1 (fnI (.fn "_law_is_sum_right")).body)))))))))) [] (a) σ =
  ((binD .Sub σ (.d (.int 0)) (.d (a))).bind fun y1 => some ([y1], σ)) := by kernel_rfl
theorem t_rows_b1_0 (C : Calls) (l : PyData) (f : Val) (a : PyData) (σ : List MO) : turnK C 36 (eNames (eR (eL (eItem 0 (sE (sAt 1 (sB (sAt 1 (fnI (.fn "_law_rows")).body)))))))) (eElt (eR (eL (eItem 0 (sE (sAt 1 (sB (sAt 1 (fnI (.fn "_law_rows")).body)))))))) (eGens (eR (eL (eItem 0 (sE (sAt 1 (sB (sAt 1 (fnI (.fn "_law_rows")).body)))))))) [("low", .d (l)), ("feed", f)] (a) σ =
  ((C (.fn "_law_draw") [f, .d (.int 2)] σ).bind fun p1 => (cmpD .Eq p1.2 (p1.1) (.d (.int 1))).bind fun b2 => (if b2 then (fun σ3 => (binD .Add σ3 (.d (l)) (.d (a))).bind fun y4 => some ([y4], σ3)) else (fun σ3 => some ([], σ3))) p1.2) := by kernel_rfl
theorem t_law_t1_0 (C : Calls) (f : Val) (a : PyData) (σ : List MO) : turnK C 39 (eNames (sE (sAt 0 (sB (sAt 4 (fnI (.fn "law")).body))))) (eElt (sE (sAt 0 (sB (sAt 4 (fnI (.fn "law")).body))))) (eGens (sE (sAt 0 (sB (sAt 4 (fnI (.fn "law")).body))))) [("feed", f)] (a) σ =
  ((C (.fn "_law_draw") [f, .d (.int 8)] σ).bind fun p1 => (itemD p1.2 (.d (.tuple [.int 0, .int 1, .int (-1), .int 2, .int (-2), .int 3, .int 4, .int (-6)])) (p1.1)).bind fun y2 => some ([y2], p1.2)) := by kernel_rfl
theorem t_law_0 (C : Calls) (a : PyData) (σ : List MO) : turnK C 38 (eNames (eL (eDict (sE (sAt 0 (fnI (.fn "law")).body))))) (eElt (eL (eDict (sE (sAt 0 (fnI (.fn "law")).body))))) (eGens (eL (eDict (sE (sAt 0 (fnI (.fn "law")).body))))) [] (a) σ =
  ((builtinD σ "abs" [.d (a)]).bind fun y1 => (binD .Mod σ (.d (y1)) (.d (.int 1000003))).bind fun y2 => some ([y2], σ)) := by kernel_rfl
end Mine.Q
end
section
open PySem PySem.W PyProof.Rows
set_option Elab.async false
set_option maxRecDepth 100000
set_option linter.unusedSimpArgs false
namespace Mine.Q
noncomputable def ptsD (ps : List Pt) : PyData := .list (ps.map ptV)
noncomputable def duesD (bs : List Bool) : PyData := .list (bs.map .bool)
theorem lay_dues (bs : List Bool) : Lay 1 (duesD bs) := lay_list lay_bools
theorem eq_dues (σ : List MO) (a b : List Bool) : cmpD .Eq σ (.d (duesD a)) (.d (duesD b)) = some (decide (a = b)) := by
  rw [cmp_eq σ (lay_dues a) (lay_dues b) (by omega) (by omega)]
  exact congrArg some (eqv_bools a b)
theorem ne_dues (σ : List MO) (a b : List Bool) : cmpD .NotEq σ (.d (duesD a)) (.d (duesD b)) = some (!decide (a = b)) := by
  rw [cmp_ne σ (lay_dues a) (lay_dues b) (by (first | lia | omega)) (by (first | lia | omega))]
  exact congrArg (fun b => some !b) (eqv_bools a b)
theorem nin_dues (σ : List MO) (b : Bool) (bs : List Bool) (h : b ∈ bs) : cmpD .NotIn σ (.d (.bool b)) (.d (duesD bs)) = some false := by
  show (gd (eqOk (.bool b) && eqOk (duesD bs)) ((bs.map PyData.bool).any fun y => PyData.eqv y (.bool b))).map (fun b => !b) = _
  rw [(lay_bool 0 b).ok (by (first | lia | omega)), (lay_dues bs).ok (by (first | lia | omega))]
  have : (bs.map PyData.bool).any (fun y => PyData.eqv y (.bool b)) = true := by
    rw [List.any_map, List.any_eq_true]
    exact ⟨b, h, by cases b <;> rfl⟩
  rw [this]; rfl
theorem in_ints (σ : List MO) (cs : List Int) (h : ∀ a ∈ cs, a ≠ 0) : cmpD .In σ (.d (.int 0)) (.d (.tuple (cs.map .int))) = some false := by
  show (if eqOk (.int 0) && eqOk (.tuple (cs.map .int)) then some ((cs.map PyData.int).any fun y => PyData.eqv y (.int 0)) else none) = _
  rw [(lay_int 0 0).ok (by omega), (lay_tuple (k := 0) (xs := cs.map PyData.int) lay_ints).ok (by omega)]
  have : (cs.map PyData.int).any (fun y => PyData.eqv y (.int 0)) = false := by
    rw [List.any_map, List.any_eq_false]
    intro a ha e
    have : (a == 0) = true := e
    exact h a ha (by simpa using this)
  rw [this]; rfl
theorem eq_nil (σ : List MO) (cs : List Int) (h : cs ≠ []) : cmpD .Eq σ (.d (.tuple (cs.map .int))) (.d (.tuple [])) = some false := by
  rw [cmp_eq σ (k := 1) (m := 1) (lay_tuple lay_ints) (lay_tuple (k := 0) (xs := []) fun _ h => nomatch h) (by omega) (by omega)]
  cases cs with
  | nil => exact absurd rfl h
  | cons a cs => rfl
theorem len_dues (σ : List MO) (bs : List Bool) (h : bs.length ≤ 4096) : builtinD σ "len" [.d (duesD bs)] = some (.int bs.length) := by
  unfold duesD
  rw [b_lenl σ (by simpa using h)]; simp
theorem flat_rep (b : Bool) : ∀ n : Nat, (List.replicate n [PyData.bool b]).flatten = (List.replicate n b).map .bool
  | 0 => rfl
  | n + 1 => by rw [List.replicate_succ, List.flatten_cons, flat_rep b n]; rfl
theorem c_rr_const (n : Nat) (b : Bool) (kd : Kd) (ps : Val) (due : List Bool) (hl : due.length ≤ 4096) (h : ∀ d ∈ due, d = b) (σ : List MO) :
    Cn (n + 1) (.fn "_law_is_row_right") [.d (.bool b), .d (.str kd.s), ps, .d (duesD due)] σ = some (.d (.bool true), σ) := by
  have al : allD [.d (.bool b)] = some [.bool b] := rfl
  have o1 : okLen [PyData.bool b].length = true := by kernel_rfl
  have ml : binD .Mult σ (.d (.list [.bool b])) (.d (.int due.length)) = some (duesD (List.replicate due.length b)) := by
    show (if okLen [PyData.bool b].length && decide (0 ≤ (due.length : Int)) && decide ((due.length : Int) ≤ 4096) then some (PyData.list (List.replicate (due.length : Int).toNat [PyData.bool b]).flatten) else none) = _
    rw [o1, decide_eq_true (by (first | lia | omega) : 0 ≤ (due.length : Int)), decide_eq_true (by (first | lia | omega) : (due.length : Int) ≤ 4096), Int.toNat_natCast, flat_rep]
    rfl
  have e : due = List.replicate due.length b := List.eq_replicate_iff.mpr ⟨rfl, h⟩
  rw [k_law_is_row_right, s_row_right]
  simp only [a_flat, a_made, a_vars, a_tolds, m_dom, m_new, m_size, m_post, m_bounds, m_row, m_rt, m_tt, m_once, m_ap4, m_ap5, pt, mm_some, Option.bind_some, cmp_eq_int, cmp_ne_int, cmp_eq_bool, cmp_lt, cmp_le, cmp_gt, cmp_ge, bin_add, bin_sub, b_min, b_max, b_max2, b_abs, exK, plainV, ↓reduceIte, Bool.false_eq_true, Bool.not_true, Bool.not_false, isb_bool, al, o1, len_dues σ due hl, ml, eq_dues]
  rw [decide_eq_true e]
theorem b_maxl (σ : List MO) (a : Int) (is : List Int) : builtinD σ "max" [.d (.list ((a :: is).map .int))] = some (.int (is.foldl (fun a b => if a < b then b else a) a)) := by
  have e : ∀ xs, builtinD σ "max" [.d (.list xs)] = (allInts xs).bind fun ns => (fstL ns).bind fun q => some (.int (q.2.foldl (fun a b => if a < b then b else a) q.1)) := fun xs => by kernel_rfl
  rw [e, allInts_map]; rfl
theorem fold_max : ∀ (is : List Int) (a m : Int), (0 ≤ a ∧ a ≤ m) → (∀ i ∈ is, 0 ≤ i ∧ i ≤ m) → 0 ≤ is.foldl (fun a b => if a < b then b else a) a ∧ is.foldl (fun a b => if a < b then b else a) a ≤ m
  | [], a, m, h, _ => h
  | i :: is, a, m, h, hs => by
    rw [List.foldl]
    have := hs i (.head _)
    refine fold_max is _ m ?_ fun j hj => hs j (.tail _ hj)
    split <;> omega
theorem g_rr0 (C : Calls) (cs : List Int) (h : cs.length ≤ 3) (σ : List MO) : g_rr_b_0 C (.fix (cs.map .int)) [] σ = some ((cs.map fun a => (a.natAbs : Int)).map .int, σ) := by
  unfold g_rr_b_0
  rw [gen_map (fun a : Int => [PyData.int (a.natAbs : Int)]) (by kernel_rfl) (by (first | lia | omega)) fun a _ => by
    rw [t_rr_b_0]; simp only [a_flat, a_made, a_vars, a_tolds, m_dom, m_new, m_size, m_post, m_bounds, m_row, m_rt, m_tt, m_once, m_ap4, m_ap5, pt, mm_some, Option.bind_some, cmp_eq_int, cmp_ne_int, cmp_eq_bool, cmp_lt, cmp_le, cmp_gt, cmp_ge, bin_add, bin_sub, b_min, b_max, b_max2, b_abs, exK, plainV, ↓reduceIte, Bool.false_eq_true, Bool.not_true, Bool.not_false]]
  rw [flat_one, List.map_map]; rfl
theorem g_rr1i (C : Calls) (cs : List Int) (h : cs.length ≤ 3) (d : Int) (hd : d ≠ 0) (σ : List MO) : g_i_rr_b_1_0 C (.fix (cs.map .int)) [("d", .d (.int d))] σ = some (cs.flatMap fun a => if a.fmod d ≠ 0 then [PyData.int a] else [], σ) := by
  unfold g_i_rr_b_1_0
  rw [gen_map (fun a : Int => if a.fmod d ≠ 0 then [PyData.int a] else []) (by kernel_rfl) (by omega) fun a _ => ?_]
  rw [t_i_rr_b_1_0]
  simp only [a_flat, a_made, a_vars, a_tolds, m_dom, m_new, m_size, m_post, m_bounds, m_row, m_rt, m_tt, m_once, m_ap4, m_ap5, pt, mm_some, Option.bind_some, cmp_eq_int, cmp_ne_int, cmp_eq_bool, cmp_lt, cmp_le, cmp_gt, cmp_ge, bin_add, bin_sub, b_min, b_max, b_max2, b_abs, exK, plainV, ↓reduceIte, Bool.false_eq_true, Bool.not_true, Bool.not_false, bin_mod σ a hd]
  by_cases e : a.fmod d = 0
  · rw [beq_iff_eq.mpr e, if_neg (by simp), if_neg (by simp [e])]
  · rw [beq_eq_false_iff_ne.mpr e, if_pos (by simp), if_pos e]
theorem flat_if_len (cs : List Int) (P : Int → Prop) [DecidablePred P] : (cs.flatMap fun a => if P a then [PyData.int a] else []).length ≤ cs.length := by
  induction cs with
  | nil => exact Nat.le_refl _
  | cons a cs ih =>
    rw [List.flatMap_cons, List.length_append, List.length_cons]
    have : (if P a then [PyData.int a] else []).length ≤ 1 := by split <;> simp
    (first | lia | omega)
theorem g_rr1 (C : Calls) (cs : List Int) (h : cs.length ≤ 3) (hg : ∀ d : Int, 2 ≤ d → ∃ a ∈ cs, a.fmod d ≠ 0) (m : Nat) (hm : m ≤ 4000) (σ : List MO) : g_rr_b_1 C (.fix ((upI 2 m).map .int)) [("coefs", .d (.tuple (cs.map .int)))] σ = some ([], σ) := by
  unfold g_rr_b_1
  have ul : (upI 2 m).length ≤ 4096 := by unfold upI; simp; (first | lia | omega)
  rw [gen_map (fun _ : Int => []) (by kernel_rfl) ul fun d hd => ?_]
  · congr 1; congr 1
    induction upI 2 m with
    | nil => rfl
    | cons a as ih => rw [List.flatMap_cons, ih]; rfl
  · have h2 : 2 ≤ d := by
      unfold upI at hd
      obtain ⟨k, _, rfl⟩ := List.mem_map.mp hd
      (first | lia | omega)
    obtain ⟨a, ha, h0⟩ := hg d h2
    have lc : (cs.map PyData.int).length ≤ 4096 := by simp; (first | lia | omega)
    have lq : (cs.flatMap fun a => if a.fmod d ≠ 0 then [PyData.int a] else []).length ≤ 3 := by
      exact Nat.le_trans (flat_if_len cs _) h
    have ne : cmpD .Eq σ (.d (.list (cs.flatMap fun a => if a.fmod d ≠ 0 then [PyData.int a] else []))) (.d (.list [])) = some false := by
      have hl : Lay 1 (.list (cs.flatMap fun a => if a.fmod d ≠ 0 then [PyData.int a] else [])) := lay_list fun y hy => by
        obtain ⟨b, _, hb⟩ := List.mem_flatMap.mp hy
        split at hb
        · rw [List.mem_singleton] at hb; subst hb; exact lay_int 0 b
        · (first | exact nope hb | exact nopeB hb | cases hb)
      rw [cmp_eq σ hl (lay_list (k := 0) (xs := []) fun _ h => nomatch h) (by (first | lia | omega)) (by (first | lia | omega))]
      have : PyData.int a ∈ cs.flatMap fun a => if a.fmod d ≠ 0 then [PyData.int a] else [] := List.mem_flatMap.mpr ⟨a, ha, by rw [if_pos h0]; simp⟩
      generalize (cs.flatMap fun a => if a.fmod d ≠ 0 then [PyData.int a] else []) = L at this
      cases L with
      | nil => (first | exact nope this | exact nopeB this | cases this)
      | cons y L => rfl
    rw [t_rr_b_1]
    simp only [a_flat, a_made, a_vars, a_tolds, m_dom, m_new, m_size, m_post, m_bounds, m_row, m_rt, m_tt, m_once, m_ap4, m_ap5, pt, mm_some, Option.bind_some, cmp_eq_int, cmp_ne_int, cmp_eq_bool, cmp_lt, cmp_le, cmp_gt, cmp_ge, bin_add, bin_sub, b_min, b_max, b_max2, b_abs, exK, plainV, ↓reduceIte, Bool.false_eq_true, Bool.not_true, Bool.not_false, io_t σ lc, g_rr1i C cs h d (by (first | lia | omega)), okLen_of (Nat.le_trans lq (by (first | lia | omega) : 3 ≤ 4096)), ne]
theorem g_rr2i (C : Calls) (cs : List Int) (xs : List Nat) (p : Pt) (hp : PSm p) (hc : ∀ a ∈ cs, Sm a) (hv : ∀ v ∈ xs, v < 3) (hl : cs.length ≤ 3) (σ : List MO) : g_i_rr_b_2_0 C (.fix ((cs.zip xs).map cxD)) [("one", .d (ptV p))] σ = some ((((cs.zip xs).map fun q => q.1 * p.at q.2)).map .int, σ) := by
  unfold g_i_rr_b_2_0
  rw [gen_map (fun q : Int × Nat => [PyData.int (q.1 * p.at q.2)]) (by kernel_rfl) (by rw [List.length_zip]; (first | lia | omega)) fun q hq => ?_]
  · rw [flat_one, List.map_map]; rfl
  · obtain ⟨a, v⟩ := q
    have hm := List.of_mem_zip hq
    refine (t_i_rr_b_2_0 C (ptV p) (.int a) (.int (v : Int)) σ).trans ?_
    rw [it_pt σ p (hv v hm.2), Option.bind_some, bin_mul σ (hc a hm.1) (hp.at v)]; rfl
theorem g_rr2 (n : Nat) (kd : Kd) (cs : List Int) (xs : List Nat) (c : Int) (ps : List Pt) (hp : ∀ p ∈ ps, PSm p) (hps : ps.length ≤ 27) (hc : ∀ a ∈ cs, Sm a) (hv : ∀ v ∈ xs, v < 3) (hl : cs.length ≤ 3) (hx : xs.length ≤ 3) (σ : List MO) :
    g_rr_b_2 (Cn (n + 1)) (.fix (ps.map ptV)) [("c", .d (.int c)), ("some", .d (.tuple (xsD xs))), ("coefs", .d (.tuple (cs.map .int))), ("kind", .d (.str kd.s))] σ = some ((ps.map fun p => stands kd (dot cs xs p - c)).map .bool, σ) := by
  unfold g_rr_b_2
  rw [gen_map (fun p : Pt => [PyData.bool (stands kd (dot cs xs p - c))]) (by kernel_rfl) (by (first | lia | omega)) fun p hpm => ?_]
  · rw [flat_one, List.map_map]; rfl
  · have lz : okLen (((cs.zip xs).map fun q => q.1 * p.at q.2).map PyData.int).length = true := okLen_of (by simp [List.length_zip]; (first | lia | omega))
    have lc : (cs.map PyData.int).length ≤ 4096 := by simp; (first | lia | omega)
    have lx : (xsD xs).length ≤ 4096 := by unfold xsD; simp; (first | lia | omega)
    rw [t_rr_b_2]
    simp only [a_flat, a_made, a_vars, a_tolds, m_dom, m_new, m_size, m_post, m_bounds, m_row, m_rt, m_tt, m_once, m_ap4, m_ap5, pt, mm_some, Option.bind_some, cmp_eq_int, cmp_ne_int, cmp_eq_bool, cmp_lt, cmp_le, cmp_gt, cmp_ge, bin_add, bin_sub, b_min, b_max, b_max2, b_abs, exK, plainV, ↓reduceIte, Bool.false_eq_true, Bool.not_true, Bool.not_false, zip_t _ lc lx, zip_cs, g_rr2i _ cs xs p (hp p hpm) hc hv hl, lz, b_sum, c_stands n kd]
    rfl
noncomputable def incs : List (List Nat) := [[0], [1], [2], [0, 1], [0, 2], [1, 2], [0, 1, 2]]
theorem incs_all {P : List Nat → Prop} (h : P [0] ∧ P [1] ∧ P [2] ∧ P [0, 1] ∧ P [0, 2] ∧ P [1, 2] ∧ P [0, 1, 2]) : ∀ x ∈ incs, P x := by
  intro x hx
  unfold incs at hx
  simp only [List.mem_cons, List.not_mem_nil, or_false] at hx
  obtain ⟨h1, h2, h3, h4, h5, h6, h7⟩ := h
  rcases hx with rfl | rfl | rfl | rfl | rfl | rfl | rfl <;> assumption
theorem incs_lt : ∀ x ∈ incs, ∀ v ∈ x, v < 3 := incs_all (by decide)
theorem incs_len : ∀ x ∈ incs, x.length ≤ 3 ∧ x ≠ [] := incs_all (by decide)
theorem sorted_xs : ∀ x ∈ incs, sortedSetD (.d (.tuple (xsD x))) = some (.list (xsD x)) := incs_all ⟨by kernel_rfl, by kernel_rfl, by kernel_rfl, by kernel_rfl, by kernel_rfl, by kernel_rfl, by kernel_rfl⟩
theorem same_xs (σ : List MO) : ∀ x ∈ incs, cmpD .NotEq σ (.d (.list (xsD x))) (.d (.list (xsD x))) = some false := incs_all ⟨by kernel_rfl, by kernel_rfl, by kernel_rfl, by kernel_rfl, by kernel_rfl, by kernel_rfl, by kernel_rfl⟩
theorem isb_toldD (kd : Kd) (cs : List Int) (xs : List Nat) (c : Int) : isinstD (.d (toldD kd cs xs c)) "bool" = some false := by kernel_rfl
theorem c_rr_told (n : Nat) (kd : Kd) (cs : List Int) (xs : List Nat) (c : Int) (ps : List Pt) (due : List Bool) (hd : due = ps.map fun p => stands kd (dot cs xs p - c)) (hle : kd = .le → true ∈ due ∧ false ∈ due)
    (hp : ∀ p ∈ ps, PSm p) (hps : ps.length ≤ 27) (hc : ∀ a ∈ cs, a.natAbs ≤ 1000 ∧ a ≠ 0) (hx : xs ∈ incs) (hlen : cs.length = xs.length) (hg : ∀ d : Int, 2 ≤ d → ∃ a ∈ cs, a.fmod d ≠ 0) (σ : List MO) :
    Cn (n + 2) (.fn "_law_is_row_right") [.d (toldD kd cs xs c), .d (.str kd.s), .d (ptsD ps), .d (duesD due)] σ = some (.d (.bool true), σ) := by
  have hxl := incs_len xs hx
  have hcl : cs.length ≤ 3 := by (first | lia | omega)
  have hs : ∀ a ∈ cs, Sm a := fun a ha => by have := (hc a ha).1; exact ⟨by (first | lia | omega), by (first | lia | omega)⟩
  have h0 : cs ≠ [] := by rintro rfl; exact hxl.2 (List.length_eq_zero_iff.mp hlen.symm)
  have lc : (cs.map PyData.int).length ≤ 4096 := by simp; (first | lia | omega)
  have lx : (xsD xs).length ≤ 4096 := by unfold xsD; simp; (first | lia | omega)
  have lp : (ps.map ptV).length ≤ 4096 := by simp; (first | lia | omega)
  have bv : bindV (fnI (.fn "_law_is_row_right")).sc (sTg (sAt 2 (fnI (.fn "_law_is_row_right")).body)) (.d (toldD kd cs xs c)) [("told", .d (toldD kd cs xs c)), ("kind", .d (.str kd.s)), ("points", .d (ptsD ps)), ("due", .d (duesD due))] = some ([("c", .d (.int c)), ("some", .d (.tuple (xsD xs))), ("coefs", .d (.tuple (cs.map .int))), ("name", .d (.str kd.s)), ("told", .d (toldD kd cs xs c)), ("kind", .d (.str kd.s)), ("points", .d (ptsD ps)), ("due", .d (duesD due))] : Rho) := by kernel_rfl
  have tail : ∀ σ, blK (Cn (n + 1)) glob 40 (fnI (.fn "_law_is_row_right")).sc 37 ((fnI (.fn "_law_is_row_right")).body.drop 3) ([("c", .d (.int c)), ("some", .d (.tuple (xsD xs))), ("coefs", .d (.tuple (cs.map .int))), ("name", .d (.str kd.s)), ("told", .d (toldD kd cs xs c)), ("kind", .d (.str kd.s)), ("points", .d (ptsD ps)), ("due", .d (duesD due))] : Rho) (fun _ σ => some (.d .none, σ)) (fun v σ => some (v, σ)) σ = some (.d (.bool true), σ) := by
    intro σ
    obtain ⟨a, as, rfl⟩ : ∃ a as, cs = a :: as := by cases cs with | nil => exact absurd rfl h0 | cons a as => exact ⟨a, as, rfl⟩
    have mx := fold_max (as.map fun a => (a.natAbs : Int)) (a.natAbs : Int) 1000 (by have := (hc a (.head _)).1; (first | lia | omega)) fun i hi => by
      obtain ⟨b, hb, rfl⟩ := List.mem_map.mp hi
      have := (hc b (.tail _ hb)).1; (first | lia | omega)
    have bm := b_maxl σ (a.natAbs : Int) (as.map fun a => (a.natAbs : Int))
    generalize (as.map fun a => (a.natAbs : Int)).foldl (fun a b => if a < b then b else a) (a.natAbs : Int) = M at mx bm
    have rg : rangeD [.d (.int 2), .d (.int (M + 1))] σ = some (.fix ((upI 2 (M + 1 - 2).toNat).map .int), σ) := by
      show ofO (gd (okSmall 2 && okSmall (M + 1)) (Src.fix ((upI (2 : Int).toNat (M + 1 - 2).toNat).map .int))) σ = _
      have : okSmall (M + 1) = true := by unfold okSmall; rw [decide_eq_true (by (first | lia | omega) : 0 ≤ M + 1), decide_eq_true (by (first | lia | omega) : M + 1 ≤ 4096)]; rfl
      rw [this]; rfl
    have lA : okLen (((a :: as).map fun a => (a.natAbs : Int)).map PyData.int).length = true := okLen_of (by simpa using (by (first | lia | omega) : (a :: as).length ≤ 4096))
    have lN : okLen ([] : List PyData).length = true := by kernel_rfl
    have nn : cmpD .NotEq σ (.d (.list [])) (.d (.list [])) = some false := by kernel_rfl
    have lD : okLen ((ps.map fun p => stands kd (dot (a :: as) xs p - c)).map PyData.bool).length = true := okLen_of (by simp; (first | lia | omega))
    have ll : (((((a :: as).map PyData.int).length : Nat) : Int) == (((xsD xs).length : Nat) : Int)) = true := by
      rw [beq_iff_eq]; unfold xsD; simp only [List.length_map]; (first | lia | omega)
    have ip : iterOf σ (.d (ptsD ps)) = some (.fix (ps.map ptV)) := io_l σ lp
    have A0 := g_rr0 (Cn (n + 1)) (a :: as) hcl σ
    have A1 := g_rr1 (Cn (n + 1)) (a :: as) hcl hg (M + 1 - 2).toNat (by (first | lia | omega)) σ
    have A2 := g_rr2 n kd (a :: as) xs c ps hp hps hs (incs_lt xs hx) hcl hxl.1 σ
    have fin := eq_dues σ due due
    rw [decide_eq_true rfl] at fin
    refine sg 35 1 ((s_rr_a _ _ _ _ _ _ _ _ _ _ _ _).trans (ob (kn_same _ _) (iF rfl (ob (b_list σ lx) (ob (sorted_xs xs hx) (ob (same_xs σ xs hx) (iF rfl ?_)))))))
    refine ob (b_lent σ lc) (ob (b_lent σ lx) (ob (cmp_ne_int _ _ _) (iF (by rw [ll]; rfl) (ob (in_ints σ (a :: as) (fun b hb => (hc b hb).2)) (iF rfl (ob (eq_nil σ (a :: as) (by simp)) (iF rfl ?_)))))))
    refine (s_rr_b _ _ _ _ _ _ _ _ _ _ _ _).trans (ob (io_t σ lc) (ob A0 (iT lA (ob bm (ob (bin_add _ _ _) (ob rg (ob A1 (iT lN (ob nn (iF rfl (ob ip (ob A2 (iT lD (ob ?_ rfl))))))))))))))
    rw [← hd]; exact fin
  rw [k_law_is_row_right, s_row_right]
  refine ob (isb_toldD _ _ _ _) (iF rfl (ob (ke_le _ _) ?_))
  by_cases hk : kd = .le
  · have h := hle hk
    exact iT (decide_eq_true hk) (ob (nin_dues σ _ _ h.1) (iF rfl (ob (nin_dues σ _ _ h.2) (iF rfl (ob bv (tail σ))))))
  · exact iF (decide_eq_false hk) (iF (decide_eq_false hk) (ob bv (tail σ)))
end Mine.Q
end
section
open PySem PySem.W PyProof.Rows
set_option Elab.async false
set_option maxRecDepth 100000
set_option linter.unusedSimpArgs false
namespace Mine.Q
theorem d_cells (cs : List PyData) (sp : Int) (rest : List MO) : itemD (Fd cs sp :: rest) (.p 0) (.d (.str "cells")) = some (.list cs) := by kernel_rfl
theorem d_spot (cs : List PyData) (sp : Int) (rest : List MO) : itemD (Fd cs sp :: rest) (.p 0) (.d (.str "spot")) = some (.int sp) := by kernel_rfl
theorem d_store (cs : List PyData) (sp t : Int) (rest : List MO) : storeItem (Fd cs sp :: rest) (.p 0) (.d (.str "spot")) (.d (.int t)) = some (Fd cs t :: rest) := by kernel_rfl
theorem c_draw0 (n : Nat) (cs : List PyData) (sp ln lap idx half c z r m : Int) (rest : List MO)
    (h1 : builtinD (Fd cs (sp + 1) :: rest) "len" [.d (.list cs)] = some (.int ln))
    (h2 : binD .FloorDiv (Fd cs (sp + 1) :: rest) (.d (.int sp)) (.d (.int ln)) = some (.int lap))
    (h3 : binD .Mod (Fd cs (sp + 1) :: rest) (.d (.int sp)) (.d (.int ln)) = some (.int idx))
    (h4 : itemD (Fd cs (sp + 1) :: rest) (.d (.list cs)) (.d (.int idx)) = some (.int c))
    (h5 : binD .FloorDiv (Fd cs (sp + 1) :: rest) (.d (.int sp)) (.d (.int 2)) = some (.int half))
    (h6 : binD .Mult (Fd cs (sp + 1) :: rest) (.d (.int lap)) (.d (.int (half + 5))) = some (.int z))
    (h7 : binD .Mod (Fd cs (sp + 1) :: rest) (.d (.int (c + z))) (.d (.int m)) = some (.int r)) :
    Cn (n + 1) (.fn "_law_draw") [.p 0, .d (.int m)] (Fd cs sp :: rest) = some (.d (.int r), Fd cs (sp + 1) :: rest) := by
  have a1 := bin_add (Fd cs sp :: rest) sp 1
  have a2 := bin_add (Fd cs (sp + 1) :: rest) half 5
  have a3 := bin_add (Fd cs (sp + 1) :: rest) c z
  rw [k_law_draw, s_draw, d_cells, Option.bind_some, d_spot, Option.bind_some, a1, Option.bind_some, d_store, Option.bind_some, h1, Option.bind_some, h2, Option.bind_some, Option.bind_some, h3, Option.bind_some, h4, Option.bind_some, h5, Option.bind_some, a2, Option.bind_some, h6, Option.bind_some, a3, Option.bind_some, h7, Option.bind_some]
theorem c_draw (n : Nat) (cells : List Int) (sp : Int) (rest : List MO) (m : Int) (hm : 0 < m) (hc : cells ≠ []) (hl : cells.length ≤ 1000) (hs : 0 ≤ sp ∧ sp ≤ 1000) :
    ∃ r, (0 ≤ r ∧ r < m) ∧ Cn (n + 1) (.fn "_law_draw") [.p 0, .d (.int m)] (Fd (cells.map .int) sp :: rest) = some (.d (.int r), Fd (cells.map .int) (sp + 1) :: rest) := by
  have h0 : 0 < cells.length := List.length_pos_iff.mpr hc
  have hl' : (cells.map PyData.int).length ≤ 4096 := by rw [List.length_map]; (first | lia | omega)
  have hlen : (cells.map PyData.int).length = cells.length := List.length_map _
  obtain ⟨k, rfl⟩ : ∃ k : Nat, sp = (k : Int) := ⟨sp.toNat, by (first | lia | omega)⟩
  have e1 : Int.fmod (k : Int) cells.length = ((k % cells.length : Nat) : Int) := by
    rw [Int.fmod_eq_emod_of_nonneg _ (by (first | lia | omega))]; exact (Int.natCast_emod _ _).symm
  have e2 : Int.fdiv (k : Int) cells.length = ((k / cells.length : Nat) : Int) := by
    rw [Int.fdiv_eq_ediv_of_nonneg _ (by (first | lia | omega))]; exact (Int.natCast_ediv _ _).symm
  have e3 : Int.fdiv (k : Int) 2 = ((k / 2 : Nat) : Int) := by
    rw [Int.fdiv_eq_ediv_of_nonneg _ (by (first | lia | omega))]; exact (Int.natCast_ediv _ 2).symm
  have hmod := Nat.mod_lt k h0
  obtain ⟨c, hcc⟩ : ∃ c, (cells.map PyData.int)[k % cells.length]? = some (.int c) := by
    refine ⟨cells[k % cells.length], ?_⟩
    rw [List.getElem?_map, List.getElem?_eq_getElem hmod]; rfl
  have hd : k / cells.length ≤ k := Nat.div_le_self _ _
  have hd2 : k / 2 ≤ k := Nat.div_le_self _ _
  generalize k / cells.length = L at e2 hd
  generalize k / 2 = H at e3 hd2
  generalize k % cells.length = I at e1 hmod hcc
  have S1 : Sm (k : Int) := ⟨by (first | lia | omega), by (first | lia | omega)⟩
  have S2 : Sm (cells.length : Int) := ⟨by (first | lia | omega), by (first | lia | omega)⟩
  have S3 : Sm (L : Int) := ⟨by (first | lia | omega), by (first | lia | omega)⟩
  have S4 : Sm ((H : Int) + 5) := ⟨by (first | lia | omega), by (first | lia | omega)⟩
  refine ⟨(c + (L : Int) * ((H : Int) + 5)).fmod m, ⟨Int.fmod_nonneg_of_pos _ hm, Int.fmod_lt_of_pos _ hm⟩, ?_⟩
  refine c_draw0 n _ _ cells.length L I H c ((L : Int) * ((H : Int) + 5)) _ m rest ?_ ?_ ?_ ?_ ?_ ?_ ?_
  · rw [b_lenl _ hl', hlen]
  · rw [bin_div _ S1 S2 (by (first | lia | omega)), e2]
  · rw [bin_mod _ _ (by (first | lia | omega)), e1]
  · rw [it_l _ _ hl', at_nat (by (first | lia | omega)), hcc]
  · rw [bin_div _ S1 ⟨by (first | lia | omega), by (first | lia | omega)⟩ (by (first | lia | omega)), e3]
  · exact bin_mul _ S3 S4
  · exact bin_mod _ _ (by (first | lia | omega))
/-- the numbers of a sum -/
noncomputable def nsD (q : Pt) : PyData := .list [.int q.1, .int q.2.1, .int q.2.2]
noncomputable def allT (q : Pt) : Tm := [(0, q.1), (1, q.2.1), (2, q.2.2)]
noncomputable def tmN (q : Pt) : Tm := (allT q).filter fun p => p.2 != 0
theorem g_ls (C : Calls) (q : Pt) (σ : List MO) : g_lsum_0 C (.fix ((allT q).map tD)) [] σ = some ((tmN q).map tD, σ) := by
  unfold g_lsum_0
  rw [gen_map (fun p : Nat × Int => if p.2 != 0 then [tD p] else []) (by kernel_rfl) (by show 3 ≤ 4096; (first | lia | omega)) fun p _ => ?_]
  · unfold tmN
    congr 1; congr 1
    induction allT q with
    | nil => rfl
    | cons p ps ih =>
      rw [List.flatMap_cons, ih, List.filter_cons]
      split <;> simp
  · obtain ⟨v, a⟩ := p
    unfold tD
    rw [t_lsum_0]
    simp only [a_flat, a_made, a_vars, a_tolds, m_dom, m_new, m_size, m_post, m_bounds, m_row, m_rt, m_tt, m_once, m_ap4, m_ap5, pt, mm_some, Option.bind_some, cmp_eq_int, cmp_ne_int, cmp_eq_bool, cmp_lt, cmp_le, cmp_gt, cmp_ge, bin_add, bin_sub, b_min, b_max, b_max2, b_abs, exK, plainV, ↓reduceIte, Bool.false_eq_true, Bool.not_true, Bool.not_false]
    show _ = some (if (a != 0) = true then _ else _, σ)
    cases e : a == 0 <;> simp [bne, e]
theorem c_lsum (n : Nat) (q : Pt) (c : Int) (σ : List MO) : Cn (n + 1) (.fn "_law_sum") [.d (nsD q), .d (.int c)] σ = some (.d (sumD (tmN q) c), σ) := by
  have en : enumD [.d (nsD q)] σ = some (.fix ((allT q).map tD), σ) := by kernel_rfl
  have l : ((tmN q).map tD).length ≤ 4096 := by
    have := List.length_filter_le (fun p : Nat × Int => p.2 != 0) (allT q)
    have h3 : (allT q).length = 3 := rfl
    unfold tmN; rw [List.length_map]; (first | lia | omega)
  have al : ∀ a : PyData, allD [.d (.str "sum"), .d a, .d (.int c)] = some [.str "sum", a, .int c] := fun _ => rfl
  have o3 : ∀ a : PyData, okLen [.str "sum", a, .int c].length = true := fun _ => by kernel_rfl
  rw [k_law_sum, s_lsum]
  simp only [a_flat, a_made, a_vars, a_tolds, m_dom, m_new, m_size, m_post, m_bounds, m_row, m_rt, m_tt, m_once, m_ap4, m_ap5, pt, mm_some, Option.bind_some, cmp_eq_int, cmp_ne_int, cmp_eq_bool, cmp_lt, cmp_le, cmp_gt, cmp_ge, bin_add, bin_sub, b_min, b_max, b_max2, b_abs, exK, plainV, ↓reduceIte, Bool.false_eq_true, Bool.not_true, Bool.not_false, en, g_ls, okLen_of l, b_tuple σ l, al, o3]
  rfl
theorem tmN_ok (q : Pt) (h : q.1.natAbs ≤ 1000 ∧ q.2.1.natAbs ≤ 1000 ∧ q.2.2.natAbs ≤ 1000) : TOk (tmN q) := by
  have hm : ∀ p ∈ tmN q, p ∈ allT q ∧ p.2 ≠ 0 := fun p hp => by
    unfold tmN at hp
    have := List.mem_filter.mp hp
    exact ⟨this.1, by simpa using this.2⟩
  have hall : ∀ p ∈ allT q, p.1 < 3 ∧ p.2.natAbs ≤ 1000 := fun p hp => by
    unfold allT at hp
    simp only [List.mem_cons, List.not_mem_nil, or_false] at hp
    rcases hp with rfl | rfl | rfl
    · exact ⟨by (first | lia | omega), h.1⟩
    · exact ⟨by (first | lia | omega), h.2.1⟩
    · exact ⟨by (first | lia | omega), h.2.2⟩
  constructor
  · have := List.length_filter_le (fun p : Nat × Int => p.2 != 0) (allT q)
    have h3 : (allT q).length = 3 := rfl
    unfold tmN; (first | lia | omega)
  · intro p hp; exact (hall p (hm p hp).1).1
  · intro p hp
    have := (hall p (hm p hp).1).2
    exact ⟨(hm p hp).2, by (first | lia | omega)⟩
noncomputable def reach (q : Pt) (c : Int) (p : Pt) : Int := ([q.1 * p.1, q.2.1 * p.2.1, q.2.2 * p.2.2] : List Int).sum + c
noncomputable def scl (m : Int) (q : Pt) : Pt := (m * q.1, m * q.2.1, m * q.2.2)
noncomputable def ngt (q : Pt) : Pt := (0 - q.1, 0 - q.2.1, 0 - q.2.2)
theorem g_s0 (C : Calls) (q : Pt) (hq : PSm q) (c : Int) (ps : List Pt) (hp : ∀ p ∈ ps, PSm p) (hl : ps.length ≤ 27) (σ : List MO) : g_sum_b1_0 C (.fix (ps.map ptV)) [("numbers", .d (nsD q)), ("constant", .d (.int c))] σ = some ((ps.map (reach q c)).map .int, σ) := by
  unfold g_sum_b1_0
  rw [gen_map (fun p : Pt => [PyData.int (reach q c p)]) (by kernel_rfl) (by (first | lia | omega)) fun p hpm => ?_]
  · rw [flat_one, List.map_map]; rfl
  · have hpp := hp p hpm
    have z : zipD [.d (nsD q), .d (ptV p)] σ = some (.fix ([(q.1, p.1), (q.2.1, p.2.1), (q.2.2, p.2.2)].map fun w : Int × Int => .tuple [.int w.1, .int w.2]), σ) := by kernel_rfl
    have gi : g_i_sum_b1_0_0 C (.fix ([(q.1, p.1), (q.2.1, p.2.1), (q.2.2, p.2.2)].map fun w : Int × Int => .tuple [.int w.1, .int w.2])) [] σ = some (([q.1 * p.1, q.2.1 * p.2.1, q.2.2 * p.2.2] : List Int).map .int, σ) := by
      unfold g_i_sum_b1_0_0
      rw [gen_map (fun w : Int × Int => [PyData.int (w.1 * w.2)]) (by kernel_rfl) (by show 3 ≤ 4096; (first | lia | omega)) fun w hw => ?_]
      · rfl
      · rw [t_i_sum_b1_0_0]
        have : Sm w.1 ∧ Sm w.2 := by
          simp only [List.mem_cons, List.not_mem_nil, or_false] at hw
          rcases hw with rfl | rfl | rfl
          · exact ⟨hq.1, hpp.1⟩
          · exact ⟨hq.2.1, hpp.2.1⟩
          · exact ⟨hq.2.2, hpp.2.2⟩
        rw [bin_mul σ this.1 this.2]; rfl
    have lo3 : okLen (([q.1 * p.1, q.2.1 * p.2.1, q.2.2 * p.2.2] : List Int).map PyData.int).length = true := by kernel_rfl
    rw [t_sum_b1_0]
    simp only [a_flat, a_made, a_vars, a_tolds, m_dom, m_new, m_size, m_post, m_bounds, m_row, m_rt, m_tt, m_once, m_ap4, m_ap5, pt, mm_some, Option.bind_some, cmp_eq_int, cmp_ne_int, cmp_eq_bool, cmp_lt, cmp_le, cmp_gt, cmp_ge, bin_add, bin_sub, b_min, b_max, b_max2, b_abs, exK, plainV, ↓reduceIte, Bool.false_eq_true, Bool.not_true, Bool.not_false, z, gi, lo3, b_sum]
    rfl
theorem g_s1 (n : Nat) (kd : Kd) (vs : List Int) (hl : vs.length ≤ 27) (σ : List MO) : g_sum_b1_1 (Cn (n + 1)) (.fix (vs.map .int)) [("kind", .d (.str kd.s))] σ = some ((vs.map (stands kd)).map .bool, σ) := by
  unfold g_sum_b1_1
  rw [gen_map (fun v : Int => [PyData.bool (stands kd v)]) (by kernel_rfl) (by (first | lia | omega)) fun v _ => by
    rw [t_sum_b1_1, c_stands n kd]; rfl]
  rw [flat_one, List.map_map]; rfl
theorem g_s2 (C : Calls) (t : PyData) (ps : List Pt) (f : Pt → Bool) (hl : ps.length ≤ 27) (σ : List MO) (h : ∀ p ∈ ps, C (.fn "_law_truth_at") [.p 2, .d t, .d (ptV p)] σ = some (.d (.bool (f p)), σ)) : g_sum_b1_2 C (.fix (ps.map ptV)) [("truth", .d t), ("gatherer", .p 2)] σ = some ((ps.map f).map .bool, σ) := by
  unfold g_sum_b1_2
  rw [gen_map (fun p : Pt => [PyData.bool (f p)]) (by kernel_rfl) (by (first | lia | omega)) fun p hp => by
    rw [t_sum_b1_2, h p hp]; rfl]
  rw [flat_one, List.map_map]; rfl
theorem g_s3 (C : Calls) (m : Int) (hm : Sm m) (q : Pt) (hq : PSm q) (σ : List MO) : g_sum_x6_0 C (.fix [.int q.1, .int q.2.1, .int q.2.2]) [("often", .d (.int m))] σ = some ([.int (m * q.1), .int (m * q.2.1), .int (m * q.2.2)], σ) := by
  unfold g_sum_x6_0
  rw [show ([.int q.1, .int q.2.1, .int q.2.2] : List PyData) = [q.1, q.2.1, q.2.2].map .int from rfl, gen_map (fun a : Int => [PyData.int (m * a)]) (by kernel_rfl) (by show 3 ≤ 4096; omega) fun a ha => ?_]
  · rfl
  · have : Sm a := by
      simp only [List.mem_cons, List.not_mem_nil, or_false] at ha
      rcases ha with rfl | rfl | rfl
      · exact hq.1
      · exact hq.2.1
      · exact hq.2.2
    rw [t_sum_x6_0, bin_mul σ hm this]; rfl
theorem g_s4 (C : Calls) (q : Pt) (σ : List MO) : g_sum_x7_0 C (.fix [.int q.1, .int q.2.1, .int q.2.2]) [] σ = some ([.int (0 - q.1), .int (0 - q.2.1), .int (0 - q.2.2)], σ) := by
  unfold g_sum_x7_0
  rw [show ([.int q.1, .int q.2.1, .int q.2.2] : List PyData) = [q.1, q.2.1, q.2.2].map .int from rfl, gen_map (fun a : Int => [PyData.int (0 - a)]) (by kernel_rfl) (by show 3 ≤ 4096; omega) fun a ha => by
    rw [t_sum_x7_0]; rfl]
  rfl
theorem g_s5 (C : Calls) (q : Pt) (σ : List MO) : g_sum_x7_1 C (.fix [.int q.1, .int q.2.1, .int q.2.2]) [] σ = some ([.int (0 - q.1), .int (0 - q.2.1), .int (0 - q.2.2)], σ) := by
  unfold g_sum_x7_1
  rw [show ([.int q.1, .int q.2.1, .int q.2.2] : List PyData) = [q.1, q.2.1, q.2.2].map .int from rfl, gen_map (fun a : Int => [PyData.int (0 - a)]) (by kernel_rfl) (by show 3 ≤ 4096; omega) fun a ha => by
    rw [t_sum_x7_1]; rfl]
  rfl
end Mine.Q
end
section
open PySem PySem.W PyProof.Rows
set_option Elab.async false
set_option maxRecDepth 100000
set_option linter.unusedSimpArgs false
namespace Mine.Q
theorem put_put (K : List TKey) (k : TKey) : put (put K k) k = put K k := put_old (put_mem K k)
theorem ix_put (K : List TKey) (k : TKey) : ix (put K k) k = ix K k := by unfold ix; rw [put_put]
theorem ttK_again (x : Cx) (K : List TKey) (kd : Kd) (cs : List Int) (xs : List Nat) (c : Int) : ttK x (ttK x K kd cs xs c) kd cs xs c = ttK x K kd cs xs c := by
  unfold ttK
  by_cases h : isDir x cs xs
  · rw [if_pos h, if_pos h]
  · rw [if_neg h, if_neg h, put_put]
theorem ttT_again (x : Cx) (K : List TKey) (kd : Kd) (cs : List Int) (xs : List Nat) (c : Int) : ttT x (ttK x K kd cs xs c) kd cs xs c = ttT x K kd cs xs c := by
  unfold ttT ttK
  by_cases h : isDir x cs xs
  · rw [if_pos h, if_pos h]
  · rw [if_neg h, if_neg h, if_neg h, ix_put]
theorem ltK_again (x : Cx) (K : List TKey) (l : Lt) : ltK x (ltK x K l) l = ltK x K l := by
  cases l with
  | const b => rfl
  | lit kd cs xs c fl => exact ttK_again x K kd cs xs c
theorem ltT_again (x : Cx) (K : List TKey) (l : Lt) : ltT x (ltK x K l) l = ltT x K l := by
  cases l with
  | const b => rfl
  | lit kd cs xs c fl => rw [ltT_lit, ltT_lit, ltK_lit, ttT_again]
theorem ltK_len (x : Cx) (K : List TKey) (l : Lt) : (ltK x K l).length ≤ K.length + 1 := by
  cases l with
  | const b => exact Nat.le_succ _
  | lit kd cs xs c fl =>
    rw [ltK_lit]
    unfold ttK put
    split
    · (first | lia | omega)
    · split
      · (first | lia | omega)
      · simp
theorem lay_tr : ∀ t : Tr, Lay 1 (trD t)
  | .const b => lay_bool 1 b
  | .bit v up => lay_tuple fun y hy => by
    simp only [List.mem_cons, List.not_mem_nil, or_false] at hy
    rcases hy with rfl | rfl | rfl
    · exact lay_str 0 (by decide +kernel)
    · exact lay_int 0 _
    · exact lay_bool 0 _
theorem eqv_tr : ∀ t : Tr, PyData.eqv (trD t) (trD t) = true
  | .const b => by cases b <;> rfl
  | .bit v up => by
    have h1 : PyData.eqv (.str "bit") (.str "bit") = true := by decide +kernel
    have h2 : PyData.eqv (.int (v : Int)) (.int (v : Int)) = true := decide_eq_true rfl
    have h3 : PyData.eqv (.bool up) (.bool up) = true := by cases up <;> rfl
    show PyData.eqvAll [_, _, _] [_, _, _] = true
    rw [PyData.eqvAll, PyData.eqvAll, PyData.eqvAll, h1, h2, h3]; rfl
theorem ne_tr (σ : List MO) (t : Tr) : cmpD .NotEq σ (.d (trD t)) (.d (trD t)) = some false := by
  rw [cmp_ne σ (lay_tr t) (lay_tr t) (by (first | lia | omega)) (by (first | lia | omega)), eqv_tr]; rfl
structure Good (x : Cx) (ps : List Pt) (q : Pt) (c m : Int) (kd : Kd) : Prop where
  rr : ∀ n σ, Cn (n + 2) (.fn "_law_is_row_right") [.d (rwD kd (rowP x kd (tmN q) c)), .d (.str kd.s), .d (ptsD ps), .d (duesD (ps.map fun p => stands kd (reach q c p)))] σ = some (.d (.bool true), σ)
  ta : ∀ n K p, K.length ≤ 400 → p ∈ ps → Cn (n + 2) (.fn "_law_truth_at") [.p 2, .d (trD (ltT x K (litP x kd (tmN q) c))), .d (ptV p)] (S x (ltK x K (litP x kd (tmN q) c))) = some (.d (.bool (stands kd (reach q c p))), S x (ltK x K (litP x kd (tmN q) c)))
  sc : litP x kd (tmN (scl m q)) (m * c) = litP x kd (tmN q) c
  nl : kd = .le → litP x kd (tmN (ngt q)) (1 - c) = (litP x kd (tmN q) c).neg
  ng : kd ≠ .le → litP x kd (tmN (ngt q)) (0 - c) = litP x kd (tmN q) c
noncomputable abbrev frame (m : Int) (ps : List Pt) (q : Pt) (c : Int) : Rho := [("often", .d (.int m)), ("feed", .p 0), ("gatherer", .p 2), ("points", .d (ptsD ps)), ("numbers", .d (nsD q)), ("constant", .d (.int c))]
noncomputable abbrev sumSc : Names := (fnI (.fn "_law_is_sum_right")).sc
noncomputable abbrev sumL : List Stmt := sB (sAt 1 (fnI (.fn "_law_is_sum_right")).body)
noncomputable abbrev turnE (x : Cx) (K : List TKey) (l : Lt) (m : Int) (ps : List Pt) (q : Pt) (c : Int) (kd : Kd) : Rho :=
  ("many", .d (.int (((ltK x K l).length + 3 : Nat) : Int))) :: ("truth", .d (trD (ltT x K l))) :: ("due", .d (duesD (ps.map fun p => stands kd (reach q c p)))) :: ("reached", .d (.list ((ps.map (reach q c)).map .int))) :: ("kind", .d (.str kd.s)) :: frame m ps q c
theorem q_small {q : Pt} (hq : q.1.natAbs ≤ 6 ∧ q.2.1.natAbs ≤ 6 ∧ q.2.2.natAbs ≤ 6) (f : Int → Int) (hf : ∀ a, a.natAbs ≤ 6 → (f a).natAbs ≤ 1000) : TOk (tmN (f q.1, f q.2.1, f q.2.2)) := tmN_ok _ ⟨hf _ hq.1, hf _ hq.2.1, hf _ hq.2.2⟩
theorem sm6 {a : Int} (h : a.natAbs ≤ 6) : Sm a := ⟨by (first | lia | omega), by (first | lia | omega)⟩
theorem m_small {m a : Int} (hm : 2 ≤ m ∧ m ≤ 4) (ha : a.natAbs ≤ 6) : (m * a).natAbs ≤ 1000 := by
  rw [Int.natAbs_mul]
  exact Nat.le_trans (Nat.mul_le_mul (by omega : m.natAbs ≤ 4) ha) (by decide)
theorem bd10 {a : Int} (h : a.natAbs ≤ 1000) : -10000 ≤ a ∧ a ≤ 10000 := ⟨by omega, by omega⟩
section
variable {β : Type} (n : Nat) (x : Cx) (hx : x.Ok) (K : List TKey) (hK : K.length ≤ 400) (ps : List Pt) (q : Pt) (hq : q.1.natAbs ≤ 6 ∧ q.2.1.natAbs ≤ 6 ∧ q.2.2.natAbs ≤ 6) (c : Int) (hc : c.natAbs ≤ 5) (m : Int) (kd : Kd) (l : Lt) (kn : Rho → List MO → Option β) (kr : Val → List MO → Option β)
include hx hK hq hc
theorem sum_6 (K0 : List TKey) (hm : 2 ≤ m ∧ m ≤ 4) (e : ltT x K (litP x kd (tmN (scl m q)) (m * c)) = ltT x K0 l) (eK : ltK x K (litP x kd (tmN (scl m q)) (m * c)) = ltK x K0 l) (e0 : K = ltK x K0 l) :
    blK (Cn (n + 6)) glob 40 sumSc 32 (List.take 1 (List.drop 6 sumL)) (turnE x K0 l m ps q c kd) kn kr (S x K) = kn (turnE x K0 l m ps q c kd) (S x K) := by
  have T1 := c_rt n x hx K (by (first | lia | omega)) (tmN (scl m q)) (m * c) (q_small hq (m * ·) fun a => m_small hm) (bd10 (m_small hm (by (first | lia | omega)))) kd
  rw [e, eK, ← e0] at T1
  refine (s_sum_x6 _ _ _ _ _ _ _ _ _ _ _ _ _ _ _).trans (ob (pt 2) (ob (m_rt x _ _ _) (ob (io_l _ (Nat.le_add_right 3 4093)) (ob (g_s3 _ m ⟨by (first | lia | omega), by (first | lia | omega)⟩ q ⟨sm6 hq.1, sm6 hq.2.1, sm6 hq.2.2⟩ _) (iT (by kernel_rfl) ?_)))))
  refine ob (bin_mul _ ⟨by (first | lia | omega), by (first | lia | omega)⟩ (sm6 (by (first | lia | omega)))) (ob (c_lsum (n + 5) (scl m q) (m * c) _) (obM T1 (ob (ne_tr _ _) (iF rfl rfl))))
theorem sum_7 (K0 : List TKey) (e0 : K = ltK x K0 l)
    (en : kd = .le → ltT x K (litP x kd (tmN (ngt q)) (1 - c)) = (ltT x K0 l).neg ∧ ltK x K (litP x kd (tmN (ngt q)) (1 - c)) = K) (ep : kd ≠ .le → ltT x K (litP x kd (tmN (ngt q)) (0 - c)) = ltT x K0 l ∧ ltK x K (litP x kd (tmN (ngt q)) (0 - c)) = K) :
    blK (Cn (n + 6)) glob 40 sumSc 31 (List.take 1 (List.drop 1 (List.drop 6 sumL))) (turnE x K0 l m ps q c kd) kn kr (S x K) = kn (turnE x K0 l m ps q c kd) (S x K) := by
  have ok2 : TOk (tmN (ngt q)) := q_small hq (0 - ·) fun a h => by omega
  refine (s_sum_x7 _ _ _ _ _ _ _ _ _ _ _ _ _ _ _).trans (ob (ke_le _ _) ?_)
  by_cases hk : kd = .le
  · have T2 := c_rt n x hx K (by omega) (tmN (ngt q)) (1 - c) ok2 (by omega) kd
    rw [(en hk).1, (en hk).2] at T2
    refine iT (decide_eq_true hk) (ob (pt 2) (ob (m_rt x _ _ _) (ob (io_l _ (Nat.le_add_right 3 4093)) (ob (g_s4 _ q _) (iT (by kernel_rfl) ?_)))))
    exact ob (bin_sub _ _ _) (ob (c_lsum (n + 5) (ngt q) (1 - c) _) (obM T2 (ob (c_contrary (n + 5) (ltT x K0 l) _) (ob (ne_tr _ _) (iF rfl rfl)))))
  · have T2 := c_rt n x hx K (by omega) (tmN (ngt q)) (0 - c) ok2 (by omega) kd
    rw [(ep hk).1, (ep hk).2] at T2
    refine iF (decide_eq_false hk) (ob (pt 2) (ob (m_rt x _ _ _) (ob (io_l _ (Nat.le_add_right 3 4093)) (ob (g_s5 _ q _) (iT (by kernel_rfl) ?_)))))
    exact ob (bin_sub _ _ _) (ob (c_lsum (n + 5) (ngt q) (0 - c) _) (obM T2 (ob (ne_tr _ _) (iF rfl rfl))))
omit hx hq hc in
theorem sum_8 (K0 : List TKey) (e0 : ltK x K0 l = K) :
    blK (Cn (n + 6)) glob 40 sumSc 30 (List.drop 1 (List.drop 1 (List.drop 6 sumL))) (turnE x K0 l m ps q c kd) kn kr (S x K) = kn (turnE x K0 l m ps q c kd) (S x K) := by
  subst e0
  refine (s_sum_x8 _ _ _ _ _ _ _ _ _ _ _ _ _ _ _).trans (ob (a_flat x _ _ _) (ob (pt 3) (ob (m_size x _ _ _) (obM (c_size (n + 5) x _ (by (first | lia | omega))) (ob (cmp_ne_int _ _ _) (iF ?_ rfl))))))
  rw [beq_self_eq_true]; rfl
theorem sum_1 (hp : ∀ p ∈ ps, PSm p) (hl : ps.length ≤ 27) (G : Good x ps q c m kd) :
    blK (Cn (n + 6)) glob 40 sumSc 38 (List.take 6 sumL) (("kind", .d (.str kd.s)) :: frame m ps q c) kn kr (S x K) = kn (turnE x K (litP x kd (tmN q) c) m ps q c kd) (S x (ltK x K (litP x kd (tmN q) c))) := by
  have ok0 : TOk (tmN q) := q_small hq (fun a => a) fun a h => by (first | lia | omega)
  have lp : (ps.map ptV).length ≤ 4096 := by simp; (first | lia | omega)
  have ll : (ltK x K (litP x kd (tmN q) c)).length ≤ 401 := Nat.le_trans (ltK_len x K _) (by (first | lia | omega))
  have G1 : ∀ σ, g_sum_b1_1 (Cn (n + 6)) (.fix ((ps.map (reach q c)).map .int)) [("kind", .d (.str kd.s))] σ = some ((ps.map fun p => stands kd (reach q c p)).map .bool, σ) := fun σ => (g_s1 (n + 5) kd (ps.map (reach q c)) (by simpa using hl) σ).trans (by rw [show (ps.map (reach q c)).map (stands kd) = ps.map (fun p => stands kd (reach q c p)) from by rw [List.map_map]; rfl])
  have ld : okLen ((ps.map fun p => stands kd (reach q c p)).map PyData.bool).length = true := okLen_of (by simp; (first | lia | omega))
  have ND : cmpD .NotEq (S x (ltK x K (litP x kd (tmN q) c))) (.d (.list ((ps.map fun p => stands kd (reach q c p)).map .bool))) (.d (.list ((ps.map fun p => stands kd (reach q c p)).map .bool))) = some false := (ne_dues _ _ _).trans (by rw [decide_eq_true rfl]; rfl)
  refine (s_sum_b1 _ _ _ _ _ _ _ _ _ _ _).trans (ob (io_l _ lp) (ob (g_s0 _ q ⟨sm6 hq.1, sm6 hq.2.1, sm6 hq.2.2⟩ c ps hp hl _) (iT (okLen_of (by simp; (first | lia | omega))) (ob (io_l _ (by simp; (first | lia | omega))) (ob (G1 _) (iT ld ?_))))))
  refine ob (pt 2) (ob (m_row x _ _ _) (ob (c_lsum (n + 5) q c _) (obM (c_row (n + 2) x hx K (by (first | lia | omega)) kd (tmN q) c ok0 (by (first | lia | omega))) (ob (G.rr (n + 4) (S x K)) (ob (rfl : truthD (.d (.bool true)) = some true) (iN rfl ?_))))))
  refine ob (pt 2) (ob (m_rt x _ _ _) (ob (c_lsum (n + 5) q c _) (obM (c_rt n x hx K (by (first | lia | omega)) (tmN q) c ok0 (by (first | lia | omega)) kd) (ob (io_l _ lp) ?_))))
  refine ob (g_s2 (Cn (n + 6)) (trD (ltT x K (litP x kd (tmN q) c))) ps (fun p => stands kd (reach q c p)) hl _ fun p hpm => G.ta (n + 4) K p hK hpm) (iT ld (ob ND (iF rfl ?_)))
  exact ob (a_flat x _ _ _) (ob (pt 3) (ob (m_size x _ _ _) (obM (c_size (n + 5) x _ (by (first | lia | omega))) rfl)))
end
section
variable {β : Type} (n : Nat) (x : Cx) (hx : x.Ok) (K : List TKey) (hK : K.length ≤ 300) (ps : List Pt) (hp : ∀ p ∈ ps, PSm p) (hl : ps.length ≤ 27) (q : Pt) (hq : q.1.natAbs ≤ 6 ∧ q.2.1.natAbs ≤ 6 ∧ q.2.2.natAbs ≤ 6) (c : Int) (hc : c.natAbs ≤ 5) (m : Int) (hm : 2 ≤ m ∧ m ≤ 4) (kd : Kd) (G : Good x ps q c m kd)
include hx hK hp hl hq hc hm G
theorem sum_turn (kn : Rho → List MO → Option β) (kr : Val → List MO → Option β) :
    blK (Cn (n + 6)) glob 40 (fnI (.fn "_law_is_sum_right")).sc 38 ((sB (sAt 1 (fnI (.fn "_law_is_sum_right")).body))) [("kind", .d (.str kd.s)), ("often", .d (.int m)), ("feed", .p 0), ("gatherer", .p 2), ("points", .d (ptsD ps)), ("numbers", .d (nsD q)), ("constant", .d (.int c))] kn kr (S x K)
    = kn [("many", .d (.int (((ltK x K (litP x kd (tmN q) c)).length + 3 : Nat) : Int))), ("truth", .d (trD (ltT x K (litP x kd (tmN q) c)))), ("due", .d (duesD (ps.map fun p => stands kd (reach q c p)))), ("reached", .d (.list ((ps.map (reach q c)).map .int))), ("kind", .d (.str kd.s)), ("often", .d (.int m)), ("feed", .p 0), ("gatherer", .p 2), ("points", .d (ptsD ps)), ("numbers", .d (nsD q)), ("constant", .d (.int c))] (S x (ltK x K (litP x kd (tmN q) c))) := by
  have lk := ltK_len x K (litP x kd (tmN q) c)
  refine sg 31 6 ((sum_1 n x hx K (by (first | lia | omega)) ps q hq c hc m kd _ _ hp hl G).trans (sg 30 1 ?_))
  refine (sum_6 n x hx _ (by (first | lia | omega)) ps q hq c hc m kd (litP x kd (tmN q) c) _ _ K hm (by rw [G.sc, ltT_again]) (by rw [G.sc, ltK_again]) rfl).trans (sg 29 1 ?_)
  refine (sum_7 n x hx _ (by (first | lia | omega)) ps q hq c hc m kd (litP x kd (tmN q) c) _ _ K rfl (fun hk => by rw [G.nl hk, ltT_neg, ltK_neg, ltT_again, ltK_again]; exact ⟨rfl, rfl⟩) (fun hk => by rw [G.ng hk, ltT_again, ltK_again]; exact ⟨rfl, rfl⟩)).trans ?_
  exact sum_8 n x _ (by (first | lia | omega)) ps q c m kd (litP x kd (tmN q) c) _ _ K rfl
end
end Mine.Q
end
section
open PySem PySem.W PyProof.Rows
set_option Elab.async false
set_option maxRecDepth 100000
set_option linter.unusedSimpArgs false
namespace Mine.Q
theorem b2_b1 {β : Type} (C : Calls) (k : PyData) (m t d r o f g ps ns c : Val) (kn : Rho → List MO → Option β) (kr : Val → List MO → Option β) (σ : List MO) :
    blK C glob 40 (fnI (.fn "_law_is_sum_right")).sc 38 ((sB (sAt 1 (fnI (.fn "_law_is_sum_right")).body))) [("kind", .d k), ("many", m), ("truth", t), ("due", d), ("reached", r), ("often", o), ("feed", f), ("gatherer", g), ("points", ps), ("numbers", ns), ("constant", c)] kn kr σ
    = blK C glob 40 (fnI (.fn "_law_is_sum_right")).sc 38 ((sB (sAt 1 (fnI (.fn "_law_is_sum_right")).body))) [("kind", .d k), ("often", o), ("feed", f), ("gatherer", g), ("points", ps), ("numbers", ns), ("constant", c)] kn kr σ := by
  have g0 : g_sum_b2_0 = g_sum_b1_0 := rfl
  have g1 : g_sum_b2_1 = g_sum_b1_1 := rfl
  have g2 : g_sum_b2_2 = g_sum_b1_2 := rfl
  have h := s_sum_b2 C k m t d r o f g ps ns c (fun ρ' => blK C glob 40 sumSc 32 (List.drop 6 sumL) ρ' kn kr) kr σ
  rw [g0, g1, g2] at h
  exact sg 31 6 (h.trans (sg 31 6 (s_sum_b1 C k o f g ps ns c _ kr σ)).symm)
noncomputable def Cx.at (x : Cx) (sp : Int) : Cx := { x with sp := sp }
theorem at_ok {x : Cx} (h : x.Ok) (sp : Int) : (x.at sp).Ok := ⟨h.h0, h.h1, h.h2⟩
structure Feed (x : Cx) (cells : List Int) : Prop where
  cs : x.cs = cells.map .int
  ne : cells ≠ []
  len : cells.length ≤ 1000
theorem draw_S (n : Nat) {x : Cx} {cells : List Int} (F : Feed x cells) (hs : 0 ≤ x.sp ∧ x.sp ≤ 1000) (K : List TKey) (m : Int) (hm : 0 < m) :
    ∃ r, (0 ≤ r ∧ r < m) ∧ Cn (n + 1) (.fn "_law_draw") [.p 0, .d (.int m)] (S x K) = some (.d (.int r), S (x.at (x.sp + 1)) K) := by
  obtain ⟨r, hr, e⟩ := c_draw n cells x.sp (S x K).tail m hm F.ne F.len hs
  rw [← F.cs] at e
  exact ⟨r, hr, e⟩
theorem bd1 (k : PyData) (m : Int) (a b c : Val) : bindD (fnI (.fn "_law_is_sum_right")).sc (sTg (sAt 1 (fnI (.fn "_law_is_sum_right")).body)) k ([("often", .d (.int m)), ("feed", .p 0), ("gatherer", .p 2), ("points", a), ("numbers", b), ("constant", c)] : Rho) = some ([("kind", .d k), ("often", .d (.int m)), ("feed", .p 0), ("gatherer", .p 2), ("points", a), ("numbers", b), ("constant", c)] : Rho) := by kernel_rfl
theorem bd2 (k k0 : PyData) (m : Int) (u v w z a b c : Val) : bindD (fnI (.fn "_law_is_sum_right")).sc (sTg (sAt 1 (fnI (.fn "_law_is_sum_right")).body)) k ([("many", u), ("truth", v), ("due", w), ("reached", z), ("kind", .d k0), ("often", .d (.int m)), ("feed", .p 0), ("gatherer", .p 2), ("points", a), ("numbers", b), ("constant", c)] : Rho) = some ([("kind", .d k), ("many", u), ("truth", v), ("due", w), ("reached", z), ("often", .d (.int m)), ("feed", .p 0), ("gatherer", .p 2), ("points", a), ("numbers", b), ("constant", c)] : Rho) := by kernel_rfl
theorem c_sum_right (n : Nat) (x : Cx) (hx : x.Ok) {cells : List Int} (F : Feed x cells) (hs : 0 ≤ x.sp ∧ x.sp ≤ 1000) (K : List TKey) (hK : K.length ≤ 200) (ps : List Pt) (hp : ∀ p ∈ ps, PSm p) (hl : ps.length ≤ 27) (q : Pt) (hq : q.1.natAbs ≤ 6 ∧ q.2.1.natAbs ≤ 6 ∧ q.2.2.natAbs ≤ 6) (c : Int) (hc : c.natAbs ≤ 5) (G : ∀ m kd, 2 ≤ m ∧ m ≤ 4 → Good (x.at (x.sp + 1)) ps q c m kd) :
    ∃ K', K'.length ≤ K.length + 3 ∧ Cn (n + 7) (.fn "_law_is_sum_right") [.p 0, .p 2, .d (ptsD ps), .d (nsD q), .d (.int c)] (S x K) = some (.d (.bool true), S (x.at (x.sp + 1)) K') := by
  obtain ⟨r, hr, e⟩ := draw_S (n + 5) F hs K 3 (by (first | lia | omega))
  have hm : 2 ≤ 2 + r ∧ 2 + r ≤ 4 := by (first | lia | omega)
  have hx' := at_ok hx (x.sp + 1)
  let y := x.at (x.sp + 1)
  let K1 := ltK y K (litP y .le (tmN q) c)
  let K2 := ltK y K1 (litP y .eq (tmN q) c)
  let K3 := ltK y K2 (litP y .ne (tmN q) c)
  have l1 : K1.length ≤ K.length + 1 := ltK_len _ _ _
  have l2 : K2.length ≤ K1.length + 1 := ltK_len _ _ _
  have l3 : K3.length ≤ K2.length + 1 := ltK_len _ _ _
  have I1 : ∀ σ, iterOf σ (.d (.tuple [.str "linear_le", .str "linear_eq", .str "linear_ne"])) = some (.fix [.str Kd.le.s, .str Kd.eq.s, .str Kd.ne.s]) := fun σ => by kernel_rfl
  have A1 : ∀ σ, binD .Add σ (.d (.int 2)) (.d (.int r)) = some (.int (2 + r)) := fun σ => rfl
  refine ⟨K3, by (first | lia | omega), ?_⟩
  rw [k_law_is_sum_right, s_sum_right, e, Option.bind_some, A1, Option.bind_some, I1, Option.bind_some, forG_fix _ _ _ _ _ _ _ _ _ _ (by decide)]
  rw [forL_cons, bd1, Option.bind_some, sum_turn n y hx' K (by (first | lia | omega)) ps hp hl q hq c hc (2 + r) hm .le (G _ _ hm)]
  rw [forL_cons, bd2, Option.bind_some, b2_b1, sum_turn n y hx' K1 (by (first | lia | omega)) ps hp hl q hq c hc (2 + r) hm .eq (G _ _ hm)]
  rw [forL_cons, bd2, Option.bind_some, b2_b1, sum_turn n y hx' K2 (by (first | lia | omega)) ps hp hl q hq c hc (2 + r) hm .ne (G _ _ hm)]
  rw [forL_nil, s_sum_e]
end Mine.Q
end
section
open PySem PySem.W PyProof.Rows
set_option Elab.async false
set_option maxRecDepth 100000
set_option linter.unusedSimpArgs false
namespace Mine.Q
theorem compL3 (b : PyData → M (List PyData)) {x y z : PyData} {σ0 σ1 σ2 σ3 : List MO} {u v w : List PyData} (h1 : b x σ0 = some (u, σ1)) (h2 : b y σ1 = some (v, σ2)) (h3 : b z σ2 = some (w, σ3)) : compL b [x, y, z] σ0 = some (u ++ (v ++ (w ++ [])), σ3) := by
  rw [compL_cons, h1, Option.bind_some]
  dsimp only
  rw [compL_cons, h2, Option.bind_some]
  dsimp only
  rw [compL_cons, h3, Option.bind_some]
  rfl
/-- one step of a row: taken or not -/
theorem rows_step (n : Nat) (cells : List Int) (hc : cells ≠ []) (hl : cells.length ≤ 1000) (sp l a : Int) (hs : 0 ≤ sp ∧ sp ≤ 1000) (rest : List MO) :
    ∃ b : Bool, turnK (Cn (n + 1)) 36 (eNames (eR (eL (eItem 0 (sE (sAt 1 (sB (sAt 1 (fnI (.fn "_law_rows")).body)))))))) (eElt (eR (eL (eItem 0 (sE (sAt 1 (sB (sAt 1 (fnI (.fn "_law_rows")).body)))))))) (eGens (eR (eL (eItem 0 (sE (sAt 1 (sB (sAt 1 (fnI (.fn "_law_rows")).body)))))))) [("low", .d (.int l)), ("feed", .p 0)] (.int a) (Fd (cells.map .int) sp :: rest) = some (if b then [PyData.int (l + a)] else [], Fd (cells.map .int) (sp + 1) :: rest) := by
  obtain ⟨r, hr, e⟩ := c_draw n cells sp rest 2 (by omega) hc hl hs
  have a1 := bin_add (Fd (cells.map .int) (sp + 1) :: rest) l a
  have c1 := cmp_eq_int (Fd (cells.map .int) (sp + 1) :: rest) r 1
  refine ⟨r == 1, ?_⟩
  rw [t_rows_b1_0, e, Option.bind_some, c1, Option.bind_some]
  cases r == 1
  · rfl
  · rw [if_pos rfl, a1, Option.bind_some]; rfl
theorem in_rows {l : Int} (hl : l = -1 ∨ l = 0 ∨ l = 1) {r : List Int} (h : r ∈ shapes l) : r ∈ allRows := by
  unfold allRows
  rw [List.mem_append, List.mem_append]
  rcases hl with rfl | rfl | rfl
  · exact .inl (.inl h)
  · exact .inl (.inr h)
  · exact .inr h
theorem rows_comp (n : Nat) (cells : List Int) (hc : cells ≠ []) (hl : cells.length ≤ 1000) (sp l : Int) (hs : 0 ≤ sp ∧ sp ≤ 900) (rest : List MO) :
    ∃ ys : List Int, (∃ r ∈ shapes l, ∀ σ : List MO, binD .Add σ (.d (.list [.int l])) (.d (.list (ys.map .int))) = some (.list ((l :: ys).map .int)) ∧ sliceD σ (.d (.list ((l :: ys).map .int))) none (some 3) = some (.list (r.map .int)) ∧ okLen (ys.map PyData.int).length = true) ∧ g_rows_b1_0 (Cn (n + 1)) (.fix [.int 1, .int 2, .int 3]) [("low", .d (.int l)), ("feed", .p 0)] (Fd (cells.map .int) sp :: rest) = some (ys.map .int, Fd (cells.map .int) (sp + 3) :: rest) := by
  obtain ⟨b1, e1⟩ := rows_step n cells hc hl sp l 1 (by (first | lia | omega)) rest
  obtain ⟨b2, e2⟩ := rows_step n cells hc hl (sp + 1) l 2 (by (first | lia | omega)) rest
  obtain ⟨b3, e3⟩ := rows_step n cells hc hl (sp + 1 + 1) l 3 (by (first | lia | omega)) rest
  have g : g_rows_b1_0 (Cn (n + 1)) (.fix [.int 1, .int 2, .int 3]) [("low", .d (.int l)), ("feed", .p 0)] (Fd (cells.map .int) sp :: rest) = some ((if b1 then [PyData.int (l + 1)] else []) ++ ((if b2 then [PyData.int (l + 2)] else []) ++ ((if b3 then [PyData.int (l + 3)] else []) ++ [])), Fd (cells.map .int) (sp + 3) :: rest) := by
    unfold g_rows_b1_0
    have h4 : sp + 1 + 1 + 1 = sp + 3 := by (first | lia | omega)
    rw [h4] at e3
    exact (gen_comp (by kernel_rfl) (by show 3 ≤ 4096; (first | lia | omega))).trans (compL3 _ e1 e2 e3)
  refine ⟨(if b1 then [l + 1] else []) ++ ((if b2 then [l + 2] else []) ++ (if b3 then [l + 3] else [])), ?_, ?_⟩
  · refine ⟨((l :: ((if b1 then [l + 1] else []) ++ ((if b2 then [l + 2] else []) ++ (if b3 then [l + 3] else [])))).take 3), ?_, fun σ => ?_⟩
    · unfold shapes
      cases b1 <;> cases b2 <;> cases b3 <;> simp
    · cases b1 <;> cases b2 <;> cases b3 <;> exact ⟨by kernel_rfl, by kernel_rfl, by kernel_rfl⟩
  · rw [g]
    cases b1 <;> cases b2 <;> cases b3 <;> rfl
theorem m_ap1 (f : MO) (xs : List PyData) : methD [f, .list xs] 1 "append" = some none := by kernel_rfl
theorem ap1 (C : Calls) (f : MO) (xs : List PyData) (d : PyData) (h : xs.length ≤ 4096) : methM C "append" (.p 1) 1 [.d d] none [f, .list xs] = some (.d .none, [f, .list (xs ++ [d])]) := by
  have e : methM C "append" (.p 1) 1 [.d d] none [f, .list xs] = if okLen xs.length then some (.d .none, [f, .list (xs ++ [d])]) else none := by kernel_rfl
  rw [e, okLen_of h]; rfl
theorem it123 (σ : List MO) : iterOf σ (.d (.tuple [.int 1, .int 2, .int 3])) = some (.fix [.int 1, .int 2, .int 3]) := by kernel_rfl
theorem rows_b1 (n : Nat) (cells : List Int) (hc : cells ≠ []) (hl : cells.length ≤ 1000) (sp : Int) (hs : 0 ≤ sp ∧ sp ≤ 800) (fo : List PyData) (hf : fo.length ≤ 100) (x : PyData) :
    ∃ (l : Int) (r : List Int), r ∈ allRows ∧ ∀ kn kr : _, blK (β := Val × List MO) (Cn (n + 1)) glob 40 (fnI (.fn "_law_rows")).sc 38 ((sB (sAt 1 (fnI (.fn "_law_rows")).body))) [("x", .d x), ("found", .p 1), ("feed", .p 0)] kn kr [Fd (cells.map .int) sp, .list fo] = kn [("low", .d (.int l)), ("x", .d x), ("found", .p 1), ("feed", .p 0)] [Fd (cells.map .int) (sp + 4), .list (fo ++ [.list (r.map .int)])] := by
  obtain ⟨d, hd, e⟩ := c_draw n cells sp [.list fo] 3 (by (first | lia | omega)) hc hl (by (first | lia | omega))
  obtain ⟨ys, ⟨r, hr, hy⟩, g⟩ := rows_comp n cells hc hl (sp + 1) (d - 1) (by (first | lia | omega)) [.list fo]
  have s1 := bin_sub [Fd (cells.map .int) (sp + 1), .list fo] d 1
  have h4 : sp + 1 + 3 = sp + 4 := by (first | lia | omega)
  rw [h4] at g
  obtain ⟨y1, y2, y3⟩ := hy [Fd (cells.map .int) (sp + 4), .list fo]
  refine ⟨d - 1, r, in_rows (by (first | lia | omega)) hr, fun kn kr => ?_⟩
  rw [s_rows_b1, e, Option.bind_some, s1, Option.bind_some, pt, Option.bind_some, m_ap1, Option.bind_some, it123, Option.bind_some, g, Option.bind_some, y3, if_pos rfl, y1, Option.bind_some, y2, Option.bind_some, ap1 _ _ _ _ (by (first | lia | omega)), Option.bind_some]
  rfl
theorem rows_b2 (n : Nat) (cells : List Int) (hc : cells ≠ []) (hl : cells.length ≤ 1000) (sp : Int) (hs : 0 ≤ sp ∧ sp ≤ 800) (fo : List PyData) (hf : fo.length ≤ 100) (x l0 : PyData) :
    ∃ (l : Int) (r : List Int), r ∈ allRows ∧ ∀ kn kr : _, blK (β := Val × List MO) (Cn (n + 1)) glob 40 (fnI (.fn "_law_rows")).sc 38 ((sB (sAt 1 (fnI (.fn "_law_rows")).body))) [("x", .d x), ("low", .d l0), ("found", .p 1), ("feed", .p 0)] kn kr [Fd (cells.map .int) sp, .list fo] = kn [("low", .d (.int l)), ("x", .d x), ("found", .p 1), ("feed", .p 0)] [Fd (cells.map .int) (sp + 4), .list (fo ++ [.list (r.map .int)])] := by
  obtain ⟨l, r, hr, h⟩ := rows_b1 n cells hc hl sp hs fo hf x
  refine ⟨l, r, hr, fun kn kr => ?_⟩
  have := h kn kr
  rw [s_rows_b1] at this
  rw [s_rows_b2, show g_rows_b2_0 = g_rows_b1_0 from rfl]
  exact this
/-- what the rows are -/
noncomputable def RowsV (v : Val) (w : MO) (r0 r1 r2 : List Int) : Prop := ∀ (f : MO) (tl : List MO), itemD (f :: w :: tl) v (.d (.int 0)) = some (.list (r0.map .int)) ∧ itemD (f :: w :: tl) v (.d (.int 1)) = some (.list (r1.map .int)) ∧ itemD (f :: w :: tl) v (.d (.int 2)) = some (.list (r2.map .int))
theorem bdr1 (k : PyData) : bindD (fnI (.fn "_law_rows")).sc (sTg (sAt 1 (fnI (.fn "_law_rows")).body)) k ([("found", .p 1), ("feed", .p 0)] : Rho) = some ([("x", .d k), ("found", .p 1), ("feed", .p 0)] : Rho) := by kernel_rfl
theorem bdr2 (k l x : PyData) : bindD (fnI (.fn "_law_rows")).sc (sTg (sAt 1 (fnI (.fn "_law_rows")).body)) k ([("low", .d l), ("x", .d x), ("found", .p 1), ("feed", .p 0)] : Rho) = some ([("x", .d k), ("low", .d l), ("found", .p 1), ("feed", .p 0)] : Rho) := by kernel_rfl
theorem c_rows (n : Nat) (cells : List Int) (hc : cells ≠ []) (hl : cells.length ≤ 1000) : ∃ (r0 r1 r2 : List Int) (v : Val) (w : MO), r0 ∈ allRows ∧ r1 ∈ allRows ∧ r2 ∈ allRows ∧ RowsV v w r0 r1 r2 ∧ Cn (n + 2) (.fn "_law_rows") [.p 0] [Fd (cells.map .int) 0] = some (v, [Fd (cells.map .int) 13, w]) := by
  obtain ⟨l0, r0, h0, e0⟩ := rows_b1 n cells hc hl 0 (by (first | lia | omega)) [] (by simp) (.int 0)
  obtain ⟨l1, r1, h1, e1⟩ := rows_b2 n cells hc hl (0 + 4) (by (first | lia | omega)) ([] ++ [.list (r0.map .int)]) (by simp) (.int 1) (.int l0)
  obtain ⟨l2, r2, h2, e2⟩ := rows_b2 n cells hc hl (0 + 4 + 4) (by (first | lia | omega)) ([] ++ [.list (r0.map .int)] ++ [.list (r1.map .int)]) (by simp) (.int 2) (.int l1)
  obtain ⟨d, hd, e⟩ := c_draw n cells (0 + 4 + 4 + 4) [.list ([] ++ [.list (r0.map .int)] ++ [.list (r1.map .int)] ++ [.list (r2.map .int)])] 3 (by (first | lia | omega)) hc hl (by (first | lia | omega))
  have rg : rangeD [.d (.int 3)] ([Fd (cells.map .int) 0] ++ [.list []]) = some (.fix [.int 0, .int 1, .int 2], [Fd (cells.map .int) 0, .list []]) := by kernel_rfl
  have ce := cmp_eq_int [Fd (cells.map .int) (0 + 4 + 4 + 4 + 1), .list ([] ++ [.list (r0.map .int)] ++ [.list (r1.map .int)] ++ [.list (r2.map .int)])] d 2
  have run : ∀ k : Val → List MO → Option (Val × List MO), (k = fun v σ => some (v, σ)) → Cn (n + 2) (.fn "_law_rows") [.p 0] [Fd (cells.map .int) 0] = (if d == 2 then (fun σ3 : List MO => (sliceD σ3 (.p 1) (some 1) none).bind fun y4 => (binD .Add σ3 (.d (.list [.list [.int 0, .int 1]])) (.d (y4))).bind fun y5 => k (.d (y5)) σ3) else (fun σ3 => k (.p 1) σ3)) [Fd (cells.map .int) (0 + 4 + 4 + 4 + 1), .list ([] ++ [.list (r0.map .int)] ++ [.list (r1.map .int)] ++ [.list (r2.map .int)])] := by
    rintro k rfl
    rw [k_law_rows, s_rows, rg, Option.bind_some]
    show toK2 (forG _ _ (.fix [.int 0, .int 1, .int 2]) _ _ _ [("found", .p 1), ("feed", .p 0)]) _ _ [Fd (cells.map .int) 0, .list []] = _
    rw [forG_fix _ _ _ _ _ _ _ _ _ _ (by decide), forL_cons, bdr1, Option.bind_some, e0, forL_cons, bdr2, Option.bind_some, e1, forL_cons, bdr2, Option.bind_some, e2, forL_nil, s_rows_e, e, Option.bind_some, ce, Option.bind_some]
  rw [run _ rfl]
  cases d == 2
  · rw [if_neg (by simp)]
    refine ⟨r0, r1, r2, _, _, h0, h1, h2, fun f tl => ⟨?_, ?_, ?_⟩, rfl⟩ <;> kernel_rfl
  · rw [if_pos rfl]
    have sl : ∀ f : MO, sliceD [f, .list ([] ++ [.list (r0.map .int)] ++ [.list (r1.map .int)] ++ [.list (r2.map .int)])] (.p 1) (some 1) none = some (.list [.list (r1.map .int), .list (r2.map .int)]) := fun f => by kernel_rfl
    have ad : ∀ σ, binD .Add σ (.d (.list [.list [.int 0, .int 1]])) (.d (.list [.list (r1.map .int), .list (r2.map .int)])) = some (.list [.list [.int 0, .int 1], .list (r1.map .int), .list (r2.map .int)]) := fun σ => by kernel_rfl
    rw [sl, Option.bind_some, ad, Option.bind_some]
    refine ⟨[0, 1], r1, r2, _, _, by decide, h1, h2, fun f tl => ⟨?_, ?_, ?_⟩, rfl⟩ <;> kernel_rfl
end Mine.Q
end
section
open PySem PySem.W PyProof.Rows
set_option Elab.async false
set_option maxRecDepth 100000
set_option linter.unusedSimpArgs false
namespace Mine.Q
noncomputable def domL (r : List Int) : MO := .list ((runsI r).map pairD)
theorem c_gath (n : Nat) (cs : List PyData) (sp : Int) (w : MO) : Cn (n + 3) (.fn "Gatherer") [] [Fd cs sp, w] = some (.p 2, [Fd cs sp, w, gathO, flatO, .list [], .list [], .made []]) := by kernel_rfl
theorem c_dom7 (n : Nat) (a b c d e f g : MO) : ∀ r ∈ allRows, Cn (n + 1) (.fn "_law_domain") [.d (.list (r.map .int))] [a, b, c, d, e, f, g] = some (.d (domD r), [a, b, c, d, e, f, g, domL r]) := by
  refine rows_all fun l hl => ?_
  rcases hl with rfl | rfl | rfl <;> (refine ⟨?_, ?_, ?_, ?_, ?_, ?_, ?_⟩ <;> (rw [k_law_domain]; kernel_rfl))
theorem c_dom8 (n : Nat) (a b c d e f g h : MO) : ∀ r ∈ allRows, Cn (n + 1) (.fn "_law_domain") [.d (.list (r.map .int))] [a, b, c, d, e, f, g, h] = some (.d (domD r), [a, b, c, d, e, f, g, h, domL r]) := by
  refine rows_all fun l hl => ?_
  rcases hl with rfl | rfl | rfl <;> (refine ⟨?_, ?_, ?_, ?_, ?_, ?_, ?_⟩ <;> (rw [k_law_domain]; kernel_rfl))
theorem c_dom9 (n : Nat) (a b c d e f g h i : MO) : ∀ r ∈ allRows, Cn (n + 1) (.fn "_law_domain") [.d (.list (r.map .int))] [a, b, c, d, e, f, g, h, i] = some (.d (domD r), [a, b, c, d, e, f, g, h, i, domL r]) := by
  refine rows_all fun l hl => ?_
  rcases hl with rfl | rfl | rfl <;> (refine ⟨?_, ?_, ?_, ?_, ?_, ?_, ?_⟩ <;> (rw [k_law_domain]; kernel_rfl))
theorem c_new1 (n : Nat) (f w : MO) (tl : List MO) (a b : PyData) : Cn (n + 1) (.mth "Flat" "new_var") [.p 3, .d a, .d b] (f :: w :: gathO :: flatO :: .list [] :: tl) = some (.d (.int 0), f :: w :: gathO :: flatO :: .list [.tuple [a, b]] :: tl) := by
  rw [k_new_var, s_new_var]; kernel_rfl
theorem c_new2 (n : Nat) (f w : MO) (tl : List MO) (a b u : PyData) : Cn (n + 1) (.mth "Flat" "new_var") [.p 3, .d a, .d b] (f :: w :: gathO :: flatO :: .list [u] :: tl) = some (.d (.int 1), f :: w :: gathO :: flatO :: .list [u, .tuple [a, b]] :: tl) := by
  rw [k_new_var, s_new_var]; kernel_rfl
theorem c_new3 (n : Nat) (f w : MO) (tl : List MO) (a b u v : PyData) : Cn (n + 1) (.mth "Flat" "new_var") [.p 3, .d a, .d b] (f :: w :: gathO :: flatO :: .list [u, v] :: tl) = some (.d (.int 2), f :: w :: gathO :: flatO :: .list [u, v, .tuple [a, b]] :: tl) := by
  rw [k_new_var, s_new_var]; kernel_rfl
theorem a_flat0 (f w : MO) (tl : List MO) : attrD (f :: w :: gathO :: flatO :: tl) (.p 2) "flat" = some (.p 3) := by kernel_rfl
theorem m_new0 (f w : MO) (tl : List MO) : methD (f :: w :: gathO :: flatO :: tl) 3 "new_var" = some (some ("Flat" : Str)) := by kernel_rfl
theorem xyz0 (σ : List MO) : itemD σ (.d (.str "xyz")) (.d (.int 0)) = some (.str ⟨#[120]⟩) := by kernel_rfl
theorem xyz1 (σ : List MO) : itemD σ (.d (.str "xyz")) (.d (.int 1)) = some (.str ⟨#[121]⟩) := by kernel_rfl
theorem xyz2 (σ : List MO) : itemD σ (.d (.str "xyz")) (.d (.int 2)) = some (.str ⟨#[122]⟩) := by kernel_rfl
theorem bdl (k : PyData) (r s : Val) : bindD (fnI (.fn "law")).sc (sTg (sAt 2 (fnI (.fn "law")).body)) k ([("gatherer", .p 2), ("rows", r), ("feed", .p 0), ("script", s)] : Rho) = some ([("x", .d k), ("gatherer", .p 2), ("rows", r), ("feed", .p 0), ("script", s)] : Rho) := by kernel_rfl
theorem bdl2 (k k0 : PyData) (r s : Val) : bindD (fnI (.fn "law")).sc (sTg (sAt 2 (fnI (.fn "law")).body)) k ([("x", .d k0), ("gatherer", .p 2), ("rows", r), ("feed", .p 0), ("script", s)] : Rho) = some ([("x", .d k), ("gatherer", .p 2), ("rows", r), ("feed", .p 0), ("script", s)] : Rho) := by kernel_rfl
section
variable (n : Nat) (r0 r1 r2 : List Int) (h0 : r0 ∈ allRows) (h1 : r1 ∈ allRows) (h2 : r2 ∈ allRows) (v : Val) (w : MO) (hv : RowsV v w r0 r1 r2) (f : MO) (s : Val)
noncomputable def v0 (r0 : List Int) : PyData := .tuple [.str ⟨#[120]⟩, domD r0]
noncomputable def v1 (r0 : List Int) : PyData := .tuple [.str ⟨#[121]⟩, domD r0]
noncomputable def v2 (r0 : List Int) : PyData := .tuple [.str ⟨#[122]⟩, domD r0]
variable (kn : Rho → List MO → Option (Val × List MO)) (kr : Val → List MO → Option (Val × List MO))
include h0 hv in
theorem law_b0 : blK (Cn (n + 1)) glob 40 (fnI (.fn "law")).sc 37 ((sB (sAt 2 (fnI (.fn "law")).body))) [("x", .d (.int 0)), ("gatherer", .p 2), ("rows", v), ("feed", .p 0), ("script", s)] kn kr [f, w, gathO, flatO, .list [], .list [], .made []] = kn [("x", .d (.int 0)), ("gatherer", .p 2), ("rows", v), ("feed", .p 0), ("script", s)] [f, w, gathO, flatO, .list [v0 r0], .list [], .made [], domL r0] := by
  rw [s_law_b, a_flat0, Option.bind_some, pt, Option.bind_some, m_new0, Option.bind_some, xyz0, Option.bind_some, (hv _ _).1, Option.bind_some, c_dom7 n _ _ _ _ _ _ _ r0 h0, Option.bind_some, mm_some, c_new1, Option.bind_some, cmp_ne_int, Option.bind_some]
  rfl
include h1 hv in
theorem law_b1 (u : PyData) (t : MO) : blK (Cn (n + 1)) glob 40 (fnI (.fn "law")).sc 37 ((sB (sAt 2 (fnI (.fn "law")).body))) [("x", .d (.int 1)), ("gatherer", .p 2), ("rows", v), ("feed", .p 0), ("script", s)] kn kr [f, w, gathO, flatO, .list [u], .list [], .made [], t] = kn [("x", .d (.int 1)), ("gatherer", .p 2), ("rows", v), ("feed", .p 0), ("script", s)] [f, w, gathO, flatO, .list [u, v1 r1], .list [], .made [], t, domL r1] := by
  rw [s_law_b, a_flat0, Option.bind_some, pt, Option.bind_some, m_new0, Option.bind_some, xyz1, Option.bind_some, (hv _ _).2.1, Option.bind_some, c_dom8 n _ _ _ _ _ _ _ _ r1 h1, Option.bind_some, mm_some, c_new2, Option.bind_some, cmp_ne_int, Option.bind_some]
  rfl
include h2 hv in
theorem law_b2 (u z : PyData) (t t' : MO) : blK (Cn (n + 1)) glob 40 (fnI (.fn "law")).sc 37 ((sB (sAt 2 (fnI (.fn "law")).body))) [("x", .d (.int 2)), ("gatherer", .p 2), ("rows", v), ("feed", .p 0), ("script", s)] kn kr [f, w, gathO, flatO, .list [u, z], .list [], .made [], t, t'] = kn [("x", .d (.int 2)), ("gatherer", .p 2), ("rows", v), ("feed", .p 0), ("script", s)] [f, w, gathO, flatO, .list [u, z, v2 r2], .list [], .made [], t, t', domL r2] := by
  rw [s_law_b, a_flat0, Option.bind_some, pt, Option.bind_some, m_new0, Option.bind_some, xyz2, Option.bind_some, (hv _ _).2.2, Option.bind_some, c_dom9 n _ _ _ _ _ _ _ _ _ r2 h2, Option.bind_some, mm_some, c_new3, Option.bind_some, cmp_ne_int, Option.bind_some]
  rfl
end
end Mine.Q
end
section
open PySem PySem.W PyProof.Rows
set_option Elab.async false
set_option maxRecDepth 100000
set_option linter.unusedSimpArgs false
namespace Mine.Q
noncomputable abbrev lawP : Expr := sE (sAt 3 (fnI (.fn "law")).body)
noncomputable def gPt (C : Calls) (k : Nat) (src : Src) (ρ : Rho) : M (List PyData) := evGens (fun e ρ' => evE C glob 39 (eNames lawP) ρ' e) (fun tup e ρ' => evIter (evE C glob 39 (eNames lawP) ρ') (eNames lawP) tup e) (eNames lawP) (eElt lawP) ((eGens lawP).drop k) src ρ
theorem t_p0 (C : Calls) (r : Val) (a : PyData) (σ : List MO) : turnK C 39 (eNames lawP) (eElt lawP) ((eGens lawP).drop 0) [("rows", r)] a σ = (itemD σ r (.d (.int 1))).bind fun y => (iterOf σ (.d y)).bind fun s => (gPt C 1 s [("a", .d a), ("rows", r)] σ).bind fun p => some (p.1, p.2) := by kernel_rfl
theorem t_p1 (C : Calls) (r : Val) (a b : PyData) (σ : List MO) : turnK C 39 (eNames lawP) (eElt lawP) ((eGens lawP).drop 1) [("a", .d a), ("rows", r)] b σ = (itemD σ r (.d (.int 2))).bind fun y => (iterOf σ (.d y)).bind fun s => (gPt C 2 s [("b", .d b), ("a", .d a), ("rows", r)] σ).bind fun p => some (p.1, p.2) := by kernel_rfl
theorem t_p2 (C : Calls) (r : Val) (a b c : PyData) (σ : List MO) : turnK C 39 (eNames lawP) (eElt lawP) ((eGens lawP).drop 2) [("b", .d b), ("a", .d a), ("rows", r)] c σ = some ([.tuple [a, b, c]], σ) := by kernel_rfl
noncomputable def pts (r0 r1 r2 : List Int) : List Pt := r0.flatMap fun a => r1.flatMap fun b => r2.map fun c => (a, b, c)
theorem rows_len : ∀ r ∈ allRows, 1 ≤ r.length ∧ r.length ≤ 3 := rows_all fun l _ => by simp
theorem rows_sm : ∀ r ∈ allRows, ∀ a ∈ r, -1 ≤ a ∧ a ≤ 4 := by decide
theorem g_p2 (C : Calls) (v : Val) (a b : Int) (r : List Int) (hr : r ∈ allRows) (σ : List MO) : gPt C 2 (.fix (r.map .int)) [("b", .d (.int b)), ("a", .d (.int a)), ("rows", v)] σ = some ((r.map fun c => ((a, b, c) : Pt)).map ptV, σ) := by
  unfold gPt
  rw [gen_map (fun c : Int => [ptV (a, b, c)]) (by kernel_rfl) (by have := rows_len r hr; omega) fun c _ => t_p2 _ _ _ _ _ _]
  rw [flat_one, List.map_map]; rfl
theorem g_p1 (C : Calls) (v : Val) (a : Int) (r1 r2 : List Int) (h1 : r1 ∈ allRows) (h2 : r2 ∈ allRows) (σ : List MO) (hv : itemD σ v (.d (.int 2)) = some (.list (r2.map .int))) : gPt C 1 (.fix (r1.map .int)) [("a", .d (.int a)), ("rows", v)] σ = some ((r1.flatMap fun b => r2.map fun c => ((a, b, c) : Pt)).map ptV, σ) := by
  have l2 := rows_len r2 h2
  unfold gPt
  rw [gen_map (fun b : Int => (r2.map fun c => ((a, b, c) : Pt)).map ptV) (by kernel_rfl) (by have := rows_len r1 h1; (first | lia | omega)) fun b _ => ?_]
  · rw [List.map_flatMap]
  · rw [t_p1, hv, Option.bind_some, io_l σ (by rw [List.length_map]; (first | lia | omega)), Option.bind_some, g_p2 C v a b r2 h2, Option.bind_some]
theorem g_pts (C : Calls) (v : Val) (r0 r1 r2 : List Int) (h0 : r0 ∈ allRows) (h1 : r1 ∈ allRows) (h2 : r2 ∈ allRows) (σ : List MO) (hv1 : itemD σ v (.d (.int 1)) = some (.list (r1.map .int))) (hv2 : itemD σ v (.d (.int 2)) = some (.list (r2.map .int))) : g_law_r_0 C (.fix (r0.map .int)) [("rows", v)] σ = some ((pts r0 r1 r2).map ptV, σ) := by
  have l1 := rows_len r1 h1
  show gPt C 0 (.fix (r0.map .int)) [("rows", v)] σ = _
  unfold gPt pts
  rw [gen_map (fun a : Int => (r1.flatMap fun b => r2.map fun c => ((a, b, c) : Pt)).map ptV) (by kernel_rfl) (by have := rows_len r0 h0; (first | lia | omega)) fun a _ => ?_]
  · rw [List.map_flatMap]
  · rw [t_p0, hv1, Option.bind_some, io_l σ (by rw [List.length_map]; (first | lia | omega)), Option.bind_some, g_p1 C v a r1 r2 h1 h2 σ hv2, Option.bind_some]
theorem pts_mem {r0 r1 r2 : List Int} {p : Pt} : p ∈ pts r0 r1 r2 ↔ p.1 ∈ r0 ∧ p.2.1 ∈ r1 ∧ p.2.2 ∈ r2 := by
  obtain ⟨a, b, c⟩ := p
  unfold pts
  simp only [List.mem_flatMap, List.mem_map]
  constructor
  · rintro ⟨a', ha, b', hb, c', hc, e⟩
    cases e
    exact ⟨ha, hb, hc⟩
  · rintro ⟨ha, hb, hc⟩
    exact ⟨a, ha, b, hb, c, hc, rfl⟩
theorem pts_len (r0 r1 r2 : List Int) : (pts r0 r1 r2).length = r0.length * (r1.length * r2.length) := by
  unfold pts
  have e : ∀ a : Int, (r1.flatMap fun b => r2.map fun c => ((a, b, c) : Pt)).length = r1.length * r2.length := by
    intro a
    induction r1 with
    | nil => simp
    | cons b r1 ih => rw [List.flatMap_cons, List.length_append, ih, List.length_map, List.length_cons]; simp [Nat.add_mul, Nat.add_comm]
  induction r0 with
  | nil => simp
  | cons a r0 ih => rw [List.flatMap_cons, List.length_append, ih, e, List.length_cons]; simp [Nat.add_mul, Nat.add_comm]
theorem pts_small {r0 r1 r2 : List Int} (h0 : r0 ∈ allRows) (h1 : r1 ∈ allRows) (h2 : r2 ∈ allRows) : (pts r0 r1 r2).length ≤ 27 := by
  have a := (rows_len r0 h0).2
  have b := (rows_len r1 h1).2
  have c := (rows_len r2 h2).2
  rw [pts_len]
  exact Nat.le_trans (Nat.mul_le_mul a (Nat.mul_le_mul b c)) (by (first | lia | omega))
theorem pts_sm {r0 r1 r2 : List Int} (h0 : r0 ∈ allRows) (h1 : r1 ∈ allRows) (h2 : r2 ∈ allRows) : ∀ p ∈ pts r0 r1 r2, PSm p := by
  intro p hp
  obtain ⟨a, b, c⟩ := pts_mem.mp hp
  have a := rows_sm r0 h0 _ a
  have b := rows_sm r1 h1 _ b
  have c := rows_sm r2 h2 _ c
  exact ⟨⟨by (first | lia | omega), by (first | lia | omega)⟩, ⟨by (first | lia | omega), by (first | lia | omega)⟩, ⟨by (first | lia | omega), by (first | lia | omega)⟩⟩
theorem menu (σ : List MO) (r : Int) (h : 0 ≤ r ∧ r < 8) : ∃ a : Int, a.natAbs ≤ 6 ∧ itemD σ (.d (.tuple [.int 0, .int 1, .int (-1), .int 2, .int (-2), .int 3, .int 4, .int (-6)])) (.d (.int r)) = some (.int a) := by
  have : r = 0 ∨ r = 1 ∨ r = 2 ∨ r = 3 ∨ r = 4 ∨ r = 5 ∨ r = 6 ∨ r = 7 := by (first | lia | omega)
  rcases this with rfl | rfl | rfl | rfl | rfl | rfl | rfl | rfl
  · exact ⟨0, by decide, by kernel_rfl⟩
  · exact ⟨1, by decide, by kernel_rfl⟩
  · exact ⟨-1, by decide, by kernel_rfl⟩
  · exact ⟨2, by decide, by kernel_rfl⟩
  · exact ⟨-2, by decide, by kernel_rfl⟩
  · exact ⟨3, by decide, by kernel_rfl⟩
  · exact ⟨4, by decide, by kernel_rfl⟩
  · exact ⟨-6, by decide, by kernel_rfl⟩
theorem num_step (n : Nat) {x : Cx} {cells : List Int} (F : Feed x cells) (hs : 0 ≤ x.sp ∧ x.sp ≤ 1000) (K : List TKey) (t : PyData) :
    ∃ a : Int, a.natAbs ≤ 6 ∧ turnK (Cn (n + 1)) 39 (eNames (sE (sAt 0 (sB (sAt 4 (fnI (.fn "law")).body))))) (eElt (sE (sAt 0 (sB (sAt 4 (fnI (.fn "law")).body))))) (eGens (sE (sAt 0 (sB (sAt 4 (fnI (.fn "law")).body))))) [("feed", .p 0)] t (S x K) = some ([.int a], S (x.at (x.sp + 1)) K) := by
  obtain ⟨r, hr, e⟩ := draw_S n F hs K 8 (by (first | lia | omega))
  obtain ⟨a, ha, m⟩ := menu (S (x.at (x.sp + 1)) K) r hr
  refine ⟨a, ha, ?_⟩
  rw [t_law_t1_0, e, Option.bind_some, m, Option.bind_some]
theorem feed_at {x : Cx} {cells : List Int} (F : Feed x cells) (sp : Int) : Feed (x.at sp) cells := ⟨F.cs, F.ne, F.len⟩
theorem nums (n : Nat) {x : Cx} {cells : List Int} (F : Feed x cells) (hs : 0 ≤ x.sp ∧ x.sp ≤ 900) (K : List TKey) :
    ∃ q : Pt, (q.1.natAbs ≤ 6 ∧ q.2.1.natAbs ≤ 6 ∧ q.2.2.natAbs ≤ 6) ∧ g_law_t1_0 (Cn (n + 1)) (.fix [.int 0, .int 1, .int 2]) [("feed", .p 0)] (S x K) = some ([.int q.1, .int q.2.1, .int q.2.2], S (x.at (x.sp + 3)) K) := by
  obtain ⟨a, ha, e1⟩ := num_step n F (by (first | lia | omega)) K (.int 0)
  obtain ⟨b, hb, e2⟩ := num_step n (x := x.at (x.sp + 1)) (feed_at F _) (by show 0 ≤ x.sp + 1 ∧ x.sp + 1 ≤ 1000; (first | lia | omega)) K (.int 1)
  obtain ⟨c, hc, e3⟩ := num_step n (x := x.at (x.sp + 1 + 1)) (feed_at F _) (by show 0 ≤ x.sp + 1 + 1 ∧ x.sp + 1 + 1 ≤ 1000; (first | lia | omega)) K (.int 2)
  refine ⟨(a, b, c), ⟨ha, hb, hc⟩, ?_⟩
  have e3' : turnK (Cn (n + 1)) 39 _ _ _ [("feed", .p 0)] (.int 2) (S (x.at (x.sp + 1 + 1)) K) = some ([.int c], S (x.at (x.sp + 1 + 1 + 1)) K) := e3
  have h4 : x.sp + 1 + 1 + 1 = x.sp + 3 := by (first | lia | omega)
  rw [h4] at e3'
  exact (gen_comp (by kernel_rfl) (by show 3 ≤ 4096; (first | lia | omega))).trans (compL3 _ e1 e2 e3')
section
variable (n : Nat) {x : Cx} (hx : x.Ok) {cells : List Int} (F : Feed x cells) (hs : 0 ≤ x.sp ∧ x.sp ≤ 800) (K : List TKey) (hK : K.length ≤ 100) (ps : List Pt) (hp : ∀ p ∈ ps, PSm p) (hl : ps.length ≤ 27)
  (G : ∀ (sp : Int) (q : Pt) (c m : Int) (kd : Kd), (q.1.natAbs ≤ 6 ∧ q.2.1.natAbs ≤ 6 ∧ q.2.2.natAbs ≤ 6) → c.natAbs ≤ 5 → 2 ≤ m ∧ m ≤ 4 → Good (x.at sp) ps q c m kd) (u k : PyData) (v s : Val)
include hx F hs hK hp hl G
theorem law_t1 : ∃ (K' : List TKey) (q : Pt), K'.length ≤ K.length + 3 ∧ ∀ kn kr : _, blK (β := Val × List MO) (Cn (n + 7)) glob 40 (fnI (.fn "law")).sc 35 ((sB (sAt 4 (fnI (.fn "law")).body))) [("turn", .d u), ("points", .d (ptsD ps)), ("x", .d k), ("gatherer", .p 2), ("rows", v), ("feed", .p 0), ("script", s)] kn kr (S x K)
    = kn [("numbers", .d (nsD q)), ("turn", .d u), ("points", .d (ptsD ps)), ("x", .d k), ("gatherer", .p 2), ("rows", v), ("feed", .p 0), ("script", s)] (S (x.at (x.sp + 5)) K') := by
  obtain ⟨q, hq, e1⟩ := nums (n + 6) F (by (first | lia | omega)) K
  obtain ⟨d, hd, e2⟩ := draw_S (n + 6) (x := x.at (x.sp + 3)) (feed_at F _) (by show 0 ≤ x.sp + 3 ∧ x.sp + 3 ≤ 1000; (first | lia | omega)) K 11 (by (first | lia | omega))
  have e2' : Cn (n + 7) (.fn "_law_draw") [.p 0, .d (.int 11)] (S (x.at (x.sp + 3)) K) = some (.d (.int d), S (x.at (x.sp + 3 + 1)) K) := e2
  have h4 : x.sp + 3 + 1 = x.sp + 4 := by (first | lia | omega)
  rw [h4] at e2'
  obtain ⟨K', hK', e3⟩ := c_sum_right n (x.at (x.sp + 4)) (at_ok hx _) (feed_at F _) (by show 0 ≤ x.sp + 4 ∧ x.sp + 4 ≤ 1000; (first | lia | omega)) K (by (first | lia | omega)) ps hp hl q hq (d - 5) (by (first | lia | omega)) fun m kd hm => G (x.sp + 4 + 1) q (d - 5) m kd hq (by (first | lia | omega)) hm
  have e3' : Cn (n + 7) (.fn "_law_is_sum_right") [.p 0, .p 2, .d (ptsD ps), .d (nsD q), .d (.int (d - 5))] (S (x.at (x.sp + 4)) K) = some (.d (.bool true), S (x.at (x.sp + 4 + 1)) K') := e3
  have h5 : x.sp + 4 + 1 = x.sp + 5 := by (first | lia | omega)
  rw [h5] at e3'
  have rg : ∀ σ, rangeD [.d (.int 3)] σ = some (.fix [.int 0, .int 1, .int 2], σ) := fun σ => by kernel_rfl
  have o3 : ∀ a b c : Int, okLen [PyData.int a, .int b, .int c].length = true := fun _ _ _ => by kernel_rfl
  have s5 := bin_sub (S (x.at (x.sp + 4)) K) d 5
  have tr : truthD (.d (.bool true)) = some true := rfl
  refine ⟨K', q, hK', fun kn kr => ?_⟩
  rw [s_law_t1, rg, Option.bind_some, e1, Option.bind_some, o3, if_pos rfl, e2', Option.bind_some, s5, Option.bind_some]
  have e3'' : Cn (n + 7) (.fn "_law_is_sum_right") [.p 0, .p 2, .d (ptsD ps), .d (.list [.int q.1, .int q.2.1, .int q.2.2]), .d (.int (d - 5))] (S (x.at (x.sp + 4)) K) = some (.d (.bool true), S (x.at (x.sp + 5)) K') := e3'
  rw [e3'', Option.bind_some, tr, Option.bind_some]
  rfl
theorem law_t2 (q0 : Val) : ∃ (K' : List TKey) (q : Pt), K'.length ≤ K.length + 3 ∧ ∀ kn kr : _, blK (β := Val × List MO) (Cn (n + 7)) glob 40 (fnI (.fn "law")).sc 35 ((sB (sAt 4 (fnI (.fn "law")).body))) [("turn", .d u), ("numbers", q0), ("points", .d (ptsD ps)), ("x", .d k), ("gatherer", .p 2), ("rows", v), ("feed", .p 0), ("script", s)] kn kr (S x K)
    = kn [("numbers", .d (nsD q)), ("turn", .d u), ("points", .d (ptsD ps)), ("x", .d k), ("gatherer", .p 2), ("rows", v), ("feed", .p 0), ("script", s)] (S (x.at (x.sp + 5)) K') := by
  obtain ⟨K', q, h, e⟩ := law_t1 n hx F hs K hK ps hp hl G u k v s
  refine ⟨K', q, h, fun kn kr => ?_⟩
  have := e kn kr
  rw [s_law_t1] at this
  rw [s_law_t2, show g_law_t2_0 = g_law_t1_0 from rfl]
  exact this
end
end Mine.Q
end
section
open PySem PySem.W PyProof.Rows
set_option Elab.async false
set_option maxRecDepth 100000
set_option linter.unusedSimpArgs false
namespace Mine.Q
/-- the plain law: all that is asked of a sum over three rows -/
noncomputable def Plain : Prop := ∀ (x : Cx), x.Ok → ∀ (q : Pt) (c m : Int) (kd : Kd), (q.1.natAbs ≤ 6 ∧ q.2.1.natAbs ≤ 6 ∧ q.2.2.natAbs ≤ 6) → c.natAbs ≤ 5 → 2 ≤ m ∧ m ≤ 4 → Good x (pts x.r0 x.r1 x.r2) q c m kd
noncomputable def cellsOf (ns : List Int) : List Int := ((ns.take 40).map fun a => ((a.natAbs : Int)).fmod 1000003) ++ (if ns.length = 0 then [5] else [])
theorem cells_ne (ns : List Int) : cellsOf ns ≠ [] := by
  unfold cellsOf
  cases ns with
  | nil => simp
  | cons a ns => simp
theorem cells_len (ns : List Int) : (cellsOf ns).length ≤ 100 := by
  unfold cellsOf
  have : (ns.take 40).length ≤ 40 := List.length_take_le _ _
  rw [List.length_append, List.length_map]
  split <;> simp <;> (first | lia | omega)
theorem slice40 (σ : List MO) (ns : List Int) (h : ns.length ≤ 63) : sliceD σ (.d (.list (ns.map .int))) none (some 40) = some (.list ((ns.take 40).map .int)) := by
  show (if okLen (ns.map PyData.int).length then some (PyData.list (cutD (ns.map .int) none (some 40))) else none) = _
  rw [okLen_of (by rw [List.length_map]; (first | lia | omega)), if_pos rfl]
  unfold cutD
  show some (PyData.list (((ns.map PyData.int).drop 0).take (clipAt (ns.map PyData.int).length 40 - 0))) = _
  rw [List.drop_zero, Nat.sub_zero, List.length_map]
  have e : (ns.map PyData.int).take (clipAt ns.length 40) = (ns.take 40).map .int := by
    rw [← List.map_take]
    congr 1
    unfold clipAt
    rw [if_neg (by (first | lia | omega))]
    by_cases h4 : ns.length ≤ 40
    · rw [List.take_of_length_le (by (first | lia | omega) : ns.length ≤ 40), List.take_of_length_le (by (first | lia | omega))]
    · congr 1; (first | lia | omega)
  rw [e]
theorem g_law0 (C : Calls) (ns : List Int) (h : ns.length ≤ 63) (σ : List MO) : g_law_0 C (.fix ((ns.take 40).map .int)) [] σ = some (((ns.take 40).map fun a => ((a.natAbs : Int)).fmod 1000003).map .int, σ) := by
  unfold g_law_0
  have : (ns.take 40).length ≤ 40 := List.length_take_le _ _
  rw [gen_map (fun a : Int => [PyData.int (((a.natAbs : Int)).fmod 1000003)]) (by kernel_rfl) (by (first | lia | omega)) fun a _ => by
    rw [t_law_0, b_abs, Option.bind_some, bin_mod σ _ (by (first | lia | omega)), Option.bind_some]]
  rw [flat_one, List.map_map]; rfl
theorem five (σ : List MO) (b : Bool) : (builtinD σ "int" [.d (.bool b)]).bind (fun y => binD .Mult σ (.d (.list [.int 5])) (.d y)) = some (.list ((if b then [5] else [] : List Int).map .int)) := by cases b <;> kernel_rfl
theorem five1 (σ : List MO) (b : Bool) : builtinD σ "int" [.d (.bool b)] = some (.int (if b then 1 else 0)) := by kernel_rfl
theorem five2 (σ : List MO) (b : Bool) : binD .Mult σ (.d (.list [.int 5])) (.d (.int (if b then 1 else 0))) = some (.list ((if b then [5] else [] : List Int).map .int)) := by cases b <;> kernel_rfl
theorem add_l (σ : List MO) (a b : List Int) (ha : a.length ≤ 100) (hb : b.length ≤ 100) : binD .Add σ (.d (.list (a.map .int))) (.d (.list (b.map .int))) = some (.list ((a ++ b).map .int)) := by
  have e : ∀ xs ys, binD .Add σ (.d (.list xs)) (.d (.list ys)) = if okLen xs.length && okLen ys.length then some (.list (xs ++ ys)) else none := fun _ _ => by kernel_rfl
  rw [e, okLen_of (by rw [List.length_map]; (first | lia | omega)), okLen_of (by rw [List.length_map]; (first | lia | omega)), List.map_append]; rfl
theorem bdt1 (k x : PyData) (p r s : Val) : bindD (fnI (.fn "law")).sc (sTg (sAt 4 (fnI (.fn "law")).body)) k ([("points", p), ("x", .d x), ("gatherer", .p 2), ("rows", r), ("feed", .p 0), ("script", s)] : Rho) = some ([("turn", .d k), ("points", p), ("x", .d x), ("gatherer", .p 2), ("rows", r), ("feed", .p 0), ("script", s)] : Rho) := by kernel_rfl
theorem bdt2 (k u x : PyData) (q p r s : Val) : bindD (fnI (.fn "law")).sc (sTg (sAt 4 (fnI (.fn "law")).body)) k ([("numbers", q), ("turn", .d u), ("points", p), ("x", .d x), ("gatherer", .p 2), ("rows", r), ("feed", .p 0), ("script", s)] : Rho) = some ([("turn", .d k), ("numbers", q), ("points", p), ("x", .d x), ("gatherer", .p 2), ("rows", r), ("feed", .p 0), ("script", s)] : Rho) := by kernel_rfl
theorem law_true (P : Plain) : LawTrue := by
  intro ns hn
  have hcl := cells_len ns
  obtain ⟨r0, r1, r2, v, w, h0, h1, h2, hv, eR⟩ := c_rows 9 (cellsOf ns) (cells_ne ns) (by (first | lia | omega))
  have eG := c_gath 8 ((cellsOf ns).map .int) 13 w
  let x : Cx := ⟨(cellsOf ns).map .int, 13, w, domL r0, domL r1, domL r2, r0, r1, r2⟩
  have hx : x.Ok := ⟨h0, h1, h2⟩
  have F : Feed x (cellsOf ns) := ⟨rfl, cells_ne ns, by (first | lia | omega)⟩
  have hp := pts_sm h0 h1 h2
  have hl := pts_small h0 h1 h2
  have G : ∀ (sp : Int) (q : Pt) (c m : Int) (kd : Kd), (q.1.natAbs ≤ 6 ∧ q.2.1.natAbs ≤ 6 ∧ q.2.2.natAbs ≤ 6) → c.natAbs ≤ 5 → 2 ≤ m ∧ m ≤ 4 → Good (x.at sp) (pts r0 r1 r2) q c m kd := fun sp q c m kd a b d => P (x.at sp) (at_ok hx sp) q c m kd a b d
  obtain ⟨K1, q1, k1, e1⟩ := law_t1 4 hx F (by show (0 : Int) ≤ 13 ∧ (13 : Int) ≤ 800; decide) [] (by decide) (pts r0 r1 r2) hp hl G (.int 0) (.int 2) v (.d (.list (ns.map .int)))
  obtain ⟨K2, q2, k2, e2⟩ := law_t2 4 (x := x.at (x.sp + 5)) (at_ok hx _) (feed_at F _) (by show (0 : Int) ≤ 13 + 5 ∧ (13 + 5 : Int) ≤ 800; decide) K1 (by simp at k1; (first | lia | omega)) (pts r0 r1 r2) hp hl (fun sp => G sp) (.int 1) (.int 2) v (.d (.list (ns.map .int))) (.d (nsD q1))
  refine ⟨fnI (.fn "law"), S (x.at (x.sp + 5 + 5)) K2, by kernel_rfl, ?_⟩
  rw [runK_eq]
  show runK (Cn 11) glob (fnI (.fn "law")) [.d (.list (ns.map .int))] [] = _
  have tl : (ns.take 40).length ≤ 40 := List.length_take_le _ _
  have l1 : ((ns.take 40).map PyData.int).length ≤ 4096 := by rw [List.length_map]; (first | lia | omega)
  have l2 : (((ns.take 40).map fun a => ((a.natAbs : Int)).fmod 1000003).map PyData.int).length ≤ 4096 := by rw [List.length_map, List.length_map]; (first | lia | omega)
  have l3 : (ns.map PyData.int).length ≤ 4096 := by rw [List.length_map]; (first | lia | omega)
  have ce : cmpD .Eq [] (.d (.int ((ns.map PyData.int).length : Int))) (.d (.int 0)) = some (decide (ns.length = 0)) := by
    rw [cmp_eq_int, List.length_map]
    by_cases h : ns.length = 0
    · rw [decide_eq_true h, h]; rfl
    · rw [decide_eq_false h, beq_eq_false_iff_ne.mpr (by (first | lia | omega))]
  have hcells : ((ns.take 40).map fun a => ((a.natAbs : Int)).fmod 1000003) ++ (if decide (ns.length = 0) then [5] else []) = cellsOf ns := by
    unfold cellsOf
    by_cases h : ns.length = 0
    · rw [if_pos h, if_pos (decide_eq_true h)]
    · rw [if_neg h, if_neg (by simpa using h)]
  have ad := add_l [] ((ns.take 40).map fun a => ((a.natAbs : Int)).fmod 1000003) (if decide (ns.length = 0) then [5] else []) (by rw [List.length_map]; (first | lia | omega)) (by split <;> simp)
  rw [hcells] at ad
  have rg : ∀ σ, rangeD [.d (.int 3)] σ = some (.fix [.int 0, .int 1, .int 2], σ) := fun σ => by kernel_rfl
  have rg2 : ∀ σ, rangeD [.d (.int 2)] σ = some (.fix [.int 0, .int 1], σ) := fun σ => by kernel_rfl
  have eR' : Cn 11 (.fn "_law_rows") [.p ([] : List MO).length] ([] ++ [.rcd [("cells", .list ((cellsOf ns).map .int)), ("spot", .int 0)]]) = some (v, [Fd ((cellsOf ns).map .int) 13, w]) := eR
  have eG' : Cn 11 (.fn "Gatherer") [] [Fd ((cellsOf ns).map .int) 13, w] = some (.p 2, [Fd ((cellsOf ns).map .int) 13, w, gathO, flatO, .list [], .list [], .made []]) := eG
  have rr := hv (Fd ((cellsOf ns).map .int) 13) (S x []).tail.tail
  have rr0 : itemD (S x []) v (.d (.int 0)) = some (.list (r0.map .int)) := rr.1
  have ip0 : iterOf (S x []) (.d (.list (r0.map .int))) = some (.fix (r0.map .int)) := io_l _ (by have := rows_len r0 h0; rw [List.length_map]; (first | lia | omega))
  have gp := g_pts (Cn 11) v r0 r1 r2 h0 h1 h2 (S x []) rr.2.1 rr.2.2
  have lp : okLen ((pts r0 r1 r2).map ptV).length = true := okLen_of (by rw [List.length_map]; (first | lia | omega))
  have B0 := fun kn kr => law_b0 10 r0 r1 r2 h0 v w hv (Fd ((cellsOf ns).map .int) 13) (.d (.list (ns.map .int))) kn kr
  have B1 := fun kn kr => law_b1 10 r0 r1 r2 h1 v w hv (Fd ((cellsOf ns).map .int) 13) (.d (.list (ns.map .int))) kn kr (v0 r0) (domL r0)
  have B2 := fun kn kr => law_b2 10 r0 r1 r2 h2 v w hv (Fd ((cellsOf ns).map .int) 13) (.d (.list (ns.map .int))) kn kr (v0 r0) (v1 r1) (domL r0) (domL r1)
  rw [s_law, slice40 _ ns hn, Option.bind_some, io_l _ l1, Option.bind_some, g_law0 _ ns hn, Option.bind_some, okLen_of l2, if_pos rfl, b_lenl _ l3, Option.bind_some, ce, Option.bind_some, five1, Option.bind_some, five2, Option.bind_some, ad, Option.bind_some, eR', Option.bind_some, eG', Option.bind_some, rg, Option.bind_some]
  show toK2 (forG _ _ (.fix [.int 0, .int 1, .int 2]) _ _ _ [("gatherer", .p 2), ("rows", v), ("feed", .p 0), ("script", .d (.list (ns.map .int)))]) _ _ [Fd ((cellsOf ns).map .int) 13, w, gathO, flatO, .list [], .list [], .made []] = _
  rw [forG_fix _ _ _ _ _ _ _ _ _ _ (by decide), forL_cons, bdl, Option.bind_some, B0, forL_cons, bdl2, Option.bind_some, B1, forL_cons, bdl2, Option.bind_some, B2, forL_nil]
  show blK (Cn 11) glob 40 (fnI (.fn "law")).sc 37 ((fnI (.fn "law")).body.drop 3) [("x", .d (.int 2)), ("gatherer", .p 2), ("rows", v), ("feed", .p 0), ("script", .d (.list (ns.map .int)))] _ _ (S x []) = _
  rw [s_law_r, rr0, Option.bind_some, ip0, Option.bind_some, gp, Option.bind_some, lp, if_pos rfl, rg2, Option.bind_some]
  show toK2 (forG _ _ (.fix [.int 0, .int 1]) _ _ _ [("points", .d (ptsD (pts r0 r1 r2))), ("x", .d (.int 2)), ("gatherer", .p 2), ("rows", v), ("feed", .p 0), ("script", .d (.list (ns.map .int)))]) _ _ (S x []) = _
  rw [forG_fix _ _ _ _ _ _ _ _ _ _ (by decide), forL_cons, bdt1, Option.bind_some]
  have e1' := e1
  rw [e1, forL_cons, bdt2, Option.bind_some]
  have e2' : ∀ kn kr : _, blK (β := Val × List MO) (Cn 11) glob 40 (fnI (.fn "law")).sc 35 ((sB (sAt 4 (fnI (.fn "law")).body))) [("turn", .d (.int 1)), ("numbers", .d (nsD q1)), ("points", .d (ptsD (pts r0 r1 r2))), ("x", .d (.int 2)), ("gatherer", .p 2), ("rows", v), ("feed", .p 0), ("script", .d (.list (ns.map .int)))] kn kr (S (x.at (x.sp + 5)) K1) = kn [("numbers", .d (nsD q2)), ("turn", .d (.int 1)), ("points", .d (ptsD (pts r0 r1 r2))), ("x", .d (.int 2)), ("gatherer", .p 2), ("rows", v), ("feed", .p 0), ("script", .d (.list (ns.map .int)))] (S (x.at (x.sp + 5 + 5)) K2) := e2
  rw [e2', forL_nil, s_law_e]
end Mine.Q
end
section
open PySem PySem.W PyProof.Rows
set_option Elab.async false
set_option maxRecDepth 100000
set_option linter.unusedSimpArgs false
namespace Mine.Q
noncomputable def sumT (tm : Tm) (p : Pt) : Int := (tm.map fun t => t.2 * p.at t.1).sum
theorem sumT_cons (t : Nat × Int) (tm : Tm) (p : Pt) : sumT (t :: tm) p = t.2 * p.at t.1 + sumT tm p := by unfold sumT; rw [List.map, List.sum_cons]
theorem sumT_filter (p : Pt) : ∀ tm : Tm, sumT (tm.filter fun t => t.2 != 0) p = sumT tm p
  | [] => rfl
  | t :: tm => by
    rw [List.filter_cons, sumT_cons]
    by_cases h : t.2 = 0
    · rw [if_neg (by simp [h]), sumT_filter p tm, h]; (first | lia | omega)
    · rw [if_pos (by simpa using h), sumT_cons, sumT_filter p tm]
theorem reach_eq (q : Pt) (c : Int) (p : Pt) : reach q c p = c + sumT (tmN q) p := by
  unfold tmN
  rw [sumT_filter]
  unfold reach allT sumT
  show _ = c + ([q.1 * p.1, q.2.1 * p.2.1, q.2.2 * p.2.2] : List Int).sum
  (first | lia | omega)
theorem fold_sum (f : Nat × Int → Int) : ∀ (tm : Tm) (c : Int), tm.foldl (fun l p => l + f p) c = c + (tm.map f).sum
  | [], c => by simp
  | t :: tm, c => by rw [List.foldl, fold_sum f tm, List.map, List.sum_cons]; (first | lia | omega)
theorem lowS_eq (x : Cx) (c : Int) (tm : Tm) : lowS x c tm = c + (tm.map (bl x)).sum := fold_sum _ tm c
theorem highS_eq (x : Cx) (c : Int) (tm : Tm) : highS x c tm = c + (tm.map (bh x)).sum := fold_sum _ tm c
theorem sum_le {f g : Nat × Int → Int} : ∀ {tm : Tm}, (∀ t ∈ tm, f t ≤ g t) → (tm.map f).sum ≤ (tm.map g).sum
  | [], _ => by simp
  | t :: tm, h => by
    have h1 := h t (.head _)
    have h2 := sum_le (tm := tm) fun u hu => h u (.tail _ hu)
    rw [List.map, List.map, List.sum_cons, List.sum_cons]; (first | lia | omega)
theorem sum_eq {f g : Nat × Int → Int} : ∀ {tm : Tm}, (∀ t ∈ tm, f t = g t) → (tm.map f).sum = (tm.map g).sum
  | [], _ => rfl
  | t :: tm, h => by
    have h1 := h t (.head _)
    have h2 := sum_eq (tm := tm) fun u hu => h u (.tail _ hu)
    rw [List.map, List.map, List.sum_cons, List.sum_cons]; (first | lia | omega)
theorem mul_mono {a l h : Int} (ha : 0 ≤ a) (k : l ≤ h) : a * l ≤ a * h := Int.mul_le_mul_of_nonneg_left k ha
theorem mul_anti {a l h : Int} (ha : a ≤ 0) (k : l ≤ h) : a * h ≤ a * l := Int.mul_le_mul_of_nonpos_left ha k
theorem bl_le (x : Cx) (t : Nat × Int) (y : Int) (h : lo (x.row t.1) ≤ y ∧ y ≤ hi (x.row t.1)) : bl x t ≤ t.2 * y ∧ t.2 * y ≤ bh x t := by
  unfold bl bh
  by_cases ha : 0 ≤ t.2
  · have h1 := mul_mono ha h.1
    have h2 := mul_mono ha h.2
    constructor <;> split <;> omega
  · have h1 := mul_anti (by omega : t.2 ≤ 0) h.1
    have h2 := mul_anti (by omega : t.2 ≤ 0) h.2
    constructor <;> split <;> omega
theorem rows_box : ∀ r ∈ allRows, ∀ a ∈ r, lo r ≤ a ∧ a ≤ hi r := by decide
theorem rows_lo : ∀ r ∈ allRows, lo r ∈ r ∧ hi r ∈ r ∧ lo r ≤ hi r := by decide
noncomputable abbrev Cx.pts (x : Cx) : List Pt := Mine.Q.pts x.r0 x.r1 x.r2
theorem box {x : Cx} (hx : x.Ok) {p : Pt} (hp : p ∈ x.pts) : ∀ v, v < 3 → p.at v ∈ x.row v := by
  obtain ⟨a, b, c⟩ := pts_mem.mp hp
  intro v hv
  match v, hv with
  | 0, _ => exact a
  | 1, _ => exact b
  | 2, _ => exact c
theorem in_bounds {x : Cx} (hx : x.Ok) {tm : Tm} (ht : TOk tm) (c : Int) {p : Pt} (hp : p ∈ x.pts) : lowS x c tm ≤ c + sumT tm p ∧ c + sumT tm p ≤ highS x c tm := by
  rw [lowS_eq, highS_eq]
  have hb := fun t (h : t ∈ tm) => bl_le x t (p.at t.1) (rows_box _ (hx.row t.1) _ (box hx hp t.1 (ht.vs t h)))
  have h1 := sum_le (f := bl x) (g := fun t => t.2 * p.at t.1) fun t h => (hb t h).1
  have h2 := sum_le (f := fun t => t.2 * p.at t.1) (g := bh x) fun t h => (hb t h).2
  unfold sumT
  (first | lia | omega)
noncomputable def pkL (a : Int) (r : List Int) : Int := if 0 ≤ a then lo r else hi r
noncomputable def pkH (a : Int) (r : List Int) : Int := if 0 ≤ a then hi r else lo r
noncomputable def pL (x : Cx) (q : Pt) : Pt := (pkL q.1 x.r0, pkL q.2.1 x.r1, pkL q.2.2 x.r2)
noncomputable def pH (x : Cx) (q : Pt) : Pt := (pkH q.1 x.r0, pkH q.2.1 x.r1, pkH q.2.2 x.r2)
theorem pk_bl (x : Cx) (v : Nat) (a : Int) (h : lo (x.row v) ≤ hi (x.row v)) : a * pkL a (x.row v) = bl x (v, a) ∧ a * pkH a (x.row v) = bh x (v, a) := by
  unfold pkL pkH bl bh
  dsimp only
  by_cases ha : 0 ≤ a
  · have h1 := mul_mono ha h
    rw [if_pos ha, if_pos ha]
    constructor <;> split <;> (first | lia | omega)
  · have h1 := mul_anti (by (first | lia | omega) : a ≤ 0) h
    rw [if_neg ha, if_neg ha]
    constructor <;> split <;> (first | lia | omega)
theorem tmN_sub (q : Pt) : ∀ t ∈ tmN q, t ∈ allT q ∧ t.2 ≠ 0 := fun t ht => by
  unfold tmN at ht
  have := List.mem_filter.mp ht
  exact ⟨this.1, by simpa using this.2⟩
theorem low_at {x : Cx} (hx : x.Ok) (q : Pt) (c : Int) : ∃ p ∈ x.pts, c + sumT (tmN q) p = lowS x c (tmN q) := by
  refine ⟨pL x q, ?_, ?_⟩
  · have a := rows_lo _ hx.h0
    have b := rows_lo _ hx.h1
    have d := rows_lo _ hx.h2
    refine pts_mem.mpr ⟨?_, ?_, ?_⟩
    · show pkL q.1 x.r0 ∈ x.r0; unfold pkL; split <;> first | exact a.1 | exact a.2.1
    · show pkL q.2.1 x.r1 ∈ x.r1; unfold pkL; split <;> first | exact b.1 | exact b.2.1
    · show pkL q.2.2 x.r2 ∈ x.r2; unfold pkL; split <;> first | exact d.1 | exact d.2.1
  · rw [lowS_eq]
    have : sumT (tmN q) (pL x q) = ((tmN q).map (bl x)).sum := sum_eq fun t ht => by
      have := (tmN_sub q t ht).1
      unfold allT at this
      simp only [List.mem_cons, List.not_mem_nil, or_false] at this
      rcases this with rfl | rfl | rfl
      · exact (pk_bl x 0 q.1 (rows_lo _ (hx.row 0)).2.2).1
      · exact (pk_bl x 1 q.2.1 (rows_lo _ (hx.row 1)).2.2).1
      · exact (pk_bl x 2 q.2.2 (rows_lo _ (hx.row 2)).2.2).1
    rw [this]
theorem high_at {x : Cx} (hx : x.Ok) (q : Pt) (c : Int) : ∃ p ∈ x.pts, c + sumT (tmN q) p = highS x c (tmN q) := by
  refine ⟨pH x q, ?_, ?_⟩
  · have a := rows_lo _ hx.h0
    have b := rows_lo _ hx.h1
    have d := rows_lo _ hx.h2
    refine pts_mem.mpr ⟨?_, ?_, ?_⟩
    · show pkH q.1 x.r0 ∈ x.r0; unfold pkH; split <;> first | exact a.2.1 | exact a.1
    · show pkH q.2.1 x.r1 ∈ x.r1; unfold pkH; split <;> first | exact b.2.1 | exact b.1
    · show pkH q.2.2 x.r2 ∈ x.r2; unfold pkH; split <;> first | exact d.2.1 | exact d.1
  · rw [highS_eq]
    have : sumT (tmN q) (pH x q) = ((tmN q).map (bh x)).sum := sum_eq fun t ht => by
      have := (tmN_sub q t ht).1
      unfold allT at this
      simp only [List.mem_cons, List.not_mem_nil, or_false] at this
      rcases this with rfl | rfl | rfl
      · exact (pk_bl x 0 q.1 (rows_lo _ (hx.row 0)).2.2).2
      · exact (pk_bl x 1 q.2.1 (rows_lo _ (hx.row 1)).2.2).2
      · exact (pk_bl x 2 q.2.2 (rows_lo _ (hx.row 2)).2.2).2
    rw [this]
theorem low_high {x : Cx} (hx : x.Ok) {tm : Tm} (c : Int) : lowS x c tm ≤ highS x c tm := by
  rw [lowS_eq, highS_eq]
  have := sum_le (f := bl x) (g := bh x) (tm := tm) fun t _ => by
    have := bl_le x t (lo (x.row t.1)) ⟨Int.le_refl _, (rows_lo _ (hx.row t.1)).2.2⟩
    (first | lia | omega)
  (first | lia | omega)
theorem tmN_incs (q : Pt) (h : tmN q ≠ []) : (tmN q).map (·.1) ∈ incs := by
  unfold tmN allT at h ⊢
  rw [List.filter_cons, List.filter_cons, List.filter_cons, List.filter_nil] at h ⊢
  dsimp only at h ⊢
  generalize (q.1 != 0) = b1 at h ⊢
  generalize (q.2.1 != 0) = b2 at h ⊢
  generalize (q.2.2 != 0) = b3 at h ⊢
  cases b1 <;> cases b2 <;> cases b3 <;> first | exact absurd rfl h | (unfold incs; simp)
/-- the greatest common part -/
theorem gcdA_dvd : ∀ (as : List Int) (f : Nat), gcdA f as ∣ f ∧ ∀ a ∈ as, gcdA f as ∣ a.natAbs
  | [], _ => ⟨Nat.dvd_refl _, fun _ h => nomatch h⟩
  | a :: as, f => by
    have ⟨h1, h2⟩ := gcdA_dvd as (Nat.gcd f a.natAbs)
    refine ⟨Nat.dvd_trans h1 (Nat.gcd_dvd_left _ _), fun b hb => ?_⟩
    cases hb with
    | head => exact Nat.dvd_trans h1 (Nat.gcd_dvd_right _ _)
    | tail _ hb => exact h2 b hb
theorem dvd_gcdA {d : Nat} : ∀ (as : List Int) (f : Nat), d ∣ f → (∀ a ∈ as, d ∣ a.natAbs) → d ∣ gcdA f as
  | [], _, h, _ => h
  | a :: as, f, h, hs => dvd_gcdA as _ (Nat.dvd_gcd h (hs a (.head _))) fun b hb => hs b (.tail _ hb)
theorem gcdA_mul (m : Int) : ∀ (as : List Int) (f : Nat), gcdA (m.natAbs * f) (as.map fun a => m * a) = m.natAbs * gcdA f as
  | [], _ => rfl
  | a :: as, f => by
    rw [List.map, gcdA_c, gcdA_c, Int.natAbs_mul, Nat.gcd_mul_left, gcdA_mul m as]
theorem gcdA_neg : ∀ (as : List Int) (f : Nat), gcdA f (as.map fun a => -a) = gcdA f as
  | [], _ => rfl
  | a :: as, f => by rw [List.map, gcdA_c, gcdA_c, Int.natAbs_neg, gcdA_neg as]
theorem g_dvd {tm : Tm} : ∀ t ∈ tm, (gG tm : Int) ∣ t.2 := fun t ht => by
  have := (gcdA_dvd (tm.map (·.2)) 0).2 t.2 (List.mem_map.mpr ⟨t, ht, rfl⟩)
  exact Int.ofNat_dvd_left.mpr this
theorem fd (a : Int) {g : Int} (h : 0 < g) : a.fdiv g = a / g := Int.fdiv_eq_ediv_of_nonneg _ (by (first | lia | omega))
theorem fm (a : Int) {g : Int} (h : 0 < g) : a.fmod g = a % g := Int.fmod_eq_emod_of_nonneg _ (by omega)
noncomputable def csT (tm : Tm) : List Int := tm.map fun p => p.2.fdiv (gG tm : Int)
noncomputable def xsT (tm : Tm) : List Nat := tm.map (·.1)
theorem zip_T (f : Nat × Int → Int) (p : Pt) : ∀ tm : Tm, (((tm.map f).zip (tm.map (·.1))).map fun q => q.1 * p.at q.2) = tm.map fun t => f t * p.at t.1
  | [] => rfl
  | t :: tm => by
    rw [List.map, List.map, List.zip_cons_cons, List.map, zip_T f p tm, List.map]
theorem g_dot {tm : Tm} (ht : TOk tm) (h0 : tm ≠ []) (p : Pt) : (gG tm : Int) * dot (csT tm) (xsT tm) p = sumT tm p := by
  have hg := gG_pos ht h0
  unfold dot csT xsT sumT
  rw [zip_T]
  have key : ∀ t ∈ tm, (gG tm : Int) * (t.2.fdiv (gG tm : Int) * p.at t.1) = t.2 * p.at t.1 := fun t h => by
    rw [← Int.mul_assoc, fd _ (by (first | lia | omega)), Int.mul_ediv_cancel' (g_dvd t h)]
  have : ∀ us : Tm, (∀ t ∈ us, t ∈ tm) → (gG tm : Int) * (us.map fun t => t.2.fdiv (gG tm : Int) * p.at t.1).sum = (us.map fun t => t.2 * p.at t.1).sum := by
    intro us
    induction us with
    | nil => intro _; simp
    | cons t us ih =>
      intro h
      rw [List.map, List.map, List.sum_cons, List.sum_cons, Int.mul_add, key t (h t (.head _)), ih fun u hu => h u (.tail _ hu)]
  exact this tm fun _ h => h
end Mine.Q
end
section
open PySem PySem.W PyProof.Rows
set_option Elab.async false
set_option maxRecDepth 100000
set_option linter.unusedSimpArgs false
namespace Mine.Q
theorem le_told (c D g : Int) (hg : 0 < g) : D ≤ -c / g ↔ c + g * D ≤ 0 := by
  rw [Int.le_ediv_iff_mul_le hg, Int.mul_comm D g]; (first | lia | omega)
theorem eq_told (c D g : Int) (hg : 0 < g) (h : -c % g = 0) : (D - -c / g = 0) ↔ c + g * D = 0 := by
  have e : g * (-c / g) = -c := Int.mul_ediv_cancel' (Int.dvd_of_emod_eq_zero h)
  have e2 : g * (D - -c / g) = c + g * D := by rw [Int.mul_sub, e]; (first | lia | omega)
  rw [← e2, Int.mul_eq_zero]
  constructor
  · exact fun h => .inr h
  · rintro (h | h)
    · (first | lia | omega)
    · exact h
theorem stands_told (kd : Kd) {tm : Tm} (ht : TOk tm) (h0 : tm ≠ []) (c : Int) (h : kd ≠ .le → (-c).fmod (gG tm : Int) = 0) (p : Pt) : stands kd (dot (csT tm) (xsT tm) p - (-c).fdiv (gG tm : Int)) = stands kd (c + sumT tm p) := by
  have hg := gG_pos ht h0
  have e := g_dot ht h0 p
  have hg' : 0 < (gG tm : Int) := by (first | lia | omega)
  rw [fd _ hg'] 
  rw [fm _ hg'] at h
  rw [← e]
  generalize dot (csT tm) (xsT tm) p = D at e ⊢
  have k1 := le_told c D _ hg'
  cases kd with
  | le =>
    show decide (_ ≤ 0) = decide (_ ≤ 0)
    exact decide_eq_decide.mpr ⟨fun h => k1.mp (by (first | lia | omega)), fun h => by have := k1.mpr h; (first | lia | omega)⟩
  | eq =>
    have k2 := eq_told c D _ hg' (h (by decide))
    show (_ == (0 : Int)) = (_ == (0 : Int))
    exact Bool.eq_iff_iff.mpr (by rw [beq_iff_eq, beq_iff_eq]; exact k2)
  | ne =>
    have k2 := eq_told c D _ hg' (h (by decide))
    show (!(_ == (0 : Int))) = (!(_ == (0 : Int)))
    exact congrArg (! ·) (Bool.eq_iff_iff.mpr (by rw [beq_iff_eq, beq_iff_eq]; exact k2))
theorem cst_some {kd : Kd} {l h : Int} {b : Bool} (e : cst kd l h = some b) {v : Int} (h1 : l ≤ v) (h2 : v ≤ h) : stands kd v = b := by
  unfold cst at e
  cases kd with
  | le =>
    rw [if_pos rfl] at e
    by_cases h3 : h ≤ 0
    · rw [if_pos h3] at e; cases e
      exact decide_eq_true (by (first | lia | omega))
    · rw [if_neg h3] at e
      by_cases h4 : 0 < l
      · rw [if_pos h4] at e; cases e
        exact decide_eq_false (by (first | lia | omega))
      · rw [if_neg h4] at e; cases e
  | eq =>
    rw [if_neg (by decide)] at e
    by_cases h3 : 0 < l ∨ h < 0
    · rw [if_pos h3] at e; cases e
      exact beq_eq_false_iff_ne.mpr (by (first | lia | omega))
    · rw [if_neg h3] at e
      by_cases h4 : l = h
      · rw [if_pos h4] at e; cases e
        exact beq_iff_eq.mpr (by (first | lia | omega))
      · rw [if_neg h4] at e; cases e
  | ne =>
    rw [if_neg (by decide)] at e
    by_cases h3 : 0 < l ∨ h < 0
    · rw [if_pos h3] at e; cases e
      show (!(v == 0)) = true
      rw [beq_eq_false_iff_ne.mpr (by (first | lia | omega))]; rfl
    · rw [if_neg h3] at e
      by_cases h4 : l = h
      · rw [if_pos h4] at e; cases e
        show (!(v == 0)) = false
        rw [beq_iff_eq.mpr (by (first | lia | omega))]; rfl
      · rw [if_neg h4] at e; cases e
theorem cst_none {kd : Kd} {l h : Int} (e : cst kd l h = none) : l ≤ 0 ∧ 0 ≤ h ∧ (kd = .le → 0 < h) := by
  unfold cst at e
  by_cases hk : kd = .le
  · rw [if_pos hk] at e
    by_cases h3 : h ≤ 0
    · rw [if_pos h3] at e; cases e
    · rw [if_neg h3] at e
      by_cases h4 : 0 < l
      · rw [if_pos h4] at e; cases e
      · (first | lia | omega)
  · rw [if_neg hk] at e
    by_cases h3 : 0 < l ∨ h < 0
    · rw [if_pos h3] at e; cases e
    · exact ⟨by (first | lia | omega), by (first | lia | omega), fun h => absurd h hk⟩
/-- a row that is a mere truth is that truth everywhere -/
theorem row_const {x : Cx} (hx : x.Ok) {q : Pt} (ht : TOk (tmN q)) {c : Int} {kd : Kd} {b : Bool} (h : rowP x kd (tmN q) c = .const b) : ∀ p ∈ x.pts, stands kd (c + sumT (tmN q) p) = b := by
  intro p hp
  have hb := in_bounds hx ht c hp
  unfold rowP at h
  cases e : cst kd (lowS x c (tmN q)) (highS x c (tmN q)) with
  | some b' =>
    rw [e] at h; cases h
    exact cst_some e hb.1 hb.2
  | none =>
    rw [e] at h
    have h0 := cst_nil e
    have hg := gG_pos ht h0
    have hg' : 0 < (gG (tmN q) : Int) := by (first | lia | omega)
    dsimp only at h
    by_cases h2 : kd ≠ .le ∧ (-c).fmod (gG (tmN q) : Int) ≠ 0
    · rw [if_pos h2] at h; cases h
      have ne : c + sumT (tmN q) p ≠ 0 := by
        intro h3
        rw [← g_dot ht h0 p] at h3
        refine h2.2 ?_
        rw [fm _ hg']
        exact Int.emod_eq_zero_of_dvd ⟨dot (csT (tmN q)) (xsT (tmN q)) p, by (first | lia | omega)⟩
      cases kd with
      | le => exact absurd rfl h2.1
      | eq => exact beq_eq_false_iff_ne.mpr ne
      | ne =>
        show (!(_ == (0 : Int))) = true
        rw [beq_eq_false_iff_ne.mpr ne]; rfl
    · rw [if_neg h2] at h; cases h
theorem cs_facts {tm : Tm} (ht : TOk tm) (h0 : tm ≠ []) : (∀ a ∈ csT tm, a.natAbs ≤ 1000 ∧ a ≠ 0) ∧ ∀ d : Int, 2 ≤ d → ∃ a ∈ csT tm, a.fmod d ≠ 0 := by
  have hg := gG_pos ht h0
  have hg' : 0 < (gG tm : Int) := by (first | lia | omega)
  have key : ∀ t ∈ tm, (gG tm : Int) * t.2.fdiv (gG tm : Int) = t.2 := fun t h => by rw [fd _ hg', Int.mul_ediv_cancel' (g_dvd t h)]
  constructor
  · intro a ha
    obtain ⟨t, h, rfl⟩ := List.mem_map.mp ha
    have k := key t h
    have hc := ht.cf t h
    generalize t.2.fdiv (gG tm : Int) = a at k
    constructor
    · have : t.2.natAbs = gG tm * a.natAbs := by rw [← k, Int.natAbs_mul]; rfl
      have h2 := Nat.le_mul_of_pos_left a.natAbs hg.1
      (first | lia | omega)
    · rintro rfl
      rw [Int.mul_zero] at k
      exact hc.1 k.symm
  · intro d hd
    refine Classical.byContradiction fun hn => ?_
    have all : ∀ t ∈ tm, gG tm * d.toNat ∣ t.2.natAbs := fun t h => by
      have h1 : (t.2.fdiv (gG tm : Int)).fmod d = 0 := Classical.byContradiction fun h2 => hn ⟨_, List.mem_map.mpr ⟨t, h, rfl⟩, h2⟩
      rw [fm _ (by (first | lia | omega))] at h1
      obtain ⟨k, hk⟩ := Int.dvd_of_emod_eq_zero h1
      have e := key t h
      rw [hk, ← Int.mul_assoc] at e
      refine ⟨k.natAbs, ?_⟩
      rw [← e, Int.natAbs_mul, Int.natAbs_mul]
      have : d.natAbs = d.toNat := by (first | lia | omega)
      rw [this]; rfl
    have dv : gG tm * d.toNat ∣ gG tm := dvd_gcdA (tm.map (·.2)) 0 (Nat.dvd_zero _) fun a ha => by
      obtain ⟨t, h, rfl⟩ := List.mem_map.mp ha
      exact all t h
    have h1 := Nat.le_of_dvd hg.1 dv
    have h2 : gG tm * 2 ≤ gG tm * d.toNat := Nat.mul_le_mul_left _ (by (first | lia | omega))
    (first | lia | omega)
theorem both {x : Cx} (hx : x.Ok) {q : Pt} (ht : TOk (tmN q)) {c : Int} {kd : Kd} (e : cst kd (lowS x c (tmN q)) (highS x c (tmN q)) = none) : ∃ p1 ∈ x.pts, ∃ p2 ∈ x.pts, c + sumT (tmN q) p1 ≤ 0 ∧ 0 ≤ c + sumT (tmN q) p2 ∧ (kd = .le → 0 < c + sumT (tmN q) p2) := by
  obtain ⟨h1, h2, h3⟩ := cst_none e
  obtain ⟨p1, m1, e1⟩ := low_at hx q c
  obtain ⟨p2, m2, e2⟩ := high_at hx q c
  exact ⟨p1, m1, p2, m2, by omega, by omega, fun hk => by have := h3 hk; omega⟩
theorem dues_eq (ps : List Pt) (q : Pt) (c : Int) (kd : Kd) : (ps.map fun p => stands kd (reach q c p)) = ps.map fun p => stands kd (c + sumT (tmN q) p) := List.map_congr_left fun p _ => by rw [reach_eq]
theorem good_rr {x : Cx} (hx : x.Ok) {q : Pt} (ht : TOk (tmN q)) (c : Int) (kd : Kd) (n : Nat) (σ : List MO) : Cn (n + 2) (.fn "_law_is_row_right") [.d (rwD kd (rowP x kd (tmN q) c)), .d (.str kd.s), .d (ptsD x.pts), .d (duesD (x.pts.map fun p => stands kd (reach q c p)))] σ = some (.d (.bool true), σ) := by
  have hl := pts_small hx.h0 hx.h1 hx.h2
  rw [dues_eq]
  cases e : rowP x kd (tmN q) c with
  | const b =>
    refine c_rr_const (n + 1) b kd _ _ (by rw [List.length_map]; exact Nat.le_trans hl (by (first | lia | omega))) (fun d hd => ?_) σ
    obtain ⟨p, hp, rfl⟩ := List.mem_map.mp hd
    exact row_const hx ht e p hp
  | told cs xs c' =>
    obtain ⟨h0, hn, rfl, rfl, rfl, hm, h1, h2, h3, h4⟩ := rowP_told ht e
    have cf := cs_facts ht h0
    have due : (x.pts.map fun p => stands kd (c + sumT (tmN q) p)) = x.pts.map fun p => stands kd (dot (csT (tmN q)) (xsT (tmN q)) p - (-c).fdiv (gG (tmN q) : Int)) := List.map_congr_left fun p _ => (stands_told kd ht h0 c hm p).symm
    obtain ⟨p1, m1, p2, m2, b1, b2, b3⟩ := both hx ht hn
    refine c_rr_told n kd (csT (tmN q)) (xsT (tmN q)) _ _ _ due (fun hk => ?_) (pts_sm hx.h0 hx.h1 hx.h2) hl cf.1 (tmN_incs q h0) (by unfold csT xsT; rw [List.length_map, List.length_map]) cf.2 σ
    have b4 := b3 hk
    subst hk
    exact ⟨List.mem_map.mpr ⟨p1, m1, decide_eq_true b1⟩, List.mem_map.mpr ⟨p2, m2, decide_eq_false (by (first | lia | omega))⟩⟩
end Mine.Q
end
section
open PySem PySem.W PyProof.Rows
set_option Elab.async false
set_option maxRecDepth 100000
set_option linter.unusedSimpArgs false
namespace Mine.Q
noncomputable def Ta (x : Cx) (p : Pt) (L : Lt) : Prop := ∀ (n : Nat) (K : List TKey), K.length ≤ 400 → Cn (n + 2) (.fn "_law_truth_at") [.p 2, .d (trD (ltT x K L)), .d (ptV p)] (S x (ltK x K L)) = some (.d (.bool (ltV p L)), S x (ltK x K L))
theorem ta_const (x : Cx) (p : Pt) (b : Bool) : Ta x p (.const b) := fun n K _ => c_ta_const (n + 1) b _ _
noncomputable def Wit (x : Cx) (kd : Kd) (cs : List Int) (xs : List Nat) (c : Int) : Prop := ∃ p1 ∈ x.pts, ∃ p2 ∈ x.pts, dot cs xs p1 ≤ c ∧ c ≤ dot cs xs p2 ∧ (kd = .le → c < dot cs xs p2)
theorem dot_one (v : Nat) (p : Pt) : dot [1] [v] p = p.at v := by
  unfold dot
  show ([1 * p.at v] : List Int).sum = _
  simp
theorem ta_lit {x : Cx} (hx : x.Ok) {kd : Kd} {cs : List Int} {xs : List Nat} {c : Int} (fl : Bool) (ok : LOk kd cs xs) (len : cs.length = xs.length) (wit : Wit x kd cs xs c) {p : Pt} (hp : p ∈ x.pts) : Ta x p (.lit kd cs xs c fl) := by
  intro n K hK
  refine c_ta_lit n x K kd cs xs c fl ok (Nat.le_trans (ltK_len x K (.lit kd cs xs c fl)) (by (first | lia | omega))) p (pts_sm hx.h0 hx.h1 hx.h2 p hp) fun hd => ?_
  obtain ⟨rfl, hr⟩ := hd
  obtain ⟨v, rfl⟩ : ∃ v, xs = [v] := List.length_eq_one_iff.mp len.symm
  have hv : v < 3 := ok.vs v (.head _)
  have hr' : x.row v = [0, 1] := hr
  have b01 : ∀ p ∈ x.pts, p.at v = 0 ∨ p.at v = 1 := fun p hp => by
    have := box hx hp v hv
    rw [hr'] at this
    simpa using this
  obtain ⟨p1, m1, p2, m2, w1, w2, w3⟩ := wit
  rw [dot_one] at w1 w2 w3 ⊢
  have k1 := b01 p1 m1
  have k2 := b01 p2 m2
  have k := b01 p hp
  show ((p.at v == 1) == (decide (kd = .eq) && c == 1)) = stands kd (p.at v - c)
  cases kd with
  | le =>
    have w4 := w3 rfl
    have c0 : c = 0 := by (first | lia | omega)
    rcases k with e | e <;> (rw [e, c0]; rfl)
  | eq =>
    have c0 : c = 0 ∨ c = 1 := by (first | lia | omega)
    rcases k with e | e <;> rcases c0 with c0 | c0 <;> (rw [e, c0]; rfl)
  | ne => exact absurd rfl ok.kn
theorem dot_neg (p : Pt) : ∀ (cs : List Int) (xs : List Nat), dot (ngs cs) xs p = -dot cs xs p
  | [], _ => rfl
  | _ :: _, [] => rfl
  | a :: cs, v :: xs => by
    have := dot_neg p cs xs
    unfold dot ngs at this ⊢
    rw [List.map, List.zip_cons_cons, List.zip_cons_cons, List.map, List.map, List.sum_cons, List.sum_cons, this]
    dsimp only
    rw [Int.neg_mul]
    (first | lia | omega)
theorem told_wit {x : Cx} (hx : x.Ok) {q : Pt} (ht : TOk (tmN q)) {c : Int} {kd : Kd} (e : cst kd (lowS x c (tmN q)) (highS x c (tmN q)) = none) (hm : kd ≠ .le → (-c).fmod (gG (tmN q) : Int) = 0) : Wit x kd (csT (tmN q)) (xsT (tmN q)) ((-c).fdiv (gG (tmN q) : Int)) := by
  have h0 := cst_nil e
  have hg := gG_pos ht h0
  have hg' : 0 < (gG (tmN q) : Int) := by omega
  obtain ⟨p1, m1, p2, m2, b1, b2, b3⟩ := both hx ht e
  rw [← g_dot ht h0 p1] at b1
  rw [← g_dot ht h0 p2] at b2 b3
  rw [fm _ hg'] at hm
  refine ⟨p1, m1, p2, m2, ?_, ?_, ?_⟩
  · rw [fd _ hg']; exact (le_told c _ _ hg').mpr b1
  · rw [fd _ hg']
    by_cases hk : kd = .le
    · have b4 := b3 hk
      have := mt (le_told c (dot (csT (tmN q)) (xsT (tmN q)) p2) _ hg').mp (by omega)
      omega
    · by_cases hz : c + (gG (tmN q) : Int) * dot (csT (tmN q)) (xsT (tmN q)) p2 = 0
      · have := (eq_told c _ _ hg' (hm hk)).mpr hz
        omega
      · have := mt (le_told c (dot (csT (tmN q)) (xsT (tmN q)) p2) _ hg').mp (by omega)
        omega
  · intro hk
    have b4 := b3 hk
    rw [fd _ hg']
    have := mt (le_told c (dot (csT (tmN q)) (xsT (tmN q)) p2) _ hg').mp (by omega)
    omega
theorem norm_is (kd : Kd) (cs : List Int) (xs : List Nat) (c : Int) (h : cs.headD 0 ≠ 0) : (cs.headD 0 < 0 ∧ kd = .le ∧ norm kd cs xs c = .lit kd (ngs cs) xs (-c - 1) true) ∨ (0 < cs.headD 0 ∧ norm kd cs xs c = .lit kd cs xs c false) ∨ (cs.headD 0 < 0 ∧ kd ≠ .le ∧ norm kd cs xs c = .lit kd (ngs cs) xs (-c) false) := by
  unfold norm
  by_cases h1 : cs.headD 0 < 0
  · by_cases h2 : kd = .le
    · exact .inl ⟨h1, h2, by rw [if_pos ⟨h1, h2⟩]⟩
    · exact .inr (.inr ⟨h1, h2, by rw [if_neg fun h => h2 h.2, if_neg (by (first | lia | omega))]⟩)
  · exact .inr (.inl ⟨by (first | lia | omega), by rw [if_neg fun h => h1 h.1, if_pos (by (first | lia | omega))]⟩)
theorem neg_ok {kd : Kd} {cs : List Int} {xs : List Nat} (h : LOk kd cs xs) : LOk kd (ngs cs) xs := ⟨h.kn, by unfold ngs; rw [List.length_map]; exact h.lc, fun a ha => by
  obtain ⟨b, hb, rfl⟩ := List.mem_map.mp ha
  have := h.sm b hb
  exact ⟨by have := this.2; (first | lia | omega), by have := this.1; (first | lia | omega)⟩, h.lx, h.vs, h.ne⟩
theorem norm_ta {x : Cx} (hx : x.Ok) {kd : Kd} {cs : List Int} {xs : List Nat} {c : Int} (ok : LOk kd cs xs) (len : cs.length = xs.length) (h0 : cs.headD 0 ≠ 0) (wit : Wit x kd cs xs c) {p : Pt} (hp : p ∈ x.pts) : ltV p (norm kd cs xs c) = stands kd (dot cs xs p - c) ∧ Ta x p (norm kd cs xs c) ∧ Ta x p (norm kd cs xs c).neg := by
  have len' : (ngs cs).length = xs.length := by unfold ngs; rw [List.length_map]; exact len
  obtain ⟨p1, m1, p2, m2, w1, w2, w3⟩ := wit
  rcases norm_is kd cs xs c h0 with ⟨-, rfl, e⟩ | ⟨-, e⟩ | ⟨-, hk, e⟩
  · have w : Wit x .le (ngs cs) xs (-c - 1) := by
      have w4 := w3 rfl
      refine ⟨p2, m2, p1, m1, ?_, ?_, fun _ => ?_⟩ <;> rw [dot_neg] <;> (first | lia | omega)
    rw [e]
    refine ⟨?_, ta_lit hx true (neg_ok ok) len' w hp, ta_lit hx false (neg_ok ok) len' w hp⟩
    rw [ltV_lit, dot_neg]
    show (decide (-dot cs xs p - (-c - 1) ≤ 0) != true) = decide (dot cs xs p - c ≤ 0)
    by_cases h : dot cs xs p - c ≤ 0
    · rw [decide_eq_true h, decide_eq_false (by (first | lia | omega))]; rfl
    · rw [decide_eq_false h, decide_eq_true (by (first | lia | omega))]; rfl
  · rw [e]
    have w : Wit x kd cs xs c := ⟨p1, m1, p2, m2, w1, w2, w3⟩
    refine ⟨?_, ta_lit hx false ok len w hp, ta_lit hx true ok len w hp⟩
    rw [ltV_lit]
    cases stands kd (dot cs xs p - c) <;> rfl
  · have w : Wit x kd (ngs cs) xs (-c) := by
      refine ⟨p2, m2, p1, m1, ?_, ?_, fun h => absurd h hk⟩ <;> rw [dot_neg] <;> (first | lia | omega)
    rw [e]
    refine ⟨?_, ta_lit hx false (neg_ok ok) len' w hp, ta_lit hx true (neg_ok ok) len' w hp⟩
    rw [ltV_lit, dot_neg]
    have : ∀ a b : Int, (a == 0) = (b == 0) ↔ (a = 0 ↔ b = 0) := fun a b => by
      rw [Bool.eq_iff_iff, beq_iff_eq, beq_iff_eq]
    have e2 : (-dot cs xs p - -c == 0) = (dot cs xs p - c == 0) := (this _ _).mpr (by (first | lia | omega))
    cases kd with
    | le => exact absurd rfl hk
    | eq =>
      show ((-dot cs xs p - -c == 0) != false) = (dot cs xs p - c == 0)
      rw [e2]; cases (dot cs xs p - c == 0) <;> rfl
    | ne => exact absurd rfl ok.kn
theorem head_ne {cs : List Int} (h0 : cs ≠ []) (h : ∀ a ∈ cs, a.natAbs ≤ 1000 ∧ a ≠ 0) : cs.headD 0 ≠ 0 := by
  cases cs with
  | nil => exact absurd rfl h0
  | cons a cs => exact (h a (.head _)).2
theorem litE_ta {x : Cx} (hx : x.Ok) {q : Pt} (ht : TOk (tmN q)) (c : Int) {kd : Kd} (hk : kd ≠ .ne) {p : Pt} (hp : p ∈ x.pts) : ltV p (litE x kd (tmN q) c) = stands kd (c + sumT (tmN q) p) ∧ Ta x p (litE x kd (tmN q) c) ∧ Ta x p (litE x kd (tmN q) c).neg := by
  unfold litE
  cases e : rowP x kd (tmN q) c with
  | const b =>
    exact ⟨(row_const hx ht e p hp).symm, ta_const x p b, ta_const x p !b⟩
  | told cs xs c' =>
    obtain ⟨h0, hn, rfl, rfl, rfl, hm, h1, h2, h3, h4⟩ := rowP_told ht e
    have cf := cs_facts ht h0
    have w := told_wit hx ht hn hm
    have ok : LOk kd (csT (tmN q)) (xsT (tmN q)) := ⟨hk, h1, fun a ha => by have := (cf.1 a ha).1; exact ⟨by omega, by omega⟩, h2, h4, h3⟩
    have hh : (csT (tmN q)).headD 0 ≠ 0 := head_ne (by unfold csT; simpa using h0) cf.1
    have := norm_ta hx ok (by unfold csT xsT; rw [List.length_map, List.length_map]) hh w hp
    rw [stands_told kd ht h0 c hm] at this
    exact this
theorem ne_eq_const {x : Cx} {tm : Tm} {c : Int} {b : Bool} (h : rowP x .ne tm c = .const b) : rowP x .eq tm c = .const !b := by
  unfold rowP at h ⊢
  unfold cst at h ⊢
  rw [if_neg (by decide)] at h ⊢
  by_cases h3 : 0 < lowS x c tm ∨ highS x c tm < 0
  · rw [if_pos h3] at h ⊢; cases h; rfl
  · rw [if_neg h3] at h ⊢
    by_cases h4 : lowS x c tm = highS x c tm
    · rw [if_pos h4] at h ⊢; cases h; rfl
    · rw [if_neg h4] at h ⊢
      dsimp only at h ⊢
      by_cases h5 : (-c).fmod (gG tm : Int) ≠ 0
      · rw [if_pos ⟨by decide, h5⟩] at h ⊢; cases h; rfl
      · rw [if_neg fun h => h5 h.2] at h; cases h
theorem good_ta {x : Cx} (hx : x.Ok) {q : Pt} (ht : TOk (tmN q)) (c : Int) (kd : Kd) {p : Pt} (hp : p ∈ x.pts) : ltV p (litP x kd (tmN q) c) = stands kd (reach q c p) ∧ Ta x p (litP x kd (tmN q) c) := by
  rw [reach_eq]
  cases kd with
  | le => have := litE_ta hx ht c (kd := .le) (by decide) hp; exact ⟨this.1, this.2.1⟩
  | eq => have := litE_ta hx ht c (kd := .eq) (by decide) hp; exact ⟨this.1, this.2.1⟩
  | ne =>
    unfold litP
    dsimp only
    cases e : rowP x .ne (tmN q) c with
    | const b => exact ⟨(row_const hx ht e p hp).symm, ta_const x p b⟩
    | told cs xs c' =>
      have := litE_ta hx ht c (kd := .eq) (by decide) hp
      refine ⟨?_, this.2.2⟩
      have e2 : ∀ L : Lt, ltV p L.neg = !ltV p L := fun L => by
        cases L with
        | const b => rfl
        | lit kd cs xs c fl =>
          show (_ != !fl) = !(_ != fl)
          cases fl <;> cases stands kd (dot cs xs p - c) <;> rfl
      show ltV p (litE x .eq (tmN q) c).neg = _
      rw [e2, this.1]
      rfl
end Mine.Q
end
section
open PySem PySem.W PyProof.Rows
set_option Elab.async false
set_option maxRecDepth 100000
set_option linter.unusedSimpArgs false
namespace Mine.Q
noncomputable def tmS (s : Int) (tm : Tm) : Tm := tm.map fun t => (t.1, s * t.2)
theorem tmS_N (s : Int) (hs : s ≠ 0) (q : Pt) : tmN (scl s q) = tmS s (tmN q) := by
  unfold tmN
  have e : allT (scl s q) = tmS s (allT q) := rfl
  rw [e]
  unfold tmS
  rw [List.filter_map]
  congr 1
  refine List.filter_congr fun t _ => ?_
  show (s * t.2 != 0) = (t.2 != 0)
  by_cases h : t.2 = 0
  · rw [h, Int.mul_zero]
  · have h1 : s * t.2 ≠ 0 := fun h2 => (Int.mul_eq_zero.mp h2).elim hs h
    rw [bne_iff_ne.mpr h, bne_iff_ne.mpr h1]
theorem ngt_scl (q : Pt) : ngt q = scl (-1) q := by
  unfold ngt scl
  refine Prod.ext ?_ (Prod.ext ?_ ?_) <;> (dsimp only; (first | lia | omega))
theorem gG_S (s : Int) (tm : Tm) : gG (tmS s tm) = s.natAbs * gG tm := by
  unfold gG tmS
  rw [List.map_map]
  have e : (tm.map ((fun t : Nat × Int => t.2) ∘ fun t => (t.1, s * t.2))) = (tm.map (·.2)).map fun a => s * a := by rw [List.map_map]; rfl
  rw [e]
  have := gcdA_mul s (tm.map (·.2)) 0
  rw [Nat.mul_zero] at this
  exact this
theorem sum_mul (s : Int) (f : Nat × Int → Int) : ∀ tm : Tm, (tm.map fun t => s * f t).sum = s * (tm.map f).sum
  | [] => by simp
  | t :: tm => by rw [List.map, List.map, List.sum_cons, List.sum_cons, sum_mul s f tm, Int.mul_add]
theorem bl_pos (x : Cx) (s : Int) (hs : 0 < s) (v : Nat) (a : Int) : bl x (v, s * a) = s * bl x (v, a) ∧ bh x (v, s * a) = s * bh x (v, a) := by
  unfold bl bh
  dsimp only
  rw [Int.mul_assoc, Int.mul_assoc]
  have k : ∀ A B : Int, s * A < s * B ↔ A < B := fun A B => Int.mul_lt_mul_left hs
  constructor
  · by_cases h : a * hi (x.row v) < a * lo (x.row v)
    · rw [if_pos h, if_pos ((k _ _).mpr h)]
    · rw [if_neg h, if_neg fun h2 => h ((k _ _).mp h2)]
  · by_cases h : a * lo (x.row v) < a * hi (x.row v)
    · rw [if_pos h, if_pos ((k _ _).mpr h)]
    · rw [if_neg h, if_neg fun h2 => h ((k _ _).mp h2)]
theorem bl_neg (x : Cx) (v : Nat) (a : Int) : bl x (v, -1 * a) = -1 * bh x (v, a) ∧ bh x (v, -1 * a) = -1 * bl x (v, a) := by
  unfold bl bh
  dsimp only
  rw [Int.mul_assoc, Int.mul_assoc]
  constructor <;> split <;> split <;> omega
theorem low_pos (x : Cx) (s : Int) (hs : 0 < s) (c : Int) (tm : Tm) : lowS x (s * c) (tmS s tm) = s * lowS x c tm ∧ highS x (s * c) (tmS s tm) = s * highS x c tm := by
  rw [lowS_eq, lowS_eq, highS_eq, highS_eq, Int.mul_add, Int.mul_add, ← sum_mul, ← sum_mul]
  unfold tmS
  rw [List.map_map, List.map_map]
  refine ⟨?_, ?_⟩
  · congr 2
    exact List.map_congr_left fun t _ => (bl_pos x s hs t.1 t.2).1
  · congr 2
    exact List.map_congr_left fun t _ => (bl_pos x s hs t.1 t.2).2
theorem low_neg (x : Cx) (d : Int) (tm : Tm) : lowS x d (tmS (-1) tm) = d - (tm.map (bh x)).sum ∧ highS x d (tmS (-1) tm) = d - (tm.map (bl x)).sum := by
  rw [lowS_eq, highS_eq]
  unfold tmS
  rw [List.map_map, List.map_map]
  have e1 : (tm.map (bl x ∘ fun t => (t.1, -1 * t.2))).sum = -1 * (tm.map (bh x)).sum := by
    rw [← sum_mul]
    congr 2
    funext t
    exact (bl_neg x t.1 t.2).1
  have e2 : (tm.map (bh x ∘ fun t => (t.1, -1 * t.2))).sum = -1 * (tm.map (bl x)).sum := by
    rw [← sum_mul]
    congr 2
    funext t
    exact (bl_neg x t.1 t.2).2
  rw [e1, e2]
  (first | lia | omega)
theorem cst_pos (kd : Kd) (s : Int) (hs : 0 < s) (l h : Int) : cst kd (s * l) (s * h) = cst kd l h := by
  have k : ∀ A B : Int, s * A < s * B ↔ A < B := fun A B => Int.mul_lt_mul_left hs
  have k1 : 0 < s * l ↔ 0 < l := by have := k 0 l; rwa [Int.mul_zero] at this
  have k2 : s * h < 0 ↔ h < 0 := by have := k h 0; rwa [Int.mul_zero] at this
  have k3 : 0 < s * h ↔ 0 < h := by have := k 0 h; rwa [Int.mul_zero] at this
  have k4 : s * l = s * h ↔ l = h := ⟨fun e => Int.eq_of_mul_eq_mul_left (by (first | lia | omega)) e, fun e => by rw [e]⟩
  unfold cst
  refine ite_congr rfl (fun _ => ?_) fun _ => ?_
  · refine ite_congr (propext ?_) (fun _ => rfl) fun _ => ite_congr (propext k1) (fun _ => rfl) fun _ => rfl
    constructor <;> intro h <;> (first | lia | omega)
  · refine ite_congr (propext ?_) (fun _ => rfl) fun _ => ite_congr (propext k4) (fun _ => rfl) fun _ => rfl
    rw [k1, k2]
theorem rowP_pos (x : Cx) (kd : Kd) (s : Int) (hs : 0 < s) {tm : Tm} (ht : TOk tm) (c : Int) : rowP x kd (tmS s tm) (s * c) = rowP x kd tm c := by
  unfold rowP
  rw [(low_pos x s hs c tm).1, (low_pos x s hs c tm).2, cst_pos kd s hs]
  cases e : cst kd (lowS x c tm) (highS x c tm) with
  | some b => rfl
  | none =>
    have h0 := cst_nil e
    have hg := gG_pos ht h0
    have hg' : 0 < (gG tm : Int) := by (first | lia | omega)
    have gs : (gG (tmS s tm) : Int) = s * (gG tm : Int) := by
      rw [gG_S, Int.natCast_mul]
      congr 1; (first | lia | omega)
    have hg2 : 0 < s * (gG tm : Int) := Int.mul_pos hs hg'
    have nc : -(s * c) = s * -c := by rw [Int.mul_neg]
    dsimp only
    rw [gs, nc, fm _ hg2, fm _ hg', fd _ hg2, fd _ hg', Int.mul_emod_mul_of_pos _ _ hs, Int.mul_ediv_mul_of_pos _ _ hs]
    have m0 : s * (-c % (gG tm : Int)) ≠ 0 ↔ -c % (gG tm : Int) ≠ 0 := by
      constructor
      · intro h h2; rw [h2, Int.mul_zero] at h; exact h rfl
      · intro h h2; exact (Int.mul_eq_zero.mp h2).elim (by (first | lia | omega)) h
    refine ite_congr (propext ⟨fun h => ⟨h.1, m0.mp h.2⟩, fun h => ⟨h.1, m0.mpr h.2⟩⟩) (fun _ => rfl) fun _ => ?_
    unfold tmS
    rw [List.map_map, List.map_map]
    congr 1
    refine List.map_congr_left fun t _ => ?_
    show (s * t.2).fdiv (s * (gG tm : Int)) = t.2.fdiv (gG tm : Int)
    rw [fd _ hg2, fd _ hg', Int.mul_ediv_mul_of_pos _ _ hs]
theorem good_sc {x : Cx} {q : Pt} (ht : TOk (tmN q)) (c m : Int) (hm : 2 ≤ m ∧ m ≤ 4) (kd : Kd) : litP x kd (tmN (scl m q)) (m * c) = litP x kd (tmN q) c := by
  rw [tmS_N m (by omega)]
  have h := fun kd => rowP_pos x kd m (by omega) ht c
  have hE : ∀ kd, litE x kd (tmS m (tmN q)) (m * c) = litE x kd (tmN q) c := fun kd => by unfold litE; rw [h]
  cases kd with
  | le => exact hE .le
  | eq => exact hE .eq
  | ne => unfold litP; dsimp only; rw [h, hE]
noncomputable def Rw.ng : Rw → Rw
  | .const b => .const b
  | .told cs xs c => .told (ngs cs) xs (-c)
noncomputable def Rw.nl : Rw → Rw
  | .const b => .const !b
  | .told cs xs c => .told (ngs cs) xs (-c - 1)
theorem cs_neg {tm : Tm} (ht : TOk tm) (h0 : tm ≠ []) : ((tmS (-1) tm).map fun p => p.2.fdiv (gG (tmS (-1) tm) : Int)) = ngs (csT tm) := by
  have hg := gG_pos ht h0
  have hg' : 0 < (gG tm : Int) := by (first | lia | omega)
  have gs : gG (tmS (-1) tm) = gG tm := by rw [gG_S]; exact Nat.one_mul _
  rw [gs]
  unfold tmS csT ngs
  rw [List.map_map, List.map_map]
  refine List.map_congr_left fun t h => ?_
  show (-1 * t.2).fdiv (gG tm : Int) = -(t.2.fdiv (gG tm : Int))
  rw [fd _ hg', fd _ hg', Int.neg_mul, Int.one_mul, Int.neg_ediv_of_dvd (g_dvd t h)]
theorem xs_neg (tm : Tm) : (tmS (-1) tm).map (·.1) = xsT tm := by
  unfold tmS xsT
  rw [List.map_map]; rfl
theorem rowP_ng (x : Cx) {kd : Kd} (hk : kd ≠ .le) {tm : Tm} (ht : TOk tm) (c : Int) : rowP x kd (tmS (-1) tm) (0 - c) = (rowP x kd tm c).ng := by
  unfold rowP
  have hl := low_neg x (0 - c) tm
  have e1 := lowS_eq x c tm
  have e2 := highS_eq x c tm
  have L : lowS x (0 - c) (tmS (-1) tm) = -highS x c tm := by omega
  have H : highS x (0 - c) (tmS (-1) tm) = -lowS x c tm := by omega
  have ec : cst kd (-highS x c tm) (-lowS x c tm) = cst kd (lowS x c tm) (highS x c tm) := by
    unfold cst
    rw [if_neg hk, if_neg hk]
    refine ite_congr (propext (by omega)) (fun _ => rfl) fun _ => ite_congr (propext (by omega)) (fun _ => rfl) fun _ => rfl
  rw [L, H, ec]
  cases e : cst kd (lowS x c tm) (highS x c tm) with
  | some b => rfl
  | none =>
    have h0 := cst_nil e
    have hg := gG_pos ht h0
    have hg' : 0 < (gG tm : Int) := by omega
    have gs : gG (tmS (-1) tm) = gG tm := by rw [gG_S]; exact Nat.one_mul _
    have cc : -(0 - c) = c := by omega
    dsimp only
    rw [cs_neg ht h0, xs_neg, gs, cc, fm _ hg', fm _ hg', fd _ hg', fd _ hg']
    by_cases h : -c % (gG tm : Int) = 0
    · have dv : (gG tm : Int) ∣ c := Int.dvd_neg.mp (Int.dvd_of_emod_eq_zero h)
      rw [if_neg fun k => k.2 (Int.emod_eq_zero_of_dvd dv), if_neg fun k => k.2 h]
      show Rw.told _ _ _ = Rw.told _ _ _
      rw [Int.neg_ediv_of_dvd dv, Int.neg_neg]; rfl
    · have h2 : c % (gG tm : Int) ≠ 0 := fun k => h (Int.emod_eq_zero_of_dvd (Int.dvd_neg.mpr (Int.dvd_of_emod_eq_zero k)))
      rw [if_pos ⟨hk, h2⟩, if_pos ⟨hk, h⟩]; rfl
theorem div_less (c g : Int) (hg : 0 < g) : (c - 1) / g = -(-c / g) - 1 := by
  have h1 := Int.ediv_mul_le (-c) (by (first | lia | omega) : g ≠ 0)
  have h2 := Int.lt_ediv_add_one_mul_self (-c) hg
  generalize -c / g = k at h1 h2 ⊢
  rw [Int.add_mul, Int.one_mul] at h2
  have a1 : -k - 1 ≤ (c - 1) / g := (Int.le_ediv_iff_mul_le hg).mpr (by rw [Int.sub_mul, Int.neg_mul, Int.one_mul]; (first | lia | omega))
  have a2 : (c - 1) / g < -k := (Int.ediv_lt_iff_lt_mul hg).mpr (by rw [Int.neg_mul]; (first | lia | omega))
  (first | lia | omega)
theorem rowP_nl {x : Cx} (hx : x.Ok) {tm : Tm} (ht : TOk tm) (c : Int) : rowP x .le (tmS (-1) tm) (1 - c) = (rowP x .le tm c).nl := by
  unfold rowP
  have hl := low_neg x (1 - c) tm
  have e1 := lowS_eq x c tm
  have e2 := highS_eq x c tm
  have lh := low_high hx (tm := tm) c
  have L : lowS x (1 - c) (tmS (-1) tm) = 1 - highS x c tm := by (first | lia | omega)
  have H : highS x (1 - c) (tmS (-1) tm) = 1 - lowS x c tm := by (first | lia | omega)
  rw [L, H]
  by_cases h1 : highS x c tm ≤ 0
  · have k1 : cst .le (lowS x c tm) (highS x c tm) = some true := by unfold cst; rw [if_pos rfl, if_pos h1]
    have k2 : cst .le (1 - highS x c tm) (1 - lowS x c tm) = some false := by unfold cst; rw [if_pos rfl, if_neg (by (first | lia | omega)), if_pos (by (first | lia | omega))]
    rw [k1, k2]; rfl
  · by_cases h2 : 0 < lowS x c tm
    · have k1 : cst .le (lowS x c tm) (highS x c tm) = some false := by unfold cst; rw [if_pos rfl, if_neg h1, if_pos h2]
      have k2 : cst .le (1 - highS x c tm) (1 - lowS x c tm) = some true := by unfold cst; rw [if_pos rfl, if_pos (by (first | lia | omega))]
      rw [k1, k2]; rfl
    · have k1 : cst .le (lowS x c tm) (highS x c tm) = none := by unfold cst; rw [if_pos rfl, if_neg h1, if_neg h2]
      have k2 : cst .le (1 - highS x c tm) (1 - lowS x c tm) = none := by unfold cst; rw [if_pos rfl, if_neg (by (first | lia | omega)), if_neg (by (first | lia | omega))]
      have h0 := cst_nil k1
      have hg := gG_pos ht h0
      have hg' : 0 < (gG tm : Int) := by (first | lia | omega)
      have gs : gG (tmS (-1) tm) = gG tm := by rw [gG_S]; exact Nat.one_mul _
      have cc : -(1 - c) = c - 1 := by (first | lia | omega)
      rw [k1, k2]
      dsimp only
      rw [cs_neg ht h0, xs_neg, gs, cc, if_neg (fun k => k.1 rfl), if_neg (fun k => k.1 rfl), fd _ hg', fd _ hg', div_less _ _ hg']
      rfl
theorem ngs_ngs (cs : List Int) : ngs (ngs cs) = cs := by
  unfold ngs
  rw [List.map_map]
  exact (List.map_congr_left fun a _ => Int.neg_neg a).trans (List.map_id _)
theorem ngs_head (cs : List Int) : (ngs cs).headD 0 = -cs.headD 0 := by cases cs <;> rfl
theorem norm_ng {kd : Kd} (hk : kd ≠ .le) {cs : List Int} (xs : List Nat) (c : Int) (h : cs.headD 0 ≠ 0) : norm kd (ngs cs) xs (-c) = norm kd cs xs c := by
  have hh := ngs_head cs
  rcases norm_is kd cs xs c h with ⟨-, k, -⟩ | ⟨k, e⟩ | ⟨k, -, e⟩
  · exact absurd k hk
  · rcases norm_is kd (ngs cs) xs (-c) (by omega) with ⟨-, k2, -⟩ | ⟨k2, -⟩ | ⟨-, -, e2⟩
    · exact absurd k2 hk
    · omega
    · rw [e, e2, ngs_ngs, Int.neg_neg]
  · rcases norm_is kd (ngs cs) xs (-c) (by omega) with ⟨-, k2, -⟩ | ⟨-, e2⟩ | ⟨k2, -, -⟩
    · exact absurd k2 hk
    · rw [e, e2]
    · omega
theorem norm_nl {cs : List Int} (xs : List Nat) (c : Int) (h : cs.headD 0 ≠ 0) : norm .le (ngs cs) xs (-c - 1) = (norm .le cs xs c).neg := by
  have hh := ngs_head cs
  have cc : -(-c - 1) - 1 = c := by (first | lia | omega)
  rcases norm_is .le cs xs c h with ⟨k, -, e⟩ | ⟨k, e⟩ | ⟨-, k, -⟩
  · rcases norm_is .le (ngs cs) xs (-c - 1) (by (first | lia | omega)) with ⟨k2, -, -⟩ | ⟨-, e2⟩ | ⟨-, k2, -⟩
    · (first | lia | omega)
    · rw [e, e2]; rfl
    · exact absurd rfl k2
  · rcases norm_is .le (ngs cs) xs (-c - 1) (by (first | lia | omega)) with ⟨-, -, e2⟩ | ⟨k2, -⟩ | ⟨-, k2, -⟩
    · rw [e, e2, ngs_ngs, cc]; rfl
    · (first | lia | omega)
    · exact absurd rfl k2
  · exact absurd rfl k
theorem told_head {x : Cx} {kd : Kd} {tm : Tm} {c c' : Int} {cs : List Int} {xs : List Nat} (ht : TOk tm) (h : rowP x kd tm c = .told cs xs c') : cs.headD 0 ≠ 0 := by
  obtain ⟨h0, -, rfl, -⟩ := rowP_told ht h
  exact head_ne (by simpa using h0) (cs_facts ht h0).1
theorem litE_ng (x : Cx) {kd : Kd} (hk : kd ≠ .le) {tm : Tm} (ht : TOk tm) (c : Int) : litE x kd (tmS (-1) tm) (0 - c) = litE x kd tm c := by
  unfold litE
  rw [rowP_ng x hk ht]
  cases e : rowP x kd tm c with
  | const b => rfl
  | told cs xs c' => exact norm_ng hk xs c' (told_head ht e)
theorem good_nl {x : Cx} (hx : x.Ok) {q : Pt} (ht : TOk (tmN q)) (c : Int) : litP x .le (tmN (ngt q)) (1 - c) = (litP x .le (tmN q) c).neg := by
  rw [ngt_scl, tmS_N (-1) (by omega)]
  show litE x .le (tmS (-1) (tmN q)) (1 - c) = (litE x .le (tmN q) c).neg
  unfold litE
  rw [rowP_nl hx ht]
  cases e : rowP x .le (tmN q) c with
  | const b => rfl
  | told cs xs c' => exact norm_nl xs c' (told_head ht e)
theorem good_ng (x : Cx) {q : Pt} (ht : TOk (tmN q)) (c : Int) {kd : Kd} (hk : kd ≠ .le) : litP x kd (tmN (ngt q)) (0 - c) = litP x kd (tmN q) c := by
  rw [ngt_scl, tmS_N (-1) (by omega)]
  cases kd with
  | le => exact absurd rfl hk
  | eq => exact litE_ng x hk ht c
  | ne =>
    unfold litP
    dsimp only
    rw [litE_ng x (by decide) ht c, rowP_ng x (by decide) ht]
    cases rowP x .ne (tmN q) c <;> rfl
theorem plain : Plain := fun x hx q c m kd hq hc hm => by
  have ht : TOk (tmN q) := tmN_ok q ⟨by (first | lia | omega), by (first | lia | omega), by (first | lia | omega)⟩
  exact ⟨fun n σ => good_rr hx ht c kd n σ, fun n K p hK hp => by
    have h := good_ta hx ht c kd hp
    have := h.2 n K hK
    rw [h.1] at this
    exact this, good_sc ht c m hm kd, fun hk => by subst hk; exact good_nl hx ht c, fun hk => good_ng x ht c hk⟩
theorem lawTrue : LawTrue := law_true plain
end Mine.Q
end
section
open PySem PySem.W PyProof.Rows PySem.Calls PyProof.V PySem.Spec
set_option Elab.async false
set_option maxRecDepth 100000
namespace Mine.S
theorem slot_set_iter : Slot "set" "__iter__" "set.__iter__" :=
  .of (owner := "set") (n := "__iter__") (by rw [typeLookup_type, builtinLookup_eq_fast]; kernel_rfl) (by decide +kernel) (by decide +kernel) (by decide +kernel)
    (by first | exact .inl (by decide +kernel) | exact .inr (by decide +kernel)) (by rw [isSubtype_type]; kernel_rfl)
theorem entry_set_iter : entryFor table "set.__iter__" = some Builtin.«frozenset.__iter__» :=
  entryFor_alias (id' := "frozenset.__iter__") (by kernel_rfl) rfl (by decide +kernel) (by kernel_rfl)
theorem slot_si_next : Slot "set_iterator" "__next__" "set_iterator.__next__" :=
  .of (owner := "set_iterator") (n := "__next__") (by rw [typeLookup_type, builtinLookup_eq_fast]; kernel_rfl) (by decide +kernel) (by decide +kernel) (by decide +kernel)
    (by first | exact .inl (by decide +kernel) | exact .inr (by decide +kernel)) (by rw [isSubtype_type]; kernel_rfl)
theorem entry_si_next : entryFor table "set_iterator.__next__" = some Builtin.«set_iterator.__next__» := entryFor_of_fast (by kernel_rfl)
theorem slot_set_len : Slot "set" "__len__" "set.__len__" :=
  .of (owner := "set") (n := "__len__") (by rw [typeLookup_type, builtinLookup_eq_fast]; kernel_rfl) (by decide +kernel) (by decide +kernel) (by decide +kernel)
    (by first | exact .inl (by decide +kernel) | exact .inr (by decide +kernel)) (by rw [isSubtype_type]; kernel_rfl)
theorem args_set_iter (a : Value) : argsOk "set.__iter__" ⟨[a], []⟩ := by unfold argsOk; kernel_rfl
theorem args_si_next (a : Value) : argsOk "set_iterator.__next__" ⟨[a], []⟩ := by unfold argsOk; kernel_rfl
theorem slot_si_iter : Slot "set_iterator" "__iter__" "set_iterator.__iter__" :=
  .of (owner := "set_iterator") (n := "__iter__") (by rw [typeLookup_type, builtinLookup_eq_fast]; kernel_rfl) (by decide +kernel) (by decide +kernel) (by decide +kernel)
    (by first | exact .inl (by decide +kernel) | exact .inr (by decide +kernel)) (by rw [isSubtype_type]; kernel_rfl)
theorem entry_si_iter : entryFor table "set_iterator.__iter__" = some Builtin.«dict_keyiterator.__iter__» := entryFor_alias (id' := "dict_keyiterator.__iter__") (by kernel_rfl) rfl (by decide +kernel) (by kernel_rfl)
theorem args_si_iter (a : Value) : argsOk "set_iterator.__iter__" ⟨[a], []⟩ := by unfold argsOk; kernel_rfl
section
variable {prog : Program} {w : World} {A : Around} {E : Value → Shared → Prop} {s : Shared} {r : Addr}
theorem hint_set {Q : Bool → Shared → Prop} (hT : s.TypeIs (.ref r) "set") (h : Q false s) : wpAny (model prog w) A (Builtin.List.listLengthHint (.ref r)) Q E s := by
  unfold Builtin.List.listLengthHint
  refine wpAny_bind (wpAny_specialOf hT slot_set_len.lookup ?_)
  generalize hid : ("set.__len__" : String) = id0
  wp_delta
  rw [show splitId id0 = some ("set", "__len__") from by subst hid; decide +kernel]
  subst hid
  refine wpAny_bind (wpAny_isInstance (T := "set") (b := true) hT (by rw [isSubtype_type]; kernel_rfl) ?_)
  refine wpAny_ite_split (fun hab => absurd hab (by decide)) (fun _ => ?_)
  refine wpAny_ite_split (fun _ => ?_) (fun hab => absurd (by decide +kernel) hab)
  refine wpAny_bind (wpAny_typeOf hT ?_)
  exact wpAny_pure h
/-- the order of sets by text -/
noncomputable def byT (w : World) : Bool := w.params.followText "set-order"
theorem wp_byText {Q : Bool → Shared → Prop} (h : Q (byT w) s) : wpAny (model prog w) A setsByText Q E s := by
  unfold setsByText
  exact wpAny_bind (wpAny_askSetting (wpAny_pure h))
noncomputable def slotAt (t : SetTable) : Nat → Nat
  | 0 => 0
  | i + 1 => (t.place.getD i 0) + 1
noncomputable def slotT (w : World) (t : SetTable) (i : Nat) : Nat := if byT w then 0 else slotAt t i
noncomputable def ordE (w : World) (a : Addr) (es : Array (Int × Value)) (ep : Nat) : Array (Int × Value) := if byT w then pickOrder (w.params.setOrder a ep) es else es
/-- a set whose order is known -/
structure Lain (w : World) (es : Array (Int × Value)) (t : SetTable) : Prop where
  fits : t.fits es.size = true
  plain : t.plain = true
  led : byT w = false → t.led = true
  below : ∀ i, i ≤ es.size → SetTable.below t.place (slotAt t i) = i
  size : ∀ a ep, (ordE w a es ep).size = es.size
noncomputable def SetAt (h : Heap) (a : Addr) (es : Array (Int × Value)) (ep : Nat) (t : SetTable) : Prop := ∃ o, h.get? a = some o ∧ o.cls = .type "set" ∧ o.data = .set es ep t
noncomputable def SetIt (h : Heap) (it a : Addr) (slot i n ep : Nat) : Prop := ∃ o, h.get? it = some o ∧ o.cls = .type "set_iterator" ∧ o.data = .fields #[rawInt slot, rawInt i, .ref a, rawInt n, rawInt ep]
theorem SetAt.typeIs {a : Addr} {es : Array (Int × Value)} {ep : Nat} {t : SetTable} (x : SetAt s.heap a es ep t) : s.TypeIs (.ref a) "set" := let ⟨o, ho, hc, _⟩ := x; ⟨o, ho, hc⟩
theorem SetIt.typeIs {it a : Addr} {slot i n ep : Nat} (x : SetIt s.heap it a slot i n ep) : s.TypeIs (.ref it) "set_iterator" := let ⟨o, ho, hc, _⟩ := x; ⟨o, ho, hc⟩
theorem SetAt.at {h h' : Heap} {a : Addr} {es : Array (Int × Value)} {ep : Nat} {t : SetTable} (x : SetAt h a es ep t) (e : ∀ o, h.get? a = some o → h'.get? a = some o) : SetAt h' a es ep t := let ⟨o, ho, r⟩ := x; ⟨o, e _ ho, r⟩
theorem SetIt.at {h h' : Heap} {it a : Addr} {slot i n ep : Nat} (x : SetIt h it a slot i n ep) (e : ∀ o, h.get? it = some o → h'.get? it = some o) : SetIt h' it a slot i n ep := let ⟨o, ho, r⟩ := x; ⟨o, e _ ho, r⟩
theorem drawn_no {w : World} {es : Array (Int × Value)} {t : SetTable} (L : Lain w es t) : (!t.plain && decide (es.size > 1)) = false := by rw [L.plain]; rfl
theorem wp_iter {a : Addr} {es : Array (Int × Value)} {ep : Nat} {t : SetTable} {Q : Value → Shared → Prop} (L : Lain w es t) (hS : SetAt s.heap a es ep t)
    (hQ : Q (.ref s.heap.objs.size) { s with heap := s.heap.push { cls := .type "set_iterator", data := .fields #[rawInt (0 : Nat), rawInt (0 : Nat), .ref a, rawInt es.size, rawInt ep] } }) :
    wpAny (model prog w) A (pyIter (.ref a)) Q E s := by
  obtain ⟨o, ho, hc, hd⟩ := id hS
  refine wpAny_pyIter_slot hS.typeIs slot_set_iter (wpAny_call_entry slot_set_iter hS.typeIs entry_set_iter ?_ (args_set_iter _))
  unfold Builtin.«frozenset.__iter__»
  refine wpAny_bind (m := Builtin.Frozenset.slot0 "__iter__" _) (wpAny_bind (wpAny_pure (wpAny_pure ?_)))
  refine wpAny_bind (m := Builtin.Frozenset.sizeOf _) (wpAny_bind (m := setEntries _) (wpAny_bind (wpAny_setState_of ho hd L.fits (wpAny_pure (wpAny_pure ?_)))))
  refine wpAny_bind (m := setDrawn _) ?_
  unfold setDrawn
  refine wpAny_bind (wpAny_setState_of ho hd L.fits ?_)
  refine wpAny_bind (wp_byText ?_)
  refine wpAny_pure ?_
  refine wpAny_ite_split (fun hab => ?_) (fun _ => ?_)
  · have h2 : (!byT w && (!t.plain && decide (es.size > 1))) = true := hab
    rw [drawn_no L, Bool.and_false] at h2
    cases h2
  · refine wpAny_bind (wpAny_pure ?_)
    refine wpAny_bind (wpAny_setEpoch_of ho hd L.fits ?_)
    refine wpAny_bind (m := newFields _ _) ?_
    unfold newFields
    refine wpAny_newObj_type ?_
    exact wpAny_pure ⟨_, rfl, "set_iterator", _, ⟨_, Heap.get?_push_size _ rfl, rfl⟩, slot_si_next.lookup, hQ⟩
theorem wp_setNext {a : Addr} {es : Array (Int × Value)} {ep : Nat} {t : SetTable} {i : Nat} {Q : Option (Value × Nat) → Shared → Prop} (L : Lain w es t) (hS : SetAt s.heap a es ep t) (hi : i ≤ es.size)
    (hQ : Q ((ordE w a es ep)[i]?.map fun e => (e.2, slotT w t (i + 1))) s) :
    wpAny (model prog w) A (setNext a (slotT w t i) i ep) Q E s := by
  obtain ⟨o, ho, hc, hd⟩ := id hS
  unfold setNext
  refine wpAny_bind (wpAny_setState_of ho hd L.fits ?_)
  dsimp only
  refine wpAny_bind (wp_byText ?_)
  refine wpAny_ite_split (fun hb => ?_) (fun hb => ?_)
  · have e1 : ordE w a es ep = pickOrder (w.params.setOrder a ep) es := if_pos hb
    have e2 : ∀ i, slotT w t i = 0 := fun i => if_pos hb
    refine wpAny_ite_split (fun h => absurd h (by simp)) (fun _ => ?_)
    unfold setWalk
    refine wpAny_bind (wpAny_bind (wpAny_setState_of ho hd L.fits ?_))
    dsimp only
    refine wpAny_bind (wp_byText ?_)
    refine wpAny_ite_split (fun _ => ?_) (fun h => absurd hb h)
    refine wpAny_bind (wpAny_askSetting (wpAny_pure ?_))
    refine wpAny_pure ?_
    rw [e2] at hQ ⊢
    rw [e1] at hQ
    exact hQ
  · have hb' : byT w = false := by simpa using hb
    have e1 : ordE w a es ep = es := if_neg hb
    have e2 : ∀ i, slotT w t i = slotAt t i := fun i => if_neg hb
    refine wpAny_ite_split (fun h => ?_) (fun _ => ?_)
    · have h2 : (!t.plain && decide (es.size > 1)) = true := h
      rw [drawn_no L] at h2; cases h2
    · rw [e2] at hQ ⊢
      rw [e1] at hQ
      refine wpAny_bind ?_
      refine wpAny_ite_split (c := (!t.led && !es.isEmpty) = true) (fun h => ?_) (fun _ => ?_)
      · rw [L.led hb'] at h; cases h
      · refine wpAny_pure ?_
        have hps : t.place.size = es.size := by
          have := L.fits
          simp only [SetTable.fits, Bool.and_eq_true, beq_iff_eq] at this
          exact this.1
        show wpAny _ _ (pure (match es[SetTable.below t.place (slotAt t i)]?, t.place[SetTable.below t.place (slotAt t i)]? with
          | some (_, x), some j => some (x, j + 1)
          | _, _ => none)) _ _ _
        rw [L.below i hi]
        refine wpAny_pure ?_
        by_cases hlt : i < es.size
        · have g1 : es[i]? = some es[i] := Array.getElem?_eq_getElem hlt
          have hlt2 : i < t.place.size := by (first | lia | omega)
          have g2 : t.place[i]? = some t.place[i] := Array.getElem?_eq_getElem hlt2
          have g3 : slotAt t (i + 1) = t.place[i] + 1 := by
            show t.place.getD i 0 + 1 = _
            rw [Array.getD_eq_getD_getElem?, g2]; rfl
          rw [g1, g3] at hQ
          rw [g1, g2]
          exact hQ
        · have g1 : es[i]? = none := Array.getElem?_eq_none (by (first | lia | omega))
          rw [g1] at hQ ⊢
          exact hQ
theorem wp_item {it a : Addr} {es : Array (Int × Value)} {ep : Nat} {t : SetTable} {i : Nat} {e : Int × Value} {Q : Option Value → Shared → Prop} (L : Lain w es t) (hI : SetIt s.heap it a (slotT w t i) i es.size ep) (hS : SetAt s.heap a es ep t)
    (he : (ordE w a es ep)[i]? = some e)
    (hQ : ∀ h', SetIt h' it a (slotT w t (i + 1)) (i + 1) es.size ep → (∀ b o, b ≠ it → s.heap.get? b = some o → h'.get? b = some o) → Q (some e.2) { s with heap := h' }) :
    wpAny (model prog w) A (pyNext (.ref it)) Q E s := by
  obtain ⟨oi, hoi, hci, hdi⟩ := id hI
  obtain ⟨o, ho, hc, hd⟩ := id hS
  have hi : i ≤ es.size := by
    have : i < (ordE w a es ep).size := by
      by_cases h : i < (ordE w a es ep).size
      · exact h
      · rw [Array.getElem?_eq_none (by (first | lia | omega))] at he; cases he
    rw [L.size a ep] at this; (first | lia | omega)
  unfold pyNext
  refine wpAny_bind (wpAny_attempt (wpAny_callSpecial?_slot (name := Str.ofString "__next__") hI.typeIs slot_si_next
    (wpAny_call_entry slot_si_next hI.typeIs entry_si_next ?_ (args_si_next _))))
  refine wpAny_bind (m := slotArgs "__next__" 0 _) (wpAny_pure ?_)
  refine wpAny_bind (wpAny_fieldsOf hoi hdi ?_)
  show wpAny _ _ (setEntries a >>= _) _ _ s
  refine wpAny_bind (m := setEntries _) (wpAny_bind (wpAny_setState_of ho hd L.fits (wpAny_pure ?_)))
  refine wpAny_ite_split (fun h => absurd h (by simp)) (fun _ => ?_)
  show wpAny _ _ (setNext a (((slotT w t i : Nat) : Int)).toNat (((i : Nat) : Int)).toNat (((ep : Nat) : Int)).toNat >>= _) _ _ s
  rw [Int.toNat_natCast, Int.toNat_natCast, Int.toNat_natCast]
  refine wpAny_bind (wp_setNext L hS hi ?_)
  rw [he]
  show wpAny _ _ (setField (.ref it) 0 (rawInt (slotT w t (i + 1) : Nat)) >>= _) _ _ s
  refine wpAny_bind (wpAny_setField hoi hdi (by simp) ?_)
  have ho1 := Heap.get?_update_self (Obj.mapFields (·.setIfInBounds 0 (rawInt (slotT w t (i + 1) : Nat)))) hoi (Obj.isFreed_of_fields (Obj.data_mapFields hdi _))
  have hd1 := Obj.data_mapFields hdi (·.setIfInBounds 0 (rawInt (slotT w t (i + 1) : Nat)))
  show wpAny _ _ (setField (.ref it) 1 (rawInt ((i : Int) + 1)) >>= _) _ _ _
  refine wpAny_bind (wpAny_setField ho1 hd1 (by simp) ?_)
  have ho2 := Heap.get?_update_self (Obj.mapFields (·.setIfInBounds 1 (rawInt ((i : Int) + 1)))) ho1 (Obj.isFreed_of_fields (Obj.data_mapFields hd1 _))
  have hd2 := Obj.data_mapFields hd1 (·.setIfInBounds 1 (rawInt ((i : Int) + 1)))
  refine wpAny_pure ⟨_, rfl, wpAny_pure (hQ _ ⟨_, ho2, ?_, ?_⟩ fun b o hb e => ?_)⟩
  · exact (Obj.cls_mapFields ..).trans ((Obj.cls_mapFields ..).trans hci)
  · rw [hd2]; simp [rawInt]
  · exact (Heap.get?_update_other _ _ (Ne.symm hb)).trans ((Heap.get?_update_other _ _ (Ne.symm hb)).trans e)
theorem wp_end {it a : Addr} {es : Array (Int × Value)} {ep : Nat} {t : SetTable} {Q : Option Value → Shared → Prop} (hh : A.handled = none) (L : Lain w es t) (hI : SetIt s.heap it a (slotT w t es.size) es.size es.size ep) (hS : SetAt s.heap a es ep t)
    (hQ : ∀ h', (∀ b o, b ≠ it → s.heap.get? b = some o → h'.get? b = some o) → Q none { s with heap := h' }) :
    wpAny (model prog w) A (pyNext (.ref it)) Q E s := by
  obtain ⟨oi, hoi, hci, hdi⟩ := id hI
  obtain ⟨o, ho, hc, hd⟩ := id hS
  have he : (ordE w a es ep)[es.size]? = none := Array.getElem?_eq_none (by rw [L.size]; exact Nat.le_refl _)
  unfold pyNext
  refine wpAny_bind (wpAny_attempt (wpAny_callSpecial?_slot (name := Str.ofString "__next__") hI.typeIs slot_si_next
    (wpAny_call_entry slot_si_next hI.typeIs entry_si_next ?_ (args_si_next _))))
  refine wpAny_bind (m := slotArgs "__next__" 0 _) (wpAny_pure ?_)
  refine wpAny_bind (wpAny_fieldsOf hoi hdi ?_)
  show wpAny _ _ (setEntries a >>= _) _ _ s
  refine wpAny_bind (m := setEntries _) (wpAny_bind (wpAny_setState_of ho hd L.fits (wpAny_pure ?_)))
  refine wpAny_ite_split (fun h => absurd h (by simp)) (fun _ => ?_)
  show wpAny _ _ (setNext a (((slotT w t es.size : Nat) : Int)).toNat (((es.size : Nat) : Int)).toNat (((ep : Nat) : Int)).toNat >>= _) _ _ s
  rw [Int.toNat_natCast, Int.toNat_natCast, Int.toNat_natCast]
  refine wpAny_bind (wp_setNext L hS (Nat.le_refl _) ?_)
  rw [he]
  show wpAny _ _ (setField (.ref it) 2 .none >>= _) _ _ s
  refine wpAny_bind (wpAny_setField hoi hdi (by simp) ?_)
  show wpAny _ _ (newExc (.type "StopIteration") [] >>= _) _ _ _
  refine wpAny_bind ?_
  simp only [newExc, newTuple]
  refine wpAny_bind (wpAny_newObj_type ?_ (by size_fits))
  refine wpAny_bind (m := firstArgMember _ _) (wpAny_of_eq (a := Value.none) (by first | rfl | (simp only [firstArgMember]; rfl)) ?_)
  refine wpAny_newObj_type ?_ (by size_fits)
  refine wpAny_bind (wpAny_handled ?_)
  rw [show A.in1.handled = none from hh]
  refine wpAny_bind (wpAny_pure (wpAny_throw ?_))
  refine wpAny_bind (wpAny_isInstance (T := "StopIteration") (b := true) ⟨_, Heap.get?_push_size _ rfl, rfl⟩ isSubtype_stop ?_)
  refine wpAny_pure (hQ _ fun b o hb e => ?_)
  exact Heap.get?_push_of_some _ (Heap.get?_push_of_some _ ((Heap.get?_update_other _ _ (Ne.symm hb)).trans e))
theorem wp_selfIter {it a : Addr} {slot i n ep : Nat} {Q : Value → Shared → Prop} (hit : SetIt s.heap it a slot i n ep) (h : Q (.ref it) s) : wpAny (model prog w) A (pyIter (.ref it)) Q E s := by
  refine wpAny_pyIter_slot hit.typeIs slot_si_iter (wpAny_call_entry slot_si_iter hit.typeIs entry_si_iter ?_ (args_si_iter _))
  show wpAny _ _ (ret (.ref it)) _ _ s
  exact wpAny_pure ⟨_, rfl, "set_iterator", _, hit.typeIs, slot_si_next.lookup, h⟩
end
section
variable {prog : Program} {w : World} {A : Around}
theorem walks_set (hh : A.handled = none) (I a : Addr) (hne : a ≠ I) {es : Array (Int × Value)} (ep : Nat) {t : SetTable} (L : Lain w es t) :
    Walks prog w A I [I, a] [I] es.size (fun i v => ∃ e, (ordE w a es ep)[i]? = some e ∧ v = e.2) (fun i h => SetIt h I a (slotT w t i) i es.size ep ∧ SetAt h a es ep t) where
  sub := fun b hb => by simp at hb; simp [hb]
  frame := fun _ _ _ st hk => ⟨st.1.at fun o e => hk I (by simp) o e, st.2.at fun o e => hk a (by simp) o e⟩
  item := fun i s Q E hi st hQ => by
    have hi2 : i < (ordE w a es ep).size := by rw [L.size]; exact hi
    refine wp_item L st.1 st.2 (Array.getElem?_eq_getElem hi2) fun h' hit' hk => ?_
    exact hQ _ h' s.toks ⟨_, Array.getElem?_eq_getElem hi2, rfl⟩ ⟨hit', st.2.at fun o e => hk a o hne e⟩ fun b o hb e => hk b o (fun h => hb (by simp [h])) e
  done := fun s Q E st hQ => wp_end hh L st.1 st.2 fun h' he' => hQ h' s.toks fun b o hb e => he' b o (fun h => hb (by simp [h])) e
  self := fun _ _ _ _ st hQ => wp_selfIter st.1 hQ
theorem slotT_zero (w : World) (t : SetTable) : slotT w t 0 = 0 := by unfold slotT; split <;> rfl
theorem src_set (a : Addr) {es : Array (Int × Value)} (ep : Nat) {t : SetTable} (L : Lain w es t) : KdlSrc prog w "set" a a es.size (fun i v => ∃ e, (ordE w a es ep)[i]? = some e ∧ v = e.2) (fun h => SetAt h a es ep t) where
  type := fun _ hm => hm.typeIs
  there := fun _ hm => let ⟨_, ho, _⟩ := hm; ⟨Heap.lt_size ho, Heap.lt_size ho⟩
  keep := fun _ _ hm hk => hm.at fun o e => hk a (.inl rfl) o e
  notList := by decide
  notTuple := by decide
  hint := fun _ _ _ _ hm hq => hint_set hm.typeIs hq
  iter := fun A s hh hm => by
    have hlt : a < s.heap.objs.size := let ⟨_, ho, _⟩ := hm; Heap.lt_size ho
    refine ⟨_, _, (fun _ _ hq => wp_iter L hm hq), walks_set hh _ a (Nat.ne_of_lt hlt) ep L, ⟨⟨_, Heap.get?_push_size _ rfl, rfl, ?_⟩, hm.at fun o e => Heap.get?_push_of_some _ e⟩⟩
    rw [slotT_zero]
end
end Mine.S
end
section
open PySem PySem.W PyProof.Rows PySem.Calls PyProof.V PySem.Spec
set_option Elab.async false
set_option maxRecDepth 100000
namespace Mine.S
structure Step (es : Array (Int × Value)) (t : SetTable) (k : Int) (v : Value) (es' : Array (Int × Value)) (t' : SetTable) : Prop where
  fits : t.fits es.size = true
  new : ∀ e ∈ es.toList, (e.1 == k) = false
  lay : layNew t es k v = (es', t', false, false)
  full : t'.tooFull = false
  plain : t'.plain = true
  small : es.size < 100 ∧ es'.size < 100
  scan : es.all (·.2.scannable) = true
section
variable {prog : Program} {w : World} {A : Around} {E : Value → Shared → Prop} {s : Shared}
theorem wp_scan {S : Addr} {x : Value} {k : Int} {Q : ScanMet → Shared → Prop} (h : Q .absent s) : ∀ (l : List (Int × Value)) (i : Nat), (∀ e ∈ l, (e.1 == k) = false) → wpAny (model prog w) A (setScanFrom S x k true l i) Q E s
  | [], i, _ => by unfold setScanFrom; exact wpAny_pure h
  | (h', y) :: l, i, hl => by
    unfold setScanFrom
    rw [if_neg (by have := hl _ (.head _); simpa using this)]
    exact wp_scan h l (i + 1) fun e he => hl e (.tail _ he)
theorem wp_add {S : Addr} {es es' : Array (Int × Value)} {ep : Nat} {t t' : SetTable} {k : Int} {tk : Tok} {o : Obj} {Q : Bool → Shared → Prop} (ho : s.heap.get? S = some o) (hd : o.data = .set es ep t) (st : Step es t k (.int k tk) es' t')
    (h : Q true { s with heap := s.heap.update S (Obj.putSet es' t') }) : wpAny (model prog w) A (setAddHashed S (.int k tk) k) Q E s := by
  unfold setAddHashed setAddHashedIn
  refine wpAny_holding (wpAny_bind (wpAny_setState_of ho hd st.fits ?_))
  dsimp only
  have hbs : byScan (.int k tk) es = true := by
    unfold byScan
    rw [st.scan, decide_eq_true (by have := st.small.1; unfold scanBound; (first | lia | omega))]; rfl
  rw [hbs]
  simp only [↓reduceIte]
  unfold setAddByScan
  refine wpAny_bind ?_
  refine wpAny_bind (wpAny_rule ?_)
  refine wpAny_bind (m := setScan _ _ _ _ _) (wp_scan ?_ es.toList 0 st.new)
  dsimp only
  rw [st.lay]
  dsimp only
  refine wpAny_bind (wpAny_pure ?_)
  refine wpAny_ite_split (fun _ => ?_) (fun hn => absurd st.plain hn)
  rw [hashByValue_scannable 8 (x := .int k tk) rfl]
  refine wpAny_bind (wpAny_pure ?_)
  rw [if_pos (show plainKind (.int k tk) = true from rfl)]
  refine wpAny_bind (wpAny_storeSet_of ho hd ?_ (fits_of_scanBound (by have := st.small.2; unfold scanBound; (first | lia | omega))))
  rw [st.full]
  exact wpAny_pure (wpAny_pure h)
/-- the set after the first items -/
noncomputable def esOf (kvs : List (Int × Value)) : Array (Int × Value) := kvs.toArray
noncomputable def tOf (led : Bool) (kvs : List (Int × Value)) : SetTable := { mask := 7, place := (kvs.map fun e => e.1.toNat).toArray, dummies := #[], finger := 0, led, moves := 0, plain := true }
noncomputable def setObjOf (led : Bool) (kvs : List (Int × Value)) : Obj := { cls := .type "set", dict := none, data := .set (esOf kvs) kvs.length (tOf led kvs) }
/-- all steps of the making are known -/
structure Steps (led : Bool) (kvs : List (Int × Value)) : Prop where
  step : ∀ (i : Nat) (k : Int) (v : Value), kvs[i]? = some (k, v) → Step (esOf (kvs.take i)) (tOf led (kvs.take i)) k v (esOf (kvs.take (i + 1))) (tOf led (kvs.take (i + 1)))
  val : ∀ (i : Nat) (k : Int) (v : Value), kvs[i]? = some (k, v) → (∃ tk, v = Value.int k tk) ∧ hashInt k = k
theorem put_obj (led : Bool) (kvs : List (Int × Value)) (i : Nat) (hi : i < kvs.length) : Obj.putSet (esOf (kvs.take (i + 1))) (tOf led (kvs.take (i + 1))) (setObjOf led (kvs.take i)) = setObjOf led (kvs.take (i + 1)) := by
  unfold setObjOf Obj.putSet
  have h1 : (kvs.take i).length = i := by rw [List.length_take]; (first | lia | omega)
  have h2 : (kvs.take (i + 1)).length = i + 1 := by rw [List.length_take]; (first | lia | omega)
  rw [h1, h2]
theorem loop_set {R : Result → Shared → Prop} {I : Addr} {fp wr : List Addr} {G : Array GenState → Array GenState → Prop} {P : Nat → Value → Prop} {St : Nat → Shared → Prop} {kvs : List (Int × Value)} {led : Bool}
    (W : WalksS prog w A.in1 I fp wr G kvs.length P St) (S : Addr) (hSf : S ∉ fp) (X : Steps led kvs) (hval : ∀ i v, P i v → ∃ k, kvs[i]? = some (k, v)) :
    ∀ (k i : Nat) (s : Shared), kvs.length - i = k → i ≤ kvs.length → St i s → s.heap.get? S = some (setObjOf led (kvs.take i)) →
      (∀ s', Moved (S :: wr) G s s' → s'.heap.get? S = some (setObjOf led kvs) → R (.ok (.ret .none)) s') →
      codeAny (model prog w) A (.builtin "set.update.loop" ⟨[.ref S, .ref I], []⟩) R s := by
  have hSw : S ∉ wr := fun h => hSf (W.sub _ h)
  have hsub : ∀ b ∈ wr, b ∈ S :: wr := fun b hb => List.mem_cons_of_mem _ hb
  intro k
  induction k with
  | zero =>
    intro i s hk hi hst hS hR
    have hin : i = kvs.length := by omega
    subst hin
    refine codeAny_builtin PyProof.Rows.F.entry_set_update_loop ?_
    rw [Around.under_plainId PyProof.Rows.F.plain_set_update_loop _]
    show wpAny _ A.in1 (pyNext (.ref I) >>= _) _ _ s
    refine wpAny_bind (W.done s _ _ hst fun s' hm => ?_)
    show wpAny _ A.in1 (ret Value.none) _ _ s'
    rw [List.take_length] at hS
    exact wpAny_pure (hR s' (hm.mono hsub) (hm.heap S _ hSw hS))
  | succ k ih =>
    intro i s hk hi hst hS hR
    have hlt : i < kvs.length := by omega
    refine codeAny_builtin PyProof.Rows.F.entry_set_update_loop ?_
    rw [Around.under_plainId PyProof.Rows.F.plain_set_update_loop _]
    show wpAny _ A.in1 (pyNext (.ref I) >>= _) _ _ s
    refine wpAny_bind (W.item i s _ _ hlt hst fun v s' hP hst' hm => ?_)
    obtain ⟨k', hk'⟩ := hval i v hP
    obtain ⟨⟨tk, rfl⟩, hh⟩ := X.val i k' v hk'
    have hS' := hm.heap S _ hSw hS
    show wpAny _ A.in1 (holding [Value.int k' tk] (setAdd S (.int k' tk)) >>= _) _ _ s'
    refine wpAny_bind (wpAny_holding ?_)
    unfold setAdd
    refine wpAny_holding ?_
    refine wpAny_bind (wpAny_pyHash_int ?_)
    rw [hh]
    refine wp_add (s := { s' with toks := s'.toks + 1 }) hS' rfl (X.step i k' _ hk') ?_
    have hS2 := Heap.get?_update_self (Obj.putSet (esOf (kvs.take (i + 1))) (tOf led (kvs.take (i + 1)))) hS' (by rw [put_obj led kvs i hlt]; rfl)
    rw [put_obj led kvs i hlt] at hS2
    refine wpAny_pure ⟨plainId_quiet PyProof.Rows.F.plain_set_update_loop _, ih (i + 1) _ (by omega) hlt (W.frame _ s' _ _ hst' (Nat.le_succ _) fun b hb o e => ?_) hS2 fun s'' hm'' hS'' => ?_⟩
    · exact (Heap.get?_update_other _ _ (fun h : S = b => hSf (by rw [h]; exact hb))).trans e
    · refine hR s'' (Moved.trans W.gtrans ((hm.mono hsub).then_heap (Nat.le_succ _) fun b o hb e => ?_) hm'') hS''
      exact (Heap.get?_update_other _ _ (fun h : S = b => hb (by rw [h]; exact List.mem_cons_self))).trans e
theorem code_set_new (a : Value) {Q₁ : Value → Shared → Prop}
    (h : Q₁ (.ref s.heap.objs.size) { s with heap := s.heap.push { cls := .type "set", dict := none, data := .set #[] 0 (.fresh 0 0 (!byT w)) } }) :
    codeAny (model prog w) A (.call (.builtin "set.__new__") ⟨[.type "set", a], []⟩) (wants Q₁ E) s := by
  refine codeAny_of_tree ?_
  show wpAny _ A.in1 (do checkBuiltinCall "set.__new__" ⟨[.type "set", a], []⟩; again (.builtin "set.__new__" ⟨[.type "set", a], []⟩)) _ _ s
  refine wpAny_bind (wpAny_of_eq (F.newCall_set_1 a) (wpAny_pure ⟨plainId_quiet F.plain_set_new _, codeAny_builtin F.entry_set_new ?_⟩))
  rw [Around.under_plainId F.plain_set_new _]
  unfold Builtin.«set.__new__» Builtin.Frozenset.newClass
  have hsub := sub_set_self
  obtain ⟨hp, g, d, tk, os⟩ := s
  dsimp only
  wp_walk
  refine wpAny_askSetting (wpAny_pure ?_)
  dsimp only
  simp only [newObj]
  refine wpAny_bind (wpAny_alloc (wpAny_pure ?_))
  exact wpAny_pure h
end
end Mine.S
end
section
open PySem PySem.W PyProof.Rows PySem.Calls PyProof.V PySem.Spec
set_option Elab.async false
set_option maxRecDepth 100000
set_option linter.unusedSimpArgs false
namespace Mine.S
theorem sub_tuple_set : isSubtype (.type "tuple") (.type "set") = pure false := by rw [isSubtype_type]; kernel_rfl
theorem sub_tuple_frozenset : isSubtype (.type "tuple") (.type "frozenset") = pure false := by rw [isSubtype_type]; kernel_rfl
theorem erase_perm {α : Type} : ∀ (l : List α) (i : Nat) (h : i < l.length), (l[i] :: l.eraseIdx i).Perm l
  | x :: l, 0, _ => List.Perm.refl _
  | x :: l, i + 1, h => by
    have hi : i < l.length := by simpa using h
    have ih := erase_perm l i hi
    exact (List.Perm.swap x l[i] (l.eraseIdx i)).trans (List.Perm.cons x ih)
theorem go_succ {α : Type} {next : Nat → Nat} {fuel k : Nat} {left : List α} {out : Array α} {x : α} (h : left[next k % left.length]? = some x) :
    pickOrder.go next (fuel + 1) k left out = pickOrder.go next fuel (k + 1) (left.eraseIdx (next k % left.length)) (out.push x) := by
  show (match left[next k % left.length]? with | some x => pickOrder.go next fuel (k + 1) (left.eraseIdx (next k % left.length)) (out.push x) | none => out) = _
  rw [h]
theorem go_perm {α : Type} (next : Nat → Nat) : ∀ (fuel k : Nat) (left : List α) (out : Array α), fuel = left.length → (pickOrder.go next fuel k left out).toList.Perm (out.toList ++ left)
  | 0, k, left, out, h => by
    have : left = [] := List.length_eq_zero_iff.mp h.symm
    subst this
    show out.toList.Perm (out.toList ++ [])
    rw [List.append_nil]
  | fuel + 1, k, left, out, h => by
    have hlt : next k % left.length < left.length := Nat.mod_lt _ (by omega)
    rw [go_succ (List.getElem?_eq_getElem hlt)]
    refine (go_perm next fuel (k + 1) _ _ (by rw [List.length_eraseIdx_of_lt hlt]; omega)).trans ?_
    rw [Array.toList_push, List.append_assoc]
    exact List.Perm.append_left _ (erase_perm left _ hlt)
theorem pick_perm {α : Type} (next : Nat → Nat) (xs : Array α) : (pickOrder next xs).toList.Perm xs.toList := by
  have := go_perm next xs.size 0 xs.toList #[] (by simp)
  exact this
theorem ord_perm (w : World) (a : Addr) (es : Array (Int × Value)) (ep : Nat) : (ordE w a es ep).toList.Perm es.toList := by
  unfold ordE
  split
  · exact pick_perm _ _
  · exact List.Perm.refl _
theorem ord_size (w : World) (a : Addr) (es : Array (Int × Value)) (ep : Nat) : (ordE w a es ep).size = es.size := by
  rw [← Array.length_toList, (ord_perm w a es ep).length_eq, Array.length_toList]
theorem sorted_perm : ∀ {a b : List Int}, a.Perm b → a.Pairwise (· ≤ ·) → b.Pairwise (· ≤ ·) → a = b
  | [], b, h, _, _ => (List.Perm.length_eq h ▸ rfl : b.length = 0) |> fun e => (List.length_eq_zero_iff.mp e).symm
  | x :: a, [], h, _, _ => by have := h.length_eq; simp at this
  | x :: a, y :: b, h, ha, hb => by
    have h1 : x ∈ y :: b := h.mem_iff.mp (.head _)
    have h2 : y ∈ x :: a := h.mem_iff.mpr (.head _)
    have e1 : y ≤ x := by
      rcases List.mem_cons.mp h1 with e | e
      · (first | lia | omega)
      · exact (List.pairwise_cons.mp hb).1 x e
    have e2 : x ≤ y := by
      rcases List.mem_cons.mp h2 with e | e
      · (first | lia | omega)
      · exact (List.pairwise_cons.mp ha).1 y e
    have e : x = y := by (first | lia | omega)
    subst e
    rw [sorted_perm ((List.perm_cons x).mp h) (List.pairwise_cons.mp ha).2 (List.pairwise_cons.mp hb).2]
section
variable {prog : Program} {w : World} {A : Around} {E : Value → Shared → Prop} {s : Shared}
set_option maxHeartbeats 3200000 in
theorem set_init {A₀ : Around} {R : Result → Shared → Prop} {tup : Addr} {items : Array Value} {kvs : List (Int × Value)} (hh : A.handled = none) (ht : s.heap.IsTuple tup items) (X : Steps (!byT w) kvs) (hk : items.toList = kvs.map (·.2))
    (h : ∀ h' tk, (∀ b o, s.heap.get? b = some o → h'.get? b = some o) → h'.get? s.heap.objs.size = some (setObjOf (!byT w) kvs) → R (.ok (.ret .none)) (sh s h' tk)) :
    wpAny (model prog w) A (Builtin.«set.__init__» ⟨[.ref s.heap.objs.size, .ref tup], []⟩) (fun fin s' => match fin with | .done f => R (.ok f) s' | .again c' => c'.quiet = true ∧ codeAny (model prog w) A₀ c' R s') (fun e s' => R (.error e) s')
      { s with heap := s.heap.push (setObjOf (!byT w) []) } := by
  have hS : (s.heap.push (setObjOf (!byT w) [])).get? s.heap.objs.size = some (setObjOf (!byT w) []) := Heap.get?_push_size _ rfl
  have hT : Shared.TypeIs { s with heap := s.heap.push (setObjOf (!byT w) []) } (.ref s.heap.objs.size) "set" := ⟨_, hS, rfl⟩
  obtain ⟨ol, hol, hcl, nl, hdl⟩ := ht
  obtain ⟨ocls, odict, odata, oslots⟩ := ol
  simp only at hcl hdl
  subst hcl; subst hdl
  have hol' : (s.heap.push (setObjOf (!byT w) [])).get? tup = some { cls := .type "tuple", dict := odict, data := .seq items nl, slots := oslots } := Heap.get?_push_of_some _ hol
  have hsls := sub_tuple_set
  have hslf := sub_tuple_frozenset
  have hne : (Value.type "tuple" == Value.type "dict") = false := by decide
  have ht1 : (s.heap.push (setObjOf (!byT w) [])).IsTuple tup items := ⟨_, hol', rfl, nl, rfl⟩
  unfold Builtin.«set.__init__» noKeywords Builtin.Frozenset.updateFrom
  generalize hPI : pyIter = PI
  wp_walk
  subst hPI
  refine wpAny_pyIter_tuple ht1 ?_
  refine wpAny_bind (wpAny_runValue ?_)
  have hlS : tup < s.heap.objs.size := Heap.lt_size hol
  have hh3 : A.in1.handled = none := by simp [hh]
  have hneI : tup ≠ (s.heap.push (setObjOf (!byT w) [])).objs.size := by
    rw [Heap.size_push]; exact Nat.ne_of_lt (Nat.lt_succ_of_lt hlS)
  have hSf : s.heap.objs.size ∉ [(s.heap.push (setObjOf (!byT w) [])).objs.size, tup] := by
    rw [Heap.size_push]; simp only [List.mem_cons, List.mem_singleton, List.not_mem_nil, or_false, not_or]
    exact ⟨Nat.ne_of_lt (Nat.lt_succ_self _), Nat.ne_of_gt hlS⟩
  have hsz : items.size = kvs.length := by rw [← Array.length_toList, hk, List.length_map]
  have hval : ∀ (i : Nat) (v : Value), items[i]? = some v → ∃ k, kvs[i]? = some (k, v) := fun i v hv => by
    rw [← Array.getElem?_toList, hk, List.getElem?_map] at hv
    obtain ⟨⟨k, v'⟩, e1, e2⟩ := Option.map_eq_some_iff.mp hv
    exact ⟨k, by rw [e1]; cases e2; rfl⟩
  have W := (Walks.tuple (prog := prog) (w := w) hh3 _ tup hneI items).toS
  rw [hsz] at W
  refine loop_set W s.heap.objs.size hSf X hval (kvs.length - 0) 0 _ (by (first | lia | omega)) (Nat.zero_le _)
    ⟨⟨_, Heap.get?_push_size _ rfl, rfl, rfl⟩, ?ht2⟩ ?hS0 ?hR
  case ht2 =>
    obtain ⟨o, ho, x⟩ := ht1
    exact ⟨o, Heap.get?_push_of_some _ ho, x⟩
  case hS0 => exact Heap.get?_push_of_some _ hS
  case hR =>
    intro s' hm hS'
    obtain ⟨h', g', d', tk', os'⟩ := s'
    have eg : g' = s.gens := hm.gens
    have ed : d' = s.drawn := hm.drawn
    have eo : os' = s.os := hm.os
    subst eg; subst ed; subst eo
    show wpAny _ _ _ _ _ _
    refine wpAny_pure ?_
    show wpAny _ _ (ret Value.none) _ _ _
    refine wpAny_pure (h h' tk' (fun b o e => ?_) hS')
    have hb := Heap.lt_size e
    have hb1 : b ≠ s.heap.objs.size := Nat.ne_of_lt hb
    have hb2 : b ≠ (s.heap.push (setObjOf (!byT w) [])).objs.size := by
      rw [Heap.size_push]; exact Nat.ne_of_lt (Nat.lt_succ_of_lt hb)
    exact hm.heap b o (by simp only [List.mem_cons, List.mem_singleton, List.not_mem_nil, or_false, not_or]; exact ⟨hb1, hb2⟩) (Heap.get?_push_of_some _ (Heap.get?_push_of_some _ e))
set_option maxHeartbeats 3200000 in
theorem make_set {tup : Addr} {items : Array Value} {kvs : List (Int × Value)} {Q : Value → Shared → Prop} (hh : A.handled = none) (ht : s.heap.IsTuple tup items) (X : Steps (!byT w) kvs) (hk : items.toList = kvs.map (·.2))
    (h : ∀ h' tk, (∀ b o, s.heap.get? b = some o → h'.get? b = some o) → h'.get? s.heap.objs.size = some (setObjOf (!byT w) kvs) → Q (.ref s.heap.objs.size) (sh s h' tk)) :
    wpAny (model prog w) A (call (.type "set") [.ref tup]) Q E s := by
  obtain ⟨c, tl, hmro⟩ := F.called_set.mro
  have hmade := F.called_set.made
  have hsub := F.called_set.sub
  refine wpAny_call (codeAny_of_tree ?_)
  show wpAny _ _ (callAny (.type "set") _) _ _ _
  refine wpAny_pure ⟨Code.quiet_builtin _ (by decide +kernel), codeAny_builtin F.entry_type_call ?_⟩
  rw [Around.under_plain (weight_type_call_type "set" [.ref tup] []) rfl]
  have h1 := F.called_set.notType
  have h2 := F.called_set.canCreate
  have hct := F.typeCall_set_1 (.ref tup)
  repeat (any_goals (first | assumption | wp_step))
  refine codeAny_mono (code_set_new (.ref tup) (E := E) (Q₁ := fun obj s₁ => obj = .ref s.heap.objs.size ∧ s₁ = { s with heap := s.heap.push (setObjOf (!byT w) []) }) ⟨rfl, rfl⟩) fun r s₁ hr => ?_
  cases r with
  | error e => exact hr
  | ok fl =>
    cases fl with
    | ret obj =>
      obtain ⟨rfl, rfl⟩ := hr
      have hS : (s.heap.push (setObjOf (!byT w) [])).get? s.heap.objs.size = some (setObjOf (!byT w) []) := Heap.get?_push_size _ rfl
      have hT : Shared.TypeIs { s with heap := s.heap.push (setObjOf (!byT w) []) } (.ref s.heap.objs.size) "set" := ⟨_, hS, rfl⟩
      have hli := F.called_set.init.lookup
      have hbi := F.called_set.init.bind (.ref s.heap.objs.size)
      repeat (any_goals (first | assumption | wp_step))
      refine codeAny_mono (codeAny_call_builtin (R := wants (fun r s₂ => r = .none ∧ ∃ h' tk, s₂ = (sh s h' tk) ∧
          (∀ b o, s.heap.get? b = some o → h'.get? b = some o) ∧ h'.get? s.heap.objs.size = some (setObjOf (!byT w) kvs)) E) F.called_set.init.plain F.entry_set_init (check_set_init_1 hT (set_init (by simp [hh]) ht X hk fun h' tk a b => ⟨rfl, h', tk, rfl, a, b⟩))) fun r₂ s₂ hr₂ => ?_
      · cases r₂ with
        | error e => exact hr₂
        | ok fl₂ =>
          cases fl₂ with
          | ret r =>
            obtain ⟨rfl, h', tk, rfl, hk', hS'⟩ := hr₂
            repeat (any_goals (first | assumption | wp_step))
            exact h _ _ hk' hS'
          | _ => exact hr₂.elim
    | _ => exact hr.elim
end
end Mine.S
end
section
open PySem PySem.W PyProof.Rows PySem.Calls PyProof.V PySem.Spec
set_option Elab.async false
set_option maxRecDepth 100000
namespace Mine.S
theorem mkStep {es es' : Array (Int × Value)} {t t' : SetTable} {k : Int} {v : Value} (h : (t.fits es.size && es.toList.all (fun e => !(e.1 == k)) && !t'.tooFull && t'.plain && decide (es.size < 100) && decide (es'.size < 100) && es.all (·.2.scannable)) = true) (hl : layNew t es k v = (es', t', false, false)) : Step es t k v es' t' := by
  rw [Bool.and_eq_true, Bool.and_eq_true, Bool.and_eq_true, Bool.and_eq_true, Bool.and_eq_true, Bool.and_eq_true] at h
  obtain ⟨⟨⟨⟨⟨⟨a, b⟩, c⟩, d⟩, e⟩, f⟩, g⟩ := h
  exact ⟨a, fun x hx => by have := List.all_eq_true.mp b x hx; simpa using this, hl, by simpa using c, d, ⟨of_decide_eq_true e, of_decide_eq_true f⟩, g⟩
theorem hash012 : hashInt 0 = 0 ∧ hashInt 1 = 1 ∧ hashInt 2 = 2 := by decide +kernel
theorem mkLain {w : World} {kvs : List (Int × Value)} (h : ((tOf (!byT w) kvs).fits (esOf kvs).size && (List.range ((esOf kvs).size + 1)).all fun i => SetTable.below (tOf (!byT w) kvs).place (slotAt (tOf (!byT w) kvs) i) == i) = true) : Lain w (esOf kvs) (tOf (!byT w) kvs) := by
  rw [Bool.and_eq_true] at h
  refine ⟨h.1, rfl, fun hb => ?_, fun i hi => ?_, fun a ep => ord_size w a _ ep⟩
  · show (!byT w) = true
    rw [hb]; rfl
  · have := List.all_eq_true.mp h.2 i (List.mem_range.mpr (by (first | lia | omega)))
    simpa using this
theorem steps1 (led : Bool) (k : Int) (t : Tok) (hk : k = 0 ∨ k = 1 ∨ k = 2) : Steps led [(k, .int k t)] := by
  obtain ⟨h0, h1, h2⟩ := hash012
  constructor
  · intro i k' v h
    match i with
    | 0 =>
      cases h
      rcases hk with rfl | rfl | rfl <;> exact mkStep (by kernel_rfl) (by kernel_rfl)
    | i + 1 => simp at h
  · intro i k' v h
    match i with
    | 0 =>
      cases h
      exact ⟨⟨t, rfl⟩, by rcases hk with rfl | rfl | rfl <;> assumption⟩
    | i + 1 => simp at h
theorem steps2 (led : Bool) (k l : Int) (t u : Tok) (hk : (k = 0 ∧ l = 1) ∨ (k = 0 ∧ l = 2) ∨ (k = 1 ∧ l = 2)) : Steps led [(k, .int k t), (l, .int l u)] := by
  obtain ⟨h0, h1, h2⟩ := hash012
  constructor
  · intro i k' v h
    match i with
    | 0 =>
      cases h
      rcases hk with ⟨rfl, rfl⟩ | ⟨rfl, rfl⟩ | ⟨rfl, rfl⟩ <;> exact mkStep (by kernel_rfl) (by kernel_rfl)
    | 1 =>
      cases h
      rcases hk with ⟨rfl, rfl⟩ | ⟨rfl, rfl⟩ | ⟨rfl, rfl⟩ <;> exact mkStep (by kernel_rfl) (by kernel_rfl)
    | i + 2 => simp at h
  · intro i k' v h
    match i with
    | 0 =>
      cases h
      exact ⟨⟨t, rfl⟩, by rcases hk with ⟨rfl, rfl⟩ | ⟨rfl, rfl⟩ | ⟨rfl, rfl⟩ <;> assumption⟩
    | 1 =>
      cases h
      exact ⟨⟨u, rfl⟩, by rcases hk with ⟨rfl, rfl⟩ | ⟨rfl, rfl⟩ | ⟨rfl, rfl⟩ <;> assumption⟩
    | i + 2 => simp at h
theorem steps3 (led : Bool) (t u z : Tok) : Steps led [(0, .int 0 t), (1, .int 1 u), (2, .int 2 z)] := by
  obtain ⟨h0, h1, h2⟩ := hash012
  constructor
  · intro i k' v h
    match i with
    | 0 => cases h; exact mkStep (by kernel_rfl) (by kernel_rfl)
    | 1 => cases h; exact mkStep (by kernel_rfl) (by kernel_rfl)
    | 2 => cases h; exact mkStep (by kernel_rfl) (by kernel_rfl)
    | i + 3 => simp at h
  · intro i k' v h
    match i with
    | 0 => cases h; exact ⟨⟨t, rfl⟩, h0⟩
    | 1 => cases h; exact ⟨⟨u, rfl⟩, h1⟩
    | 2 => cases h; exact ⟨⟨z, rfl⟩, h2⟩
    | i + 3 => simp at h
theorem risers_all {P : List Int → Prop} (h : P [0] ∧ P [1] ∧ P [2] ∧ P [0, 1] ∧ P [0, 2] ∧ P [1, 2] ∧ P [0, 1, 2]) : ∀ x ∈ risers, P x := by
  intro x hx
  unfold risers at hx
  simp only [List.mem_cons, List.not_mem_nil, or_false] at hx
  obtain ⟨h1, h2, h3, h4, h5, h6, h7⟩ := h
  rcases hx with rfl | rfl | rfl | rfl | rfl | rfl | rfl <;> assumption
theorem ia1 {vs : List Value} {a : Int} (h : IntsAre vs [a]) : ∃ t, vs = [.int a t] := by
  cases h with
  | cons n t h => cases h; exact ⟨t, rfl⟩
theorem ia2 {vs : List Value} {a b : Int} (h : IntsAre vs [a, b]) : ∃ t u, vs = [.int a t, .int b u] := by
  cases h with
  | cons n t h =>
    obtain ⟨u, rfl⟩ := ia1 h
    exact ⟨t, u, rfl⟩
theorem ia3 {vs : List Value} {a b c : Int} (h : IntsAre vs [a, b, c]) : ∃ t u z, vs = [.int a t, .int b u, .int c z] := by
  cases h with
  | cons n t h =>
    obtain ⟨u, z, rfl⟩ := ia2 h
    exact ⟨t, u, z, rfl⟩
theorem risers_ok (w : World) : ∀ ns ∈ risers, ∀ vs, IntsAre vs ns → Steps (!byT w) (ns.zip vs) ∧ Lain w (esOf (ns.zip vs)) (tOf (!byT w) (ns.zip vs)) := by
  refine risers_all ⟨?_, ?_, ?_, ?_, ?_, ?_, ?_⟩
  · intro vs h; obtain ⟨t, rfl⟩ := ia1 h; exact ⟨steps1 _ 0 t (by omega), mkLain (by kernel_rfl)⟩
  · intro vs h; obtain ⟨t, rfl⟩ := ia1 h; exact ⟨steps1 _ 1 t (by omega), mkLain (by kernel_rfl)⟩
  · intro vs h; obtain ⟨t, rfl⟩ := ia1 h; exact ⟨steps1 _ 2 t (by omega), mkLain (by kernel_rfl)⟩
  · intro vs h; obtain ⟨t, u, rfl⟩ := ia2 h; exact ⟨steps2 _ 0 1 t u (by omega), mkLain (by kernel_rfl)⟩
  · intro vs h; obtain ⟨t, u, rfl⟩ := ia2 h; exact ⟨steps2 _ 0 2 t u (by omega), mkLain (by kernel_rfl)⟩
  · intro vs h; obtain ⟨t, u, rfl⟩ := ia2 h; exact ⟨steps2 _ 1 2 t u (by omega), mkLain (by kernel_rfl)⟩
  · intro vs h; obtain ⟨t, u, z, rfl⟩ := ia3 h; exact ⟨steps3 _ t u z, mkLain (by kernel_rfl)⟩
noncomputable def vInt : Value → Int
  | .int n _ => n
  | _ => 0
theorem ints_of : ∀ {vs : List Value}, (∀ v ∈ vs, ∃ n t, v = Value.int n t) → IntsAre vs (vs.map vInt)
  | [], _ => .nil
  | v :: vs, h => by
    obtain ⟨n, t, rfl⟩ := h v (.head _)
    exact .cons n t (ints_of fun u hu => h u (.tail _ hu))
theorem ints_are {vs : List Value} {ns : List Int} (h : IntsAre vs ns) : (∀ v ∈ vs, ∃ n t, v = Value.int n t) ∧ vs.map vInt = ns := by
  induction h with
  | nil => exact ⟨(fun _ h => nomatch h), rfl⟩
  | cons n t _ ih =>
    refine ⟨fun v hv => ?_, ?_⟩
    · rcases List.mem_cons.mp hv with rfl | hv
      · exact ⟨n, t, rfl⟩
      · exact ih.1 v hv
    · rw [List.map, ih.2]; rfl
section
variable {prog : Program} {w : World} {A : Around} {E : Value → Shared → Prop} {s : Shared}
theorem iadd_set {a l : Addr} {es : Array (Int × Value)} {ep : Nat} {t : SetTable} {R : Result → Shared → Prop} (hh : A.handled = none) (L : Lain w es t) (hS : SetAt s.heap a es ep t) (hn : es.size ≤ 100) (hla : l ≠ a) (hl : s.heap.get? l = some { cls := .type "list", data := .seq #[] 0 })
    (hR : ∀ h' tk acc' c', (∀ b o, b ≠ l → s.heap.get? b = some o → h'.get? b = some o) → h'.get? l = some { cls := .type "list", dict := none, data := .seq acc' c', slots := #[] } → ItemsOf (fun i v => ∃ e, (ordE w a es ep)[i]? = some e ∧ v = e.2) acc' es.size → R (.ok (.ret (.ref l))) (sh s h' tk)) :
    codeAny (model prog w) A (.builtin "list.__iadd__" ⟨[.ref l, .ref a], []⟩) R s := by
  refine codeAny_builtin PySem.F.entry_list_iadd ?_
  rw [Around.under_plainId PySem.F.plain_list_iadd _]
  show wpAny _ A.in1 (Builtin.List.listExtendWith (.ref l) (.ref a) (.ref l)) _ _ _
  exact kdl_extend (src_set a ep L) hh hS l hla hla (.ref l) 0 hl hR (by rw [sizeLine_eq]; (first | lia | omega))
theorem collect_set {a : Addr} {es : Array (Int × Value)} {ep : Nat} {t : SetTable} {Q : List Value → Shared → Prop} (hh : A.handled = none) (L : Lain w es t) (hS : SetAt s.heap a es ep t) (hn : es.size ≤ 100)
    (h : ∀ h' tk, (∀ b o, s.heap.get? b = some o → h'.get? b = some o) → Q ((ordE w a es ep).toList.map (·.2)) (sh s h' tk)) :
    wpAny (model prog w) A (collect (.ref a)) Q E s := by
  have hlt : a < s.heap.objs.size := let ⟨_, ho, _⟩ := hS; Heap.lt_size ho
  unfold collect
  refine wpAny_bind (wpAny_runValue (codeAny_builtin PySem.F.entry_proto_collect ?_))
  rw [Around.under_plainId PySem.F.plain_proto_collect _]
  show wpAny _ A.in1 (newList [] >>= fun l => again (.builtin "list.__iadd__" ⟨[l, .ref a], []⟩)) _ _ s
  refine wpAny_bind (wpAny_newObj_type ?_)
  refine wpAny_pure ⟨plainId_quiet PySem.F.plain_list_iadd _, iadd_set hh L (hS.at fun o e => Heap.get?_push_of_some _ e) hn (Nat.ne_of_gt hlt) (Heap.get?_push_size _ rfl) fun h' tk acc' c' hk hS' hacc => ?_⟩
  show wpAny _ _ (load s.heap.objs.size >>= _) _ _ _
  refine wpAny_bind (wpAny_load hS' ?_)
  have e : acc'.toList = (ordE w a es ep).toList.map (·.2) := by
    refine List.ext_getElem? fun j => ?_
    rw [List.getElem?_map, Array.getElem?_toList, Array.getElem?_toList]
    by_cases hj : j < es.size
    · have h1 : j < acc'.size := by rw [hacc.1]; exact hj
      obtain ⟨e, e1, e2⟩ := hacc.2 j acc'[j] (Array.getElem?_eq_getElem h1)
      rw [Array.getElem?_eq_getElem h1, e1, e2]; rfl
    · rw [Array.getElem?_eq_none (by rw [hacc.1]; omega), Array.getElem?_eq_none (by rw [L.size]; omega)]; rfl
  refine wpAny_pure ?_
  rw [e]
  exact h h' tk fun b o e => hk b o (Nat.ne_of_lt (Heap.lt_size e)) (Heap.get?_push_of_some _ e)
theorem sortedHeap_keep {h : Heap} {a : Addr} {vs : List Value} {out : Array Value} {b : Addr} {o : Obj} (hb : b ≠ a) (e : h.get? b = some o) : (sortedHeap h a vs out).get? b = some o := by
  unfold sortedHeap
  exact (Heap.get?_update_other _ _ (Ne.symm hb)).trans (Heap.get?_push_of_some _ (Heap.get?_push_of_some _ ((Heap.get?_update_other _ _ (Ne.symm hb)).trans e)))
theorem sortedHeap_at {h : Heap} {a : Addr} {vs xs : List Value} {out : Array Value} {n : Nat} (e : h.get? a = some (seqObj "list" xs.toArray n)) : ∃ m, (sortedHeap h a vs out).get? a = some (PySem.W.listOf out m) := by
  unfold sortedHeap
  have h1 := get?_update_seq e (fun _ => #[])
  have h2 := Heap.get?_push_of_some (seqObj "list" #[] 0) (Heap.get?_push_of_some (seqObj "tuple" vs.toArray 0) h1)
  exact ⟨_, get?_update_seq h2 (fun _ => out)⟩
theorem sorted_set {a : Addr} {es : Array (Int × Value)} {ep : Nat} {t : SetTable} {ns : List Int} {Q : Value → Shared → Prop} (hh : A.handled = none) (L : Lain w es t) (hS : SetAt s.heap a es ep t) (hn : es.size ≤ 10) (hI : IntsAre (es.toList.map (·.2)) ns) (hs : ns.Pairwise (· ≤ ·))
    (h : ∀ h' tk l out m, (∀ b o, s.heap.get? b = some o → h'.get? b = some o ∧ b ≠ l) → h'.get? l = some (PySem.W.listOf out m) → IntsAre out.toList ns → Q (.ref l) (sh s h' tk)) :
    wpAny (model prog w) A (call (.builtin "sorted") [.ref a]) Q E s := by
  refine Calls.call_function_entry kind_sorted plain_sorted entry_sorted (args_sorted1 _) ?_
  unfold Builtin.«sorted»
  refine wpAny_bind (m := checkCount "sorted" 1 1 _) (wpAny_pure ?_)
  refine wpAny_bind (collect_set (A := A.in1) hh L hS (by (first | lia | omega)) fun h' tk hk => ?_)
  refine wpAny_bind (wpAny_newList (hsz := by rw [List.length_map, Array.length_toList, L.size, sizeLine_eq]; (first | lia | omega)) ?_)
  have hp := (ord_perm w a es ep).map (·.2)
  have hi := ints_are hI
  have hI2 : IntsAre ((ordE w a es ep).toList.map (·.2)) (((ordE w a es ep).toList.map (·.2)).map vInt) := ints_of fun v hv => hi.1 v (hp.mem_iff.mp hv)
  have hp2 : (((ordE w a es ep).toList.map (·.2)).map vInt).Perm ns := by
    have := hp.map vInt
    rw [hi.2] at this; exact this
  have h64 : ((ordE w a es ep).toList.map (·.2)).length < 64 := by
    rw [List.length_map, Array.length_toList, L.size]; (first | lia | omega)
  generalize (ordE w a es ep).toList.map (·.2) = vs at hI2 hp2 h64
  generalize vs.map vInt = ms at hI2 hp2
  have hoL : (h'.push (seqObj "list" vs.toArray 0)).get? h'.objs.size = some (seqObj "list" vs.toArray 0) := Heap.get?_push_size _ rfl
  refine wpAny_bind (wpAny_holding (wpAny_call_entry slot_list_sort ⟨_, hoL, rfl⟩ entry_list_sort (list_sort_tree hoL hI2 h64 fun out ns' a1 a2 a3 => ⟨_, rfl, ?_⟩) (args_list_sort _)))
  have e : ns' = ns := sorted_perm (a2.trans hp2) a3 hs
  subst e
  obtain ⟨m, hm⟩ := sortedHeap_at (vs := vs) (out := out) hoL
  refine wpAny_pure ⟨_, rfl, h _ tk _ out m (fun b o e => ?_) hm a1⟩
  have e' := hk b o e
  have ne := Nat.ne_of_lt (Heap.lt_size e')
  exact ⟨sortedHeap_keep ne (Heap.get?_push_of_some _ e'), ne⟩
end
theorem rds_ints {Z : Heap} : ∀ (ns : List Int) {vs : List Value}, RDs Z vs (ns.map .int) → IntsAre vs ns := by
  intro ns
  induction ns with
  | nil => intro vs h; rw [RDs.nil_right h]; exact .nil
  | cons n ns ih =>
    intro vs h
    obtain ⟨v, vs', rfl, a, b⟩ := RDs.uncons' h
    exact RD.intE a fun t => .cons n t (ih b)
theorem ints_rds {Z : Heap} {vs : List Value} {ns : List Int} (h : IntsAre vs ns) : RDs Z vs (ns.map .int) := by
  induction h with
  | nil => exact .nil
  | cons n t _ ih => exact .cons (.int n t) ih
theorem set_inv {d : Val} {y : PyData} (h : sortedSetD d = some y) : ∃ xs ns, d = .d (.tuple xs) ∧ allInts xs = some ns ∧ ns ∈ risers ∧ y = .list (ns.map .int) :=
  obE h fun x hx h => obE h fun xs hxs h => obE h fun ns hns h => gdE h fun hc => ⟨xs, ns, by rw [data_eq hx, tupP_eq hxs], hns, List.contains_iff_mem.mp hc, rfl⟩
theorem risers_sorted : ∀ ns ∈ risers, ns.Pairwise (· ≤ ·) ∧ ns.length ≤ 3 := by decide
theorem sortedOk (prog : Program) (w : World) (W : Wd) : SortedOk prog w W := by
  intro A n Z S R s v d y rm hy hv st
  obtain ⟨xs, ns, rfl, ea, hr, rfl⟩ := set_inv hy
  have hv' : RD Z v (.tuple xs) := hv
  cases hv' with
  | tuple hz rds =>
    rename_i tup vs m
    have hI := rds_ints ns (by rw [← allInts_eq ea]; exact rds)
    obtain ⟨X, L⟩ := risers_ok w ns hr vs.toList hI
    obtain ⟨hsort, hlen⟩ := risers_sorted ns hr
    have hl : vs.toList.length = ns.length := hI.length
    have hz2 : (ns.zip vs.toList).map (·.2) = vs.toList := by
      rw [List.map_snd_zip]; (first | lia | omega)
    refine make_set rm.hh (items := vs) ⟨_, st.sub _ _ hz, rfl, m, rfl⟩ X hz2.symm fun h1 tk1 k1 hS => ?_
    have hes : (esOf (ns.zip vs.toList)).toList.map (·.2) = vs.toList := hz2
    have hsz : (esOf (ns.zip vs.toList)).size ≤ 10 := by
      unfold esOf
      rw [List.size_toArray, List.length_zip]; (first | lia | omega)
    refine sorted_set (s := (sh s h1 tk1)) rm.hh L ⟨_, hS, rfl, rfl⟩ hsz (by rw [hes]; exact hI) hsort fun h2 tk2 l out m2 k2 hl2 hO => ?_
    obtain ⟨Z', x, st', fr⟩ := St.grow st (h' := h2) fun b o e => (k2 b o (k1 b o e)).1
    have hnot : l ∉ (HR W Z S ++ R).map (·.1) := fun hm => by
      obtain ⟨p, hp, rfl⟩ := List.mem_map.mp hm
      obtain ⟨_, o, e, _⟩ := st.own p hp
      exact (k2 _ o (k1 _ o e)).2 rfl
    exact ⟨Z', S, R, h2, tk2, rfl, x, Grow.refl S, rfl, St.mono (T := S) st' x (Grow.refl S), rfl, RD.list (fr _ _ hl2 hnot) (ints_rds hO)⟩
end Mine.S
end
section
open PySem PySem.W PyProof.Rows
set_option Elab.async false
namespace Mine.S
theorem allOk : PySem.Challenge.rw_nz0019_01.Holds := Mine.join (fun prog w W => sortedOk prog w W) Mine.Q.lawTrue
end Mine.S
end
set_option maxRecDepth 100000 in
theorem PySem.Challenge.cw_nz0019_01_holds : PySem.Challenge.rw_nz0019_01.Holds := by
  exact Mine.S.allOk
