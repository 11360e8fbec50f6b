import PyProof.Rows.All
import Wide.All
import OpenK.AllK
import Wide.FinOn
import PySem.Challenge.RW_pd_squeeze_1_05
set_option Elab.async false
set_option linter.unusedVariables false
section
namespace Mine
open PySem PySem.Calls

abbrev D := PyData
abbrev AS := Addr → Prop
abbrev Keep (h h' : Heap) : Prop := ∀ b o, h.get? b = some o → h'.get? b = some o
theorem Keep.refl (h : Heap) : Keep h h := fun _ _ e => e
theorem Keep.trans {h₁ h₂ h₃ : Heap} (x : Keep h₁ h₂) (y : Keep h₂ h₃) : Keep h₁ h₃ := fun b o e => y b o (x b o e)
theorem Keep.push (h : Heap) (o : Obj) : Keep h (h.push o) := fun _ _ e => Heap.get?_push_of_some _ e

/-- the object is no tuple -/
def NT (o : Obj) : Prop := o.cls = .type "tuple" → ∀ vs n, o.data ≠ .seq vs n

mutual
theorem reads_kept {h h' : Heap} : ∀ {v : Value} {d : D} {as : List Addr}, Reads h v d as → (∀ b o, h.get? b = some o → b ∈ as ∨ ¬ NT o → h'.get? b = some o) → Reads h' v d as
  | _, _, _, .none, _ => .none
  | _, _, _, .bool b, _ => .bool b
  | _, _, _, .int i t, _ => .int i t
  | _, _, _, .str x t, _ => .str x t
  | _, _, _, .list h1 h2 h3 h4, hk => .list (hk _ _ h1 (.inl (.head _))) h2 h3 (readsAll_kept h4 fun b o e k => hk b o e (k.imp (.tail _) id))
  | _, _, _, .tuple h1 h2 h3 h4, hk => .tuple (hk _ _ h1 (.inr fun n => n h2 _ _ h3)) h2 h3 (readsAll_kept h4 hk)
  | _, _, _, .dict h1 h2 h3 h4 h5, hk => .dict (hk _ _ h1 (.inl (.head _))) h2 h3
      (readsAll_kept h4 fun b o e k => hk b o e (k.imp (fun m => .tail _ (List.mem_append_left _ m)) id))
      (readsAll_kept h5 fun b o e k => hk b o e (k.imp (fun m => .tail _ (List.mem_append_right _ m)) id))
theorem readsAll_kept {h h' : Heap} : ∀ {vs : List Value} {ds : List D} {as : List Addr}, ReadsAll h vs ds as → (∀ b o, h.get? b = some o → b ∈ as ∨ ¬ NT o → h'.get? b = some o) → ReadsAll h' vs ds as
  | _, _, _, .nil, _ => .nil
  | _, _, _, .cons h1 h2, hk => .cons (reads_kept h1 fun b o e k => hk b o e (k.imp (List.mem_append_left _) id)) (readsAll_kept h2 fun b o e k => hk b o e (k.imp (List.mem_append_right _) id))
end

def Plain (h : Heap) (a : Addr) : Prop := ∃ o, h.get? a = some o ∧ o.dict = none ∧ o.slots = #[]
theorem Plain.keep {h h' : Heap} {a : Addr} (p : Plain h a) (k : Keep h h') : Plain h' a := let ⟨o, e, r⟩ := p; ⟨o, k _ _ e, r⟩

def Rep (h : Heap) (Y : AS) (v : Value) (d : D) : Prop := ∃ as, Reads h v d as ∧ ∀ a ∈ as, ¬ Y a ∧ Plain h a
def RepAll (h : Heap) (Y : AS) (vs : List Value) (ds : List D) : Prop := ∃ as, ReadsAll h vs ds as ∧ ∀ a ∈ as, ¬ Y a ∧ Plain h a

theorem Rep.kept {h h' : Heap} {Y : AS} {v : Value} {d : D} (r : Rep h Y v d) (hk : ∀ b o, h.get? b = some o → ¬ Y b ∨ ¬ NT o → h'.get? b = some o) : Rep h' Y v d := by
  obtain ⟨as, r, p⟩ := r
  refine ⟨as, reads_kept r fun b o e k => hk b o e (k.imp (fun m => (p b m).1) id), fun a m => ⟨(p a m).1, ?_⟩⟩
  obtain ⟨o, e, q⟩ := (p a m).2
  exact ⟨o, hk a o e (.inl (p a m).1), q⟩
theorem RepAll.kept {h h' : Heap} {Y : AS} {v : List Value} {d : List D} (r : RepAll h Y v d) (hk : ∀ b o, h.get? b = some o → ¬ Y b ∨ ¬ NT o → h'.get? b = some o) : RepAll h' Y v d := by
  obtain ⟨as, r, p⟩ := r
  refine ⟨as, readsAll_kept r fun b o e k => hk b o e (k.imp (fun m => (p b m).1) id), fun a m => ⟨(p a m).1, ?_⟩⟩
  obtain ⟨o, e, q⟩ := (p a m).2
  exact ⟨o, hk a o e (.inl (p a m).1), q⟩
theorem Rep.keep {h h' : Heap} {Y : AS} {v : Value} {d : D} (r : Rep h Y v d) (k : Keep h h') : Rep h' Y v d := r.kept fun b o e _ => k b o e
theorem RepAll.keep {h h' : Heap} {Y : AS} {v : List Value} {d : List D} (r : RepAll h Y v d) (k : Keep h h') : RepAll h' Y v d := r.kept fun b o e _ => k b o e
theorem Rep.weak {h : Heap} {Y Y' : AS} {v : Value} {d : D} (r : Rep h Y v d) (k : ∀ a, Y' a → Y a ∨ h.get? a = none) : Rep h Y' v d := by
  obtain ⟨as, r, p⟩ := r
  refine ⟨as, r, fun a m => ⟨fun y => ?_, (p a m).2⟩⟩
  rcases k a y with k | k
  · exact (p a m).1 k
  · obtain ⟨o, e, _⟩ := (p a m).2; rw [e] at k; cases k
theorem RepAll.weak {h : Heap} {Y Y' : AS} {v : List Value} {d : List D} (r : RepAll h Y v d) (k : ∀ a, Y' a → Y a ∨ h.get? a = none) : RepAll h Y' v d := by
  obtain ⟨as, r, p⟩ := r
  refine ⟨as, r, fun a m => ⟨fun y => ?_, (p a m).2⟩⟩
  rcases k a y with k | k
  · exact (p a m).1 k
  · obtain ⟨o, e, _⟩ := (p a m).2; rw [e] at k; cases k

section
variable {h : Heap} {Y : AS} {v : Value}
theorem Rep.int {i : Int} {t : Tok} : Rep h Y (.int i t) (.int i) := ⟨[], .int i t, fun _ m => nomatch m⟩
theorem Rep.bool {b : Bool} : Rep h Y (.bool b) (.bool b) := ⟨[], .bool b, fun _ m => nomatch m⟩
theorem Rep.none : Rep h Y .none .none := ⟨[], .none, fun _ m => nomatch m⟩
theorem Rep.str {x : Str} {t : Tok} : Rep h Y (.str x t) (.str x) := ⟨[], .str x t, fun _ m => nomatch m⟩
theorem Rep.int_inv {i : Int} (r : Rep h Y v (.int i)) : ∃ t, v = .int i t := by obtain ⟨as, r, _⟩ := r; cases r; exact ⟨_, rfl⟩
theorem Rep.bool_inv {b : Bool} (r : Rep h Y v (.bool b)) : v = .bool b := by obtain ⟨as, r, _⟩ := r; cases r; rfl
theorem Rep.none_inv (r : Rep h Y v .none) : v = .none := by obtain ⟨as, r, _⟩ := r; cases r; rfl
theorem Rep.str_inv {x : Str} (r : Rep h Y v (.str x)) : ∃ t, v = .str x t := by obtain ⟨as, r, _⟩ := r; cases r; exact ⟨_, rfl⟩
theorem RepAll.nil : RepAll h Y [] [] := ⟨[], .nil, fun _ m => nomatch m⟩
theorem RepAll.cons {d : D} {vs : List Value} {ds : List D} (r : Rep h Y v d) (q : RepAll h Y vs ds) : RepAll h Y (v :: vs) (d :: ds) := by
  obtain ⟨as, r, p⟩ := r; obtain ⟨bs, r', p'⟩ := q
  exact ⟨as ++ bs, .cons r r', fun a m => (List.mem_append.mp m).elim (p a) (p' a)⟩
theorem RepAll.cons_inv {vs : List Value} {d : D} {ds : List D} (q : RepAll h Y vs (d :: ds)) : ∃ v ws, vs = v :: ws ∧ Rep h Y v d ∧ RepAll h Y ws ds := by
  obtain ⟨as, r, p⟩ := q
  cases r with
  | cons r r' => exact ⟨_, _, rfl, ⟨_, r, fun a m => p a (List.mem_append_left _ m)⟩, ⟨_, r', fun a m => p a (List.mem_append_right _ m)⟩⟩
theorem RepAll.nil_inv {vs : List Value} (q : RepAll h Y vs []) : vs = [] := by obtain ⟨as, r, _⟩ := q; cases r; rfl
theorem RepAll.length : ∀ {vs : List Value} {ds : List D}, RepAll h Y vs ds → vs.length = ds.length
  | vs, [], q => by rw [q.nil_inv]; rfl
  | vs, d :: ds, q => by
    obtain ⟨v, ws, rfl, _, q'⟩ := q.cons_inv
    simp [q'.length]
theorem RepAll.append : ∀ {vs ws : List Value} {ds es : List D}, RepAll h Y vs ds → RepAll h Y ws es → RepAll h Y (vs ++ ws) (ds ++ es)
  | vs, ws, [], es, q, q' => by rw [q.nil_inv]; exact q'
  | vs, ws, d :: ds, es, q, q' => by
    obtain ⟨v, us, rfl, r, q⟩ := q.cons_inv
    exact RepAll.cons r (RepAll.append q q')
theorem RepAll.drop : ∀ (n : Nat) {vs : List Value} {ds : List D}, RepAll h Y vs ds → RepAll h Y (vs.drop n) (ds.drop n)
  | 0, _, _, q => q
  | n + 1, vs, [], q => by rw [q.nil_inv]; exact RepAll.nil
  | n + 1, vs, d :: ds, q => by
    obtain ⟨v, us, rfl, r, q⟩ := q.cons_inv
    exact RepAll.drop n q
theorem RepAll.take : ∀ (n : Nat) {vs : List Value} {ds : List D}, RepAll h Y vs ds → RepAll h Y (vs.take n) (ds.take n)
  | 0, _, _, q => RepAll.nil
  | n + 1, vs, [], q => by rw [q.nil_inv]; exact RepAll.nil
  | n + 1, vs, d :: ds, q => by
    obtain ⟨v, us, rfl, r, q⟩ := q.cons_inv
    exact RepAll.cons r (RepAll.take n q)
theorem RepAll.get : ∀ (i : Nat) {vs : List Value} {ds : List D} {d : D}, RepAll h Y vs ds → ds[i]? = some d → ∃ v, vs[i]? = some v ∧ Rep h Y v d
  | 0, vs, e :: ds, d, q, hd => by
    obtain ⟨v, us, rfl, r, q⟩ := q.cons_inv
    cases hd; exact ⟨v, rfl, r⟩
  | i + 1, vs, e :: ds, d, q, hd => by
    obtain ⟨v, us, rfl, r, q⟩ := q.cons_inv
    exact RepAll.get i q (by simpa using hd)
theorem RepAll.set : ∀ (i : Nat) {vs : List Value} {ds : List D} {d : D}, RepAll h Y vs ds → Rep h Y v d → RepAll h Y (vs.set i v) (ds.set i d)
  | _, vs, [], d, q, _ => by rw [q.nil_inv]; exact RepAll.nil
  | 0, vs, e :: ds, d, q, r => by
    obtain ⟨_, us, rfl, _, q⟩ := q.cons_inv
    exact RepAll.cons r q
  | i + 1, vs, e :: ds, d, q, r => by
    obtain ⟨_, us, rfl, r', q⟩ := q.cons_inv
    exact RepAll.cons r' (RepAll.set i q r)

/-- a list's object, exact -/
abbrev IsLx (h : Heap) (a : Addr) (items : Array Value) : Prop := ∃ n, h.get? a = some { cls := .type "list", dict := none, data := .seq items n, slots := #[] }
theorem IsLx.isList {h : Heap} {a : Addr} {items : Array Value} (x : IsLx h a items) : h.IsList a items := let ⟨n, e⟩ := x; ⟨_, e, rfl, n, rfl⟩

theorem Rep.list {a : Addr} {items : Array Value} {xs : List D} (hl : IsLx h a items) (ha : ¬ Y a) (q : RepAll h Y items.toList xs) : Rep h Y (.ref a) (.list xs) := by
  obtain ⟨as, r, p⟩ := q; obtain ⟨n, e⟩ := hl
  refine ⟨a :: as, .list e rfl rfl r, fun b m => ?_⟩
  rcases List.mem_cons.mp m with rfl | m
  · exact ⟨ha, _, e, rfl, rfl⟩
  · exact p b m
theorem Rep.list_inv {xs : List D} (r : Rep h Y v (.list xs)) : ∃ a items, v = .ref a ∧ IsLx h a items ∧ ¬ Y a ∧ RepAll h Y items.toList xs := by
  obtain ⟨as, r, p⟩ := r
  cases r with
  | list h1 h2 h3 h4 =>
    rename_i a o vs n as
    refine ⟨_, _, rfl, ?_, (p _ (.head _)).1, ⟨_, h4, fun b m => p b (.tail _ m)⟩⟩
    obtain ⟨o', e, q1, q2⟩ := (p _ (.head _)).2
    rw [h1] at e; cases e
    obtain ⟨c, d, da, sl⟩ := o
    simp only at h2 h3 q1 q2
    subst h2 h3 q1 q2
    exact ⟨n, h1⟩
theorem Rep.tuple {a : Addr} {items : Array Value} {n : Nat} {xs : List D} {o : Obj} (h1 : h.get? a = some o) (h2 : o.cls = .type "tuple") (h3 : o.data = .seq items n) (q : RepAll h Y items.toList xs) : Rep h Y (.ref a) (.tuple xs) := by
  obtain ⟨as, r, p⟩ := q
  exact ⟨as, .tuple h1 h2 h3 r, p⟩
theorem Rep.tuple_inv {xs : List D} (r : Rep h Y v (.tuple xs)) : ∃ a items, v = .ref a ∧ (∃ o n, h.get? a = some o ∧ o.cls = .type "tuple" ∧ o.data = .seq items n) ∧ RepAll h Y items.toList xs := by
  obtain ⟨as, r, p⟩ := r
  cases r with
  | tuple h1 h2 h3 h4 => exact ⟨_, _, rfl, ⟨_, _, h1, h2, h3⟩, ⟨_, h4, p⟩⟩
end

mutual
/-- no list within -/
def flat : D → Bool
  | .none | .bool _ | .int _ | .str _ => true
  | .list _ | .dict _ => false
  | .tuple xs => flatAll xs
def flatAll : List D → Bool
  | [] => true
  | x :: xs => flat x && flatAll xs
end
mutual
theorem reads_flat {h : Heap} : ∀ {v : Value} {d : D} {as : List Addr}, Reads h v d as → flat d = true → as = []
  | _, _, _, .none, _ => rfl
  | _, _, _, .bool b, _ => rfl
  | _, _, _, .int i t, _ => rfl
  | _, _, _, .str x t, _ => rfl
  | _, _, _, .list .., f => by simp [flat] at f
  | _, _, _, .tuple _ _ _ h4, f => readsAll_flat h4 (by simpa [flat] using f)
  | _, _, _, .dict .., f => by simp [flat] at f
theorem readsAll_flat {h : Heap} : ∀ {vs : List Value} {ds : List D} {as : List Addr}, ReadsAll h vs ds as → flatAll ds = true → as = []
  | _, _, _, .nil, _ => rfl
  | _, _, _, .cons h1 h2, f => by
    simp only [flatAll, Bool.and_eq_true] at f
    rw [reads_flat h1 f.1, readsAll_flat h2 f.2]; rfl
end
theorem Rep.of_flat {h : Heap} {Y Y' : AS} {v : Value} {d : D} (r : Rep h Y v d) (f : flat d = true) : Rep h Y' v d := by
  obtain ⟨as, r, _⟩ := r
  rw [reads_flat r f] at r
  exact ⟨[], r, fun _ m => nomatch m⟩

inductive Slot where
  | un
  | val (d : D)
  | own (xs : List D)

def OwnAt (vs : Nat → Option Value) (σ : List Slot) (i : Nat) (a : Addr) : Prop := (∃ xs, σ[i]? = some (.own xs)) ∧ vs i = some (.ref a)

structure GX where
  prog : Program
  w : World
  hb : Heap
  mg : Str → Option Value
  mb : Str → Option Value
structure GX.Ok (G : GX) : Prop where
  g : G.hb.Ns mainGlobals G.mg
  b : G.hb.Ns builtinsNs G.mb
  nolim : G.hb.NoLimit

structure Cx where
  G : GX
  A : Around
  env : Env
  h0 : Heap
  names : List Str
  kinds : List (Str × NameKind)
  room : Nat

/-- what the frame itself may change -/
def Mut (c : Cx) (vs : Nat → Option Value) (σ : List Slot) : AS := fun a => a = c.env.locals ∨ (∃ x, c.env.cells.lookup x = some a) ∨ ∃ i, OwnAt vs σ i a
def Off (c : Cx) (X : AS) (vs : Nat → Option Value) (σ : List Slot) : AS := fun a => X a ∨ Mut c vs σ a

def SlotOk (h : Heap) (Y : AS) (ov : Option Value) : Slot → Prop
  | .un => True
  | .val d => ∃ v, ov = some v ∧ Rep h Y v d
  | .own xs => ∃ a items, ov = some (.ref a) ∧ IsLx h a items ∧ RepAll h Y items.toList xs

structure Cx.Ok (c : Cx) : Prop where
  g : c.G.Ok
  keepB : Keep c.G.hb c.h0
  kind : c.env.scope.kind = .function
  glob : c.env.globals = mainGlobals
  bui : c.env.builtins = builtinsNs
  hh : c.A.handled = none
  depth : c.A.depth + c.room < recursionLimit
  units : c.A.units + 8 * c.room + 100 < cLine
  names : c.names.Nodup
  kinds : ∀ x, c.env.kindOf x = c.kinds.lookup x
  cells : c.env.cells.Pairwise fun x y => x.2 ≠ y.2
  cellL : ∀ x a, c.env.cells.lookup x = some a → a ≠ c.env.locals

structure Inv (c : Cx) (X : AS) (h : Heap) (vs : Nat → Option Value) (σ : List Slot) : Prop where
  ok : c.Ok
  keep : Keep c.h0 h
  loc : ∃ m, h.Ns c.env.locals m ∧ ∀ i x, c.names[i]? = some x → c.env.kindOf x = some .local → m x = vs i
  cel : ∀ i x, c.names[i]? = some x → c.env.kindOf x = some .cell → ∃ a, c.env.cells.lookup x = some a ∧ h.IsCell a (vs i)
  slot : ∀ i sl, σ[i]? = some sl → SlotOk h (Off c X vs σ) (vs i) sl
  own1 : ∀ i j a, OwnAt vs σ i a → OwnAt vs σ j a → i = j
  ownC : ∀ i a, OwnAt vs σ i a → a ≠ c.env.locals ∧ ∀ x, c.env.cells.lookup x ≠ some a
  sep : ∀ a, Mut c vs σ a → ¬ X a ∧ c.h0.get? a = none
  alive : ∀ a, Off c X vs σ a → ∃ o, h.get? a = some o ∧ NT o

theorem SlotOk.kept {h h' : Heap} {Y : AS} {ov : Option Value} : ∀ {sl : Slot}, SlotOk h Y ov sl → (∀ b o, h.get? b = some o → ¬ Y b ∨ ¬ NT o → h'.get? b = some o) →
    (∀ xs, sl = .own xs → ∀ a, ov = some (.ref a) → ∀ o, h.get? a = some o → h'.get? a = some o) → SlotOk h' Y ov sl
  | .un, _, _, _ => trivial
  | .val _, ⟨v, e, r⟩, hk, _ => ⟨v, e, r.kept hk⟩
  | .own xs, ⟨a, items, e, ⟨n, hl⟩, r⟩, hk, ho => ⟨a, items, e, ⟨n, ho xs rfl a e _ hl⟩, r.kept hk⟩

/-- the heap changes, but nowhere at what the frame holds -/
theorem Inv.changeTo {c : Cx} {X X' : AS} {h h' : Heap} {vs : Nat → Option Value} {σ : List Slot} (I : Inv c X' h vs σ) (hXX : ∀ a, X a → X' a) (h0 : Keep c.h0 h')
    (hk : ∀ b o, h.get? b = some o → ¬ Off c X' vs σ b ∨ ¬ NT o ∨ Mut c vs σ b → h'.get? b = some o)
    (hX : ∀ a, X a → ∃ o, h'.get? a = some o ∧ NT o) : Inv c X h' vs σ := by
  have hk' : ∀ b o, h.get? b = some o → ¬ Off c X' vs σ b ∨ ¬ NT o → h'.get? b = some o := fun b o e k => hk b o e (k.imp id .inl)
  have hm : ∀ b o, h.get? b = some o → Mut c vs σ b → h'.get? b = some o := fun b o e k => hk b o e (.inr (.inr k))
  have hoff : ∀ a, Off c X vs σ a → Off c X' vs σ a := fun a k => k.imp (hXX a) id
  refine ⟨I.ok, h0, ?_, ?_, ?_, I.own1, I.ownC, fun a m => ⟨fun x => (I.sep a m).1 (hXX a x), (I.sep a m).2⟩, ?_⟩
  · obtain ⟨m, hn, r⟩ := I.loc
    exact ⟨m, hn.at' fun o e => hm _ o e (.inl rfl), r⟩
  · intro i x e1 e2
    obtain ⟨a, e3, o, e4, e5⟩ := I.cel i x e1 e2
    exact ⟨a, e3, o, hm a o e4 (.inr (.inl ⟨x, e3⟩)), e5⟩
  · intro i sl e
    have := (I.slot i sl e).kept hk' fun xs e1 a e2 o e3 => hm a o e3 (.inr (.inr ⟨i, ⟨xs, e1 ▸ e⟩, e2⟩))
    cases sl with
    | un => trivial
    | val d => obtain ⟨v, e, r⟩ := this; exact ⟨v, e, r.weak fun b y => .inl (hoff b y)⟩
    | own ys => obtain ⟨b, items, e, l, r⟩ := this; exact ⟨b, items, e, l, r.weak fun b y => .inl (hoff b y)⟩
  · intro a k
    rcases k with k | k
    · exact hX a k
    · obtain ⟨o, e, n⟩ := I.alive a (.inr k)
      exact ⟨o, hm a o e k, n⟩
theorem Inv.change {c : Cx} {X : AS} {h h' : Heap} {vs : Nat → Option Value} {σ : List Slot} (I : Inv c X h vs σ) (h0 : Keep c.h0 h')
    (hk : ∀ b o, h.get? b = some o → ¬ Off c X vs σ b ∨ ¬ NT o ∨ Mut c vs σ b → h'.get? b = some o)
    (hX : ∀ a, X a → ∃ o, h'.get? a = some o ∧ NT o) : Inv c X h' vs σ := I.changeTo (fun _ x => x) h0 hk hX
theorem Inv.grow {c : Cx} {X : AS} {h h' : Heap} {vs : Nat → Option Value} {σ : List Slot} (I : Inv c X h vs σ) (k : Keep h h') : Inv c X h' vs σ :=
  I.change (I.keep.trans k) (fun b o e _ => k b o e) fun a x => let ⟨o, e, n⟩ := I.alive a (.inl x); ⟨o, k a o e, n⟩

/-- an expression's value -/
structure EV (c : Cx) (σ : List Slot) (e : Expr) (d : D) : Prop where
  run : ∀ (s : Shared) (X : AS) (vs : Nat → Option Value) (R : Value → Shared → Prop) (E : Value → Shared → Prop), Inv c X s.heap vs σ →
    (∀ v h' tk', Keep s.heap h' → Rep h' (Off c X vs σ) v d → R v { s with heap := h', toks := tk' }) → wpAny (model c.G.prog c.G.w) c.A (eval e c.env) R E s

/-- a new list's -/
structure EVF (c : Cx) (σ : List Slot) (e : Expr) (xs : List D) : Prop where
  run : ∀ (s : Shared) (X : AS) (vs : Nat → Option Value) (R : Value → Shared → Prop) (E : Value → Shared → Prop), Inv c X s.heap vs σ →
    (∀ a items h' tk', Keep s.heap h' → s.heap.get? a = none → IsLx h' a items → RepAll h' (fun b => Off c X vs σ b ∨ b = a) items.toList xs → R (.ref a) { s with heap := h', toks := tk' }) → wpAny (model c.G.prog c.G.w) c.A (eval e c.env) R E s

/-- a test's -/
structure TS (c : Cx) (σ : List Slot) (e : Expr) (b : Bool) : Prop where
  run : ∀ (s : Shared) (X : AS) (vs : Nat → Option Value) (R : Bool → Shared → Prop) (E : Value → Shared → Prop), Inv c X s.heap vs σ →
    (∀ h' tk', Keep s.heap h' → R b { s with heap := h', toks := tk' }) → wpAny (model c.G.prog c.G.w) c.A (isTrue e c.env (eval e c.env)) R E s

inductive Out where
  | next (σ : List Slot)
  | cont (σ : List Slot)
  | brk (σ : List Slot)
  | ret (d : D)

/-- what a run of statements leaves -/
def OutOk (c : Cx) (X : AS) (h : Heap) (vs : Nat → Option Value) (σ : List Slot) (h' : Heap) : Out → Flow → Prop
  | .next σ', f => f = .next ∧ (∀ b o, ¬ Mut c vs σ b → h.get? b = some o → h'.get? b = some o) ∧ ∃ vs', Inv c X h' vs' σ' ∧ ∀ a, Mut c vs' σ' a → Mut c vs σ a ∨ h.get? a = none
  | .cont σ', f => f = .cont ∧ (∀ b o, ¬ Mut c vs σ b → h.get? b = some o → h'.get? b = some o) ∧ ∃ vs', Inv c X h' vs' σ' ∧ ∀ a, Mut c vs' σ' a → Mut c vs σ a ∨ h.get? a = none
  | .brk σ', f => f = .brk ∧ (∀ b o, ¬ Mut c vs σ b → h.get? b = some o → h'.get? b = some o) ∧ ∃ vs', Inv c X h' vs' σ' ∧ ∀ a, Mut c vs' σ' a → Mut c vs σ a ∨ h.get? a = none
  | .ret d, f => ∃ v, f = .ret v ∧ (∀ b o, ¬ Mut c vs σ b → h.get? b = some o → h'.get? b = some o) ∧ Rep h' X v d

structure WS (c : Cx) (σ : List Slot) (st : Stmt) (Q : Out → Prop) : Prop where
  run : ∀ (s : Shared) (X : AS) (vs : Nat → Option Value) (R : Flow → Shared → Prop) (E : Value → Shared → Prop), Inv c X s.heap vs σ →
    (∀ out f h' tk', Q out → OutOk c X s.heap vs σ h' out f → R f { s with heap := h', toks := tk' }) → wpAny (model c.G.prog c.G.w) c.A (exec st c.env) R E s
structure WP (c : Cx) (σ : List Slot) (ss : List Stmt) (Q : Out → Prop) : Prop where
  run : ∀ (s : Shared) (X : AS) (vs : Nat → Option Value) (R : Flow → Shared → Prop) (E : Value → Shared → Prop), Inv c X s.heap vs σ →
    (∀ out f h' tk', Q out → OutOk c X s.heap vs σ h' out f → R f { s with heap := h', toks := tk' }) → wpAny (model c.G.prog c.G.w) c.A (execs ss c.env) R E s

end Mine
end
section
namespace Mine
open PySem PySem.Calls

def upd (vs : Nat → Option Value) (i : Nat) (v : Value) : Nat → Option Value := fun j => if j = i then some v else vs j

inductive StoreRel (c : Cx) (x : Str) (v : Value) (h h' : Heap) : Prop
  | loc : c.env.kindOf x = some .local → Heap.SameBut c.env.locals h h' → (∃ m, h.Ns c.env.locals m ∧ h'.Ns c.env.locals (fun y => if y = x then some v else m y)) → StoreRel c x v h h'
  | cel (a : Addr) : c.env.kindOf x = some .cell → c.env.cells.lookup x = some a → Heap.SameBut a h h' → h'.IsCell a (some v) → StoreRel c x v h h'

theorem StoreRel.place {c : Cx} {x : Str} {v : Value} {h h' : Heap} (S : StoreRel c x v h h') : ∃ p, (p = c.env.locals ∨ ∃ x, c.env.cells.lookup x = some p) ∧ Heap.SameBut p h h' ∧ ∃ o, h'.get? p = some o ∧ NT o := by
  cases S with
  | loc k s e =>
    obtain ⟨m, _, o, es, ep, e1, e2, _⟩ := e
    exact ⟨_, .inl rfl, s, o, e1, fun _ vs n q => by rw [e2] at q; cases q⟩
  | cel a k l s e =>
    obtain ⟨o, e1, e2⟩ := e
    exact ⟨a, .inr ⟨x, l⟩, s, o, e1, fun _ vs n q => by rw [e2] at q; cases q⟩

theorem wp_store {c : Cx} {X : AS} {s : Shared} {vs : Nat → Option Value} {σ : List Slot} {i : Nat} {x : Str} {v : Value} {R : Unit → Shared → Prop} {E : Value → Shared → Prop} (I : Inv c X s.heap vs σ)
    (hi : c.names[i]? = some x) (hk : c.env.kindOf x = some .local ∨ c.env.kindOf x = some .cell)
    (k : ∀ h' tk', StoreRel c x v s.heap h' → R () { s with heap := h', toks := tk' }) : wpAny (model c.G.prog c.G.w) c.A (storeName c.env x v) R E s := by
  rcases hk with hk | hk
  · obtain ⟨m, hn, _⟩ := I.loc
    exact wpAny_storeName_local hk hn (fun h' hn' hs' => k h' _ (.loc hk hs' ⟨m, hn, hn'⟩)) (by rw [I.ok.kind]; rfl)
  · obtain ⟨a, e1, e2⟩ := I.cel i x hi hk
    exact wpAny_storeName_cell I.ok.kind hk e1 e2 fun h' hc hs => k h' _ (.cel a hk e1 hs hc)

theorem names_inj {c : Cx} (ok : c.Ok) {i j : Nat} {x : Str} (hi : c.names[i]? = some x) (hj : c.names[j]? = some x) : i = j := by
  obtain ⟨h1, e1⟩ := List.getElem?_eq_some_iff.mp hi
  obtain ⟨h2, e2⟩ := List.getElem?_eq_some_iff.mp hj
  exact (List.getElem_inj ok.names).mp (e1.trans e2.symm)

theorem lookup_inj {c : Cx} (ok : c.Ok) {x y : Str} {a : Addr} (hx : c.env.cells.lookup x = some a) (hy : c.env.cells.lookup y = some a) : x = y :=
  name_of_addr ok.cells (mem_of_lookup hx) (mem_of_lookup hy)

section
variable {c : Cx} {X X1 : AS} {h h' : Heap} {vs : Nat → Option Value} {σ : List Slot} {i : Nat} {x : Str} {v : Value} {sl : Slot}

theorem upd_self : upd vs i v i = some v := if_pos rfl
theorem upd_ne {j : Nat} (hj : j ≠ i) : upd vs i v j = vs j := if_neg hj

theorem own_upd {j : Nat} {a : Addr} (o : OwnAt (upd vs i v) (σ.set i sl) j a) : (j ≠ i ∧ OwnAt vs σ j a) ∨ (j = i ∧ (∃ xs, sl = .own xs) ∧ v = .ref a) := by
  obtain ⟨⟨xs, e⟩, e2⟩ := o
  by_cases hj : j = i
  · subst hj
    rw [upd_self] at e2
    refine .inr ⟨rfl, ?_, Option.some.inj e2⟩
    rw [List.getElem?_set] at e
    simp only [if_true] at e
    split at e
    · exact ⟨xs, Option.some.inj e⟩
    · cases e
  · rw [upd_ne hj] at e2
    rw [List.getElem?_set_ne (Ne.symm hj)] at e
    exact .inl ⟨hj, ⟨xs, e⟩, e2⟩

/-- a variable is given a new value; a new owned address, if any, was off limits before -/
theorem Inv.put (I : Inv c X1 h vs σ) (S : StoreRel c x v h h') (hi : c.names[i]? = some x) (hX : ∀ a, X a → X1 a)
    (hown : ∀ xs, sl = .own xs → ∀ a, v = .ref a → X1 a ∧ ¬ X a ∧ c.h0.get? a = none)
    (hsl : i < σ.length → SlotOk h (Off c X1 vs σ) (some v) sl) : Inv c X h' (upd vs i v) (σ.set i sl) := by
  obtain ⟨p, hp, sb, op, hop, hnt⟩ := S.place
  have hpm : Mut c vs σ p := hp.elim .inl fun q => .inr (.inl q)
  have hmut : ∀ a, Mut c (upd vs i v) (σ.set i sl) a → Mut c vs σ a ∨ (X1 a ∧ ¬ X a ∧ c.h0.get? a = none) := by
    rintro a (k | k | ⟨j, k⟩)
    · exact .inl (.inl k)
    · exact .inl (.inr (.inl k))
    · rcases own_upd k with ⟨_, k⟩ | ⟨_, ⟨xs, k1⟩, k2⟩
      · exact .inl (.inr (.inr ⟨j, k⟩))
      · exact .inr (hown xs k1 a k2)
  have hoff : ∀ a, Off c X (upd vs i v) (σ.set i sl) a → Off c X1 vs σ a := by
    rintro a (k | k)
    · exact .inl (hX a k)
    · exact (hmut a k).elim .inr fun k => .inl k.1
  have hkeep : ∀ b o, h.get? b = some o → b ≠ p → h'.get? b = some o := fun b o e n => (sb.2 b n).trans e
  have hkept : ∀ b o, h.get? b = some o → ¬ Off c X1 vs σ b ∨ ¬ NT o → h'.get? b = some o := fun b o e k => hkeep b o e fun q => by
    subst q
    rcases k with k | k
    · exact k (.inr hpm)
    · obtain ⟨o', e', n⟩ := I.alive b (.inr hpm)
      rw [e] at e'; cases e'; exact k n
  have up : ∀ {ov : Option Value} {sl' : Slot}, SlotOk h (Off c X1 vs σ) ov sl' → (∀ xs, sl' = .own xs → ∀ a, ov = some (.ref a) → a ≠ p) → SlotOk h' (Off c X (upd vs i v) (σ.set i sl)) ov sl' := by
    intro ov sl' hs hne
    have h1 := hs.kept hkept fun xs e1 a e2 o e3 => hkeep a o e3 (hne xs e1 a e2)
    cases sl' with
    | un => trivial
    | val d => obtain ⟨v, e, r⟩ := h1; exact ⟨v, e, r.weak fun a y => .inl (hoff a y)⟩
    | own xs => obtain ⟨a, items, e, l, r⟩ := h1; exact ⟨a, items, e, l, r.weak fun a y => .inl (hoff a y)⟩
  have fresh : ∀ b, Mut c vs σ b → c.h0.get? b = none := fun b m => (I.sep b m).2
  refine ⟨I.ok, fun b o e => hkeep b o (I.keep b o e) fun q => ?_, ?_, ?_, ?_, ?_, ?_, ?_, ?_⟩
  · subst q; rw [fresh b hpm] at e; cases e
  · obtain ⟨m, hn, hm⟩ := I.loc
    cases S with
    | loc k s e =>
      obtain ⟨m', hn', hn''⟩ := e
      refine ⟨_, hn'', fun j y hj hy => ?_⟩
      by_cases q : y = x
      · subst q
        rw [if_pos rfl, names_inj I.ok hj hi, upd_self]
      · rw [if_neg q]
        have : j ≠ i := fun w => q (by rw [w, hi] at hj; exact (Option.some.inj hj).symm)
        rw [upd_ne this, ← hm j y hj hy]
        obtain ⟨o1, es1, ep1, a1, a2, _, a4⟩ := hn
        obtain ⟨o2, es2, ep2, b1, b2, _, b4⟩ := hn'
        rw [a1] at b1; cases b1; rw [a2] at b2; cases b2
        rw [← a4, ← b4]
    | cel a k l s e =>
      refine ⟨m, hn.sameBut s (Ne.symm (I.ok.cellL _ _ l)), fun j y hj hy => ?_⟩
      have : j ≠ i := fun w => by rw [w, hi] at hj; cases hj; rw [k] at hy; cases hy
      rw [upd_ne this]; exact hm j y hj hy
  · intro j y hj hy
    obtain ⟨a, e1, e2⟩ := I.cel j y hj hy
    refine ⟨a, e1, ?_⟩
    cases S with
    | loc k s e =>
      have : j ≠ i := fun w => by rw [w, hi] at hj; cases hj; rw [k] at hy; cases hy
      rw [upd_ne this]
      obtain ⟨o, e3, e4⟩ := e2
      exact ⟨o, (s.2 a (I.ok.cellL _ _ e1)).trans e3, e4⟩
    | cel b k l s e =>
      by_cases q : y = x
      · subst q
        rw [l] at e1; cases e1
        rw [names_inj I.ok hj hi, upd_self]; exact e
      · have : j ≠ i := fun w => q (by rw [w, hi] at hj; exact (Option.some.inj hj).symm)
        rw [upd_ne this]
        obtain ⟨o, e3, e4⟩ := e2
        exact ⟨o, (s.2 a fun w => q (lookup_inj I.ok (w ▸ e1) l)).trans e3, e4⟩
  · intro j sl' hj
    by_cases q : j = i
    · subst q
      rw [List.getElem?_set] at hj
      simp only [if_true] at hj
      split at hj
      · rename_i hlt
        cases hj
        rw [upd_self]
        refine up (hsl hlt) fun xs e1 a e2 => ?_
        intro w; subst w
        exact (I.sep _ hpm).1 (hown xs e1 _ (Option.some.inj e2)).1
      · cases hj
    · rw [List.getElem?_set_ne (Ne.symm q)] at hj
      rw [upd_ne q]
      refine up (I.slot j sl' hj) fun xs e1 a e2 w => ?_
      subst w
      obtain ⟨n1, n2⟩ := I.ownC j _ ⟨⟨xs, e1 ▸ hj⟩, e2⟩
      exact hp.elim n1 fun ⟨y, q⟩ => n2 y q
  · intro j k a hj hk
    rcases own_upd hj with ⟨j1, hj'⟩ | ⟨q1, ⟨xs, j1⟩, j2⟩ <;> rcases own_upd hk with ⟨k1, hk'⟩ | ⟨q2, ⟨ys, k1⟩, k2⟩
    · exact I.own1 j k a hj' hk'
    · exact absurd (hown ys k1 a k2).1 (I.sep a (.inr (.inr ⟨j, hj'⟩))).1
    · exact absurd (hown xs j1 a j2).1 (I.sep a (.inr (.inr ⟨k, hk'⟩))).1
    · exact q1.trans q2.symm
  · intro j a hj
    rcases own_upd hj with ⟨_, hj⟩ | ⟨rfl, ⟨xs, j1⟩, j2⟩
    · exact I.ownC j a hj
    · have q := (hown xs j1 a j2).1
      exact ⟨fun w => (I.sep a (.inl w)).1 q, fun y w => (I.sep a (.inr (.inl ⟨y, w⟩))).1 q⟩
  · intro a k
    rcases hmut a k with k | k
    · exact ⟨fun q => (I.sep a k).1 (hX a q), (I.sep a k).2⟩
    · exact ⟨k.2.1, k.2.2⟩
  · intro a k
    by_cases q : a = p
    · subst q; exact ⟨op, hop, hnt⟩
    · obtain ⟨o, e, n⟩ := I.alive a (hoff a k)
      exact ⟨o, hkeep a o e q, n⟩

theorem mut_put (hown : ∀ xs, sl = .own xs → ∀ a, v = .ref a → h.get? a = none) {a : Addr} (k : Mut c (upd vs i v) (σ.set i sl) a) : Mut c vs σ a ∨ h.get? a = none := by
  rcases k with k | k | ⟨j, k⟩
  · exact .inl (.inl k)
  · exact .inl (.inr (.inl k))
  · rcases own_upd k with ⟨_, k⟩ | ⟨_, ⟨xs, k1⟩, k2⟩
    · exact .inl (.inr (.inr ⟨j, k⟩))
    · exact .inr (hown xs k1 a k2)

theorem StoreRel.keeps (S : StoreRel c x v h h') : ∀ b o, ¬ Mut c vs σ b → h.get? b = some o → h'.get? b = some o := by
  obtain ⟨p, hp, sb, _⟩ := S.place
  intro b o n e
  exact (sb.2 b fun q => n (by subst q; exact hp.elim .inl fun q => .inr (.inl q))).trans e

/-- a new address is put off limits -/
theorem Inv.guard {a : Addr} (I : Inv c X h vs σ) (k : Keep h h') (hn : h.get? a = none) (ha : ∃ o, h'.get? a = some o ∧ NT o) : Inv c (fun b => X b ∨ b = a) h' vs σ := by
  have I' := I.grow k
  have hm : ∀ b, Mut c vs σ b → b ≠ a := fun b m q => by
    subst q; obtain ⟨o, e, _⟩ := I.alive b (.inr m); rw [hn] at e; cases e
  refine ⟨I.ok, I'.keep, I'.loc, I'.cel, fun i sl e => ?_, I.own1, I.ownC, fun b m => ⟨fun q => q.elim (I.sep b m).1 (hm b m), (I.sep b m).2⟩, ?_⟩
  · have := I.slot i sl e
    have hY : ∀ b, Off c (fun b => X b ∨ b = a) vs σ b → Off c X vs σ b ∨ h.get? b = none := by
      rintro b ((k | rfl) | k)
      · exact .inl (.inl k)
      · exact .inr hn
      · exact .inl (.inr k)
    cases sl with
    | un => trivial
    | val d => obtain ⟨v, e, r⟩ := this; exact ⟨v, e, (r.weak hY).keep k⟩
    | own xs => obtain ⟨b, items, e, ⟨n, l⟩, r⟩ := this; exact ⟨b, items, e, ⟨n, k _ _ l⟩, (r.weak hY).keep k⟩
  · rintro b ((q | rfl) | q)
    · exact I'.alive b (.inl q)
    · exact ha
    · exact I'.alive b (.inr q)
end
end Mine
end
section
namespace Mine
open PySem PySem.Calls

section
variable {c : Cx} {σ : List Slot}

theorem EV.int {i : Int} {k : Nat} {p : Pos} : EV c σ (.Constant (.int i) k p) (.int i) :=
  ⟨fun _ _ _ _ _ _ q => wpAny_Constant_int (q _ _ _ (Keep.refl _) Rep.int)⟩
theorem EV.bool {b : Bool} {k : Nat} {p : Pos} : EV c σ (.Constant (.bool b) k p) (.bool b) :=
  ⟨fun s _ _ _ _ _ q => wpAny_Constant_bool (q _ s.heap s.toks (Keep.refl _) Rep.bool)⟩
theorem EV.str {x : Str} {k : Nat} {p : Pos} : EV c σ (.Constant (.str x) k p) (.str x) :=
  ⟨fun _ _ _ _ _ _ q => wpAny_Constant_str (q _ _ _ (Keep.refl _) Rep.str)⟩

/-- a variable's place -/
def slotOf : List Str → Str → Option Nat
  | [], _ => none
  | y :: r, x => if y = x then some 0 else (slotOf r x).map (· + 1)
theorem slotOf_get : ∀ {l : List Str} {x : Str} {i : Nat}, slotOf l x = some i → l[i]? = some x
  | y :: r, x, i, e => by
    unfold slotOf at e
    split at e
    · rename_i q; cases e; rw [q]; rfl
    · cases q : slotOf r x with
      | none => rw [q] at e; cases e
      | some j => rw [q] at e; cases e; simpa using slotOf_get q

theorem wp_load {X : AS} {s : Shared} {vs : Nat → Option Value} {i : Nat} {x : Str} {p : Pos} {v : Value} {R : Value → Shared → Prop} {E : Value → Shared → Prop} (I : Inv c X s.heap vs σ)
    (hi : c.names[i]? = some x) (hk : c.env.kindOf x = some .local ∨ c.env.kindOf x = some .cell) (hd : (x == ("__debug__" : Str)) = false) (hv : vs i = some v) (q : R v s) :
    wpAny (model c.G.prog c.G.w) c.A (eval (.Name x p) c.env) R E s := by
  refine wpAny_Name ?_ hd
  rcases hk with hk | hk
  · obtain ⟨m, hn, hm⟩ := I.loc
    exact wpAny_loadName_local I.ok.kind hk hn ((hm i x hi hk).trans hv) q
  · obtain ⟨a, e1, e2⟩ := I.cel i x hi hk
    exact wpAny_loadName_cell I.ok.kind hk e1 (hv ▸ e2) q

def isVar (c : Cx) (x : Str) : Bool := (c.kinds.lookup x == some .local || c.kinds.lookup x == some .cell) && !(x == ("__debug__" : Str))
theorem isVar.kind {x : Str} (ok : c.Ok) (h : isVar c x = true) : (c.env.kindOf x = some .local ∨ c.env.kindOf x = some .cell) ∧ (x == ("__debug__" : Str)) = false := by
  rw [ok.kinds]; simpa [isVar] using h

theorem EV.var {x : Str} {p : Pos} {i : Nat} {d : D} (hi : slotOf c.names x = some i) (hk : isVar c x = true) (hd : σ[i]? = some (.val d)) : EV c σ (.Name x p) d := by
  constructor; intro s X vs R E I q
  obtain ⟨v, e, r⟩ := I.slot i _ hd
  exact wp_load I (slotOf_get hi) (isVar.kind I.ok hk).1 (isVar.kind I.ok hk).2 e (q v s.heap s.toks (Keep.refl _) r)

/-- a name of the module: a constant -/
theorem EV.glob {x : Str} {p : Pos} {d : D} {v : Value} (hk : c.kinds.lookup x = some .globalImplicit) (hd : (x == ("__debug__" : Str)) = false) (hg : c.G.mg x = some v) (hr : ∀ h, Keep c.G.hb h → Reads h v d []) : EV c σ (.Name x p) d := by
  constructor; intro s X vs R E I q
  refine Name_function_global I.ok.kind ((I.ok.kinds x).trans hk) (loadGlobal_global (env := c.env) ?_ hg (q v s.heap s.toks (Keep.refl _) ⟨[], hr _ (I.ok.keepB.trans I.keep), fun _ m => nomatch m⟩)) hd
  rw [I.ok.glob]
  exact (I.ok.g.g.keeps I.ok.keepB).keeps I.keep

section
variable {l r : Expr} {p : Pos} {a b : Int}
/-- two operands, then the operation -/
theorem EV.bin2 {op : Operator} {da db d : D} (hl : EV c σ l da) (hr : EV c σ r db)
    (h : ∀ (s : Shared) (X : AS) (vs : Nat → Option Value) (u v : Value) (R : Value → Shared → Prop) (E : Value → Shared → Prop), Inv c X s.heap vs σ → Rep s.heap (Off c X vs σ) u da → Rep s.heap (Off c X vs σ) v db →
      (∀ v h' tk', Keep s.heap h' → Rep h' (Off c X vs σ) v d → R v { s with heap := h', toks := tk' }) → wpAny (model c.G.prog c.G.w) c.A (binaryOp op u v) R E s) : EV c σ (.BinOp l op r p) d := by
  constructor; intro s X vs R E I q
  refine wpAny_BinOp (hl.run s X vs _ _ I fun u h1 t1 k1 r1 => hr.run _ X vs _ _ (I.grow k1) fun v h2 t2 k2 r2 => ?_)
  exact h _ X vs u v _ _ ((I.grow k1).grow k2) (r1.keep k2) r2 fun v h' tk' k r => q v h' tk' (k1.trans (k2.trans k)) r

theorem EV.add (hl : EV c σ l (.int a)) (hr : EV c σ r (.int b)) : EV c σ (.BinOp l .Add r p) (.int (a + b)) :=
  EV.bin2 hl hr fun s X vs u v R E I ru rv q => by
    obtain ⟨_, rfl⟩ := ru.int_inv; obtain ⟨_, rfl⟩ := rv.int_inv
    exact PyProof.Rows.add_int (q _ _ _ (Keep.refl _) Rep.int)
theorem EV.sub (hl : EV c σ l (.int a)) (hr : EV c σ r (.int b)) : EV c σ (.BinOp l .Sub r p) (.int (a - b)) :=
  EV.bin2 hl hr fun s X vs u v R E I ru rv q => by
    obtain ⟨_, rfl⟩ := ru.int_inv; obtain ⟨_, rfl⟩ := rv.int_inv
    exact PyProof.Rows.sub_int (q _ _ _ (Keep.refl _) Rep.int)
theorem intBits_small {a : Int} (h : a.natAbs < 2 ^ 64) : Builtin.Int.intBits a ≤ 64 := by
  unfold Builtin.Int.intBits
  split
  · omega
  · rename_i hz
    have h0 : a.natAbs ≠ 0 := by simpa using hz
    have := (Nat.log2_lt h0).mpr h
    omega
theorem EV.mul (hl : EV c σ l (.int a)) (hr : EV c σ r (.int b)) (hs : a.natAbs < 2 ^ 64 ∨ b.natAbs < 2 ^ 64) : EV c σ (.BinOp l .Mult r p) (.int (a * b)) :=
  EV.bin2 hl hr fun s X vs u v R E I ru rv q => by
    obtain ⟨_, rfl⟩ := ru.int_inv; obtain ⟨_, rfl⟩ := rv.int_inv
    exact PyProof.Rows.mul_int (q _ _ _ (Keep.refl _) Rep.int) (hs.elim (fun h => .of_left (intBits_small h)) fun h => .of_right (intBits_small h))
theorem EV.mod (hl : EV c σ l (.int a)) (hr : EV c σ r (.int b)) (hb : b ≠ 0) : EV c σ (.BinOp l .Mod r p) (.int (a.fmod b)) :=
  EV.bin2 hl hr fun s X vs u v R E I ru rv q => by
    obtain ⟨_, rfl⟩ := ru.int_inv; obtain ⟨_, rfl⟩ := rv.int_inv
    exact PyProof.Rows.mod_int' hb (q _ _ _ (Keep.refl _) Rep.int)
theorem EV.fdiv (hl : EV c σ l (.int a)) (hr : EV c σ r (.int b)) (hb : b ≠ 0) (hs : b.natAbs < 1073741824) : EV c σ (.BinOp l .FloorDiv r p) (.int (a.fdiv b)) :=
  EV.bin2 hl hr fun s X vs u v R E I ru rv q => by
    obtain ⟨_, rfl⟩ := ru.int_inv; obtain ⟨_, rfl⟩ := rv.int_inv
    exact PyProof.Rows.floordiv_int hb (q _ _ _ (Keep.refl _) Rep.int) (.inl (PyProof.noPylong_small hs))
end

/-- arguments -/
structure EVs (c : Cx) (σ : List Slot) (es : List Expr) (ds : List D) : Prop where
  run : ∀ (s : Shared) (X : AS) (vs : Nat → Option Value) (R : List Value → Shared → Prop) (E : Value → Shared → Prop) (pos : Pos), Inv c X s.heap vs σ →
    (∀ us h' tk', Keep s.heap h' → RepAll h' (Off c X vs σ) us ds → R us { s with heap := h', toks := tk' }) → wpAny (model c.G.prog c.G.w) c.A (spliced (backTo pos (starEach es c.env))) R E s
def noStar : Expr → Bool
  | .Starred .. => false
  | _ => true
theorem starEach_of {e : Expr} {rest : List Expr} {env : Env} (h : noStar e = true) : starEach (e :: rest) env = (false, eval e env) :: starEach rest env := by
  cases e <;> first | rfl | cases h
theorem EVs.nil : EVs c σ [] [] := ⟨fun s _ _ _ _ _ _ q => wpAny_items_nil (q [] s.heap s.toks (Keep.refl _) RepAll.nil)⟩
theorem EVs.cons {e : Expr} {es : List Expr} {d : D} {ds : List D} (he : EV c σ e d) (hs : EVs c σ es ds) (hn : noStar e = true) : EVs c σ (e :: es) (d :: ds) := by
  constructor; intro s X vs R E pos I q
  refine wpAny_items_cons (he.run s X vs _ _ I fun v h1 t1 k1 r1 => hs.run _ X vs _ _ pos (I.grow k1) fun us h2 t2 k2 r2 => ?_) (starEach_of hn)
  exact q _ h2 t2 (k1.trans k2) (RepAll.cons (r1.keep k2) r2)

theorem EVs.one {e : Expr} {d : D} (he : EV c σ e d) (hn : noStar e = true) : EVs c σ [e] [d] := EVs.cons he EVs.nil hn
theorem EVs.two {e e' : Expr} {d d' : D} (he : EV c σ e d) (he' : EV c σ e' d') (hn : noStar e = true) (hn' : noStar e' = true) : EVs c σ [e, e'] [d, d'] := EVs.cons he (EVs.one he' hn') hn

theorem noStar_any {pos : Pos} {env : Env} : ∀ {es : List Expr}, es.all noStar = true → (backTo pos (starEach es env)).any (·.1) = false
  | [], _ => rfl
  | e :: es, h => by
    simp only [List.all_cons, Bool.and_eq_true] at h
    rw [starEach_of h.1]
    show (false || (backTo pos (starEach es env)).any (·.1)) = false
    rw [noStar_any h.2]; rfl

/-- a call's arguments, and behind them the call -/
theorem wp_args {pos : Pos} {f : Value} {e : Expr} {es : List Expr} {s : Shared} {R : Args → Shared → Prop} {E : Value → Shared → Prop} (hn : noStar e = true)
    (h : wpAny (model c.G.prog c.G.w) c.A (spliced (backTo pos (starEach (e :: es) c.env))) (fun vs s' => R ⟨vs, []⟩ s') E s) :
    wpAny (model c.G.prog c.G.w) c.A (evalArgs f true (backTo pos (starEach (e :: es) c.env)) []) R E s := by
  rw [starEach_of hn] at h ⊢
  exact evalArgs_plain h

/-- a built-in function of the module's builtins -/
structure BI (G : GX) (f : Str) (v : Value) : Prop where
  miss : G.mg f = none
  is : G.mb f = some v
structure isBui (c : Cx) (f : Str) (v : Value) : Prop where
  kind : c.kinds.lookup f = some .globalImplicit
  deb : (f == ("__debug__" : Str)) = false
  bi : BI c.G f v
theorem isBui.load {X : AS} {s : Shared} {vs : Nat → Option Value} {f : Str} {v : Value} {p : Pos} {R : Value → Shared → Prop} {E : Value → Shared → Prop} (B : isBui c f v) (I : Inv c X s.heap vs σ) (q : R v s) :
    wpAny (model c.G.prog c.G.w) c.A (eval (.Name f p) c.env) R E s := by
  refine Name_function_global I.ok.kind ((I.ok.kinds f).trans B.kind) (loadGlobal_builtin (env := c.env) ?_ B.bi.miss ?_ B.bi.is q) B.deb
  · rw [I.ok.glob]; exact (I.ok.g.g.keeps I.ok.keepB).keeps I.keep
  · rw [I.ok.bui]; exact (I.ok.g.b.keeps I.ok.keepB).keeps I.keep

theorem EV.bui {f : Str} {id : String} {p pos : Pos} {e : Expr} {es : List Expr} {ds : List D} {d : D} (B : isBui c f (.builtin id)) (hs : EVs c σ (e :: es) ds) (hn : (e :: es).all noStar = true)
    (h : ∀ (s : Shared) (X : AS) (vs : Nat → Option Value) (us : List Value) (R : Value → Shared → Prop) (E : Value → Shared → Prop), Inv c X s.heap vs σ → RepAll s.heap (Off c X vs σ) us ds →
      (∀ v h' tk', Keep s.heap h' → Rep h' (Off c X vs σ) v d → R v { s with heap := h', toks := tk' }) → wpAny (model c.G.prog c.G.w) c.A (call (.builtin id) us) R E s) : EV c σ (.Call (.Name f p) (e :: es) [] pos) d := by
  constructor; intro s X vs R E I q
  refine wpAny_Call_NameR (B.load I ?_)
  refine callWith_builtin (noStar_any hn) (wp_args (by simp only [List.all_cons, Bool.and_eq_true] at hn; exact hn.1) (hs.run s X vs _ _ pos I fun us h1 t1 k1 r1 => ?_))
  exact h _ X vs us _ _ (I.grow k1) r1 fun v h' tk' k r => q v h' tk' (k1.trans k) r

theorem EV.len {p pos : Pos} {e : Expr} {xs : List D} (B : isBui c (PySem.Str.ofString "len") (.builtin "len")) (he : EV c σ e (.list xs)) (hn : noStar e = true) (hz : xs.length < 2 ^ 62) :
    EV c σ (.Call (.Name (PySem.Str.ofString "len") p) [e] [] pos) (.int xs.length) :=
  EV.bui B (EVs.one he hn) (by simp [hn]) fun s X vs us R E I ru q => by
    obtain ⟨u, _, rfl, ru', rn⟩ := ru.cons_inv
    cases rn.nil_inv
    obtain ⟨a, items, rfl, hl, _, ri⟩ := ru'.list_inv
    have hz' : items.size = xs.length := by rw [← ri.length]; simp
    exact call_len_list hl.isList (by omega) (by rw [hz']; exact q _ _ _ (Keep.refl _) Rep.int)

theorem EV.min {p pos : Pos} {e e' : Expr} {a b : Int} (B : isBui c (PySem.Str.ofString "min") (.builtin "min")) (he : EV c σ e (.int a)) (he' : EV c σ e' (.int b)) (hn : noStar e = true) (hn' : noStar e' = true) :
    EV c σ (.Call (.Name (PySem.Str.ofString "min") p) [e, e'] [] pos) (.int (min a b)) :=
  EV.bui B (EVs.two he he' hn hn') (by simp [hn, hn']) fun s X vs us R E I ru q => by
    obtain ⟨u, _, rfl, ru', rn⟩ := ru.cons_inv
    obtain ⟨v, _, rfl, rv, rn'⟩ := rn.cons_inv
    cases rn'.nil_inv
    obtain ⟨_, rfl⟩ := ru'.int_inv; obtain ⟨_, rfl⟩ := rv.int_inv
    refine min_two_ints I.ok.hh fun h' tk k => ?_
    by_cases hc : b < a
    · rw [if_pos hc]; rw [show Min.min a b = b by omega] at q; exact q _ _ _ k Rep.int
    · rw [if_neg hc]; rw [show Min.min a b = a by omega] at q; exact q _ _ _ k Rep.int
theorem EV.max {p pos : Pos} {e e' : Expr} {a b : Int} (B : isBui c (PySem.Str.ofString "max") (.builtin "max")) (he : EV c σ e (.int a)) (he' : EV c σ e' (.int b)) (hn : noStar e = true) (hn' : noStar e' = true) :
    EV c σ (.Call (.Name (PySem.Str.ofString "max") p) [e, e'] [] pos) (.int (max a b)) :=
  EV.bui B (EVs.two he he' hn hn') (by simp [hn, hn']) fun s X vs us R E I ru q => by
    obtain ⟨u, _, rfl, ru', rn⟩ := ru.cons_inv
    obtain ⟨v, _, rfl, rv, rn'⟩ := rn.cons_inv
    cases rn'.nil_inv
    obtain ⟨_, rfl⟩ := ru'.int_inv; obtain ⟨_, rfl⟩ := rv.int_inv
    refine max_two_ints I.ok.hh fun h' tk k => ?_
    by_cases hc : b > a
    · rw [if_pos hc]; rw [show Max.max a b = b by omega] at q; exact q _ _ _ k Rep.int
    · rw [if_neg hc]; rw [show Max.max a b = a by omega] at q; exact q _ _ _ k Rep.int
theorem EV.abs {p pos : Pos} {e : Expr} {a : Int} (B : isBui c (PySem.Str.ofString "abs") (.builtin "abs")) (he : EV c σ e (.int a)) (hn : noStar e = true) :
    EV c σ (.Call (.Name (PySem.Str.ofString "abs") p) [e] [] pos) (.int (if a < 0 then -a else a)) :=
  EV.bui B (EVs.one he hn) (by simp [hn]) fun s X vs us R E I ru q => by
    obtain ⟨u, _, rfl, ru', rn⟩ := ru.cons_inv
    cases rn.nil_inv
    obtain ⟨_, rfl⟩ := ru'.int_inv
    exact PyProof.Rows.call_abs_int fun u tk => q _ s.heap tk (Keep.refl _) Rep.int
theorem EV.neg {e : Expr} {p : Pos} {a : Int} (he : EV c σ e (.int a)) : EV c σ (.UnaryOp .USub e p) (.int (-a)) := by
  constructor; intro s X vs R E I q
  refine wpAny_UnaryOp (he.run s X vs _ _ I fun u h1 t1 k1 r1 => ?_)
  obtain ⟨_, rfl⟩ := r1.int_inv
  exact PyProof.Rows.neg_int (q _ _ _ k1 Rep.int)

/-- displays -/
theorem EV.tuple {es : List Expr} {ds : List D} {k : Nat} {p : Pos} (hs : EVs c σ es ds) (hz : ds.length ≤ 2 ^ 20) : EV c σ (.Tuple es k p) (.tuple ds) := by
  constructor; intro s X vs R E I q
  refine wpAny_Tuple (hs.run s X vs _ _ p I fun us h1 t1 k1 r1 => ⟨?_, ?_⟩)
  · rw [r1.length]; exact Nat.le_trans hz (by decide)
  · exact q _ _ _ (k1.trans (Keep.push _ _)) (Rep.tuple (Heap.get?_push_size _ rfl) rfl rfl (by simpa using r1.keep (Keep.push _ _)))
theorem off_fresh {X : AS} {h : Heap} {vs : Nat → Option Value} (I : Inv c X h vs σ) {a : Addr} (ha : h.get? a = none) : ¬ Off c X vs σ a := fun k => by
  obtain ⟨o, e, _⟩ := I.alive a k; rw [ha] at e; cases e
theorem size_none (h : Heap) : h.get? h.objs.size = none := Heap.get?_none_of_le (Nat.le_refl _)
theorem none_of_keep {h h' : Heap} (k : Keep h h') {a : Addr} (e : h'.get? a = none) : h.get? a = none := by
  cases q : h.get? a with
  | none => rfl
  | some o => rw [k a o q] at e; cases e
/-- a new list is a value -/
theorem EVF.ev {e : Expr} {xs : List D} (h : EVF c σ e xs) : EV c σ e (.list xs) := by
  constructor; intro s X vs R E I q
  refine h.run s X vs _ _ I fun a items h' tk' k e l r => q _ _ _ k (Rep.list l ?_ (r.weak fun b y => .inl (.inl y)))
  exact off_fresh I e
/-- a list just made -/
theorem newF {s₀ : Shared} {X : AS} {vs : Nat → Option Value} {us : List Value} {ds : List D} {R : Value → Shared → Prop} (q : ∀ a items h' tk', Keep s₀.heap h' → s₀.heap.get? a = none → IsLx h' a items → RepAll h' (fun b => Off c X vs σ b ∨ b = a) items.toList ds → R (.ref a) { s₀ with heap := h', toks := tk' })
    {h1 : Heap} {t1 : Nat} (k1 : Keep s₀.heap h1) (r1 : RepAll h1 (Off c X vs σ) us ds) : R (.ref h1.objs.size) { s₀ with heap := h1.push { cls := .type "list", data := .seq us.toArray }, toks := t1 } := by
  refine q _ us.toArray _ _ (k1.trans (Keep.push _ _)) (none_of_keep k1 (size_none _)) ⟨0, Heap.get?_push_size _ rfl⟩ ?_
  refine RepAll.keep (h := h1) ?_ (Keep.push _ _)
  refine RepAll.weak (by simpa using r1) fun b y => ?_
  rcases y with y | rfl
  · exact .inl y
  · exact .inr (size_none _)
theorem EVF.list {es : List Expr} {ds : List D} {p : Pos} (hs : EVs c σ es ds) (hz : ds.length ≤ 2 ^ 20) : EVF c σ (.List es p) ds := by
  constructor; intro s X vs R E I q
  refine wpAny_List (hs.run s X vs _ _ p I fun us h1 t1 k1 r1 => ⟨?_, ?_⟩)
  · rw [r1.length]; exact Nat.le_trans hz (by decide)
  · exact newF q k1 r1

/-- tests -/
def noSet : Expr → Bool
  | .Set .. => false
  | _ => true
theorem marks_of {op : CmpOp} {r : Expr} (h : noSet r = true) : behindInMarks op r = false := by
  cases r <;> first | rfl | cases h
theorem TS.cmp {op : CmpOp} {l r : Expr} {p : Pos} {da db : D} {b : Bool} (hl : EV c σ l da) (hr : EV c σ r db) (hn : noSet r = true)
    (h : ∀ (s : Shared) (X : AS) (vs : Nat → Option Value) (u v : Value) (R : Value → Shared → Prop) (E : Value → Shared → Prop), Inv c X s.heap vs σ → Rep s.heap (Off c X vs σ) u da → Rep s.heap (Off c X vs σ) v db →
      R (.bool b) s → wpAny (model c.G.prog c.G.w) c.A (compareOp op u v) R E s) : TS c σ (.Compare l [op] [r] p) b := by
  constructor; intro s X vs R E I q
  refine wpAny_isTrue_Compare1 (hl.run s X vs _ _ I fun u h1 t1 k1 r1 => hr.run _ X vs _ _ (I.grow k1) fun v h2 t2 k2 r2 => ?_) (marks_of hn)
  exact h _ X vs u v _ _ ((I.grow k1).grow k2) (r1.keep k2) r2 (wpAny_truthy_bool (q h2 t2 (k1.trans k2)))
section
variable {l r : Expr} {p : Pos} {a b : Int}
theorem TS.lt (hl : EV c σ l (.int a)) (hr : EV c σ r (.int b)) (hn : noSet r = true) : TS c σ (.Compare l [.Lt] [r] p) (decide (a < b)) :=
  TS.cmp hl hr hn fun s X vs u v R E I ru rv q => by
    obtain ⟨_, rfl⟩ := ru.int_inv; obtain ⟨_, rfl⟩ := rv.int_inv
    exact PyProof.Rows.lt_int q
theorem TS.gt (hl : EV c σ l (.int a)) (hr : EV c σ r (.int b)) (hn : noSet r = true) : TS c σ (.Compare l [.Gt] [r] p) (decide (b < a)) :=
  TS.cmp hl hr hn fun s X vs u v R E I ru rv q => by
    obtain ⟨_, rfl⟩ := ru.int_inv; obtain ⟨_, rfl⟩ := rv.int_inv
    exact PyProof.Rows.gt_int q
theorem TS.le (hl : EV c σ l (.int a)) (hr : EV c σ r (.int b)) (hn : noSet r = true) : TS c σ (.Compare l [.LtE] [r] p) (decide (a ≤ b)) :=
  TS.cmp hl hr hn fun s X vs u v R E I ru rv q => by
    obtain ⟨_, rfl⟩ := ru.int_inv; obtain ⟨_, rfl⟩ := rv.int_inv
    exact P.le_int q
theorem TS.ge (hl : EV c σ l (.int a)) (hr : EV c σ r (.int b)) (hn : noSet r = true) : TS c σ (.Compare l [.GtE] [r] p) (decide (b ≤ a)) :=
  TS.cmp hl hr hn fun s X vs u v R E I ru rv q => by
    obtain ⟨_, rfl⟩ := ru.int_inv; obtain ⟨_, rfl⟩ := rv.int_inv
    exact P.ge_int q
theorem TS.eq (hl : EV c σ l (.int a)) (hr : EV c σ r (.int b)) (hn : noSet r = true) : TS c σ (.Compare l [.Eq] [r] p) (decide (a = b)) :=
  TS.cmp hl hr hn fun s X vs u v R E I ru rv q => by
    obtain ⟨_, rfl⟩ := ru.int_inv; obtain ⟨_, rfl⟩ := rv.int_inv
    exact PyProof.Rows.eq_int (by rw [show (a == b) = decide (a = b) by cases h : decide (a = b) <;> simp_all]; exact q)
theorem TS.ne (hl : EV c σ l (.int a)) (hr : EV c σ r (.int b)) (hn : noSet r = true) : TS c σ (.Compare l [.NotEq] [r] p) (decide (a ≠ b)) :=
  TS.cmp hl hr hn fun s X vs u v R E I ru rv q => by
    obtain ⟨_, rfl⟩ := ru.int_inv; obtain ⟨_, rfl⟩ := rv.int_inv
    exact PyProof.Rows.ne_int (by rw [show (a != b) = decide (a ≠ b) by cases h : decide (a ≠ b) <;> simp_all]; exact q)
end

/-- and, or, not -/
theorem TS.not {e : Expr} {p : Pos} {b : Bool} (h : TS c σ e b) : TS c σ (.UnaryOp .Not e p) (!b) :=
  ⟨fun s X vs _ _ I q => wpAny_isTrue_Not (h.run s X vs _ _ I fun h' tk' k => q h' tk' k)⟩
theorem TS.and2 {e e' : Expr} {p : Pos} {b b' : Bool} (h : TS c σ e b) (h' : b = true → TS c σ e' b') : TS c σ (.BoolOp .And [e, e'] p) (b && b') := by
  constructor; intro s X vs R E I q
  refine wpAny_isTrue_BoolOp (wpAny_allTrue_And_cons (h.run s X vs _ _ I fun h1 t1 k1 => ?_))
  cases b with
  | false => exact q _ _ k1
  | true =>
    refine wpAny_allTrue_And_cons ((h' rfl).run _ X vs _ _ (I.grow k1) fun h2 t2 k2 => ?_)
    cases b' with
    | false => exact q _ _ (k1.trans k2)
    | true => exact wpAny_allTrue_And_nil (q _ _ (k1.trans k2))
theorem TS.or2 {e e' : Expr} {p : Pos} {b b' : Bool} (h : TS c σ e b) (h' : b = false → TS c σ e' b') : TS c σ (.BoolOp .Or [e, e'] p) (b || b') := by
  constructor; intro s X vs R E I q
  refine wpAny_isTrue_BoolOp (wpAny_allTrue_Or_cons (h.run s X vs _ _ I fun h1 t1 k1 => ?_))
  cases b with
  | true => exact q _ _ k1
  | false =>
    refine wpAny_allTrue_Or_cons ((h' rfl).run _ X vs _ _ (I.grow k1) fun h2 t2 k2 => ?_)
    cases b' with
    | true => exact q _ _ (k1.trans k2)
    | false => exact wpAny_allTrue_Or_nil (q _ _ (k1.trans k2))
/-- a value that is a bool -/
def plainTest : Expr → Bool
  | .Name .. | .Call .. => true
  | _ => false
theorem TS.val {e : Expr} {b : Bool} (h : EV c σ e (.bool b)) (hp : plainTest e = true) : TS c σ e b := by
  constructor; intro s X vs R E I q
  refine wpAny_isTrue_value (h.run s X vs _ _ I fun v h1 t1 k1 r1 => ?_) (by cases e <;> first | rfl | cases hp)
  cases r1.bool_inv
  exact wpAny_truthy_bool (q _ _ k1)
end
end Mine
end
section
namespace Mine
open PySem PySem.Calls

section
variable {c : Cx} {σ : List Slot} {X : AS} {h h1 h' : Heap} {vs vs1 : Nat → Option Value} {σ1 : List Slot}

/-- one step behind another -/
theorem OutOk.trans {out : Out} {f : Flow} (k : ∀ b o, ¬ Mut c vs σ b → h.get? b = some o → h1.get? b = some o) (e : ∀ a, Mut c vs1 σ1 a → Mut c vs σ a ∨ h.get? a = none)
    (r : OutOk c X h1 vs1 σ1 h' out f) : OutOk c X h vs σ h' out f := by
  have kk : (∀ b o, ¬ Mut c vs1 σ1 b → h1.get? b = some o → h'.get? b = some o) → ∀ b o, ¬ Mut c vs σ b → h.get? b = some o → h'.get? b = some o := fun k2 b o n q => by
    refine k2 b o (fun m => ?_) (k b o n q)
    rcases e b m with m | m
    · exact n m
    · rw [q] at m; cases m
  have ee : ∀ {vs2 : Nat → Option Value} {σ2 : List Slot}, (∀ a, Mut c vs2 σ2 a → Mut c vs1 σ1 a ∨ h1.get? a = none) → ∀ a, Mut c vs2 σ2 a → Mut c vs σ a ∨ h.get? a = none := fun e2 a m => by
    rcases e2 a m with m | m
    · exact e a m
    · by_cases n : Mut c vs σ a
      · exact .inl n
      · cases q : h.get? a with
        | none => exact .inr rfl
        | some o => rw [k a o n q] at m; cases m
  cases out with
  | next σ2 => obtain ⟨rfl, k2, vs2, I2, e2⟩ := r; exact ⟨rfl, kk k2, vs2, I2, ee e2⟩
  | cont σ2 => obtain ⟨rfl, k2, vs2, I2, e2⟩ := r; exact ⟨rfl, kk k2, vs2, I2, ee e2⟩
  | brk σ2 => obtain ⟨rfl, k2, vs2, I2, e2⟩ := r; exact ⟨rfl, kk k2, vs2, I2, ee e2⟩
  | ret d => obtain ⟨v, rfl, k2, r2⟩ := r; exact ⟨v, rfl, kk k2, r2⟩

/-- the same, ahead of it the heap has grown -/
theorem OutOk.grown {out : Out} {f : Flow} (k : Keep h h1) (r : OutOk c X h1 vs σ h' out f) : OutOk c X h vs σ h' out f :=
  r.trans (fun b o _ e => k b o e) fun _ m => .inl m

def seqQ (c : Cx) (rest : List Stmt) (Q : Out → Prop) : Out → Prop
  | .next σ => WP c σ rest Q
  | o => Q o

theorem WP.nil {Q : Out → Prop} (q : Q (.next σ)) : WP c σ [] Q :=
  ⟨fun s _ vs _ _ I k => wpAny_execs_nil (k _ _ s.heap s.toks q ⟨rfl, fun _ _ _ e => e, vs, I, fun _ m => .inl m⟩)⟩

theorem WP.cons {st : Stmt} {rest : List Stmt} {Q : Out → Prop} (h : WS c σ st (seqQ c rest Q)) : WP c σ (st :: rest) Q := by
  constructor; intro s X vs R E I k
  refine wpAny_execs_cons (h.run s X vs _ _ I fun out f h1 t1 q r => ?_)
  cases out with
  | next σ1 =>
    obtain ⟨rfl, k1, vs1, I1, e1⟩ := r
    exact (show WP c σ1 rest Q from q).run _ X vs1 _ _ I1 fun out f h2 t2 q2 r2 => k out f h2 t2 q2 (r2.trans k1 e1)
  | cont σ1 => obtain ⟨rfl, _⟩ := id r; exact k _ _ _ _ q r
  | brk σ1 => obtain ⟨rfl, _⟩ := id r; exact k _ _ _ _ q r
  | ret d => obtain ⟨v, rfl, _⟩ := id r; exact k _ _ _ _ q r

theorem WP.mono {ss : List Stmt} {Q Q' : Out → Prop} (h : WP c σ ss Q) (hq : ∀ o, Q o → Q' o) : WP c σ ss Q' :=
  ⟨fun s X vs R E I k => h.run s X vs R E I fun out f h' tk' q r => k out f h' tk' (hq _ q) r⟩

/-- no comprehension -/
def noComp : Expr → Bool
  | .ListComp .. | .SetComp .. | .DictComp .. => false
  | _ => true
theorem swaps_of {e : Expr} {t : Option Expr} {l : Nat} {env : Env} (h : noComp e = true) : swapsWith e t l env = pure false := by
  cases e <;> first | rfl | cases h

theorem WP.assign {x : Str} {p p' : Pos} {e : Expr} {d : D} {i : Nat} {rest : List Stmt} {Q : Out → Prop} (hi : slotOf c.names x = some i) (hk : isVar c x = true) (hc : noComp e = true) (he : EV c σ e d)
    (h : WP c (σ.set i (.val d)) rest Q) : WP c σ (.Assign [.Name x p'] e p :: rest) Q := by
  refine WP.cons ?_
  constructor; intro s X vs R E I k
  refine wpAny_Assign_Name (he.run s X vs _ _ I fun v h1 t1 k1 r1 => ?_) (swaps_of hc)
  have I1 := I.grow k1
  refine wp_store I1 (slotOf_get hi) (isVar.kind I.ok hk).1 fun h2 t2 S => ?_
  refine k (.next (σ.set i (.val d))) _ _ _ h ⟨rfl, fun b o n q => S.keeps b o n (k1 b o q), upd vs i v, ?_, fun a m => ?_⟩
  · exact I1.put S (slotOf_get hi) (fun _ x => x) (fun xs e => by cases e) fun _ => ⟨v, rfl, r1⟩
  · exact mut_put (fun xs e => by cases e) m

theorem WP.assignOwn {x : Str} {p p' : Pos} {e : Expr} {xs : List D} {i : Nat} {rest : List Stmt} {Q : Out → Prop} (hi : slotOf c.names x = some i) (hk : isVar c x = true) (hc : noComp e = true) (he : EVF c σ e xs)
    (h : WP c (σ.set i (.own xs)) rest Q) : WP c σ (.Assign [.Name x p'] e p :: rest) Q := by
  refine WP.cons ?_
  constructor; intro s X vs R E I k
  refine wpAny_Assign_Name (he.run s X vs _ _ I fun a items h1 t1 k1 hn l1 r1 => ?_) (swaps_of hc)
  have al : ∃ o, h1.get? a = some o ∧ NT o := by
    obtain ⟨n, e⟩ := l1
    exact ⟨_, e, fun q => absurd (show Value.type "list" = Value.type "tuple" from q) (by decide)⟩
  have I1 := I.guard k1 hn al
  refine wp_store I1 (slotOf_get hi) (isVar.kind I.ok hk).1 fun h2 t2 S => ?_
  have hX : ¬ X a := fun q => off_fresh I hn (.inl q)
  refine k (.next (σ.set i (.own xs))) _ _ _ h ⟨rfl, fun b o n q => S.keeps b o n (k1 b o q), upd vs i (.ref a), ?_, fun b m => ?_⟩
  · refine I1.put S (slotOf_get hi) (fun _ x => .inl x) (fun ys e b e2 => ?_) fun _ => ⟨a, items, rfl, l1, r1.weak fun b y => ?_⟩
    · cases e2; exact ⟨.inr rfl, hX, none_of_keep I.keep hn⟩
    · rcases y with (y | y) | y
      · exact .inl (.inl (.inl y))
      · exact .inl (.inr y)
      · exact .inl (.inl (.inr y))
  · exact mut_put (fun ys e b e2 => by cases e2; exact hn) m

/-- an owned list is given away: from here on it is a value -/
theorem Inv.freeze {i : Nat} {xs : List D} (I : Inv c X h vs σ) (hi : σ[i]? = some (.own xs)) : Inv c X h vs (σ.set i (.val (.list xs))) ∧ ∀ a, Mut c vs (σ.set i (.val (.list xs))) a → Mut c vs σ a := by
  have ho : ∀ j a, OwnAt vs (σ.set i (.val (.list xs))) j a → j ≠ i ∧ OwnAt vs σ j a := by
    rintro j a ⟨⟨ys, e⟩, e2⟩
    by_cases q : j = i
    · subst q
      rw [List.getElem?_set] at e
      simp only [if_true] at e
      split at e <;> cases e
    · rw [List.getElem?_set_ne (Ne.symm q)] at e
      exact ⟨q, ⟨ys, e⟩, e2⟩
  have hm : ∀ a, Mut c vs (σ.set i (.val (.list xs))) a → Mut c vs σ a := by
    rintro a (k | k | ⟨j, k⟩)
    · exact .inl k
    · exact .inr (.inl k)
    · exact .inr (.inr ⟨j, (ho j a k).2⟩)
  have hoff : ∀ a, Off c X vs (σ.set i (.val (.list xs))) a → Off c X vs σ a := fun a k => k.imp id (hm a)
  refine ⟨⟨I.ok, I.keep, I.loc, I.cel, fun j sl e => ?_, fun j k a hj hk => I.own1 j k a (ho j a hj).2 (ho k a hk).2, fun j a hj => I.ownC j a (ho j a hj).2, fun a m => I.sep a (hm a m), fun a k => I.alive a (hoff a k)⟩, hm⟩
  by_cases q : j = i
  · subst q
    rw [List.getElem?_set] at e
    simp only [if_true] at e
    split at e
    · cases e
      obtain ⟨a, items, e, l, r⟩ := I.slot j _ hi
      refine ⟨_, e, Rep.list l (fun k => ?_) (r.weak fun b y => .inl (hoff b y))⟩
      rcases k with k | k | k | ⟨m, k⟩
      · exact (I.sep a (.inr (.inr ⟨j, ⟨xs, hi⟩, e⟩))).1 k
      · exact (I.ownC j a ⟨⟨xs, hi⟩, e⟩).1 k
      · obtain ⟨y, k⟩ := k; exact (I.ownC j a ⟨⟨xs, hi⟩, e⟩).2 y k
      · exact (ho m a k).1 (I.own1 m j a (ho m a k).2 ⟨⟨xs, hi⟩, e⟩)
    · cases e
  · rw [List.getElem?_set_ne (Ne.symm q)] at e
    have := I.slot j sl e
    cases sl with
    | un => trivial
    | val d => obtain ⟨v, e, r⟩ := this; exact ⟨v, e, r.weak fun b y => .inl (hoff b y)⟩
    | own ys => obtain ⟨b, items, e, l, r⟩ := this; exact ⟨b, items, e, l, r.weak fun b y => .inl (hoff b y)⟩
theorem WP.freeze {ss : List Stmt} {Q : Out → Prop} (i : Nat) {xs : List D} (hi : σ[i]? = some (.own xs)) (h' : WP c (σ.set i (.val (.list xs))) ss Q) : WP c σ ss Q :=
  ⟨fun s X vs R E I k => h'.run s X vs R E (I.freeze hi).1 fun out f h' tk' q r => k out f h' tk' q (r.trans (fun _ _ _ e => e) fun a m => .inl ((I.freeze hi).2 a m))⟩

theorem WP.ite {t : Expr} {body orelse rest : List Stmt} {p : Pos} {b : Bool} {Q : Out → Prop} (ht : TS c σ t b) (h1 : b = true → WP c σ body (seqQ c rest Q)) (h2 : b = false → WP c σ orelse (seqQ c rest Q)) :
    WP c σ (.If t body orelse p :: rest) Q := by
  refine WP.cons ?_
  constructor; intro s X vs R E I k
  refine wpAny_If (ht.run s X vs _ _ I fun h1' t1 k1 => ?_)
  cases b with
  | true => exact (h1 rfl).run _ X vs _ _ (I.grow k1) fun out f h' tk' q r => k out f h' tk' q (r.grown k1)
  | false => exact (h2 rfl).run _ X vs _ _ (I.grow k1) fun out f h' tk' q r => k out f h' tk' q (r.grown k1)

theorem WP.ret {e : Expr} {d : D} {p : Pos} {rest : List Stmt} {Q : Out → Prop} (he : EV c σ e d) (q : Q (.ret d)) : WP c σ (.Return (some e) p :: rest) Q := by
  refine WP.cons ?_
  constructor; intro s X vs R E I k
  refine wpAny_Return_some (he.run s X vs _ _ I fun v h1 t1 k1 r1 => ?_)
  exact k (.ret d) _ _ _ q ⟨v, rfl, fun b o _ e => k1 b o e, r1.weak fun a y => .inl (.inl y)⟩
theorem seqQ.ret {rest : List Stmt} {d : D} {Q : Out → Prop} (q : Q (.ret d)) : seqQ c rest Q (.ret d) := q
theorem seqQ.next {rest : List Stmt} {σ' : List Slot} {Q : Out → Prop} (q : WP c σ' rest Q) : seqQ c rest Q (.next σ') := q
end
end Mine
end
section
namespace Mine
open PySem PySem.Calls

theorem Rep.move {h h' : Heap} {Y Y' : AS} {v : Value} {d : D} (r : Rep h Y v d) (hk : ∀ b o, h.get? b = some o → ¬ Y b ∨ ¬ NT o → h'.get? b = some o) (hy : ∀ a, Y' a → Y a ∨ h.get? a = Option.none) : Rep h' Y' v d := by
  have r1 : Rep h (fun a => Y a ∨ Y' a) v d := r.weak fun a y => y.elim .inl (hy a)
  have r2 : Rep h' (fun a => Y a ∨ Y' a) v d := r1.kept fun b o e k => hk b o e (k.imp (fun n y => n (.inl y)) id)
  exact r2.weak fun a y => .inl (.inr y)

theorem Inv.drop {c : Cx} {X X' : AS} {h : Heap} {vs : Nat → Option Value} {σ : List Slot} (I : Inv c X' h vs σ) (hX : ∀ a, X a → X' a) : Inv c X h vs σ :=
  I.changeTo hX I.keep (fun _ _ e _ => e) fun a x => I.alive a (.inl (hX a x))

/-- what an iterator gives -/
structure Itr (c : Cx) (X : AS) (vs : Nat → Option Value) (σ : List Slot) (g h : Heap) (I : Addr) (fp : List Addr) (n : Nat) (P : Nat → Value → Prop) (St : Nat → Heap → Prop) (ds : List D) : Prop where
  W : Walks c.G.prog c.G.w c.A I fp [I] n P St
  len : n = ds.length
  st : St 0 h
  new : g.get? I = none
  it : ∀ i k, St i k → ∃ o T, k.get? I = some o ∧ o.cls = .type T ∧ (T = "list_iterator" ∨ T = "tuple_iterator" ∨ T = "range_iterator")
  fps : ∀ b ∈ fp, b ≠ I → ¬ Mut c vs σ b ∧ ∃ o, h.get? b = some o
  item : ∀ i v d, P i v → ds[i]? = some d → Rep h (fun a => Off c X vs σ a ∨ a = I) v d

structure IT (c : Cx) (σ : List Slot) (e : Expr) (ds : List D) : Prop where
  run : ∀ (s : Shared) (X : AS) (vs : Nat → Option Value) (R : Value → Shared → Prop) (E : Value → Shared → Prop), Inv c X s.heap vs σ →
    (∀ I fp n P St h' tk', Keep s.heap h' → Itr c X vs σ s.heap h' I fp n P St ds → R (.ref I) { s with heap := h', toks := tk' }) →
      wpAny (model c.G.prog c.G.w) c.A (eval e c.env) (fun x s₁ => wpAny (model c.G.prog c.G.w) c.A (pyIter x) R E s₁) E s

theorem nt_of_iter {o : Obj} {T : String} (hc : o.cls = .type T) (hT : T = "list_iterator" ∨ T = "tuple_iterator" ∨ T = "range_iterator") : NT o := by
  intro q
  rw [hc] at q
  rcases hT with rfl | rfl | rfl <;> exact absurd q (by decide)

section
variable {c : Cx} {σ : List Slot}

/-- targets of a loop -/
structure TG (c : Cx) (t : Expr) (d : D) (σ σ' : List Slot) : Prop where
  run : ∀ (s : Shared) (X : AS) (vs : Nat → Option Value) (v : Value) (R : Unit → Shared → Prop) (E : Value → Shared → Prop), Inv c X s.heap vs σ → Rep s.heap (Off c X vs σ) v d →
    (∀ h' tk' vs', (∀ b o, ¬ Mut c vs σ b → s.heap.get? b = some o → h'.get? b = some o) → Inv c X h' vs' σ' → (∀ a, Mut c vs' σ' a → Mut c vs σ a) → R () { s with heap := h', toks := tk' }) →
      wpAny (model c.G.prog c.G.w) c.A (assign t c.env v) R E s
theorem TG.name {x : Str} {p : Pos} {i : Nat} {d : D} (hi : slotOf c.names x = some i) (hk : isVar c x = true) : TG c (.Name x p) d σ (σ.set i (.val d)) := by
  constructor; intro s X vs v R E I r k
  refine wpAny_assign_Name (wp_store I (slotOf_get hi) (isVar.kind I.ok hk).1 fun h2 t2 S => ?_)
  refine k h2 t2 (upd vs i v) (fun b o n q => S.keeps b o n q) (I.put S (slotOf_get hi) (fun _ x => x) (fun xs e => by cases e) fun _ => ⟨v, rfl, r⟩) fun a m => ?_
  rcases m with m | m | ⟨j, m⟩
  · exact .inl m
  · exact .inr (.inl m)
  · rcases own_upd m with ⟨_, m⟩ | ⟨_, ⟨xs, e⟩, _⟩
    · exact .inr (.inr ⟨j, m⟩)
    · cases e

def forQ (c : Cx) (rest : List Stmt) (Q : Out → Prop) (P : List Slot → Prop) : Out → Prop
  | .next σ => P σ
  | .cont σ => P σ
  | .brk σ => WP c σ rest Q
  | .ret d => Q (.ret d)

def noFold : Expr → Bool
  | .Set .. => false
  | _ => true
theorem folded_of {e : Expr} {env : Env} (h : noFold e = true) : ∀ x, foldedSetIterable e env x = pure x := by
  cases e <;> first | (intro x; rfl) | cases h

theorem letOwned_pure {t : Expr} {I : Addr} {v : Value} {s : Shared} {A : Around} {prog : Program} {w : World} {R : Unit → Shared → Prop} {E : Value → Shared → Prop} {o : Obj} {T : String} (ho : s.heap.get? I = some o) (hc : o.cls = .type T)
    (hT : T = "list_iterator" ∨ T = "tuple_iterator" ∨ T = "range_iterator") (q : R () s) : wpAny (model prog w) A (letOwnedTupleGo t (.ref I) v) R E s := by
  unfold letOwnedTupleGo
  split
  · split
    · rename_i r a e
      cases e
      refine wpAny_bind (wpAny_load ho ?_)
      split
      · rename_i n fs e1 e2
        rw [hc] at e1
        cases e1
        have : (["enumerate", "zip", "dict_itemiterator", "dict_reverseitemiterator", "odict_iterator", "itertools.zip_longest", "itertools.pairwise"].contains T) = false := by
          rcases hT with rfl | rfl | rfl <;> decide
        rw [this]
        simp only [Bool.false_and, Bool.false_eq_true, if_false]
        exact wpAny_pure q
      · exact wpAny_pure q
    · exact wpAny_pure q
  · split
    · rename_i r a e
      cases e
      refine wpAny_bind (wpAny_load ho ?_)
      split
      · rename_i n fs e1 e2
        rw [hc] at e1
        cases e1
        have : (["enumerate", "zip", "dict_itemiterator", "dict_reverseitemiterator", "odict_iterator", "itertools.zip_longest", "itertools.pairwise"].contains T) = false := by
          rcases hT with rfl | rfl | rfl <;> decide
        rw [this]
        simp only [Bool.false_and, Bool.false_eq_true, if_false]
        exact wpAny_pure q
      · exact wpAny_pure q
    · exact wpAny_pure q
  · exact wpAny_pure q

/-- a for by an invariant -/
theorem WP.forIn {t it : Expr} {body rest : List Stmt} {p : Pos} {ds : List D} {Q : Out → Prop} (P : Nat → List Slot → Prop) (hit : IT c σ it ds) (hf : noFold it = true) (h0 : P 0 σ)
    (step : ∀ j d σ', ds[j]? = some d → P j σ' → ∃ σ'', TG c t d σ' σ'' ∧ WP c σ'' body (forQ c rest Q (P (j + 1)))) (done : ∀ σ', P ds.length σ' → WP c σ' rest Q) : WP c σ (.For t it body [] p :: rest) Q := by
  refine WP.cons ?_
  constructor; intro s X vs R E I k
  refine wpAny_For (hit.run s X vs _ _ I fun a fp n PP St h1 t1 k1 T => ?_) (folded_of hf)
  have hal : ∀ i g, St i g → ∃ o, g.get? a = some o ∧ NT o := fun i g st => by
    obtain ⟨o, T', e, hc, hT⟩ := T.it i g st
    exact ⟨o, e, nt_of_iter hc hT⟩
  have I1 : Inv c (fun b => X b ∨ b = a) h1 vs σ := I.guard k1 T.new (hal 0 h1 T.st)
  let J : Nat → Shared → Prop := fun m s' => ∃ i vs' σ' h' tk', s' = { s with heap := h', toks := tk' } ∧ m = n + 1 - i ∧ i ≤ n ∧ Inv c (fun b => X b ∨ b = a) h' vs' σ' ∧ St i h' ∧ P i σ' ∧
    (∀ b o, ¬ Mut c vs σ b → b ≠ a → h1.get? b = some o → h'.get? b = some o) ∧ ∀ b, Mut c vs' σ' b → Mut c vs σ b ∨ h1.get? b = none
  refine codeAny_forLoop_any J ?_ (n + 1) ⟨0, vs, σ, h1, t1, rfl, rfl, Nat.zero_le _, I1, T.st, h0, fun _ _ _ _ e => e, fun _ m => .inl m⟩
  rintro m s' ⟨i, vs', σ', h', tk', rfl, rfl, hi, I', st, hP, hk, he⟩
  have haX : ∀ {vs2 : Nat → Option Value} {σ2 : List Slot} {g : Heap}, Inv c (fun b => X b ∨ b = a) g vs2 σ2 → ¬ Mut c vs2 σ2 a := fun I2 m => (I2.sep a m).1 (.inr rfl)
  have ha0 : c.h0.get? a = none := none_of_keep I.keep T.new
  -- behind a step of the iterator
  have next : ∀ h2, (∀ b o, b ∉ [a] → h'.get? b = some o → h2.get? b = some o) → (∃ o, h2.get? a = some o ∧ NT o) → Inv c (fun b => X b ∨ b = a) h2 vs' σ' := by
    intro h2 k2 al
    have k2' : ∀ b o, b ≠ a → h'.get? b = some o → h2.get? b = some o := fun b o n e => k2 b o (fun q => n (List.mem_singleton.mp q)) e
    refine I'.change (fun b o e => k2' b o (fun q => by rw [q, ha0] at e; cases e) (I'.keep b o e)) (fun b o e q => k2' b o (fun w => ?_) e) fun b y => ?_
    · subst w
      rcases q with q | q | q
      · exact q (.inl (.inr rfl))
      · obtain ⟨o', e', nt⟩ := hal i h' st
        rw [e] at e'; cases e'; exact q nt
      · exact haX I' q
    · by_cases w : b = a
      · subst w; exact al
      · obtain ⟨o, e, nt⟩ := I'.alive b (.inl y)
        exact ⟨o, k2' b o w e, nt⟩
  by_cases hlt : i < n
  · refine T.W.item i _ _ _ hlt st fun v h2 t2 hPv st2 k2 => ?_
    have k2' : ∀ b o, b ≠ a → h'.get? b = some o → h2.get? b = some o := fun b o n e => k2 b o (fun q => n (List.mem_singleton.mp q)) e
    obtain ⟨o2, T2, e2, hc2, hT2⟩ := T.it _ _ st2
    have I2 := next h2 k2 ⟨o2, e2, nt_of_iter hc2 hT2⟩
    refine letOwned_pure (s := { s with heap := h2, toks := t2 }) e2 hc2 hT2 ?_
    have hlt' : i < ds.length := by rw [← T.len]; exact hlt
    have hd : ds[i]? = some ds[i] := List.getElem?_eq_getElem hlt'
    obtain ⟨σ2, tg, wb⟩ := step i _ σ' hd hP
    have r2 : Rep h2 (Off c (fun b => X b ∨ b = a) vs' σ') v ds[i] := by
      refine (T.item i v _ hPv hd).move (fun b o e q => ?_) fun b y => ?_
      · have hba : b ≠ a := fun w => by
          subst w
          rcases q with q | q
          · exact q (.inr rfl)
          · obtain ⟨o', e', nt⟩ := hal 0 h1 T.st
            rw [e] at e'; cases e'; exact q nt
        refine k2' b o hba (hk b o (fun m => ?_) hba e)
        rcases q with q | q
        · exact q (.inl (.inr m))
        · obtain ⟨o', e', nt⟩ := I1.alive b (.inr m)
          rw [e] at e'; cases e'; exact q nt
      · rcases y with (y | y) | y
        · exact .inl (.inl (.inl y))
        · exact .inl (.inr y)
        · rcases he b y with y | y
          · exact .inl (.inl (.inr y))
          · exact .inr y
    refine tg.run _ _ vs' v _ _ I2 r2 fun h3 t3 vs3 k3 I3 m3 => ?_
    refine wb.run _ _ vs3 _ _ I3 fun out f h4 t4 q r => ?_
    have kk : ∀ {h4 : Heap}, (∀ b o, ¬ Mut c vs3 σ2 b → h3.get? b = some o → h4.get? b = some o) → ∀ b o, ¬ Mut c vs σ b → b ≠ a → h1.get? b = some o → h4.get? b = some o := by
      intro h4 k4 b o n1 n2 e
      have n' : ¬ Mut c vs' σ' b := fun m => by
        rcases he b m with m | m
        · exact n1 m
        · rw [e] at m; cases m
      exact k4 b o (fun m => n' (m3 b m)) (k3 b o n' (k2' b o n2 (hk b o n1 n2 e)))
    have kg : ∀ {h4 : Heap}, (∀ b o, ¬ Mut c vs3 σ2 b → h3.get? b = some o → h4.get? b = some o) → ∀ b o, ¬ Mut c vs σ b → s.heap.get? b = some o → h4.get? b = some o := by
      intro h4 k4 b o n1 e
      exact kk k4 b o n1 (fun w => by rw [w, T.new] at e; cases e) (k1 b o e)
    have ee : ∀ {vs4 : Nat → Option Value} {σ4 : List Slot}, (∀ b, Mut c vs4 σ4 b → Mut c vs3 σ2 b ∨ h3.get? b = none) → (∀ b, Mut c vs4 σ4 b → b ≠ a) → ∀ b, Mut c vs4 σ4 b → Mut c vs σ b ∨ h1.get? b = none := by
      intro vs4 σ4 e4 na b m
      rcases e4 b m with m' | m'
      · exact he b (m3 b m')
      · by_cases n1 : Mut c vs σ b
        · exact .inl n1
        · cases w : h1.get? b with
          | none => exact .inr rfl
          | some o =>
            have n' : ¬ Mut c vs' σ' b := fun m => by
              rcases he b m with m | m
              · exact n1 m
              · rw [w] at m; cases m
            rw [k3 b o n' (k2' b o (na b m) (hk b o n1 (na b m) w))] at m'; cases m'
    have eg : ∀ {vs4 : Nat → Option Value} {σ4 : List Slot}, (∀ b, Mut c vs4 σ4 b → Mut c vs3 σ2 b ∨ h3.get? b = none) → (∀ b, Mut c vs4 σ4 b → b ≠ a) → ∀ b, Mut c vs4 σ4 b → Mut c vs σ b ∨ s.heap.get? b = none := by
      intro vs4 σ4 e4 na b m
      exact (ee e4 na b m).imp id fun w => none_of_keep k1 w
    have again : ∀ {vs4 : Nat → Option Value} {σ4 : List Slot} {tk4 : Nat}, (∀ b o, ¬ Mut c vs3 σ2 b → h3.get? b = some o → h4.get? b = some o) → Inv c (fun b => X b ∨ b = a) h4 vs4 σ4 → (∀ b, Mut c vs4 σ4 b → Mut c vs3 σ2 b ∨ h3.get? b = none) → P (i + 1) σ4 →
        ∃ m, m < n + 1 - i ∧ J m { s with heap := h4, toks := tk4 } := by
      intro vs4 σ4 tk4 k4 I4 e4 hP4
      refine ⟨n + 1 - (i + 1), by omega, i + 1, vs4, σ4, h4, tk4, rfl, rfl, hlt, I4, ?_, hP4, kk k4, ee e4 fun b m w => haX I4 (w ▸ m)⟩
      refine T.W.frame _ _ _ st2 fun b hb o e => ?_
      have nb' : ¬ Mut c vs' σ' b := fun m => by
        by_cases w : b = a
        · exact haX I' (w ▸ m)
        · obtain ⟨n1, o1, e1⟩ := T.fps b hb w
          rcases he b m with m | m
          · exact n1 m
          · rw [e1] at m; cases m
      exact k4 b o (fun m => nb' (m3 b m)) (k3 b o nb' e)
    cases out with
    | next σ4 =>
      obtain ⟨rfl, k4, vs4, I4, e4⟩ := r
      exact again k4 I4 e4 q
    | cont σ4 =>
      obtain ⟨rfl, k4, vs4, I4, e4⟩ := r
      exact again k4 I4 e4 q
    | brk σ4 =>
      obtain ⟨rfl, k4, vs4, I4, e4⟩ := r
      exact k (.next σ4) _ _ _ q ⟨rfl, kg k4, vs4, I4.drop fun _ x => .inl x, eg e4 fun b m w => haX I4 (w ▸ m)⟩
    | ret d =>
      obtain ⟨v', rfl, k4, r4⟩ := r
      exact k (.ret d) _ _ _ q ⟨v', rfl, kg k4, r4.weak fun b y => .inl (.inl y)⟩
  · have hin : i = n := by omega
    subst hin
    refine T.W.done _ _ _ st fun h2 t2 k2 => ?_
    have k2' : ∀ b o, b ≠ a → h'.get? b = some o → h2.get? b = some o := fun b o n e => k2 b o (fun q => n (List.mem_singleton.mp q)) e
    have na : ¬ X a := fun x => off_fresh I T.new (.inl x)
    have I2 : Inv c X h2 vs' σ' := by
      refine I'.changeTo (fun _ x => .inl x) (fun b o e => k2' b o (fun q => by rw [q, ha0] at e; cases e) (I'.keep b o e)) (fun b o e q => k2' b o (fun w => ?_) e) fun b y => ?_
      · subst w
        rcases q with q | q | q
        · exact q (.inl (.inr rfl))
        · obtain ⟨o', e', nt⟩ := hal i h' st
          rw [e] at e'; cases e'; exact q nt
        · exact haX I' q
      · obtain ⟨o, e, nt⟩ := I'.alive b (.inl (.inl y))
        exact ⟨o, k2' b o (fun w => na (w ▸ y)) e, nt⟩
    refine wpAny_execs_nil ?_
    refine k (.next σ') _ _ _ (done σ' (T.len ▸ hP)) ⟨rfl, fun b o n1 e => ?_, vs', I2, fun b m => (he b m).imp id fun w => none_of_keep k1 w⟩
    have hba : b ≠ a := fun w => by rw [w, T.new] at e; cases e
    exact k2' b o hba (hk b o n1 hba (k1 b o e))
end
end Mine
end
section
namespace Mine
open PySem PySem.Calls

section
variable {c : Cx} {σ : List Slot}

/-- iterating -/
theorem itr_range {X : AS} {s : Shared} {vs : Nat → Option Value} {g : Heap} {a b st : Int} {t u v : Tok} {r : Addr} {tk : Nat} {ds : List D} {R : Value → Shared → Prop} {E : Value → Shared → Prop} (I : Inv c X s.heap vs σ) (k : Keep s.heap g)
    (hr : IsRange g r a b st t u v) (hs : Builtin.Range.small a b st = true) (hlen : Builtin.Range.rangeSize a b st = (ds.length : Int)) (hd : ∀ (i : Nat) (d : D), ds[i]? = some d → d = PyData.int (a + i * st))
    (q : ∀ I fp n P St h' tk', Keep s.heap h' → Itr c X vs σ s.heap h' I fp n P St ds → R (.ref I) { s with heap := h', toks := tk' }) :
    wpAny (model c.G.prog c.G.w) c.A (pyIter (.ref r)) R E { s with heap := g, toks := tk } := by
  refine wpAny_pyIter_range (s := { s with heap := g, toks := tk }) hr hs ?_
  refine q _ _ _ _ _ _ _ (k.trans (Keep.push _ _)) ⟨Walks.range I.ok.hh _ a st ds.length, rfl, ?_, none_of_keep k (size_none _), fun i k' h => ⟨_, _, h, rfl, .inr (.inr rfl)⟩, fun x hx n => absurd (List.mem_singleton.mp hx) n, ?_⟩
  · rw [hlen]
    simp only [Int.natCast_zero, Int.zero_mul, Int.add_zero, Int.sub_zero]
    exact Heap.get?_push_size _ rfl
  · rintro i v d ⟨t', rfl⟩ e
    rw [hd i d e]
    exact Rep.int

theorem wp_range {e : Expr} {es : List Expr} {p pos : Pos} {ds ks : List D} (B : isBui c (PySem.Str.ofString "range") (.type "range")) (hs : EVs c σ (e :: es) ds) (hn : (e :: es).all noStar = true)
    (h : ∀ (s : Shared) (X : AS) (vs : Nat → Option Value) (us : List Value) (R : Value → Shared → Prop) (E : Value → Shared → Prop), Inv c X s.heap vs σ → RepAll s.heap (Off c X vs σ) us ds →
      (∀ I fp n P St h' tk', Keep s.heap h' → Itr c X vs σ s.heap h' I fp n P St ks → R (.ref I) { s with heap := h', toks := tk' }) →
        wpAny (model c.G.prog c.G.w) c.A (call (.type "range") us) (fun x s₁ => wpAny (model c.G.prog c.G.w) c.A (pyIter x) R E s₁) E s) : IT c σ (.Call (.Name (PySem.Str.ofString "range") p) (e :: es) [] pos) ks := by
  constructor; intro s X vs R E I q
  refine wpAny_Call_NameR (B.load I ?_)
  refine callWith_type (noStar_any hn) (wp_args (by simp only [List.all_cons, Bool.and_eq_true] at hn; exact hn.1) (hs.run s X vs _ _ pos I fun us h1 t1 k1 r1 => ?_))
  refine h _ X vs us _ _ (I.grow k1) r1 fun I' fp n P St h' tk' k T => q I' fp n P St h' tk' (k1.trans k) ?_
  exact ⟨T.W, T.len, T.st, none_of_keep k1 T.new, T.it, T.fps, T.item⟩

theorem range_get {n i : Nat} {f : Nat → D} {d : D} (e : ((List.range n).map f)[i]? = some d) : d = f i := by
  rw [List.getElem?_map] at e
  cases h : (List.range n)[i]? with
  | none => rw [h] at e; cases e
  | some j =>
    rw [h] at e
    have : i < n := by
      have := (List.getElem?_eq_some_iff.mp h).1
      simpa using this
    rw [List.getElem?_range this] at h
    cases h; cases e; rfl

def rng (a b : Int) : List D := (List.range (b - a).toNat).map fun (i : Nat) => .int (a + i)
def rngD (a b : Int) : List D := (List.range (a - b).toNat).map fun (i : Nat) => .int (a - i)

theorem IT.range1 {e : Expr} {p pos : Pos} {n : Int} (B : isBui c (PySem.Str.ofString "range") (.type "range")) (he : EV c σ e (.int n)) (hn : noStar e = true) (hlo : -(2 ^ 62) ≤ n) (hhi : n < 2 ^ 62) :
    IT c σ (.Call (.Name (PySem.Str.ofString "range") p) [e] [] pos) (rng 0 n) :=
  wp_range B (EVs.one he hn) (by simp [hn]) fun s X vs us R E I ru q => by
    obtain ⟨u, _, rfl, ru', rn⟩ := ru.cons_inv
    cases rn.nil_inv
    obtain ⟨_, rfl⟩ := ru'.int_inv
    refine call_range_1 (itr_range I (Keep.push _ _) (IsRange.new ..) (small_one (by decide) (by decide) hlo hhi) ?_ (fun i d e => ?_) q)
    · rw [rangeSize_one, rng, List.length_map, List.length_range]; split <;> omega
    · rw [range_get e]; simp
theorem IT.range2 {e e' : Expr} {p pos : Pos} {a b : Int} (B : isBui c (PySem.Str.ofString "range") (.type "range")) (he : EV c σ e (.int a)) (he' : EV c σ e' (.int b)) (hn : noStar e = true) (hn' : noStar e' = true)
    (hlo : -(2 ^ 62) ≤ a) (hhi : a < 2 ^ 62) (hlo' : -(2 ^ 62) ≤ b) (hhi' : b < 2 ^ 62) : IT c σ (.Call (.Name (PySem.Str.ofString "range") p) [e, e'] [] pos) (rng a b) :=
  wp_range B (EVs.two he he' hn hn') (by simp [hn, hn']) fun s X vs us R E I ru q => by
    obtain ⟨u, _, rfl, ru', rn⟩ := ru.cons_inv
    obtain ⟨v, _, rfl, rv, rn'⟩ := rn.cons_inv
    cases rn'.nil_inv
    obtain ⟨_, rfl⟩ := ru'.int_inv; obtain ⟨_, rfl⟩ := rv.int_inv
    refine call_range_2 (itr_range I (Keep.push _ _) (IsRange.new ..) (small_one hlo hhi hlo' hhi') ?_ (fun i d e => ?_) q)
    · rw [rangeSize_one, rng, List.length_map, List.length_range]; split <;> omega
    · rw [range_get e]; simp
theorem rangeSize_down (a b : Int) : Builtin.Range.rangeSize a b (-1) = if b < a then a - b else 0 := by
  unfold Builtin.Range.rangeSize
  simp only [show ¬ ((-1 : Int) > 0) by decide, if_false]
  split
  · rw [show (- -1 : Int) = 1 by decide, Int.ediv_one]; omega
  · rfl
theorem small_down {a b : Int} (ha : -(2 ^ 62) ≤ a) (ha' : a < 2 ^ 62) (hb : -(2 ^ 62) ≤ b) (hb' : b < 2 ^ 62) : Builtin.Range.small a b (-1) = true := by
  unfold Builtin.Range.small
  rw [rangeSize_down]
  simp only [Builtin.Range.rangeFitsLong, Bool.and_eq_true, Bool.or_eq_true, decide_eq_true_eq, beq_iff_eq, show ¬ ((-1 : Int) > 0) by decide, if_false]
  split <;> omega
theorem IT.rangeDown {e e' : Expr} {p pos p1 p2 : Pos} {k : Nat} {a b : Int} (B : isBui c (PySem.Str.ofString "range") (.type "range")) (he : EV c σ e (.int a)) (he' : EV c σ e' (.int b)) (hn : noStar e = true) (hn' : noStar e' = true)
    (hlo : -(2 ^ 62) ≤ a) (hhi : a < 2 ^ 62) (hlo' : -(2 ^ 62) ≤ b) (hhi' : b < 2 ^ 62) : IT c σ (.Call (.Name (PySem.Str.ofString "range") p) [e, e', .UnaryOp .USub (.Constant (.int 1) k p1) p2] [] pos) (rngD a b) :=
  wp_range B (EVs.cons he (EVs.two he' (EV.neg EV.int) hn' rfl) hn) (by simp only [List.all_cons, hn, hn']; rfl) fun s X vs us R E I ru q => by
    obtain ⟨u, _, rfl, ru', rn⟩ := ru.cons_inv
    obtain ⟨v, _, rfl, rv, rn'⟩ := rn.cons_inv
    obtain ⟨x, _, rfl, rx, rm⟩ := rn'.cons_inv
    cases rm.nil_inv
    obtain ⟨_, rfl⟩ := ru'.int_inv; obtain ⟨_, rfl⟩ := rv.int_inv; obtain ⟨_, rfl⟩ := rx.int_inv
    refine call_range_3 (by decide) (itr_range I (Keep.push _ _) (IsRange.new ..) (small_down hlo hhi hlo' hhi') ?_ (fun i d e => ?_) q) (.inl (PyProof.noPylong_small (by decide)))
    · rw [rangeSize_down, rngD, List.length_map, List.length_range]; split <;> omega
    · rw [range_get e]; congr 1; omega

/-- over a list that is a value -/
theorem IT.list {e : Expr} {xs : List D} (he : EV c σ e (.list xs)) : IT c σ e xs := by
  constructor; intro s X vs R E I q
  refine he.run s X vs _ _ I fun v h1 t1 k1 r1 => ?_
  obtain ⟨l, items, rfl, hl, hY, ri⟩ := r1.list_inv
  refine wpAny_pyIter_list (s := { s with heap := h1, toks := t1 }) hl.isList ?_
  obtain ⟨n, hn⟩ := id hl
  have hne : l ≠ h1.objs.size := Nat.ne_of_lt (Heap.lt_size hn)
  have hlen : items.size = xs.length := by rw [← ri.length]; simp
  refine q _ _ _ _ _ _ _ (k1.trans (Keep.push _ _)) ⟨Walks.list I.ok.hh _ l hne items, hlen, ⟨⟨_, Heap.get?_push_size _ rfl, rfl, rfl⟩, hl.isList.push _⟩, none_of_keep k1 (size_none _), ?_, ?_, ?_⟩
  · rintro i k ⟨⟨o, e, hc, _⟩, _⟩
    exact ⟨o, _, e, hc, .inl rfl⟩
  · intro b hb nb
    rcases List.mem_cons.mp hb with w | hb
    · exact absurd w nb
    · rw [List.mem_singleton.mp hb]
      exact ⟨fun m => hY (.inr m), _, Heap.get?_push_of_some _ hn⟩
  · intro i v d hv hd
    obtain ⟨v', e', r'⟩ := ri.get i hd
    have : v' = v := by
      have h2 : items.toList[i]? = some v := by simpa using hv
      rw [e'] at h2; exact Option.some.inj h2
    subst this
    refine Rep.keep (h := h1) (r'.weak fun b y => ?_) (Keep.push _ _)
    rcases y with y | rfl
    · exact .inl y
    · exact .inr (size_none _)
/-- over a tuple -/
theorem IT.tuple {e : Expr} {xs : List D} (he : EV c σ e (.tuple xs)) : IT c σ e xs := by
  constructor; intro s X vs R E I q
  refine he.run s X vs _ _ I fun v h1 t1 k1 r1 => ?_
  obtain ⟨l, items, rfl, ⟨o, n, ho, hc, hd⟩, ri⟩ := r1.tuple_inv
  have ht : h1.IsTuple l items := ⟨o, ho, hc, n, hd⟩
  refine wpAny_pyIter_tuple (s := { s with heap := h1, toks := t1 }) ht ?_
  have hne : l ≠ h1.objs.size := Nat.ne_of_lt (Heap.lt_size ho)
  have hlen : items.size = xs.length := by rw [← ri.length]; simp
  refine q _ _ _ _ _ _ _ (k1.trans (Keep.push _ _)) ⟨Walks.tuple I.ok.hh _ l hne items, hlen, ⟨⟨_, Heap.get?_push_size _ rfl, rfl, rfl⟩, ⟨o, Heap.get?_push_of_some _ ho, hc, n, hd⟩⟩, none_of_keep k1 (size_none _), ?_, ?_, ?_⟩
  · rintro i k ⟨⟨o, e, hc, _⟩, _⟩
    exact ⟨o, _, e, hc, .inr (.inl rfl)⟩
  · intro b hb nb
    rcases List.mem_cons.mp hb with w | hb
    · exact absurd w nb
    · rw [List.mem_singleton.mp hb]
      refine ⟨fun m => ?_, _, Heap.get?_push_of_some _ ho⟩
      obtain ⟨o', e', nt⟩ := (I.grow k1).alive l (.inr m)
      rw [ho] at e'; cases e'
      exact nt hc _ _ hd
  · intro i v d hv hd
    obtain ⟨v', e', r'⟩ := ri.get i hd
    have : v' = v := by
      have h2 : items.toList[i]? = some v := by simpa using hv
      rw [e'] at h2; exact Option.some.inj h2
    subst this
    refine Rep.keep (h := h1) (r'.weak fun b y => ?_) (Keep.push _ _)
    rcases y with y | rfl
    · exact .inl y
    · exact .inr (size_none _)

/-- a while by an invariant and a measure -/
theorem WP.while {t : Expr} {body rest : List Stmt} {p : Pos} {Q : Out → Prop} (P : Nat → List Slot → Prop) (n : Nat) (h0 : P n σ)
    (step : ∀ m σ', P m σ' → ∃ b, TS c σ' t b ∧ (b = true → WP c σ' body (forQ c rest Q fun σ'' => ∃ m', m' < m ∧ P m' σ'')) ∧ (b = false → WP c σ' rest Q)) : WP c σ (.While t body [] p :: rest) Q := by
  refine WP.cons ?_
  constructor; intro s X vs R E I k
  let J : Nat → Shared → Prop := fun m s' => ∃ vs' σ' h' tk', s' = { s with heap := h', toks := tk' } ∧ Inv c X h' vs' σ' ∧ P m σ' ∧ (∀ b o, ¬ Mut c vs σ b → s.heap.get? b = some o → h'.get? b = some o) ∧ ∀ b, Mut c vs' σ' b → Mut c vs σ b ∨ s.heap.get? b = none
  refine wpAny_While (codeAny_whileLoop J ?_ n ⟨vs, σ, s.heap, s.toks, rfl, I, h0, fun _ _ _ e => e, fun _ m => .inl m⟩)
  rintro m s' ⟨vs', σ', h', tk', rfl, I', hP, hk, he⟩
  obtain ⟨b, ht, h1, h2⟩ := step m σ' hP
  refine ht.run _ X vs' _ _ I' fun h1' t1 k1 => ?_
  have tr : ∀ {out : Out} {f : Flow} {h4 : Heap}, OutOk c X h1' vs' σ' h4 out f → OutOk c X s.heap vs σ h4 out f := fun r => (r.grown k1).trans hk he
  cases b with
  | true =>
    refine (h1 rfl).run _ X vs' _ _ (I'.grow k1) fun out f h4 t4 q r => ?_
    have r' := tr r
    cases out with
    | next σ4 =>
      obtain ⟨rfl, k4, vs4, I4, e4⟩ := r'
      obtain ⟨m', hm, hP4⟩ := q
      exact ⟨m', hm, vs4, σ4, h4, t4, rfl, I4, hP4, k4, e4⟩
    | cont σ4 =>
      obtain ⟨rfl, k4, vs4, I4, e4⟩ := r'
      obtain ⟨m', hm, hP4⟩ := q
      exact ⟨m', hm, vs4, σ4, h4, t4, rfl, I4, hP4, k4, e4⟩
    | brk σ4 =>
      obtain ⟨rfl, r2⟩ := r'
      exact k (.next σ4) _ _ _ q ⟨rfl, r2⟩
    | ret d =>
      obtain ⟨v, rfl, r2⟩ := id r'
      exact k (.ret d) _ _ _ q r'
  | false =>
    refine wpAny_execs_nil (k (.next σ') _ _ _ (h2 rfl) ?_)
    exact tr ⟨rfl, fun _ _ _ e => e, vs', I'.grow k1, fun _ m => .inl m⟩

/-- items -/
theorem EV.item2 {e e' : Expr} {p : Pos} {de di d : D} (he : EV c σ e de) (hi : EV c σ e' di) (hs : ∀ o i, ∃ ops, subscripted e' false o i = operate ops (getItem o i))
    (h : ∀ (s : Shared) (X : AS) (vs : Nat → Option Value) (u v : Value) (R : Value → Shared → Prop) (E : Value → Shared → Prop), Inv c X s.heap vs σ → Rep s.heap (Off c X vs σ) u de → Rep s.heap (Off c X vs σ) v di →
      (∀ v h' tk', Keep s.heap h' → Rep h' (Off c X vs σ) v d → R v { s with heap := h', toks := tk' }) → ∃ T id, s.TypeIs u T ∧ typeLookup (.type T) "__getitem__" = pure (some (.builtin id)) ∧ wpAny (model c.G.prog c.G.w) c.A (getItem u v) R E s) : EV c σ (.Subscript e e' p) d := by
  constructor; intro s X vs R E I q
  refine PyProof.Rows.Subscript_ (he.run s X vs _ _ I fun u h1 t1 k1 r1 => hi.run _ X vs _ _ (I.grow k1) fun v h2 t2 k2 r2 => ?_)
  obtain ⟨T, id, hT, hl, hg⟩ := h { s with heap := h2, toks := t2 } X vs u v R E ((I.grow k1).grow k2) (r1.keep k2) r2 fun v h' tk' k r => q v h' tk' (k1.trans (k2.trans k)) r
  obtain ⟨ops, hs⟩ := hs u v
  exact PyProof.Rows.tail_any hT hl hg hs
/-- no slice -/
def noSlice : Expr → Bool
  | .Slice .. => false
  | _ => true
theorem sub_of {e : Expr} (h : noSlice e = true) : ∀ o i, ∃ ops, subscripted e false o i = operate ops (getItem o i) := by
  intro o i
  cases e <;> first | exact ⟨_, rfl⟩ | cases h
theorem EV.item {e e' : Expr} {p : Pos} {xs : List D} {i : Int} {d : D} (he : EV c σ e (.list xs)) (hi : EV c σ e' (.int i)) (hs : noSlice e' = true) (h0 : 0 ≤ i) (hz : i < 2 ^ 62) (hd : xs[i.toNat]? = some d) : EV c σ (.Subscript e e' p) d :=
  EV.item2 he hi (sub_of hs) fun s X vs u v R E I ru rv q => by
    obtain ⟨a, items, rfl, hl, _, ri⟩ := ru.list_inv
    obtain ⟨_, rfl⟩ := rv.int_inv
    obtain ⟨x, ex, rx⟩ := ri.get _ hd
    exact ⟨"list", _, hl.isList.typeIs, slot_list_getitem.lookup, wpAny_getItem_list hl.isList h0 (by omega) (by simpa using ex) (q _ s.heap s.toks (Keep.refl _) rx)⟩
theorem EV.itemT {e e' : Expr} {p : Pos} {xs : List D} {i : Int} {d : D} (he : EV c σ e (.tuple xs)) (hi : EV c σ e' (.int i)) (hs : noSlice e' = true) (h0 : 0 ≤ i) (hz : i < 2 ^ 62) (hd : xs[i.toNat]? = some d) : EV c σ (.Subscript e e' p) d :=
  EV.item2 he hi (sub_of hs) fun s X vs u v R E I ru rv q => by
    obtain ⟨a, items, rfl, ⟨o, n, ho, hc, hdt⟩, ri⟩ := ru.tuple_inv
    obtain ⟨_, rfl⟩ := rv.int_inv
    obtain ⟨x, ex, rx⟩ := ri.get _ hd
    have ht : PyProof.Rows.IsTup s.heap a items := ⟨o, ho, hc, n, hdt⟩
    have hlt : i < items.size := by
      have := (List.getElem?_eq_some_iff.mp ex).1
      have h2 : items.toList.length = items.size := by simp
      omega
    exact ⟨"tuple", _, ht.typeIs, F.slot_tuple_getitem.lookup, PyProof.Rows.getItem_tuple ht (by omega) (by omega) (seqIndex_of h0 hlt) (by simpa using ex) (q _ s.heap s.toks (Keep.refl _) rx)⟩
end
end Mine
end
section
namespace Mine
open PySem PySem.Calls

section
variable {c : Cx} {σ : List Slot}

/-- a list to be read at once: a value, or an owned one -/
structure EVo (c : Cx) (σ : List Slot) (e : Expr) (xs : List D) : Prop where
  run : ∀ (s : Shared) (X : AS) (vs : Nat → Option Value) (R : Value → Shared → Prop) (E : Value → Shared → Prop), Inv c X s.heap vs σ →
    (∀ a items h' tk', Keep s.heap h' → IsLx h' a items → RepAll h' (Off c X vs σ) items.toList xs → R (.ref a) { s with heap := h', toks := tk' }) → wpAny (model c.G.prog c.G.w) c.A (eval e c.env) R E s
theorem EV.evo {e : Expr} {xs : List D} (h : EV c σ e (.list xs)) : EVo c σ e xs := by
  constructor; intro s X vs R E I q
  refine h.run s X vs _ _ I fun v h1 t1 k1 r1 => ?_
  obtain ⟨a, items, rfl, hl, _, ri⟩ := r1.list_inv
  exact q a items h1 t1 k1 hl ri
theorem EVo.own {x : Str} {p : Pos} {i : Nat} {xs : List D} (hi : slotOf c.names x = some i) (hk : isVar c x = true) (hd : σ[i]? = some (.own xs)) : EVo c σ (.Name x p) xs := by
  constructor; intro s X vs R E I q
  obtain ⟨a, items, e, l, r⟩ := I.slot i _ hd
  exact wp_load I (slotOf_get hi) (isVar.kind I.ok hk).1 (isVar.kind I.ok hk).2 e (q a items s.heap s.toks (Keep.refl _) l r)

theorem wp_bui {X : AS} {s : Shared} {vs : Nat → Option Value} {f : Str} {id : String} {p pos : Pos} {e : Expr} {R : Value → Shared → Prop} {E : Value → Shared → Prop} (B : isBui c f (.builtin id)) (I : Inv c X s.heap vs σ) (hn : noStar e = true)
    (h : wpAny (model c.G.prog c.G.w) c.A (eval e c.env) (fun v s₁ => wpAny (model c.G.prog c.G.w) c.A (call (.builtin id) [v]) R E s₁) E s) : wpAny (model c.G.prog c.G.w) c.A (eval (.Call (.Name f p) [e] [] pos) c.env) R E s := by
  refine wpAny_Call_NameR (B.load I ?_)
  refine callWith_builtin (noStar_any (by simp [hn])) (wp_args hn ?_)
  exact wpAny_items_cons (wpAny_mono h (fun v s₁ h₁ => wpAny_items_nil h₁) fun _ _ e => e) (starEach_of hn)
theorem EV.lenO {p pos : Pos} {e : Expr} {xs : List D} (B : isBui c (PySem.Str.ofString "len") (.builtin "len")) (he : EVo c σ e xs) (hn : noStar e = true) (hz : xs.length < 2 ^ 62) :
    EV c σ (.Call (.Name (PySem.Str.ofString "len") p) [e] [] pos) (.int xs.length) := by
  constructor; intro s X vs R E I q
  refine wp_bui B I hn (he.run s X vs _ _ I fun a items h1 t1 k1 hl ri => ?_)
  have hz' : items.size = xs.length := by rw [← ri.length]; simp
  exact call_len_list (s := { s with heap := h1, toks := t1 }) hl.isList (by omega) (by rw [hz']; exact q _ _ _ k1 Rep.int)
theorem EV.itemO {e e' : Expr} {p : Pos} {xs : List D} {i : Int} {d : D} (he : EVo c σ e xs) (hi : EV c σ e' (.int i)) (hs : noSlice e' = true) (h0 : 0 ≤ i) (hz : i < 2 ^ 62) (hd : xs[i.toNat]? = some d) : EV c σ (.Subscript e e' p) d := by
  constructor; intro s X vs R E I q
  refine PyProof.Rows.Subscript_ (he.run s X vs _ _ I fun a items h1 t1 k1 hl ri => hi.run _ X vs _ _ (I.grow k1) fun v h2 t2 k2 r2 => ?_)
  obtain ⟨_, rfl⟩ := r2.int_inv
  obtain ⟨n, hn⟩ := hl
  have hl2 : IsLx h2 a items := ⟨n, k2 _ _ hn⟩
  obtain ⟨x, ex, rx⟩ := (ri.keep k2).get _ hd
  obtain ⟨ops, hs⟩ := sub_of hs (.ref a) (.int i _)
  exact PyProof.Rows.tail_any (s := { s with heap := h2, toks := t2 }) hl2.isList.typeIs slot_list_getitem.lookup (wpAny_getItem_list hl2.isList h0 (by omega) (by simpa using ex) (q _ _ _ (k1.trans k2) rx)) hs

/-- a slice's bound -/
structure EVp (c : Cx) (σ : List Slot) (e : Option Expr) (k : Option Int) : Prop where
  run : ∀ (s : Shared) (X : AS) (vs : Nat → Option Value) (R : Value → Shared → Prop) (E : Value → Shared → Prop), Inv c X s.heap vs σ →
    (∀ v h' tk', Keep s.heap h' → IsPart v k → R v { s with heap := h', toks := tk' }) → wpAny (model c.G.prog c.G.w) c.A (evalPart e c.env) R E s
theorem EVp.none : EVp c σ none none := ⟨fun s _ _ _ _ _ q => wpAny_pure (q _ s.heap s.toks (Keep.refl _) .none)⟩
theorem EVp.some {e : Expr} {i : Int} (h : EV c σ e (.int i)) : EVp c σ (some e) (some i) := by
  constructor; intro s X vs R E I q
  refine h.run s X vs _ _ I fun v h1 t1 k1 r1 => ?_
  obtain ⟨t, rfl⟩ := r1.int_inv
  exact q _ _ _ k1 (.int i t)

/-- xs[lo:hi] -/
def cut {α : Type} (lo hi : Option Int) (xs : List α) : List α := (xs.drop (lo.elim 0 (clipAt xs.length))).take (hi.elim xs.length (clipAt xs.length) - lo.elim 0 (clipAt xs.length))

theorem cut_map {α β : Type} (f : α → β) (lo hi : Option Int) (xs : List α) : cut lo hi (xs.map f) = (cut lo hi xs).map f := by
  simp [cut, List.map_take, List.map_drop]

theorem EVF.slice {e : Expr} {l u : Option Expr} {p pos : Pos} {xs : List D} {lo hi : Option Int} (he : EVo c σ e xs) (hl : EVp c σ l lo) (hu : EVp c σ u hi) (hz : xs.length ≤ 2 ^ 20) : EVF c σ (.Subscript e (.Slice l u none p) pos) (cut lo hi xs) := by
  constructor; intro s X vs R E I q
  refine PyProof.Rows.Subscript_ (he.run s X vs _ _ I fun a items h1 t1 k1 hx ri => wpAny_Slice (hl.run _ X vs _ _ (I.grow k1) fun vl h2 t2 k2 r2 => hu.run _ X vs _ _ ((I.grow k1).grow k2) fun vu h3 t3 k3 r3 => wpAny_pure ?_))
  obtain ⟨n, hn⟩ := hx
  have hlen : items.size = xs.length := by rw [← ri.length]; simp
  have hx4 : IsLx (h3.push { cls := .type "slice", data := .fields #[vl, vu, Value.none] }) a items := ⟨n, Heap.get?_push_of_some _ (k3 _ _ (k2 _ _ hn))⟩
  refine PyProof.Rows.tail_any (s := { s with heap := h3.push { cls := .type "slice", data := .fields #[vl, vu, Value.none] }, toks := t3 }) hx4.isList.typeIs slot_list_getitem.lookup
    (wpAny_getItem_list_slice hx4.isList (Heap.IsSliceOf.new ..) r2 r3 .none (by simp) ?_ (by rw [hlen]; exact Nat.le_trans hz (by decide))) rfl
  rw [slicePick_plain]
  have k4 : Keep s.heap (h3.push { cls := .type "slice", data := .fields #[vl, vu, Value.none] }) := k1.trans (k2.trans (k3.trans (Keep.push _ _)))
  refine newF q k4 ?_
  have r4 := ri.keep (k2.trans (k3.trans (Keep.push h3 { cls := .type "slice", data := .fields #[vl, vu, Value.none] })))
  rw [hlen]
  exact (r4.drop _).take _

/-- an owned list's items change -/
theorem Inv.poke {X : AS} {h h' : Heap} {vs : Nat → Option Value} {i : Nat} {xs xs' : List D} {a : Addr} {items' : Array Value} (I : Inv c X h vs σ) (hi : σ[i]? = some (.own xs)) (hv : vs i = some (.ref a))
    (hs : Heap.SameBut a h h') (hl : IsLx h' a items') (r : RepAll h (Off c X vs σ) items'.toList xs') : Inv c X h' vs (σ.set i (.own xs')) ∧ (∀ b, Mut c vs (σ.set i (.own xs')) b ↔ Mut c vs σ b) := by
  have ho : ∀ j b, OwnAt vs (σ.set i (.own xs')) j b ↔ OwnAt vs σ j b := by
    intro j b
    by_cases q : j = i
    · subst q
      have hlt := (List.getElem?_eq_some_iff.mp hi).1
      constructor
      · rintro ⟨_, e⟩; exact ⟨⟨xs, hi⟩, e⟩
      · rintro ⟨_, e⟩; exact ⟨⟨xs', by rw [List.getElem?_set]; simp [hlt]⟩, e⟩
    · constructor
      · rintro ⟨⟨ys, e⟩, e2⟩; rw [List.getElem?_set_ne (Ne.symm q)] at e; exact ⟨⟨ys, e⟩, e2⟩
      · rintro ⟨⟨ys, e⟩, e2⟩; exact ⟨⟨ys, by rw [List.getElem?_set_ne (Ne.symm q)]; exact e⟩, e2⟩
  have hm : ∀ b, Mut c vs (σ.set i (.own xs')) b ↔ Mut c vs σ b := by
    intro b
    constructor
    · rintro (k | k | ⟨j, k⟩)
      · exact .inl k
      · exact .inr (.inl k)
      · exact .inr (.inr ⟨j, (ho j b).mp k⟩)
    · rintro (k | k | ⟨j, k⟩)
      · exact .inl k
      · exact .inr (.inl k)
      · exact .inr (.inr ⟨j, (ho j b).mpr k⟩)
  have hoff : ∀ b, Off c X vs (σ.set i (.own xs')) b → Off c X vs σ b := fun b k => k.imp id (hm b).mp
  have own : OwnAt vs σ i a := ⟨⟨xs, hi⟩, hv⟩
  have ma : Mut c vs σ a := .inr (.inr ⟨i, own⟩)
  have hk : ∀ b o, h.get? b = some o → b ≠ a → h'.get? b = some o := fun b o e n => (hs.2 b n).trans e
  have hkept : ∀ b o, h.get? b = some o → ¬ Off c X vs σ b ∨ ¬ NT o → h'.get? b = some o := fun b o e k => hk b o e fun q => by
    subst q
    rcases k with k | k
    · exact k (.inr ma)
    · obtain ⟨o', e', n⟩ := I.alive b (.inr ma)
      rw [e] at e'; cases e'; exact k n
  refine ⟨⟨I.ok, fun b o e => hk b o (I.keep b o e) fun q => ?_, ?_, ?_, ?_, fun j k b hj hk => I.own1 j k b ((ho j b).mp hj) ((ho k b).mp hk), fun j b hj => I.ownC j b ((ho j b).mp hj), fun b m => I.sep b ((hm b).mp m), ?_⟩, hm⟩
  · subst q; rw [(I.sep b ma).2] at e; cases e
  · obtain ⟨m, hn, hm⟩ := I.loc
    exact ⟨m, hn.sameBut hs (Ne.symm (I.ownC i a own).1), hm⟩
  · intro j y hj hy
    obtain ⟨b, e1, o, e2, e3⟩ := I.cel j y hj hy
    exact ⟨b, e1, o, hk b o e2 (fun q => (I.ownC i a own).2 y (q ▸ e1)), e3⟩
  · intro j sl e
    by_cases q : j = i
    · subst q
      rw [List.getElem?_set] at e
      simp only [if_true] at e
      split at e
      · cases e
        exact ⟨a, items', hv, hl, (r.kept hkept).weak fun b y => .inl (hoff b y)⟩
      · cases e
    · rw [List.getElem?_set_ne (Ne.symm q)] at e
      have := (I.slot j sl e).kept hkept fun ys e1 b e2 o e3 => hk b o e3 fun w => by
        subst w; exact q (I.own1 j i b ⟨⟨ys, e1 ▸ e⟩, e2⟩ own)
      cases sl with
      | un => trivial
      | val d => obtain ⟨v, e, r⟩ := this; exact ⟨v, e, r.weak fun b y => .inl (hoff b y)⟩
      | own ys => obtain ⟨b, items, e, l, r⟩ := this; exact ⟨b, items, e, l, r.weak fun b y => .inl (hoff b y)⟩
  · intro b k
    by_cases q : b = a
    · subst q
      obtain ⟨n, e⟩ := hl
      exact ⟨_, e, fun q => absurd (show Value.type "list" = Value.type "tuple" from q) (by decide)⟩
    · obtain ⟨o, e, n⟩ := I.alive b (hoff b k)
      exact ⟨o, hk b o e q, n⟩

theorem notInteractive {X : AS} {h : Heap} {vs : Nat → Option Value} (I : Inv c X h vs σ) : interactive c.env = false := by
  unfold interactive; rw [I.ok.kind]; rfl

theorem attrBase {x : Str} {p : Pos} {n : Str} {env : Env} {t : Sem Value} : attributeBase (.Name x p) n env t = t := rfl

theorem WP.append {x : Str} {p ap cp ep : Pos} {e : Expr} {d : D} {xs : List D} {i : Nat} {rest : List Stmt} {Q : Out → Prop} (hi : slotOf c.names x = some i) (hk : isVar c x = true) (hx : σ[i]? = some (.own xs)) (he : EV c σ e d) (hn : noStar e = true)
    (hline : (ap.endLine == cp.line) = true) (hz : xs.length < 2 ^ 20) (h : WP c (σ.set i (.own (xs ++ [d]))) rest Q) : WP c σ (.Expr (.Call (.Attribute (.Name x p) "append" ap) [e] [] cp) ep :: rest) Q := by
  refine WP.cons ?_
  constructor; intro s X vs R E I k
  obtain ⟨a, items, ea, hl, ri⟩ := I.slot i _ hx
  obtain ⟨n, hl⟩ := hl
  refine wpAny_Expr (wpAny_Call_append attrBase (by rw [starEach_of hn]; rfl) hline (by rw [starEach_of hn]; rfl) ?_) (notInteractive I) rfl
  refine wp_load I (slotOf_get hi) (isVar.kind I.ok hk).1 (isVar.kind I.ok hk).2 ea ⟨a, items, rfl, ⟨_, n, hl, rfl, rfl, rfl⟩, ?_⟩
  refine he.run s X vs _ _ I fun v h1 t1 k1 r1 => ?_
  have I1 := I.grow k1
  have hlen : items.size = xs.length := by rw [← ri.length]; simp
  refine wpAny_list_append_plain (s := { s with heap := h1, toks := t1 }) (items := items) ⟨n, k1 _ _ hl⟩ (fun h2 hl2 hs2 => ?_) (by rw [hlen]; exact Nat.le_of_lt (Nat.lt_trans hz (by decide)))
  have P := I1.poke hx ea hs2 hl2 (xs' := xs ++ [d]) (by rw [Array.toList_push]; exact RepAll.append (ri.keep k1) (RepAll.cons r1 RepAll.nil))
  refine k (.next (σ.set i (.own (xs ++ [d])))) _ _ _ h ⟨rfl, fun b o nb e => ?_, vs, P.1, fun b m => .inl ((P.2 b).mp m)⟩
  exact (hs2.2 b fun w => nb (by subst w; exact .inr (.inr ⟨i, ⟨xs, hx⟩, ea⟩))).trans (k1 b o e)
end
end Mine
end
section
namespace Mine
open PySem PySem.Calls

section
variable {c : Cx} {σ : List Slot}

/-- comparing data -/
theorem units_ok {X : AS} {h : Heap} {vs : Nat → Option Value} (I : Inv c X h vs σ) : c.A.units + 64 < cLine := by
  have := I.ok.units; omega
theorem TS.eqD {l r : Expr} {p : Pos} {da db : D} (hl : EV c σ l da) (hr : EV c σ r db) (hn : noSet r = true) (ha : SeqAt.shaped da = true) (hb : SeqAt.shaped db = true) : TS c σ (.Compare l [.Eq] [r] p) (PyData.eqv da db) :=
  TS.cmp hl hr hn fun s X vs u v R E I ru rv q => by
    obtain ⟨_, ru, _⟩ := ru; obtain ⟨_, rv, _⟩ := rv
    exact SeqAt.compareEq_shaped ru rv ha hb (units_ok I) q
theorem TS.neD {l r : Expr} {p : Pos} {da db : D} (hl : EV c σ l da) (hr : EV c σ r db) (hn : noSet r = true) (ha : SeqAt.shaped da = true) (hb : SeqAt.shaped db = true) : TS c σ (.Compare l [.NotEq] [r] p) (!PyData.eqv da db) :=
  TS.cmp hl hr hn fun s X vs u v R E I ru rv q => by
    obtain ⟨_, ru, _⟩ := ru; obtain ⟨_, rv, _⟩ := rv
    exact SeqAt.compareNe_shaped ru rv ha hb (units_ok I) q

/-- two lists put together -/
theorem EVF.cat {l r : Expr} {p : Pos} {xs ys : List D} (hl : EV c σ l (.list xs)) (hr : EV c σ r (.list ys)) (hz : xs.length + ys.length ≤ 2 ^ 20) : EVF c σ (.BinOp l .Add r p) (xs ++ ys) := by
  constructor; intro s X vs R E I q
  refine wpAny_BinOp (hl.run s X vs _ _ I fun u h1 t1 k1 r1 => hr.run _ X vs _ _ (I.grow k1) fun v h2 t2 k2 r2 => ?_)
  obtain ⟨a, items, rfl, ⟨n, ha⟩, _, ri⟩ := (r1.keep k2).list_inv
  obtain ⟨b, items2, rfl, ⟨n2, hb⟩, _, ri2⟩ := r2.list_inv
  have e1 : items.size = xs.length := by rw [← ri.length]; simp
  have e2 : items2.size = ys.length := by rw [← ri2.length]; simp
  refine P.add_list (s := { s with heap := h2, toks := t2 }) ha hb ?_ (by rw [e1, e2]; exact Nat.le_trans hz (by decide))
  have := newF q (k1.trans k2) (t1 := t2) (ri.append ri2)
  rw [show (items.toList ++ items2.toList).toArray = items ++ items2 by simp] at this
  exact this

/-- several targets -/
structure TGs (c : Cx) (ts : List Expr) (ds : List D) (σ σ' : List Slot) : Prop where
  run : ∀ (s : Shared) (X : AS) (vs : Nat → Option Value) (us : List Value) (R : Unit → Shared → Prop) (E : Value → Shared → Prop), Inv c X s.heap vs σ → RepAll s.heap (Off c X vs σ) us ds →
    (∀ h' tk' vs', (∀ b o, ¬ Mut c vs σ b → s.heap.get? b = some o → h'.get? b = some o) → Inv c X h' vs' σ' → (∀ a, Mut c vs' σ' a → Mut c vs σ a) → R () { s with heap := h', toks := tk' }) →
      wpAny (model c.G.prog c.G.w) c.A (assignInOrder ((assignEach ts c.env).map (·.2)) us) R E s
theorem TGs.nil : TGs c [] [] σ σ := ⟨fun s _ vs _ _ _ I _ k => wpAny_pure (k s.heap s.toks vs (fun _ _ _ e => e) I fun _ m => m)⟩
theorem assignEach_of {t : Expr} {ts : List Expr} {env : Env} (h : noStar t = true) : assignEach (t :: ts) env = (false, assign t env) :: assignEach ts env := by
  cases t <;> first | rfl | cases h
theorem RepAll.move {h h' : Heap} {Y Y' : AS} : ∀ {vs : List Value} {ds : List D}, RepAll h Y vs ds → (∀ b o, h.get? b = some o → ¬ Y b ∨ ¬ NT o → h'.get? b = some o) → (∀ a, Y' a → Y a ∨ h.get? a = Option.none) → RepAll h' Y' vs ds
  | vs, [], q, _, _ => by rw [q.nil_inv]; exact RepAll.nil
  | vs, d :: ds, q, hk, hy => by
    obtain ⟨v, us, rfl, r, q⟩ := q.cons_inv
    exact RepAll.cons (r.move hk hy) (q.move hk hy)
theorem TGs.cons {t : Expr} {ts : List Expr} {d : D} {ds : List D} {σ1 σ' : List Slot} (h : TG c t d σ σ1) (hs : TGs c ts ds σ1 σ') (hn : noStar t = true) : TGs c (t :: ts) (d :: ds) σ σ' := by
  constructor; intro s X vs us R E I ru k
  obtain ⟨u, us, rfl, r, ru'⟩ := ru.cons_inv
  rw [assignEach_of hn]
  refine PyProof.Rows.assignInOrder_cons (h.run s X vs u _ _ I r fun h1 t1 vs1 k1 I1 m1 => ?_)
  refine hs.run _ X vs1 us _ _ I1 (ru'.move (fun b o e q => k1 b o (fun m => ?_) e) fun a y => .inl (y.imp id (m1 a))) fun h2 t2 vs2 k2 I2 m2 => k h2 t2 vs2 (fun b o n e => k2 b o (fun m => n (m1 b m)) (k1 b o n e)) I2 fun a m => m1 a (m2 a m)
  rcases q with q | q
  · exact q (.inr m)
  · obtain ⟨o', e', nt⟩ := I.alive b (.inr m)
    rw [e] at e'; cases e'; exact q nt
theorem assignEach_length {env : Env} : ∀ {ts : List Expr}, ts.all noStar = true → (assignEach ts env).length = ts.length ∧ (assignEach ts env).findIdx? (·.1) = none
  | [], _ => ⟨rfl, rfl⟩
  | t :: ts, h => by
    simp only [List.all_cons, Bool.and_eq_true] at h
    obtain ⟨h1, h2⟩ := assignEach_length (env := env) h.2
    rw [assignEach_of h.1]
    refine ⟨by simp [h1], ?_⟩
    rw [List.findIdx?_cons]
    simp [h2]
theorem TG.tuple {ts : List Expr} {k : Nat} {p : Pos} {ds : List D} {σ' : List Slot} (hs : TGs c ts ds σ σ') (hn : ts.all noStar = true) (hl : ts.length = ds.length) : TG c (.Tuple ts k p) (.tuple ds) σ σ' := by
  constructor; intro s X vs v R E I r q
  obtain ⟨a, items, rfl, ⟨o, n, ho, hc, hd⟩, ri⟩ := r.tuple_inv
  have ht : s.heap.IsTuple a items := ⟨o, ho, hc, n, hd⟩
  have hlen : items.size = ds.length := by rw [← ri.length]; simp
  obtain ⟨e1, e2⟩ := assignEach_length (env := c.env) hn
  refine wpAny_assign_Tuple I.ok.hh ht (by rw [e1, hl, hlen]) e2 fun h' hx => ?_
  have kk : Keep s.heap h' := fun b o e => hx b o (fun w => by rw [w, size_none] at e; cases e) e
  exact hs.run _ X vs _ _ _ (I.grow kk) (ri.keep kk) fun h2 t2 vs2 k2 I2 m2 => q h2 t2 vs2 (fun b o n e => k2 b o n (kk b o e)) I2 m2

/-- no tuple, no comprehension on the right -/
def plainRight : Expr → Bool
  | .Name .. | .Call .. | .Subscript .. => true
  | _ => false
theorem WP.unpack {ts : List Expr} {k : Nat} {tp p : Pos} {e : Expr} {d : D} {σ' : List Slot} {rest : List Stmt} {Q : Out → Prop} (he : EV c σ e d) (hp : plainRight e = true) (ht : TG c (.Tuple ts k tp) d σ σ')
    (h : WP c σ' rest Q) : WP c σ (.Assign [.Tuple ts k tp] e p :: rest) Q := by
  refine WP.cons ?_
  constructor; intro s X vs R E I k'
  refine PyProof.Rows.Assign_Tuple (he.run s X vs _ _ I fun v h1 t1 k1 r1 => ?_) (by cases e <;> first | rfl | cases hp) (by cases e <;> first | rfl | cases hp)
  refine ht.run _ X vs v _ _ (I.grow k1) r1 fun h2 t2 vs2 k2 I2 m2 => ?_
  exact k' (.next σ') _ _ _ h ⟨rfl, fun b o n e => k2 b o n (k1 b o e), vs2, I2, fun a m => .inl (m2 a m)⟩

/-- what a def gives for these arguments -/
def FnSpec (G : GX) (f : Addr) (args : List D) (P : D → Prop) (n : Nat) : Prop :=
  ∀ (A : Around) (s : Shared) (X : AS) (us : List Value) (R : Value → Shared → Prop) (E : Value → Shared → Prop), Keep G.hb s.heap → A.handled = none → A.depth + n < recursionLimit → A.units + 8 * n + 100 < cLine →
    (∀ a, X a → ∃ o, s.heap.get? a = some o ∧ NT o) → RepAll s.heap X us args →
    (∀ v r h' tk', P r → Keep s.heap h' → Rep h' X v r → R v { s with heap := h', toks := tk' }) → wpAny (model G.prog G.w) A (call (.ref f) us) R E s
theorem FnSpec.mono {G : GX} {f : Addr} {args : List D} {P : D → Prop} {n m : Nat} (h : FnSpec G f args P n) (hm : n ≤ m) : FnSpec G f args P m :=
  fun A s X us R E k h1 h2 h3 a ru q => h A s X us R E k h1 (by omega) (by omega) a ru q

structure IsFn (G : GX) (x : Str) (f : Addr) : Prop where
  glob : G.mg x = some (.ref f)
  fn : ∃ o fd, G.hb.get? f = some o ∧ o.data = .func fd
/-- an expression's value, known in part -/
structure EVP (c : Cx) (σ : List Slot) (e : Expr) (P : D → Prop) : Prop where
  run : ∀ (s : Shared) (X : AS) (vs : Nat → Option Value) (R : Value → Shared → Prop) (E : Value → Shared → Prop), Inv c X s.heap vs σ →
    (∀ v d h' tk', P d → Keep s.heap h' → Rep h' (Off c X vs σ) v d → R v { s with heap := h', toks := tk' }) → wpAny (model c.G.prog c.G.w) c.A (eval e c.env) R E s
theorem EVP.ev {e : Expr} {d : D} (h : EVP c σ e (· = d)) : EV c σ e d :=
  ⟨fun s X vs R E I q => h.run s X vs R E I fun v d' h' tk' e k r => q v h' tk' k (e ▸ r)⟩
theorem EVP.call {x : Str} {p pos : Pos} {f : Addr} {e : Expr} {es : List Expr} {ds : List D} {P : D → Prop} {n : Nat} (hk : c.kinds.lookup x = some .globalImplicit) (hd : (x == ("__debug__" : Str)) = false) (hf : IsFn c.G x f) (hs : EVs c σ (e :: es) ds) (hn : noStar e = true)
    (h : FnSpec c.G f ds P n) (hr : n ≤ c.room) : EVP c σ (.Call (.Name x p) (e :: es) [] pos) P := by
  constructor; intro s X vs R E I q
  refine wpAny_Call_NameR (Name_function_global I.ok.kind ((I.ok.kinds x).trans hk) (loadGlobal_global (env := c.env) ?_ hf.glob ?_) hd)
  · rw [I.ok.glob]; exact (I.ok.g.g.keeps I.ok.keepB).keeps I.keep
  obtain ⟨o, fd, ho, hfd⟩ := hf.fn
  refine callWith_function (o := o) (fd := fd) (wp_args hn (hs.run s X vs _ _ pos I fun us h1 t1 k1 r1 => ⟨⟨?_, hfd⟩, ?_⟩))
  · exact k1 _ _ (I.keep _ _ (I.ok.keepB _ _ ho))
  have I1 := I.grow k1
  exact (h.mono hr) c.A _ (Off c X vs σ) us _ _ (I.ok.keepB.trans I1.keep) I.ok.hh I.ok.depth I.ok.units I1.alive r1 fun v r h' tk' hp k r' => q v r h' tk' hp (k1.trans k) r'
theorem EV.call {x : Str} {p pos : Pos} {f : Addr} {e : Expr} {es : List Expr} {ds : List D} {r : D} {n : Nat} (hk : c.kinds.lookup x = some .globalImplicit) (hd : (x == ("__debug__" : Str)) = false) (hf : IsFn c.G x f) (hs : EVs c σ (e :: es) ds) (hn : noStar e = true)
    (h : FnSpec c.G f ds (· = r) n) (hr : n ≤ c.room) : EV c σ (.Call (.Name x p) (e :: es) [] pos) r := (EVP.call hk hd hf hs hn h hr).ev
theorem WP.assignP {x : Str} {p p' : Pos} {e : Expr} {P : D → Prop} {i : Nat} {rest : List Stmt} {Q : Out → Prop} (hi : slotOf c.names x = some i) (hk : isVar c x = true) (hc : noComp e = true) (he : EVP c σ e P)
    (h : ∀ d, P d → WP c (σ.set i (.val d)) rest Q) : WP c σ (.Assign [.Name x p'] e p :: rest) Q := by
  refine WP.cons ?_
  constructor; intro s X vs R E I k
  refine wpAny_Assign_Name (he.run s X vs _ _ I fun v d h1 t1 hp k1 r1 => ?_) (swaps_of hc)
  have I1 := I.grow k1
  refine wp_store I1 (slotOf_get hi) (isVar.kind I.ok hk).1 fun h2 t2 S => ?_
  refine k (.next (σ.set i (.val d))) _ _ _ (h d hp) ⟨rfl, fun b o n q => S.keeps b o n (k1 b o q), upd vs i v, ?_, fun a m => ?_⟩
  · exact I1.put S (slotOf_get hi) (fun _ x => x) (fun xs e => by cases e) fun _ => ⟨v, rfl, r1⟩
  · exact mut_put (fun xs e => by cases e) m

/-- a def's own facts -/
structure FnIs (G : GX) (f : Addr) (fd : FuncData) : Prop where
  get : ∃ o, G.hb.get? f = some o ∧ o.data = .func fd
  code : G.hb.CodeRec fd.code fd.qualname
  glob : fd.globals = mainGlobals
  bui : fd.builtins = builtinsNs
  clo : fd.closure = []
  co : fd.scope.isCoroutine = false
  gen : fd.scope.isGenerator = false
  kind : fd.scope.kind = .function

theorem bindL_not {k : Str → Option NameKind} : ∀ {binds : List (Str × Value)} {m : Str → Option Value} {x : Str}, (∀ v, (x, v) ∉ binds) → bindL k binds m x = m x
  | [], _, _, _ => rfl
  | (n, v) :: r, m, x, h => by
    unfold bindL
    rw [bindL_not fun v' hm => h v' (.tail _ hm)]
    split
    · show (if x = n then some v else m x) = m x
      rw [if_neg]
      intro e; subst e; exact h v (.head _)
    · rfl
theorem bindC_not {k : Str → Option NameKind} : ∀ {binds : List (Str × Value)} {m : Str → Option Value} {x : Str}, (∀ v, (x, v) ∉ binds) → bindC k binds m x = m x
  | [], _, _, _ => rfl
  | (n, v) :: r, m, x, h => by
    unfold bindC
    rw [bindC_not fun v' hm => h v' (.tail _ hm)]
    split
    · rfl
    · show (if x = n then some v else m x) = m x
      rw [if_neg]
      intro e; subst e; exact h v (.head _)
theorem bindL_at {k : Str → Option NameKind} : ∀ {binds : List (Str × Value)} {m : Str → Option Value} {x : Str} {v : Value}, (binds.map (·.1)).Nodup → (x, v) ∈ binds → k x = some .local → bindL k binds m x = some v
  | (n, u) :: r, m, x, v, nd, h, hk => by
    unfold bindL
    rw [List.map_cons, List.nodup_cons] at nd
    rcases List.mem_cons.mp h with e | h
    · cases e
      rw [bindL_not fun v' hm => nd.1 (List.mem_map.mpr ⟨_, hm, rfl⟩), if_pos hk]
      exact if_pos rfl
    · exact bindL_at nd.2 h hk
theorem bindC_at {k : Str → Option NameKind} : ∀ {binds : List (Str × Value)} {m : Str → Option Value} {x : Str} {v : Value}, (binds.map (·.1)).Nodup → (x, v) ∈ binds → k x ≠ some .local → bindC k binds m x = some v
  | (n, u) :: r, m, x, v, nd, h, hk => by
    unfold bindC
    rw [List.map_cons, List.nodup_cons] at nd
    rcases List.mem_cons.mp h with e | h
    · cases e
      rw [bindC_not fun v' hm => nd.1 (List.mem_map.mpr ⟨_, hm, rfl⟩), if_neg hk]
      exact if_pos rfl
    · exact bindC_at nd.2 h hk

theorem cells_lookup : ∀ {l : List (Str × NameKind)} {n : Nat} {acc : List (Str × Addr)} {x : Str}, (l.lookup x = some .cell ∨ (acc.lookup x).isSome = true) → ((cellsFrom n l acc).lookup x).isSome = true
  | [], n, acc, x, h => h.elim (fun e => by simp at e) id
  | (y, k) :: r, n, acc, x, h => by
    unfold cellsFrom
    split
    · rename_i hk
      refine cells_lookup ?_
      by_cases e : x = y
      · right; subst e; simp
      · have e' : (x == y) = false := by simpa using e
        rcases h with h | h
        · left; rw [List.lookup_cons, e'] at h; exact h
        · right; rw [List.lookup_cons, e']; exact h
    · rename_i hk
      refine cells_lookup ?_
      rcases h with h | h
      · left
        rw [List.lookup_cons] at h
        split at h
        · cases h; exact absurd rfl hk
        · exact h
      · exact .inr h

/-- a def's body gives its spec -/
theorem FnSpec.intro {G : GX} {f : Addr} {fd : FuncData} {body : List Stmt} {params more : List Str} {kinds : List (Str × NameKind)} {args : List D} {P : D → Prop} {n : Nat} (hG : G.Ok) (hf : FnIs G f fd) (hb : fd.body = .stmts body) (hkinds : fd.scope.names = kinds)
    (hbind : ∀ us : List Value, us.length = params.length → bindArgs fd ⟨us, []⟩ = pure (params.zip us)) (hnd : (params ++ more).Nodup) (hkind : (params ++ more).all (fun x => kinds.lookup x == some .local || kinds.lookup x == some .cell) = true)
    (hlen : args.length = params.length)
    (h : ∀ (A : Around) (env : Env) (h0 : Heap), WP ⟨G, A, env, h0, params ++ more, kinds, n⟩ (args.map Slot.val ++ more.map fun _ => .un) body (fun o => ∃ d, o = .ret d ∧ P d)) : FnSpec G f args P (n + 1) := by
  intro A s X us R E kb hh hd hu al ru q
  obtain ⟨o, ho, hdat⟩ := hf.get
  have hus : us.length = params.length := by rw [ru.length, hlen]
  have hmap : (params.zip us).map (·.1) = params := List.map_fst_zip (by omega)
  have hkd : ∀ x ∈ params ++ more, kinds.lookup x = some .local ∨ kinds.lookup x = some .cell := fun x hx => by
    have := List.all_eq_true.mp hkind x hx
    simpa using this
  refine wpAny_call (codeAny_call_cells (by omega) (kb _ _ ho) hdat (hG.nolim.keeps kb) (hf.code.keeps kb) hb (hbind us hus) hf.clo ?_ ?_ hf.co hf.gen hf.kind)
  · intro x hx
    have hm : x.1 ∈ params := by rw [← hmap]; exact List.mem_map.mpr ⟨x, hx, rfl⟩
    rw [hkinds]
    rcases hkd x.1 (List.mem_append_left _ hm) with e | e
    · exact .inl e
    · exact .inr ⟨e, cells_lookup (.inl e)⟩
  · intro s₁ x
    have hkof : ∀ y, (callEnvC fd s.heap.objs.size f).kindOf y = kinds.lookup y := fun y => by rw [← hkinds]; rfl
    generalize henv : callEnvC fd s.heap.objs.size f = env at x hkof ⊢
    have e1 : env.scope.kind = .function := by rw [← henv]; exact hf.kind
    have e2 : env.globals = mainGlobals := by rw [← henv]; exact hf.glob
    have e3 : env.builtins = builtinsNs := by rw [← henv]; exact hf.bui
    obtain ⟨h₁, tk, rfl, kk⟩ := x.done
    have nsL := x.toInCall.ns
    have hL0 : ∀ a, env.locals ≤ a → s.heap.get? a = none := fun a ha => Heap.get?_none_of_le (Nat.le_trans x.toInCall.fresh ha)
    let vs : Nat → Option Value := fun i => ((params ++ more)[i]?).elim none fun y => if kinds.lookup y = some .local then bindL env.kindOf (params.zip us) (fun _ => none) y else bindC env.kindOf (params.zip us) (fun _ => none) y
    have vget : ∀ i y, (params ++ more)[i]? = some y → vs i = if kinds.lookup y = some .local then bindL env.kindOf (params.zip us) (fun _ => none) y else bindC env.kindOf (params.zip us) (fun _ => none) y := fun i y e => by
      show ((params ++ more)[i]?).elim _ _ = _
      rw [e]; rfl
    have hown : ∀ i a, ¬ OwnAt vs (args.map Slot.val ++ more.map fun _ => .un) i a := by
      rintro i a ⟨⟨xs, e⟩, _⟩
      rw [List.getElem?_append] at e
      split at e
      · rw [List.getElem?_map] at e
        cases q : args[i]? <;> rw [q] at e <;> cases e
      · rw [List.getElem?_map] at e
        cases q : more[i - (args.map Slot.val).length]? <;> rw [q] at e <;> cases e
    have ok : Cx.Ok ⟨G, A.deeper env, env, s.heap, params ++ more, kinds, n⟩ := ⟨hG, kb, e1, e2, e3, hh, by show A.depth + 1 + n < recursionLimit; omega, by show A.units + 3 + 8 * n + 100 < cLine; omega, hnd, hkof, x.apart, fun y a hm => Nat.ne_of_gt (x.above y a (mem_of_lookup hm))⟩
    have hmut : ∀ a, Mut ⟨G, A.deeper env, env, s.heap, params ++ more, kinds, n⟩ vs (args.map Slot.val ++ more.map fun _ => .un) a → env.locals ≤ a ∧ ∃ o, h₁.get? a = some o ∧ NT o := by
      rintro a (e | ⟨y, e⟩ | ⟨i, e⟩)
      · subst e
        obtain ⟨o, es, ep, e4, e5, _⟩ := nsL
        exact ⟨Nat.le_refl _, o, e4, fun _ v n q => by rw [e5] at q; cases q⟩
      · have hab := x.above y a (mem_of_lookup e)
        obtain ⟨o, e4, e5⟩ := x.cell y a e
        exact ⟨Nat.le_of_lt hab, o, e4, fun _ v n q => by rw [e5] at q; cases q⟩
      · exact absurd e (hown i a)
    have hX : ∀ a, X a → s.heap.get? a ≠ none := fun a hx e => by obtain ⟨o, e', _⟩ := al a hx; rw [e] at e'; cases e'
    have hY : ∀ a, Off ⟨G, A.deeper env, env, s.heap, params ++ more, kinds, n⟩ X vs (args.map Slot.val ++ more.map fun _ => .un) a → X a ∨ s.heap.get? a = none := by
      rintro a (k | k)
      · exact .inl k
      · exact .inr (hL0 a (hmut a k).1)
    have I : Inv ⟨G, A.deeper env, env, s.heap, params ++ more, kinds, n⟩ X h₁ vs (args.map Slot.val ++ more.map fun _ => .un) := by
      refine ⟨ok, kk, ⟨_, nsL, fun i y hy hl => ?_⟩, fun i y hy hl => ?_, fun i sl e => ?_, fun i j a hi _ => absurd hi (hown i a), fun i a hi => absurd hi (hown i a), fun a m => ?_, ?_⟩
      · rw [vget i y hy, ← hkof, if_pos hl]
      · rw [vget i y hy, ← hkof, if_neg (by rw [hl]; decide)]
        have hc : ∃ a, env.cells.lookup y = some a := by
          have : (env.cells.lookup y).isSome = true := by
            rw [← henv]
            refine cells_lookup (.inl ?_)
            rw [hkinds, ← hkof]; exact hl
          exact Option.isSome_iff_exists.mp this
        obtain ⟨a, ha⟩ := hc
        exact ⟨a, ha, x.cell y a ha⟩
      · rw [List.getElem?_append] at e
        split at e
        · rename_i hlt
          rw [List.length_map] at hlt
          rw [List.getElem?_map, List.getElem?_eq_getElem hlt] at e
          cases e
          obtain ⟨u, eu, r1⟩ := ru.get i (List.getElem?_eq_getElem hlt)
          have hi : i < params.length := by omega
          have hp : (params ++ more)[i]? = some params[i] := by rw [List.getElem?_append_left hi, List.getElem?_eq_getElem hi]
          have hmem : (params[i], u) ∈ params.zip us := by
            obtain ⟨hiu, eu'⟩ := List.getElem?_eq_some_iff.mp eu
            refine List.mem_iff_getElem.mpr ⟨i, by simp; omega, ?_⟩
            simp [eu']
          have ndz : ((params.zip us).map (·.1)).Nodup := by rw [hmap]; exact (List.nodup_append.mp hnd).1
          refine ⟨u, ?_, (r1.weak fun a y => hY a y).keep kk⟩
          rw [vget i _ hp]
          by_cases hl : kinds.lookup params[i] = some .local
          · rw [if_pos hl]; exact bindL_at ndz hmem ((hkof _).trans hl)
          · rw [if_neg hl]; exact bindC_at ndz hmem (by rw [hkof]; exact hl)
        · rw [List.getElem?_map] at e
          cases q : more[i - (args.map Slot.val).length]? <;> rw [q] at e <;> cases e
          trivial
      · have := hL0 a (hmut a m).1
        exact ⟨fun hx => hX a hx this, this⟩
      · rintro a (k | k)
        · obtain ⟨o, e, nt⟩ := al a k
          exact ⟨o, kk a o e, nt⟩
        · exact (hmut a k).2
    refine (h (A.deeper env) env s.heap).run _ X vs _ _ I fun out fl h' tk' ho r => ?_
    obtain ⟨d, rfl, hp⟩ := ho
    obtain ⟨v, rfl, k2, r2⟩ := r
    refine q v d h' tk' hp (fun b o e => ?_) r2
    refine k2 b o (fun m => ?_) (kk b o e)
    have := hL0 b (hmut b m).1
    rw [e] at this; cases this
end
end Mine
end
section
namespace Mine
open PySem PySem.Calls

def bodyAt (p : Program) (k : Nat) : List Stmt := match p.main.body[k]? with
  | some (.FunctionDef _ _ b _ _ _ _ _ _ _) => b
  | _ => []
def kindsAt (p : Program) (k : Nat) : List (Str × NameKind) := match p.main.body[k]? with
  | some (.FunctionDef _ _ _ _ _ _ s _ _ _) => s.names
  | _ => []

/-- the built-ins that the texts call -/
structure Bis (G : GX) : Prop where
  len : BI G (PySem.Str.ofString "len") (.builtin "len")
  min : BI G (PySem.Str.ofString "min") (.builtin "min")
  max : BI G (PySem.Str.ofString "max") (.builtin "max")
  abs : BI G (PySem.Str.ofString "abs") (.builtin "abs")
  sum : BI G (PySem.Str.ofString "sum") (.builtin "sum")
  range : BI G (PySem.Str.ofString "range") (.type "range")
  list : BI G (PySem.Str.ofString "list") (.type "list")

abbrev LI (ns : List Int) : D := .list (ns.map PyData.int)
abbrev TI (ns : List Int) : D := .tuple (ns.map PyData.int)
abbrev T3 (p : Int × Int × Int) : D := .tuple [.int p.1, .int p.2.1, .int p.2.2]
abbrev LT (ts : List (Int × Int × Int)) : D := .list (ts.map T3)
theorem li_get {ns : List Int} {i : Int} {x : Int} (h : ns[i.toNat]? = some x) : (ns.map PyData.int)[i.toNat]? = some (PyData.int x) := by
  rw [List.getElem?_map, h]; rfl

theorem li_at {ns : List Int} {i : Int} (h0 : 0 ≤ i) (h : i < ns.length) : (ns.map PyData.int)[i.toNat]? = some (PyData.int (ns.getD i.toNat 0)) := by
  have : i.toNat < ns.length := by omega
  rw [List.getElem?_map, List.getElem?_eq_getElem this, List.getD_eq_getElem?_getD, List.getElem?_eq_getElem this]; rfl

section
variable {c : Cx} {σ : List Slot}
theorem EV.itemI {e e' : Expr} {p : Pos} {ns : List Int} {i : Int} (he : EVo c σ e (ns.map PyData.int)) (hi : EV c σ e' (.int i)) (hs : noSlice e' = true) (h0 : 0 ≤ i) (h : i < ns.length) (hz : i < 2 ^ 62) : EV c σ (.Subscript e e' p) (.int (ns.getD i.toNat 0)) :=
  EV.itemO he hi hs h0 hz (li_at h0 h)
theorem EV.modP {l r : Expr} {p : Pos} {a b : Int} (hl : EV c σ l (.int a)) (hr : EV c σ r (.int b)) (hb : 0 < b) : EV c σ (.BinOp l .Mod r p) (.int (a % b)) := by
  have := EV.mod (p := p) hl hr (by omega)
  rwa [Int.fmod_eq_emod_of_nonneg _ (by omega)] at this
theorem EV.fdivP {l r : Expr} {p : Pos} {a b : Int} (hl : EV c σ l (.int a)) (hr : EV c σ r (.int b)) (hb : 0 < b) (hs : b < 1073741824) : EV c σ (.BinOp l .FloorDiv r p) (.int (a / b)) := by
  have := EV.fdiv (p := p) hl hr (by omega) (by omega)
  rwa [Int.fdiv_eq_ediv_of_nonneg _ (by omega)] at this
theorem EV.pow {l r : Expr} {p : Pos} {a b : Int} (hl : EV c σ l (.int a)) (hr : EV c σ r (.int b)) (h0 : 0 ≤ b) (ha : a.natAbs < 2 ^ 64) (hb : b ≤ 2 ^ 20) : EV c σ (.BinOp l .Pow r p) (.int (a ^ b.toNat)) :=
  EV.bin2 hl hr fun s X vs u v R E I ru rv q => by
    obtain ⟨_, rfl⟩ := ru.int_inv; obtain ⟨_, rfl⟩ := rv.int_inv
    refine PyProof.Rows.pow_int h0 ?_ (q _ _ _ (Keep.refl _) Rep.int)
    have h1 := intBits_small ha
    have h2 : (Builtin.Int.intBits a : Int) * b ≤ 64 * b := Int.mul_le_mul_of_nonneg_right (by omega) h0
    omega
theorem EVF.listOf {e : Expr} {p pos : Pos} {xs : List D} (B : Bis c.G) (he : EVo c σ e xs) (hk : c.kinds.lookup (PySem.Str.ofString "list") = some .globalImplicit) (hn : noStar e = true) (hz : xs.length ≤ 2 ^ 20) : EVF c σ (.Call (.Name (PySem.Str.ofString "list") p) [e] [] pos) xs := by
  constructor; intro s X vs R E I q
  have Bu : isBui c (PySem.Str.ofString "list") (.type "list") := ⟨hk, by decide, B.list⟩
  refine wpAny_Call_NameR (Bu.load I ?_)
  refine callWith_type (noStar_any (by simp [hn])) (wp_args hn (wpAny_items_cons (he.run s X vs _ _ I fun a items h1 t1 k1 hl ri => wpAny_items_nil ?_) (starEach_of hn)))
  obtain ⟨n, ha⟩ := hl
  have hlen : items.size = xs.length := by rw [← ri.length]; simp
  refine call_list_seq (s := { s with heap := h1, toks := t1 }) a (.inl rfl) ha rfl rfl (fun h' c' k hx => ?_) (by rw [hlen]; exact Nat.le_trans hz (by decide))
  refine q _ items h' t1 (k1.trans k) (none_of_keep k1 (size_none _)) ⟨c', hx⟩ ((ri.weak fun b y => ?_).keep k)
  rcases y with y | rfl
  · exact .inl y
  · exact .inr (size_none _)
theorem EV.itemTI {e e' : Expr} {p : Pos} {ns : List Int} {i : Int} (he : EV c σ e (.tuple (ns.map PyData.int))) (hi : EV c σ e' (.int i)) (hs : noSlice e' = true) (h0 : 0 ≤ i) (h : i < ns.length) (hz : i < 2 ^ 62) : EV c σ (.Subscript e e' p) (.int (ns.getD i.toNat 0)) :=
  EV.itemT he hi hs h0 hz (li_at h0 h)
theorem WP.appendI {x : Str} {p ap cp ep : Pos} {e : Expr} {n : Int} {ns : List Int} {i : Nat} {rest : List Stmt} {Q : Out → Prop} (hi : slotOf c.names x = some i) (hk : isVar c x = true) (hx : σ[i]? = some (.own (ns.map PyData.int))) (he : EV c σ e (.int n)) (hn : noStar e = true)
    (hline : (ap.endLine == cp.line) = true) (hz : ns.length < 2 ^ 20) (h : WP c (σ.set i (.own ((ns ++ [n]).map PyData.int))) rest Q) : WP c σ (.Expr (.Call (.Attribute (.Name x p) "append" ap) [e] [] cp) ep :: rest) Q :=
  WP.append hi hk hx he hn hline (by simpa using hz) (by rw [List.map_append] at h; exact h)
theorem WP.appendT {x : Str} {p ap cp ep : Pos} {e : Expr} {a b d : Int} {ts : List (Int × Int × Int)} {i : Nat} {rest : List Stmt} {Q : Out → Prop} (hi : slotOf c.names x = some i) (hk : isVar c x = true) (hx : σ[i]? = some (.own (ts.map T3))) (he : EV c σ e (.tuple [.int a, .int b, .int d])) (hn : noStar e = true)
    (hline : (ap.endLine == cp.line) = true) (hz : ts.length < 2 ^ 20) (h : WP c (σ.set i (.own ((ts ++ [(a, b, d)]).map T3))) rest Q) : WP c σ (.Expr (.Call (.Attribute (.Name x p) "append" ap) [e] [] cp) ep :: rest) Q :=
  WP.append hi hk hx he hn hline (by simpa using hz) (by rw [List.map_append] at h; exact h)
theorem WP.unpackP {ts : List Expr} {k : Nat} {tp p : Pos} {e : Expr} {P : D → Prop} {rest : List Stmt} {Q : Out → Prop} (he : EVP c σ e P) (hp : plainRight e = true) (h : ∀ d, P d → ∃ σ', TG c (.Tuple ts k tp) d σ σ' ∧ WP c σ' rest Q) :
    WP c σ (.Assign [.Tuple ts k tp] e p :: rest) Q := by
  refine WP.cons ?_
  constructor; intro s X vs R E I k'
  refine PyProof.Rows.Assign_Tuple (he.run s X vs _ _ I fun v d h1 t1 hP k1 r1 => ?_) (by cases e <;> first | rfl | cases hp) (by cases e <;> first | rfl | cases hp)
  obtain ⟨σ', ht, hw⟩ := h d hP
  refine ht.run _ X vs v _ _ (I.grow k1) r1 fun h2 t2 vs2 k2 I2 m2 => ?_
  exact k' (.next σ') _ _ _ hw ⟨rfl, fun b o n e => k2 b o n (k1 b o e), vs2, I2, fun a m => .inl (m2 a m)⟩
theorem EVF.sliceI {e : Expr} {l u : Option Expr} {p pos : Pos} {ns : List Int} {lo hi : Option Int} (he : EVo c σ e (ns.map PyData.int)) (hl : EVp c σ l lo) (hu : EVp c σ u hi) (hz : ns.length ≤ 2 ^ 20) : EVF c σ (.Subscript e (.Slice l u none p) pos) ((cut lo hi ns).map PyData.int) := by
  have := EVF.slice (p := p) (pos := pos) he hl hu (by simpa using hz)
  rwa [cut_map] at this
theorem EVF.catI {l r : Expr} {p : Pos} {a b : List Int} (hl : EV c σ l (LI a)) (hr : EV c σ r (LI b)) (hz : a.length + b.length ≤ 2 ^ 20) : EVF c σ (.BinOp l .Add r p) ((a ++ b).map PyData.int) := by
  rw [List.map_append]
  exact EVF.cat hl hr (by simpa using hz)
theorem EVF.evI {e : Expr} {ns : List Int} (h : EVF c σ e (ns.map PyData.int)) : EV c σ e (LI ns) := h.ev
theorem EV.min' {p pos : Pos} {e e' : Expr} {a b : Int} (B : Bis c.G) (he : EV c σ e (.int a)) (he' : EV c σ e' (.int b)) (hk : c.kinds.lookup (PySem.Str.ofString "min") = some .globalImplicit) (hn : noStar e = true) (hn' : noStar e' = true) :
    EV c σ (.Call (.Name (PySem.Str.ofString "min") p) [e, e'] [] pos) (.int (Min.min a b)) := EV.min ⟨hk, by decide, B.min⟩ he he' hn hn'
theorem EV.max' {p pos : Pos} {e e' : Expr} {a b : Int} (B : Bis c.G) (he : EV c σ e (.int a)) (he' : EV c σ e' (.int b)) (hk : c.kinds.lookup (PySem.Str.ofString "max") = some .globalImplicit) (hn : noStar e = true) (hn' : noStar e' = true) :
    EV c σ (.Call (.Name (PySem.Str.ofString "max") p) [e, e'] [] pos) (.int (Max.max a b)) := EV.max ⟨hk, by decide, B.max⟩ he he' hn hn'
theorem EV.abs' {p pos : Pos} {e : Expr} {a : Int} (B : Bis c.G) (he : EV c σ e (.int a)) (hk : c.kinds.lookup (PySem.Str.ofString "abs") = some .globalImplicit) (hn : noStar e = true) :
    EV c σ (.Call (.Name (PySem.Str.ofString "abs") p) [e] [] pos) (.int (if a < 0 then -a else a)) := EV.abs ⟨hk, by decide, B.abs⟩ he hn
theorem EV.len' {p pos : Pos} {e : Expr} {xs : List D} (B : Bis c.G) (he : EVo c σ e xs) (hk : c.kinds.lookup (PySem.Str.ofString "len") = some .globalImplicit) (hn : noStar e = true) (hz : xs.length < 2 ^ 62) :
    EV c σ (.Call (.Name (PySem.Str.ofString "len") p) [e] [] pos) (.int xs.length) := EV.lenO ⟨hk, by decide, B.len⟩ he hn hz
theorem IT.range1' {e : Expr} {p pos : Pos} {n : Int} (B : Bis c.G) (he : EV c σ e (.int n)) (hk : c.kinds.lookup (PySem.Str.ofString "range") = some .globalImplicit) (hn : noStar e = true) (hlo : -(2 ^ 62) ≤ n) (hhi : n < 2 ^ 62) :
    IT c σ (.Call (.Name (PySem.Str.ofString "range") p) [e] [] pos) (rng 0 n) := IT.range1 ⟨hk, by decide, B.range⟩ he hn hlo hhi
theorem IT.range2' {e e' : Expr} {p pos : Pos} {a b : Int} (B : Bis c.G) (he : EV c σ e (.int a)) (he' : EV c σ e' (.int b)) (hk : c.kinds.lookup (PySem.Str.ofString "range") = some .globalImplicit) (hn : noStar e = true) (hn' : noStar e' = true)
    (hlo : -(2 ^ 62) ≤ a) (hhi : a < 2 ^ 62) (hlo' : -(2 ^ 62) ≤ b) (hhi' : b < 2 ^ 62) : IT c σ (.Call (.Name (PySem.Str.ofString "range") p) [e, e'] [] pos) (rng a b) := IT.range2 ⟨hk, by decide, B.range⟩ he he' hn hn' hlo hhi hlo' hhi'
theorem IT.rangeDown' {e e' : Expr} {p pos p1 p2 : Pos} {k : Nat} {a b : Int} (B : Bis c.G) (he : EV c σ e (.int a)) (he' : EV c σ e' (.int b)) (hk : c.kinds.lookup (PySem.Str.ofString "range") = some .globalImplicit) (hn : noStar e = true) (hn' : noStar e' = true)
    (hlo : -(2 ^ 62) ≤ a) (hhi : a < 2 ^ 62) (hlo' : -(2 ^ 62) ≤ b) (hhi' : b < 2 ^ 62) : IT c σ (.Call (.Name (PySem.Str.ofString "range") p) [e, e', .UnaryOp .USub (.Constant (.int 1) k p1) p2] [] pos) (rngD a b) := IT.rangeDown ⟨hk, by decide, B.range⟩ he he' hn hn' hlo hhi hlo' hhi'
end

theorem cut_nat {α : Type} (a b : Nat) (xs : List α) : cut (some (a : Int)) (some (b : Int)) xs = (xs.drop a).take (b - a) := by
  unfold cut
  simp only [Option.elim, clipAt_nat]
  rcases Nat.le_total a xs.length with h | h
  · rw [Nat.min_eq_left h]
    rcases Nat.le_total b xs.length with h' | h'
    · rw [Nat.min_eq_left h']
    · rw [Nat.min_eq_right h', List.take_of_length_le (by simp), List.take_of_length_le (by simp; omega)]
  · rw [Nat.min_eq_right h, List.drop_of_length_le (Nat.le_refl _), List.drop_of_length_le h]; simp
theorem cut_upto {α : Type} (b : Nat) (xs : List α) : cut none (some (b : Int)) xs = xs.take b := by
  unfold cut
  simp only [Option.elim, clipAt_nat, List.drop_zero, Nat.sub_zero]
  rcases Nat.le_total b xs.length with h | h
  · rw [Nat.min_eq_left h]
  · rw [Nat.min_eq_right h, List.take_of_length_le (Nat.le_refl _), List.take_of_length_le h]
theorem cut_from {α : Type} (a : Nat) (xs : List α) : cut (some (a : Int)) none xs = xs.drop a := by
  unfold cut
  simp only [Option.elim, clipAt_nat]
  rcases Nat.le_total a xs.length with h | h
  · rw [Nat.min_eq_left h, List.take_of_length_le (by simp)]
  · rw [Nat.min_eq_right h, List.drop_of_length_le (Nat.le_refl _), List.drop_of_length_le h]; simp
theorem cut_all {α : Type} (xs : List α) : cut none none xs = xs := by simp [cut]

theorem rng_length (a b : Int) : (rng a b).length = (b - a).toNat := by simp [rng]
theorem rng_get {a b : Int} {j : Nat} {d : D} (h : (rng a b)[j]? = some d) : d = .int (a + j) ∧ (j : Int) < b - a := by
  refine ⟨range_get h, ?_⟩
  have := (List.getElem?_eq_some_iff.mp h).1
  rw [rng_length] at this; omega
theorem rngD_length (a b : Int) : (rngD a b).length = (a - b).toNat := by simp [rngD]
theorem rngD_get {a b : Int} {j : Nat} {d : D} (h : (rngD a b)[j]? = some d) : d = .int (a - j) ∧ (j : Int) < a - b := by
  refine ⟨range_get h, ?_⟩
  have := (List.getElem?_eq_some_iff.mp h).1
  rw [rngD_length] at this; omega
end Mine
end
section
namespace Mine
open PySem PySem.Calls

/-- a def of the text -/
structure Def (G : GX) (p : Program) (k : Nat) (x : Str) (f : Addr) (params : List Str) : Prop where
  glob : G.mg x = some (.ref f)
  fd : ∃ fd, FnIs G f fd ∧ fd.body = .stmts (bodyAt p k) ∧ fd.scope.names = kindsAt p k ∧ ∀ us : List Value, us.length = params.length → bindArgs fd ⟨us, []⟩ = pure (params.zip us)
theorem Def.isFn {G : GX} {p : Program} {k : Nat} {x : Str} {f : Addr} {params : List Str} (d : Def G p k x f params) : IsFn G x f := by
  obtain ⟨fd, h, _⟩ := d.fd
  obtain ⟨o, ho, hd⟩ := h.get
  exact ⟨d.glob, o, fd, ho, hd⟩
theorem Def.spec {G : GX} {p : Program} {k : Nat} {x : Str} {f : Addr} {params more : List Str} {args : List D} {P : D → Prop} {n : Nat} (d : Def G p k x f params) (hG : G.Ok) (hlen : args.length = params.length)
    (h : ∀ (A : Around) (env : Env) (h0 : Heap), WP ⟨G, A, env, h0, params ++ more, kindsAt p k, n⟩ (args.map Slot.val ++ more.map fun _ => .un) (bodyAt p k) (fun o => ∃ d, o = .ret d ∧ P d))
    (hnd : (params ++ more).Nodup := by decide) (hkind : (params ++ more).all (fun x => (kindsAt p k).lookup x == some .local || (kindsAt p k).lookup x == some .cell) = true := by rfl) : FnSpec G f args P (n + 1) := by
  obtain ⟨fd, h1, h2, h3, h4⟩ := d.fd
  exact FnSpec.intro hG h1 h2 h3 h4 hnd hkind hlen h

open PySem.W in
theorem Def.of_K {K : Frag} {G : GX} {p : Program} {k : Nat} {x : Str} {f : Addr} {ps : List Str} {name qual : Str} {params : Arguments} {body : List Stmt} {scope : Scope} {dV kV doc pm cdv ct oc : Value} {an od : Option Addr} {osl : Array (Option Value)}
    (X : K.In G.hb) (hg : G.mg x = some (.ref f)) (ho : K.lookup f = some ⟨oc, od, .func (fnX name qual params body scope [] dV kV doc pm an cdv ct), osl⟩) (hcd : codeIn K cdv qual = true)
    (hb : body = bodyAt p k) (hs : scope.names = kindsAt p k) (hbind : ∀ us : List Value, us.length = ps.length → bindArgs (fnX name qual params body scope [] dV kV doc pm an cdv ct) ⟨us, []⟩ = pure (ps.zip us))
    (hco : scope.isCoroutine = false) (hgen : scope.isGenerator = false) (hk : scope.kind = .function) : Def G p k x f ps :=
  ⟨hg, _, ⟨⟨_, X _ _ ho, rfl⟩, codeRec_of X hcd, rfl, rfl, rfl, hco, hgen, hk⟩, by rw [← hb], hs, hbind⟩

theorem reads_ints {h : Heap} : ∀ {vs : List Value} {ns : List Int}, PyProof.Rows.IntsAre vs ns → ReadsAll h vs (ns.map PyData.int) []
  | _, _, .nil => .nil
  | _, _, .cons _ _ q => .cons (.int _ _) (reads_ints q)
open PySem.W in
theorem tup_of_K {K : Frag} {G : GX} {x : Str} {a : Addr} {od : Option Addr} {items : Array Value} {m : Nat} {sl : Array (Option Value)} {ns : List Int} (X : K.In G.hb) (hg : G.mg x = some (.ref a)) (ho : K.lookup a = some ⟨.type "tuple", od, .seq items m, sl⟩)
    (hi : PyProof.Rows.IntsAre items.toList ns) : ∃ v, G.mg x = some v ∧ ∀ h, Keep G.hb h → Reads h v (TI ns) [] :=
  ⟨_, hg, fun _ k => .tuple (k _ _ (X _ _ ho)) rfl rfl (reads_ints hi)⟩
theorem len1 {us : List Value} {α : Type} {a : α} (h : us.length = [a].length) : ∃ u, us = [u] := by
  match us, h with
  | [u], _ => exact ⟨u, rfl⟩
theorem len2 {us : List Value} {α : Type} {a b : α} (h : us.length = [a, b].length) : ∃ u v, us = [u, v] := by
  match us, h with
  | [u, v], _ => exact ⟨u, v, rfl⟩
theorem len3 {us : List Value} {α : Type} {a b c : α} (h : us.length = [a, b, c].length) : ∃ u v w, us = [u, v, w] := by
  match us, h with
  | [u, v, w], _ => exact ⟨u, v, w, rfl⟩
theorem len4 {us : List Value} {α : Type} {a b c d : α} (h : us.length = [a, b, c, d].length) : ∃ u v w x, us = [u, v, w, x] := by
  match us, h with
  | [u, v, w, x], _ => exact ⟨u, v, w, x, rfl⟩

open PySem.W in
theorem wellAll_ints {P : Params} {h : Heap} {Y : AS} : ∀ {vs : List Value} {ns : List Int} {xs : List WData}, xs = ns.map WData.int → WellAll P h vs xs → RepAll h Y vs (ns.map PyData.int)
  | _, [], _, e, w => by subst e; cases w; exact RepAll.nil
  | _, n :: ns, _, e, w => by
    subst e
    cases w with
    | cons w1 w2 =>
      cases w1
      exact RepAll.cons Rep.int (wellAll_ints rfl w2)
open PySem.W in
theorem well_ints {P : Params} {h : Heap} {Y : AS} {a : Addr} {ns : List Int} (hY : ¬ Y a) (w : Well P h (.ref a) (ofPy (.list (ns.map PyData.int)))) : Rep h Y (.ref a) (LI ns) := by
  have e : ofPy (.list (ns.map PyData.int)) = .list (ns.map WData.int) := by
    simp only [ofPy, ofPys_eq, List.map_map]
    congr 1
  rw [e] at w
  cases w with
  | list h1 h2 => exact Rep.list ⟨0, h1⟩ hY (wellAll_ints rfl h2)
open PySem.W in
/-- the claim's end -/
theorem claim_end {l : OpenLaw} {w : World} {P : Params} {s₀ s₁ : Shared} {mg mb : Str → Option Value} {f a : Addr} {ns : List Int} {args : List WData} (hg : s₁.gens = #[])
    (hw : Well P s₁.heap (.ref a) (ofPy (.list (ns.map PyData.int)))) (h : FnSpec ⟨l.row.prog, w, s₁.heap, mg, mb⟩ f [LI ns] (· = .bool true) 20) :
    wpAny (model l.row.prog w) callerA ((fun f vs => call f vs) (Value.ref f) [Value.ref a])
      (fun v s' => GoodWG l.row.claim (classAt s₀.heap) (ExcName.means s₀.heap) args s₁ (Except.ok (Flow.ret v)) s')
      (fun e s' => GoodWG l.row.claim (classAt s₀.heap) (ExcName.means s₀.heap) args s₁ (Except.error e) s') s₁ := by
  refine h callerA s₁ (fun _ => False) _ _ _ (Keep.refl _) rfl ?_ ?_ (fun _ x => x.elim) (RepAll.cons (well_ints (fun x => x) hw) RepAll.nil) fun v r' h' tk' e k r => ?_
  · decide
  · decide
  · subst e
    cases r.bool_inv
    refine GoodW.toG ⟨.inl ⟨_, .bool true, [], rfl, fun _ => rfl, .bool true, ?_, fun _ => ⟨.nil, fun _ m => nomatch m⟩⟩, k, rfl, hg⟩
    refine postW_of (r := l.row.toRowW) (X := (true == true)) (by simp [OpenLaw.row, WShape.has, WShape.arms]) ?_ rfl
    exact w_eq_bool (a := .res) (b := .lit (.bool true)) (w_res rfl) w_lit
end Mine
end
section
namespace Mine
open PySem PySem.Calls

/-- the longest run alike at i and j, at most t -/
def run (ns : List Int) (i j : Nat) : Nat → Nat
  | 0 => 0
  | t + 1 => if ns[i]? = ns[j]? then run ns (i + 1) (j + 1) t + 1 else 0
theorem run_split (ns : List Int) : ∀ (k t i j : Nat), k ≤ t → (∀ n, n < k → ns[i + n]? = ns[j + n]?) → run ns i j t = k + run ns (i + k) (j + k) (t - k)
  | 0, t, i, j, _, _ => by simp
  | k + 1, 0, i, j, h, _ => by omega
  | k + 1, t + 1, i, j, h, e => by
    have h0 := e 0 (by omega)
    rw [run, if_pos (by simpa using h0), run_split ns k t (i + 1) (j + 1) (by omega) fun n hn => by
      have := e (n + 1) (by omega)
      rw [show i + 1 + n = i + (n + 1) by omega, show j + 1 + n = j + (n + 1) by omega]; exact this]
    rw [show i + 1 + k = i + (k + 1) by omega, show j + 1 + k = j + (k + 1) by omega, show t + 1 - (k + 1) = t - k by omega]
    omega
theorem run_stop {ns : List Int} {k t i j : Nat} (hk : k < t) (e : ∀ n, n < k → ns[i + n]? = ns[j + n]?) (hne : ns[i + k]? ≠ ns[j + k]?) : run ns i j t = k := by
  rw [run_split ns k t i j (by omega) e]
  obtain ⟨u, hu⟩ : ∃ u, t - k = u + 1 := ⟨t - k - 1, by omega⟩
  rw [hu, run, if_neg hne]; rfl
theorem run_full {ns : List Int} {t i j : Nat} (e : ∀ n, n < t → ns[i + n]? = ns[j + n]?) : run ns i j t = t := by
  rw [run_split ns t t i j (by omega) e]; simp [run]
theorem run_le (ns : List Int) : ∀ (t i j : Nat), run ns i j t ≤ t
  | 0, _, _ => by simp [run]
  | t + 1, i, j => by
    rw [run]; split
    · have := run_le ns t (i + 1) (j + 1); omega
    · omega
theorem run_alike (ns : List Int) : ∀ (t i j n : Nat), n < run ns i j t → ns[i + n]? = ns[j + n]?
  | 0, _, _, n, h => by simp [run] at h
  | t + 1, i, j, n, h => by
    rw [run] at h
    split at h
    · rename_i e
      cases n with
      | zero => simpa using e
      | succ n =>
        have := run_alike ns t (i + 1) (j + 1) n (by omega)
        rw [show i + (n + 1) = i + 1 + n by omega, show j + (n + 1) = j + 1 + n by omega]; exact this
    · omega
/-- n alike ⟺ the run reaches n -/
theorem run_ge {ns : List Int} {t i j n : Nat} (hn : n ≤ t) : n ≤ run ns i j t ↔ ∀ m, m < n → ns[i + m]? = ns[j + m]? := by
  constructor
  · intro h m hm; exact run_alike ns t i j m (by omega)
  · intro h; rw [run_split ns n t i j hn h]; omega

/-- the nearest of the longest, distances 1 .. w -/
def best (ns : List Int) (j t : Nat) : Nat → Nat × Nat
  | 0 => (0, 0)
  | w + 1 => if max 3 (best ns j t w).2 < run ns (j - (w + 1)) j t then (w + 1, run ns (j - (w + 1)) j t) else best ns j t w
abbrev pair (p : Nat × Nat) : D := .tuple [.int p.1, .int p.2]

theorem eqv_li (a b : List Int) : PyData.eqv (LI a) (LI b) = decide (a = b) := by
  simp only [PyData.eqv]; exact PySem.W.ked_eqvAll a b
theorem shaped_li (a : List Int) : SeqAt.shaped (LI a) = true := PySem.W.shaped_ints a
theorem eqv_pair (p q : Nat × Nat) : PyData.eqv (pair p) (pair q) = decide (p = q) := by
  obtain ⟨a, b⟩ := p; obtain ⟨c, d⟩ := q
  have : (((a : Int) == (c : Int)) && ((b : Int) == (d : Int))) = decide ((a, b) = (c, d)) := by
    rw [Bool.eq_iff_iff]; simp; omega
  simpa [PyData.eqv, PyData.eqvAll] using this
theorem shaped_pair (p : Nat × Nat) : SeqAt.shaped (pair p) = true := by
  simp [SeqAt.shaped, PyData.canLay0, PyData.canLayAll0, PyData.depth, PyData.depthAll]

theorem slices_alike {ns : List Int} {i j n : Nat} : (ns.drop i).take n = (ns.drop j).take n ↔ ∀ m, m < n → ns[i + m]? = ns[j + m]? := by
  constructor
  · intro h m hm
    have := congrArg (fun l : List Int => l[m]?) h
    simpa [List.getElem?_take, hm, List.getElem?_drop] using this
  · intro h
    apply List.ext_getElem?
    intro m
    simp only [List.getElem?_take, List.getElem?_drop]
    split
    · rename_i hm; exact h m hm
    · rfl

theorem shaped_t2 (a b : Int) : SeqAt.shaped (.tuple [.int a, .int b]) = true := by
  simp [SeqAt.shaped, PyData.canLay0, PyData.canLayAll0, PyData.depth, PyData.depthAll]
theorem getD_all {P : Int → Prop} : ∀ (ns : List Int) (i : Nat), (∀ x ∈ ns, P x) → P 0 → P (ns.getD i 0)
  | [], i, _, h0 => by simpa using h0
  | n :: ns, 0, h, _ => by simpa using h n (.head _)
  | n :: ns, i + 1, h, h0 => by
    have := getD_all ns i (fun x hx => h x (.tail _ hx)) h0
    simpa using this

theorem getD_mem {ns : List Int} {i : Nat} (h : i < ns.length) : ns.getD i 0 ∈ ns := by
  rw [List.getD_eq_getElem?_getD, List.getElem?_eq_getElem h]
  exact List.getElem_mem h

/-- what the nearest of the longest is -/
theorem best_lt {ns : List Int} {j t n : Nat} (h3 : 3 < n) : ∀ {w : Nat}, (∀ d, 1 ≤ d → d ≤ w → run ns (j - d) j t < n) → (best ns j t w).2 < n
  | 0, _ => by simp [best]; omega
  | w + 1, h => by
    rw [best]
    split
    · exact h (w + 1) (by omega) (by omega)
    · exact best_lt h3 fun d h1 h2 => h d h1 (by omega)
theorem best_none {ns : List Int} {j t : Nat} : ∀ {w : Nat}, (∀ d, 1 ≤ d → d ≤ w → run ns (j - d) j t ≤ 3) → best ns j t w = (0, 0)
  | 0, _ => rfl
  | w + 1, h => by
    rw [best, if_neg, best_none fun d h1 h2 => h d h1 (by omega)]
    have := h (w + 1) (by omega) (by omega)
    omega
theorem best_eq {ns : List Int} {j t d n : Nat} (h3 : 3 < n) (hd : 1 ≤ d) (hn : run ns (j - d) j t = n) (hb : ∀ e, 1 ≤ e → e < d → run ns (j - e) j t < n) : ∀ {w : Nat}, d ≤ w → (∀ e, 1 ≤ e → e ≤ w → run ns (j - e) j t ≤ n) → best ns j t w = (d, n)
  | 0, h, _ => by omega
  | w + 1, h, ha => by
    by_cases q : d = w + 1
    · subst q
      have := best_lt (ns := ns) (j := j) (t := t) (w := w) h3 fun e h1 h2 => hb e h1 (by omega)
      rw [best, if_pos (by omega), hn]
    · have := best_eq h3 hd hn hb (w := w) (by omega) fun e h1 h2 => ha e h1 (by omega)
      rw [best, this, if_neg]
      have := ha (w + 1) (by omega) (by omega)
      simp only; omega
theorem best_le (ns : List Int) (j t : Nat) : ∀ w, (best ns j t w).2 ≤ t ∧ (best ns j t w).1 ≤ w
  | 0 => by simp [best]
  | w + 1 => by
    rw [best]
    have h1 := run_le ns t (j - (w + 1)) j
    have h2 := best_le ns j t w
    split
    · exact ⟨h1, Nat.le_refl _⟩
    · exact ⟨h2.1, by omega⟩
theorem best_nil (ns : List Int) (j t : Nat) : ∀ w, (best ns j t w).2 = 0 ∨ (3 < (best ns j t w).2 ∧ 1 ≤ (best ns j t w).1)
  | 0 => by simp [best]
  | w + 1 => by
    rw [best]
    split
    · right; simp only; omega
    · exact best_nil ns j t w


/-- one token of the greedy parse, and the place behind it -/
def tok (ns : List Int) (w l : Int) (j : Nat) : (Int × Int × Int) × Nat :=
  if 0 < (best ns j (min l (ns.length - j)).toNat (min w j).toNat).2 then ((1, (best ns j (min l (ns.length - j)).toNat (min w j).toNat).1, (best ns j (min l (ns.length - j)).toNat (min w j).toNat).2), j + (best ns j (min l (ns.length - j)).toNat (min w j).toNat).2)
  else ((0, ns.getD j 0, 0), j + 1)
def parse (ns : List Int) (w l : Int) : Nat → Nat → List (Int × Int × Int)
  | 0, _ => []
  | f + 1, j => if j < ns.length then (tok ns w l j).1 :: parse ns w l f (tok ns w l j).2 else []
def toks (ns : List Int) (w l : Int) : List (Int × Int × Int) := parse ns w l ns.length 0
theorem tok_next (ns : List Int) (w l : Int) (j : Nat) (h : j < ns.length) : j < (tok ns w l j).2 ∧ (tok ns w l j).2 ≤ ns.length := by
  have := (best_le ns j (min l (ns.length - j)).toNat (min w j).toNat).1
  unfold tok
  split <;> simp only <;> omega
theorem parse_fuel (ns : List Int) (w l : Int) : ∀ (f g j : Nat), ns.length - j ≤ f → ns.length - j ≤ g → parse ns w l f j = parse ns w l g j
  | 0, 0, _, _, _ => rfl
  | 0, g + 1, j, h, _ => by simp only [parse]; rw [if_neg (by omega)]
  | f + 1, 0, j, _, h => by simp only [parse]; rw [if_neg (by omega)]
  | f + 1, g + 1, j, h1, h2 => by
    simp only [parse]
    split
    · rename_i h
      have := tok_next ns w l j h
      rw [parse_fuel ns w l f g _ (by omega) (by omega)]
    · rfl
theorem parse_at {ns : List Int} {w l : Int} {j : Nat} (h : j < ns.length) : parse ns w l (ns.length - j) j = (tok ns w l j).1 :: parse ns w l (ns.length - (tok ns w l j).2) (tok ns w l j).2 := by
  have hn := tok_next ns w l j h
  obtain ⟨m, hm⟩ : ∃ m, ns.length - j = m + 1 := ⟨ns.length - j - 1, by omega⟩
  rw [hm]; simp only [parse]; rw [if_pos h, parse_fuel ns w l m _ _ (by omega) (Nat.le_refl _)]
theorem parse_done {ns : List Int} {w l : Int} {j : Nat} (h : ns.length ≤ j) : parse ns w l (ns.length - j) j = [] := by
  rw [show ns.length - j = 0 by omega]; rfl
theorem depthAll_le {m : Nat} : ∀ {ds : List D}, (∀ d ∈ ds, d.depth ≤ m) → PyData.depthAll ds ≤ m
  | [], _ => by simp [PyData.depthAll]
  | d :: ds, h => by
    have h1 := h d (.head _)
    have h2 := depthAll_le (ds := ds) fun e he => h e (.tail _ he)
    simp only [PyData.depthAll]; omega
theorem canLayAll_of : ∀ {ds : List D}, (∀ d ∈ ds, d.canLay0 = true) → PyData.canLayAll0 ds = true
  | [], _ => by simp [PyData.canLayAll0]
  | d :: ds, h => by simp [PyData.canLayAll0, h d (.head _), canLayAll_of fun e he => h e (.tail _ he)]
theorem shaped_lt (ts : List (Int × Int × Int)) : SeqAt.shaped (LT ts) = true := by
  have h1 : PyData.canLayAll0 (ts.map T3) = true := canLayAll_of fun d hd => by
    obtain ⟨t, _, rfl⟩ := List.mem_map.mp hd
    simp [PyData.canLay0, PyData.canLayAll0]
  have h2 : PyData.depthAll (ts.map T3) ≤ 1 := depthAll_le fun d hd => by
    obtain ⟨t, _, rfl⟩ := List.mem_map.mp hd
    simp [PyData.depth, PyData.depthAll]
  have h3 : (LT ts).depth ≤ 64 := by simp only [PyData.depth]; omega
  simp only [SeqAt.shaped, PyData.canLay0, h1, Bool.true_and, decide_eq_true_eq]
  exact h3
theorem eqv_self {d : D} (h : SeqAt.shaped d = true) : PyData.eqv d d = true := PySem.SeqAt.eqv_refl d (SeqAt.canLay_of_shaped h)
end Mine
end
section
namespace Mine
open PySem PySem.Calls

/-- names that a comprehension takes from its frame -/
def frees (names : List (Str × NameKind)) : List Str := names.filterMap fun x => if x.2 == .free then some x.1 else none
def relK (names kinds : List (Str × NameKind)) : List (Str × NameKind) := names.map fun (n, k) => if (k == .free && kinds.lookup n == some .cell) then (n, .cell) else (n, k)
def closOf (cells : List (Str × Addr)) (names : List (Str × NameKind)) : List (Str × Addr) := ((frees names).map fun n => (n, (cells.lookup n).getD 0)).reverse

theorem closure_go {env : Env} {g : Str × NameKind → List (Str × Addr) → Sem (ForInStep (List (Str × Addr)))} (h1 : ∀ n k r, (k == NameKind.free) = false → g (n, k) r = pure (ForInStep.yield r))
    (h2 : ∀ n k r a, (k == NameKind.free) = true → env.cells.lookup n = some a → g (n, k) r = pure (ForInStep.yield ((n, a) :: r))) : ∀ (names : List (Str × NameKind)) (acc : List (Str × Addr)), (∀ n ∈ frees names, ∃ a, env.cells.lookup n = some a) →
    (forIn names acc g : Sem (List (Str × Addr))) = pure (closOf env.cells names ++ acc)
  | [], acc, _ => rfl
  | (n, k) :: r, acc, h => by
    rw [List.forIn_cons]
    cases hk : k == NameKind.free with
    | false =>
      have e : frees ((n, k) :: r) = frees r := by unfold frees; rw [List.filterMap_cons, hk]; rfl
      rw [h1 n k acc hk]
      have e2 : closOf env.cells ((n, k) :: r) = closOf env.cells r := by unfold closOf; rw [e]
      rw [e2, ← closure_go h1 h2 r acc (fun m hm => h m (by rw [e]; exact hm))]
      rfl
    | true =>
      have e : frees ((n, k) :: r) = n :: frees r := by unfold frees; rw [List.filterMap_cons, hk]; rfl
      obtain ⟨a, ha⟩ := h n (by rw [e]; exact .head _)
      rw [h2 n k acc a hk ha]
      have e2 : closOf env.cells ((n, k) :: r) ++ acc = closOf env.cells r ++ ((n, a) :: acc) := by
        unfold closOf; rw [e]; simp [ha]
      rw [e2, ← closure_go h1 h2 r ((n, a) :: acc) (fun m hm => h m (by rw [e]; exact .tail _ hm))]
      rfl
theorem closure_is {scope : Scope} {env : Env} (h : ∀ n ∈ frees scope.names, ∃ a, env.cells.lookup n = some a) : closureFor scope env = pure (closOf env.cells scope.names) := by
  simp only [closureFor]
  rw [closure_go (env := env) ?_ ?_ scope.names [] h, List.append_nil]
  · rfl
  · intro n k r hk
    simp only [hk, Bool.false_eq_true, if_false]
  · intro n k r a hk ha
    have e3 : cellOf env n = pure a := by unfold cellOf; rw [ha]
    simp only [hk, if_true, e3]
    rfl

theorem mem_frees {names : List (Str × NameKind)} {n : Str} (h : n ∈ frees names) : (n, NameKind.free) ∈ names := by
  unfold frees at h
  obtain ⟨⟨m, k⟩, h1, h2⟩ := List.mem_filterMap.mp h
  cases k <;> simp at h2
  subst h2; exact h1
theorem frees_sub {names : List (Str × NameKind)} : (frees names).Sublist (names.map (·.1)) := by
  induction names with
  | nil => exact .slnil
  | cons x r ih =>
    obtain ⟨n, k⟩ := x
    unfold frees at ih ⊢
    rw [List.filterMap_cons]
    cases k <;> first | exact ih.cons _ | exact ih.cons_cons _
theorem lookup_of_mem {β : Type} : ∀ {l : List (Str × β)} {n : Str} {k : β}, (l.map (·.1)).Nodup → (n, k) ∈ l → l.lookup n = some k
  | (m, j) :: r, n, k, nd, h => by
    rw [List.map_cons, List.nodup_cons] at nd
    rcases List.mem_cons.mp h with e | h
    · cases e; simp
    · have : n ≠ m := fun e => nd.1 (e ▸ List.mem_map.mpr ⟨_, h, rfl⟩)
      rw [List.lookup_cons]
      have : (n == m) = false := by simpa using this
      rw [this]
      exact lookup_of_mem nd.2 h
theorem lookup_relK {names kinds : List (Str × NameKind)} {n : Str} : (relK names kinds).lookup n = (names.lookup n).map fun k => if (k == .free && kinds.lookup n == some .cell) then .cell else k := by
  unfold relK
  induction names with
  | nil => rfl
  | cons x r ih =>
    obtain ⟨m, k⟩ := x
    rw [List.map_cons]
    by_cases e : n = m
    · subst e
      dsimp only
      split <;> simp [List.lookup_cons] <;> simp_all
    · have e' : (n == m) = false := by simpa using e
      dsimp only
      split <;> rw [List.lookup_cons, e', List.lookup_cons, e'] <;> exact ih
theorem clos_lookup {cells : List (Str × Addr)} {names : List (Str × NameKind)} {n : Str} {a : Addr} (nd : (names.map (·.1)).Nodup) (hn : names.lookup n = some .free) (ha : cells.lookup n = some a) : (closOf cells names).lookup n = some a := by
  have hmem : n ∈ frees names := List.mem_filterMap.mpr ⟨(n, .free), mem_of_lookup hn, rfl⟩
  refine lookup_of_mem ?_ ?_
  · unfold closOf
    rw [List.map_reverse, List.map_map]
    rw [show ((fun x : Str × Addr => x.1) ∘ fun n => (n, (cells.lookup n).getD 0)) = id from rfl, List.map_id]
    have := frees_sub.nodup nd
    exact List.pairwise_reverse.mpr (this.imp fun h => Ne.symm h)
  · unfold closOf
    rw [List.mem_reverse]
    exact List.mem_map.mpr ⟨n, hmem, by rw [ha]; rfl⟩
theorem clos_mem {cells : List (Str × Addr)} {names : List (Str × NameKind)} {n : Str} {a : Addr} (h : (n, a) ∈ closOf cells names) (hf : ∀ n ∈ frees names, ∃ a, cells.lookup n = some a) : n ∈ frees names ∧ cells.lookup n = some a := by
  unfold closOf at h
  rw [List.mem_reverse] at h
  obtain ⟨m, h1, h2⟩ := List.mem_map.mp h
  cases h2
  obtain ⟨a, ha⟩ := hf _ h1
  rw [ha]; exact ⟨h1, rfl⟩
theorem clos_apart {c : Cx} (ok : c.Ok) {names : List (Str × NameKind)} (nd : (names.map (·.1)).Nodup) (hf : ∀ n ∈ frees names, ∃ a, c.env.cells.lookup n = some a) : (closOf c.env.cells names).Pairwise fun x y => x.2 ≠ y.2 := by
  have h1 : (closOf c.env.cells names).Pairwise fun x y => x.1 ≠ y.1 := by
    unfold closOf
    rw [List.pairwise_reverse, List.pairwise_map]
    exact (frees_sub.nodup nd).imp fun h => Ne.symm h
  refine h1.imp_of_mem fun {x y} hx hy hne e => hne ?_
  have hx' := (clos_mem (n := x.1) (a := x.2) hx hf).2
  have hy' := (clos_mem (n := y.1) (a := y.2) hy hf).2
  exact lookup_inj ok hx' (e ▸ hy')
end Mine
end
section
namespace Mine
open PySem PySem.Calls

section
variable {c : Cx} {σ : List Slot}

/-- targets that are locals alone -/
structure TGL (c : Cx) (t : Expr) (d : D) (σ σ' : List Slot) : Prop where
  run : ∀ (s : Shared) (X : AS) (vs : Nat → Option Value) (v : Value) (R : Unit → Shared → Prop) (E : Value → Shared → Prop), Inv c X s.heap vs σ → Rep s.heap (Off c X vs σ) v d →
    (∀ h' tk' vs', (∀ b o, b ≠ c.env.locals → s.heap.get? b = some o → h'.get? b = some o) → Inv c X h' vs' σ' → (∀ a, Mut c vs' σ' a → Mut c vs σ a) → R () { s with heap := h', toks := tk' }) →
      wpAny (model c.G.prog c.G.w) c.A (assign t c.env v) R E s
theorem TGL.name {x : Str} {p : Pos} {i : Nat} {d : D} (hi : slotOf c.names x = some i) (hk : isVar c x = true) (hl : c.kinds.lookup x = some .local) : TGL c (.Name x p) d σ (σ.set i (.val d)) := by
  constructor; intro s X vs v R E I r k
  refine wpAny_assign_Name (wp_store I (slotOf_get hi) (isVar.kind I.ok hk).1 fun h2 t2 S => ?_)
  refine k h2 t2 (upd vs i v) (fun b o n q => ?_) (I.put S (slotOf_get hi) (fun _ x => x) (fun xs e => by cases e) fun _ => ⟨v, rfl, r⟩) fun a m => ?_
  · cases S with
    | loc _ s _ => exact (s.2 b n).trans q
    | cel a k _ _ _ => rw [I.ok.kinds, hl] at k; cases k
  · rcases m with m | m | ⟨j, m⟩
    · exact .inl m
    · exact .inr (.inl m)
    · rcases own_upd m with ⟨_, m⟩ | ⟨_, ⟨xs, e⟩, _⟩
      · exact .inr (.inr ⟨j, m⟩)
      · cases e
structure TGLs (c : Cx) (ts : List Expr) (ds : List D) (σ σ' : List Slot) : Prop where
  run : ∀ (s : Shared) (X : AS) (vs : Nat → Option Value) (us : List Value) (R : Unit → Shared → Prop) (E : Value → Shared → Prop), Inv c X s.heap vs σ → RepAll s.heap (Off c X vs σ) us ds →
    (∀ h' tk' vs', (∀ b o, b ≠ c.env.locals → s.heap.get? b = some o → h'.get? b = some o) → Inv c X h' vs' σ' → (∀ a, Mut c vs' σ' a → Mut c vs σ a) → R () { s with heap := h', toks := tk' }) →
      wpAny (model c.G.prog c.G.w) c.A (assignInOrder ((assignEach ts c.env).map (·.2)) us) R E s
theorem TGLs.nil : TGLs c [] [] σ σ := ⟨fun s _ vs _ _ _ I _ k => wpAny_pure (k s.heap s.toks vs (fun _ _ _ e => e) I fun _ m => m)⟩
theorem TGLs.cons {t : Expr} {ts : List Expr} {d : D} {ds : List D} {σ1 σ' : List Slot} (h : TGL c t d σ σ1) (hs : TGLs c ts ds σ1 σ') (hn : noStar t = true) : TGLs c (t :: ts) (d :: ds) σ σ' := by
  constructor; intro s X vs us R E I ru k
  obtain ⟨u, us, rfl, r, ru'⟩ := ru.cons_inv
  rw [assignEach_of hn]
  refine PyProof.Rows.assignInOrder_cons (h.run s X vs u _ _ I r fun h1 t1 vs1 k1 I1 m1 => ?_)
  refine hs.run _ X vs1 us _ _ I1 (ru'.move (fun b o e q => k1 b o (fun m => ?_) e) fun a y => .inl (y.imp id (m1 a))) fun h2 t2 vs2 k2 I2 m2 => k h2 t2 vs2 (fun b o n e => k2 b o n (k1 b o n e)) I2 fun a m => m1 a (m2 a m)
  have m' : Mut c vs σ b := .inl m
  rcases q with q | q
  · exact q (.inr m')
  · obtain ⟨o', e', nt⟩ := I.alive b (.inr m')
    rw [e] at e'; cases e'; exact q nt
theorem TGL.tuple {ts : List Expr} {k : Nat} {p : Pos} {ds : List D} {σ' : List Slot} (hs : TGLs c ts ds σ σ') (hn : ts.all noStar = true) (hl : ts.length = ds.length) : TGL c (.Tuple ts k p) (.tuple ds) σ σ' := by
  constructor; intro s X vs v R E I r q
  obtain ⟨a, items, rfl, ⟨o, n, ho, hc, hd⟩, ri⟩ := r.tuple_inv
  have ht : s.heap.IsTuple a items := ⟨o, ho, hc, n, hd⟩
  have hlen : items.size = ds.length := by rw [← ri.length]; simp
  obtain ⟨e1, e2⟩ := assignEach_length (env := c.env) hn
  refine wpAny_assign_Tuple I.ok.hh ht (by rw [e1, hl, hlen]) e2 fun h' hx => ?_
  have kk : Keep s.heap h' := fun b o e => hx b o (fun w => by rw [w, size_none] at e; cases e) e
  exact hs.run _ X vs _ _ _ (I.grow kk) (ri.keep kk) fun h2 t2 vs2 k2 I2 m2 => q h2 t2 vs2 (fun b o n e => k2 b o n (kk b o e)) I2 m2

/-- a comprehension's tests -/
structure TSI (c : Cx) (σ : List Slot) (ifs : List Expr) (b : Bool) : Prop where
  run : ∀ (s : Shared) (X : AS) (vs : Nat → Option Value) (R : Bool → Shared → Prop) (E : Value → Shared → Prop), Inv c X s.heap vs σ →
    (∀ h' tk', Keep s.heap h' → R b { s with heap := h', toks := tk' }) →
      wpAny (model c.G.prog c.G.w) c.A (forIn ifs true fun t r => if r = true then do let ok ← isTrue t c.env (eval t c.env); pure (ForInStep.yield ok) else pure (ForInStep.yield r)) R E s
theorem TSI.nil : TSI c σ [] true := ⟨fun s _ _ _ _ _ k => wpAny_tests_nil (k s.heap s.toks (Keep.refl _))⟩
theorem TSI.one {t : Expr} {b : Bool} (h : TS c σ t b) : TSI c σ [t] b := ⟨fun s X vs R E I k => wpAny_tests_one (h.run s X vs R E I k)⟩

def FrOk (c : Cx) (σ : List Slot) (scope : Scope) : List (Str × D) → Prop
  | [] => True
  | p :: r => (∃ i, slotOf c.names p.1 = some i ∧ c.kinds.lookup p.1 = some .cell ∧ σ[i]? = some (.val p.2) ∧ scope.names.lookup p.1 = some .free) ∧ FrOk c σ scope r
theorem FrOk.mem {scope : Scope} : ∀ {fr : List (Str × D)}, FrOk c σ scope fr → ∀ p ∈ fr, ∃ i, slotOf c.names p.1 = some i ∧ c.kinds.lookup p.1 = some .cell ∧ σ[i]? = some (.val p.2) ∧ scope.names.lookup p.1 = some .free
  | p :: r, ⟨h, h'⟩, q, m => by
    rcases List.mem_cons.mp m with rfl | m
    · exact h
    · exact FrOk.mem h' q m
structure CompOk (c : Cx) (σ : List Slot) (scope : Scope) (ts : List Str) (fr : List (Str × D)) : Prop where
  kind : scope.kind = .function
  cell : scope.names.all (fun x => x.2 != .cell) = true
  names : (scope.names.map (·.1)).Nodup
  hts : ts.all (fun t => scope.names.lookup t == some .local) = true
  nd : (ts ++ fr.map (·.1)).Nodup
  free : (frees scope.names).all (fun n => c.kinds.lookup n == some .cell && (slotOf c.names n).isSome) = true
  hfr : FrOk c σ scope fr
abbrev compCx (c : Cx) (scope : Scope) (ts : List Str) (fr : List (Str × D)) (env : Env) : Cx := ⟨c.G, c.A, env, c.h0, ts ++ fr.map (·.1), relK scope.names c.kinds, c.room⟩

theorem codeAny_compLoop_any {prog : Program} {w : World} {A : Around} {R : Result → Shared → Prop} {s : Shared} {elt target iter : Expr} {ifs : List Expr} {scope : Scope} {pos : Pos} {it acc : Value} {env : Env} (I : Nat → Shared → Prop)
    (turn : ∀ n s, I n s → wpAny (model prog w) A (pyNext it) (fun r s₁ => match r with
      | none => R (.ok .next) s₁
      | some v => wpAny (model prog w) A (letOwnedTupleGo target it v) (fun _ s₁ => wpAny (model prog w) A (assign target env v) (fun _ s₂ =>
          wpAny (model prog w) A (forIn ifs true fun c r => if r = true then do let ok ← isTrue c env (eval c env); pure (ForInStep.yield ok) else pure (ForInStep.yield r)) (fun ok s₃ =>
            if ok = true then wpAny (model prog w) A (eval elt env) (fun x s₄ =>
              wpAny (model prog w) A (call (.builtin "list.append") [acc, x]) (fun _ s₅ => ∃ m, m < n ∧ I m s₅) (notedBy (model prog w) A env fun e s' => R (.error e) s') s₄) (notedBy (model prog w) A env fun e s' => R (.error e) s') s₃
            else ∃ m, m < n ∧ I m s₃) (notedBy (model prog w) A env fun e s' => R (.error e) s') s₂) (notedBy (model prog w) A env fun e s' => R (.error e) s') s₁) (notedBy (model prog w) A env fun e s' => R (.error e) s') s₁) (notedBy (model prog w) A env fun e s' => R (.error e) s') s)
    (n : Nat) (h : I n s) : codeAny (model prog w) A (.compLoop (.ListComp elt [⟨target, iter, ifs, 0⟩] scope pos) 0 it acc env) R s := by
  refine codeAny_loop rfl I (fun n s hI => ?_) n h
  show wpAny _ A ((compTurn (.ListComp elt [⟨target, iter, ifs, 0⟩] scope pos) 0 it acc env).onRaise (fun x => do noteFrame x env; theTreesLotGoes x)) _ _ s
  refine wpAny_noted ?_
  rw [compTurn_list]
  refine wpAny_bind (wpAny_standAt (wpAny_bind (wpAny_mono (turn n s hI) (fun r s₁ h₁ => ?_) fun _ _ h' => h')))
  cases r with
  | none => exact wpAny_pure h₁
  | some v =>
    refine wpAny_bind (wpAny_mono h₁ (fun _ s₁' h₁ => ?_) fun _ _ h' => h')
    refine wpAny_bind (wpAny_mono h₁ (fun _ s₂ h₂ => wpAny_bind (wpAny_mono h₂ (fun ok s₃ h₃ => ?_) fun _ _ h' => h')) fun _ _ h' => h')
    cases ok with
    | false => exact wpAny_pure ⟨rfl, h₃⟩
    | true =>
      exact wpAny_bind (wpAny_bind (wpAny_mono h₃ (fun x s₄ h₄ => wpAny_bind (wpAny_mono h₄ (fun _ s₅ h₅ => wpAny_pure (wpAny_pure ⟨rfl, h₅⟩)) fun _ _ h' => h')) fun _ _ h' => h'))

theorem relabel_is {scope : Scope} (ok : c.Ok) : (relabel scope c.env).names = relK scope.names c.kinds := by
  show scope.names.map _ = scope.names.map _
  apply List.map_congr_left
  rintro ⟨n, k⟩ _
  simp only [ok.kind, ok.kinds]
  cases k <;> simp

theorem take_filter_map {α β : Type} (p : α → Bool) (f : α → β) (l : List α) (i : Nat) (x : α) (h : l[i]? = some x) : ((l.take (i + 1)).filter p).map f = ((l.take i).filter p).map f ++ (if p x then [f x] else []) := by
  rw [take_succ_filter p l i x h, List.map_append]
  cases p x <;> rfl

/-- a new address put off limits; an address off limits changes -/
theorem Inv.guardS {X N : AS} {h h' : Heap} {vs : Nat → Option Value} (I : Inv c X h vs σ) (k : Keep h h') (hn : ∀ a, N a → h.get? a = none ∧ ∃ o, h'.get? a = some o ∧ NT o) : Inv c (fun b => X b ∨ N b) h' vs σ := by
  have I' := I.grow k
  have hm : ∀ b, Mut c vs σ b → ¬ N b := fun b m q => by
    obtain ⟨o, e, _⟩ := I.alive b (.inr m); rw [(hn b q).1] at e; cases e
  refine ⟨I.ok, I'.keep, I'.loc, I'.cel, fun i sl e => ?_, I.own1, I.ownC, fun b m => ⟨fun q => q.elim (I.sep b m).1 (hm b m), (I.sep b m).2⟩, ?_⟩
  · have := I.slot i sl e
    have hY : ∀ b, Off c (fun b => X b ∨ N b) vs σ b → Off c X vs σ b ∨ h.get? b = none := by
      rintro b ((k | k) | k)
      · exact .inl (.inl k)
      · exact .inr (hn b k).1
      · exact .inl (.inr k)
    cases sl with
    | un => trivial
    | val d => obtain ⟨v, e, r⟩ := this; exact ⟨v, e, (r.weak hY).keep k⟩
    | own xs => obtain ⟨b, items, e, ⟨n, l⟩, r⟩ := this; exact ⟨b, items, e, ⟨n, k _ _ l⟩, (r.weak hY).keep k⟩
  · rintro b ((q | q) | q)
    · exact I'.alive b (.inl q)
    · exact (hn b q).2
    · exact I'.alive b (.inr q)
theorem Inv.bump {X : AS} {h h' : Heap} {vs : Nat → Option Value} {q : Addr} (I : Inv c X h vs σ) (hq : X q) (h0 : c.h0.get? q = none) (hk : ∀ b o, b ≠ q → h.get? b = some o → h'.get? b = some o) (al : ∃ o, h'.get? q = some o ∧ NT o) : Inv c X h' vs σ := by
  refine I.change (fun b o e => hk b o (fun w => by rw [w, h0] at e; cases e) (I.keep b o e)) (fun b o e q' => hk b o (fun w => ?_) e) fun b y => ?_
  · subst w
    rcases q' with q' | q' | q'
    · exact q' (.inl hq)
    · obtain ⟨o', e', nt⟩ := I.alive b (.inl hq)
      rw [e] at e'; cases e'; exact q' nt
    · exact (I.sep b q').1 hq
  · by_cases w : b = q
    · subst w; exact al
    · obtain ⟨o, e, nt⟩ := I.alive b (.inl y)
      exact ⟨o, hk b o w e, nt⟩
theorem lx_nt {h : Heap} {a : Addr} {items : Array Value} (l : IsLx h a items) : ∃ o, h.get? a = some o ∧ NT o := by
  obtain ⟨n, e⟩ := l
  exact ⟨_, e, fun q => absurd (show Value.type "list" = Value.type "tuple" from q) (by decide)⟩
theorem ns_nt {h : Heap} {a : Addr} {m : Str → Option Value} (l : h.Ns a m) : ∃ o, h.get? a = some o ∧ NT o := by
  obtain ⟨o, es, ep, e1, e2, _⟩ := l
  exact ⟨o, e1, fun _ v n q => by rw [e2] at q; cases q⟩
theorem RepAll.over {g g' : Heap} {Y : AS} {us : List Value} {ds : List D} (r : RepAll g Y us ds) (hk : ∀ b o, ¬ Y b ∨ ¬ NT o → g.get? b = some o → g'.get? b = some o) : RepAll g' Y us ds := r.kept fun b o e q => hk b o q e

theorem comp_run {α : Type} {use : Option (Value → Sem Unit)} {elt iter target : Expr} {ifs : List Expr} {scope : Scope} {pos cpos : Pos} {xs : List α} {ι : α → D} {p : α → Bool} {f : α → D} {ts : List Str} {fr : List (Str × D)} {P : List Slot → Prop}
    {s : Shared} {X : AS} {vs : Nat → Option Value} {Q : Value → Shared → Prop} {E : Value → Shared → Prop} (I : Inv c X s.heap vs σ) (hit : IT c σ iter (xs.map ι)) (hf : noFold iter = true) (hz : xs.length ≤ 2 ^ 20) (S : CompOk c σ scope ts fr)
    (hP0 : P (ts.map (fun _ => Slot.un) ++ fr.map fun q => Slot.val q.2))
    (step : ∀ env' x σ', x ∈ xs → P σ' → ∃ σ'', TGL (compCx c scope ts fr env') target (ι x) σ' σ'' ∧ P σ'' ∧ TSI (compCx c scope ts fr env') σ'' ifs (p x) ∧ (p x = true → EV (compCx c scope ts fr env') σ'' elt (f x)))
    (k : ∀ D C items h' tk', Keep s.heap h' → s.heap.get? D = none → s.heap.get? C = none → D ≠ C → IsLx h' D items → RepAll h' (fun b => Off c X vs σ b ∨ b = D ∨ b = C) items.toList ((xs.filter p).map f) → (∃ m, h'.Ns C m) →
      compPost (model c.G.prog c.G.w) c.A E use Q (.ref D) C (.ok .next) { s with heap := h', toks := tk' }) :
    wpAny (model c.G.prog c.G.w) c.A (comprehension (.ListComp elt [⟨target, iter, ifs, 0⟩] scope pos) scope c.env cpos (newList []) false (eval iter c.env) use) Q E s := by
  have ok := I.ok
  have hfree : ∀ n ∈ frees scope.names, ∃ a, c.env.cells.lookup n = some a := by
    intro n hn
    have := List.all_eq_true.mp S.free n hn
    simp only [Bool.and_eq_true, beq_iff_eq] at this
    obtain ⟨i, hi⟩ := Option.isSome_iff_exists.mp this.2
    obtain ⟨a, ha, _⟩ := I.cel i n (slotOf_get hi) ((ok.kinds n).trans this.1)
    exact ⟨a, ha⟩
  have hcell : ∀ x ∈ scope.names, x.2 ≠ .cell := fun x hx => by simpa using List.all_eq_true.mp S.cell x hx
  refine wpAny_comprehension_free (cl := closOf c.env.cells scope.names) rfl (folded_of hf) (closure_is hfree) S.kind (fun x hx hl => lookup_of_mem S.names (by rw [← hl]; exact hx)) (hit.run s X vs _ _ I fun a fp n PP St h1 t1 k1 T => ?_)
  refine wpAny_newObj_type (wpAny_newFunctionEnv hcell (by intro y hy; simp at hy) (fun h₁ hns₁ hsb₁ => ?_) S.kind)
  dsimp only at hns₁ hsb₁ ⊢
  generalize hcl : closOf c.env.cells scope.names = cl at hns₁ hsb₁ ⊢
  have clc : ∀ x b, cl.lookup x = some b → c.env.cells.lookup x = some b := fun x b e => (clos_mem (hcl ▸ mem_of_lookup e) hfree).2
  generalize hH2 : h1.push { cls := .type "list", dict := none, data := .seq ([] : List Value).toArray } = H2 at hns₁ hsb₁ ⊢
  have hC : H2.objs.size = h1.objs.size + 1 := by rw [← hH2, Heap.size_push]
  generalize hD : h1.objs.size = D at hsb₁ hC ⊢
  generalize hCC : H2.objs.size = C at hns₁ hsb₁ hC ⊢
  have hDC : D ≠ C := by omega
  have newD : h1.get? D = none := hD ▸ size_none _
  have newC : h1.get? C = none := Heap.get?_none_of_le (by omega)
  have old : Keep h1 h₁ := fun b o e => hsb₁.extBut b o (fun w => by rw [w, newC] at e; cases e) (Heap.get?_push_of_some _ (hH2 ▸ Heap.get?_push_of_some _ e))
  have e0 : H2.get? D = some { cls := .type "list", dict := none, data := .seq ([] : List Value).toArray } := by rw [← hH2, ← hD]; exact Heap.get?_push_size _ rfl
  have hacc : IsLx h₁ D #[] := ⟨_, hsb₁.extBut _ _ hDC (Heap.get?_push_of_some _ e0)⟩
  have haD : a ≠ D := fun w => by
    obtain ⟨o, _, e, _⟩ := T.it 0 h1 T.st
    rw [w, newD] at e; cases e
  have haC : a ≠ C := fun w => by
    obtain ⟨o, _, e, _⟩ := T.it 0 h1 T.st
    rw [w, newC] at e; cases e
  have hal : ∀ i g, St i g → ∃ o, g.get? a = some o ∧ NT o := fun i g st => by
    obtain ⟨o, T', e, hc, hT⟩ := T.it i g st
    exact ⟨o, e, nt_of_iter hc hT⟩
  have hst₁ : St 0 h₁ := T.W.frame _ _ _ T.st fun b _ o e => old b o e
  obtain ⟨env', hE⟩ : ∃ e, compEnvC scope cl C c.env = e := ⟨_, rfl⟩
  have eL : env'.locals = C := by rw [← hE]; rfl
  have eC : env'.cells = cl := by rw [← hE]; rfl
  have ok' : (compCx c scope ts fr env').Ok := by
    refine ⟨ok.g, ok.keepB, ?_, ?_, ?_, ok.hh, ok.depth, ok.units, S.nd, fun x => ?_, ?_, fun x b e => ?_⟩
    · rw [← hE]; exact S.kind
    · rw [← hE]; exact ok.glob
    · rw [← hE]; exact ok.bui
    · rw [← hE]
      show (relabel scope c.env).names.lookup x = _
      rw [relabel_is ok]
    · show env'.cells.Pairwise _
      rw [eC, ← hcl]; exact clos_apart ok S.names hfree
    · show b ≠ env'.locals
      rw [eL]
      have e' : env'.cells.lookup x = some b := e
      rw [eC] at e'
      obtain ⟨o, e2, _⟩ := I.alive b (.inr (.inr (.inl ⟨x, clc x b e'⟩)))
      exact fun w => by rw [w] at e2; rw [none_of_keep k1 newC] at e2; cases e2
  let Y : AS := fun b => Off c X vs σ b ∨ b = a ∨ b = D ∨ b = C
  let X' : AS := fun b => (Off c X vs σ b ∧ ¬ ∃ x, cl.lookup x = some b) ∨ b = a ∨ b = D
  let M : AS := fun b => b = C ∨ ∃ x, cl.lookup x = some b
  have MY : ∀ b, M b → Y b := by
    rintro b (w | ⟨x, w⟩)
    · exact .inr (.inr (.inr w))
    · exact .inl (.inr (.inr (.inl ⟨x, clc x b w⟩)))
  have XY : ∀ b, X' b → Y b := by
    rintro b (w | w | w)
    · exact .inl w.1
    · exact .inr (.inl w)
    · exact .inr (.inr (.inl w))
  have YOff : ∀ (vs2 : Nat → Option Value) (σ2 : List Slot) b, Y b → Off (compCx c scope ts fr env') X' vs2 σ2 b := by
    rintro vs2 σ2 b (w | w | w | w)
    · by_cases q : ∃ x, cl.lookup x = some b
      · exact .inr (.inr (.inl (by show ∃ x, env'.cells.lookup x = some b; rw [eC]; exact q)))
      · exact .inl (.inl ⟨w, q⟩)
    · exact .inl (.inr (.inl w))
    · exact .inl (.inr (.inr w))
    · exact .inr (.inl (w.trans eL.symm))
  have YS : ∀ b, Y b → Off c X vs σ b ∨ s.heap.get? b = none := by
    rintro b (w | w | w | w)
    · exact .inl w
    · rw [w]; exact .inr T.new
    · rw [w]; exact .inr (none_of_keep k1 newD)
    · rw [w]; exact .inr (none_of_keep k1 newC)
  have Y1 : ∀ b, Y b → (Off c X vs σ b ∨ b = a) ∨ h1.get? b = none := by
    rintro b (w | w | w | w)
    · exact .inl (.inl w)
    · exact .inl (.inr w)
    · rw [w]; exact .inr newD
    · rw [w]; exact .inr newC
  have nM : ∀ b, M b → ¬ X' b := by
    rintro b (w | w) (q | q | q)
    · obtain ⟨o, e, _⟩ := I.alive b q.1
      rw [w, none_of_keep k1 newC] at e; cases e
    · exact haC (q.symm.trans w)
    · exact hDC (q.symm.trans w)
    · exact q.2 w
    · obtain ⟨x, w⟩ := w
      obtain ⟨o, e, _⟩ := I.alive b (.inr (.inr (.inl ⟨x, clc x b w⟩)))
      rw [q, T.new] at e; cases e
    · obtain ⟨x, w⟩ := w
      obtain ⟨o, e, _⟩ := I.alive b (.inr (.inr (.inl ⟨x, clc x b w⟩)))
      rw [q, none_of_keep k1 newD] at e; cases e
  have M0 : ∀ b, M b → c.h0.get? b = none := by
    rintro b (w | ⟨x, w⟩)
    · rw [w]; exact none_of_keep I.keep (none_of_keep k1 newC)
    · exact (I.sep b (.inr (.inl ⟨x, clc x b w⟩))).2
  have a0 : c.h0.get? a = none := none_of_keep I.keep T.new
  have D0 : c.h0.get? D = none := none_of_keep I.keep (none_of_keep k1 newD)
  -- the frame at its start
  let vs' : Nat → Option Value := fun i => if i < ts.length then none else (fr[i - ts.length]?).elim none fun q => (slotOf c.names q.1).elim none vs
  have hown : ∀ i b, ¬ OwnAt vs' (ts.map (fun _ => Slot.un) ++ fr.map fun q => Slot.val q.2) i b := by
    rintro i b ⟨⟨ys, e⟩, _⟩
    rw [List.getElem?_append] at e
    split at e
    · rw [List.getElem?_map] at e
      cases q : ts[i]? <;> rw [q] at e <;> cases e
    · rw [List.getElem?_map] at e
      cases q : fr[i - (ts.map fun _ => Slot.un).length]? <;> rw [q] at e <;> cases e
  have hMut : ∀ b, Mut (compCx c scope ts fr env') vs' (ts.map (fun _ => Slot.un) ++ fr.map fun q => Slot.val q.2) b → M b := by
    rintro b (w | ⟨x, w⟩ | ⟨i, w⟩)
    · exact .inl ((show b = env'.locals from w).trans eL)
    · exact .inr ⟨x, by rw [← eC]; exact w⟩
    · exact absurd w (hown i b)
  have tsk : ∀ x ∈ ts, (relK scope.names c.kinds).lookup x = some .local := fun x hx => by
    have := List.all_eq_true.mp S.hts x hx
    rw [lookup_relK, show scope.names.lookup x = some .local by simpa using this]; rfl
  have frk : ∀ q ∈ fr, (relK scope.names c.kinds).lookup q.1 = some .cell := fun q hq => by
    obtain ⟨i, h1, h2, h3, h4⟩ := S.hfr.mem q hq
    rw [lookup_relK, h4, h2]; rfl
  have I0 : Inv (compCx c scope ts fr env') X' h₁ vs' (ts.map (fun _ => Slot.un) ++ fr.map fun q => Slot.val q.2) := by
    refine ⟨ok', I.keep.trans (k1.trans old), ⟨_, (by show h₁.Ns env'.locals _; rw [eL]; exact hns₁), fun i x hx hl => ?_⟩, fun i x hx hl => ?_, fun i sl e => ?_, fun i j b hi _ => absurd hi (hown i b), fun i b hi => absurd hi (hown i b), fun b m => ⟨nM b (hMut b m), M0 b (hMut b m)⟩, ?_⟩
    · rw [ok'.kinds] at hl
      show none = vs' i
      show none = if i < ts.length then none else _
      split
      · rfl
      · rename_i hi
        exfalso
        have hx' : (ts ++ fr.map (·.1))[i]? = some x := hx
        rw [List.getElem?_append_right (by omega), List.getElem?_map] at hx'
        cases q : fr[i - ts.length]? with
        | none => rw [q] at hx'; cases hx'
        | some w =>
          rw [q] at hx'
          have hw := frk w (List.mem_of_getElem? q)
          cases hx'
          rw [show (compCx c scope ts fr env').kinds.lookup w.1 = some .cell from hw] at hl
          cases hl
    · rw [ok'.kinds] at hl
      have hx' : (ts ++ fr.map (·.1))[i]? = some x := hx
      by_cases hi : i < ts.length
      · rw [List.getElem?_append_left hi] at hx'
        have := tsk x (List.mem_of_getElem? hx')
        rw [show (compCx c scope ts fr env').kinds.lookup x = some .local from this] at hl
        cases hl
      · rw [List.getElem?_append_right (by omega), List.getElem?_map] at hx'
        cases q : fr[i - ts.length]? with
        | none => rw [q] at hx'; cases hx'
        | some w =>
          rw [q] at hx'
          cases hx'
          obtain ⟨j, e1, e2, e3, e4⟩ := S.hfr.mem w (List.mem_of_getElem? q)
          obtain ⟨b, e5, o, e6, e7⟩ := I.cel j w.1 (slotOf_get e1) ((ok.kinds _).trans e2)
          refine ⟨b, ?_, o, old _ _ (k1 _ _ e6), ?_⟩
          · show env'.cells.lookup w.1 = some b
            rw [eC, ← hcl]; exact clos_lookup S.names e4 e5
          · rw [e7]
            show _ = Data.cell (if i < ts.length then none else (fr[i - ts.length]?).elim none fun q => (slotOf c.names q.1).elim none vs)
            rw [if_neg hi, q]
            show _ = Data.cell ((slotOf c.names w.1).elim none vs)
            rw [e1]; rfl
    · by_cases hi : i < ts.length
      · rw [List.getElem?_append_left (by simpa using hi), List.getElem?_map] at e
        cases q : ts[i]? <;> rw [q] at e <;> cases e
        trivial
      · rw [List.getElem?_append_right (by simpa using hi), List.getElem?_map, List.length_map] at e
        cases q : fr[i - ts.length]? with
        | none => rw [q] at e; cases e
        | some w =>
          rw [q] at e; cases e
          obtain ⟨j, e1, e2, e3, e4⟩ := S.hfr.mem w (List.mem_of_getElem? q)
          obtain ⟨v, e5, r⟩ := I.slot j _ e3
          refine ⟨v, ?_, (r.weak fun b y => ?_).keep (k1.trans old)⟩
          · show (if i < ts.length then none else (fr[i - ts.length]?).elim none fun q => (slotOf c.names q.1).elim none vs) = some v
            rw [if_neg hi, q]
            show ((slotOf c.names w.1).elim none vs) = some v
            rw [e1]; exact e5
          · rcases y with y | y
            · exact YS b (XY b y)
            · exact YS b (MY b (hMut b y))
    · rintro b (w | w)
      · rcases w with w | w | w
        · obtain ⟨o, e, nt⟩ := I.alive b w.1
          exact ⟨o, old _ _ (k1 _ _ e), nt⟩
        · rw [w]; exact hal 0 h₁ hst₁
        · rw [w]; exact lx_nt hacc
      · rcases hMut b w with w | ⟨x, w⟩
        · rw [w]; exact ns_nt hns₁
        · obtain ⟨o, e, nt⟩ := I.alive b (.inr (.inr (.inl ⟨x, clc x b w⟩)))
          exact ⟨o, old _ _ (k1 _ _ e), nt⟩
  have hlen : n = xs.length := by rw [T.len, List.length_map]
  let J : Nat → Shared → Prop := fun m s' => ∃ i vs2 σ2 h' tk' items, s' = { s with heap := h', toks := tk' } ∧ m = n + 1 - i ∧ i ≤ n ∧ Inv (compCx c scope ts fr env') X' h' vs2 σ2 ∧ P σ2 ∧ (∀ b, Mut (compCx c scope ts fr env') vs2 σ2 b → M b) ∧ St i h' ∧ IsLx h' D items ∧
    RepAll h' Y items.toList (((xs.take i).filter p).map f) ∧ ∀ b o, b ≠ a → b ≠ D → b ≠ C → h1.get? b = some o → h'.get? b = some o
  have loop : ∀ tk, codeAny (model c.G.prog c.G.w) c.A (.compLoop (.ListComp elt [⟨target, iter, ifs, 0⟩] scope pos) 0 (.ref a) (.ref D) env') (compPost (model c.G.prog c.G.w) c.A E use Q (.ref D) C) { s with heap := h₁, toks := tk } := by
    intro tk
    refine codeAny_compLoop_any J ?_ (n + 1) ⟨0, vs', _, h₁, tk, #[], rfl, rfl, Nat.zero_le _, I0, hP0, hMut, hst₁, hacc, by simpa using RepAll.nil, fun b o _ _ _ e => old b o e⟩
    rintro m s' ⟨i, vs2, σ2, h', tk', items, rfl, rfl, hi, I', hP, hM, st, hl, hr, hk⟩
    have aC : ∀ {g : Heap} {vs3 : Nat → Option Value} {σ3 : List Slot}, Inv (compCx c scope ts fr env') X' g vs3 σ3 → ∀ b, b = a ∨ b = D ∨ b = C → ∃ o, g.get? b = some o ∧ NT o := by
      intro g vs3 σ3 I3 b hb
      rcases hb with w | w | w
      · exact I3.alive b (.inl (.inr (.inl w)))
      · exact I3.alive b (.inl (.inr (.inr w)))
      · exact I3.alive b (.inr (.inl (w.trans eL.symm)))
    by_cases hlt : i < n
    · refine T.W.item i _ _ _ hlt st fun v h2 t2 hPv st2 k2 => ?_
      have k2' : ∀ b o, b ≠ a → h'.get? b = some o → h2.get? b = some o := fun b o n e => k2 b o (fun q => n (List.mem_singleton.mp q)) e
      obtain ⟨o2, T2, e2, hc2, hT2⟩ := T.it _ _ st2
      have I2 := I'.bump (.inr (.inl rfl)) a0 k2' ⟨o2, e2, nt_of_iter hc2 hT2⟩
      refine letOwned_pure (s := { s with heap := h2, toks := t2 }) e2 hc2 hT2 ?_
      have hltx : i < xs.length := by omega
      have hx : xs[i]? = some xs[i] := List.getElem?_eq_getElem hltx
      have hd : (xs.map ι)[i]? = some (ι xs[i]) := by rw [List.getElem?_map, hx]; rfl
      obtain ⟨σ3, tg, hP3, hts, hel⟩ := step env' xs[i] σ2 (List.getElem_mem hltx) hP
      have r2 : Rep h2 (Off (compCx c scope ts fr env') X' vs2 σ2) v (ι xs[i]) := by
        refine (T.item i v _ hPv hd).move (fun b o e q => ?_) fun b y => ?_
        · have hba : b ≠ a := fun w => by
            subst w
            rcases q with q | q
            · exact q (.inr rfl)
            · obtain ⟨o', e', nt⟩ := hal 0 h1 T.st
              rw [e] at e'; cases e'; exact q nt
          exact k2' b o hba (hk b o hba (fun w => by rw [w, newD] at e; cases e) (fun w => by rw [w, newC] at e; cases e) e)
        · rcases y with y | y
          · exact Y1 b (XY b y)
          · exact Y1 b (MY b (hM b y))
      refine tg.run _ _ vs2 v _ _ I2 r2 fun h3 t3 vs3 k3 I3 m3 => ?_
      have k3' : ∀ b o, b ≠ C → h2.get? b = some o → h3.get? b = some o := fun b o n e => k3 b o (by show b ≠ env'.locals; rw [eL]; exact n) e
      refine hts.run _ _ vs3 _ _ I3 fun h4 t4 k4 => ?_
      have I4 := I3.grow k4
      have kk : ∀ b o, b ≠ a → b ≠ C → h'.get? b = some o → h4.get? b = some o := fun b o n1 n2 e => k4 b o (k3' b o n2 (k2' b o n1 e))
      have kf : ∀ b ∈ fp, ∀ o, h2.get? b = some o → h4.get? b = some o := fun b hb o e => by
        refine k4 b o (k3' b o (fun w => ?_) e)
        by_cases q : b = a
        · exact haC (q.symm.trans w)
        · obtain ⟨_, o1, e1⟩ := T.fps b hb q
          rw [w, newC] at e1; cases e1
      have fpD : D ∉ fp := fun hb => by
        obtain ⟨_, o1, e1⟩ := T.fps D hb (Ne.symm haD)
        rw [newD] at e1; cases e1
      have r4 : RepAll h4 Y items.toList (((xs.take i).filter p).map f) := hr.over fun b o q e => by
        have nn : ∀ w, w = a ∨ w = D ∨ w = C → b ≠ w := fun w hw hb => by
          rcases q with q | q
          · exact q (by rw [hb]; exact .inr hw)
          · obtain ⟨o', e', nt⟩ := aC I' w hw
            rw [hb, e'] at e; cases e; exact q nt
        exact kk b o (nn a (.inl rfl)) (nn C (.inr (.inr rfl))) e
      have l4 : IsLx h4 D items := by
        obtain ⟨nn, e⟩ := hl
        exact ⟨nn, kk _ _ (Ne.symm haD) hDC e⟩
      cases hp : p xs[i] with
      | false =>
        simp only [Bool.false_eq_true, if_false]
        refine ⟨n + 1 - (i + 1), by omega, i + 1, vs3, σ3, h4, t4, items, rfl, rfl, hlt, I4, hP3, fun b m => hM b (m3 b m), T.W.frame _ _ _ st2 kf, l4, ?_, fun b o n1 n2 n3 e => kk b o n1 n3 (hk b o n1 n2 n3 e)⟩
        rw [take_filter_map p f xs i _ hx, hp]
        simpa using r4
      | true =>
        simp only [if_true]
        refine (hel hp).run _ _ vs3 _ _ I4 fun u h5 t5 k5 r5 => ?_
        obtain ⟨nn, e5⟩ := l4
        have hsz : items.size ≤ 2 ^ 20 := by
          have e1 := r4.length
          have e2 : ((xs.take i).filter p).length ≤ (xs.take i).length := List.length_filter_le _ _
          have e3 : (xs.take i).length ≤ xs.length := by rw [List.length_take]; omega
          rw [List.length_map] at e1
          have e4 : items.toList.length = items.size := by simp
          omega
        refine wpAny_list_append_plain (s := { s with heap := h5, toks := t5 }) (items := items) ⟨nn, k5 _ _ e5⟩ (fun h6 l6 s6 => ?_) (Nat.le_trans hsz (by decide))
        have I5 := I4.grow k5
        have k6 : ∀ b o, b ≠ D → h5.get? b = some o → h6.get? b = some o := fun b o n e => (s6.2 b n).trans e
        refine ⟨n + 1 - (i + 1), by omega, i + 1, vs3, σ3, h6, t5, _, rfl, rfl, hlt, I5.bump (.inr (.inr rfl)) D0 k6 (lx_nt l6), hP3, fun b m => hM b (m3 b m), T.W.frame _ _ _ st2 fun b hb o e => k6 b o (fun w => fpD (w ▸ hb)) (k5 b o (kf b hb o e)), l6, ?_,
          fun b o n1 n2 n3 e => k6 b o n2 (k5 b o (kk b o n1 n3 (hk b o n1 n2 n3 e)))⟩
        rw [take_filter_map p f xs i _ hx, hp, Array.toList_push]
        have nD : ∀ b o, h5.get? b = some o → ¬ Y b ∨ ¬ NT o → b ≠ D := fun b o e q w => by
          rcases q with q | q
          · exact q (.inr (.inr (.inl w)))
          · obtain ⟨o', e', nt⟩ := aC I5 b (.inr (.inl w))
            rw [e] at e'; cases e'; exact q nt
        refine RepAll.append ((r4.keep k5).kept fun b o e q => k6 b o (nD b o e q) e) ?_
        refine RepAll.cons (r5.move (fun b o e q => k6 b o (nD b o e (q.imp (fun w y => w (YOff vs3 σ3 b y)) id)) e) fun b y => .inl (YOff vs3 σ3 b y)) RepAll.nil
    · have hin : i = n := by omega
      subst hin
      refine T.W.done _ _ _ st fun h2 t2 k2 => ?_
      have k2' : ∀ b o, b ≠ a → h'.get? b = some o → h2.get? b = some o := fun b o n e => k2 b o (fun q => n (List.mem_singleton.mp q)) e
      obtain ⟨mm, hns, _⟩ := I'.loc
      have hns : h'.Ns C mm := by rw [← eL]; exact hns
      refine k D C items h2 t2 (fun b o e => ?_) (none_of_keep k1 newD) (none_of_keep k1 newC) hDC ?_ ?_ ⟨mm, hns.at' fun o e => k2' _ o (Ne.symm haC) e⟩
      · have e1 := k1 b o e
        have hba : b ≠ a := fun w => by rw [w, T.new] at e; cases e
        exact k2' b o hba (hk b o hba (fun w => by rw [w, newD] at e1; cases e1) (fun w => by rw [w, newC] at e1; cases e1) e1)
      · obtain ⟨nn, e⟩ := hl
        exact ⟨nn, k2' _ _ (Ne.symm haD) e⟩
      · rw [show xs.take i = xs from List.take_of_length_le (by omega)] at hr
        refine (hr.over fun b o q e => k2' b o (fun w => ?_) e).weak fun b y => .inl ?_
        · rcases q with q | q
          · exact q (.inr (.inl w))
          · obtain ⟨o', e', nt⟩ := aC I' b (.inl w)
            rw [e] at e'; cases e'; exact q nt
        · rcases y with y | y | y
          · exact .inl y
          · exact .inr (.inr (.inl y))
          · exact .inr (.inr (.inr y))
  show codeAny _ _ (.compStart _ 0 (.ref a) (.ref D) (compEnvC scope cl C c.env)) (compPost _ _ E use Q (.ref D) C) _
  rw [hE]
  exact codeAny_compStart_list (loop _) (T.W.self 0 _ _ _ hst₁ (loop _))
end
end Mine
end
section
namespace Mine
open PySem PySem.Calls

section
variable {c : Cx} {σ : List Slot}

theorem EVF.compG {α : Type} {elt iter target : Expr} {ifs : List Expr} {scope : Scope} {pos : Pos} {xs : List α} {ι : α → D} {p : α → Bool} {f : α → D} {ts : List Str} {fr : List (Str × D)} {P : List Slot → Prop}
    (hit : IT c σ iter (xs.map ι)) (hf : noFold iter = true) (hz : xs.length ≤ 2 ^ 20) (S : CompOk c σ scope ts fr)
    (hP0 : P (ts.map (fun _ => Slot.un) ++ fr.map fun q => Slot.val q.2))
    (step : ∀ env' x σ', x ∈ xs → P σ' → ∃ σ'', TGL (compCx c scope ts fr env') target (ι x) σ' σ'' ∧ P σ'' ∧ TSI (compCx c scope ts fr env') σ'' ifs (p x) ∧ (p x = true → EV (compCx c scope ts fr env') σ'' elt (f x))) :
    EVF c σ (.ListComp elt [⟨target, iter, ifs, 0⟩] scope pos) ((xs.filter p).map f) := by
  constructor; intro s X vs R E I q
  rw [eval_ListComp]
  refine comp_run (use := none) I hit hf hz S hP0 step fun D C items h' tk' kk nD nC hDC hl hr hns => ?_
  obtain ⟨m, hns⟩ := hns
  refine ⟨m, hns, fun h2 sb => ?_⟩
  obtain ⟨nn, e⟩ := hl
  refine q D items h2 tk' (fun b o e => (sb.2 b fun w => ?_).trans (kk b o e)) nD ⟨nn, (sb.2 _ hDC).trans e⟩ ?_
  · rw [w, nC] at e; cases e
  · refine (hr.over fun b o w e => (sb.2 b fun w' => ?_).trans e).weak fun b y => .inl (y.imp id .inl)
    rcases w with w | w
    · exact w (.inr (.inr w'))
    · obtain ⟨o', e', nt⟩ := ns_nt hns
      rw [w', e'] at e; cases e; exact w nt

/-- x for one name, with or without a test -/
theorem EVF.compI {α : Type} {elt iter t : Expr} {x : Str} {px : Pos} {scope : Scope} {pos : Pos} {xs : List α} {ι : α → D} {p : α → Bool} {f : α → D} {fr : List (Str × D)}
    (hit : IT c σ iter (xs.map ι)) (S : CompOk c σ scope [x] fr) (hf : noFold iter = true) (hx : isVar (compCx c scope [x] fr c.env) x = true) (hz : xs.length ≤ 2 ^ 20)
    (ht : ∀ env' x', x' ∈ xs → TS (compCx c scope [x] fr env') (.val (ι x') :: fr.map fun q => .val q.2) t (p x'))
    (he : ∀ env' x', x' ∈ xs → p x' = true → EV (compCx c scope [x] fr env') (.val (ι x') :: fr.map fun q => .val q.2) elt (f x')) :
    EVF c σ (.ListComp elt [⟨.Name x px, iter, [t], 0⟩] scope pos) ((xs.filter p).map f) := by
  refine EVF.compG (P := fun σ' => ∃ sl, σ' = sl :: fr.map fun q => .val q.2) hit hf hz S ⟨_, rfl⟩ ?_
  rintro env' y _ hy ⟨sl, rfl⟩
  have hl : (relK scope.names c.kinds).lookup x = some .local := by
    have := List.all_eq_true.mp S.hts x (.head _)
    rw [lookup_relK, show scope.names.lookup x = some .local by simpa using this]; rfl
  exact ⟨_, TGL.name (i := 0) (by simp [slotOf]) hx hl, ⟨_, rfl⟩, TSI.one (ht env' y hy), he env' y hy⟩
theorem EVF.comp {α : Type} {elt iter : Expr} {x : Str} {px : Pos} {scope : Scope} {pos : Pos} {xs : List α} {ι : α → D} {f : α → D} {fr : List (Str × D)}
    (hit : IT c σ iter (xs.map ι)) (S : CompOk c σ scope [x] fr) (hf : noFold iter = true) (hx : isVar (compCx c scope [x] fr c.env) x = true) (hz : xs.length ≤ 2 ^ 20)
    (he : ∀ env' x', x' ∈ xs → EV (compCx c scope [x] fr env') (.val (ι x') :: fr.map fun q => .val q.2) elt (f x')) :
    EVF c σ (.ListComp elt [⟨.Name x px, iter, [], 0⟩] scope pos) (xs.map f) := by
  have h := EVF.compG (P := fun σ' => ∃ sl, σ' = sl :: fr.map fun q => .val q.2) (p := fun _ => true) (f := f) (elt := elt) (target := .Name x px) (ifs := []) (pos := pos) hit hf hz S ⟨_, rfl⟩ ?_
  · rwa [show xs.filter (fun _ => true) = xs from List.filter_eq_self.mpr (fun _ _ => rfl)] at h
  rintro env' y _ hy ⟨sl, rfl⟩
  have hl : (relK scope.names c.kinds).lookup x = some .local := by
    have := List.all_eq_true.mp S.hts x (.head _)
    rw [lookup_relK, show scope.names.lookup x = some .local by simpa using this]; rfl
  exact ⟨_, TGL.name (i := 0) (by simp [slotOf]) hx hl, ⟨_, rfl⟩, TSI.nil, fun _ => he env' y hy⟩

theorem swaps_true {y : Str} {py spos pos : Pos} {elt : Expr} {gs : List Comprehension} {scope : Scope} {X : AS} {h : Heap} {vs : Nat → Option Value} (I : Inv c X h vs σ) (hl : c.kinds.lookup y = some .local) (hline : (py.line == pos.line) = true)
    (hnot : (scope.names.any fun x => x.1 == y && (x.2 == .local || x.2 == .cell)) = false) : swapsWith (.ListComp elt gs scope pos) (some (.Name y py)) spos.line c.env = pure true := by
  unfold swapsWith
  have h1 : c.env.blockKind = .function := by unfold Env.blockKind; rw [I.ok.kind]; rfl
  simp only [h1, I.ok.kinds, hl]
  show pure (_ && _ && (py.line == pos.line) && !(scope.names.any fun x => x.1 == y && (x.2 == .local || x.2 == .cell))) = _
  rw [hline, hnot]; rfl
theorem swaps_cell {y : Str} {py spos pos : Pos} {elt : Expr} {gs : List Comprehension} {scope : Scope} {X : AS} {h : Heap} {vs : Nat → Option Value} (I : Inv c X h vs σ) (hl : c.kinds.lookup y = some .cell) :
    swapsWith (.ListComp elt gs scope pos) (some (.Name y py)) spos.line c.env = pure false := by
  unfold swapsWith
  simp only [I.ok.kinds, hl]
  show pure (_ && (some NameKind.cell == some NameKind.local) && _ && _) = _
  rw [show (some NameKind.cell == some NameKind.local) = false from rfl, Bool.and_false, Bool.false_and, Bool.false_and]

/-- a comprehension given to a local -/
theorem WP.assignCompG {α : Type} {y : Str} {py spos : Pos} {i : Nat} {elt iter target : Expr} {ifs : List Expr} {scope : Scope} {pos : Pos} {xs : List α} {ι : α → D} {p : α → Bool} {f : α → D} {ts : List Str} {fr : List (Str × D)} {P : List Slot → Prop} {rest : List Stmt} {Q : Out → Prop}
    (hi : slotOf c.names y = some i) (hk : isVar c y = true) (hl : c.kinds.lookup y = some .local) (hline : (py.line == pos.line) = true) (hnot : (scope.names.any fun x => x.1 == y && (x.2 == .local || x.2 == .cell)) = false)
    (hit : IT c σ iter (xs.map ι)) (hf : noFold iter = true) (hz : xs.length ≤ 2 ^ 20) (S : CompOk c σ scope ts fr)
    (hP0 : P (ts.map (fun _ => Slot.un) ++ fr.map fun q => Slot.val q.2))
    (step : ∀ env' x σ', x ∈ xs → P σ' → ∃ σ'', TGL (compCx c scope ts fr env') target (ι x) σ' σ'' ∧ P σ'' ∧ TSI (compCx c scope ts fr env') σ'' ifs (p x) ∧ (p x = true → EV (compCx c scope ts fr env') σ'' elt (f x)))
    (h : WP c (σ.set i (.own ((xs.filter p).map f))) rest Q) : WP c σ (.Assign [.Name y py] (.ListComp elt [⟨target, iter, ifs, 0⟩] scope pos) spos :: rest) Q := by
  refine WP.cons ?_
  constructor; intro s X vs R E I k
  rw [exec_Assign_Name_used _ _ _ _ (swaps_true I hl hline hnot)]
  refine wpAny_bind (wpAny_standAt (wpAny_bind ?_))
  show wpAny _ c.A (do let _ ← comprehension (.ListComp elt [⟨target, iter, ifs, 0⟩] scope pos) scope c.env _ (newList []) false (eval iter c.env) (some (PySem.assign (.Name y py) c.env))) _ _ s
  refine wpAny_bind (wpAny_mono (comp_run (use := some (PySem.assign (.Name y py) c.env)) (Q := fun _ s' => R .next s') (E := E) I hit hf hz S hP0 step fun D C items h' tk' kk nD nC hDC hlx hr hns => ?_) (fun _ s' hq => wpAny_pure (wpAny_pure hq)) fun _ _ e => e)
  obtain ⟨m, hns⟩ := hns
  have I1 : Inv c (fun b => X b ∨ (b = D ∨ b = C)) h' vs σ := I.guardS kk fun b hb => by
    rcases hb with rfl | rfl
    · exact ⟨nD, lx_nt hlx⟩
    · exact ⟨nC, ns_nt hns⟩
  show wpAny _ c.A (PySem.assign (.Name y py) c.env (.ref D)) _ _ _
  refine wpAny_assign_Name (wp_store I1 (slotOf_get hi) (isVar.kind I.ok hk).1 fun h2 t2 S2 => ?_)
  have hXD : ¬ X D := fun q => off_fresh I nD (.inl q)
  have I2 : Inv c (fun b => X b ∨ b = C) h2 (upd vs i (.ref D)) (σ.set i (.own ((xs.filter p).map f))) := by
    refine I1.put S2 (slotOf_get hi) (fun b q => q.imp id .inr) (fun ys e b e2 => ?_) fun _ => ⟨D, items, rfl, hlx, hr.weak fun b y => ?_⟩
    · cases e2; exact ⟨.inr (.inl rfl), fun q => q.elim hXD hDC, none_of_keep I.keep nD⟩
    · rcases y with (y | y) | y
      · exact .inl (.inl (.inl y))
      · exact .inl (.inr y)
      · exact .inl (.inl (.inr y))
  have hC2 : ∃ o, h2.get? C = some o ∧ NT o := I2.alive C (.inl (.inr rfl))
  have hnsC : h2.Ns C m := by
    obtain ⟨q, hq, sb, _⟩ := S2.place
    refine hns.sameBut sb fun w => ?_
    have hm : Mut c vs σ q := hq.elim .inl fun z => .inr (.inl z)
    obtain ⟨o, e, _⟩ := I.alive q (.inr hm)
    rw [← w, nC] at e; cases e
  refine ⟨m, hnsC, fun h3 sb3 => ?_⟩
  have k3 : ∀ b o, b ≠ C → h2.get? b = some o → h3.get? b = some o := fun b o n e => (sb3.2 b n).trans e
  have I3 : Inv c X h3 (upd vs i (.ref D)) (σ.set i (.own ((xs.filter p).map f))) := by
    refine I2.changeTo (fun _ x => .inl x) (fun b o e => k3 b o (fun w => by rw [w, none_of_keep I.keep nC] at e; cases e) (I2.keep b o e)) (fun b o e q => k3 b o (fun w => ?_) e) fun b x => ?_
    · rcases q with q | q | q
      · exact q (.inl (.inr w))
      · obtain ⟨o', e', nt⟩ := hC2
        rw [w, e'] at e; cases e; exact q nt
      · exact (I2.sep b q).1 (.inr w)
    · obtain ⟨o, e, nt⟩ := I2.alive b (.inl (.inl x))
      exact ⟨o, k3 b o (fun w => off_fresh I nC (.inl (w ▸ x))) e, nt⟩
  refine k (.next (σ.set i (.own ((xs.filter p).map f)))) _ _ _ h ⟨rfl, fun b o nb e => ?_, upd vs i (.ref D), I3, fun b mm => ?_⟩
  · exact k3 b o (fun w => by rw [w, nC] at e; cases e) (S2.keeps b o nb (kk b o e))
  · exact mut_put (fun ys e b e2 => by cases e2; exact nD) mm
theorem WP.assignComp {α : Type} {y : Str} {py spos : Pos} {i : Nat} {elt iter : Expr} {x : Str} {px : Pos} {scope : Scope} {pos : Pos} {xs : List α} {ι : α → D} {f : α → D} {fr : List (Str × D)} {rest : List Stmt} {Q : Out → Prop}
    (hi : slotOf c.names y = some i) (hk : isVar c y = true) (hl : c.kinds.lookup y = some .local) (hline : (py.line == pos.line) = true) (hnot : (scope.names.any fun x => x.1 == y && (x.2 == .local || x.2 == .cell)) = false)
    (hit : IT c σ iter (xs.map ι)) (S : CompOk c σ scope [x] fr) (hf : noFold iter = true) (hx : isVar (compCx c scope [x] fr c.env) x = true) (hz : xs.length ≤ 2 ^ 20)
    (he : ∀ env' x', x' ∈ xs → EV (compCx c scope [x] fr env') (.val (ι x') :: fr.map fun q => .val q.2) elt (f x'))
    (h : WP c (σ.set i (.own (xs.map f))) rest Q) : WP c σ (.Assign [.Name y py] (.ListComp elt [⟨.Name x px, iter, [], 0⟩] scope pos) spos :: rest) Q := by
  refine WP.assignCompG (P := fun σ' => ∃ sl, σ' = sl :: fr.map fun q => .val q.2) (p := fun _ => true) (f := f) hi hk hl hline hnot hit hf hz S ⟨_, rfl⟩ ?_ (by rw [show xs.filter (fun _ => true) = xs from List.filter_eq_self.mpr (fun _ _ => rfl)]; exact h)
  rintro env' y _ hy ⟨sl, rfl⟩
  have hl : (relK scope.names c.kinds).lookup x = some .local := by
    have := List.all_eq_true.mp S.hts x (.head _)
    rw [lookup_relK, show scope.names.lookup x = some .local by simpa using this]; rfl
  exact ⟨_, TGL.name (i := 0) (by simp [slotOf]) hx hl, ⟨_, rfl⟩, TSI.nil, fun _ => he env' y hy⟩
theorem WP.assignCompI {α : Type} {y : Str} {py spos : Pos} {i : Nat} {elt iter t : Expr} {x : Str} {px : Pos} {scope : Scope} {pos : Pos} {xs : List α} {ι : α → D} {p : α → Bool} {f : α → D} {fr : List (Str × D)} {rest : List Stmt} {Q : Out → Prop}
    (hi : slotOf c.names y = some i) (hk : isVar c y = true) (hl : c.kinds.lookup y = some .local) (hline : (py.line == pos.line) = true) (hnot : (scope.names.any fun x => x.1 == y && (x.2 == .local || x.2 == .cell)) = false)
    (hit : IT c σ iter (xs.map ι)) (S : CompOk c σ scope [x] fr) (hf : noFold iter = true) (hx : isVar (compCx c scope [x] fr c.env) x = true) (hz : xs.length ≤ 2 ^ 20)
    (ht : ∀ env' x', x' ∈ xs → TS (compCx c scope [x] fr env') (.val (ι x') :: fr.map fun q => .val q.2) t (p x'))
    (he : ∀ env' x', x' ∈ xs → p x' = true → EV (compCx c scope [x] fr env') (.val (ι x') :: fr.map fun q => .val q.2) elt (f x'))
    (h : WP c (σ.set i (.own ((xs.filter p).map f))) rest Q) : WP c σ (.Assign [.Name y py] (.ListComp elt [⟨.Name x px, iter, [t], 0⟩] scope pos) spos :: rest) Q := by
  refine WP.assignCompG (P := fun σ' => ∃ sl, σ' = sl :: fr.map fun q => .val q.2) hi hk hl hline hnot hit hf hz S ⟨_, rfl⟩ ?_ h
  rintro env' y _ hy ⟨sl, rfl⟩
  have hl : (relK scope.names c.kinds).lookup x = some .local := by
    have := List.all_eq_true.mp S.hts x (.head _)
    rw [lookup_relK, show scope.names.lookup x = some .local by simpa using this]; rfl
  exact ⟨_, TGL.name (i := 0) (by simp [slotOf]) hx hl, ⟨_, rfl⟩, TSI.one (ht env' y hy), he env' y hy⟩
/-- a comprehension given to a cell variable -/
theorem WP.assignCompCell {y : Str} {py spos : Pos} {i : Nat} {elt : Expr} {gs : List Comprehension} {scope : Scope} {pos : Pos} {xs : List D} {rest : List Stmt} {Q : Out → Prop} (hi : slotOf c.names y = some i) (hk : isVar c y = true) (hl : c.kinds.lookup y = some .cell)
    (he : EVF c σ (.ListComp elt gs scope pos) xs) (h : WP c (σ.set i (.val (.list xs))) rest Q) : WP c σ (.Assign [.Name y py] (.ListComp elt gs scope pos) spos :: rest) Q := by
  refine WP.cons ?_
  constructor; intro s X vs R E I k
  refine wpAny_Assign_Name (he.ev.run s X vs _ _ I fun v h1 t1 k1 r1 => ?_) (swaps_cell I hl)
  have I1 := I.grow k1
  refine wp_store I1 (slotOf_get hi) (isVar.kind I.ok hk).1 fun h2 t2 S => ?_
  refine k (.next (σ.set i (.val (.list xs)))) _ _ _ h ⟨rfl, fun b o n q => S.keeps b o n (k1 b o q), upd vs i v, ?_, fun a m => ?_⟩
  · exact I1.put S (slotOf_get hi) (fun _ x => x) (fun xs e => by cases e) fun _ => ⟨v, rfl, r1⟩
  · exact mut_put (fun xs e => by cases e) m
end
end Mine
end
section
namespace Mine
open PySem PySem.Calls

theorem exec_of_execs1 {M : Model} {A : Around} {st : Stmt} {env : Env} {Q : Flow → Shared → Prop} {E : Value → Shared → Prop} {s : Shared} (h : wpAny M A (execs [st] env) Q E s) : wpAny M A (exec st env) Q E s := fun Γ p hΓ => by
  have := h Γ p hΓ
  rw [execs_cons, Sem.wp_bind'] at this
  refine Sem.wp_mono M Γ _ (fun f p' s' h' => ?_) (fun _ _ _ h' => h') _ _ this
  cases f <;> exact h'

/-- the frames of the calls under way, alive -/
def FrsIn (h : Heap) (l : List Env) : Prop := ∀ env ∈ l, env.scope.kind ≠ .module ∧ ∃ L o, env.frame = some L ∧ h.get? L = some o ∧ ∃ es ep, o.data = .dict es ep
def isFrame (l : List Env) (b : Addr) : Prop := ∃ env ∈ l, env.frame = some b
theorem FrsIn.keep {h h' : Heap} {l : List Env} (x : FrsIn h l) (k : Keep h h') : FrsIn h' l := fun env he => let ⟨h1, L, o, h2, h3, h4⟩ := x env he; ⟨h1, L, o, h2, k _ _ h3, h4⟩
theorem FrsIn.fun {h base : Heap} : ∀ {l : List Env}, FrsIn h l → (∀ b, isFrame l b → base.get? b = none) → h.FunFrames base l
  | [], _, _ => trivial
  | env :: l, x, n => by
    obtain ⟨h1, L, o, h2, h3, h4⟩ := x env (.head _)
    obtain ⟨es, ep, h4⟩ := h4
    exact ⟨h1, ⟨L, o, h2, n L ⟨env, .head _, h2⟩, h3, fun ws w => by rw [h4] at w; cases w⟩, FrsIn.fun (fun e he => x e (.tail _ he)) fun b ⟨e, he, hf⟩ => n b ⟨e, .tail _ he, hf⟩⟩
/-- an exception on its way -/
structure Fly (l : List Env) (cls : Value) (h h' : Heap) (e : Addr) : Prop where
  fly : ∃ base a0, Heap.FlyingW base l e cls a0 h' ∧ ∀ b o, ¬ isFrame l b → h.get? b = some o → base.get? b = some o
  up : h.UpToSlots h'

abbrev OwnX (G : GX) (x : Str) (C : Addr) : Prop := PyProof.Rows.OwnCls x C [.type "Exception", .type "BaseException", .type "object"] "Exception.__new__" G.mg G.hb

def FnRaise (G : GX) (f : Addr) (args : List D) (cls : Value) (n : Nat) : Prop :=
  ∀ (A : Around) (s : Shared) (X : AS) (us : List Value) (R : Value → Shared → Prop) (E : Value → Shared → Prop) (outer : List Env), A.frames = some outer → FrsIn s.heap outer → Keep G.hb s.heap → A.handled = none → A.depth + n < recursionLimit → A.units + 8 * n + 100 < cLine →
    (∀ a, X a → ∃ o, s.heap.get? a = some o ∧ NT o) → RepAll s.heap X us args →
    (∀ e h' tk', Fly outer cls s.heap h' e → E (.ref e) { s with heap := h', toks := tk' }) → wpAny (model G.prog G.w) A (call (.ref f) us) R E s
/-- a def that catches: the frames' slots change -/
def FnSpecF (G : GX) (f : Addr) (args : List D) (d : D) (n : Nat) : Prop :=
  ∀ (A : Around) (s : Shared) (X : AS) (us : List Value) (R : Value → Shared → Prop) (E : Value → Shared → Prop) (outer : List Env), A.frames = some outer → FrsIn s.heap outer → Keep G.hb s.heap → A.handled = none → A.depth + n < recursionLimit → A.units + 8 * n + 100 < cLine →
    (∀ a, X a → ∃ o, s.heap.get? a = some o ∧ NT o) → RepAll s.heap X us args →
    (∀ v h' tk', (∀ b o, ¬ isFrame outer b → s.heap.get? b = some o → h'.get? b = some o) → s.heap.UpToSlots h' → (∃ d', v = d' ∧ ∀ Y, Rep h' Y v d) → R v { s with heap := h', toks := tk' }) → wpAny (model G.prog G.w) A (call (.ref f) us) R E s
theorem FnRaise.mono {G : GX} {f : Addr} {args : List D} {cls : Value} {n m : Nat} (h : FnRaise G f args cls n) (hm : n ≤ m) : FnRaise G f args cls m :=
  fun A s X us R E o h0 h0' k h1 h2 h3 a ru q => h A s X us R E o h0 h0' k h1 (by omega) (by omega) a ru q
theorem FnSpecF.mono {G : GX} {f : Addr} {args : List D} {d : D} {n m : Nat} (h : FnSpecF G f args d n) (hm : n ≤ m) : FnSpecF G f args d m :=
  fun A s X us R E o h0 h0' k h1 h2 h3 a ru q => h A s X us R E o h0 h0' k h1 (by omega) (by omega) a ru q

section
variable {c : Cx} {σ : List Slot}

/-- statements that raise -/
structure WX (c : Cx) (σ : List Slot) (ss : List Stmt) (cls : Value) : Prop where
  run : ∀ (s : Shared) (X : AS) (vs : Nat → Option Value) (R : Flow → Shared → Prop) (E : Value → Shared → Prop), Inv c X s.heap vs σ → PassesOwn (model c.G.prog c.G.w) c.A c.env E →
    (∀ e g h' tk' args, (∀ b o, ¬ Mut c vs σ b → s.heap.get? b = some o → g.get? b = some o) → (∃ m, g.Ns c.env.locals m) → Heap.MadeExcOf g h' e cls args → E (.ref e) { s with heap := h', toks := tk' }) →
      wpAny (model c.G.prog c.G.w) c.A (execs ss c.env) R E s

theorem WX.raise {x : Str} {C : Addr} {e : Expr} {d : D} {np cpos pos : Pos} {rest : List Stmt} (O : OwnX c.G x C) (he : EV c σ e d) (hn : noStar e = true) (hx : c.kinds.lookup x = some .globalImplicit) (hd : (x == ("__debug__" : Str)) = false) :
    WX c σ (.Raise (some (.Call (.Name x np) [e] [] cpos)) none pos :: rest) (.ref C) := by
  constructor; intro s X vs R E I hE k
  refine wpAny_execs_cons ?_
  obtain ⟨tl, N, nm, q, bs, hdct, sn, sub, ab, col, dd, k0, k1, k2, k3, k5, mN, hC, hN, hni, T⟩ := O.obj
  refine wpAny_Raise_call_subT (C := C) (nm := nm) (q := q) (N := N) (bs := bs) (bm := tl) (hdct := hdct) (sn := sn) (sub := sub) (ab := ab) (col := col) (dd := dd) (k0 := k0) (k1 := k1) (k2 := k2) (k3 := k3) (k5 := k5)
    F.excBase_Exception (mN := mN) (T.hasType F.excBase_Exception.hasBase) I.ok.hh (noStar_any (by simp [hn])) hni (Name_function_global I.ok.kind ((I.ok.kinds x).trans hx) (loadGlobal_global (env := c.env) ?_ O.bound ⟨rfl, ?_⟩) hd)
  · rw [I.ok.glob]; exact (I.ok.g.g.keeps I.ok.keepB).keeps I.keep
  refine wp_args hn ((EVs.one he hn).run s X vs _ _ cpos I fun us h1 t1 k1 r1 => ?_)
  have I1 := I.grow k1
  have kb : Keep c.G.hb h1 := I.ok.keepB.trans I1.keep
  obtain ⟨m, hns, _⟩ := I1.loc
  refine ⟨rfl, ?_, kb _ _ hC, hN.keeps kb, T.keeps kb, fun h' e hm => ?_⟩
  · have := r1.length
    show us.length ≤ sizeLine
    rw [this]; exact Nat.le_trans (by decide : 1 ≤ 2) (by decide)
  · exact k e h1 h' t1 _ (fun b o _ e => k1 b o e) ⟨m, hns⟩ hm

theorem WX.seq {st : Stmt} {rest : List Stmt} {cls : Value} (h : WP c σ [st] (fun o => ∃ σ', o = .next σ' ∧ WX c σ' rest cls)) : WX c σ (st :: rest) cls := by
  constructor; intro s X vs R E I hE k
  refine wpAny_execs_cons (exec_of_execs1 (h.run s X vs _ _ I fun out f h1 t1 q r => ?_))
  obtain ⟨σ1, rfl, hw⟩ := q
  obtain ⟨rfl, k1, vs1, I1, e1⟩ := r
  refine hw.run _ X vs1 _ _ I1 hE fun e g h' tk' args kk hn hm => k e g h' tk' args (fun b o n q => kk b o (fun m => ?_) (k1 b o n q)) hn hm
  rcases e1 b m with m | m
  · exact n m
  · rw [q] at m; cases m

theorem WX.ite {t : Expr} {body orelse rest : List Stmt} {p : Pos} {b : Bool} {cls : Value} (ht : TS c σ t b) (h1 : b = true → WX c σ body cls) (h2 : b = false → WX c σ orelse cls) : WX c σ (.If t body orelse p :: rest) cls := by
  constructor; intro s X vs R E I hE k
  refine wpAny_execs_cons (wpAny_If (ht.run s X vs _ _ I fun h1' t1 k1 => ?_))
  cases b with
  | true => exact (h1 rfl).run _ X vs _ _ (I.grow k1) hE fun e g h' tk' args kk hn hm => k e g h' tk' args (fun b o n q => kk b o n (k1 b o q)) hn hm
  | false => exact (h2 rfl).run _ X vs _ _ (I.grow k1) hE fun e g h' tk' args kk hn hm => k e g h' tk' args (fun b o n q => kk b o n (k1 b o q)) hn hm

theorem WX.while {t : Expr} {body rest : List Stmt} {p : Pos} {cls : Value} (P : Nat → List Slot → Prop) (n : Nat) (h0 : P n σ)
    (step : ∀ m σ', P m σ' → TS c σ' t true ∧ (WX c σ' body cls ∨ WP c σ' body (fun o => ∃ σ'' m', o = .next σ'' ∧ m' < m ∧ P m' σ''))) : WX c σ (.While t body [] p :: rest) cls := by
  constructor; intro s X vs R E I hE k
  refine wpAny_execs_cons ?_
  let J : Nat → Shared → Prop := fun m s' => ∃ vs' σ' h' tk', s' = { s with heap := h', toks := tk' } ∧ Inv c X h' vs' σ' ∧ P m σ' ∧ (∀ b o, ¬ Mut c vs σ b → s.heap.get? b = some o → h'.get? b = some o) ∧ ∀ b, Mut c vs' σ' b → Mut c vs σ b ∨ s.heap.get? b = none
  refine wpAny_While (codeAny_whileLoop J ?_ n ⟨vs, σ, s.heap, s.toks, rfl, I, h0, fun _ _ _ e => e, fun _ m => .inl m⟩)
  rintro m s' ⟨vs', σ', h', tk', rfl, I', hP, hk, he⟩
  obtain ⟨ht, hb⟩ := step m σ' hP
  refine ht.run _ X vs' _ _ I' fun h1' t1 k1 => ?_
  simp only [if_true]
  rcases hb with hb | hb
  · refine wpAny_passesOwn hE (hb.run _ X vs' _ _ (I'.grow k1) hE fun e g h'' tk'' args kk hn hm => k e g h'' tk'' args (fun b o nb q => kk b o (fun mm => ?_) (k1 b o (hk b o nb q))) hn hm)
    rcases he b mm with mm | mm
    · exact nb mm
    · rw [q] at mm; cases mm
  · refine hb.run _ X vs' _ _ (I'.grow k1) fun out f h4 t4 q r => ?_
    obtain ⟨σ4, m', rfl, hm, hP4⟩ := q
    obtain ⟨rfl, k4, vs4, I4, e4⟩ := (show OutOk c X s.heap vs σ h4 (.next σ4) f from (r.grown k1).trans hk he)
    exact ⟨m', hm, vs4, σ4, h4, t4, rfl, I4, hP4, k4, e4⟩
end

/-- entering a def -/
theorem enter {G : GX} {f : Addr} {fd : FuncData} {body : List Stmt} {params more : List Str} {kinds : List (Str × NameKind)} {args : List D} {n : Nat} (hG : G.Ok) (hf : FnIs G f fd) (hb : fd.body = .stmts body) (hkinds : fd.scope.names = kinds)
    (hbind : ∀ us : List Value, us.length = params.length → bindArgs fd ⟨us, []⟩ = pure (params.zip us)) (hnd : (params ++ more).Nodup) (hkind : (params ++ more).all (fun x => kinds.lookup x == some .local || kinds.lookup x == some .cell) = true)
    (hlen : args.length = params.length) {A : Around} {s : Shared} {X : AS} {us : List Value} {R : Value → Shared → Prop} {E : Value → Shared → Prop}
    (kb : Keep G.hb s.heap) (hh : A.handled = none) (hd : A.depth + (n + 1) < recursionLimit) (hu : A.units + 8 * (n + 1) + 100 < cLine) (al : ∀ a, X a → ∃ o, s.heap.get? a = some o ∧ NT o) (ru : RepAll s.heap X us args)
    (k : ∀ env vs h₁ tk, Inv ⟨G, A.deeper env, env, s.heap, params ++ more, kinds, n⟩ X h₁ vs (args.map Slot.val ++ more.map fun _ => .un) → Keep s.heap h₁ → env.frame = some env.locals →
      (∀ a, Mut ⟨G, A.deeper env, env, s.heap, params ++ more, kinds, n⟩ vs (args.map Slot.val ++ more.map fun _ => .un) a → s.heap.get? a = none) →
      wpAny (model G.prog G.w) (A.deeper env) (execs body env) (fun fl s' => R (match fl with | .ret v => v | _ => .none) s') (fun e s' => wpAny (model G.prog G.w) (A.deeper env) (leaving env e) (fun _ s'' => E e s'') (fun e' s'' => E e' s'') s') { s with heap := h₁, toks := tk }) :
    wpAny (model G.prog G.w) A (call (.ref f) us) R E s := by
  obtain ⟨o, ho, hdat⟩ := hf.get
  have hus : us.length = params.length := by rw [ru.length, hlen]
  have hmap : (params.zip us).map (·.1) = params := List.map_fst_zip (by omega)
  have hkd : ∀ x ∈ params ++ more, kinds.lookup x = some .local ∨ kinds.lookup x = some .cell := fun x hx => by
    have := List.all_eq_true.mp hkind x hx
    simpa using this
  refine wpAny_call (codeAny_call_cells (by omega) (kb _ _ ho) hdat (hG.nolim.keeps kb) (hf.code.keeps kb) hb (hbind us hus) hf.clo ?_ ?_ hf.co hf.gen hf.kind)
  · intro x hx
    have hm : x.1 ∈ params := by rw [← hmap]; exact List.mem_map.mpr ⟨x, hx, rfl⟩
    rw [hkinds]
    rcases hkd x.1 (List.mem_append_left _ hm) with e | e
    · exact .inl e
    · exact .inr ⟨e, cells_lookup (.inl e)⟩
  · intro s₁ x
    have hkof : ∀ y, (callEnvC fd s.heap.objs.size f).kindOf y = kinds.lookup y := fun y => by rw [← hkinds]; rfl
    have e0 : (callEnvC fd s.heap.objs.size f).frame = some (callEnvC fd s.heap.objs.size f).locals := rfl
    generalize henv : callEnvC fd s.heap.objs.size f = env at x hkof e0 ⊢
    have e1 : env.scope.kind = .function := by rw [← henv]; exact hf.kind
    have e2 : env.globals = mainGlobals := by rw [← henv]; exact hf.glob
    have e3 : env.builtins = builtinsNs := by rw [← henv]; exact hf.bui
    obtain ⟨h₁, tk, rfl, kk⟩ := x.done
    have nsL := x.toInCall.ns
    have hL0 : ∀ a, env.locals ≤ a → s.heap.get? a = none := fun a ha => Heap.get?_none_of_le (Nat.le_trans x.toInCall.fresh ha)
    let vs : Nat → Option Value := fun i => ((params ++ more)[i]?).elim none fun y => if kinds.lookup y = some .local then bindL env.kindOf (params.zip us) (fun _ => none) y else bindC env.kindOf (params.zip us) (fun _ => none) y
    have vget : ∀ i y, (params ++ more)[i]? = some y → vs i = if kinds.lookup y = some .local then bindL env.kindOf (params.zip us) (fun _ => none) y else bindC env.kindOf (params.zip us) (fun _ => none) y := fun i y e => by
      show ((params ++ more)[i]?).elim _ _ = _
      rw [e]; rfl
    have hown : ∀ i a, ¬ OwnAt vs (args.map Slot.val ++ more.map fun _ => .un) i a := by
      rintro i a ⟨⟨xs, e⟩, _⟩
      rw [List.getElem?_append] at e
      split at e
      · rw [List.getElem?_map] at e
        cases q : args[i]? <;> rw [q] at e <;> cases e
      · rw [List.getElem?_map] at e
        cases q : more[i - (args.map Slot.val).length]? <;> rw [q] at e <;> cases e
    have ok : Cx.Ok ⟨G, A.deeper env, env, s.heap, params ++ more, kinds, n⟩ := ⟨hG, kb, e1, e2, e3, hh, by show A.depth + 1 + n < recursionLimit; omega, by show A.units + 3 + 8 * n + 100 < cLine; omega, hnd, hkof, x.apart, fun y a hm => Nat.ne_of_gt (x.above y a (mem_of_lookup hm))⟩
    have hmut : ∀ a, Mut ⟨G, A.deeper env, env, s.heap, params ++ more, kinds, n⟩ vs (args.map Slot.val ++ more.map fun _ => .un) a → env.locals ≤ a ∧ ∃ o, h₁.get? a = some o ∧ NT o := by
      rintro a (e | ⟨y, e⟩ | ⟨i, e⟩)
      · subst e
        obtain ⟨o, es, ep, e4, e5, _⟩ := nsL
        exact ⟨Nat.le_refl _, o, e4, fun _ v n q => by rw [e5] at q; cases q⟩
      · have hab := x.above y a (mem_of_lookup e)
        obtain ⟨o, e4, e5⟩ := x.cell y a e
        exact ⟨Nat.le_of_lt hab, o, e4, fun _ v n q => by rw [e5] at q; cases q⟩
      · exact absurd e (hown i a)
    have hX : ∀ a, X a → s.heap.get? a ≠ none := fun a hx e => by obtain ⟨o, e', _⟩ := al a hx; rw [e] at e'; cases e'
    have hY : ∀ a, Off ⟨G, A.deeper env, env, s.heap, params ++ more, kinds, n⟩ X vs (args.map Slot.val ++ more.map fun _ => .un) a → X a ∨ s.heap.get? a = none := by
      rintro a (k | k)
      · exact .inl k
      · exact .inr (hL0 a (hmut a k).1)
    have I : Inv ⟨G, A.deeper env, env, s.heap, params ++ more, kinds, n⟩ X h₁ vs (args.map Slot.val ++ more.map fun _ => .un) := by
      refine ⟨ok, kk, ⟨_, nsL, fun i y hy hl => ?_⟩, fun i y hy hl => ?_, fun i sl e => ?_, fun i j a hi _ => absurd hi (hown i a), fun i a hi => absurd hi (hown i a), fun a m => ?_, ?_⟩
      · rw [vget i y hy, ← hkof, if_pos hl]
      · rw [vget i y hy, ← hkof, if_neg (by rw [hl]; decide)]
        have hc : ∃ a, env.cells.lookup y = some a := by
          have : (env.cells.lookup y).isSome = true := by
            rw [← henv]
            refine cells_lookup (.inl ?_)
            rw [hkinds, ← hkof]; exact hl
          exact Option.isSome_iff_exists.mp this
        obtain ⟨a, ha⟩ := hc
        exact ⟨a, ha, x.cell y a ha⟩
      · rw [List.getElem?_append] at e
        split at e
        · rename_i hlt
          rw [List.length_map] at hlt
          rw [List.getElem?_map, List.getElem?_eq_getElem hlt] at e
          cases e
          obtain ⟨u, eu, r1⟩ := ru.get i (List.getElem?_eq_getElem hlt)
          have hi : i < params.length := by omega
          have hp : (params ++ more)[i]? = some params[i] := by rw [List.getElem?_append_left hi, List.getElem?_eq_getElem hi]
          have hmem : (params[i], u) ∈ params.zip us := by
            obtain ⟨hiu, eu'⟩ := List.getElem?_eq_some_iff.mp eu
            refine List.mem_iff_getElem.mpr ⟨i, by simp; omega, ?_⟩
            simp [eu']
          have ndz : ((params.zip us).map (·.1)).Nodup := by rw [hmap]; exact (List.nodup_append.mp hnd).1
          refine ⟨u, ?_, (r1.weak fun a y => hY a y).keep kk⟩
          rw [vget i _ hp]
          by_cases hl : kinds.lookup params[i] = some .local
          · rw [if_pos hl]; exact bindL_at ndz hmem ((hkof _).trans hl)
          · rw [if_neg hl]; exact bindC_at ndz hmem (by rw [hkof]; exact hl)
        · rw [List.getElem?_map] at e
          cases q : more[i - (args.map Slot.val).length]? <;> rw [q] at e <;> cases e
          trivial
      · have := hL0 a (hmut a m).1
        exact ⟨fun hx => hX a hx this, this⟩
      · rintro a (k | k)
        · obtain ⟨o, e, nt⟩ := al a k
          exact ⟨o, kk a o e, nt⟩
        · exact (hmut a k).2
    exact k env vs h₁ tk I kk e0 fun a m => hL0 a (hmut a m).1

open PySem.W in
theorem Def.raise {G : GX} {p : Program} {k : Nat} {x : Str} {f : Addr} {params more : List Str} {args : List D} {cls : Value} {n : Nat} (d : Def G p k x f params) (hG : G.Ok) (hlen : args.length = params.length)
    (h : ∀ (A : Around) (env : Env) (h0 : Heap), WX ⟨G, A, env, h0, params ++ more, kindsAt p k, n⟩ (args.map Slot.val ++ more.map fun _ => .un) (bodyAt p k) cls)
    (hnd : (params ++ more).Nodup := by decide) (hkind : (params ++ more).all (fun x => (kindsAt p k).lookup x == some .local || (kindsAt p k).lookup x == some .cell) = true := by rfl) : FnRaise G f args cls (n + 1) := by
  obtain ⟨fd, h1, h2, h3, h4⟩ := d.fd
  intro A s X us R E outer hfr hF kb hh hd hu al ru q
  refine enter hG h1 h2 h3 h4 hnd hkind hlen kb hh hd hu al ru fun env vs h₁ tk I kk ef nm => ?_
  refine (h (A.deeper env) env s.heap).run _ X vs _ _ I PassesOwn.leaving fun e g h' tk' as kg hns hm => ?_
  have kg' : Keep s.heap g := fun b o e => kg b o (fun m => by rw [nm b m] at e; cases e) (kk b o e)
  have hlist : ∀ b, isFrame (env :: outer) b → b ∈ (env :: outer).filterMap (·.frame) := fun b ⟨e', he, hf⟩ => List.mem_filterMap.mpr ⟨e', he, hf⟩
  have fr : FrsIn g (env :: outer) := by
    intro e' he
    rcases List.mem_cons.mp he with rfl | he
    · obtain ⟨m, o, es, ep, e1, e2, _⟩ := hns
      have ek : e'.scope.kind = .function := I.ok.kind
      exact ⟨by rw [ek]; decide, _, o, ef, e1, es, ep, e2⟩
    · exact (hF.keep kg') e' he
  refine wpAny_leaves_madeW (base := hideAll g ((env :: outer).filterMap (·.frame))) (Around.frames_deeper hfr) ef (fun b o w => of_hideAll _ w) (fr.fun fun b hb => hideAll_none _ (hlist b hb)) hm fun h'' t x1 x2 x3 x4 => ?_
  refine q e h'' tk' ⟨⟨_, _, x1, fun b o nb w => hideAll_get _ (kg' b o w) fun hm => ?_⟩, ((Heap.UpToSlots.of_keeps kg').trans (Heap.UpToSlots.of_keeps hm.keeps)).trans x4⟩
  obtain ⟨e', he, hf⟩ := List.mem_filterMap.mp hm
  rcases List.mem_cons.mp he with rfl | he
  · rw [ef] at hf; cases hf
    have := nm _ (.inl rfl)
    rw [show (s.heap.get? e'.locals) = none from this] at w; cases w
  · exact nb ⟨e', he, hf⟩
end Mine
end
section
namespace Mine
open PySem PySem.Calls

/-- a frame that may catch -/
structure CFr (c : Cx) (outer : List Env) : Prop where
  frames : c.A.frames = some (c.env :: outer)
  frame : c.env.frame = some c.env.locals
  frs : FrsIn c.h0 outer
theorem frsIn_of {c : Cx} {outer : List Env} {X : AS} {h : Heap} {vs : Nat → Option Value} {σ : List Slot} (F : CFr c outer) (I : Inv c X h vs σ) : FrsIn h (c.env :: outer) := by
  intro e' he
  rcases List.mem_cons.mp he with rfl | he
  · obtain ⟨m, ⟨o, es, ep, e1, e2, _⟩, _⟩ := I.loc
    exact ⟨by rw [I.ok.kind]; decide, _, o, F.frame, e1, es, ep, e2⟩
  · exact (F.frs.keep I.keep) e' he

section
variable {c : Cx} {σ : List Slot}

theorem Fly.from {l : List Env} {cls : Value} {h h1 h' : Heap} {e : Addr} (k : Keep h h1) (f : Fly l cls h1 h' e) : Fly l cls h h' e := by
  obtain ⟨⟨base, a0, f1, f2⟩, u⟩ := f
  exact ⟨⟨base, a0, f1, fun b o n w => f2 b o n (k b o w)⟩, (Heap.UpToSlots.of_keeps k).trans u⟩

structure EVX (c : Cx) (σ : List Slot) (e : Expr) (cls : Value) : Prop where
  run : ∀ (s : Shared) (X : AS) (vs : Nat → Option Value) (R : Value → Shared → Prop) (E : Value → Shared → Prop) (outer : List Env), Inv c X s.heap vs σ → CFr c outer →
    (∀ e h' tk', Fly (c.env :: outer) cls s.heap h' e → E (.ref e) { s with heap := h', toks := tk' }) → wpAny (model c.G.prog c.G.w) c.A (eval e c.env) R E s
theorem EVX.call {x : Str} {p pos : Pos} {f : Addr} {e : Expr} {es : List Expr} {ds : List D} {cls : Value} {n : Nat} (hk : c.kinds.lookup x = some .globalImplicit) (hd : (x == ("__debug__" : Str)) = false) (hf : IsFn c.G x f) (hs : EVs c σ (e :: es) ds) (hn : noStar e = true)
    (h : FnRaise c.G f ds cls n) (hr : n ≤ c.room) : EVX c σ (.Call (.Name x p) (e :: es) [] pos) cls := by
  constructor; intro s X vs R E outer I F q
  refine wpAny_Call_NameR (Name_function_global I.ok.kind ((I.ok.kinds x).trans hk) (loadGlobal_global (env := c.env) ?_ hf.glob ?_) hd)
  · rw [I.ok.glob]; exact (I.ok.g.g.keeps I.ok.keepB).keeps I.keep
  obtain ⟨o, fd, ho, hfd⟩ := hf.fn
  refine callWith_function (o := o) (fd := fd) (wp_args hn (hs.run s X vs _ _ pos I fun us h1 t1 k1 r1 => ⟨⟨?_, hfd⟩, ?_⟩))
  · exact k1 _ _ (I.keep _ _ (I.ok.keepB _ _ ho))
  have I1 := I.grow k1
  exact (h.mono hr) c.A _ (Off c X vs σ) us _ _ _ F.frames (frsIn_of F I1) (I.ok.keepB.trans I1.keep) I.ok.hh I.ok.depth I.ok.units I1.alive r1 fun e h' tk' fl => q e h' tk' (fl.from k1)

/-- statements that let an exception of a call pass -/
structure WE (c : Cx) (σ : List Slot) (ss : List Stmt) (cls : Value) : Prop where
  run : ∀ (s : Shared) (X : AS) (vs : Nat → Option Value) (R : Flow → Shared → Prop) (E : Value → Shared → Prop) (outer : List Env), Inv c X s.heap vs σ → CFr c outer →
    (∀ e h' tk', Fly (c.env :: outer) cls s.heap h' e → E (.ref e) { s with heap := h', toks := tk' }) → wpAny (model c.G.prog c.G.w) c.A (execs ss c.env) R E s
theorem WE.ret {e : Expr} {cls : Value} {p : Pos} {rest : List Stmt} (h : EVX c σ e cls) : WE c σ (.Return (some e) p :: rest) cls :=
  ⟨fun s X vs _ _ outer I F q => wpAny_execs_cons (wpAny_Return_some (h.run s X vs _ _ outer I F q))⟩
theorem WE.assign {x : Str} {e : Expr} {cls : Value} {p p' : Pos} {rest : List Stmt} (hc : noComp e = true) (h : EVX c σ e cls) : WE c σ (.Assign [.Name x p'] e p :: rest) cls :=
  ⟨fun s X vs _ _ outer I F q => wpAny_execs_cons (wpAny_Assign_Name (h.run s X vs _ _ outer I F q) (swaps_of hc))⟩
theorem swapsN_of {e : Expr} {l : Nat} {env : Env} (h : noComp e = true) : swapsWith e none l env = pure false := by
  cases e <;> first | rfl | cases h
theorem WE.expr {e : Expr} {cls : Value} {p : Pos} {rest : List Stmt} (hc : noComp e = true) (h : EVX c σ e cls) : WE c σ (.Expr e p :: rest) cls :=
  ⟨fun s X vs _ _ outer I F q => wpAny_execs_cons (wpAny_Expr (h.run s X vs _ _ outer I F q) (notInteractive I) (swapsN_of hc))⟩

/-- caught by the name of its own class -/
theorem wp_catch {outer : List Env} {X : AS} {s : Shared} {vs : Nat → Option Value} {h1 : Heap} {e C : Addr} {tk : Nat} {x : Str} {np pos : Pos} {b₀ : Stmt} {suite : List Stmt} {rest : List ExceptHandler} {Q : Flow → Shared → Prop} {E : Value → Shared → Prop}
    (F : CFr c outer) (I : Inv c X s.heap vs σ) (O : OwnX c.G x C) (hx : c.kinds.lookup x = some .globalImplicit) (hd : (x == ("__debug__" : Str)) = false) (fl : Fly (c.env :: outer) (.ref C) s.heap h1 e)
    (k : ∀ h' E', (∀ b o, ¬ isFrame (c.env :: outer) b → s.heap.get? b = some o → h'.get? b = some o) → s.heap.UpToSlots h' → wpAny (model c.G.prog c.G.w) (c.A.mark (some (.ref e))) (execs (b₀ :: suite) c.env) Q E' { s with heap := h', toks := tk }) :
    wpAny (model c.G.prog c.G.w) c.A (noteFrame (.ref e) c.env) (fun _ s₂ => wpAny (model c.G.prog c.G.w) c.A (setFlight (.ref e) none) (fun _ s₃ =>
      wpAny (model c.G.prog c.G.w) c.A (handleBy (.ref e) c.env (.ExceptHandler (some (.Name x np)) none (b₀ :: suite) pos :: rest)) Q E s₃) E s₂) E { s with heap := h1, toks := tk } := by
  obtain ⟨⟨base, a0, f1, f2⟩, u⟩ := fl
  refine wpAny_looks_onW F.frames F.frame f1 fun h₄ hheld₄ hsm₄ => ?_
  refine wpAny_landsW hheld₄ fun h₅ hheld hsm₅ => ?_
  obtain ⟨ob, hob, hobc⟩ := hheld.there
  have up₅ : s.heap.UpToSlots h₅ := (u.trans hsm₄).trans hsm₅
  have hg : h₅.Ns mainGlobals c.G.mg := up₅.ns ((I.ok.g.g.keeps I.ok.keepB).keeps I.keep)
  refine wpAny_handleBy_cons (codeAny_handlers_test (Name_function_global I.ok.kind ((I.ok.kinds x).trans hx) (loadGlobal_global (env := c.env) (by rw [I.ok.glob]; exact hg) O.bound ?_) hd)) (by intro q; cases q)
  have O' := (O.keeps I.ok.keepB).keeps I.keep
  obtain ⟨bm, N, nm, qn, bs, hdct, sn, sub, ab, col, dd, k0, k1, k2, k3, k5, mN, hC, hN, hni, TL⟩ := O'.obj
  have hCb : base.get? C = some (excClassObj nm qn C N bs bm hdct sn sub ab col dd k0 k1 k2 k3 k5 "Exception.__new__") := by
    refine f2 C _ (fun hf => ?_) hC
    obtain ⟨e', he', hf⟩ := hf
    rcases List.mem_cons.mp he' with rfl | he'
    · rw [F.frame] at hf; cases hf
      obtain ⟨m, ⟨o, es, ep, e1, e2, _⟩, _⟩ := I.loc
      rw [hC] at e1; cases e1; cases e2
    · obtain ⟨_, L, o, e1, e2, es, ep, e3⟩ := frsIn_of F I e' (.tail _ he')
      rw [hf] at e1; cases e1
      rw [hC] at e2; cases e2; cases e3
  have hC5 := hheld.1 _ _ hCb
  refine wpAny_excMatches_sub_self hC5 hob hobc (TL.hasType (by decide)) (codeAny_handlers_suite ?_)
  refine PyProof.Rows.lands_againW hheld fun h₆ hfl₆ hsm₆ => ?_
  exact k h₆ _ (fun b o n w => hfl₆.1 b o (f2 b o n w)) (up₅.trans hsm₆)
/-- the frame's slots change -/
theorem Inv.slots {X : AS} {h h' : Heap} {vs : Nat → Option Value} (I : Inv c X h vs σ) (hk : ∀ b o, b ≠ c.env.locals → h.get? b = some o → h'.get? b = some o) (u : h.UpToSlots h') : Inv c X h' vs σ := by
  obtain ⟨m, hns, hm⟩ := I.loc
  have hL : Mut c vs σ c.env.locals := .inl rfl
  have kn : ∀ b o, h.get? b = some o → ¬ Off c X vs σ b ∨ ¬ NT o → h'.get? b = some o := fun b o e q => hk b o (fun w => by
    subst w
    rcases q with q | q
    · exact q (.inr hL)
    · obtain ⟨o', e', nt⟩ := I.alive _ (.inr hL)
      rw [e] at e'; cases e'; exact q nt) e
  refine ⟨I.ok, fun b o e => hk b o (fun w => ?_) (I.keep b o e), ⟨m, u.ns hns, hm⟩, ?_, ?_, I.own1, I.ownC, I.sep, ?_⟩
  · subst w; rw [(I.sep _ hL).2] at e; cases e
  · intro i x e1 e2
    obtain ⟨a, e3, o, e4, e5⟩ := I.cel i x e1 e2
    exact ⟨a, e3, o, hk a o (I.ok.cellL x a e3) e4, e5⟩
  · intro i sl e
    exact (I.slot i sl e).kept kn fun xs e1 a e2 o e3 => hk a o (I.ownC i a ⟨⟨xs, e1 ▸ e⟩, e2⟩).1 e3
  · intro a k
    by_cases w : a = c.env.locals
    · subst w; exact ns_nt (u.ns hns)
    · obtain ⟨o, e, nt⟩ := I.alive a k
      exact ⟨o, hk a o w e, nt⟩
theorem frame_one (F : CFr c []) {b : Addr} (hb : b ≠ c.env.locals) : ¬ isFrame [c.env] b := by
  rintro ⟨e', he, hf⟩
  cases List.mem_singleton.mp he
  rw [F.frame] at hf; cases hf; exact hb rfl

/-- if CALL != r, the call being one that catches -/
theorem WP.iteF {x : Str} {p pos ip cp : Pos} {f : Addr} {e r : Expr} {es : List Expr} {ds : List D} {d dr : D} {n : Nat} {body orelse rest : List Stmt} {Q : Out → Prop} (F : CFr c []) (hk : c.kinds.lookup x = some .globalImplicit) (hd : (x == ("__debug__" : Str)) = false) (hf : IsFn c.G x f) (hs : EVs c σ (e :: es) ds) (hn : noStar e = true)
    (h : FnSpecF c.G f ds d n) (hr : n ≤ c.room) (he : EV c σ r dr) (hne : noSet r = true) (s1 : SeqAt.shaped d = true) (s2 : SeqAt.shaped dr = true)
    (h1 : (!PyData.eqv d dr) = true → WP c σ body (seqQ c rest Q)) (h2 : (!PyData.eqv d dr) = false → WP c σ orelse (seqQ c rest Q)) : WP c σ (.If (.Compare (.Call (.Name x p) (e :: es) [] pos) [.NotEq] [r] cp) body orelse ip :: rest) Q := by
  refine WP.cons ?_
  constructor; intro s X vs R E I k
  refine wpAny_If (wpAny_isTrue_Compare1 (wpAny_Call_NameR (Name_function_global I.ok.kind ((I.ok.kinds x).trans hk) (loadGlobal_global (env := c.env) ?_ hf.glob ?_) hd)) (marks_of hne))
  · rw [I.ok.glob]; exact (I.ok.g.g.keeps I.ok.keepB).keeps I.keep
  obtain ⟨o, fd, ho, hfd⟩ := hf.fn
  refine callWith_function (o := o) (fd := fd) (wp_args hn (hs.run s X vs _ _ pos I fun us h1' t1 k1 r1 => ⟨⟨?_, hfd⟩, ?_⟩))
  · exact k1 _ _ (I.keep _ _ (I.ok.keepB _ _ ho))
  have I1 := I.grow k1
  refine (h.mono hr) c.A _ (Off c X vs σ) us _ _ _ F.frames (frsIn_of F I1) (I.ok.keepB.trans I1.keep) I.ok.hh I.ok.depth I.ok.units I1.alive r1 fun v h2' t2 k2 u2 rv => ?_
  obtain ⟨_, _, rv⟩ := rv
  have kk : ∀ b o, b ≠ c.env.locals → h1'.get? b = some o → h2'.get? b = some o := fun b o nb w => k2 b o (frame_one F nb) w
  have I2 := I1.slots kk u2
  refine he.run _ X vs _ _ I2 fun v' h3 t3 k3 r3 => ?_
  obtain ⟨_, ru, _⟩ := (rv (Off c X vs σ)).keep k3; obtain ⟨_, rv', _⟩ := r3
  refine SeqAt.compareNe_shaped ru rv' s1 s2 (units_ok I) (wpAny_truthy_bool ?_)
  have I3 := I2.grow k3
  have tr : ∀ {out : Out} {fl : Flow} {h4 : Heap}, OutOk c X h3 vs σ h4 out fl → OutOk c X s.heap vs σ h4 out fl := fun r => r.trans (fun b o nb w => k3 b o (kk b o (fun w' => nb (.inl w')) (k1 b o w))) fun _ m => .inl m
  cases hb : !PyData.eqv d dr with
  | true => exact (h1 hb).run _ X vs _ _ I3 fun out f h' tk' q r => k out f h' tk' q (tr r)
  | false => exact (h2 hb).run _ X vs _ _ I3 fun out f h' tk' q r => k out f h' tk' q (tr r)

/-- a try whose body raises nothing -/
theorem WP.tryOk {body rest : List Stmt} {h₀ : ExceptHandler} {hs : List ExceptHandler} {p : Pos} {Q : Out → Prop} (h : WP c σ body (seqQ c rest Q)) : WP c σ (.Try body (h₀ :: hs) [] [] p :: rest) Q := by
  refine WP.cons ?_
  constructor; intro s X vs R E I k
  refine wpAny_Try_except (h.run s X vs _ _ I fun out f h' tk' q r => ?_)
  cases out with
  | next σ' => obtain ⟨rfl, _⟩ := id r; exact wpAny_execs_nil (k _ _ _ _ q r)
  | cont σ' => obtain ⟨rfl, _⟩ := id r; exact k _ _ _ _ q r
  | brk σ' => obtain ⟨rfl, _⟩ := id r; exact k _ _ _ _ q r
  | ret d => obtain ⟨v, rfl, _⟩ := id r; exact k _ _ _ _ q r

/-- a try whose body raises, the handler sets a name -/
theorem WP.trySet {body rest : List Stmt} {hs : List ExceptHandler} {p np hp ap ap' kp : Pos} {kn : Nat} {x y : Str} {C : Addr} {b : Bool} {i : Nat} {Q : Out → Prop} (F : CFr c []) (O : OwnX c.G x C) (hx : c.kinds.lookup x = some .globalImplicit) (hd : (x == ("__debug__" : Str)) = false)
    (hb : WE c σ body (.ref C)) (hi : slotOf c.names y = some i) (hk : isVar c y = true) (hl : c.kinds.lookup y = some .local) (h : WP c (σ.set i (.val (.bool b))) rest Q) :
    WP c σ (.Try body (.ExceptHandler (some (.Name x np)) none [.Assign [.Name y ap'] (.Constant (.bool b) kn kp) ap] hp :: hs) [] [] p :: rest) Q := by
  refine WP.cons ?_
  constructor; intro s X vs R E I k
  refine wpAny_Try_except (hb.run s X vs _ _ [] I F fun e h1 tk fl => ?_)
  refine wp_catch F I O hx hd fl fun h2 E' k2 u2 => ?_
  have kk : ∀ b o, b ≠ c.env.locals → s.heap.get? b = some o → h2.get? b = some o := fun b o nb w => k2 b o (frame_one F nb) w
  have I2 := I.slots kk u2
  obtain ⟨m, hns, hm⟩ := I2.loc
  refine wpAny_execs_cons (wpAny_Assign_Name (wpAny_Constant_bool (wpAny_storeName_local ((I.ok.kinds y).trans hl) hns (fun h3 hn3 hs3 => wpAny_execs_nil ?_) (by rw [I.ok.kind]; rfl))) rfl)
  have S : StoreRel c y (.bool b) h2 h3 := .loc ((I.ok.kinds y).trans hl) hs3 ⟨m, hns, hn3⟩
  refine k (.next (σ.set i (.val (.bool b)))) _ _ _ h ⟨rfl, fun b' o n q => S.keeps b' o n (kk b' o (fun w => n (.inl w)) q), upd vs i (.bool b), ?_, fun a mm => ?_⟩
  · exact I2.put S (slotOf_get hi) (fun _ x => x) (fun xs e => by cases e) fun _ => ⟨_, rfl, Rep.bool⟩
  · exact mut_put (fun xs e => by cases e) mm
end

/-- def g(..): try: .. f(..) .. except X: return 'lit' -/
theorem Def.catch {G : GX} {p : Program} {k : Nat} {g : Str} {ga : Addr} {params more : List Str} {args : List D} {n : Nat} {body rest : List Stmt} {x lit : Str} {C : Addr} {np hp rp kp tp : Pos} {kn : Nat} {hs : List ExceptHandler} (d : Def G p k g ga params) (hG : G.Ok) (hlen : args.length = params.length)
    (hbody : bodyAt p k = .Try body (.ExceptHandler (some (.Name x np)) none [.Return (some (.Constant (.str lit) kn kp)) rp] hp :: hs) [] [] tp :: rest) (O : OwnX G x C) (hx : (kindsAt p k).lookup x = some .globalImplicit) (hd : (x == ("__debug__" : Str)) = false)
    (h : ∀ (A : Around) (env : Env) (h0 : Heap), WE ⟨G, A, env, h0, params ++ more, kindsAt p k, n⟩ (args.map Slot.val ++ more.map fun _ => .un) body (.ref C))
    (hnd : (params ++ more).Nodup := by decide) (hkind : (params ++ more).all (fun x => (kindsAt p k).lookup x == some .local || (kindsAt p k).lookup x == some .cell) = true := by rfl) : FnSpecF G ga args (.str lit) (n + 1) := by
  obtain ⟨fd, h1, h2, h3, h4⟩ := d.fd
  intro A s X us R E outer hfr hF kb hh hd' hu al ru q
  refine enter hG h1 h2 h3 h4 hnd hkind hlen kb hh hd' hu al ru fun env vs h₁ tk I kk ef nm => ?_
  have F : CFr ⟨G, A.deeper env, env, s.heap, params ++ more, kindsAt p k, n⟩ outer := ⟨Around.frames_deeper hfr, ef, hF⟩
  rw [hbody]
  refine wpAny_execs_cons (wpAny_Try_except ((h (A.deeper env) env s.heap).run _ X vs _ _ outer I F fun e h1 tk' fl => ?_))
  refine wp_catch F I O hx hd fl fun h2 E' k2 u2 => ?_
  refine wpAny_execs_cons (wpAny_Return_some (wpAny_Constant_str ?_))
  refine q _ h2 _ (fun b o nb w => k2 b o ?_ (kk b o w)) ((Heap.UpToSlots.of_keeps kk).trans u2) ⟨_, rfl, fun Y => Rep.str⟩
  rintro ⟨e', he, hf⟩
  rcases List.mem_cons.mp he with rfl | he
  · have ef' : e'.frame = some e'.locals := ef
    rw [show (Cx.env ⟨G, A.deeper e', e', s.heap, params ++ more, kindsAt p k, n⟩).frame = some e'.locals from ef'] at hf
    cases hf
    have := nm _ (.inl rfl)
    rw [show s.heap.get? e'.locals = none from this] at w; cases w
  · exact nb ⟨e', he, hf⟩
end Mine
end
section
namespace Mine
open PySem PySem.Calls

section
variable {c : Cx} {σ : List Slot}
theorem TS.isNot {l r : Expr} {p : Pos} {a b : Bool} (hl : EV c σ l (.bool a)) (hr : EV c σ r (.bool b)) (hn : noSet r = true) : TS c σ (.Compare l [.IsNot] [r] p) (a != b) :=
  TS.cmp hl hr hn fun s X vs u v R E I ru rv q => by
    cases ru.bool_inv; cases rv.bool_inv
    exact PyProof.Rows.isnot_bool q

theorem TS.or3 {e e' e'' : Expr} {p : Pos} {b b' b'' : Bool} (h : TS c σ e b) (h' : b = false → TS c σ e' b') (h'' : b = false → b' = false → TS c σ e'' b'') : TS c σ (.BoolOp .Or [e, e', e''] p) (b || b' || b'') := by
  constructor; intro s X vs R E I q
  refine wpAny_isTrue_BoolOp (wpAny_allTrue_Or_cons (h.run s X vs _ _ I fun h1 t1 k1 => ?_))
  cases b with
  | true => exact q _ _ k1
  | false =>
    refine wpAny_allTrue_Or_cons ((h' rfl).run _ X vs _ _ (I.grow k1) fun h2 t2 k2 => ?_)
    cases b' with
    | true => exact q _ _ (k1.trans k2)
    | false =>
      refine wpAny_allTrue_Or_cons ((h'' rfl rfl).run _ X vs _ _ ((I.grow k1).grow k2) fun h3 t3 k3 => ?_)
      cases b'' with
      | true => exact q _ _ (k1.trans (k2.trans k3))
      | false => exact wpAny_allTrue_Or_nil (q _ _ (k1.trans (k2.trans k3)))
theorem foldl_rep {α : Type} (items : Array α) : ∀ (n : Nat) (acc : Array α), (List.foldl (fun x y => x ++ y) acc (List.replicate n items)).toList = acc.toList ++ (List.replicate n items.toList).flatten
  | 0, acc => by simp
  | n + 1, acc => by
    rw [List.replicate_succ, List.foldl_cons, foldl_rep items n]
    simp [List.replicate_succ]
theorem RepAll.times {h : Heap} {Y : AS} {us : List Value} {ds : List D} (r : RepAll h Y us ds) : ∀ n : Nat, RepAll h Y (List.replicate n us).flatten (List.replicate n ds).flatten
  | 0 => by simpa using RepAll.nil
  | n + 1 => by
    rw [List.replicate_succ, List.replicate_succ, List.flatten_cons, List.flatten_cons]
    exact r.append (r.times n)
/-- a list over and over -/
theorem EVF.mul {l r : Expr} {p : Pos} {xs : List D} {n : Int} (hl : EVo c σ l xs) (hr : EV c σ r (.int n)) (h0 : 0 < n) (hz : xs.length * n.toNat ≤ 2 ^ 20) (hz' : n < 2 ^ 20) : EVF c σ (.BinOp l .Mult r p) (List.replicate n.toNat xs).flatten := by
  constructor; intro s X vs R E I q
  refine wpAny_BinOp (hl.run s X vs _ _ I fun a items h1 t1 k1 hx ri => hr.run _ X vs _ _ (I.grow k1) fun v h2 t2 k2 r2 => ?_)
  obtain ⟨u, rfl⟩ := r2.int_inv
  obtain ⟨k, hx⟩ := hx
  have hl2 := k2 _ _ hx
  have e1 : items.size = xs.length := by rw [← ri.length]; simp
  have hz2 : items.size * n.toNat ≤ 2 ^ 20 := by rw [e1]; exact hz
  refine wpAny_binaryOp_repeat_ref (T := "list") (U := "int") (by decide) ⟨_, hl2, rfl⟩ (fun s' => typeIs_int s' n u) noFill_list_mul F.fills_int_mul F.slot_int_rmul repeat_list F.slot_int_index.lookup
    (call_meets F.slot_int_rmul (typeIs_int _ n u) F.entry_int_rmul (F.args_int_rmul_2 _ _) (int___rmul___int_list n u a items k)
      ⟨hl2, rfl, ⟨_, hl2, rfl⟩, call_meets F.slot_list_mul ⟨_, hl2, rfl⟩ F.entry_list_mul (F.args_list_mul_2 _ _)
        (AutoListH.list___mul___list_int_3 a items k n u (by simp [Builtin.List.listFitsIndex]; omega) (by omega) (by simp [Builtin.List.listTooLong, sizeLine]; omega))
        ⟨hl2, ?_⟩⟩)
  have := newF (s₀ := s) q (k1.trans k2) (t1 := t2) ((ri.keep k2).times n.toNat)
  have e2 : (List.replicate n.toNat items.toList).flatten.toArray = List.foldl (fun x1 x2 => x1 ++ x2) #[] (List.replicate (if items.isEmpty = true then 0 else n.toNat) items) := by
    apply Array.toList_inj.mp
    rw [foldl_rep]
    split
    · rename_i he
      have : items.toList = [] := by simpa using he
      simp [this]
    · simp
  rw [e2] at this
  exact this
end

/-- a law: its own frame is the only one -/
def FnSpec0 (G : GX) (f : Addr) (args : List D) (P : D → Prop) (n : Nat) : Prop :=
  ∀ (A : Around) (s : Shared) (X : AS) (us : List Value) (R : Value → Shared → Prop) (E : Value → Shared → Prop), A.frames = some [] → Keep G.hb s.heap → A.handled = none → A.depth + n < recursionLimit → A.units + 8 * n + 100 < cLine →
    (∀ a, X a → ∃ o, s.heap.get? a = some o ∧ NT o) → RepAll s.heap X us args →
    (∀ v r h' tk', P r → Keep s.heap h' → Rep h' X v r → R v { s with heap := h', toks := tk' }) → wpAny (model G.prog G.w) A (call (.ref f) us) R E s
theorem Def.spec0 {G : GX} {p : Program} {k : Nat} {x : Str} {f : Addr} {params more : List Str} {args : List D} {P : D → Prop} {n : Nat} (d : Def G p k x f params) (hG : G.Ok) (hlen : args.length = params.length)
    (h : ∀ (A : Around) (env : Env) (h0 : Heap), CFr ⟨G, A, env, h0, params ++ more, kindsAt p k, n⟩ [] → WP ⟨G, A, env, h0, params ++ more, kindsAt p k, n⟩ (args.map Slot.val ++ more.map fun _ => .un) (bodyAt p k) (fun o => ∃ d, o = .ret d ∧ P d))
    (hnd : (params ++ more).Nodup := by decide) (hkind : (params ++ more).all (fun x => (kindsAt p k).lookup x == some .local || (kindsAt p k).lookup x == some .cell) = true := by rfl) : FnSpec0 G f args P (n + 1) := by
  obtain ⟨fd, h1, h2, h3, h4⟩ := d.fd
  intro A s X us R E hfr kb hh hd hu al ru q
  refine enter hG h1 h2 h3 h4 hnd hkind hlen kb hh hd hu al ru fun env vs h₁ tk I kk ef nm => ?_
  refine (h (A.deeper env) env s.heap ⟨Around.frames_deeper hfr, ef, fun _ m => nomatch m⟩).run _ X vs _ _ I fun out fl h' tk' ho r => ?_
  obtain ⟨d, rfl, hp⟩ := ho
  obtain ⟨v, rfl, k2, r2⟩ := r
  refine q v d h' tk' hp (fun b o e => ?_) r2
  refine k2 b o (fun m => ?_) (kk b o e)
  rw [nm b m] at e; cases e
open PySem.W in
theorem claim_end0 {l : OpenLaw} {w : World} {P : Params} {s₀ s₁ : Shared} {mg mb : Str → Option Value} {f a : Addr} {ns : List Int} {args : List WData} (hg : s₁.gens = #[])
    (hw : Well P s₁.heap (.ref a) (ofPy (.list (ns.map PyData.int)))) (h : FnSpec0 ⟨l.row.prog, w, s₁.heap, mg, mb⟩ f [LI ns] (· = .bool true) 20) :
    wpAny (model l.row.prog w) callerA ((fun f vs => call f vs) (Value.ref f) [Value.ref a])
      (fun v s' => GoodWG l.row.claim (classAt s₀.heap) (ExcName.means s₀.heap) args s₁ (Except.ok (Flow.ret v)) s')
      (fun e s' => GoodWG l.row.claim (classAt s₀.heap) (ExcName.means s₀.heap) args s₁ (Except.error e) s') s₁ := by
  refine h callerA s₁ (fun _ => False) _ _ _ rfl (Keep.refl _) rfl ?_ ?_ (fun _ x => x.elim) (RepAll.cons (well_ints (fun x => x) hw) RepAll.nil) fun v r' h' tk' e k r => ?_
  · decide
  · decide
  · subst e
    cases r.bool_inv
    refine GoodW.toG ⟨.inl ⟨_, .bool true, [], rfl, fun _ => rfl, .bool true, ?_, fun _ => ⟨.nil, fun _ m => nomatch m⟩⟩, k, rfl, hg⟩
    refine postW_of (r := l.row.toRowW) (X := (true == true)) (by simp [OpenLaw.row, WShape.has, WShape.arms]) ?_ rfl
    exact w_eq_bool (a := .res) (b := .lit (.bool true)) (w_res rfl) w_lit
theorem FnSpec0.mono {G : GX} {f : Addr} {args : List D} {P : D → Prop} {n m : Nat} (h : FnSpec0 G f args P n) (hm : n ≤ m) : FnSpec0 G f args P m :=
  fun A s X us R E k0 k h1 h2 h3 a ru q => h A s X us R E k0 k h1 (by omega) (by omega) a ru q
end Mine
end
section
namespace Mine
open PySem PySem.Calls

abbrev T := Int × Int × Int
abbrev lit (b : Int) : T := (0, b, 0)
def ok1 (t : T) (s : Int) : Bool :=
  if t.1 = 0 then decide (0 ≤ t.2.1 ∧ t.2.1 ≤ 255 ∧ t.2.2 = 0) else if t.1 = 1 then decide (1 ≤ t.2.1 ∧ t.2.1 ≤ s ∧ t.2.1 ≤ 65535 ∧ 4 ≤ t.2.2 ∧ t.2.2 ≤ 255) else false
def sz1 (t : T) : Int := if t.1 = 0 then 1 else t.2.2
def okT : List T → Int → Bool
  | [], _ => true
  | t :: ts, s => ok1 t s && okT ts (s + sz1 t)
def tot : List T → Int
  | [] => 0
  | t :: ts => sz1 t + tot ts
theorem okT_append : ∀ (a b : List T) (s : Int), okT (a ++ b) s = (okT a s && okT b (s + tot a))
  | [], b, s => by simp [okT, tot]
  | t :: a, b, s => by
    simp only [List.cons_append, okT, tot, okT_append a b, Bool.and_assoc]
    rw [show s + sz1 t + tot a = s + (sz1 t + tot a) by omega]
theorem tot_append : ∀ (a b : List T), tot (a ++ b) = tot a + tot b
  | [], b => by simp [tot]
  | t :: a, b => by simp only [List.cons_append, tot, tot_append a b]; omega

/-- n bytes copied from v back -/
def grow (data : List Int) (v : Nat) : Nat → List Int
  | 0 => data
  | n + 1 => grow (data ++ [data.getD (data.length - v) 0]) v n
def exp1 (t : T) (data : List Int) : List Int := if t.1 = 0 then data ++ [t.2.1] else grow data t.2.1.toNat t.2.2.toNat
def expand : List T → List Int → List Int
  | [], d => d
  | t :: ts, d => expand ts (exp1 t d)
theorem expand_append : ∀ (a b : List T) (d : List Int), expand (a ++ b) d = expand b (expand a d)
  | [], _, _ => rfl
  | t :: a, b, d => expand_append a b _
theorem grow_length (v : Nat) : ∀ (n : Nat) (d : List Int), (grow d v n).length = d.length + n
  | 0, d => rfl
  | n + 1, d => by rw [grow, grow_length v n]; simp; omega
theorem grow_last (v : Nat) : ∀ (n : Nat) (d : List Int), grow d v (n + 1) = grow d v n ++ [(grow d v n).getD ((grow d v n).length - v) 0]
  | 0, d => rfl
  | n + 1, d => by rw [grow, grow_last v n]; rfl
theorem exp1_length {t : T} {s : Int} {d : List Int} (h : ok1 t s = true) : ((exp1 t d).length : Int) = d.length + sz1 t := by
  unfold ok1 at h
  unfold exp1 sz1
  split
  · simp
  · rename_i h0
    rw [if_neg h0] at h
    split at h
    · rw [grow_length]
      have := of_decide_eq_true h
      omega
    · cases h
theorem expand_length : ∀ {ts : List T} {s : Int} {d : List Int}, okT ts s = true → ((expand ts d).length : Int) = d.length + tot ts
  | [], _, d, _ => by simp [expand, tot]
  | t :: ts, s, d, h => by
    simp only [okT, Bool.and_eq_true] at h
    rw [expand, expand_length h.2, exp1_length h.1, tot]; omega
theorem tot_nonneg : ∀ {ts : List T} {s : Int}, okT ts s = true → 0 ≤ tot ts
  | [], _, _ => by simp [tot]
  | t :: ts, s, h => by
    simp only [okT, Bool.and_eq_true] at h
    have := tot_nonneg h.2
    have h1 := exp1_length (d := []) h.1
    simp only [tot]; simp at h1; omega

def sym1 (t : T) : List Int := if t.1 = 0 then [t.2.1] else [256, t.2.1 / 256, t.2.1 % 256, t.2.2]
def syms (ts : List T) : List Int := ts.flatMap sym1
theorem syms_append (a b : List T) : syms (a ++ b) = syms a ++ syms b := by simp [syms]
theorem syms_lits (ds : List Int) : syms (ds.map lit) = ds := by
  induction ds with
  | nil => rfl
  | cons d ds ih => simp only [syms, List.map_cons, List.flatMap_cons] at ih ⊢; rw [ih]; simp [sym1]

/-- the match found has the length said -/
theorem best_run (ns : List Int) (j t : Nat) : ∀ w, 0 < (best ns j t w).2 → run ns (j - (best ns j t w).1) j t = (best ns j t w).2
  | 0, h => by simp [best] at h
  | w + 1, h => by
    rw [best] at h ⊢
    split
    · rfl
    · rename_i q
      rw [if_neg q] at h
      exact best_run ns j t w h

theorem take_next {ns : List Int} {j : Nat} (h : j < ns.length) : ns.take (j + 1) = ns.take j ++ [ns.getD j 0] := by
  rw [List.take_succ, List.getElem?_eq_getElem h, List.getD_eq_getElem?_getD, List.getElem?_eq_getElem h]; rfl
theorem grow_take {ns : List Int} {d : Nat} : ∀ (n j : Nat), 1 ≤ d → d ≤ j → j + n ≤ ns.length → (∀ m, m < n → ns[j - d + m]? = ns[j + m]?) → grow (ns.take j) d n = ns.take (j + n)
  | 0, j, _, _, _, _ => rfl
  | n + 1, j, h1, h2, h3, h4 => by
    have hl : (ns.take j).length = j := by rw [List.length_take]; omega
    have e := h4 0 (by omega)
    simp only [Nat.add_zero] at e
    rw [grow, hl]
    have e2 : (ns.take j).getD (j - d) 0 = ns.getD j 0 := by
      rw [List.getD_eq_getElem?_getD, List.getD_eq_getElem?_getD, List.getElem?_take, if_pos (by omega), e]
    rw [e2, ← take_next (by omega), grow_take n (j + 1) h1 (by omega) (by omega) fun m hm => ?_]
    · rw [show j + 1 + n = j + (n + 1) by omega]
    · have := h4 (m + 1) (by omega)
      rw [show j + 1 - d + m = j - d + (m + 1) by omega, show j + 1 + m = j + (m + 1) by omega]; exact this

/-- a greedy parse is lawful and expands to the data -/
theorem parse_good {ns : List Int} {w l : Int} (hb : ∀ x ∈ ns, 0 ≤ x ∧ x ≤ 255) (hw : 0 ≤ w) (hl : 0 ≤ l) (hl' : l ≤ 255) (hz : ns.length ≤ 65535) : ∀ (m j : Nat), ns.length - j = m → j ≤ ns.length →
    okT (parse ns w l (ns.length - j) j) j = true ∧ tot (parse ns w l (ns.length - j) j) = ns.length - j ∧ expand (parse ns w l (ns.length - j) j) (ns.take j) = ns := by
  intro m
  induction m using Nat.strongRecOn with
  | ind m ih =>
    intro j hm hj
    by_cases h : j < ns.length
    · have hn := tok_next ns w l j h
      obtain ⟨i1, i2, i3⟩ := ih (ns.length - (tok ns w l j).2) (by omega) _ rfl hn.2
      rw [parse_at h]
      have hle := best_le ns j (min l (ns.length - j)).toNat (min w j).toNat
      have hnil := best_nil ns j (min l (ns.length - j)).toNat (min w j).toNat
      have hrun := best_run ns j (min l (ns.length - j)).toNat (min w j).toNat
      unfold tok at i1 i2 i3 hn ⊢
      split
      · rename_i hp
        rw [if_pos hp] at i1 i2 i3 hn
        generalize best ns j (min l (ns.length - j)).toNat (min w j).toNat = b at *
        obtain ⟨d, n⟩ := b
        simp only at *
        have h3 : 3 < n ∧ 1 ≤ d := by omega
        have hr := hrun hp
        have e0 : sz1 (1, (d : Int), (n : Int)) = n := by simp [sz1]
        refine ⟨?_, ?_, ?_⟩
        · simp only [okT, Bool.and_eq_true, e0]
          refine ⟨?_, ?_⟩
          · simp only [ok1, show ¬ ((1 : Int) = 0) by decide, if_false, if_true]
            apply decide_eq_true; omega
          · rw [show (j : Int) + n = ((j + n : Nat) : Int) by omega]; exact i1
        · simp only [tot, e0, i2]; omega
        · rw [expand]
          have : exp1 (1, (d : Int), (n : Int)) (ns.take j) = ns.take (j + n) := by
            simp only [exp1, show ¬ ((1 : Int) = 0) by decide, if_false, Int.toNat_natCast]
            exact grow_take n j (by omega) (by omega) (by omega) fun m hm => run_alike ns (min l (ns.length - j)).toNat _ _ m (by rw [hr]; exact hm)
          rw [this]; exact i3
      · rename_i hp
        rw [if_neg hp] at i1 i2 i3 hn
        simp only at *
        have e0 : sz1 (lit (ns.getD j 0)) = 1 := by simp [sz1]
        have hx := hb (ns.getD j 0) (getD_mem h)
        refine ⟨?_, ?_, ?_⟩
        · simp only [okT, Bool.and_eq_true, e0]
          refine ⟨?_, ?_⟩
          · simp only [ok1, if_true]
            exact decide_eq_true ⟨hx.1, hx.2, trivial⟩
          · rw [show (j : Int) + 1 = ((j + 1 : Nat) : Int) by omega]; exact i1
        · simp only [tot, e0, i2]; omega
        · rw [expand]
          have : exp1 (lit (ns.getD j 0)) (ns.take j) = ns.take (j + 1) := by
            simp only [exp1, if_true]; rw [take_next h]
          rw [this]; exact i3
    · rw [parse_done (by omega)]
      refine ⟨rfl, by simp [tot]; omega, ?_⟩
      simp only [expand]
      exact List.take_of_length_le (by omega)
theorem toks_good {ns : List Int} {w l : Int} (hb : ∀ x ∈ ns, 0 ≤ x ∧ x ≤ 255) (hw : 0 ≤ w) (hl : 0 ≤ l) (hl' : l ≤ 255) (hz : ns.length ≤ 65535) : okT (toks ns w l) 0 = true ∧ tot (toks ns w l) = ns.length ∧ expand (toks ns w l) [] = ns := by
  have := parse_good hb hw hl hl' hz ns.length 0 (by omega) (by omega)
  simpa [toks] using this
/-- n bytes copied from the very start -/
theorem grow_start {ns : List Int} (hn : 0 < ns.length) : ∀ n : Nat, grow ns ns.length n = ns ++ (List.range n).map fun t => ns.getD (t % ns.length) 0
  | 0 => by simp [grow]
  | n + 1 => by
    rw [grow_last, grow_start hn n, List.range_succ, List.map_append, ← List.append_assoc]
    congr 1
    simp only [List.map_cons, List.map_nil, List.length_append, List.length_map, List.length_range, Nat.add_sub_cancel_left]
    congr 1
    rw [List.getD_eq_getElem?_getD, List.getD_eq_getElem?_getD]
    by_cases h : n < ns.length
    · rw [List.getElem?_append_left h, Nat.mod_eq_of_lt h]
    · rw [List.getElem?_append_right (by omega), List.getElem?_map, List.getElem?_range (by omega)]
      simp only [Option.map_some, Option.getD_some]
      rw [List.getD_eq_getElem?_getD, ← Nat.mod_eq_sub_mod (by omega)]
theorem parse_len (ns : List Int) (w l : Int) : ∀ (f j : Nat), (parse ns w l f j).length ≤ f
  | 0, _ => by simp [parse]
  | f + 1, j => by
    rw [parse]; split
    · have := parse_len ns w l f (tok ns w l j).2
      simp; omega
    · simp
theorem toks_len (ns : List Int) (w l : Int) : (toks ns w l).length ≤ ns.length := parse_len ns w l _ _
theorem syms_len : ∀ ts : List T, (syms ts).length ≤ 4 * ts.length
  | [] => by simp [syms]
  | t :: ts => by
    have := syms_len ts
    have h : (sym1 t).length ≤ 4 := by unfold sym1; split <;> simp
    simp only [syms, List.flatMap_cons, List.length_append, List.length_cons] at this ⊢; omega
end Mine
end
section
namespace Mine
open PySem PySem.Calls

/-- alike just where the places are alike modulo p -/
def Per (ns : List Int) (p : Nat) : Prop := ∀ i j, i < ns.length → j < ns.length → (ns[i]? = ns[j]? ↔ i % p = j % p)
theorem run_per {ns : List Int} {p d j t : Nat} (P : Per ns p) (hd : d ≤ j) (ht : j + t ≤ ns.length) : run ns (j - d) j t = if d % p = 0 then t else 0 := by
  split
  · rename_i h
    refine run_full fun n hn => (P _ _ (by omega) (by omega)).mpr ?_
    obtain ⟨q, hq⟩ := Nat.dvd_of_mod_eq_zero h
    rw [show j + n = (j - d + n) + p * q by omega, Nat.add_mul_mod_self_left]
  · rename_i h
    cases t with
    | zero => rfl
    | succ t =>
      rw [run, if_neg]
      intro e
      have := (P _ _ (by omega) (by omega)).mp e
      have h2 := Nat.sub_mod_eq_zero_of_mod_eq this.symm
      rw [show j - (j - d) = d by omega] at h2
      exact h h2
theorem tok_none {ns : List Int} {w l : Int} {j : Nat} (h : ∀ d, 1 ≤ d → d ≤ (min w j).toNat → run ns (j - d) j (min l (ns.length - j)).toNat ≤ 3) : tok ns w l j = (lit (ns.getD j 0), j + 1) := by
  unfold tok
  rw [best_none h, if_neg (by simp)]
theorem tok_lit {ns : List Int} {w l : Int} {p j : Nat} (P : Per ns p) (hj : j < ns.length) (h : w < p ∨ j < p ∨ ns.length - j < 4) : tok ns w l j = (lit (ns.getD j 0), j + 1) := by
  refine tok_none fun d h1 h2 => ?_
  rcases h with h | h | h
  · rw [run_per P (by omega) (by omega), Nat.mod_eq_of_lt (by omega), if_neg (by omega)]; omega
  · rw [run_per P (by omega) (by omega), Nat.mod_eq_of_lt (by omega), if_neg (by omega)]; omega
  · have := run_le ns (min l (ns.length - j)).toNat (j - d) j
    omega
theorem tok_cop {ns : List Int} {w l : Int} {p j : Nat} (P : Per ns p) (hp : 1 ≤ p) (hw : (p : Int) ≤ w) (hj : p ≤ j) (h4 : 4 ≤ ns.length - j) (hl : 4 ≤ l) : tok ns w l j = ((1, (p : Int), min l (ns.length - j : Nat)), j + (min l (ns.length - j : Nat)).toNat) := by
  have e : (min l ((ns.length : Int) - j)).toNat = (min l (ns.length - j : Nat)).toNat := by omega
  have hb := best_eq (ns := ns) (j := j) (t := (min l (ns.length - j : Nat)).toNat) (d := p) (n := (min l (ns.length - j : Nat)).toNat) (by omega) hp (by rw [run_per P (by omega) (by omega), Nat.mod_self, if_pos rfl])
    (fun e h1 h2 => by rw [run_per P (by omega) (by omega), Nat.mod_eq_of_lt h2, if_neg (by omega)]; omega) (w := (min w j).toNat) (by omega) fun e h1 h2 => run_le ns _ _ _
  unfold tok
  rw [e, hb, if_pos (by simp only; omega)]
  simp only
  rw [show (((min l (ns.length - j : Nat)).toNat : Nat) : Int) = min l (ns.length - j : Nat) by omega]
theorem parse_lits {ns : List Int} {w l : Int} : ∀ (m j : Nat), (∀ i, j ≤ i → i < j + m → tok ns w l i = (lit (ns.getD i 0), i + 1)) → j + m ≤ ns.length → parse ns w l (ns.length - j) j = ((ns.drop j).take m).map lit ++ parse ns w l (ns.length - (j + m)) (j + m)
  | 0, j, _, _ => by simp
  | m + 1, j, h, hz => by
    rw [parse_at (by omega), h j (by omega) (by omega), parse_lits m (j + 1) (fun i h1 h2 => h i (by omega) (by omega)) (by omega)]
    rw [List.drop_eq_getElem_cons (show j < ns.length by omega), List.take_succ_cons, List.map_cons, List.getD_eq_getElem?_getD, List.getElem?_eq_getElem (show j < ns.length by omega)]
    rw [show j + 1 + m = j + (m + 1) by omega]; rfl

def patt (x step : Int) (p n : Nat) : List Int := (List.range n).map fun t => (x + ((t % p : Nat) : Int) * step) % 256
theorem patt_length (x step : Int) (p n : Nat) : (patt x step p n).length = n := by simp [patt]
theorem patt_get {x step : Int} {p n i : Nat} (h : i < n) : (patt x step p n)[i]? = some ((x + ((i % p : Nat) : Int) * step) % 256) := by
  unfold patt
  rw [List.getElem?_map, List.getElem?_range h]; rfl
theorem patt_bytes {x step : Int} {p n : Nat} : ∀ y ∈ patt x step p n, 0 ≤ y ∧ y ≤ 255 := by
  intro y hy
  obtain ⟨t, _, rfl⟩ := List.mem_map.mp hy
  omega
theorem step_apart {x k : Int} {a b : Nat} (ha : a < 4) (hb : b < 4) (h : (x + (a : Int) * (2 * k + 1)) % 256 = (x + (b : Int) * (2 * k + 1)) % 256) : a = b := by
  have h1 : a = 0 ∨ a = 1 ∨ a = 2 ∨ a = 3 := by omega
  have h2 : b = 0 ∨ b = 1 ∨ b = 2 ∨ b = 3 := by omega
  rcases h1 with rfl | rfl | rfl | rfl <;> rcases h2 with rfl | rfl | rfl | rfl <;> first | rfl | (exfalso; omega)
theorem patt_per {x k : Int} {p n : Nat} (hp : 1 ≤ p) (hp4 : p ≤ 4) : Per (patt x (2 * k + 1) p n) p := by
  intro i j hi hj
  rw [patt_length] at hi hj
  rw [patt_get hi, patt_get hj]
  constructor
  · intro h
    have h1 := Nat.mod_lt i (show 0 < p by omega)
    have h2 := Nat.mod_lt j (show 0 < p by omega)
    exact step_apart (by omega) (by omega) (Option.some.inj h)
  · intro h; rw [h]
section
variable {c : Cx} {σ : List Slot}
theorem WP.iteJ {t : Expr} {body orelse rest : List Stmt} {p : Pos} {b : Bool} {Q : Out → Prop} (P : List Slot → Prop) (ht : TS c σ t b) (h1 : b = true → WP c σ body (fun o => ∃ σ', o = .next σ' ∧ P σ')) (h2 : b = false → WP c σ orelse (fun o => ∃ σ', o = .next σ' ∧ P σ')) (h : ∀ σ', P σ' → WP c σ' rest Q) :
    WP c σ (.If t body orelse p :: rest) Q := by
  refine WP.ite ht (fun hb => (h1 hb).mono ?_) fun hb => (h2 hb).mono ?_ <;> (rintro o ⟨σ', rfl, hP⟩; exact h σ' hP)
theorem EVF.is {e : Expr} {xs ys : List D} (h : EVF c σ e xs) (hy : xs = ys) : EVF c σ e ys := hy ▸ h
theorem EVF.comp' {α : Type} {elt iter : Expr} {x : Str} {px : Pos} {scope : Scope} {pos : Pos} {xs : List α} {ι : α → D} {f : α → D} {fr : List (Str × D)} {ys : List D}
    (hit : IT c σ iter (xs.map ι)) (S : CompOk c σ scope [x] fr) (hf : noFold iter = true) (hx : isVar (compCx c scope [x] fr c.env) x = true) (hz : xs.length ≤ 2 ^ 20)
    (he : ∀ env' x', x' ∈ xs → EV (compCx c scope [x] fr env') (.val (ι x') :: fr.map fun q => .val q.2) elt (f x')) (hy : xs.map f = ys) :
    EVF c σ (.ListComp elt [⟨.Name x px, iter, [], 0⟩] scope pos) ys := (EVF.comp hit S hf hx hz he).is hy
theorem EVF.sliceI' {e : Expr} {l u : Option Expr} {p pos : Pos} {ns ms : List Int} {lo hi : Option Int} (he : EVo c σ e (ns.map PyData.int)) (hl : EVp c σ l lo) (hu : EVp c σ u hi) (hz : ns.length ≤ 2 ^ 20) (hy : cut lo hi ns = ms) : EVF c σ (.Subscript e (.Slice l u none p) pos) (ms.map PyData.int) :=
  hy ▸ EVF.sliceI he hl hu hz
end
end Mine
end
section
namespace Mine
open PySem PySem.Calls

section
variable {c : Cx} {σ : List Slot}
/-- two lists put together, read at once -/
theorem EVF.catO {l r : Expr} {p : Pos} {xs ys : List D} (hl : EVo c σ l xs) (hr : EVo c σ r ys) (hz : xs.length + ys.length ≤ 2 ^ 20) : EVF c σ (.BinOp l .Add r p) (xs ++ ys) := by
  constructor; intro s X vs R E I q
  refine wpAny_BinOp (hl.run s X vs _ _ I fun a items h1 t1 k1 ha ri => hr.run _ X vs _ _ (I.grow k1) fun b items2 h2 t2 k2 hb ri2 => ?_)
  obtain ⟨n, ha⟩ := ha
  obtain ⟨n2, hb⟩ := hb
  have e1 : items.size = xs.length := by rw [← ri.length]; simp
  have e2 : items2.size = ys.length := by rw [← ri2.length]; simp
  refine P.add_list (s := { s with heap := h2, toks := t2 }) (k2 _ _ ha) hb ?_ (by rw [e1, e2]; exact Nat.le_trans hz (by decide))
  have := newF q (k1.trans k2) (t1 := t2) ((ri.keep k2).append ri2)
  rw [show (items.toList ++ items2.toList).toArray = items ++ items2 by simp] at this
  exact this
end

/-- a token whose symbols say it -/
def fine (t : T) : Prop := (t.1 = 0 ∧ t.2.1 < 256 ∧ t.2.2 = 0) ∨ (t.1 = 1 ∧ 0 ≤ t.2.1 ∧ t.2.1 ≤ 65535 ∧ 0 ≤ t.2.2 ∧ t.2.2 ≤ 255)
theorem fine_of_ok {t : T} {s : Int} (h : ok1 t s = true) : fine t := by
  unfold ok1 at h
  split at h
  · have := of_decide_eq_true h; exact .inl ⟨‹_›, by omega, by omega⟩
  · split at h
    · have := of_decide_eq_true h; exact .inr ⟨‹_›, by omega, by omega, by omega, by omega⟩
    · cases h
theorem fine_all : ∀ {ts : List T} {s : Int}, okT ts s = true → ∀ t ∈ ts, fine t
  | t :: ts, s, h, u, hu => by
    simp only [okT, Bool.and_eq_true] at h
    rcases List.mem_cons.mp hu with rfl | hu
    · exact fine_of_ok h.1
    · exact fine_all h.2 u hu
theorem syms_le_tot : ∀ {ts : List T} {s : Int}, okT ts s = true → ((syms ts).length : Int) ≤ tot ts
  | [], _, _ => by simp [syms, tot]
  | t :: ts, s, h => by
    simp only [okT, Bool.and_eq_true] at h
    have h1 := syms_le_tot h.2
    have h2 : ((sym1 t).length : Int) ≤ sz1 t := by
      have := h.1
      unfold ok1 at this
      unfold sym1 sz1
      split
      · simp
      · rename_i h0
        rw [if_neg h0] at this
        split at this
        · have := of_decide_eq_true this; simp; omega
        · cases this
    simp only [syms, List.flatMap_cons, List.length_append, tot] at h1 ⊢
    simp only [Int.natCast_add]
    omega
theorem syms_at {ts : List T} {m : Nat} {t : T} (e : List Int) (h : ts[m]? = some t) : (syms ts ++ e).drop (syms (ts.take m)).length = sym1 t ++ (syms (ts.drop (m + 1)) ++ e) := by
  have h1 : ts = ts.take m ++ t :: ts.drop (m + 1) := by
    obtain ⟨hlt, e⟩ := List.getElem?_eq_some_iff.mp h
    rw [← e, ← List.drop_eq_getElem_cons hlt, List.take_append_drop]
  conv => lhs; arg 2; rw [h1]
  rw [syms_append, List.append_assoc, List.drop_left]
  simp [syms]
theorem getD_drop (l : List Int) (k i : Nat) : (l.drop k).getD i 0 = l.getD (k + i) 0 := by
  rw [List.getD_eq_getElem?_getD, List.getD_eq_getElem?_getD, List.getElem?_drop]
def bytesB (ms : List Int) : Bool := ms.all fun b => decide (0 ≤ b ∧ b ≤ 255)
/-- an end that no copy can be -/
def badEnd (e : List Int) : Prop := ∃ r, e = 256 :: r ∧ ((r.take 3).length < 3 ∨ bytesB (r.take 3) = false)

/-- signs of tokens whose distances are small -/
def sign1 (t : T) : List Int := if t.1 = 0 then [t.2.1] else [256, 0, t.2.1, t.2.2]
def signs (ts : List T) : List Int := ts.flatMap sign1
theorem signs_syms {ts : List T} (h : ∀ t ∈ ts, t.1 = 0 ∨ (0 ≤ t.2.1 ∧ t.2.1 < 256)) : signs ts = syms ts := by
  induction ts with
  | nil => rfl
  | cons t ts ih =>
    have h1 : sign1 t = sym1 t := by
      rcases h t (.head _) with q | q
      · simp [sign1, sym1, q]
      · unfold sign1 sym1
        split
        · rfl
        · rw [show t.2.1 / 256 = 0 by omega, show t.2.1 % 256 = t.2.1 by omega]
    simp only [signs, syms, List.flatMap_cons] at ih ⊢
    rw [h1, ih fun u hu => h u (.tail _ hu)]
theorem signs_len : ∀ ts : List T, (signs ts).length ≤ 4 * ts.length
  | [] => by simp [signs]
  | t :: ts => by
    have := signs_len ts
    have h : (sign1 t).length ≤ 4 := by unfold sign1; split <;> simp
    simp only [signs, List.flatMap_cons, List.length_append, List.length_cons] at this ⊢; omega
/-- the distances of a parse -/
theorem parse_dist (ns : List Int) (w l : Int) : ∀ (f j : Nat), ∀ t ∈ parse ns w l f j, t.1 = 0 ∨ (0 ≤ t.2.1 ∧ t.2.1 ≤ ns.length)
  | 0, _, t, h => by simp [parse] at h
  | f + 1, j, t, h => by
    rw [parse] at h
    split at h
    · rename_i hj
      rcases List.mem_cons.mp h with rfl | h
      · have := (best_le ns j (min l (ns.length - j)).toNat (min w j).toNat).2
        unfold tok
        split
        · right; simp only; omega
        · left; rfl
      · exact parse_dist ns w l f _ t h
    · simp at h

/-- a copy of one byte, over and over -/
theorem grow_one {ds : List Int} {x : Int} {v : Nat} : ∀ (n k : Nat), 1 ≤ v → v ≤ k + 1 → 0 < ds.length → ds.getD (ds.length - 1) 0 = x → grow (ds ++ List.replicate k x) v n = ds ++ List.replicate (k + n) x
  | 0, k, _, _, _, _ => by simp [grow]
  | n + 1, k, h1, h2, h3, h4 => by
    rw [grow]
    have e : (ds ++ List.replicate k x).getD ((ds ++ List.replicate k x).length - v) 0 = x := by
      rw [List.length_append, List.length_replicate, List.getD_eq_getElem?_getD]
      by_cases q : v = k + 1
      · rw [List.getElem?_append_left (by omega), ← List.getD_eq_getElem?_getD, show ds.length + k - v = ds.length - 1 by omega, h4]
      · rw [List.getElem?_append_right (by omega), List.getElem?_replicate, if_pos (by omega)]; rfl
    rw [e, List.append_assoc, show List.replicate k x ++ [x] = List.replicate (k + 1) x by rw [List.replicate_succ']]
    rw [grow_one n (k + 1) h1 (by omega) h3 h4, show k + 1 + n = k + (n + 1) by omega]
theorem grow_front {ds : List Int} : ∀ n : Nat, n ≤ ds.length → grow ds ds.length n = ds ++ ds.take n := by
  intro n hn
  by_cases h0 : ds.length = 0
  · have : n = 0 := by omega
    subst this; simp [grow]
  rw [grow_start (by omega)]
  congr 1
  apply List.ext_getElem?
  intro i
  rw [List.getElem?_take, List.getElem?_map]
  split
  · rename_i h
    rw [List.getElem?_range h]
    simp only [Option.map_some]
    rw [Nat.mod_eq_of_lt (by omega), List.getD_eq_getElem?_getD, List.getElem?_eq_getElem (by omega)]; rfl
  · rename_i h
    rw [List.getElem?_eq_none (by simp; omega)]; rfl

theorem okT_far : ∀ (n : Nat) (s : Int), 1 ≤ s → okT (List.replicate n ((1, 1, 255) : T)) s = true ∧ tot (List.replicate n ((1, 1, 255) : T)) = 255 * n
  | 0, s, _ => by simp [okT, tot]
  | n + 1, s, h => by
    obtain ⟨h1, h2⟩ := okT_far n (s + 255) (by omega)
    rw [List.replicate_succ]
    have e : sz1 ((1, 1, 255) : T) = 255 := by simp [sz1]
    simp only [okT, tot, e, h2, Bool.and_eq_true]
    refine ⟨⟨?_, h1⟩, by omega⟩
    simp only [ok1, show ¬ ((1 : Int) = 0) by decide, if_false, if_true]
    apply decide_eq_true; omega

def piece (ds : List Int) (kind a b : Int) : List Int :=
  if kind = 1 then (List.range (2 + b % 5).toNat).map fun (k : Nat) => ([0, 4, 255] : List Int).getD (a % 729 / 3 ^ k % 3).toNat 0
  else if kind = 0 ∨ ds = [] then (List.range (1 + b % 6).toNat).map fun (k : Nat) => (a % 256 + (k : Int)) % 256
  else if kind = 2 then cut none (some (3 + b % 8)) (List.replicate 10 (cut (some (-1 - a % 4)) none ds)).flatten
  else cut (some (a % 3)) (some (a % 3 + 3 + b % 5)) ds
theorem cut_sub {α : Type} {lo hi : Option Int} {xs : List α} : ∀ x ∈ cut lo hi xs, x ∈ xs := by
  intro x hx
  unfold cut at hx
  exact List.mem_of_mem_drop (List.mem_of_mem_take hx)
theorem piece_bytes {ds : List Int} {kind a b : Int} (hd : ∀ x ∈ ds, 0 ≤ x ∧ x ≤ 255) : ∀ x ∈ piece ds kind a b, 0 ≤ x ∧ x ≤ 255 := by
  intro x hx
  unfold piece at hx
  split at hx
  · obtain ⟨k, _, rfl⟩ := List.mem_map.mp hx
    exact getD_all (P := fun x => 0 ≤ x ∧ x ≤ 255) [0, 4, 255] _ (by decide) (by decide)
  · split at hx
    · obtain ⟨k, _, rfl⟩ := List.mem_map.mp hx
      omega
    · split at hx
      · have := cut_sub x hx
        obtain ⟨l, hl, hx'⟩ := List.mem_flatten.mp this
        rw [List.eq_of_mem_replicate hl] at hx'
        exact hd x (cut_sub x hx')
      · exact hd x (cut_sub x hx)
theorem piece_len {ds : List Int} {kind a b : Int} : (piece ds kind a b).length ≤ 10 := by
  unfold piece
  split
  · simp; omega
  · split
    · simp; omega
    · split
      · rw [show (3 + b % 8) = (((3 + b % 8).toNat : Nat) : Int) by omega, cut_upto, List.length_take]; omega
      · rw [show (a % 3) = (((a % 3).toNat : Nat) : Int) by omega, show (((a % 3).toNat : Nat) : Int) + 3 + b % 5 = (((a % 3).toNat + 3 + (b % 5).toNat : Nat) : Int) by omega, cut_nat, List.length_take]; omega
end Mine
end
section
namespace Mine
open PySem PySem.Calls

local macro_rules | `(tactic| walk_at "side") => `(tactic| first | assumption | with_unfolding_all rfl | omega | decide | (simp only [List.length_map, List.length_cons, List.length_nil, List.length_append, List.length_set]; omega) | exact shaped_li _ | exact shaped_t2 _ _ | exact shaped_lt _ | exact Int.emod_nonneg _ (by omega) | exact Int.emod_lt_of_pos _ (by omega) | exact Int.lt_of_lt_of_le (Int.emod_lt_of_pos _ (by omega)) (by omega))
local macro_rules | `(tactic| walk_at "evcall") => `(tactic| fail "no call")
local macro_rules | `(tactic| walk_at "ev") => `(tactic| first
  | with_reducible exact EV.int
  | with_reducible exact EV.bool
  | with_reducible exact EV.str
  | (with_reducible apply EV.var; all_goals with_unfolding_all rfl)
  | (with_reducible apply EV.add; all_goals walk_at "ev")
  | (with_reducible apply EV.sub; all_goals walk_at "ev")
  | (with_reducible apply EV.mul; all_goals walk_at "ev")
  | (with_reducible apply EV.pow; all_goals walk_at "ev")
  | (with_reducible apply EV.modP; all_goals walk_at "ev")
  | (with_reducible apply EV.fdivP; all_goals walk_at "ev")
  | (with_reducible apply EV.neg; all_goals walk_at "ev")
  | (with_reducible apply EV.len'; all_goals walk_at "ev")
  | (with_reducible apply EV.min'; all_goals walk_at "ev")
  | (with_reducible apply EV.max'; all_goals walk_at "ev")
  | (with_reducible apply EV.abs'; all_goals walk_at "ev")
  | (with_reducible apply EV.tuple; all_goals walk_at "ev")
  | (with_reducible apply EV.itemTI; all_goals walk_at "ev")
  | (with_reducible apply EV.itemT; all_goals walk_at "ev")
  | (with_reducible apply EV.itemI; all_goals walk_at "ev")
  | walk_at "evcall"
  | (with_reducible apply EVF.evI; all_goals walk_at "ev")
  | (with_reducible apply EVF.ev; all_goals walk_at "ev")
  | (with_reducible apply EVo.own; all_goals with_unfolding_all rfl)
  | (with_reducible apply EV.evo; all_goals walk_at "ev")
  | with_reducible exact EVs.nil
  | (with_reducible apply EVs.cons; all_goals walk_at "ev")
  | with_reducible exact EVp.none
  | (with_reducible apply EVp.some; all_goals walk_at "ev")
  | (with_reducible apply EVF.listOf; all_goals walk_at "ev")
  | (with_reducible apply EVF.sliceI; all_goals walk_at "ev")
  | (with_reducible apply EVF.catI; all_goals walk_at "ev")
  | (with_reducible apply EVF.list; all_goals walk_at "ev")
  | (with_reducible apply EVF.slice; all_goals walk_at "ev")
  | (with_reducible apply EVF.cat; all_goals walk_at "ev")
  | (with_reducible apply TS.lt; all_goals walk_at "ev")
  | (with_reducible apply TS.gt; all_goals walk_at "ev")
  | (with_reducible apply TS.le; all_goals walk_at "ev")
  | (with_reducible apply TS.ge; all_goals walk_at "ev")
  | (with_reducible apply TS.eq; all_goals walk_at "ev")
  | (with_reducible apply TS.ne; all_goals walk_at "ev")
  | (with_reducible apply TS.not; all_goals walk_at "ev")
  | (with_reducible apply TS.isNot; all_goals walk_at "ev")
  | (with_reducible apply TS.neD; all_goals walk_at "ev")
  | (with_reducible apply TS.eqD; all_goals walk_at "ev")
  | (with_reducible apply TS.val; all_goals walk_at "ev")
  | (with_reducible apply TS.and2; all_goals first | (intro _; walk_at "ev") | walk_at "ev")
  | (with_reducible apply TS.or2; all_goals first | (intro _; walk_at "ev") | walk_at "ev")
  | (with_reducible apply IT.rangeDown'; all_goals walk_at "ev")
  | (with_reducible apply IT.range1'; all_goals walk_at "ev")
  | (with_reducible apply IT.range2'; all_goals walk_at "ev")
  | (with_reducible apply IT.list; all_goals walk_at "ev")
  | (with_reducible apply IT.tuple; all_goals walk_at "ev")
  | walk_at "side")
local macro_rules | `(tactic| walk_at "assign") => `(tactic| (with_reducible apply WP.assign (c := _) (rest := _); all_goals first | with_reducible show WP _ _ _ _ | walk_at "ev"))
local macro_rules | `(tactic| walk_at "assignOwn") => `(tactic| (with_reducible apply WP.assignOwn; all_goals first | with_reducible show WP _ _ _ _ | walk_at "ev"))
local macro_rules | `(tactic| walk_at "append") => `(tactic| first | (with_reducible apply WP.appendI; all_goals first | with_reducible show WP _ _ _ _ | walk_at "ev") | (with_reducible apply WP.append; all_goals first | with_reducible show WP _ _ _ _ | walk_at "ev"))
local macro_rules | `(tactic| walk_at "ret") => `(tactic| (with_reducible apply WP.ret; all_goals first | with_reducible show EV _ _ _ _; walk_at "ev" | skip))
local macro_rules | `(tactic| walk_at "next") => `(tactic| (refine WP.nil ?_; with_unfolding_all show WP _ _ _ _))


abbrev P105 := PySem.Challenge.pw_pd_squeeze_1_05

structure H105 (G : GX) (F : Nat → Addr) : Prop where
  ok : G.Ok
  bis : Bis G
  fe : OwnX G "FormatError" (F 1)
  isb : Def G P105 2 "is_bytes" (F 2) ["data"]
  ml : Def G P105 3 "match_length" (F 3) ["data", "i", "j", "limit"]
  lm : Def G P105 4 "longest_match" (F 4) ["data", "j", "window", "limit"]
  lz : Def G P105 5 "lz_tokens" (F 5) ["data", "window", "limit"]
  tok : Def G P105 6 "tokens_ok" (F 6) ["tokens"]
  exp : Def G P105 7 "lz_expand" (F 7) ["tokens"]
  sym : Def G P105 8 "tokens_to_symbols" (F 8) ["tokens"]
  s2t : Def G P105 9 "symbols_to_tokens" (F 9) ["symbols"]
  cell : Def G P105 11 "_law_cell" (F 11) ["script", "k"]
  piece : Def G P105 12 "_law_piece" (F 12) ["data", "kind", "a", "b"]
  lbest : Def G P105 13 "_law_best" (F 13) ["data", "j"]
  lparse : Def G P105 14 "_law_parse" (F 14) ["data"]
  signs : Def G P105 15 "_law_signs" (F 15) ["tokens"]
  lexp : Def G P105 16 "_law_expand" (F 16) ["tokens"]
  ltok : Def G P105 17 "_law_tokens" (F 17) ["symbols"]
  law : Def G P105 18 "law" (F 18) ["script"]

set_option maxRecDepth 100000 in
theorem ml_body {G : GX} (B : Bis G) {A : Around} {env : Env} {h0 : Heap} {n : Nat} {ns : List Int} {i j : Nat} {limit : Int} (hij : i ≤ j) (hj : j ≤ ns.length) (hl : 0 ≤ limit) (hz : ns.length < 2 ^ 20) :
    WP ⟨G, A, env, h0, ["data", "i", "j", "limit", "top", "n"], kindsAt P105 3, n⟩ [.val (LI ns), .val (.int i), .val (.int j), .val (.int limit), .un, .un] (bodyAt P105 3) (fun o => ∃ d, o = .ret d ∧ d = .int (run ns i j (min limit (ns.length - j)).toNat)) := by
  conv => enter [1, 6]; whnf
  conv => enter [3]; whnf
  have hlen : (ns.map PyData.int).length = ns.length := by simp
  walk_at "assign"
  rw [hlen]
  generalize htop : min limit ((ns.length : Int) - j) = top
  refine WP.forIn (fun k σ => (∃ sl, σ = [.val (LI ns), .val (.int i), .val (.int j), .val (.int limit), .val (.int top), sl]) ∧ ∀ n, n < k → ns[i + n]? = ns[j + n]?) (by walk_at "ev") rfl ?_ ?_ ?_
  · exact ⟨⟨_, rfl⟩, fun n h => by omega⟩
  · rintro k d σ hd ⟨⟨sl, rfl⟩, hk⟩
    obtain ⟨rfl, hkt⟩ := rng_get hd
    refine ⟨_, TG.name rfl rfl, ?_⟩
    have h1 : i + k < ns.length := by omega
    have h2 : j + k < ns.length := by omega
    refine WP.ite (by walk_at "ev") ?_ ?_
    all_goals rw [show ((i : Int) + (0 + k)).toNat = i + k by omega, show ((j : Int) + (0 + k)).toNat = j + k by omega, List.getD_eq_getElem?_getD, List.getD_eq_getElem?_getD, List.getElem?_eq_getElem h1, List.getElem?_eq_getElem h2, Option.getD_some, Option.getD_some]
    · intro hb
      refine WP.ret (by walk_at "ev") ⟨_, rfl, ?_⟩
      rw [run_stop (k := k) (by omega) hk ?_]
      · simp
      · rw [List.getElem?_eq_getElem h1, List.getElem?_eq_getElem h2]
        simpa using hb
    · intro hb
      refine WP.nil ?_
      refine WP.nil ⟨⟨_, rfl⟩, fun n hn => ?_⟩
      by_cases q : n = k
      · subst q
        rw [List.getElem?_eq_getElem h1, List.getElem?_eq_getElem h2]
        simpa using hb
      · exact hk n (by omega)
  · rintro σ ⟨⟨sl, rfl⟩, hk⟩
    refine WP.ret (by walk_at "ev") ⟨_, rfl, ?_⟩
    rw [rng_length] at hk
    rw [run_full (fun n hn => hk n (by omega))]
    congr 1; omega

theorem ev_ml {c : Cx} {σ : List Slot} {F : Nat → Addr} (H : H105 c.G F) {ed ei ej el : Expr} {p pos : Pos} {ns : List Int} {i j limit : Int} (hd : EV c σ ed (LI ns)) (hi : EV c σ ei (.int i)) (hj : EV c σ ej (.int j)) (hl : EV c σ el (.int limit))
    (hk : c.kinds.lookup (PySem.Str.ofString "match_length") = some .globalImplicit) (n1 : noStar ed = true) (n2 : noStar ei = true) (n3 : noStar ej = true) (n4 : noStar el = true) (h1 : 0 ≤ i) (h2 : i ≤ j) (h3 : j ≤ ns.length) (h4 : 0 ≤ limit) (hz : ns.length < 2 ^ 20) (hr : 1 ≤ c.room) :
    EV c σ (.Call (.Name "match_length" p) [ed, ei, ej, el] [] pos) (.int (run ns i.toNat j.toNat (min limit (ns.length - j)).toNat)) := by
  refine EV.call hk (by decide) H.ml.isFn (EVs.cons hd (EVs.cons hi (EVs.cons hj (EVs.one hl n4) n3) n2) n1) n1 (H.ml.spec (more := ["top", "n"]) (n := 0) H.ok rfl fun A env h0 => ?_) hr
  have := ml_body (A := A) (env := env) (h0 := h0) (n := 0) H.bis (i := i.toNat) (j := j.toNat) (ns := ns) (by omega) (by omega) h4 hz
  rw [show ((i.toNat : Nat) : Int) = i by omega, show ((j.toNat : Nat) : Int) = j by omega] at this
  exact this


local macro_rules | `(tactic| walk_at "evcall") => `(tactic| (with_reducible apply ev_ml; all_goals walk_at "ev"))

set_option maxRecDepth 100000 in
theorem lm_body {G : GX} {F : Nat → Addr} (H : H105 G F) {A : Around} {env : Env} {h0 : Heap} {n : Nat} (hn : 1 ≤ n) {ns : List Int} {j : Nat} {window limit : Int} (hj : j ≤ ns.length) (hw : 0 ≤ window) (hl : 0 ≤ limit) (hz : ns.length < 2 ^ 20) :
    WP ⟨G, A, env, h0, ["data", "j", "window", "limit", "best", "longest", "distance", "n"], kindsAt P105 4, n⟩ [.val (LI ns), .val (.int j), .val (.int window), .val (.int limit), .un, .un, .un, .un] (bodyAt P105 4)
      (fun o => ∃ d, o = .ret d ∧ d = pair (best ns j (min limit (ns.length - j)).toNat (min window j).toNat)) := by
  conv => enter [1, 6]; whnf
  conv => enter [3]; whnf
  have B := H.bis
  generalize ht : (min limit ((ns.length : Int) - j)).toNat = t
  walk_at "assign"
  walk_at "assign"
  refine WP.forIn (fun k σ => ∃ s1 s2, σ = [.val (LI ns), .val (.int j), .val (.int window), .val (.int limit), .val (pair (best ns j t k)), .val (.int (max 3 (best ns j t k).2)), s1, s2]) (by walk_at "ev") rfl ?_ ?_ ?_
  · exact ⟨_, _, rfl⟩
  · rintro k d σ hd ⟨s1, s2, rfl⟩
    obtain ⟨rfl, hkt⟩ := rng_get hd
    rw [show (1 + (k : Int)) = ((k + 1 : Nat) : Int) by omega]
    refine ⟨_, TG.name rfl rfl, ?_⟩
    walk_at "assign"
    rw [ht, show ((j : Int) - ((k + 1 : Nat) : Int)).toNat = j - (k + 1) by omega, show ((j : Int)).toNat = j by omega]
    refine WP.ite (by walk_at "ev") ?_ ?_
    · intro hb
      have hb' : max 3 (best ns j t k).2 < run ns (j - (k + 1)) j t := by simp at hb; omega
      have e1 : best ns j t (k + 1) = (k + 1, run ns (j - (k + 1)) j t) := by rw [best, if_pos hb']
      walk_at "assign"
      walk_at "assign"
      refine WP.nil (WP.nil ?_)
      show ∃ s1 s2, _ = _
      rw [e1, show (max 3 ((run ns (j - (k + 1)) j t : Nat) : Int)) = ((run ns (j - (k + 1)) j t : Nat) : Int) by omega]
      exact ⟨_, _, rfl⟩
    · intro hb
      have hb' : ¬ max 3 (best ns j t k).2 < run ns (j - (k + 1)) j t := by simp at hb; omega
      have e1 : best ns j t (k + 1) = best ns j t k := by rw [best, if_neg hb']
      refine WP.nil (WP.nil ?_)
      show ∃ s1 s2, _ = _
      rw [e1]
      exact ⟨_, _, rfl⟩
  · rintro σ ⟨s1, s2, rfl⟩
    refine WP.ret (by walk_at "ev") ⟨_, rfl, ?_⟩
    rw [rng_length, show (min window (j : Int) + 1 - 1).toNat = (min window (j : Int)).toNat by omega]

theorem ev_lm {c : Cx} {σ : List Slot} {F : Nat → Addr} (H : H105 c.G F) {ed ej ew el : Expr} {p pos : Pos} {ns : List Int} {j window limit : Int} (hd : EV c σ ed (LI ns)) (hj : EV c σ ej (.int j)) (hw : EV c σ ew (.int window)) (hl : EV c σ el (.int limit))
    (hk : c.kinds.lookup (PySem.Str.ofString "longest_match") = some .globalImplicit) (n1 : noStar ed = true) (n2 : noStar ej = true) (n3 : noStar ew = true) (n4 : noStar el = true) (h1 : 0 ≤ j) (h3 : j ≤ ns.length) (h2 : 0 ≤ window) (h4 : 0 ≤ limit) (hz : ns.length < 2 ^ 20) (hr : 2 ≤ c.room) :
    EV c σ (.Call (.Name "longest_match" p) [ed, ej, ew, el] [] pos) (pair (best ns j.toNat (min limit (ns.length - j)).toNat (min window j).toNat)) := by
  refine EV.call hk (by decide) H.lm.isFn (EVs.cons hd (EVs.cons hj (EVs.cons hw (EVs.one hl n4) n3) n2) n1) n1 (H.lm.spec (more := ["best", "longest", "distance", "n"]) (n := 1) H.ok rfl fun A env h0 => ?_) hr
  have := lm_body (A := A) (env := env) (h0 := h0) (n := 1) H (by omega) (j := j.toNat) (ns := ns) (window := window) (limit := limit) (by omega) h2 h4 hz
  rw [show ((j.toNat : Nat) : Int) = j by omega] at this
  exact this

local macro_rules | `(tactic| walk_at "evcall") => `(tactic| (with_reducible apply ev_lm; all_goals walk_at "ev"))
local macro_rules | `(tactic| walk_at "appendT") => `(tactic| (with_reducible apply WP.appendT; all_goals first | with_reducible show WP _ _ _ _ | walk_at "ev"))

set_option maxRecDepth 100000 in
theorem lz_body {G : GX} {F : Nat → Addr} (H : H105 G F) {A : Around} {env : Env} {h0 : Heap} {n : Nat} (hn : 2 ≤ n) {ns : List Int} {window limit : Int} (hw : 0 ≤ window) (hl : 0 ≤ limit) (hz : ns.length < 2 ^ 19) :
    WP ⟨G, A, env, h0, ["data", "window", "limit", "tokens", "j", "distance", "length"], kindsAt P105 5, n⟩ [.val (LI ns), .val (.int window), .val (.int limit), .un, .un, .un, .un] (bodyAt P105 5) (fun o => ∃ d, o = .ret d ∧ d = LT (toks ns window limit)) := by
  conv => enter [1, 6]; whnf
  conv => enter [3]; whnf
  have B := H.bis
  have hlen : (ns.map PyData.int).length = ns.length := by simp
  walk_at "assignOwn"
  walk_at "assign"
  refine WP.while (fun m σ => ∃ (j : Nat) (ts : List (Int × Int × Int)) (s1 s2 : Slot), σ = [.val (LI ns), .val (.int window), .val (.int limit), .own (ts.map T3), .val (.int j), s1, s2] ∧ j ≤ ns.length ∧ m = ns.length - j ∧ ts ++ parse ns window limit (ns.length - j) j = toks ns window limit ∧ ts.length ≤ j) ns.length ?_ ?_
  · exact ⟨0, [], _, _, rfl, by omega, by omega, rfl, by simp⟩
  · rintro m σ ⟨j, ts, s1, s2, rfl, hj, rfl, hts, htl⟩
    refine ⟨_, by walk_at "ev", ?_, ?_⟩
    all_goals rw [hlen]; intro hb; simp at hb
    · refine WP.unpack (by walk_at "ev") rfl (TG.tuple (TGs.cons (TG.name rfl rfl) (TGs.cons (TG.name rfl rfl) TGs.nil rfl) rfl) rfl rfl) ?_
      rw [show ((j : Int)).toNat = j by omega]
      have hjl : j < ns.length := by omega
      have hnext := tok_next ns window limit j hjl
      have hp := parse_at (w := window) (l := limit) hjl
      refine WP.ite (by walk_at "ev") ?_ ?_
      · intro hb
        have hb' : 0 < (best ns j (min limit (ns.length - j)).toNat (min window j).toNat).2 := by simpa using hb
        have et : tok ns window limit j = (((1 : Int), ((best ns j (min limit (ns.length - j)).toNat (min window j).toNat).1 : Int), ((best ns j (min limit (ns.length - j)).toNat (min window j).toNat).2 : Int)), j + (best ns j (min limit (ns.length - j)).toNat (min window j).toNat).2) := by
          unfold tok; rw [if_pos hb']
        rw [et] at hp hnext
        walk_at "appendT"
        walk_at "assign"
        rw [show ((j : Int) + ((best ns j (min limit (ns.length - j)).toNat (min window j).toNat).2 : Nat)) = ((j + (best ns j (min limit (ns.length - j)).toNat (min window j).toNat).2 : Nat) : Int) by omega]
        refine WP.nil (WP.nil ⟨ns.length - (j + (best ns j (min limit (ns.length - j)).toNat (min window j).toNat).2), by omega, _, _, _, _, rfl, by omega, rfl, ?_, by simp; omega⟩)
        rw [← hts, hp]; simp
      · intro hb
        have hb' : ¬ 0 < (best ns j (min limit (ns.length - j)).toNat (min window j).toNat).2 := by simpa using hb
        have et : tok ns window limit j = ((0, ns.getD j 0, 0), j + 1) := by
          unfold tok; rw [if_neg hb']
        rw [et] at hp hnext
        walk_at "appendT"
        walk_at "assign"
        rw [show ((j : Int)).toNat = j by omega, show ((j : Int) + 1) = ((j + 1 : Nat) : Int) by omega]
        refine WP.nil (WP.nil ⟨ns.length - (j + 1), by omega, _, _, _, _, rfl, by omega, rfl, ?_, by simp; omega⟩)
        rw [← hts, hp]; simp
    · rw [parse_done (by omega), List.append_nil] at hts
      subst hts
      refine WP.freeze 3 rfl ?_
      exact WP.ret (by walk_at "ev") ⟨_, rfl, rfl⟩
theorem ev_lz {c : Cx} {σ : List Slot} {F : Nat → Addr} (H : H105 c.G F) {ed ew el : Expr} {p pos : Pos} {ns : List Int} {window limit : Int} (hd : EV c σ ed (LI ns)) (hw : EV c σ ew (.int window)) (hl : EV c σ el (.int limit))
    (hk : c.kinds.lookup (PySem.Str.ofString "lz_tokens") = some .globalImplicit) (n1 : noStar ed = true) (n3 : noStar ew = true) (n4 : noStar el = true) (h2 : 0 ≤ window) (h4 : 0 ≤ limit) (hz : ns.length < 2 ^ 19) (hr : 3 ≤ c.room) :
    EV c σ (.Call (.Name "lz_tokens" p) [ed, ew, el] [] pos) (LT (toks ns window limit)) :=
  EV.call hk (by decide) H.lz.isFn (EVs.cons hd (EVs.cons hw (EVs.one hl n4) n3) n1) n1 (H.lz.spec (more := ["tokens", "j", "distance", "length"]) (n := 2) H.ok rfl fun A env h0 => lz_body H (by omega) h2 h4 hz) hr

set_option maxRecDepth 100000 in
theorem ok_body {G : GX} {A : Around} {env : Env} {h0 : Heap} {n : Nat} {ts : List T} :
    WP ⟨G, A, env, h0, ["tokens", "size", "kind", "value", "length"], kindsAt P105 6, n⟩ [.val (LT ts), .un, .un, .un, .un] (bodyAt P105 6) (fun o => ∃ d, o = .ret d ∧ d = .bool (okT ts 0)) := by
  conv => enter [1, 6]; whnf
  conv => enter [3]; whnf
  walk_at "assign"
  refine WP.forIn (fun k σ => ∃ (s : Int) (s1 s2 s3 : Slot), σ = [.val (LT ts), .val (.int s), s1, s2, s3] ∧ okT ts 0 = okT (ts.drop k) s) (IT.list (by walk_at "ev")) rfl ?_ ?_ ?_
  · exact ⟨0, _, _, _, rfl, rfl⟩
  · rintro k d σ hd ⟨s, s1, s2, s3, rfl, hk⟩
    rw [List.getElem?_map] at hd
    cases ht : ts[k]? with
    | none => rw [ht] at hd; cases hd
    | some t =>
      rw [ht] at hd; cases hd
      obtain ⟨a, v, l⟩ := t
      have hdr : ts.drop k = (a, v, l) :: ts.drop (k + 1) := by
        obtain ⟨hlt, e⟩ := List.getElem?_eq_some_iff.mp ht
        rw [List.drop_eq_getElem_cons hlt, e]
      rw [hdr] at hk
      refine ⟨_, TG.tuple (TGs.cons (TG.name rfl rfl) (TGs.cons (TG.name rfl rfl) (TGs.cons (TG.name rfl rfl) TGs.nil rfl) rfl) rfl) rfl rfl, ?_⟩
      have bad : ok1 (a, v, l) s = false → okT ts 0 = false := fun h => by rw [hk]; simp [okT, h]
      have good : ok1 (a, v, l) s = true → okT ts 0 = okT (ts.drop (k + 1)) (s + sz1 (a, v, l)) := fun h => by rw [hk]; simp [okT, h]
      refine WP.ite (by walk_at "ev") ?_ ?_
      · intro hb
        have ha : a = 0 := by simpa using hb
        subst ha
        refine WP.ite (TS.or3 (by walk_at "ev") (fun _ => by walk_at "ev") fun _ _ => by walk_at "ev") ?_ ?_
        · intro hb
          refine WP.ret (by walk_at "ev") ⟨_, rfl, ?_⟩
          rw [bad]
          simp only [ok1, if_true]
          apply decide_eq_false
          simp at hb; omega
        · intro hb
          walk_at "next"
          walk_at "assign"
          refine WP.nil (WP.nil ⟨_, _, _, _, rfl, ?_⟩)
          have := good (by
            simp only [ok1, if_true]
            apply decide_eq_true
            simp at hb; omega)
          rw [this]; simp [sz1]
      · intro hb
        have ha : a ≠ 0 := by simpa using hb
        refine WP.ite (by walk_at "ev") ?_ ?_
        · intro hb
          have ha' : a = 1 := by simpa using hb
          subst ha'
          refine WP.ite (TS.or3 (by walk_at "ev") (fun _ => by walk_at "ev") fun _ _ => by walk_at "ev") ?_ ?_
          · intro hb
            refine WP.ret (by walk_at "ev") ⟨_, rfl, ?_⟩
            rw [bad]
            simp only [ok1, if_true, show ¬ ((1 : Int) = 0) by decide, if_false]
            apply decide_eq_false
            simp at hb; omega
          · intro hb
            walk_at "next"
            refine WP.ite (TS.or2 (by walk_at "ev") fun _ => by walk_at "ev") ?_ ?_
            · intro hb'
              refine WP.ret (by walk_at "ev") ⟨_, rfl, ?_⟩
              rw [bad]
              simp only [ok1, if_true, show ¬ ((1 : Int) = 0) by decide, if_false]
              apply decide_eq_false
              simp at hb'; omega
            · intro hb'
              walk_at "next"
              walk_at "assign"
              refine WP.nil (WP.nil (WP.nil ⟨_, _, _, _, rfl, ?_⟩))
              have := good (by
                simp only [ok1, if_true, show ¬ ((1 : Int) = 0) by decide, if_false]
                apply decide_eq_true
                simp at hb hb'; omega)
              rw [this]; simp [sz1]
        · intro hb
          have ha' : a ≠ 1 := by simpa using hb
          refine WP.ret (by walk_at "ev") ⟨_, rfl, ?_⟩
          rw [bad]
          simp [ok1, ha, ha']
  · rintro σ ⟨s, s1, s2, s3, rfl, hk⟩
    refine WP.ret (by walk_at "ev") ⟨_, rfl, ?_⟩
    rw [hk, List.length_map, List.drop_length]; rfl
theorem ev_ok {c : Cx} {σ : List Slot} {F : Nat → Addr} (H : H105 c.G F) {ed : Expr} {p pos : Pos} {ts : List T} (hd : EV c σ ed (LT ts)) (hk : c.kinds.lookup (PySem.Str.ofString "tokens_ok") = some .globalImplicit) (n1 : noStar ed = true) (hr : 1 ≤ c.room) :
    EV c σ (.Call (.Name "tokens_ok" p) [ed] [] pos) (.bool (okT ts 0)) :=
  EV.call hk (by decide) H.tok.isFn (EVs.one hd n1) n1 (H.tok.spec (more := ["size", "kind", "value", "length"]) (n := 0) H.ok rfl fun A env h0 => ok_body) hr

local macro_rules | `(tactic| walk_at "evcall") => `(tactic| (with_reducible apply ev_ok; all_goals walk_at "ev"))

set_option maxRecDepth 100000 in
theorem expand_body {G : GX} {F : Nat → Addr} (H : H105 G F) {A : Around} {env : Env} {h0 : Heap} {n : Nat} (hn : 1 ≤ n) {ts : List T} (hok : okT ts 0 = true) (hz : tot ts ≤ 2 ^ 18) :
    WP ⟨G, A, env, h0, ["tokens", "data", "kind", "value", "length", "_"], kindsAt P105 7, n⟩ [.val (LT ts), .un, .un, .un, .un, .un] (bodyAt P105 7) (fun o => ∃ d, o = .ret d ∧ d = LI (expand ts [])) := by
  conv => enter [1, 6]; whnf
  conv => enter [3]; whnf
  have B := H.bis
  refine WP.ite (TS.not (TS.val (by walk_at "ev") rfl)) ?_ ?_
  · rw [hok]; intro hb; simp at hb
  intro _
  walk_at "next"
  walk_at "assignOwn"
  refine WP.forIn (fun k σ => ∃ (ds : List Int) (s1 s2 s3 s4 : Slot), σ = [.val (LT ts), .own (ds.map PyData.int), s1, s2, s3, s4] ∧ expand ts [] = expand (ts.drop k) ds ∧ okT (ts.drop k) ds.length = true ∧ ds.length + tot (ts.drop k) ≤ 2 ^ 18) (IT.list (by walk_at "ev")) rfl ?_ ?_ ?_
  · exact ⟨[], _, _, _, _, rfl, rfl, hok, by simpa using hz⟩
  · rintro k d σ hd ⟨ds, s1, s2, s3, s4, rfl, hk, hko, hkz⟩
    rw [List.getElem?_map] at hd
    cases ht : ts[k]? with
    | none => rw [ht] at hd; cases hd
    | some t =>
      rw [ht] at hd; cases hd
      obtain ⟨a, v, l⟩ := t
      have hdr : ts.drop k = (a, v, l) :: ts.drop (k + 1) := by
        obtain ⟨hlt, e⟩ := List.getElem?_eq_some_iff.mp ht
        rw [List.drop_eq_getElem_cons hlt, e]
      rw [hdr] at hk hko hkz
      simp only [okT, Bool.and_eq_true] at hko
      have hpos := tot_nonneg hko.2
      have hlen1 := exp1_length (d := ds) hko.1
      simp only [tot] at hkz
      refine ⟨_, TG.tuple (TGs.cons (TG.name rfl rfl) (TGs.cons (TG.name rfl rfl) (TGs.cons (TG.name rfl rfl) TGs.nil rfl) rfl) rfl) rfl rfl, ?_⟩
      refine WP.ite (by walk_at "ev") ?_ ?_
      · intro hb
        have ha : a = 0 := by simpa using hb
        subst ha
        have e1 : exp1 (0, v, l) ds = ds ++ [v] := by simp [exp1]
        have e2 : sz1 (0, v, l) = 1 := by simp [sz1]
        rw [e2] at hkz hko
        walk_at "append"
        refine WP.nil (WP.nil ⟨ds ++ [v], _, _, _, _, rfl, ?_, ?_, ?_⟩)
        · rw [hk, expand, e1]
        · rw [show ((ds ++ [v]).length : Int) = ds.length + 1 by simp]; exact hko.2
        · simp; omega
      · intro hb
        have ha : a ≠ 0 := by simpa using hb
        have ho := hko.1
        simp only [ok1, ha, if_false] at ho
        split at ho
        · rename_i ha'
          subst ha'
          have hv := of_decide_eq_true ho
          have hv1 : 1 ≤ v := hv.1
          have hv2 : v ≤ ds.length := hv.2.1
          have hv3 : 4 ≤ l := hv.2.2.2.1
          have hv4 : l ≤ 255 := hv.2.2.2.2
          have e1 : exp1 (1, v, l) ds = grow ds v.toNat l.toNat := by simp [exp1]
          have e2 : sz1 (1, v, l) = l := by simp [sz1]
          rw [e2] at hkz hko hlen1
          refine WP.forIn (fun m σ => ∃ s4 : Slot, σ = [.val (LT ts), .own ((grow ds v.toNat m).map PyData.int), .val (.int 1), .val (.int v), .val (.int l), s4]) (by walk_at "ev") rfl ?_ ?_ ?_
          · exact ⟨_, rfl⟩
          · rintro m d σ hd ⟨s4, rfl⟩
            obtain ⟨rfl, hmt⟩ := rng_get hd
            have hmt : (m : Int) < l - 0 := hmt
            refine ⟨_, TG.name rfl rfl, ?_⟩
            have hgl : (grow ds v.toNat m).length = ds.length + m := grow_length _ _ _
            have hgl' : ((grow ds v.toNat m).map PyData.int).length = (grow ds v.toNat m).length := by simp
            walk_at "append"
            refine WP.nil ?_
            show ∃ s4 : Slot, _ = _
            rw [grow_last, ← show (((grow ds v.toNat m).length : Int) - v).toNat = (grow ds v.toNat m).length - v.toNat by omega, ← hgl']
            exact ⟨_, rfl⟩
          · rintro σ ⟨s4, rfl⟩
            rw [rng_length, show (l - 0).toNat = l.toNat by omega, ← e1]
            refine WP.nil (WP.nil ⟨exp1 (1, v, l) ds, _, _, _, _, rfl, ?_, ?_, ?_⟩)
            · rw [hk, expand]
            · rw [hlen1]; exact hko.2
            · rw [hlen1]; omega
        · cases ho
  · rintro σ ⟨ds, s1, s2, s3, s4, rfl, hk, _, _⟩
    refine WP.freeze 1 rfl ?_
    refine WP.ret (by walk_at "ev") ⟨_, rfl, ?_⟩
    rw [hk, List.length_map, List.drop_length]; rfl
theorem ev_expand {c : Cx} {σ : List Slot} {F : Nat → Addr} (H : H105 c.G F) {ed : Expr} {p pos : Pos} {ts : List T} (hd : EV c σ ed (LT ts)) (hk : c.kinds.lookup (PySem.Str.ofString "lz_expand") = some .globalImplicit) (n1 : noStar ed = true) (hok : okT ts 0 = true) (hz : tot ts ≤ 2 ^ 18) (hr : 2 ≤ c.room) :
    EV c σ (.Call (.Name "lz_expand" p) [ed] [] pos) (LI (expand ts [])) :=
  EV.call hk (by decide) H.exp.isFn (EVs.one hd n1) n1 (H.exp.spec (more := ["data", "kind", "value", "length", "_"]) (n := 1) H.ok rfl fun A env h0 => expand_body H (by omega) hok hz) hr
set_option maxRecDepth 100000 in
theorem expand_raise {G : GX} {F : Nat → Addr} (H : H105 G F) {A : Around} {env : Env} {h0 : Heap} {n : Nat} (hn : 1 ≤ n) {ts : List T} (hok : okT ts 0 = false) :
    WX ⟨G, A, env, h0, ["tokens", "data", "kind", "value", "length", "_"], kindsAt P105 7, n⟩ [.val (LT ts), .un, .un, .un, .un, .un] (bodyAt P105 7) (.ref (F 1)) := by
  conv => enter [1, 6]; whnf
  conv => enter [3]; whnf
  have B := H.bis
  refine WX.ite (TS.not (TS.val (by walk_at "ev") rfl)) ?_ ?_
  · intro _
    exact WX.raise H.fe (by walk_at "ev") rfl rfl (by decide)
  · rw [hok]; intro hb; simp at hb
theorem expand_raises {G : GX} {F : Nat → Addr} (H : H105 G F) {ts : List T} (hok : okT ts 0 = false) : FnRaise G (F 7) [LT ts] (.ref (F 1)) 2 :=
  H.exp.raise (more := ["data", "kind", "value", "length", "_"]) (n := 1) H.ok rfl fun A env h0 => expand_raise H (by omega) hok

set_option maxRecDepth 100000 in
theorem syms_body {G : GX} {A : Around} {env : Env} {h0 : Heap} {n : Nat} {ts : List T} (hz : ts.length < 2 ^ 17) :
    WP ⟨G, A, env, h0, ["tokens", "symbols", "kind", "value", "length"], kindsAt P105 8, n⟩ [.val (LT ts), .un, .un, .un, .un] (bodyAt P105 8) (fun o => ∃ d, o = .ret d ∧ d = LI (syms ts)) := by
  conv => enter [1, 6]; whnf
  conv => enter [3]; whnf
  walk_at "assignOwn"
  refine WP.forIn (fun k σ => ∃ (s1 s2 s3 : Slot), σ = [.val (LT ts), .own ((syms (ts.take k)).map PyData.int), s1, s2, s3]) (IT.list (by walk_at "ev")) rfl ?_ ?_ ?_
  · exact ⟨_, _, _, rfl⟩
  · rintro k d σ hd ⟨s1, s2, s3, rfl⟩
    rw [List.getElem?_map] at hd
    cases ht : ts[k]? with
    | none => rw [ht] at hd; cases hd
    | some t =>
      rw [ht] at hd; cases hd
      obtain ⟨a, v, l⟩ := t
      have hlt := (List.getElem?_eq_some_iff.mp ht).1
      have hdr : syms (ts.take (k + 1)) = syms (ts.take k) ++ sym1 (a, v, l) := by
        rw [List.take_succ, ht, syms_append]; simp [syms]
      have hl1 : (syms (ts.take k)).length ≤ 4 * ts.length := by
        have := syms_len (ts.take k)
        rw [List.length_take] at this; omega
      refine ⟨_, TG.tuple (TGs.cons (TG.name rfl rfl) (TGs.cons (TG.name rfl rfl) (TGs.cons (TG.name rfl rfl) TGs.nil rfl) rfl) rfl) rfl rfl, ?_⟩
      refine WP.ite (by walk_at "ev") ?_ ?_
      · intro hb
        have ha : a = 0 := by simpa using hb
        walk_at "append"
        refine WP.nil (WP.nil ?_)
        have e : syms (ts.take (k + 1)) = syms (ts.take k) ++ [v] := by rw [hdr]; simp [sym1, ha]
        show ∃ s1 s2 s3 : Slot, _ = _
        rw [e]
        exact ⟨_, _, _, rfl⟩
      · intro hb
        have ha : a ≠ 0 := by simpa using hb
        walk_at "append"
        walk_at "append"
        walk_at "append"
        walk_at "append"
        refine WP.nil (WP.nil ?_)
        have e : syms (ts.take (k + 1)) = syms (ts.take k) ++ [256] ++ [v / 256] ++ [v % 256] ++ [l] := by rw [hdr]; simp [sym1, ha]
        show ∃ s1 s2 s3 : Slot, _ = _
        rw [e]
        exact ⟨_, _, _, rfl⟩
  · rintro σ ⟨s1, s2, s3, rfl⟩
    refine WP.freeze 1 rfl ?_
    refine WP.ret (by walk_at "ev") ⟨_, rfl, ?_⟩
    rw [List.length_map, List.take_length]
theorem ev_syms {c : Cx} {σ : List Slot} {F : Nat → Addr} (H : H105 c.G F) {ed : Expr} {p pos : Pos} {ts : List T} (hd : EV c σ ed (LT ts)) (hk : c.kinds.lookup (PySem.Str.ofString "tokens_to_symbols") = some .globalImplicit) (n1 : noStar ed = true) (hz : ts.length < 2 ^ 17) (hr : 1 ≤ c.room) :
    EV c σ (.Call (.Name "tokens_to_symbols" p) [ed] [] pos) (LI (syms ts)) :=
  EV.call hk (by decide) H.sym.isFn (EVs.one hd n1) n1 (H.sym.spec (more := ["symbols", "kind", "value", "length"]) (n := 0) H.ok rfl fun A env h0 => syms_body hz) hr
set_option maxRecDepth 100000 in
theorem cell_body {G : GX} (B : Bis G) {A : Around} {env : Env} {h0 : Heap} {n : Nat} {ns : List Int} {k : Int} (hk : 0 ≤ k) (hz : ns.length < 2 ^ 20) :
    WP ⟨G, A, env, h0, ["script", "k"], kindsAt P105 11, n⟩ [.val (LI ns), .val (.int k)] (bodyAt P105 11) (fun o => ∃ d, o = .ret d ∧ d = .int (ns.getD k.toNat 0)) := by
  conv => enter [1, 6]; whnf
  conv => enter [3]; whnf
  have hlen : (ns.map PyData.int).length = ns.length := by simp
  refine WP.ite (by walk_at "ev") ?_ ?_
  all_goals rw [hlen]; intro hb; simp at hb
  · exact WP.ret (by walk_at "ev") ⟨_, rfl, rfl⟩
  · refine WP.nil (WP.ret (by walk_at "ev") ⟨_, rfl, ?_⟩)
    rw [List.getD_eq_getElem?_getD, List.getElem?_eq_none (by omega)]; rfl
theorem ev_cell {c : Cx} {σ : List Slot} {F : Nat → Addr} (H : H105 c.G F) {es ek : Expr} {p pos : Pos} {ns : List Int} {k : Int} (hs : EV c σ es (LI ns)) (hi : EV c σ ek (.int k))
    (hk : c.kinds.lookup (PySem.Str.ofString "_law_cell") = some .globalImplicit) (n1 : noStar es = true) (n2 : noStar ek = true) (h1 : 0 ≤ k) (hz : ns.length < 2 ^ 20) (hr : 1 ≤ c.room) :
    EV c σ (.Call (.Name "_law_cell" p) [es, ek] [] pos) (.int (ns.getD k.toNat 0)) :=
  EV.call hk (by decide) H.cell.isFn (EVs.cons hs (EVs.one hi n2) n1) n1 (H.cell.spec (more := []) (n := 0) H.ok rfl fun A env h0 => cell_body H.bis h1 hz) hr

end Mine
end
section
namespace Mine
open PySem PySem.Calls

local macro_rules | `(tactic| walk_at "side") => `(tactic| first | assumption | with_unfolding_all rfl | omega | decide | (simp only [List.length_map, List.length_cons, List.length_nil, List.length_append, List.length_set]; omega) | exact shaped_li _ | exact shaped_t2 _ _ | exact shaped_lt _ | exact Int.emod_nonneg _ (by omega) | exact Int.emod_lt_of_pos _ (by omega) | exact Int.lt_of_lt_of_le (Int.emod_lt_of_pos _ (by omega)) (by omega))
local macro_rules | `(tactic| walk_at "evcall") => `(tactic| fail "no call")
local macro_rules | `(tactic| walk_at "ev") => `(tactic| first
  | with_reducible exact EV.int
  | with_reducible exact EV.bool
  | with_reducible exact EV.str
  | (with_reducible apply EV.var; all_goals with_unfolding_all rfl)
  | (with_reducible apply EV.add; all_goals walk_at "ev")
  | (with_reducible apply EV.sub; all_goals walk_at "ev")
  | (with_reducible apply EV.mul; all_goals walk_at "ev")
  | (with_reducible apply EV.pow; all_goals walk_at "ev")
  | (with_reducible apply EV.modP; all_goals walk_at "ev")
  | (with_reducible apply EV.fdivP; all_goals walk_at "ev")
  | (with_reducible apply EV.neg; all_goals walk_at "ev")
  | (with_reducible apply EV.len'; all_goals walk_at "ev")
  | (with_reducible apply EV.min'; all_goals walk_at "ev")
  | (with_reducible apply EV.max'; all_goals walk_at "ev")
  | (with_reducible apply EV.abs'; all_goals walk_at "ev")
  | (with_reducible apply EV.tuple; all_goals walk_at "ev")
  | (with_reducible apply EV.itemTI; all_goals walk_at "ev")
  | (with_reducible apply EV.itemT; all_goals walk_at "ev")
  | (with_reducible apply EV.itemI; all_goals walk_at "ev")
  | walk_at "evcall"
  | (with_reducible apply EVF.evI; all_goals walk_at "ev")
  | (with_reducible apply EVF.ev; all_goals walk_at "ev")
  | (with_reducible apply EVo.own; all_goals with_unfolding_all rfl)
  | (with_reducible apply EV.evo; all_goals walk_at "ev")
  | with_reducible exact EVs.nil
  | (with_reducible apply EVs.cons; all_goals walk_at "ev")
  | with_reducible exact EVp.none
  | (with_reducible apply EVp.some; all_goals walk_at "ev")
  | (with_reducible apply EVF.listOf; all_goals walk_at "ev")
  | (with_reducible apply EVF.sliceI; all_goals walk_at "ev")
  | (with_reducible apply EVF.catI; all_goals walk_at "ev")
  | (with_reducible apply EVF.list; all_goals walk_at "ev")
  | (with_reducible apply EVF.slice; all_goals walk_at "ev")
  | (with_reducible apply EVF.cat; all_goals walk_at "ev")
  | (with_reducible apply TS.lt; all_goals walk_at "ev")
  | (with_reducible apply TS.gt; all_goals walk_at "ev")
  | (with_reducible apply TS.le; all_goals walk_at "ev")
  | (with_reducible apply TS.ge; all_goals walk_at "ev")
  | (with_reducible apply TS.eq; all_goals walk_at "ev")
  | (with_reducible apply TS.ne; all_goals walk_at "ev")
  | (with_reducible apply TS.not; all_goals walk_at "ev")
  | (with_reducible apply TS.isNot; all_goals walk_at "ev")
  | (with_reducible apply TS.neD; all_goals walk_at "ev")
  | (with_reducible apply TS.eqD; all_goals walk_at "ev")
  | (with_reducible apply TS.val; all_goals walk_at "ev")
  | (with_reducible apply TS.and2; all_goals first | (intro _; walk_at "ev") | walk_at "ev")
  | (with_reducible apply TS.or2; all_goals first | (intro _; walk_at "ev") | walk_at "ev")
  | (with_reducible apply IT.rangeDown'; all_goals walk_at "ev")
  | (with_reducible apply IT.range1'; all_goals walk_at "ev")
  | (with_reducible apply IT.range2'; all_goals walk_at "ev")
  | (with_reducible apply IT.list; all_goals walk_at "ev")
  | (with_reducible apply IT.tuple; all_goals walk_at "ev")
  | walk_at "side")
local macro_rules | `(tactic| walk_at "assign") => `(tactic| (with_reducible apply WP.assign (c := _) (rest := _); all_goals first | with_reducible show WP _ _ _ _ | walk_at "ev"))
local macro_rules | `(tactic| walk_at "assignOwn") => `(tactic| (with_reducible apply WP.assignOwn; all_goals first | with_reducible show WP _ _ _ _ | walk_at "ev"))
local macro_rules | `(tactic| walk_at "append") => `(tactic| first | (with_reducible apply WP.appendI; all_goals first | with_reducible show WP _ _ _ _ | walk_at "ev") | (with_reducible apply WP.append; all_goals first | with_reducible show WP _ _ _ _ | walk_at "ev"))
local macro_rules | `(tactic| walk_at "ret") => `(tactic| (with_reducible apply WP.ret; all_goals first | with_reducible show EV _ _ _ _; walk_at "ev" | skip))
local macro_rules | `(tactic| walk_at "next") => `(tactic| (refine WP.nil ?_; with_unfolding_all show WP _ _ _ _))

local macro_rules | `(tactic| walk_at "appendT") => `(tactic| (with_reducible apply WP.appendT; all_goals first | with_reducible show WP _ _ _ _ | walk_at "ev"))
set_option maxRecDepth 100000 in
theorem isb_body {G : GX} {A : Around} {env : Env} {h0 : Heap} {n : Nat} {ms : List Int} :
    WP ⟨G, A, env, h0, ["data", "b"], kindsAt P105 2, n⟩ [.val (LI ms), .un] (bodyAt P105 2) (fun o => ∃ d, o = .ret d ∧ d = .bool (bytesB ms)) := by
  conv => enter [1, 6]; whnf
  conv => enter [3]; whnf
  refine WP.forIn (fun k σ => ∃ s1 : Slot, σ = [.val (LI ms), s1] ∧ bytesB ms = bytesB (ms.drop k)) (IT.list (by walk_at "ev")) rfl ?_ ?_ ?_
  · exact ⟨_, rfl, rfl⟩
  · rintro k d σ hd ⟨s1, rfl, hk⟩
    rw [List.getElem?_map] at hd
    cases ht : ms[k]? with
    | none => rw [ht] at hd; cases hd
    | some x =>
      rw [ht] at hd; cases hd
      have hdr : ms.drop k = x :: ms.drop (k + 1) := by
        obtain ⟨hlt, e⟩ := List.getElem?_eq_some_iff.mp ht
        rw [List.drop_eq_getElem_cons hlt, e]
      rw [hdr] at hk
      simp only [bytesB, List.all_cons] at hk
      refine ⟨_, TG.name rfl rfl, ?_⟩
      refine WP.ite (by walk_at "ev") ?_ ?_
      · intro hb
        refine WP.ret (by walk_at "ev") ⟨_, rfl, ?_⟩
        have : decide (0 ≤ x ∧ x ≤ 255) = false := by apply decide_eq_false; simp at hb; omega
        rw [show bytesB ms = ms.all fun b => decide (0 ≤ b ∧ b ≤ 255) from rfl, hk, this, Bool.false_and]
      · intro hb
        have : decide (0 ≤ x ∧ x ≤ 255) = true := by apply decide_eq_true; simp at hb; omega
        rw [this, Bool.true_and] at hk
        exact WP.nil (WP.nil ⟨_, rfl, hk⟩)
  · rintro σ ⟨s1, rfl, hk⟩
    refine WP.ret (by walk_at "ev") ⟨_, rfl, ?_⟩
    rw [hk, List.length_map, List.drop_length]; rfl
theorem ev_isb {c : Cx} {σ : List Slot} {F : Nat → Addr} (H : H105 c.G F) {ed : Expr} {p pos : Pos} {ms : List Int} (hd : EV c σ ed (LI ms)) (hk : c.kinds.lookup (PySem.Str.ofString "is_bytes") = some .globalImplicit) (n1 : noStar ed = true) (hr : 1 ≤ c.room) :
    EV c σ (.Call (.Name "is_bytes" p) [ed] [] pos) (.bool (bytesB ms)) :=
  EV.call hk (by decide) H.isb.isFn (EVs.one hd n1) n1 (H.isb.spec (more := ["b"]) (n := 0) H.ok rfl fun A env h0 => isb_body) hr
local macro_rules | `(tactic| walk_at "evcall") => `(tactic| (with_reducible apply ev_isb; all_goals walk_at "ev"))

set_option maxRecDepth 100000 in
theorem s2t_body {G : GX} {F : Nat → Addr} (H : H105 G F) {A : Around} {env : Env} {h0 : Heap} {n : Nat} (hn : 1 ≤ n) {ts : List T} (hf : ∀ t ∈ ts, fine t) (hz : ts.length < 2 ^ 16) :
    WP ⟨G, A, env, h0, ["symbols", "tokens", "k", "args"], kindsAt P105 9, n⟩ [.val (LI (syms ts)), .un, .un, .un] (bodyAt P105 9) (fun o => ∃ d, o = .ret d ∧ d = LT ts) := by
  conv => enter [1, 6]; whnf
  conv => enter [3]; whnf
  have B := H.bis
  have hsl := syms_len ts
  have hlen : ((syms ts).map PyData.int).length = (syms ts).length := by simp
  walk_at "assignOwn"
  walk_at "assign"
  refine WP.while (fun q σ => ∃ (m : Nat) (s1 : Slot), σ = [.val (LI (syms ts)), .own ((ts.take m).map T3), .val (.int (syms (ts.take m)).length), s1] ∧ m ≤ ts.length ∧ q = ts.length - m) ts.length ?_ ?_
  · exact ⟨0, _, rfl, by omega, rfl⟩
  · rintro q σ ⟨m, s1, rfl, hm, rfl⟩
    have htl : (ts.take m).length = m := by rw [List.length_take]; omega
    by_cases hlt : m < ts.length
    · have ht : ts[m]? = some ts[m] := List.getElem?_eq_getElem hlt
      have hff := hf _ (List.getElem_mem hlt)
      generalize ts[m] = t at ht hff
      have hat := syms_at [] ht
      rw [List.append_nil, List.append_nil] at hat
      have htk : ts.take (m + 1) = ts.take m ++ [t] := by rw [List.take_add_one, ht]; rfl
      have hsy : syms (ts.take (m + 1)) = syms (ts.take m) ++ sym1 t := by rw [htk, syms_append]; simp [syms]
      have hkl : (syms (ts.take m)).length + (sym1 t).length ≤ (syms ts).length := by
        have := congrArg List.length hat
        simp only [List.length_drop, List.length_append] at this
        have h1 : 1 ≤ (sym1 t).length := by unfold sym1; split <;> simp
        omega
      have h1 : 1 ≤ (sym1 t).length := by unfold sym1; split <;> simp
      have hg : ∀ i, (syms ts).getD ((syms (ts.take m)).length + i) 0 = (sym1 t ++ syms (ts.drop (m + 1))).getD i 0 := fun i => by rw [← getD_drop, hat]
      generalize hkk : (syms (ts.take m)).length = kk at *
      refine ⟨true, ?_, ?_, fun hb => by cases hb⟩
      · have : decide ((kk : Int) < (((syms ts).map PyData.int).length : Nat)) = true := by simp; omega
        rw [← this]
        walk_at "ev"
      intro _
      obtain ⟨a, v, l⟩ := t
      rcases hff with ⟨ha, hv, hl⟩ | ⟨ha, hv0, hv1, hl0, hl1⟩
      · simp only at ha hv hl
        subst ha; subst hl
        have es : sym1 (0, v, 0) = [v] := rfl
        rw [es] at hg hsy hkl
        simp only [List.length_cons, List.length_nil] at hkl
        have g0 := hg 0
        simp only [Nat.add_zero, List.cons_append, List.getD_cons_zero] at g0
        refine WP.ite (by walk_at "ev") ?_ ?_
        · intro _
          walk_at "appendT"
          walk_at "assign"
          rw [Int.toNat_natCast, g0]
          refine WP.nil (WP.nil ⟨ts.length - (m + 1), by omega, m + 1, s1, ?_, by omega, rfl⟩)
          rw [hsy, htk, List.length_append, hkk]
          rfl
        · rw [Int.toNat_natCast, g0]
          intro hb; simp at hb; omega
      · simp only at ha hv0 hv1 hl0 hl1
        subst ha
        have es : sym1 (1, v, l) = [256, v / 256, v % 256, l] := rfl
        rw [es] at hg hsy hkl
        simp only [List.length_cons, List.length_nil] at hkl
        have g0 := hg 0
        simp only [Nat.add_zero, List.cons_append, List.getD_cons_zero] at g0
        have hcut : cut (some ((kk : Int) + 1)) (some ((kk : Int) + 4)) (syms ts) = [v / 256, v % 256, l] := by
          rw [show (kk : Int) + 1 = ((kk + 1 : Nat) : Int) by omega, show (kk : Int) + 4 = ((kk + 4 : Nat) : Int) by omega, cut_nat, ← List.drop_drop, hat, es]
          simp
        refine WP.ite (by walk_at "ev") ?_ ?_
        · rw [Int.toNat_natCast, g0]
          intro hb; simp at hb
        · intro _
          refine WP.assign rfl rfl rfl (EVF.evI (EVF.sliceI' (EV.evo (by walk_at "ev")) (EVp.some (by walk_at "ev")) (EVp.some (by walk_at "ev")) (by omega) hcut)) ?_
          refine WP.ite (TS.or2 (by walk_at "ev") fun _ => TS.not (TS.val (by walk_at "ev") rfl)) ?_ ?_
          · have : bytesB [v / 256, v % 256, l] = true := by
              simp only [bytesB, List.all_cons, List.all_nil, Bool.and_true, Bool.and_eq_true]
              refine ⟨decide_eq_true (by omega), decide_eq_true (by omega), decide_eq_true (by omega)⟩
            rw [this]; intro hb; simp at hb
          · intro _
            walk_at "next"
            walk_at "appendT"
            walk_at "assign"
            have e1 : ([v / 256, v % 256, l] : List Int).getD (0 : Int).toNat 0 * 256 + ([v / 256, v % 256, l] : List Int).getD (1 : Int).toNat 0 = v := by
              show v / 256 * 256 + v % 256 = v
              omega
            rw [e1]
            refine WP.nil (WP.nil ⟨ts.length - (m + 1), by omega, m + 1, .val (LI [v / 256, v % 256, l]), ?_, by omega, rfl⟩)
            rw [hsy, htk, List.length_append, hkk]
            rfl
    · have hm' : m = ts.length := by omega
      subst hm'
      rw [List.take_length]
      refine ⟨false, ?_, fun hb => by (cases hb), fun _ => ?_⟩
      · have : decide (((syms ts).length : Int) < (((syms ts).map PyData.int).length : Nat)) = false := by simp
        rw [← this]
        walk_at "ev"
      · refine WP.freeze 1 rfl ?_
        exact WP.ret (by walk_at "ev") ⟨_, rfl, rfl⟩
theorem ev_s2t {c : Cx} {σ : List Slot} {F : Nat → Addr} (H : H105 c.G F) {ed : Expr} {p pos : Pos} {ts : List T} (hd : EV c σ ed (LI (syms ts))) (hk : c.kinds.lookup (PySem.Str.ofString "symbols_to_tokens") = some .globalImplicit) (n1 : noStar ed = true) (hf : ∀ t ∈ ts, fine t) (hz : ts.length < 2 ^ 16) (hr : 2 ≤ c.room) :
    EV c σ (.Call (.Name "symbols_to_tokens" p) [ed] [] pos) (LT ts) :=
  EV.call hk (by decide) H.s2t.isFn (EVs.one hd n1) n1 (H.s2t.spec (more := ["tokens", "k", "args"]) (n := 1) H.ok rfl fun A env h0 => s2t_body H (by omega) hf hz) hr

set_option maxRecDepth 100000 in
theorem s2t_raise {G : GX} {F : Nat → Addr} (H : H105 G F) {A : Around} {env : Env} {h0 : Heap} {n : Nat} (hn : 1 ≤ n) {ts : List T} {e : List Int} (hf : ∀ t ∈ ts, fine t) (hz : ts.length < 2 ^ 16) (he : badEnd e) (hez : e.length < 2 ^ 16) :
    WX ⟨G, A, env, h0, ["symbols", "tokens", "k", "args"], kindsAt P105 9, n⟩ [.val (LI (syms ts ++ e)), .un, .un, .un] (bodyAt P105 9) (.ref (F 1)) := by
  conv => enter [1, 6]; whnf
  conv => enter [3]; whnf
  have B := H.bis
  have hsl := syms_len ts
  have hlen : ((syms ts ++ e).map PyData.int).length = (syms ts).length + e.length := by simp
  have hlen' : (syms ts ++ e).length = (syms ts).length + e.length := by simp
  refine WX.seq ?_
  refine WP.assignOwn rfl rfl rfl (by walk_at "ev") (WP.nil ⟨_, rfl, ?_⟩)
  refine WX.seq ?_
  refine WP.assign rfl rfl rfl (by walk_at "ev") (WP.nil ⟨_, rfl, ?_⟩)
  refine WX.while (fun q σ => ∃ (m : Nat) (s1 : Slot), σ = [.val (LI (syms ts ++ e)), .own ((ts.take m).map T3), .val (.int (syms (ts.take m)).length), s1] ∧ m ≤ ts.length ∧ q = ts.length - m) ts.length ?_ ?_
  · exact ⟨0, _, rfl, by omega, rfl⟩
  · rintro q σ ⟨m, s1, rfl, hm, rfl⟩
    have htl : (ts.take m).length = m := by rw [List.length_take]; omega
    by_cases hlt : m < ts.length
    · have ht : ts[m]? = some ts[m] := List.getElem?_eq_getElem hlt
      have hff := hf _ (List.getElem_mem hlt)
      generalize ts[m] = t at ht hff
      have hat := syms_at e ht
      have htk : ts.take (m + 1) = ts.take m ++ [t] := by rw [List.take_add_one, ht]; rfl
      have hsy : syms (ts.take (m + 1)) = syms (ts.take m) ++ sym1 t := by rw [htk, syms_append]; simp [syms]
      have h1 : 1 ≤ (sym1 t).length := by unfold sym1; split <;> simp
      have hkl : (syms (ts.take m)).length + (sym1 t).length ≤ (syms ts).length + e.length := by
        have := congrArg List.length hat
        simp only [List.length_drop, List.length_append] at this
        omega
      have hg : ∀ i, (syms ts ++ e).getD ((syms (ts.take m)).length + i) 0 = (sym1 t ++ (syms (ts.drop (m + 1)) ++ e)).getD i 0 := fun i => by rw [← getD_drop, hat]
      generalize hkk : (syms (ts.take m)).length = kk at *
      refine ⟨?_, .inr ?_⟩
      · have : decide ((kk : Int) < (((syms ts ++ e).map PyData.int).length : Nat)) = true := by rw [hlen]; apply decide_eq_true; omega
        rw [← this]
        walk_at "ev"
      obtain ⟨a, v, l⟩ := t
      rcases hff with ⟨ha, hv, hl⟩ | ⟨ha, hv0, hv1, hl0, hl1⟩
      · simp only at ha hv hl
        subst ha; subst hl
        have es : sym1 (0, v, 0) = [v] := rfl
        rw [es] at hg hsy hkl
        simp only [List.length_cons, List.length_nil] at hkl
        have g0 := hg 0
        simp only [Nat.add_zero, List.cons_append, List.getD_cons_zero] at g0
        refine WP.ite (by walk_at "ev") ?_ ?_
        · intro _
          walk_at "appendT"
          walk_at "assign"
          rw [Int.toNat_natCast, g0]
          refine WP.nil (WP.nil ⟨_, ts.length - (m + 1), rfl, by omega, m + 1, s1, ?_, by omega, rfl⟩)
          rw [hsy, htk, List.length_append, hkk]
          rfl
        · rw [Int.toNat_natCast, g0]
          intro hb; simp at hb; omega
      · simp only at ha hv0 hv1 hl0 hl1
        subst ha
        have es : sym1 (1, v, l) = [256, v / 256, v % 256, l] := rfl
        rw [es] at hg hsy hkl
        simp only [List.length_cons, List.length_nil] at hkl
        have g0 := hg 0
        simp only [Nat.add_zero, List.cons_append, List.getD_cons_zero] at g0
        have hcut : cut (some ((kk : Int) + 1)) (some ((kk : Int) + 4)) (syms ts ++ e) = [v / 256, v % 256, l] := by
          rw [show (kk : Int) + 1 = ((kk + 1 : Nat) : Int) by omega, show (kk : Int) + 4 = ((kk + 4 : Nat) : Int) by omega, cut_nat, ← List.drop_drop, hat, es]
          simp
        refine WP.ite (by walk_at "ev") ?_ ?_
        · rw [Int.toNat_natCast, g0]
          intro hb; simp at hb
        · intro _
          refine WP.assign rfl rfl rfl (EVF.evI (EVF.sliceI' (EV.evo (by walk_at "ev")) (EVp.some (by walk_at "ev")) (EVp.some (by walk_at "ev")) (by omega) hcut)) ?_
          refine WP.ite (TS.or2 (by walk_at "ev") fun _ => TS.not (TS.val (by walk_at "ev") rfl)) ?_ ?_
          · have : bytesB [v / 256, v % 256, l] = true := by
              simp only [bytesB, List.all_cons, List.all_nil, Bool.and_true, Bool.and_eq_true]
              refine ⟨decide_eq_true (by omega), decide_eq_true (by omega), decide_eq_true (by omega)⟩
            rw [this]; intro hb; simp at hb
          · intro _
            walk_at "next"
            walk_at "appendT"
            walk_at "assign"
            have e1 : ([v / 256, v % 256, l] : List Int).getD (0 : Int).toNat 0 * 256 + ([v / 256, v % 256, l] : List Int).getD (1 : Int).toNat 0 = v := by
              show v / 256 * 256 + v % 256 = v
              omega
            rw [e1]
            refine WP.nil (WP.nil ⟨_, ts.length - (m + 1), rfl, by omega, m + 1, .val (LI [v / 256, v % 256, l]), ?_, by omega, rfl⟩)
            rw [hsy, htk, List.length_append, hkk]
            rfl
    · have hm' : m = ts.length := by omega
      subst hm'
      rw [List.take_length]
      obtain ⟨r, rfl, hr⟩ := he
      have hdrop : (syms ts ++ 256 :: r).drop (syms ts).length = 256 :: r := List.drop_left
      have hg0 : (syms ts ++ 256 :: r).getD (syms ts).length 0 = 256 := by
        have := getD_drop (syms ts ++ 256 :: r) (syms ts).length 0
        rw [hdrop] at this
        simpa using this.symm
      have hcut : cut (some (((syms ts).length : Int) + 1)) (some (((syms ts).length : Int) + 4)) (syms ts ++ 256 :: r) = r.take 3 := by
        rw [show ((syms ts).length : Int) + 1 = (((syms ts).length + 1 : Nat) : Int) by omega, show ((syms ts).length : Int) + 4 = (((syms ts).length + 4 : Nat) : Int) by omega, cut_nat, ← List.drop_drop, hdrop]
        simp
      simp only [List.length_cons] at hez hlen hlen'
      refine ⟨?_, .inl ?_⟩
      · have : decide (((syms ts).length : Int) < (((syms ts ++ 256 :: r).map PyData.int).length : Nat)) = true := by rw [hlen]; apply decide_eq_true; omega
        rw [← this]
        walk_at "ev"
      refine WX.ite (by walk_at "ev") ?_ ?_
      · rw [Int.toNat_natCast, hg0]
        intro hb; simp at hb
      intro _
      refine WX.seq ?_
      refine WP.assign rfl rfl rfl (EVF.evI (EVF.sliceI' (EV.evo (by walk_at "ev")) (EVp.some (by walk_at "ev")) (EVp.some (by walk_at "ev")) (by omega) hcut)) (WP.nil ⟨_, rfl, ?_⟩)
      have ht3 : (r.take 3).length ≤ 3 := by rw [List.length_take]; omega
      refine WX.ite (TS.or2 (by walk_at "ev") fun _ => TS.not (TS.val (by walk_at "ev") rfl)) ?_ ?_
      · intro _
        exact WX.raise H.fe (by walk_at "ev") rfl rfl (by decide)
      · intro hb
        exfalso
        simp only [List.length_map, Bool.or_eq_false_iff, decide_eq_false_iff_not, Bool.not_eq_false'] at hb
        rcases hr with hr | hr
        · omega
        · rw [hr] at hb; exact absurd hb.2 (by decide)
theorem s2t_raises {G : GX} {F : Nat → Addr} (H : H105 G F) {ts : List T} {e : List Int} (hf : ∀ t ∈ ts, fine t) (hz : ts.length < 2 ^ 16) (he : badEnd e) (hez : e.length < 2 ^ 16) : FnRaise G (F 9) [LI (syms ts ++ e)] (.ref (F 1)) 2 :=
  H.s2t.raise (more := ["tokens", "k", "args"]) (n := 1) H.ok rfl fun A env h0 => s2t_raise H (by omega) hf hz he hez

local macro_rules | `(tactic| walk_at "evcall") => `(tactic| first | (with_reducible apply ev_s2t; all_goals walk_at "ev") | (with_reducible apply ev_expand; all_goals walk_at "ev"))
set_option maxRecDepth 100000 in
theorem ev_ltok {c : Cx} {σ : List Slot} {F : Nat → Addr} (H : H105 c.G F) {ed : Expr} {p pos : Pos} {ts : List T} (hd : EV c σ ed (LI (syms ts))) (hk : c.kinds.lookup (PySem.Str.ofString "_law_tokens") = some .globalImplicit) (n1 : noStar ed = true) (hf : ∀ t ∈ ts, fine t) (hz : ts.length < 2 ^ 16) (hr : 3 ≤ c.room) :
    EV c σ (.Call (.Name "_law_tokens" p) [ed] [] pos) (LT ts) := by
  refine EV.call hk (by decide) H.ltok.isFn (EVs.one hd n1) n1 (H.ltok.spec (more := []) (n := 2) H.ok rfl fun A env h0 => ?_) hr
  show WP ⟨c.G, A, env, h0, ["symbols"], kindsAt P105 17, 2⟩ [.val (LI (syms ts))] (bodyAt P105 17) _
  conv => enter [1, 6]; whnf
  conv => enter [3]; whnf
  exact WP.tryOk (WP.ret (by walk_at "ev") ⟨_, rfl, rfl⟩)
set_option maxRecDepth 100000 in
theorem ev_lexp {c : Cx} {σ : List Slot} {F : Nat → Addr} (H : H105 c.G F) {ed : Expr} {p pos : Pos} {ts : List T} (hd : EV c σ ed (LT ts)) (hk : c.kinds.lookup (PySem.Str.ofString "_law_expand") = some .globalImplicit) (n1 : noStar ed = true) (hok : okT ts 0 = true) (hz : tot ts ≤ 2 ^ 18) (hr : 3 ≤ c.room) :
    EV c σ (.Call (.Name "_law_expand" p) [ed] [] pos) (LI (expand ts [])) := by
  refine EV.call hk (by decide) H.lexp.isFn (EVs.one hd n1) n1 (H.lexp.spec (more := []) (n := 2) H.ok rfl fun A env h0 => ?_) hr
  show WP ⟨c.G, A, env, h0, ["tokens"], kindsAt P105 16, 2⟩ [.val (LT ts)] (bodyAt P105 16) _
  conv => enter [1, 6]; whnf
  conv => enter [3]; whnf
  exact WP.tryOk (WP.ret (by walk_at "ev") ⟨_, rfl, rfl⟩)
set_option maxRecDepth 100000 in
theorem ltok_refuses {G : GX} {F : Nat → Addr} (H : H105 G F) {ts : List T} {e : List Int} (hf : ∀ t ∈ ts, fine t) (hz : ts.length < 2 ^ 16) (he : badEnd e) (hez : e.length < 2 ^ 16) : FnSpecF G (F 17) [LI (syms ts ++ e)] (.str (PySem.Str.ofString "refused")) 3 :=
  H.ltok.catch (more := []) (n := 2) H.ok rfl rfl H.fe rfl (by decide) fun A env h0 => WE.ret (EVX.call rfl (by decide) H.s2t.isFn (EVs.one (EV.var (i := 0) rfl rfl rfl) rfl) rfl (s2t_raises H hf hz he hez) (Nat.le_refl _))
set_option maxRecDepth 100000 in
theorem lexp_refuses {G : GX} {F : Nat → Addr} (H : H105 G F) {ts : List T} (hok : okT ts 0 = false) : FnSpecF G (F 16) [LT ts] (.str (PySem.Str.ofString "refused")) 3 :=
  H.lexp.catch (more := []) (n := 2) H.ok rfl rfl H.fe rfl (by decide) fun A env h0 => WE.ret (EVX.call rfl (by decide) H.exp.isFn (EVs.one (EV.var (i := 0) rfl rfl rfl) rfl) rfl (expand_raises H hok) (Nat.le_refl _))
end Mine
end
section
namespace Mine
open PySem PySem.Calls

local macro_rules | `(tactic| walk_at "side") => `(tactic| first | assumption | with_unfolding_all rfl | omega | decide | (simp only [List.length_map, List.length_cons, List.length_nil, List.length_append, List.length_set]; omega) | exact shaped_li _ | exact shaped_t2 _ _ | exact shaped_lt _ | exact Int.emod_nonneg _ (by omega) | exact Int.emod_lt_of_pos _ (by omega) | exact Int.lt_of_lt_of_le (Int.emod_lt_of_pos _ (by omega)) (by omega))
local macro_rules | `(tactic| walk_at "evcall") => `(tactic| fail "no call")
local macro_rules | `(tactic| walk_at "ev") => `(tactic| first
  | with_reducible exact EV.int
  | with_reducible exact EV.bool
  | with_reducible exact EV.str
  | (with_reducible apply EV.var; all_goals with_unfolding_all rfl)
  | (with_reducible apply EV.add; all_goals walk_at "ev")
  | (with_reducible apply EV.sub; all_goals walk_at "ev")
  | (with_reducible apply EV.mul; all_goals walk_at "ev")
  | (with_reducible apply EV.pow; all_goals walk_at "ev")
  | (with_reducible apply EV.modP; all_goals walk_at "ev")
  | (with_reducible apply EV.fdivP; all_goals walk_at "ev")
  | (with_reducible apply EV.neg; all_goals walk_at "ev")
  | (with_reducible apply EV.len'; all_goals walk_at "ev")
  | (with_reducible apply EV.min'; all_goals walk_at "ev")
  | (with_reducible apply EV.max'; all_goals walk_at "ev")
  | (with_reducible apply EV.abs'; all_goals walk_at "ev")
  | (with_reducible apply EV.tuple; all_goals walk_at "ev")
  | (with_reducible apply EV.itemTI; all_goals walk_at "ev")
  | (with_reducible apply EV.itemT; all_goals walk_at "ev")
  | (with_reducible apply EV.itemI; all_goals walk_at "ev")
  | walk_at "evcall"
  | (with_reducible apply EVF.evI; all_goals walk_at "ev")
  | (with_reducible apply EVF.ev; all_goals walk_at "ev")
  | (with_reducible apply EVo.own; all_goals with_unfolding_all rfl)
  | (with_reducible apply EV.evo; all_goals walk_at "ev")
  | with_reducible exact EVs.nil
  | (with_reducible apply EVs.cons; all_goals walk_at "ev")
  | with_reducible exact EVp.none
  | (with_reducible apply EVp.some; all_goals walk_at "ev")
  | (with_reducible apply EVF.listOf; all_goals walk_at "ev")
  | (with_reducible apply EVF.sliceI; all_goals walk_at "ev")
  | (with_reducible apply EVF.catI; all_goals walk_at "ev")
  | (with_reducible apply EVF.list; all_goals walk_at "ev")
  | (with_reducible apply EVF.slice; all_goals walk_at "ev")
  | (with_reducible apply EVF.cat; all_goals walk_at "ev")
  | (with_reducible apply TS.lt; all_goals walk_at "ev")
  | (with_reducible apply TS.gt; all_goals walk_at "ev")
  | (with_reducible apply TS.le; all_goals walk_at "ev")
  | (with_reducible apply TS.ge; all_goals walk_at "ev")
  | (with_reducible apply TS.eq; all_goals walk_at "ev")
  | (with_reducible apply TS.ne; all_goals walk_at "ev")
  | (with_reducible apply TS.not; all_goals walk_at "ev")
  | (with_reducible apply TS.isNot; all_goals walk_at "ev")
  | (with_reducible apply TS.neD; all_goals walk_at "ev")
  | (with_reducible apply TS.eqD; all_goals walk_at "ev")
  | (with_reducible apply TS.val; all_goals walk_at "ev")
  | (with_reducible apply TS.and2; all_goals first | (intro _; walk_at "ev") | walk_at "ev")
  | (with_reducible apply TS.or2; all_goals first | (intro _; walk_at "ev") | walk_at "ev")
  | (with_reducible apply IT.rangeDown'; all_goals walk_at "ev")
  | (with_reducible apply IT.range1'; all_goals walk_at "ev")
  | (with_reducible apply IT.range2'; all_goals walk_at "ev")
  | (with_reducible apply IT.list; all_goals walk_at "ev")
  | (with_reducible apply IT.tuple; all_goals walk_at "ev")
  | walk_at "side")
local macro_rules | `(tactic| walk_at "assign") => `(tactic| (with_reducible apply WP.assign (c := _) (rest := _); all_goals first | with_reducible show WP _ _ _ _ | walk_at "ev"))
local macro_rules | `(tactic| walk_at "assignOwn") => `(tactic| (with_reducible apply WP.assignOwn; all_goals first | with_reducible show WP _ _ _ _ | walk_at "ev"))
local macro_rules | `(tactic| walk_at "append") => `(tactic| first | (with_reducible apply WP.appendI; all_goals first | with_reducible show WP _ _ _ _ | walk_at "ev") | (with_reducible apply WP.append; all_goals first | with_reducible show WP _ _ _ _ | walk_at "ev"))
local macro_rules | `(tactic| walk_at "ret") => `(tactic| (with_reducible apply WP.ret; all_goals first | with_reducible show EV _ _ _ _; walk_at "ev" | skip))
local macro_rules | `(tactic| walk_at "next") => `(tactic| (refine WP.nil ?_; with_unfolding_all show WP _ _ _ _))

local macro_rules | `(tactic| walk_at "appendT") => `(tactic| (with_reducible apply WP.appendT; all_goals first | with_reducible show WP _ _ _ _ | walk_at "ev"))
theorem TS.is {c : Cx} {σ : List Slot} {e : Expr} {b b' : Bool} (h : TS c σ e b) (hb : b = b') : TS c σ e b' := hb ▸ h
theorem flat_map10 (n : Nat) (l : List Int) : (List.replicate n (l.map PyData.int)).flatten = ((List.replicate n l).flatten).map PyData.int := by
  rw [List.map_flatten, List.map_replicate]
theorem flat_len (n : Nat) (l : List Int) : ((List.replicate n l).flatten).length = n * l.length := by simp
theorem pow3 : ∀ n : Nat, n < 8 → 0 < (3 : Int) ^ n ∧ (3 : Int) ^ n < 1073741824 := by decide

set_option maxRecDepth 100000 in
theorem piece_body {G : GX} {F : Nat → Addr} (H : H105 G F) {A : Around} {env : Env} {h0 : Heap} {n : Nat} {ds : List Int} {kind a b : Int} (hz : ds.length ≤ 60) :
    WP ⟨G, A, env, h0, ["data", "kind", "a", "b"], kindsAt P105 12, n⟩ [.val (LI ds), .val (.int kind), .val (.int a), .val (.int b)] (bodyAt P105 12) (fun o => ∃ d, o = .ret d ∧ d = LI (piece ds kind a b)) := by
  conv => enter [1, 6]; whnf
  conv => enter [3]; whnf
  have B := H.bis
  refine WP.ite (by walk_at "ev") ?_ ?_
  · intro hb
    have hb : kind = 1 := by simpa using hb
    refine WP.ret (EVF.evI (EVF.comp' (ys := (piece ds kind a b).map PyData.int) (xs := List.range (2 + b % 5 - 0).toNat) (ι := fun (i : Nat) => PyData.int (0 + i)) (f := fun (i : Nat) => PyData.int (([0, 4, 255] : List Int).getD (a % 729 / 3 ^ (0 + (i : Int)).toNat % 3).toNat 0)) (fr := [("a", _)])
      (show IT _ _ _ (rng 0 (2 + b % 5)) by walk_at "ev") ⟨rfl, rfl, by decide, rfl, (by show (["k", "a"] : List Str).Nodup; decide), rfl, ⟨⟨_, rfl, rfl, rfl, rfl⟩, trivial⟩⟩ rfl rfl (by simp; omega) ?_ ?_)) ⟨_, rfl, rfl⟩
    · intro env' i hi
      have hi' : i < 7 := by have := List.mem_range.mp hi; omega
      have hp := pow3 i (by omega)
      have e0 : (0 + (i : Int)).toNat = i := by omega
      rw [← e0] at hp
      have hp1 := hp.1
      have hp2 := hp.2
      refine EV.itemT (xs := [.int 0, .int 4, .int 255]) (i := a % 729 / 3 ^ (0 + (i : Int)).toNat % 3) (by walk_at "ev") (by walk_at "ev") rfl (by omega) (by omega) ?_
      have : a % 729 / 3 ^ (0 + (i : Int)).toNat % 3 = 0 ∨ a % 729 / 3 ^ (0 + (i : Int)).toNat % 3 = 1 ∨ a % 729 / 3 ^ (0 + (i : Int)).toNat % 3 = 2 := by omega
      rcases this with q | q | q <;> rw [q] <;> rfl
    · unfold piece
      rw [if_pos hb, List.map_map, show (2 + b % 5 - 0).toNat = (2 + b % 5).toNat by omega]
      apply List.map_congr_left
      intro i _
      simp only [Function.comp]
      rw [show (0 + (i : Int)).toNat = i by omega]
  intro hb
  have hk1 : kind ≠ 1 := by simpa using hb
  walk_at "next"
  refine WP.ite (TS.or2 (by walk_at "ev") fun _ => TS.eqD (db := LI []) (by walk_at "ev") (EVF.ev (EVF.list EVs.nil (by simp))) rfl (shaped_li _) (shaped_li _)) ?_ ?_
  · rw [eqv_li]
    intro hb
    have hb : kind = 0 ∨ ds = [] := by simpa using hb
    refine WP.ret (EVF.evI (EVF.comp' (ys := (piece ds kind a b).map PyData.int) (xs := List.range (1 + b % 6 - 0).toNat) (ι := fun (i : Nat) => PyData.int (0 + i)) (f := fun (i : Nat) => PyData.int ((a % 256 + (0 + (i : Int))) % 256)) (fr := [("a", _)])
      (show IT _ _ _ (rng 0 (1 + b % 6)) by walk_at "ev") ⟨rfl, rfl, by decide, rfl, (by show (["k", "a"] : List Str).Nodup; decide), rfl, ⟨⟨_, rfl, rfl, rfl, rfl⟩, trivial⟩⟩ rfl rfl (by simp; omega) (fun env' i hi => by walk_at "ev") ?_)) ⟨_, rfl, rfl⟩
    unfold piece
    rw [if_neg hk1, if_pos hb, List.map_map, show (1 + b % 6 - 0).toNat = (1 + b % 6).toNat by omega]
    apply List.map_congr_left
    intro i _
    simp only [Function.comp, Int.zero_add]
  rw [eqv_li]
  intro hb
  have hk2 : ¬ (kind = 0 ∨ ds = []) := by simpa using hb
  walk_at "next"
  refine WP.ite (by walk_at "ev") ?_ ?_
  · intro hb
    have hb : kind = 2 := by simpa using hb
    have hcl : (cut (some (-1 - a % 4)) none ds).length ≤ 60 := by
      unfold cut
      rw [List.length_take, List.length_drop]; omega
    refine WP.ret (EVF.evI (EVF.sliceI' (ns := (List.replicate 10 (cut (some (-1 - a % 4)) none ds)).flatten) (EV.evo (EVF.ev (EVF.is (EVF.mul (xs := (cut (some (-1 - a % 4)) none ds).map PyData.int) (n := 10) (EV.evo (EVF.ev (EVF.sliceI (EV.evo (by walk_at "ev")) (EVp.some (by walk_at "ev")) EVp.none (by omega)))) (by walk_at "ev") (by decide) (by rw [List.length_map, show Int.toNat 10 = 10 from rfl]; omega) (by decide)) (flat_map10 10 _)))) EVp.none (EVp.some (by walk_at "ev")) (by rw [flat_len]; omega) rfl)) ⟨_, rfl, ?_⟩
    unfold piece
    rw [if_neg hk1, if_neg hk2, if_pos hb]
  · intro hb
    have hb : kind ≠ 2 := by simpa using hb
    walk_at "next"
    refine WP.ret (EVF.evI (EVF.sliceI' (EV.evo (by walk_at "ev")) (EVp.some (by walk_at "ev")) (EVp.some (by walk_at "ev")) (by omega) rfl)) ⟨_, rfl, ?_⟩
    unfold piece
    rw [if_neg hk1, if_neg hk2, if_neg hb]
theorem ev_piece {c : Cx} {σ : List Slot} {F : Nat → Addr} (H : H105 c.G F) {ed ek ea eb : Expr} {p pos : Pos} {ds : List Int} {kind a b : Int} (hd : EV c σ ed (LI ds)) (hk' : EV c σ ek (.int kind)) (ha : EV c σ ea (.int a)) (hb : EV c σ eb (.int b))
    (hk : c.kinds.lookup (PySem.Str.ofString "_law_piece") = some .globalImplicit) (n1 : noStar ed = true) (n2 : noStar ek = true) (n3 : noStar ea = true) (n4 : noStar eb = true) (hz : ds.length ≤ 60) (hr : 1 ≤ c.room) :
    EV c σ (.Call (.Name "_law_piece" p) [ed, ek, ea, eb] [] pos) (LI (piece ds kind a b)) :=
  EV.call hk (by decide) H.piece.isFn (EVs.cons hd (EVs.cons hk' (EVs.cons ha (EVs.one hb n4) n3) n2) n1) n1 (H.piece.spec (more := []) (n := 0) H.ok rfl fun A env h0 => piece_body H hz) hr

def nearL (ns : List Int) (j t n : Nat) : List Nat := (List.range j).filter fun i => decide (n ≤ run ns (j - (i + 1)) j t)
theorem nearL_nil {ns : List Int} {j t n : Nat} (h : nearL ns j t n = []) : ∀ d, 1 ≤ d → d ≤ j → run ns (j - d) j t < n := by
  intro d h1 h2
  have := List.filter_eq_nil_iff.mp h (d - 1) (List.mem_range.mpr (by omega))
  rw [show d - 1 + 1 = d by omega] at this
  simpa using this
theorem nearL_head {ns : List Int} {j t n i : Nat} {r : List Nat} (h : nearL ns j t n = i :: r) : i < j ∧ n ≤ run ns (j - (i + 1)) j t ∧ ∀ e, 1 ≤ e → e < i + 1 → run ns (j - e) j t < n := by
  have h1 : (nearL ns j t n).head? = some i := by rw [h]; rfl
  unfold nearL at h1
  rw [List.head?_filter, List.find?_range_eq_some] at h1
  obtain ⟨h1, h2, h3⟩ := h1
  refine ⟨List.mem_range.mp h2, by simpa using h1, fun e he1 he2 => ?_⟩
  have := h3 (e - 1) (by omega)
  rw [show e - 1 + 1 = e by omega] at this
  simpa using this

set_option maxRecDepth 100000 in
theorem lbest_body {G : GX} {F : Nat → Addr} (H : H105 G F) {A : Around} {env : Env} {h0 : Heap} {m : Nat} {ns : List Int} {j : Nat} (hj : j < ns.length) (hz : ns.length ≤ 24) :
    WP ⟨G, A, env, h0, ["data", "j", "best", "n", "near"], kindsAt P105 13, m⟩ [.val (LI ns), .val (.int j), .un, .un, .un] (bodyAt P105 13) (fun o => ∃ d, o = .ret d ∧ d = T3 (tok ns 65535 255 j).1) := by
  conv => enter [1, 6]; whnf
  conv => enter [3]; whnf
  have B := H.bis
  have hlen : (ns.map PyData.int).length = ns.length := by simp
  have ew : (min (65535 : Int) j).toNat = j := by omega
  have et : (min (255 : Int) ((ns.length : Int) - j)).toNat = ns.length - j := by omega
  generalize ht : ns.length - j = t at et
  have none_tok : (∀ d, 1 ≤ d → d ≤ j → run ns (j - d) j t ≤ 3) → (tok ns 65535 255 j).1 = (0, ns.getD j 0, 0) := fun h => by
    rw [tok_none (by rw [ew, et]; exact h)]
  have some_tok : ∀ d n : Nat, 3 < n → 1 ≤ d → d ≤ j → run ns (j - d) j t = n → (∀ e, 1 ≤ e → e < d → run ns (j - e) j t < n) → (∀ e, 1 ≤ e → e ≤ j → run ns (j - e) j t ≤ n) → (tok ns 65535 255 j).1 = (1, (d : Int), (n : Int)) := by
    intro d n h3 h1 h2 hr hb ha
    unfold tok
    rw [ew, et, best_eq h3 h1 hr hb h2 ha, if_pos (by simp only; omega)]
  walk_at "assign"
  rw [Int.toNat_natCast]
  refine WP.forIn (fun k σ => ∃ (bt : T) (s1 s2 : Slot), σ = [.val (LI ns), .val (.int j), .val (T3 bt), s1, s2] ∧ ((k = 0 ∧ bt = (0, ns.getD j 0, 0)) ∨ (1 ≤ k ∧ ∃ d : Nat, bt = (1, (d : Int), ((3 + k : Nat) : Int)) ∧ 1 ≤ d ∧ d ≤ j ∧ 3 + k ≤ run ns (j - d) j t ∧ ∀ e, 1 ≤ e → e < d → run ns (j - e) j t < 3 + k))) (by walk_at "ev") rfl ?_ ?_ ?_
  · exact ⟨_, _, _, rfl, .inl ⟨rfl, rfl⟩⟩
  · rintro k d σ hd ⟨bt, s1, s2, rfl, hk⟩
    obtain ⟨rfl, hkt⟩ := rng_get hd
    rw [hlen] at hkt
    rw [show (4 + (k : Int)) = ((4 + k : Nat) : Int) by omega]
    have hkt' : 4 + k ≤ t := by omega
    refine ⟨_, TG.name rfl rfl, ?_⟩
    refine WP.assignCompI (xs := List.range ((j : Int) + 1 - 1).toNat) (ι := fun (i : Nat) => PyData.int (1 + i)) (p := fun i => decide (4 + k ≤ run ns (j - (i + 1)) j t)) (f := fun (i : Nat) => PyData.int (1 + i)) (fr := [("data", _), ("j", _), ("n", _)]) rfl rfl rfl rfl rfl
      (show IT _ _ _ (rng 1 ((j : Int) + 1)) by walk_at "ev") ⟨rfl, rfl, by decide, rfl, (by show (["d", "data", "j", "n"] : List Str).Nodup; decide), rfl, ⟨⟨_, rfl, rfl, rfl, rfl⟩, ⟨_, rfl, rfl, rfl, rfl⟩, ⟨_, rfl, rfl, rfl, rfl⟩, trivial⟩⟩ rfl rfl (by simp; omega) ?_ (fun env' i hi _ => by walk_at "ev") ?_
    · intro env' i hi
      have hi' : i < j := by have := List.mem_range.mp hi; omega
      refine TS.is (by walk_at "ev") ?_
      rw [eqv_li, show ((j : Int) - (1 + (i : Int))) = ((j - (i + 1) : Nat) : Int) by omega, show (((j - (i + 1) : Nat) : Int) + ((4 + k : Nat) : Int)) = ((j - (i + 1) + (4 + k) : Nat) : Int) by omega, show ((j : Int) + ((4 + k : Nat) : Int)) = ((j + (4 + k) : Nat) : Int) by omega, cut_nat, cut_nat,
        show j - (i + 1) + (4 + k) - (j - (i + 1)) = 4 + k by omega, show j + (4 + k) - j = 4 + k by omega]
      rw [decide_eq_decide, slices_alike, ← run_ge (t := t) (by omega)]
    have hnl : ((List.range ((j : Int) + 1 - 1).toNat).filter fun i => decide (4 + k ≤ run ns (j - (i + 1)) j t)) = nearL ns j t (4 + k) := by
      unfold nearL; rw [show ((j : Int) + 1 - 1).toNat = j by omega]
    rw [hnl]
    have hmp : (nearL ns j t (4 + k)).map (fun (i : Nat) => PyData.int (1 + (i : Int))) = ((nearL ns j t (4 + k)).map fun (i : Nat) => 1 + (i : Int)).map PyData.int := by rw [List.map_map]; rfl
    rw [hmp]
    have hnlen : (nearL ns j t (4 + k)).length ≤ j := by
      unfold nearL
      have := List.length_filter_le (fun i => decide (4 + k ≤ run ns (j - (i + 1)) j t)) (List.range j)
      simpa using this
    refine WP.freeze 4 rfl ?_
    refine WP.ite (TS.eqD (db := LI []) (by walk_at "ev") (EVF.ev (EVF.list EVs.nil (by simp))) rfl (shaped_li _) (shaped_li _)) ?_ ?_
    · rw [eqv_li]
      intro hb
      have hb : nearL ns j t (4 + k) = [] := by simpa using hb
      have hall := nearL_nil hb
      refine WP.ret (by walk_at "ev") ⟨_, rfl, ?_⟩
      rcases hk with ⟨rfl, rfl⟩ | ⟨h1, d, rfl, h2, h3, h4, h5⟩
      · rw [none_tok fun d h1 h2 => by have := hall d h1 h2; omega]
      · have := hall d h2 h3
        rw [some_tok d (3 + k) (by omega) h2 h3 (by omega) h5 fun e h1 h2 => by have := hall e h1 h2; omega]
    · rw [eqv_li]
      intro hb
      have hb : nearL ns j t (4 + k) ≠ [] := by simpa using hb
      walk_at "next"
      cases hq : nearL ns j t (4 + k) with
      | nil => exact absurd hq hb
      | cons i r =>
        obtain ⟨g1, g2, g3⟩ := nearL_head hq
        rw [hq, List.length_cons] at hnlen
        simp only [List.map_cons]
        refine WP.assign rfl rfl rfl (EV.tuple (EVs.cons (by walk_at "ev") (EVs.cons (d := .int (1 + (i : Int))) (EV.item (xs := ((1 + (i : Int)) :: r.map fun (i : Nat) => 1 + (i : Int)).map PyData.int) (i := 0) (by walk_at "ev") (by walk_at "ev") rfl (by decide) (by decide) rfl) (EVs.one (by walk_at "ev") rfl) rfl) rfl) (by simp)) ?_
        refine WP.nil ⟨(1, 1 + (i : Int), ((4 + k : Nat) : Int)), _, _, rfl, .inr ⟨by omega, i + 1, ?_, by omega, by omega, by omega, fun e h1 h2 => by have := g3 e h1 h2; omega⟩⟩
        rw [show (1 + (i : Int)) = ((i + 1 : Nat) : Int) by omega, show 4 + k = 3 + (k + 1) by omega]
  · rintro σ ⟨bt, s1, s2, rfl, hk⟩
    rw [rng_length, hlen] at hk
    refine WP.ret (by walk_at "ev") ⟨_, rfl, ?_⟩
    rcases hk with ⟨h0, rfl⟩ | ⟨h1, d, rfl, h2, h3, h4, h5⟩
    · rw [none_tok fun d h1 h2 => by have := run_le ns t (j - d) j; omega]
    · have e1 : 3 + ((ns.length : Int) - j + 1 - 4).toNat = t := by omega
      rw [e1] at h4 h5 ⊢
      have hrl := run_le ns t (j - d) j
      rw [some_tok d t (by omega) h2 h3 (by omega) h5 fun e _ _ => run_le ns t (j - e) j]
end Mine
end
section
namespace Mine
open PySem PySem.Calls

local macro_rules | `(tactic| walk_at "side") => `(tactic| first | assumption | with_unfolding_all rfl | omega | decide | (simp only [List.length_map, List.length_cons, List.length_nil, List.length_append, List.length_set]; omega) | exact shaped_li _ | exact shaped_t2 _ _ | exact shaped_lt _ | exact Int.emod_nonneg _ (by omega) | exact Int.emod_lt_of_pos _ (by omega) | exact Int.lt_of_lt_of_le (Int.emod_lt_of_pos _ (by omega)) (by omega))
local macro_rules | `(tactic| walk_at "evcall") => `(tactic| fail "no call")
local macro_rules | `(tactic| walk_at "ev") => `(tactic| first
  | with_reducible exact EV.int
  | with_reducible exact EV.bool
  | with_reducible exact EV.str
  | (with_reducible apply EV.var; all_goals with_unfolding_all rfl)
  | (with_reducible apply EV.add; all_goals walk_at "ev")
  | (with_reducible apply EV.sub; all_goals walk_at "ev")
  | (with_reducible apply EV.mul; all_goals walk_at "ev")
  | (with_reducible apply EV.pow; all_goals walk_at "ev")
  | (with_reducible apply EV.modP; all_goals walk_at "ev")
  | (with_reducible apply EV.fdivP; all_goals walk_at "ev")
  | (with_reducible apply EV.neg; all_goals walk_at "ev")
  | (with_reducible apply EV.len'; all_goals walk_at "ev")
  | (with_reducible apply EV.min'; all_goals walk_at "ev")
  | (with_reducible apply EV.max'; all_goals walk_at "ev")
  | (with_reducible apply EV.abs'; all_goals walk_at "ev")
  | (with_reducible apply EV.tuple; all_goals walk_at "ev")
  | (with_reducible apply EV.itemTI; all_goals walk_at "ev")
  | (with_reducible apply EV.itemT; all_goals walk_at "ev")
  | (with_reducible apply EV.itemI; all_goals walk_at "ev")
  | walk_at "evcall"
  | (with_reducible apply EVF.evI; all_goals walk_at "ev")
  | (with_reducible apply EVF.ev; all_goals walk_at "ev")
  | (with_reducible apply EVo.own; all_goals with_unfolding_all rfl)
  | (with_reducible apply EV.evo; all_goals walk_at "ev")
  | with_reducible exact EVs.nil
  | (with_reducible apply EVs.cons; all_goals walk_at "ev")
  | with_reducible exact EVp.none
  | (with_reducible apply EVp.some; all_goals walk_at "ev")
  | (with_reducible apply EVF.listOf; all_goals walk_at "ev")
  | (with_reducible apply EVF.sliceI; all_goals walk_at "ev")
  | (with_reducible apply EVF.catI; all_goals walk_at "ev")
  | (with_reducible apply EVF.list; all_goals walk_at "ev")
  | (with_reducible apply EVF.slice; all_goals walk_at "ev")
  | (with_reducible apply EVF.cat; all_goals walk_at "ev")
  | (with_reducible apply TS.lt; all_goals walk_at "ev")
  | (with_reducible apply TS.gt; all_goals walk_at "ev")
  | (with_reducible apply TS.le; all_goals walk_at "ev")
  | (with_reducible apply TS.ge; all_goals walk_at "ev")
  | (with_reducible apply TS.eq; all_goals walk_at "ev")
  | (with_reducible apply TS.ne; all_goals walk_at "ev")
  | (with_reducible apply TS.not; all_goals walk_at "ev")
  | (with_reducible apply TS.isNot; all_goals walk_at "ev")
  | (with_reducible apply TS.neD; all_goals walk_at "ev")
  | (with_reducible apply TS.eqD; all_goals walk_at "ev")
  | (with_reducible apply TS.val; all_goals walk_at "ev")
  | (with_reducible apply TS.and2; all_goals first | (intro _; walk_at "ev") | walk_at "ev")
  | (with_reducible apply TS.or2; all_goals first | (intro _; walk_at "ev") | walk_at "ev")
  | (with_reducible apply IT.rangeDown'; all_goals walk_at "ev")
  | (with_reducible apply IT.range1'; all_goals walk_at "ev")
  | (with_reducible apply IT.range2'; all_goals walk_at "ev")
  | (with_reducible apply IT.list; all_goals walk_at "ev")
  | (with_reducible apply IT.tuple; all_goals walk_at "ev")
  | walk_at "side")
local macro_rules | `(tactic| walk_at "assign") => `(tactic| (with_reducible apply WP.assign (c := _) (rest := _); all_goals first | with_reducible show WP _ _ _ _ | walk_at "ev"))
local macro_rules | `(tactic| walk_at "assignOwn") => `(tactic| (with_reducible apply WP.assignOwn; all_goals first | with_reducible show WP _ _ _ _ | walk_at "ev"))
local macro_rules | `(tactic| walk_at "append") => `(tactic| first | (with_reducible apply WP.appendI; all_goals first | with_reducible show WP _ _ _ _ | walk_at "ev") | (with_reducible apply WP.append; all_goals first | with_reducible show WP _ _ _ _ | walk_at "ev"))
local macro_rules | `(tactic| walk_at "ret") => `(tactic| (with_reducible apply WP.ret; all_goals first | with_reducible show EV _ _ _ _; walk_at "ev" | skip))
local macro_rules | `(tactic| walk_at "next") => `(tactic| (refine WP.nil ?_; with_unfolding_all show WP _ _ _ _))

local macro_rules | `(tactic| walk_at "appendT") => `(tactic| (with_reducible apply WP.appendT; all_goals first | with_reducible show WP _ _ _ _ | walk_at "ev"))
theorem ev_lbest {c : Cx} {σ : List Slot} {F : Nat → Addr} (H : H105 c.G F) {ed ej : Expr} {p pos : Pos} {ns : List Int} {j : Int} (hd : EV c σ ed (LI ns)) (hj : EV c σ ej (.int j)) (hk : c.kinds.lookup (PySem.Str.ofString "_law_best") = some .globalImplicit) (n1 : noStar ed = true) (n2 : noStar ej = true) (h1 : 0 ≤ j) (h2 : j < ns.length) (hz : ns.length ≤ 24) (hr : 1 ≤ c.room) :
    EV c σ (.Call (.Name "_law_best" p) [ed, ej] [] pos) (T3 (tok ns 65535 255 j.toNat).1) := by
  refine EV.call hk (by decide) H.lbest.isFn (EVs.cons hd (EVs.one hj n2) n1) n1 (H.lbest.spec (more := ["best", "n", "near"]) (n := 0) H.ok rfl fun A env h0 => ?_) hr
  have := lbest_body (A := A) (env := env) (h0 := h0) (m := 0) H (j := j.toNat) (ns := ns) (by omega) hz
  rw [show ((j.toNat : Nat) : Int) = j by omega] at this
  exact this
theorem tok_jump (ns : List Int) (w l : Int) (j : Nat) : (((tok ns w l j).2 : Nat) : Int) = j + max 1 (tok ns w l j).1.2.2 := by
  unfold tok
  split
  · simp only; omega
  · simp only; omega
local macro_rules | `(tactic| walk_at "evcall") => `(tactic| (with_reducible apply ev_lbest; all_goals walk_at "ev"))
set_option maxRecDepth 100000 in
theorem lparse_body {G : GX} {F : Nat → Addr} (H : H105 G F) {A : Around} {env : Env} {h0 : Heap} {n : Nat} (hn : 1 ≤ n) {ns : List Int} (hz : ns.length ≤ 24) :
    WP ⟨G, A, env, h0, ["data", "want", "at", "j", "token"], kindsAt P105 14, n⟩ [.val (LI ns), .un, .un, .un, .un] (bodyAt P105 14) (fun o => ∃ d, o = .ret d ∧ d = LT (toks ns 65535 255)) := by
  conv => enter [1, 6]; whnf
  conv => enter [3]; whnf
  have B := H.bis
  have hlen : (ns.map PyData.int).length = ns.length := by simp
  walk_at "assignOwn"
  walk_at "assign"
  refine WP.forIn (fun k σ => ∃ (a : Nat) (ts : List T) (s1 s2 : Slot), σ = [.val (LI ns), .own (ts.map T3), .val (.int a), s1, s2] ∧ k ≤ a ∧ a ≤ ns.length ∧ ts ++ parse ns 65535 255 (ns.length - a) a = toks ns 65535 255 ∧ ts.length ≤ a) (by walk_at "ev") rfl ?_ ?_ ?_
  · exact ⟨0, [], _, _, rfl, by omega, by omega, rfl, by simp⟩
  · rintro k d σ hd ⟨a, ts, s1, s2, rfl, hka, han, hts, htl⟩
    obtain ⟨rfl, hkt⟩ := rng_get hd
    rw [hlen] at hkt
    refine ⟨_, TG.name rfl rfl, ?_⟩
    refine WP.ite (by walk_at "ev") ?_ ?_
    · intro hb
      have hb : k = a := by have : (0 : Int) + k = a := by simpa using hb
                            omega
      subst hb
      have hlt : k < ns.length := by omega
      have hnx := tok_next ns 65535 255 k hlt
      have hpa := parse_at (w := 65535) (l := 255) hlt
      have hju := tok_jump ns 65535 255 k
      walk_at "assign"
      rw [show (0 + (k : Int)).toNat = k by omega]
      generalize tok ns 65535 255 k = tk at *
      obtain ⟨t, nx⟩ := tk
      simp only at hnx hpa hju
      refine WP.append rfl rfl rfl (EV.var rfl rfl rfl) rfl rfl (by simp; omega) ?_
      walk_at "assign"
      rw [← hju]
      refine WP.nil (WP.nil ⟨nx, ts ++ [t], .val (.int (0 + k)), .val (T3 t), ?_, by omega, by omega, ?_, by simp; omega⟩)
      · rw [List.map_append]; rfl
      · rw [← hts, hpa]; simp
    · intro hb
      have hb : k ≠ a := fun h => by subst h; simp at hb
      exact WP.nil (WP.nil ⟨a, ts, _, _, rfl, by omega, han, hts, htl⟩)
  · rintro σ ⟨a, ts, s1, s2, rfl, hka, han, hts, htl⟩
    rw [rng_length, hlen] at hka
    rw [parse_done (by omega), List.append_nil] at hts
    subst hts
    refine WP.freeze 1 rfl ?_
    exact WP.ret (by walk_at "ev") ⟨_, rfl, rfl⟩
theorem ev_lparse {c : Cx} {σ : List Slot} {F : Nat → Addr} (H : H105 c.G F) {ed : Expr} {p pos : Pos} {ns : List Int} (hd : EV c σ ed (LI ns)) (hk : c.kinds.lookup (PySem.Str.ofString "_law_parse") = some .globalImplicit) (n1 : noStar ed = true) (hz : ns.length ≤ 24) (hr : 2 ≤ c.room) :
    EV c σ (.Call (.Name "_law_parse" p) [ed] [] pos) (LT (toks ns 65535 255)) :=
  EV.call hk (by decide) H.lparse.isFn (EVs.one hd n1) n1 (H.lparse.spec (more := ["want", "at", "j", "token"]) (n := 1) H.ok rfl fun A env h0 => lparse_body H (by omega) hz) hr

set_option maxRecDepth 100000 in
theorem signs_body {G : GX} {A : Around} {env : Env} {h0 : Heap} {n : Nat} {ts : List T} (hz : ts.length < 2 ^ 16) :
    WP ⟨G, A, env, h0, ["tokens", "signs", "kind", "value", "n"], kindsAt P105 15, n⟩ [.val (LT ts), .un, .un, .un, .un] (bodyAt P105 15) (fun o => ∃ d, o = .ret d ∧ d = LI (signs ts)) := by
  conv => enter [1, 6]; whnf
  conv => enter [3]; whnf
  walk_at "assignOwn"
  refine WP.forIn (fun k σ => ∃ (s1 s2 s3 : Slot), σ = [.val (LT ts), .own ((signs (ts.take k)).map PyData.int), s1, s2, s3]) (IT.list (by walk_at "ev")) rfl ?_ ?_ ?_
  · exact ⟨_, _, _, rfl⟩
  · rintro k d σ hd ⟨s1, s2, s3, rfl⟩
    rw [List.getElem?_map] at hd
    cases ht : ts[k]? with
    | none => rw [ht] at hd; cases hd
    | some t =>
      rw [ht] at hd; cases hd
      obtain ⟨a, v, l⟩ := t
      have hdr : signs (ts.take (k + 1)) = signs (ts.take k) ++ sign1 (a, v, l) := by
        rw [List.take_add_one, ht]; simp [signs]
      have hl1 : (signs (ts.take k)).length ≤ 4 * ts.length := by
        have := signs_len (ts.take k)
        rw [List.length_take] at this; omega
      refine ⟨_, TG.tuple (TGs.cons (TG.name rfl rfl) (TGs.cons (TG.name rfl rfl) (TGs.cons (TG.name rfl rfl) TGs.nil rfl) rfl) rfl) rfl rfl, ?_⟩
      refine WP.ite (by walk_at "ev") ?_ ?_
      · intro hb
        have ha : a = 0 := by simpa using hb
        walk_at "append"
        refine WP.nil (WP.nil ?_)
        have e : signs (ts.take (k + 1)) = signs (ts.take k) ++ [v] := by rw [hdr]; simp [sign1, ha]
        show ∃ s1 s2 s3 : Slot, _ = _
        rw [e]
        exact ⟨_, _, _, rfl⟩
      · intro hb
        have ha : a ≠ 0 := by simpa using hb
        refine WP.assignOwn rfl rfl rfl (EVF.is (EVF.catO (xs := (signs (ts.take k)).map PyData.int) (ys := [.int 256, .int 0, .int v, .int l]) (EVo.own rfl rfl rfl) (EV.evo (by walk_at "ev")) (by simp; omega)) (show _ = (signs (ts.take (k + 1))).map PyData.int by rw [hdr]; simp [sign1, ha])) ?_
        exact WP.nil (WP.nil ⟨_, _, _, rfl⟩)
  · rintro σ ⟨s1, s2, s3, rfl⟩
    refine WP.freeze 1 rfl ?_
    refine WP.ret (by walk_at "ev") ⟨_, rfl, ?_⟩
    rw [List.length_map, List.take_length]
theorem ev_signs {c : Cx} {σ : List Slot} {F : Nat → Addr} (H : H105 c.G F) {ed : Expr} {p pos : Pos} {ts : List T} (hd : EV c σ ed (LT ts)) (hk : c.kinds.lookup (PySem.Str.ofString "_law_signs") = some .globalImplicit) (n1 : noStar ed = true) (hz : ts.length < 2 ^ 16) (hr : 1 ≤ c.room) :
    EV c σ (.Call (.Name "_law_signs" p) [ed] [] pos) (LI (signs ts)) :=
  EV.call hk (by decide) H.signs.isFn (EVs.one hd n1) n1 (H.signs.spec (more := ["signs", "kind", "value", "n"]) (n := 0) H.ok rfl fun A env h0 => signs_body hz) hr

def ends : List (List Int) := [[256], [256, 0], [256, 0, 1], [256, 256, 0, 4], [256, 0, 256, 4], [256, 0, 1, 256]]
theorem ends_bad : ∀ e ∈ ends, badEnd e ∧ e.length < 2 ^ 16 := by
  intro e he
  simp only [ends, List.mem_cons, List.not_mem_nil, or_false] at he
  rcases he with rfl | rfl | rfl | rfl | rfl | rfl
  · exact ⟨⟨_, rfl, .inl (by decide)⟩, by decide⟩
  · exact ⟨⟨_, rfl, .inl (by decide)⟩, by decide⟩
  · exact ⟨⟨_, rfl, .inl (by decide)⟩, by decide⟩
  · exact ⟨⟨_, rfl, .inr (by decide)⟩, by decide⟩
  · exact ⟨⟨_, rfl, .inr (by decide)⟩, by decide⟩
  · exact ⟨⟨_, rfl, .inr (by decide)⟩, by decide⟩
def bents (m g : Int) : List T := [(1, m + 1, 4), (1, 0, 4), (1, 1, 3), (1, 1, 256), (1, m + 2 + g, 4), (1, 1, 257 + g), (0, -1, 0), (0, 256, 0), (0, -2 - g, 0), (0, 4, 1), (0, 4, -1), (2, 1, 4), (-1, 1, 4), (-1, 4, 0)]
theorem bents_bad {m g : Int} (hm : 0 ≤ m) (hg : 0 ≤ g) : ∀ t ∈ bents m g, ok1 t m = false := by
  intro t ht
  simp only [bents, List.mem_cons, List.not_mem_nil, or_false] at ht
  rcases ht with rfl | rfl | rfl | rfl | rfl | rfl | rfl | rfl | rfl | rfl | rfl | rfl | rfl | rfl <;> simp [ok1] <;> omega
theorem cut_last {ds : List Int} (h : 0 < ds.length) : cut (some (-1)) none ds = [ds.getD (ds.length - 1) 0] := by
  unfold cut
  simp only [Option.elim]
  rw [show (-1 : Int) = -((1 : Nat) : Int) from rfl, clipAt_neg _ _ (by omega), List.drop_eq_getElem_cons (show ds.length - 1 < ds.length by omega), List.getD_eq_getElem?_getD, List.getElem?_eq_getElem (show ds.length - 1 < ds.length by omega)]
  rw [show ds.length - 1 + 1 = ds.length by omega, List.drop_length, show ds.length - (ds.length - 1) = 1 by omega]; rfl

local macro_rules | `(tactic| walk_at "evcall") => `(tactic| first | (with_reducible apply ev_cell; all_goals walk_at "ev") | (with_reducible apply ev_piece; all_goals walk_at "ev") | (with_reducible apply ev_lparse; all_goals walk_at "ev") | (with_reducible apply ev_signs; all_goals walk_at "ev") | (with_reducible apply ev_lz; all_goals walk_at "ev") | (with_reducible apply ev_ok; all_goals walk_at "ev") | (with_reducible apply ev_syms; all_goals walk_at "ev") | (with_reducible apply ev_ltok; all_goals walk_at "ev") | (with_reducible apply ev_lexp; all_goals walk_at "ev"))
abbrev lawNames : List Str := ["script", "data", "k", "kind", "kept", "m", "want", "signs", "tokens", "symbols", "huge", "a", "b", "c", "end", "bent", "token", "base", "far", "more", "whole"]

set_option maxHeartbeats 4000000 in
set_option maxRecDepth 100000 in
theorem law_body {G : GX} {F : Nat → Addr} (H : H105 G F) {A : Around} {env : Env} {h0 : Heap} {ns : List Int} (hz : ns.length ≤ 63) (CF : CFr ⟨G, A, env, h0, lawNames, kindsAt P105 18, 3⟩ []) :
    WP ⟨G, A, env, h0, lawNames, kindsAt P105 18, 3⟩ [.val (LI ns), .un, .un, .un, .un, .un, .un, .un, .un, .un, .un, .un, .un, .un, .un, .un, .un, .un, .un, .un, .un] (bodyAt P105 18) (fun o => ∃ d, o = .ret d ∧ d = .bool true) := by
  conv at CF => enter [1, 6]; whnf
  conv => enter [1, 6]; whnf
  conv => enter [3]; whnf
  have B := H.bis
  walk_at "assign"
  have hcnt : 0 ≤ ([0, 4, 3, 4, 2, 4, 1, 4, 3] : List Int).getD (ns.getD (0 : Int).toNat 0 % 9).toNat 0 ∧ ([0, 4, 3, 4, 2, 4, 1, 4, 3] : List Int).getD (ns.getD (0 : Int).toNat 0 % 9).toNat 0 ≤ 4 := getD_all (P := fun x => 0 ≤ x ∧ x ≤ 4) _ _ (by decide) (by decide)
  refine WP.forIn (fun k σ => ∃ (ds : List Int) (s1 s2 : Slot), σ = [.val (LI ns), .val (LI ds), s1, s2, .un, .un, .un, .un, .un, .un, .un, .un, .un, .un, .un, .un, .un, .un, .un, .un, .un] ∧ (∀ x ∈ ds, 0 ≤ x ∧ x ≤ 255) ∧ ds.length ≤ 10 * k)
    (IT.range1' (n := ([0, 4, 3, 4, 2, 4, 1, 4, 3] : List Int).getD (ns.getD (0 : Int).toNat 0 % 9).toNat 0) B (EV.itemTI (ns := [0, 4, 3, 4, 2, 4, 1, 4, 3]) (show EV _ _ _ (.tuple [.int 0, .int 4, .int 3, .int 4, .int 2, .int 4, .int 1, .int 4, .int 3]) by walk_at "ev") (by walk_at "ev") rfl (by omega) (by simp; omega) (by omega)) rfl rfl (by omega) (by omega)) rfl ?_ ?_ ?_
  · exact ⟨[], _, _, rfl, (fun _ h => nomatch h), by simp⟩
  · rintro k d σ hd ⟨ds, s1, s2, rfl, hb, hl⟩
    obtain ⟨rfl, hkt⟩ := rng_get hd
    have hk4 : k < 4 := by omega
    refine ⟨_, TG.name rfl rfl, ?_⟩
    walk_at "assign"
    refine WP.assign rfl rfl rfl (EVF.evI (EVF.catI (by walk_at "ev") (by walk_at "ev") ?_)) ?_
    · have := piece_len (ds := ds) (kind := ns.getD (1 + 3 * (0 + (k : Int))).toNat 0 % 5) (a := ns.getD (2 + 3 * (0 + (k : Int))).toNat 0) (b := ns.getD (3 + 3 * (0 + (k : Int))).toNat 0)
      omega
    refine WP.nil ⟨_, _, _, rfl, ?_, ?_⟩
    · intro x hx
      rcases List.mem_append.mp hx with h | h
      · exact hb x h
      · exact piece_bytes hb x h
    · have := piece_len (ds := ds) (kind := ns.getD (1 + 3 * (0 + (k : Int))).toNat 0 % 5) (a := ns.getD (2 + 3 * (0 + (k : Int))).toNat 0) (b := ns.getD (3 + 3 * (0 + (k : Int))).toNat 0)
      rw [List.length_append]; omega
  rintro σ ⟨ds0, q1, q2, rfl, hb0, hl0⟩
  rw [rng_length] at hl0
  refine WP.assign rfl rfl rfl (EVF.evI (EVF.sliceI' (EV.evo (by walk_at "ev")) EVp.none (EVp.some (by walk_at "ev")) (by omega) (show cut none (some 24) ds0 = ds0.take 24 from cut_upto 24 ds0))) ?_
  have hb : ∀ x ∈ ds0.take 24, 0 ≤ x ∧ x ≤ 255 := fun x hx => hb0 x (List.mem_of_mem_take hx)
  have hl : (ds0.take 24).length ≤ 24 := by rw [List.length_take]; omega
  generalize ds0.take 24 = ds at hb hl
  have hlen' : (ds.map PyData.int).length = ds.length := by simp
  refine WP.assign rfl rfl rfl (EVF.evI (EVF.sliceI' (EV.evo (by walk_at "ev")) EVp.none EVp.none (by omega) (cut_all ds))) ?_
  walk_at "assign"
  rw [hlen']
  obtain ⟨g1, g2, g3⟩ := toks_good (w := 65535) (l := 255) hb (by decide) (by decide) (by decide) (by omega)
  have htl := toks_len ds 65535 255
  have hdist := parse_dist ds 65535 255 ds.length 0
  have hsg : signs (toks ds 65535 255) = syms (toks ds 65535 255) := signs_syms fun t ht => (hdist t ht).imp id fun h => ⟨h.1, by omega⟩
  have hsl := syms_len (toks ds 65535 255)
  have hst := syms_le_tot g1
  have hfi := fine_all g1
  have hz16 : (toks ds 65535 255).length < 2 ^ 16 := by omega
  walk_at "assign"
  walk_at "assign"
  rw [hsg]
  walk_at "assign"
  generalize toks ds 65535 255 = ts at *
  generalize hmm : (ds.length : Int) = m at *
  have hm0 : 0 ≤ m ∧ m ≤ 24 := by omega
  refine WP.ite (by walk_at "ev") ?_ ?_
  · rw [eqv_self (shaped_lt _)]; intro hb; simp at hb
  intro _
  walk_at "next"
  refine WP.ite (by walk_at "ev") ?_ ?_
  · rw [eqv_self (shaped_li _)]; intro hb; simp at hb
  intro _
  walk_at "next"
  walk_at "assign"
  refine WP.ite (by walk_at "ev") ?_ ?_
  · rw [eqv_self (shaped_li _)]; intro hb; simp at hb
  intro _
  walk_at "next"
  refine WP.ite (by walk_at "ev") ?_ ?_
  · rw [List.length_map]; intro hb; simp at hb; omega
  intro _
  walk_at "next"
  refine WP.ite (by walk_at "ev") ?_ ?_
  · rw [eqv_self (shaped_lt _)]; intro hb; simp at hb
  intro _
  walk_at "next"
  refine WP.ite (by walk_at "ev") ?_ ?_
  · rw [g3, eqv_self (shaped_li _)]; intro hb; simp at hb
  intro _
  walk_at "next"
  walk_at "assign"
  generalize hgg : (if ns.getD (13 : Int).toNat 0 < 0 then -ns.getD (13 : Int).toNat 0 else ns.getD (13 : Int).toNat 0) = g
  have hg0 : 0 ≤ g := by rw [← hgg]; split <;> omega
  walk_at "assign"
  generalize haa : ns.getD (14 : Int).toNat 0 % 256 = a
  have ha : 0 ≤ a ∧ a < 256 := by omega
  walk_at "assign"
  generalize hbb : ns.getD (15 : Int).toNat 0 % 256 = b
  have hb1 : 0 ≤ b ∧ b < 256 := by omega
  walk_at "assign"
  generalize hcc : ns.getD (16 : Int).toNat 0 % 256 = cc
  have hc1 : 0 ≤ cc ∧ cc < 256 := by omega
  have happ : ∀ t : T, ts.map T3 ++ [T3 t] = (ts ++ [t]).map T3 := fun t => by rw [List.map_append]; rfl
  have e1 : syms (ts ++ [((1, a * 256 + b, cc) : T)]) = syms ts ++ [256, a, b, cc] := by
    rw [syms_append]
    simp only [syms, List.flatMap_cons, List.flatMap_nil, List.append_nil, sym1, show ¬ ((1 : Int) = 0) by decide, if_false]
    rw [show (a * 256 + b) / 256 = a by omega, show (a * 256 + b) % 256 = b by omega]
  have hf1 : ∀ t ∈ ts ++ [((1, a * 256 + b, cc) : T)], fine t := fun t ht => by
    rcases List.mem_append.mp ht with h | h
    · exact hfi t h
    · rw [List.mem_singleton.mp h]; exact .inr ⟨rfl, (by show 0 ≤ a * 256 + b; omega), (by show a * 256 + b ≤ 65535; omega), (by show 0 ≤ cc; omega), (by show cc ≤ 255; omega)⟩
  have hz1 : (ts ++ [((1, a * 256 + b, cc) : T)]).length < 2 ^ 16 := by simp; omega
  refine WP.ite (TS.neD (da := LT (ts ++ [((1, a * 256 + b, cc) : T)])) (db := LT (ts ++ [((1, a * 256 + b, cc) : T)])) (ev_ltok H (EVF.ev (EVF.is (EVF.cat (xs := (syms ts).map PyData.int) (ys := [.int 256, .int a, .int b, .int cc]) (by walk_at "ev") (by walk_at "ev") (by simp; omega)) (by rw [e1]; simp))) rfl rfl hf1 hz1 (by walk_at "side"))
    (EVF.ev (EVF.is (EVF.cat (xs := ts.map T3) (ys := [T3 (1, a * 256 + b, cc)]) (by walk_at "ev") (by walk_at "ev") (by simp; omega)) (happ _))) rfl (shaped_lt _) (shaped_lt _)) ?_ ?_
  · rw [eqv_self (shaped_lt _)]; intro hb; simp at hb
  intro _
  walk_at "next"
  have hsh : SeqAt.shaped (.str (PySem.Str.ofString "refused")) = true := by decide +kernel
  have hstr : PyData.eqv (.str (PySem.Str.ofString "refused")) (.str (PySem.Str.ofString "refused")) = true := eqv_self hsh
  refine WP.forIn (fun k σ => ∃ s1 : Slot, σ = [.val (LI ns), .val (LI ds), q1, q2, .val (LI ds), .val (.int m), .val (LT ts), .val (LI (syms ts)), .val (LT ts), .val (LI (syms ts)), .val (.int g), .val (.int a), .val (.int b), .val (.int cc), s1, .un, .un, .un, .un, .un, .un]) (ds := ends.map LI) (IT.list (show EV _ _ _ (.list [.list [.int 256], .list [.int 256, .int 0], .list [.int 256, .int 0, .int 1], .list [.int 256, .int 256, .int 0, .int 4], .list [.int 256, .int 0, .int 256, .int 4], .list [.int 256, .int 0, .int 1, .int 256]]) by walk_at "ev")) rfl ?_ ?_ ?_
  · exact ⟨_, rfl⟩
  · rintro k d σ hd ⟨s1, rfl⟩
    obtain ⟨e, he, rfl⟩ := List.mem_map.mp (List.mem_of_getElem? hd)
    obtain ⟨hbe, hbl⟩ := ends_bad e he
    refine ⟨_, TG.name rfl rfl, ?_⟩
    refine WP.iteF CF rfl (by decide) H.ltok.isFn (EVs.one (EVF.evI (EVF.catI (a := syms ts) (b := e) (by walk_at "ev") (by walk_at "ev") (by omega))) rfl) rfl (ltok_refuses H hfi hz16 hbe hbl) (by walk_at "side") (by walk_at "ev") rfl hsh hsh ?_ ?_
    · rw [hstr]; intro hb; simp at hb
    · intro _
      exact WP.nil (WP.nil ⟨_, rfl⟩)
  rintro σ ⟨s1, rfl⟩
  walk_at "assign"
  refine WP.assign rfl rfl rfl (EVF.ev (EVF.cat (by walk_at "ev") (by walk_at "ev") (by simp))) ?_
  refine WP.assign rfl rfl rfl (EVF.ev (EVF.cat (by walk_at "ev") (by walk_at "ev") (by simp))) ?_
  refine WP.forIn (fun k σ => ∃ s2 : Slot, σ = [.val (LI ns), .val (LI ds), q1, q2, .val (LI ds), .val (.int m), .val (LT ts), .val (LI (syms ts)), .val (LT ts), .val (LI (syms ts)), .val (.int g), .val (.int a), .val (.int b), .val (.int cc), s1, .val (LT (bents m g)), s2, .un, .un, .un, .un]) (ds := (bents m g).map T3) (IT.list (EV.var rfl rfl rfl)) rfl ?_ ?_ ?_
  · exact ⟨_, rfl⟩
  · rintro k d σ hd ⟨s2, rfl⟩
    obtain ⟨t, ht, rfl⟩ := List.mem_map.mp (List.mem_of_getElem? hd)
    have hbad := bents_bad hm0.1 hg0 t ht
    have k6 : okT (ts ++ [t]) 0 = false := by
      rw [okT_append, g1, Int.zero_add, g2]; simp only [okT, hbad]; rfl
    refine ⟨_, TG.name rfl rfl, ?_⟩
    refine WP.iteF CF rfl (by decide) H.lexp.isFn (EVs.one (d := LT (ts ++ [t])) (EVF.ev (EVF.is (EVF.cat (xs := ts.map T3) (ys := [T3 t]) (by walk_at "ev") (by walk_at "ev") (by simp; omega)) (happ t))) rfl) rfl (lexp_refuses H k6) (by walk_at "side") (by walk_at "ev") rfl hsh hsh ?_ ?_
    · rw [hstr]; intro hb; simp at hb
    · intro _
      exact WP.nil (WP.nil ⟨_, rfl⟩)
  rintro σ ⟨s2, rfl⟩
  refine WP.iteJ (fun σ => ∃ r1 r2 r3 r4 : Slot, σ = [.val (LI ns), .val (LI ds), q1, q2, .val (LI ds), .val (.int m), .val (LT ts), .val (LI (syms ts)), .val (LT ts), .val (LI (syms ts)), .val (.int g), .val (.int a), .val (.int b), .val (.int cc), s1, .val (LT (bents m g)), s2, r1, r2, r3, r4]) (by walk_at "ev") ?_ ?_ ?_
  · intro _
    have hrep : ([T3 (0, 7, 0)] ++ (List.replicate (257 : Int).toNat [T3 (1, 1, 255)]).flatten : List D) = (((0, 7, 0) : T) :: List.replicate 257 (1, 1, 255)).map T3 := by
      rw [show (257 : Int).toNat = 257 from rfl, List.flatten_replicate_singleton, List.map_cons, List.map_replicate]; rfl
    obtain ⟨f1, f2⟩ := okT_far 257 1 (by omega)
    have k1 : okT (((0, 7, 0) : T) :: List.replicate 257 (1, 1, 255)) 0 = true := by
      simp only [okT, Bool.and_eq_true]
      exact ⟨by decide, f1⟩
    have k2 : tot (((0, 7, 0) : T) :: List.replicate 257 (1, 1, 255)) = 65536 := by
      simp only [tot, f2]; decide
    have hbl : (((0, 7, 0) : T) :: List.replicate 257 (1, 1, 255)).length = 258 := by rw [List.length_cons, List.length_replicate]
    refine WP.assign rfl rfl rfl (EVF.ev (EVF.is (EVF.cat (xs := [T3 (0, 7, 0)]) (ys := (List.replicate (257 : Int).toNat [T3 (1, 1, 255)]).flatten) (by walk_at "ev") (EVF.ev (EVF.mul (xs := [T3 (1, 1, 255)]) (n := 257) (EV.evo (by walk_at "ev")) (by walk_at "ev") (by decide) (by decide) (by decide))) (by rw [show (257 : Int).toNat = 257 from rfl, List.flatten_replicate_singleton, List.length_replicate]; decide)) hrep)) ?_
    generalize (((0, 7, 0) : T) :: List.replicate 257 (1, 1, 255)) = bs at k1 k2 hbl
    have happ' : ∀ t : T, bs.map T3 ++ [T3 t] = (bs ++ [t]).map T3 := fun t => by rw [List.map_append]; rfl
    refine WP.ite (TS.isNot (ev_ok H (EVF.ev (EVF.is (EVF.cat (xs := bs.map T3) (ys := [T3 (1, 65535, 4)]) (by walk_at "ev") (by walk_at "ev") (by simp; omega)) (happ' _))) rfl rfl (by walk_at "side")) (by walk_at "ev") rfl) ?_ ?_
    · have : okT (bs ++ [((1, 65535, 4) : T)]) 0 = true := by
        rw [okT_append, k1, Int.zero_add, k2]; decide
      rw [this]; intro hb; simp at hb
    intro _
    walk_at "next"
    refine WP.ite (TS.isNot (ev_ok H (EVF.ev (EVF.is (EVF.cat (xs := bs.map T3) (ys := [T3 (1, 65536, 4)]) (by walk_at "ev") (by walk_at "ev") (by simp; omega)) (happ' _))) rfl rfl (by walk_at "side")) (by walk_at "ev") rfl) ?_ ?_
    · have : okT (bs ++ [((1, 65536, 4) : T)]) 0 = false := by
        rw [okT_append, k1, Int.zero_add, k2]; decide
      rw [this]; intro hb; simp at hb
    intro _
    exact WP.nil (WP.nil ⟨_, rfl, _, _, _, _, rfl⟩)
  · intro hb
    have hm : m ≠ 0 := by simpa using hb
    have hm1 : 0 < ds.length := by omega
    let fr : List T := [(1, 1, 255), (1, 255, 4), (1, 256, 4), (1, m + 263, 4)]
    have e2 : ts.map T3 ++ [T3 (1, 1, 255), T3 (1, 255, 4), T3 (1, 256, 4), T3 (1, m + 263, 4)] = (ts ++ fr).map T3 := by rw [List.map_append]; rfl
    refine WP.assign rfl rfl rfl (EVF.ev (EVF.is (EVF.cat (xs := ts.map T3) (ys := [T3 (1, 1, 255), T3 (1, 255, 4), T3 (1, 256, 4), T3 (1, m + 263, 4)]) (by walk_at "ev") (by walk_at "ev") (by simp; omega)) e2)) ?_
    have e3 : syms (ts ++ fr) = syms ts ++ [256, 0, 1, 255, 256, 0, 255, 4, 256, 1, 0, 4, 256, 1, m + 7, 4] := by
      rw [syms_append]
      simp only [fr, syms, List.flatMap_cons, List.flatMap_nil, List.append_nil, sym1, show ¬ ((1 : Int) = 0) by decide, if_false]
      rw [show (m + 263) / 256 = 1 by omega, show (m + 263) % 256 = m + 7 by omega]
      rfl
    have e4 : (syms ts).map PyData.int ++ [.int 256, .int 0, .int 1, .int 255, .int 256, .int 0, .int 255, .int 4, .int 256, .int 1, .int 0, .int 4, .int 256, .int 1, .int (m + 7), .int 4] = (syms (ts ++ fr)).map PyData.int := by
      rw [e3, List.map_append]; rfl
    refine WP.assign rfl rfl rfl (EVF.ev (EVF.is (EVF.cat (xs := (syms ts).map PyData.int) (ys := [.int 256, .int 0, .int 1, .int 255, .int 256, .int 0, .int 255, .int 4, .int 256, .int 1, .int 0, .int 4, .int 256, .int 1, .int (m + 7), .int 4]) (by walk_at "ev") (by walk_at "ev") (by simp; omega)) e4)) ?_
    have hfl : (ts ++ fr).length = ts.length + 4 := by rw [List.length_append]; rfl
    have hfz : (ts ++ fr).length < 2 ^ 17 := by omega
    have hfz' : (ts ++ fr).length < 2 ^ 16 := by omega
    have o1 : okT fr m = true := by
      simp only [fr, okT, ok1, sz1, show ¬ ((1 : Int) = 0) by decide, if_false, if_true, Bool.and_true, Bool.and_eq_true]
      refine ⟨decide_eq_true (by omega), decide_eq_true (by omega), decide_eq_true (by omega), decide_eq_true (by omega)⟩
    have o2 : okT (ts ++ fr) 0 = true := by rw [okT_append, g1, Int.zero_add, g2, o1]; rfl
    have o3 : tot (ts ++ fr) ≤ 2 ^ 18 := by
      rw [tot_append, g2]
      simp only [fr, tot, sz1, show ¬ ((1 : Int) = 0) by decide, if_false]; omega
    have hff := fine_all o2
    refine WP.ite (by walk_at "ev") ?_ ?_
    · rw [eqv_self (shaped_li _)]; intro hb; simp at hb
    intro _
    walk_at "next"
    refine WP.ite (by walk_at "ev") ?_ ?_
    · rw [eqv_self (shaped_lt _)]; intro hb; simp at hb
    intro _
    walk_at "next"
    generalize hx : ds.getD (ds.length - 1) 0 = x at *
    have hrep : (ds.map PyData.int ++ (List.replicate (263 : Int).toNat [PyData.int x]).flatten : List D) = (ds ++ List.replicate 263 x).map PyData.int := by
      rw [show (263 : Int).toNat = 263 from rfl, List.flatten_replicate_singleton, List.map_append, List.map_replicate]
    refine WP.assign rfl rfl rfl (EVF.ev (EVF.is (EVF.cat (xs := ds.map PyData.int) (ys := (List.replicate (263 : Int).toNat [PyData.int x]).flatten) (by walk_at "ev") (EVF.ev (EVF.mul (xs := [PyData.int x]) (n := 263) (EV.evo (EVF.ev (EVF.is (EVF.sliceI' (EV.evo (by walk_at "ev")) (EVp.some (by walk_at "ev")) EVp.none (by omega) (show cut (some (-1)) none ds = [x] by rw [cut_last hm1, hx])) rfl))) (by walk_at "ev") (by decide) (by show 1 * 263 ≤ 2 ^ 20; decide) (by decide))) (by rw [show (263 : Int).toNat = 263 from rfl, List.flatten_replicate_singleton, List.length_replicate, List.length_map]; omega)) hrep)) ?_
    have hwl : (ds ++ List.replicate 263 x).length = ds.length + 263 := by rw [List.length_append, List.length_replicate]
    have hexp : expand (ts ++ fr) [] = (ds ++ List.replicate 263 x) ++ (ds ++ List.replicate 263 x).take 4 := by
      rw [expand_append, g3]
      simp only [fr, expand, exp1, show ¬ ((1 : Int) = 0) by decide, if_false]
      rw [show (1 : Int).toNat = 1 from rfl, show (255 : Int).toNat = 255 from rfl, show (4 : Int).toNat = 4 from rfl, show (256 : Int).toNat = 256 from rfl]
      have s1 := grow_one (ds := ds) (x := x) (v := 1) 255 0 (by omega) (by omega) hm1 hx
      rw [List.replicate_zero, List.append_nil] at s1
      rw [s1, grow_one 4 (0 + 255) (by omega) (by omega) hm1 hx, grow_one 4 (0 + 255 + 4) (by omega) (by omega) hm1 hx]
      rw [show 0 + 255 + 4 + 4 = 263 from rfl, show (m + 263).toNat = (ds ++ List.replicate 263 x).length by omega]
      exact grow_front 4 (by rw [hwl]; omega)
    generalize hW : ds ++ List.replicate 263 x = W at hwl hexp
    refine WP.ite (TS.neD (db := LI (W ++ W.take 4)) (by walk_at "ev") (EVF.evI (EVF.catI (by walk_at "ev") (EVF.evI (EVF.sliceI' (EV.evo (by walk_at "ev")) EVp.none (EVp.some (by walk_at "ev")) (by omega) (show cut none (some 4) W = W.take 4 from cut_upto 4 W))) (by simp; omega))) rfl (shaped_li _) (shaped_li _)) ?_ ?_
    · rw [hexp, eqv_self (shaped_li _)]; intro hb; simp at hb
    intro _
    exact WP.nil (WP.nil ⟨_, rfl, _, _, _, _, rfl⟩)
  rintro σ ⟨r1, r2, r3, r4, rfl⟩
  exact WP.ret (by walk_at "ev") ⟨_, rfl, rfl⟩
theorem law_spec {G : GX} {F : Nat → Addr} (H : H105 G F) {ns : List Int} (hz : ns.length ≤ 63) : FnSpec0 G (F 18) [LI ns] (· = .bool true) 20 :=
  FnSpec0.mono (H.law.spec0 (args := [LI ns]) (P := (· = .bool true)) (more := ["data", "k", "kind", "kept", "m", "want", "signs", "tokens", "symbols", "huge", "a", "b", "c", "end", "bent", "token", "base", "far", "more", "whole"]) (n := 3) H.ok rfl fun A env h0 CF => law_body H hz CF) (by omega)
end Mine
end
open PySem PySem.W PyProof.Rows
set_option maxRecDepth 100000 in
set_option maxHeartbeats 8000000 in
theorem PySem.Challenge.cw_pd_squeeze_1_05_holds : PySem.Challenge.rw_pd_squeeze_1_05.Holds := by
  (w_on; o_law; k_head; (case hw => w_witness2))
  k_fill
  intro w s₀ s₁ mg mb G Y fa o pm cd doc dV kV ho hd hcd hD hmg hg args vals as hpre hlay hrd hwl hlo
  have KX := kIn_of Y
  refine Ground.open G ?_
  intro T B D TE TW
  clear ho hd hcd hD B D TE TW
  wrow_args hpre hlay hrd hwl hlo
  have bi : ∀ {x : PySem.Str} {v : Value}, mg x = none → x ≠ "__name__" → bootBuiltins x = some v → Mine.BI ⟨PySem.Challenge.rw_pd_squeeze_1_05.row.prog, w, s₁.heap, mg, mb⟩ x v := fun h1 h2 h3 => ⟨h1, (T.builtins _ h2).trans h3⟩
  have b0 := bi (mg_none_of (n := PySem.Str.ofString "len") KX T.g (by k_is)) (by decide) Boot.«len»
  have b1 := bi (mg_none_of (n := PySem.Str.ofString "min") KX T.g (by k_is)) (by decide) Boot.«min»
  have b2 := bi (mg_none_of (n := PySem.Str.ofString "max") KX T.g (by k_is)) (by decide) Boot.«max»
  have b3 := bi (mg_none_of (n := PySem.Str.ofString "abs") KX T.g (by k_is)) (by decide) Boot.«abs»
  have b4 := bi (mg_none_of (n := PySem.Str.ofString "sum") KX T.g (by k_is)) (by decide) Boot.«sum»
  have b5 := bi (mg_none_of (n := PySem.Str.ofString "range") KX T.g (by k_is)) (by decide) Boot.«range»
  have b6 := bi (mg_none_of (n := PySem.Str.ofString "list") KX T.g (by k_is)) (by decide) Boot.«list»
  have g2 := mg_of (n := PySem.Str.ofString "is_bytes") KX T.g (by k_is)
  have d2 := Mine.Def.of_K (p := Mine.P105) (k := 2) (ps := ["data"]) (G := ⟨PySem.Challenge.rw_pd_squeeze_1_05.row.prog, w, s₁.heap, mg, mb⟩) KX g2 (by k_is) (by k_is) rfl rfl (fun us h => by obtain ⟨u, rfl⟩ := Mine.len1 h; rfl) rfl rfl rfl
  have g3 := mg_of (n := PySem.Str.ofString "match_length") KX T.g (by k_is)
  have d3 := Mine.Def.of_K (p := Mine.P105) (k := 3) (ps := ["data", "i", "j", "limit"]) (G := ⟨PySem.Challenge.rw_pd_squeeze_1_05.row.prog, w, s₁.heap, mg, mb⟩) KX g3 (by k_is) (by k_is) rfl rfl (fun us h => by obtain ⟨u, v, x, y, rfl⟩ := Mine.len4 h; rfl) rfl rfl rfl
  have g4 := mg_of (n := PySem.Str.ofString "longest_match") KX T.g (by k_is)
  have d4 := Mine.Def.of_K (p := Mine.P105) (k := 4) (ps := ["data", "j", "window", "limit"]) (G := ⟨PySem.Challenge.rw_pd_squeeze_1_05.row.prog, w, s₁.heap, mg, mb⟩) KX g4 (by k_is) (by k_is) rfl rfl (fun us h => by obtain ⟨u, v, x, y, rfl⟩ := Mine.len4 h; rfl) rfl rfl rfl
  have g5 := mg_of (n := PySem.Str.ofString "lz_tokens") KX T.g (by k_is)
  have d5 := Mine.Def.of_K (p := Mine.P105) (k := 5) (ps := ["data", "window", "limit"]) (G := ⟨PySem.Challenge.rw_pd_squeeze_1_05.row.prog, w, s₁.heap, mg, mb⟩) KX g5 (by k_is) (by k_is) rfl rfl (fun us h => by obtain ⟨u, v, x, rfl⟩ := Mine.len3 h; rfl) rfl rfl rfl
  have g6 := mg_of (n := PySem.Str.ofString "tokens_ok") KX T.g (by k_is)
  have d6 := Mine.Def.of_K (p := Mine.P105) (k := 6) (ps := ["tokens"]) (G := ⟨PySem.Challenge.rw_pd_squeeze_1_05.row.prog, w, s₁.heap, mg, mb⟩) KX g6 (by k_is) (by k_is) rfl rfl (fun us h => by obtain ⟨u, rfl⟩ := Mine.len1 h; rfl) rfl rfl rfl
  have g7 := mg_of (n := PySem.Str.ofString "lz_expand") KX T.g (by k_is)
  have d7 := Mine.Def.of_K (p := Mine.P105) (k := 7) (ps := ["tokens"]) (G := ⟨PySem.Challenge.rw_pd_squeeze_1_05.row.prog, w, s₁.heap, mg, mb⟩) KX g7 (by k_is) (by k_is) rfl rfl (fun us h => by obtain ⟨u, rfl⟩ := Mine.len1 h; rfl) rfl rfl rfl
  have g8 := mg_of (n := PySem.Str.ofString "tokens_to_symbols") KX T.g (by k_is)
  have d8 := Mine.Def.of_K (p := Mine.P105) (k := 8) (ps := ["tokens"]) (G := ⟨PySem.Challenge.rw_pd_squeeze_1_05.row.prog, w, s₁.heap, mg, mb⟩) KX g8 (by k_is) (by k_is) rfl rfl (fun us h => by obtain ⟨u, rfl⟩ := Mine.len1 h; rfl) rfl rfl rfl
  have g9 := mg_of (n := PySem.Str.ofString "symbols_to_tokens") KX T.g (by k_is)
  have d9 := Mine.Def.of_K (p := Mine.P105) (k := 9) (ps := ["symbols"]) (G := ⟨PySem.Challenge.rw_pd_squeeze_1_05.row.prog, w, s₁.heap, mg, mb⟩) KX g9 (by k_is) (by k_is) rfl rfl (fun us h => by obtain ⟨u, rfl⟩ := Mine.len1 h; rfl) rfl rfl rfl
  have g11 := mg_of (n := PySem.Str.ofString "_law_cell") KX T.g (by k_is)
  have d11 := Mine.Def.of_K (p := Mine.P105) (k := 11) (ps := ["script", "k"]) (G := ⟨PySem.Challenge.rw_pd_squeeze_1_05.row.prog, w, s₁.heap, mg, mb⟩) KX g11 (by k_is) (by k_is) rfl rfl (fun us h => by obtain ⟨u, v, rfl⟩ := Mine.len2 h; rfl) rfl rfl rfl
  have g12 := mg_of (n := PySem.Str.ofString "_law_piece") KX T.g (by k_is)
  have d12 := Mine.Def.of_K (p := Mine.P105) (k := 12) (ps := ["data", "kind", "a", "b"]) (G := ⟨PySem.Challenge.rw_pd_squeeze_1_05.row.prog, w, s₁.heap, mg, mb⟩) KX g12 (by k_is) (by k_is) rfl rfl (fun us h => by obtain ⟨u, v, x, y, rfl⟩ := Mine.len4 h; rfl) rfl rfl rfl
  have g13 := mg_of (n := PySem.Str.ofString "_law_best") KX T.g (by k_is)
  have d13 := Mine.Def.of_K (p := Mine.P105) (k := 13) (ps := ["data", "j"]) (G := ⟨PySem.Challenge.rw_pd_squeeze_1_05.row.prog, w, s₁.heap, mg, mb⟩) KX g13 (by k_is) (by k_is) rfl rfl (fun us h => by obtain ⟨u, v, rfl⟩ := Mine.len2 h; rfl) rfl rfl rfl
  have g14 := mg_of (n := PySem.Str.ofString "_law_parse") KX T.g (by k_is)
  have d14 := Mine.Def.of_K (p := Mine.P105) (k := 14) (ps := ["data"]) (G := ⟨PySem.Challenge.rw_pd_squeeze_1_05.row.prog, w, s₁.heap, mg, mb⟩) KX g14 (by k_is) (by k_is) rfl rfl (fun us h => by obtain ⟨u, rfl⟩ := Mine.len1 h; rfl) rfl rfl rfl
  have g15 := mg_of (n := PySem.Str.ofString "_law_signs") KX T.g (by k_is)
  have d15 := Mine.Def.of_K (p := Mine.P105) (k := 15) (ps := ["tokens"]) (G := ⟨PySem.Challenge.rw_pd_squeeze_1_05.row.prog, w, s₁.heap, mg, mb⟩) KX g15 (by k_is) (by k_is) rfl rfl (fun us h => by obtain ⟨u, rfl⟩ := Mine.len1 h; rfl) rfl rfl rfl
  have g16 := mg_of (n := PySem.Str.ofString "_law_expand") KX T.g (by k_is)
  have d16 := Mine.Def.of_K (p := Mine.P105) (k := 16) (ps := ["tokens"]) (G := ⟨PySem.Challenge.rw_pd_squeeze_1_05.row.prog, w, s₁.heap, mg, mb⟩) KX g16 (by k_is) (by k_is) rfl rfl (fun us h => by obtain ⟨u, rfl⟩ := Mine.len1 h; rfl) rfl rfl rfl
  have g17 := mg_of (n := PySem.Str.ofString "_law_tokens") KX T.g (by k_is)
  have d17 := Mine.Def.of_K (p := Mine.P105) (k := 17) (ps := ["symbols"]) (G := ⟨PySem.Challenge.rw_pd_squeeze_1_05.row.prog, w, s₁.heap, mg, mb⟩) KX g17 (by k_is) (by k_is) rfl rfl (fun us h => by obtain ⟨u, rfl⟩ := Mine.len1 h; rfl) rfl rfl rfl
  have g18 := mg_of (n := PySem.Str.ofString "law") KX T.g (by k_is)
  have d18 := Mine.Def.of_K (p := Mine.P105) (k := 18) (ps := ["script"]) (G := ⟨PySem.Challenge.rw_pd_squeeze_1_05.row.prog, w, s₁.heap, mg, mb⟩) KX g18 (by k_is) (by k_is) rfl rfl (fun us h => by obtain ⟨u, rfl⟩ := Mine.len1 h; rfl) rfl rfl rfl
  have fe := own_of_in (x := PySem.Str.ofString "FormatError") (bmB := [.type "Exception", .type "BaseException", .type "object"]) (newId := "Exception.__new__") KX (topRead_of T) (by k_is) (by k_exc)
  have H : Mine.H105 ⟨PySem.Challenge.rw_pd_squeeze_1_05.row.prog, w, s₁.heap, mg, mb⟩ (fun k => match k with | 1 => _ | 2 => _ | 3 => _ | 4 => _ | 5 => _ | 6 => _ | 7 => _ | 8 => _ | 9 => _ | 11 => _ | 12 => _ | 13 => _ | 14 => _ | 15 => _ | 16 => _ | 17 => _ | 18 => _ | _ => 0) :=
    ⟨⟨T.g, T.b, T.nolimit⟩, ⟨b0, b1, b2, b3, b4, b5, b6⟩, fe, d2, d3, d4, d5, d6, d7, d8, d9, d11, d12, d13, d14, d15, d16, d17, d18⟩
  have hfa := hmg.symm.trans g18
  cases hfa
  exact Mine.claim_end0 hg (by assumption) (Mine.law_spec H (by omega))

