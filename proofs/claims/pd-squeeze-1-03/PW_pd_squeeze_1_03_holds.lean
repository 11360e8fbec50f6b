import PyProof.Rows.All
import Wide.All
import OpenK.AllK
import Wide.FinOn
import PySem.Challenge.RW_pd_squeeze_1_03
set_option Elab.async false
set_option linter.unusedVariables false
section
namespace Mine
open PySem PySem.Calls

abbrev D := PyData
abbrev AS := Addr → Prop
abbrev Keep (h h' : Heap) : Prop := ∀ b o, h.get? b = some o → h'.get? b = some o
theorem Keep.refl (h : Heap) : Keep h h := fun _ _ e => e
theorem Keep.trans {h₁ h₂ h₃ : Heap} (x : Keep h₁ h₂) (y : Keep h₂ h₃) : Keep h₁ h₃ := fun b o e => y b o (x b o e)
theorem Keep.push (h : Heap) (o : Obj) : Keep h (h.push o) := fun _ _ e => Heap.get?_push_of_some _ e

/-- the object is no tuple -/
def NT (o : Obj) : Prop := o.cls = .type "tuple" → ∀ vs n, o.data ≠ .seq vs n

mutual
theorem reads_kept {h h' : Heap} : ∀ {v : Value} {d : D} {as : List Addr}, Reads h v d as → (∀ b o, h.get? b = some o → b ∈ as ∨ ¬ NT o → h'.get? b = some o) → Reads h' v d as
  | _, _, _, .none, _ => .none
  | _, _, _, .bool b, _ => .bool b
  | _, _, _, .int i t, _ => .int i t
  | _, _, _, .str x t, _ => .str x t
  | _, _, _, .list h1 h2 h3 h4, hk => .list (hk _ _ h1 (.inl (.head _))) h2 h3 (readsAll_kept h4 fun b o e k => hk b o e (k.imp (.tail _) id))
  | _, _, _, .tuple h1 h2 h3 h4, hk => .tuple (hk _ _ h1 (.inr fun n => n h2 _ _ h3)) h2 h3 (readsAll_kept h4 hk)
  | _, _, _, .dict h1 h2 h3 h4 h5, hk => .dict (hk _ _ h1 (.inl (.head _))) h2 h3
      (readsAll_kept h4 fun b o e k => hk b o e (k.imp (fun m => .tail _ (List.mem_append_left _ m)) id))
      (readsAll_kept h5 fun b o e k => hk b o e (k.imp (fun m => .tail _ (List.mem_append_right _ m)) id))
theorem readsAll_kept {h h' : Heap} : ∀ {vs : List Value} {ds : List D} {as : List Addr}, ReadsAll h vs ds as → (∀ b o, h.get? b = some o → b ∈ as ∨ ¬ NT o → h'.get? b = some o) → ReadsAll h' vs ds as
  | _, _, _, .nil, _ => .nil
  | _, _, _, .cons h1 h2, hk => .cons (reads_kept h1 fun b o e k => hk b o e (k.imp (List.mem_append_left _) id)) (readsAll_kept h2 fun b o e k => hk b o e (k.imp (List.mem_append_right _) id))
end

/-- int keys, int values, with their hashes -/
inductive EPairs : List DictEntry → List (Int × Int) → Prop
  | nil : EPairs [] []
  | cons {k v : Int} {t u : Tok} {es : List DictEntry} {kvs : List (Int × Int)} : EPairs es kvs → EPairs (⟨hashInt k, .int k t, .int v u⟩ :: es) ((k, v) :: kvs)
def Plain (h : Heap) (a : Addr) : Prop := ∃ o, h.get? a = some o ∧ o.dict = none ∧ o.slots = #[] ∧ ∀ es n, o.data = .dict es n → a ≠ sysModules ∧ ∃ kvs, EPairs es.toList kvs ∧ (kvs.map (·.1)).Nodup
theorem Plain.keep {h h' : Heap} {a : Addr} (p : Plain h a) (k : Keep h h') : Plain h' a := let ⟨o, e, r⟩ := p; ⟨o, k _ _ e, r⟩

def Rep (h : Heap) (Y : AS) (v : Value) (d : D) : Prop := ∃ as, Reads h v d as ∧ ∀ a ∈ as, ¬ Y a ∧ Plain h a
def RepAll (h : Heap) (Y : AS) (vs : List Value) (ds : List D) : Prop := ∃ as, ReadsAll h vs ds as ∧ ∀ a ∈ as, ¬ Y a ∧ Plain h a

theorem Rep.kept {h h' : Heap} {Y : AS} {v : Value} {d : D} (r : Rep h Y v d) (hk : ∀ b o, h.get? b = some o → ¬ Y b ∨ ¬ NT o → h'.get? b = some o) : Rep h' Y v d := by
  obtain ⟨as, r, p⟩ := r
  refine ⟨as, reads_kept r fun b o e k => hk b o e (k.imp (fun m => (p b m).1) id), fun a m => ⟨(p a m).1, ?_⟩⟩
  obtain ⟨o, e, q⟩ := (p a m).2
  exact ⟨o, hk a o e (.inl (p a m).1), q⟩
theorem RepAll.kept {h h' : Heap} {Y : AS} {v : List Value} {d : List D} (r : RepAll h Y v d) (hk : ∀ b o, h.get? b = some o → ¬ Y b ∨ ¬ NT o → h'.get? b = some o) : RepAll h' Y v d := by
  obtain ⟨as, r, p⟩ := r
  refine ⟨as, readsAll_kept r fun b o e k => hk b o e (k.imp (fun m => (p b m).1) id), fun a m => ⟨(p a m).1, ?_⟩⟩
  obtain ⟨o, e, q⟩ := (p a m).2
  exact ⟨o, hk a o e (.inl (p a m).1), q⟩
theorem Rep.keep {h h' : Heap} {Y : AS} {v : Value} {d : D} (r : Rep h Y v d) (k : Keep h h') : Rep h' Y v d := r.kept fun b o e _ => k b o e
theorem RepAll.keep {h h' : Heap} {Y : AS} {v : List Value} {d : List D} (r : RepAll h Y v d) (k : Keep h h') : RepAll h' Y v d := r.kept fun b o e _ => k b o e
theorem Rep.weak {h : Heap} {Y Y' : AS} {v : Value} {d : D} (r : Rep h Y v d) (k : ∀ a, Y' a → Y a ∨ h.get? a = none) : Rep h Y' v d := by
  obtain ⟨as, r, p⟩ := r
  refine ⟨as, r, fun a m => ⟨fun y => ?_, (p a m).2⟩⟩
  rcases k a y with k | k
  · exact (p a m).1 k
  · obtain ⟨o, e, _⟩ := (p a m).2; rw [e] at k; cases k
theorem RepAll.weak {h : Heap} {Y Y' : AS} {v : List Value} {d : List D} (r : RepAll h Y v d) (k : ∀ a, Y' a → Y a ∨ h.get? a = none) : RepAll h Y' v d := by
  obtain ⟨as, r, p⟩ := r
  refine ⟨as, r, fun a m => ⟨fun y => ?_, (p a m).2⟩⟩
  rcases k a y with k | k
  · exact (p a m).1 k
  · obtain ⟨o, e, _⟩ := (p a m).2; rw [e] at k; cases k

section
variable {h : Heap} {Y : AS} {v : Value}
theorem Rep.int {i : Int} {t : Tok} : Rep h Y (.int i t) (.int i) := ⟨[], .int i t, fun _ m => nomatch m⟩
theorem Rep.bool {b : Bool} : Rep h Y (.bool b) (.bool b) := ⟨[], .bool b, fun _ m => nomatch m⟩
theorem Rep.none : Rep h Y .none .none := ⟨[], .none, fun _ m => nomatch m⟩
theorem Rep.str {x : Str} {t : Tok} : Rep h Y (.str x t) (.str x) := ⟨[], .str x t, fun _ m => nomatch m⟩
theorem Rep.int_inv {i : Int} (r : Rep h Y v (.int i)) : ∃ t, v = .int i t := by obtain ⟨as, r, _⟩ := r; cases r; exact ⟨_, rfl⟩
theorem Rep.bool_inv {b : Bool} (r : Rep h Y v (.bool b)) : v = .bool b := by obtain ⟨as, r, _⟩ := r; cases r; rfl
theorem Rep.none_inv (r : Rep h Y v .none) : v = .none := by obtain ⟨as, r, _⟩ := r; cases r; rfl
theorem Rep.str_inv {x : Str} (r : Rep h Y v (.str x)) : ∃ t, v = .str x t := by obtain ⟨as, r, _⟩ := r; cases r; exact ⟨_, rfl⟩
theorem RepAll.nil : RepAll h Y [] [] := ⟨[], .nil, fun _ m => nomatch m⟩
theorem RepAll.cons {d : D} {vs : List Value} {ds : List D} (r : Rep h Y v d) (q : RepAll h Y vs ds) : RepAll h Y (v :: vs) (d :: ds) := by
  obtain ⟨as, r, p⟩ := r; obtain ⟨bs, r', p'⟩ := q
  exact ⟨as ++ bs, .cons r r', fun a m => (List.mem_append.mp m).elim (p a) (p' a)⟩
theorem RepAll.cons_inv {vs : List Value} {d : D} {ds : List D} (q : RepAll h Y vs (d :: ds)) : ∃ v ws, vs = v :: ws ∧ Rep h Y v d ∧ RepAll h Y ws ds := by
  obtain ⟨as, r, p⟩ := q
  cases r with
  | cons r r' => exact ⟨_, _, rfl, ⟨_, r, fun a m => p a (List.mem_append_left _ m)⟩, ⟨_, r', fun a m => p a (List.mem_append_right _ m)⟩⟩
theorem RepAll.nil_inv {vs : List Value} (q : RepAll h Y vs []) : vs = [] := by obtain ⟨as, r, _⟩ := q; cases r; rfl
theorem RepAll.length : ∀ {vs : List Value} {ds : List D}, RepAll h Y vs ds → vs.length = ds.length
  | vs, [], q => by rw [q.nil_inv]; rfl
  | vs, d :: ds, q => by
    obtain ⟨v, ws, rfl, _, q'⟩ := q.cons_inv
    simp [q'.length]
theorem RepAll.append : ∀ {vs ws : List Value} {ds es : List D}, RepAll h Y vs ds → RepAll h Y ws es → RepAll h Y (vs ++ ws) (ds ++ es)
  | vs, ws, [], es, q, q' => by rw [q.nil_inv]; exact q'
  | vs, ws, d :: ds, es, q, q' => by
    obtain ⟨v, us, rfl, r, q⟩ := q.cons_inv
    exact RepAll.cons r (RepAll.append q q')
theorem RepAll.drop : ∀ (n : Nat) {vs : List Value} {ds : List D}, RepAll h Y vs ds → RepAll h Y (vs.drop n) (ds.drop n)
  | 0, _, _, q => q
  | n + 1, vs, [], q => by rw [q.nil_inv]; exact RepAll.nil
  | n + 1, vs, d :: ds, q => by
    obtain ⟨v, us, rfl, r, q⟩ := q.cons_inv
    exact RepAll.drop n q
theorem RepAll.take : ∀ (n : Nat) {vs : List Value} {ds : List D}, RepAll h Y vs ds → RepAll h Y (vs.take n) (ds.take n)
  | 0, _, _, q => RepAll.nil
  | n + 1, vs, [], q => by rw [q.nil_inv]; exact RepAll.nil
  | n + 1, vs, d :: ds, q => by
    obtain ⟨v, us, rfl, r, q⟩ := q.cons_inv
    exact RepAll.cons r (RepAll.take n q)
theorem RepAll.get : ∀ (i : Nat) {vs : List Value} {ds : List D} {d : D}, RepAll h Y vs ds → ds[i]? = some d → ∃ v, vs[i]? = some v ∧ Rep h Y v d
  | 0, vs, e :: ds, d, q, hd => by
    obtain ⟨v, us, rfl, r, q⟩ := q.cons_inv
    cases hd; exact ⟨v, rfl, r⟩
  | i + 1, vs, e :: ds, d, q, hd => by
    obtain ⟨v, us, rfl, r, q⟩ := q.cons_inv
    exact RepAll.get i q (by simpa using hd)
theorem RepAll.set : ∀ (i : Nat) {vs : List Value} {ds : List D} {d : D}, RepAll h Y vs ds → Rep h Y v d → RepAll h Y (vs.set i v) (ds.set i d)
  | _, vs, [], d, q, _ => by rw [q.nil_inv]; exact RepAll.nil
  | 0, vs, e :: ds, d, q, r => by
    obtain ⟨_, us, rfl, _, q⟩ := q.cons_inv
    exact RepAll.cons r q
  | i + 1, vs, e :: ds, d, q, r => by
    obtain ⟨_, us, rfl, r', q⟩ := q.cons_inv
    exact RepAll.cons r' (RepAll.set i q r)

/-- a list's object, exact -/
abbrev IsLx (h : Heap) (a : Addr) (items : Array Value) : Prop := ∃ n, h.get? a = some { cls := .type "list", dict := none, data := .seq items n, slots := #[] }
theorem IsLx.isList {h : Heap} {a : Addr} {items : Array Value} (x : IsLx h a items) : h.IsList a items := let ⟨n, e⟩ := x; ⟨_, e, rfl, n, rfl⟩

theorem Rep.list {a : Addr} {items : Array Value} {xs : List D} (hl : IsLx h a items) (ha : ¬ Y a) (q : RepAll h Y items.toList xs) : Rep h Y (.ref a) (.list xs) := by
  obtain ⟨as, r, p⟩ := q; obtain ⟨n, e⟩ := hl
  refine ⟨a :: as, .list e rfl rfl r, fun b m => ?_⟩
  rcases List.mem_cons.mp m with rfl | m
  · exact ⟨ha, _, e, rfl, rfl, fun es n q => by cases q⟩
  · exact p b m
theorem Rep.list_inv {xs : List D} (r : Rep h Y v (.list xs)) : ∃ a items, v = .ref a ∧ IsLx h a items ∧ ¬ Y a ∧ RepAll h Y items.toList xs := by
  obtain ⟨as, r, p⟩ := r
  cases r with
  | list h1 h2 h3 h4 =>
    rename_i a o vs n as
    refine ⟨_, _, rfl, ?_, (p _ (.head _)).1, ⟨_, h4, fun b m => p b (.tail _ m)⟩⟩
    obtain ⟨o', e, q1, q2, _⟩ := (p _ (.head _)).2
    rw [h1] at e; cases e
    obtain ⟨c, d, da, sl⟩ := o
    simp only at h2 h3 q1 q2
    subst h2 h3 q1 q2
    exact ⟨n, h1⟩
theorem Rep.tuple {a : Addr} {items : Array Value} {n : Nat} {xs : List D} {o : Obj} (h1 : h.get? a = some o) (h2 : o.cls = .type "tuple") (h3 : o.data = .seq items n) (q : RepAll h Y items.toList xs) : Rep h Y (.ref a) (.tuple xs) := by
  obtain ⟨as, r, p⟩ := q
  exact ⟨as, .tuple h1 h2 h3 r, p⟩
theorem Rep.tuple_inv {xs : List D} (r : Rep h Y v (.tuple xs)) : ∃ a items, v = .ref a ∧ (∃ o n, h.get? a = some o ∧ o.cls = .type "tuple" ∧ o.data = .seq items n) ∧ RepAll h Y items.toList xs := by
  obtain ⟨as, r, p⟩ := r
  cases r with
  | tuple h1 h2 h3 h4 => exact ⟨_, _, rfl, ⟨_, _, h1, h2, h3⟩, ⟨_, h4, p⟩⟩
end

mutual
/-- no list within -/
def flat : D → Bool
  | .none | .bool _ | .int _ | .str _ => true
  | .list _ | .dict _ => false
  | .tuple xs => flatAll xs
def flatAll : List D → Bool
  | [] => true
  | x :: xs => flat x && flatAll xs
end
mutual
theorem reads_flat {h : Heap} : ∀ {v : Value} {d : D} {as : List Addr}, Reads h v d as → flat d = true → as = []
  | _, _, _, .none, _ => rfl
  | _, _, _, .bool b, _ => rfl
  | _, _, _, .int i t, _ => rfl
  | _, _, _, .str x t, _ => rfl
  | _, _, _, .list .., f => by simp [flat] at f
  | _, _, _, .tuple _ _ _ h4, f => readsAll_flat h4 (by simpa [flat] using f)
  | _, _, _, .dict .., f => by simp [flat] at f
theorem readsAll_flat {h : Heap} : ∀ {vs : List Value} {ds : List D} {as : List Addr}, ReadsAll h vs ds as → flatAll ds = true → as = []
  | _, _, _, .nil, _ => rfl
  | _, _, _, .cons h1 h2, f => by
    simp only [flatAll, Bool.and_eq_true] at f
    rw [reads_flat h1 f.1, readsAll_flat h2 f.2]; rfl
end
theorem Rep.of_flat {h : Heap} {Y Y' : AS} {v : Value} {d : D} (r : Rep h Y v d) (f : flat d = true) : Rep h Y' v d := by
  obtain ⟨as, r, _⟩ := r
  rw [reads_flat r f] at r
  exact ⟨[], r, fun _ m => nomatch m⟩

inductive Slot where
  | un
  | val (d : D)
  | own (xs : List D)
  | dic (kvs : List (Int × Int))
def Slot.isOwn : Slot → Prop
  | .own _ => True
  | .dic _ => True
  | _ => False
/-- a dict's object, exact -/
abbrev IsDx (h : Heap) (a : Addr) (es : Array DictEntry) : Prop := ∃ n, h.get? a = some { cls := .type "dict", dict := none, data := .dict es n, slots := #[] }

def OwnAt (vs : Nat → Option Value) (σ : List Slot) (i : Nat) (a : Addr) : Prop := (∃ sl, σ[i]? = some sl ∧ sl.isOwn) ∧ vs i = some (.ref a)

structure GX where
  prog : Program
  w : World
  hb : Heap
  mg : Str → Option Value
  mb : Str → Option Value
structure GX.Ok (G : GX) : Prop where
  g : G.hb.Ns mainGlobals G.mg
  b : G.hb.Ns builtinsNs G.mb
  nolim : G.hb.NoLimit

structure Cx where
  G : GX
  A : Around
  env : Env
  h0 : Heap
  names : List Str
  kinds : List (Str × NameKind)
  room : Nat

/-- what the frame itself may change -/
def Mut (c : Cx) (vs : Nat → Option Value) (σ : List Slot) : AS := fun a => a = c.env.locals ∨ (∃ x, c.env.cells.lookup x = some a) ∨ ∃ i, OwnAt vs σ i a
def Off (c : Cx) (X : AS) (vs : Nat → Option Value) (σ : List Slot) : AS := fun a => X a ∨ Mut c vs σ a

def SlotOk (h : Heap) (Y : AS) (ov : Option Value) : Slot → Prop
  | .un => True
  | .val d => ∃ v, ov = some v ∧ Rep h Y v d
  | .own xs => ∃ a items, ov = some (.ref a) ∧ IsLx h a items ∧ RepAll h Y items.toList xs
  | .dic kvs => ∃ a es, ov = some (.ref a) ∧ IsDx h a es ∧ EPairs es.toList kvs ∧ (kvs.map (·.1)).Nodup ∧ a ≠ sysModules

structure Cx.Ok (c : Cx) : Prop where
  g : c.G.Ok
  keepB : Keep c.G.hb c.h0
  kind : c.env.scope.kind = .function
  glob : c.env.globals = mainGlobals
  bui : c.env.builtins = builtinsNs
  hh : c.A.handled = none
  depth : c.A.depth + c.room < recursionLimit
  units : c.A.units + 8 * c.room + 100 < cLine
  names : c.names.Nodup
  kinds : ∀ x, c.env.kindOf x = c.kinds.lookup x
  cells : c.env.cells.Pairwise fun x y => x.2 ≠ y.2
  cellL : ∀ x a, c.env.cells.lookup x = some a → a ≠ c.env.locals

structure Inv (c : Cx) (X : AS) (h : Heap) (vs : Nat → Option Value) (σ : List Slot) : Prop where
  ok : c.Ok
  keep : Keep c.h0 h
  loc : ∃ m, h.Ns c.env.locals m ∧ ∀ i x, c.names[i]? = some x → c.env.kindOf x = some .local → m x = vs i
  cel : ∀ i x, c.names[i]? = some x → c.env.kindOf x = some .cell → ∃ a, c.env.cells.lookup x = some a ∧ h.IsCell a (vs i)
  slot : ∀ i sl, σ[i]? = some sl → SlotOk h (Off c X vs σ) (vs i) sl
  own1 : ∀ i j a, OwnAt vs σ i a → OwnAt vs σ j a → i = j
  ownC : ∀ i a, OwnAt vs σ i a → a ≠ c.env.locals ∧ ∀ x, c.env.cells.lookup x ≠ some a
  sep : ∀ a, Mut c vs σ a → ¬ X a ∧ c.h0.get? a = none
  alive : ∀ a, Off c X vs σ a → ∃ o, h.get? a = some o ∧ NT o
  base : ∀ a, X a → c.G.hb.get? a = none

theorem SlotOk.kept {h h' : Heap} {Y : AS} {ov : Option Value} : ∀ {sl : Slot}, SlotOk h Y ov sl → (∀ b o, h.get? b = some o → ¬ Y b ∨ ¬ NT o → h'.get? b = some o) →
    (sl.isOwn → ∀ a, ov = some (.ref a) → ∀ o, h.get? a = some o → h'.get? a = some o) → SlotOk h' Y ov sl
  | .un, _, _, _ => trivial
  | .val _, ⟨v, e, r⟩, hk, _ => ⟨v, e, r.kept hk⟩
  | .own xs, ⟨a, items, e, ⟨n, hl⟩, r⟩, hk, ho => ⟨a, items, e, ⟨n, ho trivial a e _ hl⟩, r.kept hk⟩
  | .dic _, ⟨a, es, e, ⟨n, hl⟩, r⟩, _, ho => ⟨a, es, e, ⟨n, ho trivial a e _ hl⟩, r⟩

/-- the heap changes, but nowhere at what the frame holds -/
theorem Inv.changeTo {c : Cx} {X X' : AS} {h h' : Heap} {vs : Nat → Option Value} {σ : List Slot} (I : Inv c X' h vs σ) (hXX : ∀ a, X a → X' a) (h0 : Keep c.h0 h')
    (hk : ∀ b o, h.get? b = some o → ¬ Off c X' vs σ b ∨ ¬ NT o ∨ Mut c vs σ b → h'.get? b = some o)
    (hX : ∀ a, X a → ∃ o, h'.get? a = some o ∧ NT o) : Inv c X h' vs σ := by
  have hk' : ∀ b o, h.get? b = some o → ¬ Off c X' vs σ b ∨ ¬ NT o → h'.get? b = some o := fun b o e k => hk b o e (k.imp id .inl)
  have hm : ∀ b o, h.get? b = some o → Mut c vs σ b → h'.get? b = some o := fun b o e k => hk b o e (.inr (.inr k))
  have hoff : ∀ a, Off c X vs σ a → Off c X' vs σ a := fun a k => k.imp (hXX a) id
  refine ⟨I.ok, h0, ?_, ?_, ?_, I.own1, I.ownC, fun a m => ⟨fun x => (I.sep a m).1 (hXX a x), (I.sep a m).2⟩, ?_, fun a x => I.base a (hXX a x)⟩
  · obtain ⟨m, hn, r⟩ := I.loc
    exact ⟨m, hn.at' fun o e => hm _ o e (.inl rfl), r⟩
  · intro i x e1 e2
    obtain ⟨a, e3, o, e4, e5⟩ := I.cel i x e1 e2
    exact ⟨a, e3, o, hm a o e4 (.inr (.inl ⟨x, e3⟩)), e5⟩
  · intro i sl e
    have := (I.slot i sl e).kept hk' fun e1 a e2 o e3 => hm a o e3 (.inr (.inr ⟨i, ⟨sl, e, e1⟩, e2⟩))
    cases sl with
    | un => trivial
    | val d => obtain ⟨v, e, r⟩ := this; exact ⟨v, e, r.weak fun b y => .inl (hoff b y)⟩
    | own ys => obtain ⟨b, items, e, l, r⟩ := this; exact ⟨b, items, e, l, r.weak fun b y => .inl (hoff b y)⟩
    | dic kv => exact this
  · intro a k
    rcases k with k | k
    · exact hX a k
    · obtain ⟨o, e, n⟩ := I.alive a (.inr k)
      exact ⟨o, hm a o e k, n⟩
theorem Inv.change {c : Cx} {X : AS} {h h' : Heap} {vs : Nat → Option Value} {σ : List Slot} (I : Inv c X h vs σ) (h0 : Keep c.h0 h')
    (hk : ∀ b o, h.get? b = some o → ¬ Off c X vs σ b ∨ ¬ NT o ∨ Mut c vs σ b → h'.get? b = some o)
    (hX : ∀ a, X a → ∃ o, h'.get? a = some o ∧ NT o) : Inv c X h' vs σ := I.changeTo (fun _ x => x) h0 hk hX
theorem Inv.grow {c : Cx} {X : AS} {h h' : Heap} {vs : Nat → Option Value} {σ : List Slot} (I : Inv c X h vs σ) (k : Keep h h') : Inv c X h' vs σ :=
  I.change (I.keep.trans k) (fun b o e _ => k b o e) fun a x => let ⟨o, e, n⟩ := I.alive a (.inl x); ⟨o, k a o e, n⟩

/-- an expression's value -/
structure EV (c : Cx) (σ : List Slot) (e : Expr) (d : D) : Prop where
  run : ∀ (s : Shared) (X : AS) (vs : Nat → Option Value) (R : Value → Shared → Prop) (E : Value → Shared → Prop), Inv c X s.heap vs σ →
    (∀ v h' tk', Keep s.heap h' → Rep h' (Off c X vs σ) v d → R v { s with heap := h', toks := tk' }) → wpAny (model c.G.prog c.G.w) c.A (eval e c.env) R E s

/-- a new list's -/
structure EVF (c : Cx) (σ : List Slot) (e : Expr) (xs : List D) : Prop where
  run : ∀ (s : Shared) (X : AS) (vs : Nat → Option Value) (R : Value → Shared → Prop) (E : Value → Shared → Prop), Inv c X s.heap vs σ →
    (∀ a items h' tk', Keep s.heap h' → s.heap.get? a = none → IsLx h' a items → RepAll h' (fun b => Off c X vs σ b ∨ b = a) items.toList xs → R (.ref a) { s with heap := h', toks := tk' }) → wpAny (model c.G.prog c.G.w) c.A (eval e c.env) R E s

/-- a test's -/
structure TS (c : Cx) (σ : List Slot) (e : Expr) (b : Bool) : Prop where
  run : ∀ (s : Shared) (X : AS) (vs : Nat → Option Value) (R : Bool → Shared → Prop) (E : Value → Shared → Prop), Inv c X s.heap vs σ →
    (∀ h' tk', Keep s.heap h' → R b { s with heap := h', toks := tk' }) → wpAny (model c.G.prog c.G.w) c.A (isTrue e c.env (eval e c.env)) R E s

inductive Out where
  | next (σ : List Slot)
  | cont (σ : List Slot)
  | brk (σ : List Slot)
  | ret (d : D)

/-- what a run of statements leaves -/
def OutOk (c : Cx) (X : AS) (h : Heap) (vs : Nat → Option Value) (σ : List Slot) (h' : Heap) : Out → Flow → Prop
  | .next σ', f => f = .next ∧ (∀ b o, ¬ Mut c vs σ b → h.get? b = some o → h'.get? b = some o) ∧ ∃ vs', Inv c X h' vs' σ' ∧ ∀ a, Mut c vs' σ' a → Mut c vs σ a ∨ h.get? a = none
  | .cont σ', f => f = .cont ∧ (∀ b o, ¬ Mut c vs σ b → h.get? b = some o → h'.get? b = some o) ∧ ∃ vs', Inv c X h' vs' σ' ∧ ∀ a, Mut c vs' σ' a → Mut c vs σ a ∨ h.get? a = none
  | .brk σ', f => f = .brk ∧ (∀ b o, ¬ Mut c vs σ b → h.get? b = some o → h'.get? b = some o) ∧ ∃ vs', Inv c X h' vs' σ' ∧ ∀ a, Mut c vs' σ' a → Mut c vs σ a ∨ h.get? a = none
  | .ret d, f => ∃ v, f = .ret v ∧ (∀ b o, ¬ Mut c vs σ b → h.get? b = some o → h'.get? b = some o) ∧ Rep h' X v d

structure WS (c : Cx) (σ : List Slot) (st : Stmt) (Q : Out → Prop) : Prop where
  run : ∀ (s : Shared) (X : AS) (vs : Nat → Option Value) (R : Flow → Shared → Prop) (E : Value → Shared → Prop), Inv c X s.heap vs σ →
    (∀ out f h' tk', Q out → OutOk c X s.heap vs σ h' out f → R f { s with heap := h', toks := tk' }) → wpAny (model c.G.prog c.G.w) c.A (exec st c.env) R E s
structure WP (c : Cx) (σ : List Slot) (ss : List Stmt) (Q : Out → Prop) : Prop where
  run : ∀ (s : Shared) (X : AS) (vs : Nat → Option Value) (R : Flow → Shared → Prop) (E : Value → Shared → Prop), Inv c X s.heap vs σ →
    (∀ out f h' tk', Q out → OutOk c X s.heap vs σ h' out f → R f { s with heap := h', toks := tk' }) → wpAny (model c.G.prog c.G.w) c.A (execs ss c.env) R E s

end Mine
end
section
namespace Mine
open PySem PySem.Calls

def upd (vs : Nat → Option Value) (i : Nat) (v : Value) : Nat → Option Value := fun j => if j = i then some v else vs j

inductive StoreRel (c : Cx) (x : Str) (v : Value) (h h' : Heap) : Prop
  | loc : c.env.kindOf x = some .local → Heap.SameBut c.env.locals h h' → (∃ m, h.Ns c.env.locals m ∧ h'.Ns c.env.locals (fun y => if y = x then some v else m y)) → StoreRel c x v h h'
  | cel (a : Addr) : c.env.kindOf x = some .cell → c.env.cells.lookup x = some a → Heap.SameBut a h h' → h'.IsCell a (some v) → StoreRel c x v h h'

theorem StoreRel.place {c : Cx} {x : Str} {v : Value} {h h' : Heap} (S : StoreRel c x v h h') : ∃ p, (p = c.env.locals ∨ ∃ x, c.env.cells.lookup x = some p) ∧ Heap.SameBut p h h' ∧ ∃ o, h'.get? p = some o ∧ NT o := by
  cases S with
  | loc k s e =>
    obtain ⟨m, _, o, es, ep, e1, e2, _⟩ := e
    exact ⟨_, .inl rfl, s, o, e1, fun _ vs n q => by rw [e2] at q; cases q⟩
  | cel a k l s e =>
    obtain ⟨o, e1, e2⟩ := e
    exact ⟨a, .inr ⟨x, l⟩, s, o, e1, fun _ vs n q => by rw [e2] at q; cases q⟩

theorem wp_store {c : Cx} {X : AS} {s : Shared} {vs : Nat → Option Value} {σ : List Slot} {i : Nat} {x : Str} {v : Value} {R : Unit → Shared → Prop} {E : Value → Shared → Prop} (I : Inv c X s.heap vs σ)
    (hi : c.names[i]? = some x) (hk : c.env.kindOf x = some .local ∨ c.env.kindOf x = some .cell)
    (k : ∀ h' tk', StoreRel c x v s.heap h' → R () { s with heap := h', toks := tk' }) : wpAny (model c.G.prog c.G.w) c.A (storeName c.env x v) R E s := by
  rcases hk with hk | hk
  · obtain ⟨m, hn, _⟩ := I.loc
    exact wpAny_storeName_local hk hn (fun h' hn' hs' => k h' _ (.loc hk hs' ⟨m, hn, hn'⟩)) (by rw [I.ok.kind]; rfl)
  · obtain ⟨a, e1, e2⟩ := I.cel i x hi hk
    exact wpAny_storeName_cell I.ok.kind hk e1 e2 fun h' hc hs => k h' _ (.cel a hk e1 hs hc)

theorem names_inj {c : Cx} (ok : c.Ok) {i j : Nat} {x : Str} (hi : c.names[i]? = some x) (hj : c.names[j]? = some x) : i = j := by
  obtain ⟨h1, e1⟩ := List.getElem?_eq_some_iff.mp hi
  obtain ⟨h2, e2⟩ := List.getElem?_eq_some_iff.mp hj
  exact (List.getElem_inj ok.names).mp (e1.trans e2.symm)

theorem lookup_inj {c : Cx} (ok : c.Ok) {x y : Str} {a : Addr} (hx : c.env.cells.lookup x = some a) (hy : c.env.cells.lookup y = some a) : x = y :=
  name_of_addr ok.cells (mem_of_lookup hx) (mem_of_lookup hy)

section
variable {c : Cx} {X X1 : AS} {h h' : Heap} {vs : Nat → Option Value} {σ : List Slot} {i : Nat} {x : Str} {v : Value} {sl : Slot}

theorem upd_self : upd vs i v i = some v := if_pos rfl
theorem upd_ne {j : Nat} (hj : j ≠ i) : upd vs i v j = vs j := if_neg hj

theorem own_upd {j : Nat} {a : Addr} (o : OwnAt (upd vs i v) (σ.set i sl) j a) : (j ≠ i ∧ OwnAt vs σ j a) ∨ (j = i ∧ sl.isOwn ∧ v = .ref a) := by
  obtain ⟨⟨xs, e, ho⟩, e2⟩ := o
  by_cases hj : j = i
  · subst hj
    rw [upd_self] at e2
    refine .inr ⟨rfl, ?_, Option.some.inj e2⟩
    rw [List.getElem?_set] at e
    simp only [if_true] at e
    split at e
    · rw [Option.some.inj e]; exact ho
    · cases e
  · rw [upd_ne hj] at e2
    rw [List.getElem?_set_ne (Ne.symm hj)] at e
    exact .inl ⟨hj, ⟨xs, e, ho⟩, e2⟩

/-- a variable is given a new value; a new owned address, if any, was off limits before -/
theorem Inv.put (I : Inv c X1 h vs σ) (S : StoreRel c x v h h') (hi : c.names[i]? = some x) (hX : ∀ a, X a → X1 a)
    (hown : sl.isOwn → ∀ a, v = .ref a → X1 a ∧ ¬ X a ∧ c.h0.get? a = none)
    (hsl : i < σ.length → SlotOk h (Off c X1 vs σ) (some v) sl) : Inv c X h' (upd vs i v) (σ.set i sl) := by
  obtain ⟨p, hp, sb, op, hop, hnt⟩ := S.place
  have hpm : Mut c vs σ p := hp.elim .inl fun q => .inr (.inl q)
  have hmut : ∀ a, Mut c (upd vs i v) (σ.set i sl) a → Mut c vs σ a ∨ (X1 a ∧ ¬ X a ∧ c.h0.get? a = none) := by
    rintro a (k | k | ⟨j, k⟩)
    · exact .inl (.inl k)
    · exact .inl (.inr (.inl k))
    · rcases own_upd k with ⟨_, k⟩ | ⟨_, k1, k2⟩
      · exact .inl (.inr (.inr ⟨j, k⟩))
      · exact .inr (hown k1 a k2)
  have hoff : ∀ a, Off c X (upd vs i v) (σ.set i sl) a → Off c X1 vs σ a := by
    rintro a (k | k)
    · exact .inl (hX a k)
    · exact (hmut a k).elim .inr fun k => .inl k.1
  have hkeep : ∀ b o, h.get? b = some o → b ≠ p → h'.get? b = some o := fun b o e n => (sb.2 b n).trans e
  have hkept : ∀ b o, h.get? b = some o → ¬ Off c X1 vs σ b ∨ ¬ NT o → h'.get? b = some o := fun b o e k => hkeep b o e fun q => by
    subst q
    rcases k with k | k
    · exact k (.inr hpm)
    · obtain ⟨o', e', n⟩ := I.alive b (.inr hpm)
      rw [e] at e'; cases e'; exact k n
  have up : ∀ {ov : Option Value} {sl' : Slot}, SlotOk h (Off c X1 vs σ) ov sl' → (sl'.isOwn → ∀ a, ov = some (.ref a) → a ≠ p) → SlotOk h' (Off c X (upd vs i v) (σ.set i sl)) ov sl' := by
    intro ov sl' hs hne
    have h1 := hs.kept hkept fun e1 a e2 o e3 => hkeep a o e3 (hne e1 a e2)
    cases sl' with
    | un => trivial
    | val d => obtain ⟨v, e, r⟩ := h1; exact ⟨v, e, r.weak fun a y => .inl (hoff a y)⟩
    | own xs => obtain ⟨a, items, e, l, r⟩ := h1; exact ⟨a, items, e, l, r.weak fun a y => .inl (hoff a y)⟩
    | dic kv => exact h1
  have fresh : ∀ b, Mut c vs σ b → c.h0.get? b = none := fun b m => (I.sep b m).2
  refine ⟨I.ok, fun b o e => hkeep b o (I.keep b o e) fun q => ?_, ?_, ?_, ?_, ?_, ?_, ?_, ?_, fun a x => I.base a (hX a x)⟩
  · subst q; rw [fresh b hpm] at e; cases e
  · obtain ⟨m, hn, hm⟩ := I.loc
    cases S with
    | loc k s e =>
      obtain ⟨m', hn', hn''⟩ := e
      refine ⟨_, hn'', fun j y hj hy => ?_⟩
      by_cases q : y = x
      · subst q
        rw [if_pos rfl, names_inj I.ok hj hi, upd_self]
      · rw [if_neg q]
        have : j ≠ i := fun w => q (by rw [w, hi] at hj; exact (Option.some.inj hj).symm)
        rw [upd_ne this, ← hm j y hj hy]
        obtain ⟨o1, es1, ep1, a1, a2, _, a4⟩ := hn
        obtain ⟨o2, es2, ep2, b1, b2, _, b4⟩ := hn'
        rw [a1] at b1; cases b1; rw [a2] at b2; cases b2
        rw [← a4, ← b4]
    | cel a k l s e =>
      refine ⟨m, hn.sameBut s (Ne.symm (I.ok.cellL _ _ l)), fun j y hj hy => ?_⟩
      have : j ≠ i := fun w => by rw [w, hi] at hj; cases hj; rw [k] at hy; cases hy
      rw [upd_ne this]; exact hm j y hj hy
  · intro j y hj hy
    obtain ⟨a, e1, e2⟩ := I.cel j y hj hy
    refine ⟨a, e1, ?_⟩
    cases S with
    | loc k s e =>
      have : j ≠ i := fun w => by rw [w, hi] at hj; cases hj; rw [k] at hy; cases hy
      rw [upd_ne this]
      obtain ⟨o, e3, e4⟩ := e2
      exact ⟨o, (s.2 a (I.ok.cellL _ _ e1)).trans e3, e4⟩
    | cel b k l s e =>
      by_cases q : y = x
      · subst q
        rw [l] at e1; cases e1
        rw [names_inj I.ok hj hi, upd_self]; exact e
      · have : j ≠ i := fun w => q (by rw [w, hi] at hj; exact (Option.some.inj hj).symm)
        rw [upd_ne this]
        obtain ⟨o, e3, e4⟩ := e2
        exact ⟨o, (s.2 a fun w => q (lookup_inj I.ok (w ▸ e1) l)).trans e3, e4⟩
  · intro j sl' hj
    by_cases q : j = i
    · subst q
      rw [List.getElem?_set] at hj
      simp only [if_true] at hj
      split at hj
      · rename_i hlt
        cases hj
        rw [upd_self]
        refine up (hsl hlt) fun e1 a e2 => ?_
        intro w; subst w
        exact (I.sep _ hpm).1 (hown e1 _ (Option.some.inj e2)).1
      · cases hj
    · rw [List.getElem?_set_ne (Ne.symm q)] at hj
      rw [upd_ne q]
      refine up (I.slot j sl' hj) fun e1 a e2 w => ?_
      subst w
      obtain ⟨n1, n2⟩ := I.ownC j _ ⟨⟨sl', hj, e1⟩, e2⟩
      exact hp.elim n1 fun ⟨y, q⟩ => n2 y q
  · intro j k a hj hk
    rcases own_upd hj with ⟨j1, hj'⟩ | ⟨q1, j1, j2⟩ <;> rcases own_upd hk with ⟨k1, hk'⟩ | ⟨q2, k1, k2⟩
    · exact I.own1 j k a hj' hk'
    · exact absurd (hown k1 a k2).1 (I.sep a (.inr (.inr ⟨j, hj'⟩))).1
    · exact absurd (hown j1 a j2).1 (I.sep a (.inr (.inr ⟨k, hk'⟩))).1
    · exact q1.trans q2.symm
  · intro j a hj
    rcases own_upd hj with ⟨_, hj⟩ | ⟨rfl, j1, j2⟩
    · exact I.ownC j a hj
    · have q := (hown j1 a j2).1
      exact ⟨fun w => (I.sep a (.inl w)).1 q, fun y w => (I.sep a (.inr (.inl ⟨y, w⟩))).1 q⟩
  · intro a k
    rcases hmut a k with k | k
    · exact ⟨fun q => (I.sep a k).1 (hX a q), (I.sep a k).2⟩
    · exact ⟨k.2.1, k.2.2⟩
  · intro a k
    by_cases q : a = p
    · subst q; exact ⟨op, hop, hnt⟩
    · obtain ⟨o, e, n⟩ := I.alive a (hoff a k)
      exact ⟨o, hkeep a o e q, n⟩

theorem mut_put (hown : sl.isOwn → ∀ a, v = .ref a → h.get? a = none) {a : Addr} (k : Mut c (upd vs i v) (σ.set i sl) a) : Mut c vs σ a ∨ h.get? a = none := by
  rcases k with k | k | ⟨j, k⟩
  · exact .inl (.inl k)
  · exact .inl (.inr (.inl k))
  · rcases own_upd k with ⟨_, k⟩ | ⟨_, k1, k2⟩
    · exact .inl (.inr (.inr ⟨j, k⟩))
    · exact .inr (hown k1 a k2)

theorem StoreRel.keeps (S : StoreRel c x v h h') : ∀ b o, ¬ Mut c vs σ b → h.get? b = some o → h'.get? b = some o := by
  obtain ⟨p, hp, sb, _⟩ := S.place
  intro b o n e
  exact (sb.2 b fun q => n (by subst q; exact hp.elim .inl fun q => .inr (.inl q))).trans e

theorem none_hb {a : Addr} (I : Inv c X h vs σ) (hn : h.get? a = none) : c.G.hb.get? a = none := by
  cases q : c.G.hb.get? a with
  | none => rfl
  | some o => rw [I.keep a o (I.ok.keepB a o q)] at hn; cases hn
/-- a new address is put off limits -/
theorem Inv.guard {a : Addr} (I : Inv c X h vs σ) (k : Keep h h') (hn : h.get? a = none) (ha : ∃ o, h'.get? a = some o ∧ NT o) : Inv c (fun b => X b ∨ b = a) h' vs σ := by
  have I' := I.grow k
  have hm : ∀ b, Mut c vs σ b → b ≠ a := fun b m q => by
    subst q; obtain ⟨o, e, _⟩ := I.alive b (.inr m); rw [hn] at e; cases e
  refine ⟨I.ok, I'.keep, I'.loc, I'.cel, fun i sl e => ?_, I.own1, I.ownC, fun b m => ⟨fun q => q.elim (I.sep b m).1 (hm b m), (I.sep b m).2⟩, ?_, fun b q => q.elim (I.base b) fun w => by subst w; exact none_hb I hn⟩
  · have := I.slot i sl e
    have hY : ∀ b, Off c (fun b => X b ∨ b = a) vs σ b → Off c X vs σ b ∨ h.get? b = none := by
      rintro b ((k | rfl) | k)
      · exact .inl (.inl k)
      · exact .inr hn
      · exact .inl (.inr k)
    cases sl with
    | un => trivial
    | val d => obtain ⟨v, e, r⟩ := this; exact ⟨v, e, (r.weak hY).keep k⟩
    | own xs => obtain ⟨b, items, e, ⟨n, l⟩, r⟩ := this; exact ⟨b, items, e, ⟨n, k _ _ l⟩, (r.weak hY).keep k⟩
    | dic kv => obtain ⟨b, es, e, ⟨n, l⟩, r⟩ := this; exact ⟨b, es, e, ⟨n, k _ _ l⟩, r⟩
  · rintro b ((q | rfl) | q)
    · exact I'.alive b (.inl q)
    · exact ha
    · exact I'.alive b (.inr q)
end
end Mine
end
section
namespace Mine
open PySem PySem.Calls

section
variable {c : Cx} {σ : List Slot}

theorem EV.int {i : Int} {k : Nat} {p : Pos} : EV c σ (.Constant (.int i) k p) (.int i) :=
  ⟨fun _ _ _ _ _ _ q => wpAny_Constant_int (q _ _ _ (Keep.refl _) Rep.int)⟩
theorem EV.bool {b : Bool} {k : Nat} {p : Pos} : EV c σ (.Constant (.bool b) k p) (.bool b) :=
  ⟨fun s _ _ _ _ _ q => wpAny_Constant_bool (q _ s.heap s.toks (Keep.refl _) Rep.bool)⟩
theorem EV.str {x : Str} {k : Nat} {p : Pos} : EV c σ (.Constant (.str x) k p) (.str x) :=
  ⟨fun _ _ _ _ _ _ q => wpAny_Constant_str (q _ _ _ (Keep.refl _) Rep.str)⟩

/-- a variable's place -/
def slotOf : List Str → Str → Option Nat
  | [], _ => none
  | y :: r, x => if y = x then some 0 else (slotOf r x).map (· + 1)
theorem slotOf_get : ∀ {l : List Str} {x : Str} {i : Nat}, slotOf l x = some i → l[i]? = some x
  | y :: r, x, i, e => by
    unfold slotOf at e
    split at e
    · rename_i q; cases e; rw [q]; rfl
    · cases q : slotOf r x with
      | none => rw [q] at e; cases e
      | some j => rw [q] at e; cases e; simpa using slotOf_get q

theorem wp_load {X : AS} {s : Shared} {vs : Nat → Option Value} {i : Nat} {x : Str} {p : Pos} {v : Value} {R : Value → Shared → Prop} {E : Value → Shared → Prop} (I : Inv c X s.heap vs σ)
    (hi : c.names[i]? = some x) (hk : c.env.kindOf x = some .local ∨ c.env.kindOf x = some .cell) (hd : (x == ("__debug__" : Str)) = false) (hv : vs i = some v) (q : R v s) :
    wpAny (model c.G.prog c.G.w) c.A (eval (.Name x p) c.env) R E s := by
  refine wpAny_Name ?_ hd
  rcases hk with hk | hk
  · obtain ⟨m, hn, hm⟩ := I.loc
    exact wpAny_loadName_local I.ok.kind hk hn ((hm i x hi hk).trans hv) q
  · obtain ⟨a, e1, e2⟩ := I.cel i x hi hk
    exact wpAny_loadName_cell I.ok.kind hk e1 (hv ▸ e2) q

def isVar (c : Cx) (x : Str) : Bool := (c.kinds.lookup x == some .local || c.kinds.lookup x == some .cell) && !(x == ("__debug__" : Str))
theorem isVar.kind {x : Str} (ok : c.Ok) (h : isVar c x = true) : (c.env.kindOf x = some .local ∨ c.env.kindOf x = some .cell) ∧ (x == ("__debug__" : Str)) = false := by
  rw [ok.kinds]; simpa [isVar] using h

theorem EV.var {x : Str} {p : Pos} {i : Nat} {d : D} (hi : slotOf c.names x = some i) (hk : isVar c x = true) (hd : σ[i]? = some (.val d)) : EV c σ (.Name x p) d := by
  constructor; intro s X vs R E I q
  obtain ⟨v, e, r⟩ := I.slot i _ hd
  exact wp_load I (slotOf_get hi) (isVar.kind I.ok hk).1 (isVar.kind I.ok hk).2 e (q v s.heap s.toks (Keep.refl _) r)

/-- a name of the module: a constant -/
theorem EV.glob {x : Str} {p : Pos} {d : D} {v : Value} (hk : c.kinds.lookup x = some .globalImplicit) (hd : (x == ("__debug__" : Str)) = false) (hg : c.G.mg x = some v) (hr : ∀ h, Keep c.G.hb h → Reads h v d []) : EV c σ (.Name x p) d := by
  constructor; intro s X vs R E I q
  refine Name_function_global I.ok.kind ((I.ok.kinds x).trans hk) (loadGlobal_global (env := c.env) ?_ hg (q v s.heap s.toks (Keep.refl _) ⟨[], hr _ (I.ok.keepB.trans I.keep), fun _ m => nomatch m⟩)) hd
  rw [I.ok.glob]
  exact (I.ok.g.g.keeps I.ok.keepB).keeps I.keep

section
variable {l r : Expr} {p : Pos} {a b : Int}
/-- two operands, then the operation -/
theorem EV.bin2 {op : Operator} {da db d : D} (hl : EV c σ l da) (hr : EV c σ r db)
    (h : ∀ (s : Shared) (X : AS) (vs : Nat → Option Value) (u v : Value) (R : Value → Shared → Prop) (E : Value → Shared → Prop), Inv c X s.heap vs σ → Rep s.heap (Off c X vs σ) u da → Rep s.heap (Off c X vs σ) v db →
      (∀ v h' tk', Keep s.heap h' → Rep h' (Off c X vs σ) v d → R v { s with heap := h', toks := tk' }) → wpAny (model c.G.prog c.G.w) c.A (binaryOp op u v) R E s) : EV c σ (.BinOp l op r p) d := by
  constructor; intro s X vs R E I q
  refine wpAny_BinOp (hl.run s X vs _ _ I fun u h1 t1 k1 r1 => hr.run _ X vs _ _ (I.grow k1) fun v h2 t2 k2 r2 => ?_)
  exact h _ X vs u v _ _ ((I.grow k1).grow k2) (r1.keep k2) r2 fun v h' tk' k r => q v h' tk' (k1.trans (k2.trans k)) r

theorem EV.add (hl : EV c σ l (.int a)) (hr : EV c σ r (.int b)) : EV c σ (.BinOp l .Add r p) (.int (a + b)) :=
  EV.bin2 hl hr fun s X vs u v R E I ru rv q => by
    obtain ⟨_, rfl⟩ := ru.int_inv; obtain ⟨_, rfl⟩ := rv.int_inv
    exact PyProof.Rows.add_int (q _ _ _ (Keep.refl _) Rep.int)
theorem EV.sub (hl : EV c σ l (.int a)) (hr : EV c σ r (.int b)) : EV c σ (.BinOp l .Sub r p) (.int (a - b)) :=
  EV.bin2 hl hr fun s X vs u v R E I ru rv q => by
    obtain ⟨_, rfl⟩ := ru.int_inv; obtain ⟨_, rfl⟩ := rv.int_inv
    exact PyProof.Rows.sub_int (q _ _ _ (Keep.refl _) Rep.int)
theorem intBits_small {a : Int} (h : a.natAbs < 2 ^ 64) : Builtin.Int.intBits a ≤ 64 := by
  unfold Builtin.Int.intBits
  split
  · omega
  · rename_i hz
    have h0 : a.natAbs ≠ 0 := by simpa using hz
    have := (Nat.log2_lt h0).mpr h
    omega
theorem EV.mul (hl : EV c σ l (.int a)) (hr : EV c σ r (.int b)) (hs : a.natAbs < 2 ^ 64 ∨ b.natAbs < 2 ^ 64) : EV c σ (.BinOp l .Mult r p) (.int (a * b)) :=
  EV.bin2 hl hr fun s X vs u v R E I ru rv q => by
    obtain ⟨_, rfl⟩ := ru.int_inv; obtain ⟨_, rfl⟩ := rv.int_inv
    exact PyProof.Rows.mul_int (q _ _ _ (Keep.refl _) Rep.int) (hs.elim (fun h => .of_left (intBits_small h)) fun h => .of_right (intBits_small h))
theorem EV.mod (hl : EV c σ l (.int a)) (hr : EV c σ r (.int b)) (hb : b ≠ 0) : EV c σ (.BinOp l .Mod r p) (.int (a.fmod b)) :=
  EV.bin2 hl hr fun s X vs u v R E I ru rv q => by
    obtain ⟨_, rfl⟩ := ru.int_inv; obtain ⟨_, rfl⟩ := rv.int_inv
    exact PyProof.Rows.mod_int' hb (q _ _ _ (Keep.refl _) Rep.int)
theorem EV.fdiv (hl : EV c σ l (.int a)) (hr : EV c σ r (.int b)) (hb : b ≠ 0) (hs : b.natAbs < 1073741824) : EV c σ (.BinOp l .FloorDiv r p) (.int (a.fdiv b)) :=
  EV.bin2 hl hr fun s X vs u v R E I ru rv q => by
    obtain ⟨_, rfl⟩ := ru.int_inv; obtain ⟨_, rfl⟩ := rv.int_inv
    exact PyProof.Rows.floordiv_int hb (q _ _ _ (Keep.refl _) Rep.int) (.inl (PyProof.noPylong_small hs))
end

/-- arguments -/
structure EVs (c : Cx) (σ : List Slot) (es : List Expr) (ds : List D) : Prop where
  run : ∀ (s : Shared) (X : AS) (vs : Nat → Option Value) (R : List Value → Shared → Prop) (E : Value → Shared → Prop) (pos : Pos), Inv c X s.heap vs σ →
    (∀ us h' tk', Keep s.heap h' → RepAll h' (Off c X vs σ) us ds → R us { s with heap := h', toks := tk' }) → wpAny (model c.G.prog c.G.w) c.A (spliced (backTo pos (starEach es c.env))) R E s
def noStar : Expr → Bool
  | .Starred .. => false
  | _ => true
theorem starEach_of {e : Expr} {rest : List Expr} {env : Env} (h : noStar e = true) : starEach (e :: rest) env = (false, eval e env) :: starEach rest env := by
  cases e <;> first | rfl | cases h
theorem EVs.nil : EVs c σ [] [] := ⟨fun s _ _ _ _ _ _ q => wpAny_items_nil (q [] s.heap s.toks (Keep.refl _) RepAll.nil)⟩
theorem EVs.cons {e : Expr} {es : List Expr} {d : D} {ds : List D} (he : EV c σ e d) (hs : EVs c σ es ds) (hn : noStar e = true) : EVs c σ (e :: es) (d :: ds) := by
  constructor; intro s X vs R E pos I q
  refine wpAny_items_cons (he.run s X vs _ _ I fun v h1 t1 k1 r1 => hs.run _ X vs _ _ pos (I.grow k1) fun us h2 t2 k2 r2 => ?_) (starEach_of hn)
  exact q _ h2 t2 (k1.trans k2) (RepAll.cons (r1.keep k2) r2)

theorem EVs.one {e : Expr} {d : D} (he : EV c σ e d) (hn : noStar e = true) : EVs c σ [e] [d] := EVs.cons he EVs.nil hn
theorem EVs.two {e e' : Expr} {d d' : D} (he : EV c σ e d) (he' : EV c σ e' d') (hn : noStar e = true) (hn' : noStar e' = true) : EVs c σ [e, e'] [d, d'] := EVs.cons he (EVs.one he' hn') hn

theorem noStar_any {pos : Pos} {env : Env} : ∀ {es : List Expr}, es.all noStar = true → (backTo pos (starEach es env)).any (·.1) = false
  | [], _ => rfl
  | e :: es, h => by
    simp only [List.all_cons, Bool.and_eq_true] at h
    rw [starEach_of h.1]
    show (false || (backTo pos (starEach es env)).any (·.1)) = false
    rw [noStar_any h.2]; rfl

/-- a call's arguments, and behind them the call -/
theorem wp_args {pos : Pos} {f : Value} {e : Expr} {es : List Expr} {s : Shared} {R : Args → Shared → Prop} {E : Value → Shared → Prop} (hn : noStar e = true)
    (h : wpAny (model c.G.prog c.G.w) c.A (spliced (backTo pos (starEach (e :: es) c.env))) (fun vs s' => R ⟨vs, []⟩ s') E s) :
    wpAny (model c.G.prog c.G.w) c.A (evalArgs f true (backTo pos (starEach (e :: es) c.env)) []) R E s := by
  rw [starEach_of hn] at h ⊢
  exact evalArgs_plain h

/-- a built-in function of the module's builtins -/
structure BI (G : GX) (f : Str) (v : Value) : Prop where
  miss : G.mg f = none
  is : G.mb f = some v
structure isBui (c : Cx) (f : Str) (v : Value) : Prop where
  kind : c.kinds.lookup f = some .globalImplicit
  deb : (f == ("__debug__" : Str)) = false
  bi : BI c.G f v
theorem isBui.load {X : AS} {s : Shared} {vs : Nat → Option Value} {f : Str} {v : Value} {p : Pos} {R : Value → Shared → Prop} {E : Value → Shared → Prop} (B : isBui c f v) (I : Inv c X s.heap vs σ) (q : R v s) :
    wpAny (model c.G.prog c.G.w) c.A (eval (.Name f p) c.env) R E s := by
  refine Name_function_global I.ok.kind ((I.ok.kinds f).trans B.kind) (loadGlobal_builtin (env := c.env) ?_ B.bi.miss ?_ B.bi.is q) B.deb
  · rw [I.ok.glob]; exact (I.ok.g.g.keeps I.ok.keepB).keeps I.keep
  · rw [I.ok.bui]; exact (I.ok.g.b.keeps I.ok.keepB).keeps I.keep

theorem EV.bui {f : Str} {id : String} {p pos : Pos} {e : Expr} {es : List Expr} {ds : List D} {d : D} (B : isBui c f (.builtin id)) (hs : EVs c σ (e :: es) ds) (hn : (e :: es).all noStar = true)
    (h : ∀ (s : Shared) (X : AS) (vs : Nat → Option Value) (us : List Value) (R : Value → Shared → Prop) (E : Value → Shared → Prop), Inv c X s.heap vs σ → RepAll s.heap (Off c X vs σ) us ds →
      (∀ v h' tk', Keep s.heap h' → Rep h' (Off c X vs σ) v d → R v { s with heap := h', toks := tk' }) → wpAny (model c.G.prog c.G.w) c.A (call (.builtin id) us) R E s) : EV c σ (.Call (.Name f p) (e :: es) [] pos) d := by
  constructor; intro s X vs R E I q
  refine wpAny_Call_NameR (B.load I ?_)
  refine callWith_builtin (noStar_any hn) (wp_args (by simp only [List.all_cons, Bool.and_eq_true] at hn; exact hn.1) (hs.run s X vs _ _ pos I fun us h1 t1 k1 r1 => ?_))
  exact h _ X vs us _ _ (I.grow k1) r1 fun v h' tk' k r => q v h' tk' (k1.trans k) r

theorem EV.len {p pos : Pos} {e : Expr} {xs : List D} (B : isBui c (PySem.Str.ofString "len") (.builtin "len")) (he : EV c σ e (.list xs)) (hn : noStar e = true) (hz : xs.length < 2 ^ 62) :
    EV c σ (.Call (.Name (PySem.Str.ofString "len") p) [e] [] pos) (.int xs.length) :=
  EV.bui B (EVs.one he hn) (by simp [hn]) fun s X vs us R E I ru q => by
    obtain ⟨u, _, rfl, ru', rn⟩ := ru.cons_inv
    cases rn.nil_inv
    obtain ⟨a, items, rfl, hl, _, ri⟩ := ru'.list_inv
    have hz' : items.size = xs.length := by rw [← ri.length]; simp
    exact call_len_list hl.isList (by omega) (by rw [hz']; exact q _ _ _ (Keep.refl _) Rep.int)

theorem EV.min {p pos : Pos} {e e' : Expr} {a b : Int} (B : isBui c (PySem.Str.ofString "min") (.builtin "min")) (he : EV c σ e (.int a)) (he' : EV c σ e' (.int b)) (hn : noStar e = true) (hn' : noStar e' = true) :
    EV c σ (.Call (.Name (PySem.Str.ofString "min") p) [e, e'] [] pos) (.int (min a b)) :=
  EV.bui B (EVs.two he he' hn hn') (by simp [hn, hn']) fun s X vs us R E I ru q => by
    obtain ⟨u, _, rfl, ru', rn⟩ := ru.cons_inv
    obtain ⟨v, _, rfl, rv, rn'⟩ := rn.cons_inv
    cases rn'.nil_inv
    obtain ⟨_, rfl⟩ := ru'.int_inv; obtain ⟨_, rfl⟩ := rv.int_inv
    refine min_two_ints I.ok.hh fun h' tk k => ?_
    by_cases hc : b < a
    · rw [if_pos hc]; rw [show Min.min a b = b by omega] at q; exact q _ _ _ k Rep.int
    · rw [if_neg hc]; rw [show Min.min a b = a by omega] at q; exact q _ _ _ k Rep.int
theorem EV.max {p pos : Pos} {e e' : Expr} {a b : Int} (B : isBui c (PySem.Str.ofString "max") (.builtin "max")) (he : EV c σ e (.int a)) (he' : EV c σ e' (.int b)) (hn : noStar e = true) (hn' : noStar e' = true) :
    EV c σ (.Call (.Name (PySem.Str.ofString "max") p) [e, e'] [] pos) (.int (max a b)) :=
  EV.bui B (EVs.two he he' hn hn') (by simp [hn, hn']) fun s X vs us R E I ru q => by
    obtain ⟨u, _, rfl, ru', rn⟩ := ru.cons_inv
    obtain ⟨v, _, rfl, rv, rn'⟩ := rn.cons_inv
    cases rn'.nil_inv
    obtain ⟨_, rfl⟩ := ru'.int_inv; obtain ⟨_, rfl⟩ := rv.int_inv
    refine max_two_ints I.ok.hh fun h' tk k => ?_
    by_cases hc : b > a
    · rw [if_pos hc]; rw [show Max.max a b = b by omega] at q; exact q _ _ _ k Rep.int
    · rw [if_neg hc]; rw [show Max.max a b = a by omega] at q; exact q _ _ _ k Rep.int
theorem EV.abs {p pos : Pos} {e : Expr} {a : Int} (B : isBui c (PySem.Str.ofString "abs") (.builtin "abs")) (he : EV c σ e (.int a)) (hn : noStar e = true) :
    EV c σ (.Call (.Name (PySem.Str.ofString "abs") p) [e] [] pos) (.int (if a < 0 then -a else a)) :=
  EV.bui B (EVs.one he hn) (by simp [hn]) fun s X vs us R E I ru q => by
    obtain ⟨u, _, rfl, ru', rn⟩ := ru.cons_inv
    cases rn.nil_inv
    obtain ⟨_, rfl⟩ := ru'.int_inv
    exact PyProof.Rows.call_abs_int fun u tk => q _ s.heap tk (Keep.refl _) Rep.int
theorem EV.neg {e : Expr} {p : Pos} {a : Int} (he : EV c σ e (.int a)) : EV c σ (.UnaryOp .USub e p) (.int (-a)) := by
  constructor; intro s X vs R E I q
  refine wpAny_UnaryOp (he.run s X vs _ _ I fun u h1 t1 k1 r1 => ?_)
  obtain ⟨_, rfl⟩ := r1.int_inv
  exact PyProof.Rows.neg_int (q _ _ _ k1 Rep.int)

/-- displays -/
theorem EV.tuple {es : List Expr} {ds : List D} {k : Nat} {p : Pos} (hs : EVs c σ es ds) (hz : ds.length ≤ 2 ^ 20) : EV c σ (.Tuple es k p) (.tuple ds) := by
  constructor; intro s X vs R E I q
  refine wpAny_Tuple (hs.run s X vs _ _ p I fun us h1 t1 k1 r1 => ⟨?_, ?_⟩)
  · rw [r1.length]; exact Nat.le_trans hz (by decide)
  · exact q _ _ _ (k1.trans (Keep.push _ _)) (Rep.tuple (Heap.get?_push_size _ rfl) rfl rfl (by simpa using r1.keep (Keep.push _ _)))
theorem off_fresh {X : AS} {h : Heap} {vs : Nat → Option Value} (I : Inv c X h vs σ) {a : Addr} (ha : h.get? a = none) : ¬ Off c X vs σ a := fun k => by
  obtain ⟨o, e, _⟩ := I.alive a k; rw [ha] at e; cases e
theorem size_none (h : Heap) : h.get? h.objs.size = none := Heap.get?_none_of_le (Nat.le_refl _)
theorem none_of_keep {h h' : Heap} (k : Keep h h') {a : Addr} (e : h'.get? a = none) : h.get? a = none := by
  cases q : h.get? a with
  | none => rfl
  | some o => rw [k a o q] at e; cases e
/-- a new list is a value -/
theorem EVF.ev {e : Expr} {xs : List D} (h : EVF c σ e xs) : EV c σ e (.list xs) := by
  constructor; intro s X vs R E I q
  refine h.run s X vs _ _ I fun a items h' tk' k e l r => q _ _ _ k (Rep.list l ?_ (r.weak fun b y => .inl (.inl y)))
  exact off_fresh I e
/-- a list just made -/
theorem newF {s₀ : Shared} {X : AS} {vs : Nat → Option Value} {us : List Value} {ds : List D} {R : Value → Shared → Prop} (q : ∀ a items h' tk', Keep s₀.heap h' → s₀.heap.get? a = none → IsLx h' a items → RepAll h' (fun b => Off c X vs σ b ∨ b = a) items.toList ds → R (.ref a) { s₀ with heap := h', toks := tk' })
    {h1 : Heap} {t1 : Nat} (k1 : Keep s₀.heap h1) (r1 : RepAll h1 (Off c X vs σ) us ds) : R (.ref h1.objs.size) { s₀ with heap := h1.push { cls := .type "list", data := .seq us.toArray }, toks := t1 } := by
  refine q _ us.toArray _ _ (k1.trans (Keep.push _ _)) (none_of_keep k1 (size_none _)) ⟨0, Heap.get?_push_size _ rfl⟩ ?_
  refine RepAll.keep (h := h1) ?_ (Keep.push _ _)
  refine RepAll.weak (by simpa using r1) fun b y => ?_
  rcases y with y | rfl
  · exact .inl y
  · exact .inr (size_none _)
theorem EVF.list {es : List Expr} {ds : List D} {p : Pos} (hs : EVs c σ es ds) (hz : ds.length ≤ 2 ^ 20) : EVF c σ (.List es p) ds := by
  constructor; intro s X vs R E I q
  refine wpAny_List (hs.run s X vs _ _ p I fun us h1 t1 k1 r1 => ⟨?_, ?_⟩)
  · rw [r1.length]; exact Nat.le_trans hz (by decide)
  · exact newF q k1 r1

/-- tests -/
def noSet : Expr → Bool
  | .Set .. => false
  | _ => true
theorem marks_of {op : CmpOp} {r : Expr} (h : noSet r = true) : behindInMarks op r = false := by
  cases r <;> first | rfl | cases h
theorem TS.cmp {op : CmpOp} {l r : Expr} {p : Pos} {da db : D} {b : Bool} (hl : EV c σ l da) (hr : EV c σ r db) (hn : noSet r = true)
    (h : ∀ (s : Shared) (X : AS) (vs : Nat → Option Value) (u v : Value) (R : Value → Shared → Prop) (E : Value → Shared → Prop), Inv c X s.heap vs σ → Rep s.heap (Off c X vs σ) u da → Rep s.heap (Off c X vs σ) v db →
      R (.bool b) s → wpAny (model c.G.prog c.G.w) c.A (compareOp op u v) R E s) : TS c σ (.Compare l [op] [r] p) b := by
  constructor; intro s X vs R E I q
  refine wpAny_isTrue_Compare1 (hl.run s X vs _ _ I fun u h1 t1 k1 r1 => hr.run _ X vs _ _ (I.grow k1) fun v h2 t2 k2 r2 => ?_) (marks_of hn)
  exact h _ X vs u v _ _ ((I.grow k1).grow k2) (r1.keep k2) r2 (wpAny_truthy_bool (q h2 t2 (k1.trans k2)))
section
variable {l r : Expr} {p : Pos} {a b : Int}
theorem TS.lt (hl : EV c σ l (.int a)) (hr : EV c σ r (.int b)) (hn : noSet r = true) : TS c σ (.Compare l [.Lt] [r] p) (decide (a < b)) :=
  TS.cmp hl hr hn fun s X vs u v R E I ru rv q => by
    obtain ⟨_, rfl⟩ := ru.int_inv; obtain ⟨_, rfl⟩ := rv.int_inv
    exact PyProof.Rows.lt_int q
theorem TS.gt (hl : EV c σ l (.int a)) (hr : EV c σ r (.int b)) (hn : noSet r = true) : TS c σ (.Compare l [.Gt] [r] p) (decide (b < a)) :=
  TS.cmp hl hr hn fun s X vs u v R E I ru rv q => by
    obtain ⟨_, rfl⟩ := ru.int_inv; obtain ⟨_, rfl⟩ := rv.int_inv
    exact PyProof.Rows.gt_int q
theorem TS.le (hl : EV c σ l (.int a)) (hr : EV c σ r (.int b)) (hn : noSet r = true) : TS c σ (.Compare l [.LtE] [r] p) (decide (a ≤ b)) :=
  TS.cmp hl hr hn fun s X vs u v R E I ru rv q => by
    obtain ⟨_, rfl⟩ := ru.int_inv; obtain ⟨_, rfl⟩ := rv.int_inv
    exact P.le_int q
theorem TS.ge (hl : EV c σ l (.int a)) (hr : EV c σ r (.int b)) (hn : noSet r = true) : TS c σ (.Compare l [.GtE] [r] p) (decide (b ≤ a)) :=
  TS.cmp hl hr hn fun s X vs u v R E I ru rv q => by
    obtain ⟨_, rfl⟩ := ru.int_inv; obtain ⟨_, rfl⟩ := rv.int_inv
    exact P.ge_int q
theorem TS.eq (hl : EV c σ l (.int a)) (hr : EV c σ r (.int b)) (hn : noSet r = true) : TS c σ (.Compare l [.Eq] [r] p) (decide (a = b)) :=
  TS.cmp hl hr hn fun s X vs u v R E I ru rv q => by
    obtain ⟨_, rfl⟩ := ru.int_inv; obtain ⟨_, rfl⟩ := rv.int_inv
    exact PyProof.Rows.eq_int (by rw [show (a == b) = decide (a = b) by cases h : decide (a = b) <;> simp_all]; exact q)
theorem TS.ne (hl : EV c σ l (.int a)) (hr : EV c σ r (.int b)) (hn : noSet r = true) : TS c σ (.Compare l [.NotEq] [r] p) (decide (a ≠ b)) :=
  TS.cmp hl hr hn fun s X vs u v R E I ru rv q => by
    obtain ⟨_, rfl⟩ := ru.int_inv; obtain ⟨_, rfl⟩ := rv.int_inv
    exact PyProof.Rows.ne_int (by rw [show (a != b) = decide (a ≠ b) by cases h : decide (a ≠ b) <;> simp_all]; exact q)
end

/-- and, or, not -/
theorem TS.not {e : Expr} {p : Pos} {b : Bool} (h : TS c σ e b) : TS c σ (.UnaryOp .Not e p) (!b) :=
  ⟨fun s X vs _ _ I q => wpAny_isTrue_Not (h.run s X vs _ _ I fun h' tk' k => q h' tk' k)⟩
theorem TS.and2 {e e' : Expr} {p : Pos} {b b' : Bool} (h : TS c σ e b) (h' : b = true → TS c σ e' b') : TS c σ (.BoolOp .And [e, e'] p) (b && b') := by
  constructor; intro s X vs R E I q
  refine wpAny_isTrue_BoolOp (wpAny_allTrue_And_cons (h.run s X vs _ _ I fun h1 t1 k1 => ?_))
  cases b with
  | false => exact q _ _ k1
  | true =>
    refine wpAny_allTrue_And_cons ((h' rfl).run _ X vs _ _ (I.grow k1) fun h2 t2 k2 => ?_)
    cases b' with
    | false => exact q _ _ (k1.trans k2)
    | true => exact wpAny_allTrue_And_nil (q _ _ (k1.trans k2))
theorem TS.or2 {e e' : Expr} {p : Pos} {b b' : Bool} (h : TS c σ e b) (h' : b = false → TS c σ e' b') : TS c σ (.BoolOp .Or [e, e'] p) (b || b') := by
  constructor; intro s X vs R E I q
  refine wpAny_isTrue_BoolOp (wpAny_allTrue_Or_cons (h.run s X vs _ _ I fun h1 t1 k1 => ?_))
  cases b with
  | true => exact q _ _ k1
  | false =>
    refine wpAny_allTrue_Or_cons ((h' rfl).run _ X vs _ _ (I.grow k1) fun h2 t2 k2 => ?_)
    cases b' with
    | true => exact q _ _ (k1.trans k2)
    | false => exact wpAny_allTrue_Or_nil (q _ _ (k1.trans k2))
/-- a value that is a bool -/
def plainTest : Expr → Bool
  | .Name .. | .Call .. => true
  | _ => false
theorem TS.val {e : Expr} {b : Bool} (h : EV c σ e (.bool b)) (hp : plainTest e = true) : TS c σ e b := by
  constructor; intro s X vs R E I q
  refine wpAny_isTrue_value (h.run s X vs _ _ I fun v h1 t1 k1 r1 => ?_) (by cases e <;> first | rfl | cases hp)
  cases r1.bool_inv
  exact wpAny_truthy_bool (q _ _ k1)
end
end Mine
end
section
namespace Mine
open PySem PySem.Calls

section
variable {c : Cx} {σ : List Slot} {X : AS} {h h1 h' : Heap} {vs vs1 : Nat → Option Value} {σ1 : List Slot}

/-- one step behind another -/
theorem OutOk.trans {out : Out} {f : Flow} (k : ∀ b o, ¬ Mut c vs σ b → h.get? b = some o → h1.get? b = some o) (e : ∀ a, Mut c vs1 σ1 a → Mut c vs σ a ∨ h.get? a = none)
    (r : OutOk c X h1 vs1 σ1 h' out f) : OutOk c X h vs σ h' out f := by
  have kk : (∀ b o, ¬ Mut c vs1 σ1 b → h1.get? b = some o → h'.get? b = some o) → ∀ b o, ¬ Mut c vs σ b → h.get? b = some o → h'.get? b = some o := fun k2 b o n q => by
    refine k2 b o (fun m => ?_) (k b o n q)
    rcases e b m with m | m
    · exact n m
    · rw [q] at m; cases m
  have ee : ∀ {vs2 : Nat → Option Value} {σ2 : List Slot}, (∀ a, Mut c vs2 σ2 a → Mut c vs1 σ1 a ∨ h1.get? a = none) → ∀ a, Mut c vs2 σ2 a → Mut c vs σ a ∨ h.get? a = none := fun e2 a m => by
    rcases e2 a m with m | m
    · exact e a m
    · by_cases n : Mut c vs σ a
      · exact .inl n
      · cases q : h.get? a with
        | none => exact .inr rfl
        | some o => rw [k a o n q] at m; cases m
  cases out with
  | next σ2 => obtain ⟨rfl, k2, vs2, I2, e2⟩ := r; exact ⟨rfl, kk k2, vs2, I2, ee e2⟩
  | cont σ2 => obtain ⟨rfl, k2, vs2, I2, e2⟩ := r; exact ⟨rfl, kk k2, vs2, I2, ee e2⟩
  | brk σ2 => obtain ⟨rfl, k2, vs2, I2, e2⟩ := r; exact ⟨rfl, kk k2, vs2, I2, ee e2⟩
  | ret d => obtain ⟨v, rfl, k2, r2⟩ := r; exact ⟨v, rfl, kk k2, r2⟩

/-- the same, ahead of it the heap has grown -/
theorem OutOk.grown {out : Out} {f : Flow} (k : Keep h h1) (r : OutOk c X h1 vs σ h' out f) : OutOk c X h vs σ h' out f :=
  r.trans (fun b o _ e => k b o e) fun _ m => .inl m

def seqQ (c : Cx) (rest : List Stmt) (Q : Out → Prop) : Out → Prop
  | .next σ => WP c σ rest Q
  | o => Q o

theorem WP.nil {Q : Out → Prop} (q : Q (.next σ)) : WP c σ [] Q :=
  ⟨fun s _ vs _ _ I k => wpAny_execs_nil (k _ _ s.heap s.toks q ⟨rfl, fun _ _ _ e => e, vs, I, fun _ m => .inl m⟩)⟩

theorem WP.cons {st : Stmt} {rest : List Stmt} {Q : Out → Prop} (h : WS c σ st (seqQ c rest Q)) : WP c σ (st :: rest) Q := by
  constructor; intro s X vs R E I k
  refine wpAny_execs_cons (h.run s X vs _ _ I fun out f h1 t1 q r => ?_)
  cases out with
  | next σ1 =>
    obtain ⟨rfl, k1, vs1, I1, e1⟩ := r
    exact (show WP c σ1 rest Q from q).run _ X vs1 _ _ I1 fun out f h2 t2 q2 r2 => k out f h2 t2 q2 (r2.trans k1 e1)
  | cont σ1 => obtain ⟨rfl, _⟩ := id r; exact k _ _ _ _ q r
  | brk σ1 => obtain ⟨rfl, _⟩ := id r; exact k _ _ _ _ q r
  | ret d => obtain ⟨v, rfl, _⟩ := id r; exact k _ _ _ _ q r

theorem WP.mono {ss : List Stmt} {Q Q' : Out → Prop} (h : WP c σ ss Q) (hq : ∀ o, Q o → Q' o) : WP c σ ss Q' :=
  ⟨fun s X vs R E I k => h.run s X vs R E I fun out f h' tk' q r => k out f h' tk' (hq _ q) r⟩

/-- no comprehension -/
def noComp : Expr → Bool
  | .ListComp .. | .SetComp .. | .DictComp .. => false
  | _ => true
theorem swaps_of {e : Expr} {t : Option Expr} {l : Nat} {env : Env} (h : noComp e = true) : swapsWith e t l env = pure false := by
  cases e <;> first | rfl | cases h

theorem WP.assign {x : Str} {p p' : Pos} {e : Expr} {d : D} {i : Nat} {rest : List Stmt} {Q : Out → Prop} (hi : slotOf c.names x = some i) (hk : isVar c x = true) (hc : noComp e = true) (he : EV c σ e d)
    (h : WP c (σ.set i (.val d)) rest Q) : WP c σ (.Assign [.Name x p'] e p :: rest) Q := by
  refine WP.cons ?_
  constructor; intro s X vs R E I k
  refine wpAny_Assign_Name (he.run s X vs _ _ I fun v h1 t1 k1 r1 => ?_) (swaps_of hc)
  have I1 := I.grow k1
  refine wp_store I1 (slotOf_get hi) (isVar.kind I.ok hk).1 fun h2 t2 S => ?_
  refine k (.next (σ.set i (.val d))) _ _ _ h ⟨rfl, fun b o n q => S.keeps b o n (k1 b o q), upd vs i v, ?_, fun a m => ?_⟩
  · exact I1.put S (slotOf_get hi) (fun _ x => x) (fun e => by exact False.elim e) fun _ => ⟨v, rfl, r1⟩
  · exact mut_put (fun e => by exact False.elim e) m

theorem WP.assignOwn {x : Str} {p p' : Pos} {e : Expr} {xs : List D} {i : Nat} {rest : List Stmt} {Q : Out → Prop} (hi : slotOf c.names x = some i) (hk : isVar c x = true) (hc : noComp e = true) (he : EVF c σ e xs)
    (h : WP c (σ.set i (.own xs)) rest Q) : WP c σ (.Assign [.Name x p'] e p :: rest) Q := by
  refine WP.cons ?_
  constructor; intro s X vs R E I k
  refine wpAny_Assign_Name (he.run s X vs _ _ I fun a items h1 t1 k1 hn l1 r1 => ?_) (swaps_of hc)
  have al : ∃ o, h1.get? a = some o ∧ NT o := by
    obtain ⟨n, e⟩ := l1
    exact ⟨_, e, fun q => absurd (show Value.type "list" = Value.type "tuple" from q) (by decide)⟩
  have I1 := I.guard k1 hn al
  refine wp_store I1 (slotOf_get hi) (isVar.kind I.ok hk).1 fun h2 t2 S => ?_
  have hX : ¬ X a := fun q => off_fresh I hn (.inl q)
  refine k (.next (σ.set i (.own xs))) _ _ _ h ⟨rfl, fun b o n q => S.keeps b o n (k1 b o q), upd vs i (.ref a), ?_, fun b m => ?_⟩
  · refine I1.put S (slotOf_get hi) (fun _ x => .inl x) (fun _ b e2 => ?_) fun _ => ⟨a, items, rfl, l1, r1.weak fun b y => ?_⟩
    · cases e2; exact ⟨.inr rfl, hX, none_of_keep I.keep hn⟩
    · rcases y with (y | y) | y
      · exact .inl (.inl (.inl y))
      · exact .inl (.inr y)
      · exact .inl (.inl (.inr y))
  · exact mut_put (fun _ b e2 => by cases e2; exact hn) m

/-- an owned list is given away: from here on it is a value -/
theorem Inv.freeze {i : Nat} {xs : List D} (I : Inv c X h vs σ) (hi : σ[i]? = some (.own xs)) : Inv c X h vs (σ.set i (.val (.list xs))) ∧ ∀ a, Mut c vs (σ.set i (.val (.list xs))) a → Mut c vs σ a := by
  have ho : ∀ j a, OwnAt vs (σ.set i (.val (.list xs))) j a → j ≠ i ∧ OwnAt vs σ j a := by
    rintro j a ⟨⟨ys, e, ho⟩, e2⟩
    by_cases q : j = i
    · subst q
      rw [List.getElem?_set] at e
      simp only [if_true] at e
      split at e <;> cases e <;> exact ho.elim
    · rw [List.getElem?_set_ne (Ne.symm q)] at e
      exact ⟨q, ⟨ys, e, ho⟩, e2⟩
  have hm : ∀ a, Mut c vs (σ.set i (.val (.list xs))) a → Mut c vs σ a := by
    rintro a (k | k | ⟨j, k⟩)
    · exact .inl k
    · exact .inr (.inl k)
    · exact .inr (.inr ⟨j, (ho j a k).2⟩)
  have hoff : ∀ a, Off c X vs (σ.set i (.val (.list xs))) a → Off c X vs σ a := fun a k => k.imp id (hm a)
  refine ⟨⟨I.ok, I.keep, I.loc, I.cel, fun j sl e => ?_, fun j k a hj hk => I.own1 j k a (ho j a hj).2 (ho k a hk).2, fun j a hj => I.ownC j a (ho j a hj).2, fun a m => I.sep a (hm a m), fun a k => I.alive a (hoff a k), I.base⟩, hm⟩
  by_cases q : j = i
  · subst q
    rw [List.getElem?_set] at e
    simp only [if_true] at e
    split at e
    · cases e
      obtain ⟨a, items, e, l, r⟩ := I.slot j _ hi
      refine ⟨_, e, Rep.list l (fun k => ?_) (r.weak fun b y => .inl (hoff b y))⟩
      rcases k with k | k | k | ⟨m, k⟩
      · exact (I.sep a (.inr (.inr ⟨j, ⟨_, hi, trivial⟩, e⟩))).1 k
      · exact (I.ownC j a ⟨⟨_, hi, trivial⟩, e⟩).1 k
      · obtain ⟨y, k⟩ := k; exact (I.ownC j a ⟨⟨_, hi, trivial⟩, e⟩).2 y k
      · exact (ho m a k).1 (I.own1 m j a (ho m a k).2 ⟨⟨_, hi, trivial⟩, e⟩)
    · cases e
  · rw [List.getElem?_set_ne (Ne.symm q)] at e
    have := I.slot j sl e
    cases sl with
    | un => trivial
    | val d => obtain ⟨v, e, r⟩ := this; exact ⟨v, e, r.weak fun b y => .inl (hoff b y)⟩
    | own ys => obtain ⟨b, items, e, l, r⟩ := this; exact ⟨b, items, e, l, r.weak fun b y => .inl (hoff b y)⟩
    | dic kv => exact this
theorem WP.freeze {ss : List Stmt} {Q : Out → Prop} (i : Nat) {xs : List D} (hi : σ[i]? = some (.own xs)) (h' : WP c (σ.set i (.val (.list xs))) ss Q) : WP c σ ss Q :=
  ⟨fun s X vs R E I k => h'.run s X vs R E (I.freeze hi).1 fun out f h' tk' q r => k out f h' tk' q (r.trans (fun _ _ _ e => e) fun a m => .inl ((I.freeze hi).2 a m))⟩

theorem WP.ite {t : Expr} {body orelse rest : List Stmt} {p : Pos} {b : Bool} {Q : Out → Prop} (ht : TS c σ t b) (h1 : b = true → WP c σ body (seqQ c rest Q)) (h2 : b = false → WP c σ orelse (seqQ c rest Q)) :
    WP c σ (.If t body orelse p :: rest) Q := by
  refine WP.cons ?_
  constructor; intro s X vs R E I k
  refine wpAny_If (ht.run s X vs _ _ I fun h1' t1 k1 => ?_)
  cases b with
  | true => exact (h1 rfl).run _ X vs _ _ (I.grow k1) fun out f h' tk' q r => k out f h' tk' q (r.grown k1)
  | false => exact (h2 rfl).run _ X vs _ _ (I.grow k1) fun out f h' tk' q r => k out f h' tk' q (r.grown k1)

theorem WP.ret {e : Expr} {d : D} {p : Pos} {rest : List Stmt} {Q : Out → Prop} (he : EV c σ e d) (q : Q (.ret d)) : WP c σ (.Return (some e) p :: rest) Q := by
  refine WP.cons ?_
  constructor; intro s X vs R E I k
  refine wpAny_Return_some (he.run s X vs _ _ I fun v h1 t1 k1 r1 => ?_)
  exact k (.ret d) _ _ _ q ⟨v, rfl, fun b o _ e => k1 b o e, r1.weak fun a y => .inl (.inl y)⟩
theorem seqQ.ret {rest : List Stmt} {d : D} {Q : Out → Prop} (q : Q (.ret d)) : seqQ c rest Q (.ret d) := q
theorem seqQ.next {rest : List Stmt} {σ' : List Slot} {Q : Out → Prop} (q : WP c σ' rest Q) : seqQ c rest Q (.next σ') := q
end
end Mine
end
section
namespace Mine
open PySem PySem.Calls

theorem Rep.move {h h' : Heap} {Y Y' : AS} {v : Value} {d : D} (r : Rep h Y v d) (hk : ∀ b o, h.get? b = some o → ¬ Y b ∨ ¬ NT o → h'.get? b = some o) (hy : ∀ a, Y' a → Y a ∨ h.get? a = Option.none) : Rep h' Y' v d := by
  have r1 : Rep h (fun a => Y a ∨ Y' a) v d := r.weak fun a y => y.elim .inl (hy a)
  have r2 : Rep h' (fun a => Y a ∨ Y' a) v d := r1.kept fun b o e k => hk b o e (k.imp (fun n y => n (.inl y)) id)
  exact r2.weak fun a y => .inl (.inr y)

theorem Inv.drop {c : Cx} {X X' : AS} {h : Heap} {vs : Nat → Option Value} {σ : List Slot} (I : Inv c X' h vs σ) (hX : ∀ a, X a → X' a) : Inv c X h vs σ :=
  I.changeTo hX I.keep (fun _ _ e _ => e) fun a x => I.alive a (.inl (hX a x))

/-- what an iterator gives -/
structure Itr (c : Cx) (X : AS) (vs : Nat → Option Value) (σ : List Slot) (g h : Heap) (I : Addr) (fp : List Addr) (n : Nat) (P : Nat → Value → Prop) (St : Nat → Heap → Prop) (ds : List D) : Prop where
  W : Walks c.G.prog c.G.w c.A I fp [I] n P St
  len : n = ds.length
  st : St 0 h
  new : g.get? I = none
  it : ∀ i k, St i k → ∃ o T, k.get? I = some o ∧ o.cls = .type T ∧ (T = "list_iterator" ∨ T = "tuple_iterator" ∨ T = "range_iterator")
  fps : ∀ b ∈ fp, b ≠ I → ¬ Mut c vs σ b ∧ ∃ o, h.get? b = some o
  item : ∀ i v d, P i v → ds[i]? = some d → Rep h (fun a => Off c X vs σ a ∨ a = I) v d

structure IT (c : Cx) (σ : List Slot) (e : Expr) (ds : List D) : Prop where
  run : ∀ (s : Shared) (X : AS) (vs : Nat → Option Value) (R : Value → Shared → Prop) (E : Value → Shared → Prop), Inv c X s.heap vs σ →
    (∀ I fp n P St h' tk', Keep s.heap h' → Itr c X vs σ s.heap h' I fp n P St ds → R (.ref I) { s with heap := h', toks := tk' }) →
      wpAny (model c.G.prog c.G.w) c.A (eval e c.env) (fun x s₁ => wpAny (model c.G.prog c.G.w) c.A (pyIter x) R E s₁) E s

theorem nt_of_iter {o : Obj} {T : String} (hc : o.cls = .type T) (hT : T = "list_iterator" ∨ T = "tuple_iterator" ∨ T = "range_iterator") : NT o := by
  intro q
  rw [hc] at q
  rcases hT with rfl | rfl | rfl <;> exact absurd q (by decide)

section
variable {c : Cx} {σ : List Slot}

/-- targets of a loop -/
structure TG (c : Cx) (t : Expr) (d : D) (σ σ' : List Slot) : Prop where
  run : ∀ (s : Shared) (X : AS) (vs : Nat → Option Value) (v : Value) (R : Unit → Shared → Prop) (E : Value → Shared → Prop), Inv c X s.heap vs σ → Rep s.heap (Off c X vs σ) v d →
    (∀ h' tk' vs', (∀ b o, ¬ Mut c vs σ b → s.heap.get? b = some o → h'.get? b = some o) → Inv c X h' vs' σ' → (∀ a, Mut c vs' σ' a → Mut c vs σ a) → R () { s with heap := h', toks := tk' }) →
      wpAny (model c.G.prog c.G.w) c.A (assign t c.env v) R E s
theorem TG.name {x : Str} {p : Pos} {i : Nat} {d : D} (hi : slotOf c.names x = some i) (hk : isVar c x = true) : TG c (.Name x p) d σ (σ.set i (.val d)) := by
  constructor; intro s X vs v R E I r k
  refine wpAny_assign_Name (wp_store I (slotOf_get hi) (isVar.kind I.ok hk).1 fun h2 t2 S => ?_)
  refine k h2 t2 (upd vs i v) (fun b o n q => S.keeps b o n q) (I.put S (slotOf_get hi) (fun _ x => x) (fun e => by exact False.elim e) fun _ => ⟨v, rfl, r⟩) fun a m => ?_
  rcases m with m | m | ⟨j, m⟩
  · exact .inl m
  · exact .inr (.inl m)
  · rcases own_upd m with ⟨_, m⟩ | ⟨_, e, _⟩
    · exact .inr (.inr ⟨j, m⟩)
    · exact False.elim e

def forQ (c : Cx) (rest : List Stmt) (Q : Out → Prop) (P : List Slot → Prop) : Out → Prop
  | .next σ => P σ
  | .cont σ => P σ
  | .brk σ => WP c σ rest Q
  | .ret d => Q (.ret d)

def noFold : Expr → Bool
  | .Set .. => false
  | _ => true
theorem folded_of {e : Expr} {env : Env} (h : noFold e = true) : ∀ x, foldedSetIterable e env x = pure x := by
  cases e <;> first | (intro x; rfl) | cases h

theorem letOwned_pure {t : Expr} {I : Addr} {v : Value} {s : Shared} {A : Around} {prog : Program} {w : World} {R : Unit → Shared → Prop} {E : Value → Shared → Prop} {o : Obj} {T : String} (ho : s.heap.get? I = some o) (hc : o.cls = .type T)
    (hT : T = "list_iterator" ∨ T = "tuple_iterator" ∨ T = "range_iterator") (q : R () s) : wpAny (model prog w) A (letOwnedTupleGo t (.ref I) v) R E s := by
  unfold letOwnedTupleGo
  split
  · split
    · rename_i r a e
      cases e
      refine wpAny_bind (wpAny_load ho ?_)
      split
      · rename_i n fs e1 e2
        rw [hc] at e1
        cases e1
        have : (["enumerate", "zip", "dict_itemiterator", "dict_reverseitemiterator", "odict_iterator", "itertools.zip_longest", "itertools.pairwise"].contains T) = false := by
          rcases hT with rfl | rfl | rfl <;> decide
        rw [this]
        simp only [Bool.false_and, Bool.false_eq_true, if_false]
        exact wpAny_pure q
      · exact wpAny_pure q
    · exact wpAny_pure q
  · split
    · rename_i r a e
      cases e
      refine wpAny_bind (wpAny_load ho ?_)
      split
      · rename_i n fs e1 e2
        rw [hc] at e1
        cases e1
        have : (["enumerate", "zip", "dict_itemiterator", "dict_reverseitemiterator", "odict_iterator", "itertools.zip_longest", "itertools.pairwise"].contains T) = false := by
          rcases hT with rfl | rfl | rfl <;> decide
        rw [this]
        simp only [Bool.false_and, Bool.false_eq_true, if_false]
        exact wpAny_pure q
      · exact wpAny_pure q
    · exact wpAny_pure q
  · exact wpAny_pure q

/-- a for by an invariant -/
theorem WP.forIn {t it : Expr} {body rest : List Stmt} {p : Pos} {ds : List D} {Q : Out → Prop} (P : Nat → List Slot → Prop) (hit : IT c σ it ds) (hf : noFold it = true) (h0 : P 0 σ)
    (step : ∀ j d σ', ds[j]? = some d → P j σ' → ∃ σ'', TG c t d σ' σ'' ∧ WP c σ'' body (forQ c rest Q (P (j + 1)))) (done : ∀ σ', P ds.length σ' → WP c σ' rest Q) : WP c σ (.For t it body [] p :: rest) Q := by
  refine WP.cons ?_
  constructor; intro s X vs R E I k
  refine wpAny_For (hit.run s X vs _ _ I fun a fp n PP St h1 t1 k1 T => ?_) (folded_of hf)
  have hal : ∀ i g, St i g → ∃ o, g.get? a = some o ∧ NT o := fun i g st => by
    obtain ⟨o, T', e, hc, hT⟩ := T.it i g st
    exact ⟨o, e, nt_of_iter hc hT⟩
  have I1 : Inv c (fun b => X b ∨ b = a) h1 vs σ := I.guard k1 T.new (hal 0 h1 T.st)
  let J : Nat → Shared → Prop := fun m s' => ∃ i vs' σ' h' tk', s' = { s with heap := h', toks := tk' } ∧ m = n + 1 - i ∧ i ≤ n ∧ Inv c (fun b => X b ∨ b = a) h' vs' σ' ∧ St i h' ∧ P i σ' ∧
    (∀ b o, ¬ Mut c vs σ b → b ≠ a → h1.get? b = some o → h'.get? b = some o) ∧ ∀ b, Mut c vs' σ' b → Mut c vs σ b ∨ h1.get? b = none
  refine codeAny_forLoop_any J ?_ (n + 1) ⟨0, vs, σ, h1, t1, rfl, rfl, Nat.zero_le _, I1, T.st, h0, fun _ _ _ _ e => e, fun _ m => .inl m⟩
  rintro m s' ⟨i, vs', σ', h', tk', rfl, rfl, hi, I', st, hP, hk, he⟩
  have haX : ∀ {vs2 : Nat → Option Value} {σ2 : List Slot} {g : Heap}, Inv c (fun b => X b ∨ b = a) g vs2 σ2 → ¬ Mut c vs2 σ2 a := fun I2 m => (I2.sep a m).1 (.inr rfl)
  have ha0 : c.h0.get? a = none := none_of_keep I.keep T.new
  -- behind a step of the iterator
  have next : ∀ h2, (∀ b o, b ∉ [a] → h'.get? b = some o → h2.get? b = some o) → (∃ o, h2.get? a = some o ∧ NT o) → Inv c (fun b => X b ∨ b = a) h2 vs' σ' := by
    intro h2 k2 al
    have k2' : ∀ b o, b ≠ a → h'.get? b = some o → h2.get? b = some o := fun b o n e => k2 b o (fun q => n (List.mem_singleton.mp q)) e
    refine I'.change (fun b o e => k2' b o (fun q => by rw [q, ha0] at e; cases e) (I'.keep b o e)) (fun b o e q => k2' b o (fun w => ?_) e) fun b y => ?_
    · subst w
      rcases q with q | q | q
      · exact q (.inl (.inr rfl))
      · obtain ⟨o', e', nt⟩ := hal i h' st
        rw [e] at e'; cases e'; exact q nt
      · exact haX I' q
    · by_cases w : b = a
      · subst w; exact al
      · obtain ⟨o, e, nt⟩ := I'.alive b (.inl y)
        exact ⟨o, k2' b o w e, nt⟩
  by_cases hlt : i < n
  · refine T.W.item i _ _ _ hlt st fun v h2 t2 hPv st2 k2 => ?_
    have k2' : ∀ b o, b ≠ a → h'.get? b = some o → h2.get? b = some o := fun b o n e => k2 b o (fun q => n (List.mem_singleton.mp q)) e
    obtain ⟨o2, T2, e2, hc2, hT2⟩ := T.it _ _ st2
    have I2 := next h2 k2 ⟨o2, e2, nt_of_iter hc2 hT2⟩
    refine letOwned_pure (s := { s with heap := h2, toks := t2 }) e2 hc2 hT2 ?_
    have hlt' : i < ds.length := by rw [← T.len]; exact hlt
    have hd : ds[i]? = some ds[i] := List.getElem?_eq_getElem hlt'
    obtain ⟨σ2, tg, wb⟩ := step i _ σ' hd hP
    have r2 : Rep h2 (Off c (fun b => X b ∨ b = a) vs' σ') v ds[i] := by
      refine (T.item i v _ hPv hd).move (fun b o e q => ?_) fun b y => ?_
      · have hba : b ≠ a := fun w => by
          subst w
          rcases q with q | q
          · exact q (.inr rfl)
          · obtain ⟨o', e', nt⟩ := hal 0 h1 T.st
            rw [e] at e'; cases e'; exact q nt
        refine k2' b o hba (hk b o (fun m => ?_) hba e)
        rcases q with q | q
        · exact q (.inl (.inr m))
        · obtain ⟨o', e', nt⟩ := I1.alive b (.inr m)
          rw [e] at e'; cases e'; exact q nt
      · rcases y with (y | y) | y
        · exact .inl (.inl (.inl y))
        · exact .inl (.inr y)
        · rcases he b y with y | y
          · exact .inl (.inl (.inr y))
          · exact .inr y
    refine tg.run _ _ vs' v _ _ I2 r2 fun h3 t3 vs3 k3 I3 m3 => ?_
    refine wb.run _ _ vs3 _ _ I3 fun out f h4 t4 q r => ?_
    have kk : ∀ {h4 : Heap}, (∀ b o, ¬ Mut c vs3 σ2 b → h3.get? b = some o → h4.get? b = some o) → ∀ b o, ¬ Mut c vs σ b → b ≠ a → h1.get? b = some o → h4.get? b = some o := by
      intro h4 k4 b o n1 n2 e
      have n' : ¬ Mut c vs' σ' b := fun m => by
        rcases he b m with m | m
        · exact n1 m
        · rw [e] at m; cases m
      exact k4 b o (fun m => n' (m3 b m)) (k3 b o n' (k2' b o n2 (hk b o n1 n2 e)))
    have kg : ∀ {h4 : Heap}, (∀ b o, ¬ Mut c vs3 σ2 b → h3.get? b = some o → h4.get? b = some o) → ∀ b o, ¬ Mut c vs σ b → s.heap.get? b = some o → h4.get? b = some o := by
      intro h4 k4 b o n1 e
      exact kk k4 b o n1 (fun w => by rw [w, T.new] at e; cases e) (k1 b o e)
    have ee : ∀ {vs4 : Nat → Option Value} {σ4 : List Slot}, (∀ b, Mut c vs4 σ4 b → Mut c vs3 σ2 b ∨ h3.get? b = none) → (∀ b, Mut c vs4 σ4 b → b ≠ a) → ∀ b, Mut c vs4 σ4 b → Mut c vs σ b ∨ h1.get? b = none := by
      intro vs4 σ4 e4 na b m
      rcases e4 b m with m' | m'
      · exact he b (m3 b m')
      · by_cases n1 : Mut c vs σ b
        · exact .inl n1
        · cases w : h1.get? b with
          | none => exact .inr rfl
          | some o =>
            have n' : ¬ Mut c vs' σ' b := fun m => by
              rcases he b m with m | m
              · exact n1 m
              · rw [w] at m; cases m
            rw [k3 b o n' (k2' b o (na b m) (hk b o n1 (na b m) w))] at m'; cases m'
    have eg : ∀ {vs4 : Nat → Option Value} {σ4 : List Slot}, (∀ b, Mut c vs4 σ4 b → Mut c vs3 σ2 b ∨ h3.get? b = none) → (∀ b, Mut c vs4 σ4 b → b ≠ a) → ∀ b, Mut c vs4 σ4 b → Mut c vs σ b ∨ s.heap.get? b = none := by
      intro vs4 σ4 e4 na b m
      exact (ee e4 na b m).imp id fun w => none_of_keep k1 w
    have again : ∀ {vs4 : Nat → Option Value} {σ4 : List Slot} {tk4 : Nat}, (∀ b o, ¬ Mut c vs3 σ2 b → h3.get? b = some o → h4.get? b = some o) → Inv c (fun b => X b ∨ b = a) h4 vs4 σ4 → (∀ b, Mut c vs4 σ4 b → Mut c vs3 σ2 b ∨ h3.get? b = none) → P (i + 1) σ4 →
        ∃ m, m < n + 1 - i ∧ J m { s with heap := h4, toks := tk4 } := by
      intro vs4 σ4 tk4 k4 I4 e4 hP4
      refine ⟨n + 1 - (i + 1), by omega, i + 1, vs4, σ4, h4, tk4, rfl, rfl, hlt, I4, ?_, hP4, kk k4, ee e4 fun b m w => haX I4 (w ▸ m)⟩
      refine T.W.frame _ _ _ st2 fun b hb o e => ?_
      have nb' : ¬ Mut c vs' σ' b := fun m => by
        by_cases w : b = a
        · exact haX I' (w ▸ m)
        · obtain ⟨n1, o1, e1⟩ := T.fps b hb w
          rcases he b m with m | m
          · exact n1 m
          · rw [e1] at m; cases m
      exact k4 b o (fun m => nb' (m3 b m)) (k3 b o nb' e)
    cases out with
    | next σ4 =>
      obtain ⟨rfl, k4, vs4, I4, e4⟩ := r
      exact again k4 I4 e4 q
    | cont σ4 =>
      obtain ⟨rfl, k4, vs4, I4, e4⟩ := r
      exact again k4 I4 e4 q
    | brk σ4 =>
      obtain ⟨rfl, k4, vs4, I4, e4⟩ := r
      exact k (.next σ4) _ _ _ q ⟨rfl, kg k4, vs4, I4.drop fun _ x => .inl x, eg e4 fun b m w => haX I4 (w ▸ m)⟩
    | ret d =>
      obtain ⟨v', rfl, k4, r4⟩ := r
      exact k (.ret d) _ _ _ q ⟨v', rfl, kg k4, r4.weak fun b y => .inl (.inl y)⟩
  · have hin : i = n := by omega
    subst hin
    refine T.W.done _ _ _ st fun h2 t2 k2 => ?_
    have k2' : ∀ b o, b ≠ a → h'.get? b = some o → h2.get? b = some o := fun b o n e => k2 b o (fun q => n (List.mem_singleton.mp q)) e
    have na : ¬ X a := fun x => off_fresh I T.new (.inl x)
    have I2 : Inv c X h2 vs' σ' := by
      refine I'.changeTo (fun _ x => .inl x) (fun b o e => k2' b o (fun q => by rw [q, ha0] at e; cases e) (I'.keep b o e)) (fun b o e q => k2' b o (fun w => ?_) e) fun b y => ?_
      · subst w
        rcases q with q | q | q
        · exact q (.inl (.inr rfl))
        · obtain ⟨o', e', nt⟩ := hal i h' st
          rw [e] at e'; cases e'; exact q nt
        · exact haX I' q
      · obtain ⟨o, e, nt⟩ := I'.alive b (.inl (.inl y))
        exact ⟨o, k2' b o (fun w => na (w ▸ y)) e, nt⟩
    refine wpAny_execs_nil ?_
    refine k (.next σ') _ _ _ (done σ' (T.len ▸ hP)) ⟨rfl, fun b o n1 e => ?_, vs', I2, fun b m => (he b m).imp id fun w => none_of_keep k1 w⟩
    have hba : b ≠ a := fun w => by rw [w, T.new] at e; cases e
    exact k2' b o hba (hk b o n1 hba (k1 b o e))
end
end Mine
end
section
namespace Mine
open PySem PySem.Calls

section
variable {c : Cx} {σ : List Slot}

/-- iterating -/
theorem itr_range {X : AS} {s : Shared} {vs : Nat → Option Value} {g : Heap} {a b st : Int} {t u v : Tok} {r : Addr} {tk : Nat} {ds : List D} {R : Value → Shared → Prop} {E : Value → Shared → Prop} (I : Inv c X s.heap vs σ) (k : Keep s.heap g)
    (hr : IsRange g r a b st t u v) (hs : Builtin.Range.small a b st = true) (hlen : Builtin.Range.rangeSize a b st = (ds.length : Int)) (hd : ∀ (i : Nat) (d : D), ds[i]? = some d → d = PyData.int (a + i * st))
    (q : ∀ I fp n P St h' tk', Keep s.heap h' → Itr c X vs σ s.heap h' I fp n P St ds → R (.ref I) { s with heap := h', toks := tk' }) :
    wpAny (model c.G.prog c.G.w) c.A (pyIter (.ref r)) R E { s with heap := g, toks := tk } := by
  refine wpAny_pyIter_range (s := { s with heap := g, toks := tk }) hr hs ?_
  refine q _ _ _ _ _ _ _ (k.trans (Keep.push _ _)) ⟨Walks.range I.ok.hh _ a st ds.length, rfl, ?_, none_of_keep k (size_none _), fun i k' h => ⟨_, _, h, rfl, .inr (.inr rfl)⟩, fun x hx n => absurd (List.mem_singleton.mp hx) n, ?_⟩
  · rw [hlen]
    simp only [Int.natCast_zero, Int.zero_mul, Int.add_zero, Int.sub_zero]
    exact Heap.get?_push_size _ rfl
  · rintro i v d ⟨t', rfl⟩ e
    rw [hd i d e]
    exact Rep.int

theorem wp_range {e : Expr} {es : List Expr} {p pos : Pos} {ds ks : List D} (B : isBui c (PySem.Str.ofString "range") (.type "range")) (hs : EVs c σ (e :: es) ds) (hn : (e :: es).all noStar = true)
    (h : ∀ (s : Shared) (X : AS) (vs : Nat → Option Value) (us : List Value) (R : Value → Shared → Prop) (E : Value → Shared → Prop), Inv c X s.heap vs σ → RepAll s.heap (Off c X vs σ) us ds →
      (∀ I fp n P St h' tk', Keep s.heap h' → Itr c X vs σ s.heap h' I fp n P St ks → R (.ref I) { s with heap := h', toks := tk' }) →
        wpAny (model c.G.prog c.G.w) c.A (call (.type "range") us) (fun x s₁ => wpAny (model c.G.prog c.G.w) c.A (pyIter x) R E s₁) E s) : IT c σ (.Call (.Name (PySem.Str.ofString "range") p) (e :: es) [] pos) ks := by
  constructor; intro s X vs R E I q
  refine wpAny_Call_NameR (B.load I ?_)
  refine callWith_type (noStar_any hn) (wp_args (by simp only [List.all_cons, Bool.and_eq_true] at hn; exact hn.1) (hs.run s X vs _ _ pos I fun us h1 t1 k1 r1 => ?_))
  refine h _ X vs us _ _ (I.grow k1) r1 fun I' fp n P St h' tk' k T => q I' fp n P St h' tk' (k1.trans k) ?_
  exact ⟨T.W, T.len, T.st, none_of_keep k1 T.new, T.it, T.fps, T.item⟩

theorem range_get {n i : Nat} {f : Nat → D} {d : D} (e : ((List.range n).map f)[i]? = some d) : d = f i := by
  rw [List.getElem?_map] at e
  cases h : (List.range n)[i]? with
  | none => rw [h] at e; cases e
  | some j =>
    rw [h] at e
    have : i < n := by
      have := (List.getElem?_eq_some_iff.mp h).1
      simpa using this
    rw [List.getElem?_range this] at h
    cases h; cases e; rfl

def rng (a b : Int) : List D := (List.range (b - a).toNat).map fun (i : Nat) => .int (a + i)
def rngD (a b : Int) : List D := (List.range (a - b).toNat).map fun (i : Nat) => .int (a - i)

theorem IT.range1 {e : Expr} {p pos : Pos} {n : Int} (B : isBui c (PySem.Str.ofString "range") (.type "range")) (he : EV c σ e (.int n)) (hn : noStar e = true) (hlo : -(2 ^ 62) ≤ n) (hhi : n < 2 ^ 62) :
    IT c σ (.Call (.Name (PySem.Str.ofString "range") p) [e] [] pos) (rng 0 n) :=
  wp_range B (EVs.one he hn) (by simp [hn]) fun s X vs us R E I ru q => by
    obtain ⟨u, _, rfl, ru', rn⟩ := ru.cons_inv
    cases rn.nil_inv
    obtain ⟨_, rfl⟩ := ru'.int_inv
    refine call_range_1 (itr_range I (Keep.push _ _) (IsRange.new ..) (small_one (by decide) (by decide) hlo hhi) ?_ (fun i d e => ?_) q)
    · rw [rangeSize_one, rng, List.length_map, List.length_range]; split <;> omega
    · rw [range_get e]; simp
theorem IT.range2 {e e' : Expr} {p pos : Pos} {a b : Int} (B : isBui c (PySem.Str.ofString "range") (.type "range")) (he : EV c σ e (.int a)) (he' : EV c σ e' (.int b)) (hn : noStar e = true) (hn' : noStar e' = true)
    (hlo : -(2 ^ 62) ≤ a) (hhi : a < 2 ^ 62) (hlo' : -(2 ^ 62) ≤ b) (hhi' : b < 2 ^ 62) : IT c σ (.Call (.Name (PySem.Str.ofString "range") p) [e, e'] [] pos) (rng a b) :=
  wp_range B (EVs.two he he' hn hn') (by simp [hn, hn']) fun s X vs us R E I ru q => by
    obtain ⟨u, _, rfl, ru', rn⟩ := ru.cons_inv
    obtain ⟨v, _, rfl, rv, rn'⟩ := rn.cons_inv
    cases rn'.nil_inv
    obtain ⟨_, rfl⟩ := ru'.int_inv; obtain ⟨_, rfl⟩ := rv.int_inv
    refine call_range_2 (itr_range I (Keep.push _ _) (IsRange.new ..) (small_one hlo hhi hlo' hhi') ?_ (fun i d e => ?_) q)
    · rw [rangeSize_one, rng, List.length_map, List.length_range]; split <;> omega
    · rw [range_get e]; simp
theorem rangeSize_down (a b : Int) : Builtin.Range.rangeSize a b (-1) = if b < a then a - b else 0 := by
  unfold Builtin.Range.rangeSize
  simp only [show ¬ ((-1 : Int) > 0) by decide, if_false]
  split
  · rw [show (- -1 : Int) = 1 by decide, Int.ediv_one]; omega
  · rfl
theorem small_down {a b : Int} (ha : -(2 ^ 62) ≤ a) (ha' : a < 2 ^ 62) (hb : -(2 ^ 62) ≤ b) (hb' : b < 2 ^ 62) : Builtin.Range.small a b (-1) = true := by
  unfold Builtin.Range.small
  rw [rangeSize_down]
  simp only [Builtin.Range.rangeFitsLong, Bool.and_eq_true, Bool.or_eq_true, decide_eq_true_eq, beq_iff_eq, show ¬ ((-1 : Int) > 0) by decide, if_false]
  split <;> omega
theorem IT.rangeDown {e e' : Expr} {p pos p1 p2 : Pos} {k : Nat} {a b : Int} (B : isBui c (PySem.Str.ofString "range") (.type "range")) (he : EV c σ e (.int a)) (he' : EV c σ e' (.int b)) (hn : noStar e = true) (hn' : noStar e' = true)
    (hlo : -(2 ^ 62) ≤ a) (hhi : a < 2 ^ 62) (hlo' : -(2 ^ 62) ≤ b) (hhi' : b < 2 ^ 62) : IT c σ (.Call (.Name (PySem.Str.ofString "range") p) [e, e', .UnaryOp .USub (.Constant (.int 1) k p1) p2] [] pos) (rngD a b) :=
  wp_range B (EVs.cons he (EVs.two he' (EV.neg EV.int) hn' rfl) hn) (by simp only [List.all_cons, hn, hn']; rfl) fun s X vs us R E I ru q => by
    obtain ⟨u, _, rfl, ru', rn⟩ := ru.cons_inv
    obtain ⟨v, _, rfl, rv, rn'⟩ := rn.cons_inv
    obtain ⟨x, _, rfl, rx, rm⟩ := rn'.cons_inv
    cases rm.nil_inv
    obtain ⟨_, rfl⟩ := ru'.int_inv; obtain ⟨_, rfl⟩ := rv.int_inv; obtain ⟨_, rfl⟩ := rx.int_inv
    refine call_range_3 (by decide) (itr_range I (Keep.push _ _) (IsRange.new ..) (small_down hlo hhi hlo' hhi') ?_ (fun i d e => ?_) q) (.inl (PyProof.noPylong_small (by decide)))
    · rw [rangeSize_down, rngD, List.length_map, List.length_range]; split <;> omega
    · rw [range_get e]; congr 1; omega

/-- over a list that is a value -/
theorem IT.list {e : Expr} {xs : List D} (he : EV c σ e (.list xs)) : IT c σ e xs := by
  constructor; intro s X vs R E I q
  refine he.run s X vs _ _ I fun v h1 t1 k1 r1 => ?_
  obtain ⟨l, items, rfl, hl, hY, ri⟩ := r1.list_inv
  refine wpAny_pyIter_list (s := { s with heap := h1, toks := t1 }) hl.isList ?_
  obtain ⟨n, hn⟩ := id hl
  have hne : l ≠ h1.objs.size := Nat.ne_of_lt (Heap.lt_size hn)
  have hlen : items.size = xs.length := by rw [← ri.length]; simp
  refine q _ _ _ _ _ _ _ (k1.trans (Keep.push _ _)) ⟨Walks.list I.ok.hh _ l hne items, hlen, ⟨⟨_, Heap.get?_push_size _ rfl, rfl, rfl⟩, hl.isList.push _⟩, none_of_keep k1 (size_none _), ?_, ?_, ?_⟩
  · rintro i k ⟨⟨o, e, hc, _⟩, _⟩
    exact ⟨o, _, e, hc, .inl rfl⟩
  · intro b hb nb
    rcases List.mem_cons.mp hb with w | hb
    · exact absurd w nb
    · rw [List.mem_singleton.mp hb]
      exact ⟨fun m => hY (.inr m), _, Heap.get?_push_of_some _ hn⟩
  · intro i v d hv hd
    obtain ⟨v', e', r'⟩ := ri.get i hd
    have : v' = v := by
      have h2 : items.toList[i]? = some v := by simpa using hv
      rw [e'] at h2; exact Option.some.inj h2
    subst this
    refine Rep.keep (h := h1) (r'.weak fun b y => ?_) (Keep.push _ _)
    rcases y with y | rfl
    · exact .inl y
    · exact .inr (size_none _)
/-- over a tuple -/
theorem IT.tuple {e : Expr} {xs : List D} (he : EV c σ e (.tuple xs)) : IT c σ e xs := by
  constructor; intro s X vs R E I q
  refine he.run s X vs _ _ I fun v h1 t1 k1 r1 => ?_
  obtain ⟨l, items, rfl, ⟨o, n, ho, hc, hd⟩, ri⟩ := r1.tuple_inv
  have ht : h1.IsTuple l items := ⟨o, ho, hc, n, hd⟩
  refine wpAny_pyIter_tuple (s := { s with heap := h1, toks := t1 }) ht ?_
  have hne : l ≠ h1.objs.size := Nat.ne_of_lt (Heap.lt_size ho)
  have hlen : items.size = xs.length := by rw [← ri.length]; simp
  refine q _ _ _ _ _ _ _ (k1.trans (Keep.push _ _)) ⟨Walks.tuple I.ok.hh _ l hne items, hlen, ⟨⟨_, Heap.get?_push_size _ rfl, rfl, rfl⟩, ⟨o, Heap.get?_push_of_some _ ho, hc, n, hd⟩⟩, none_of_keep k1 (size_none _), ?_, ?_, ?_⟩
  · rintro i k ⟨⟨o, e, hc, _⟩, _⟩
    exact ⟨o, _, e, hc, .inr (.inl rfl)⟩
  · intro b hb nb
    rcases List.mem_cons.mp hb with w | hb
    · exact absurd w nb
    · rw [List.mem_singleton.mp hb]
      refine ⟨fun m => ?_, _, Heap.get?_push_of_some _ ho⟩
      obtain ⟨o', e', nt⟩ := (I.grow k1).alive l (.inr m)
      rw [ho] at e'; cases e'
      exact nt hc _ _ hd
  · intro i v d hv hd
    obtain ⟨v', e', r'⟩ := ri.get i hd
    have : v' = v := by
      have h2 : items.toList[i]? = some v := by simpa using hv
      rw [e'] at h2; exact Option.some.inj h2
    subst this
    refine Rep.keep (h := h1) (r'.weak fun b y => ?_) (Keep.push _ _)
    rcases y with y | rfl
    · exact .inl y
    · exact .inr (size_none _)

/-- a while by an invariant and a measure -/
theorem WP.while {t : Expr} {body rest : List Stmt} {p : Pos} {Q : Out → Prop} (P : Nat → List Slot → Prop) (n : Nat) (h0 : P n σ)
    (step : ∀ m σ', P m σ' → ∃ b, TS c σ' t b ∧ (b = true → WP c σ' body (forQ c rest Q fun σ'' => ∃ m', m' < m ∧ P m' σ'')) ∧ (b = false → WP c σ' rest Q)) : WP c σ (.While t body [] p :: rest) Q := by
  refine WP.cons ?_
  constructor; intro s X vs R E I k
  let J : Nat → Shared → Prop := fun m s' => ∃ vs' σ' h' tk', s' = { s with heap := h', toks := tk' } ∧ Inv c X h' vs' σ' ∧ P m σ' ∧ (∀ b o, ¬ Mut c vs σ b → s.heap.get? b = some o → h'.get? b = some o) ∧ ∀ b, Mut c vs' σ' b → Mut c vs σ b ∨ s.heap.get? b = none
  refine wpAny_While (codeAny_whileLoop J ?_ n ⟨vs, σ, s.heap, s.toks, rfl, I, h0, fun _ _ _ e => e, fun _ m => .inl m⟩)
  rintro m s' ⟨vs', σ', h', tk', rfl, I', hP, hk, he⟩
  obtain ⟨b, ht, h1, h2⟩ := step m σ' hP
  refine ht.run _ X vs' _ _ I' fun h1' t1 k1 => ?_
  have tr : ∀ {out : Out} {f : Flow} {h4 : Heap}, OutOk c X h1' vs' σ' h4 out f → OutOk c X s.heap vs σ h4 out f := fun r => (r.grown k1).trans hk he
  cases b with
  | true =>
    refine (h1 rfl).run _ X vs' _ _ (I'.grow k1) fun out f h4 t4 q r => ?_
    have r' := tr r
    cases out with
    | next σ4 =>
      obtain ⟨rfl, k4, vs4, I4, e4⟩ := r'
      obtain ⟨m', hm, hP4⟩ := q
      exact ⟨m', hm, vs4, σ4, h4, t4, rfl, I4, hP4, k4, e4⟩
    | cont σ4 =>
      obtain ⟨rfl, k4, vs4, I4, e4⟩ := r'
      obtain ⟨m', hm, hP4⟩ := q
      exact ⟨m', hm, vs4, σ4, h4, t4, rfl, I4, hP4, k4, e4⟩
    | brk σ4 =>
      obtain ⟨rfl, r2⟩ := r'
      exact k (.next σ4) _ _ _ q ⟨rfl, r2⟩
    | ret d =>
      obtain ⟨v, rfl, r2⟩ := id r'
      exact k (.ret d) _ _ _ q r'
  | false =>
    refine wpAny_execs_nil (k (.next σ') _ _ _ (h2 rfl) ?_)
    exact tr ⟨rfl, fun _ _ _ e => e, vs', I'.grow k1, fun _ m => .inl m⟩

/-- items -/
theorem EV.item2 {e e' : Expr} {p : Pos} {de di d : D} (he : EV c σ e de) (hi : EV c σ e' di) (hs : ∀ o i, ∃ ops, subscripted e' false o i = operate ops (getItem o i))
    (h : ∀ (s : Shared) (X : AS) (vs : Nat → Option Value) (u v : Value) (R : Value → Shared → Prop) (E : Value → Shared → Prop), Inv c X s.heap vs σ → Rep s.heap (Off c X vs σ) u de → Rep s.heap (Off c X vs σ) v di →
      (∀ v h' tk', Keep s.heap h' → Rep h' (Off c X vs σ) v d → R v { s with heap := h', toks := tk' }) → ∃ T id, s.TypeIs u T ∧ typeLookup (.type T) "__getitem__" = pure (some (.builtin id)) ∧ wpAny (model c.G.prog c.G.w) c.A (getItem u v) R E s) : EV c σ (.Subscript e e' p) d := by
  constructor; intro s X vs R E I q
  refine PyProof.Rows.Subscript_ (he.run s X vs _ _ I fun u h1 t1 k1 r1 => hi.run _ X vs _ _ (I.grow k1) fun v h2 t2 k2 r2 => ?_)
  obtain ⟨T, id, hT, hl, hg⟩ := h { s with heap := h2, toks := t2 } X vs u v R E ((I.grow k1).grow k2) (r1.keep k2) r2 fun v h' tk' k r => q v h' tk' (k1.trans (k2.trans k)) r
  obtain ⟨ops, hs⟩ := hs u v
  exact PyProof.Rows.tail_any hT hl hg hs
/-- no slice -/
def noSlice : Expr → Bool
  | .Slice .. => false
  | _ => true
theorem sub_of {e : Expr} (h : noSlice e = true) : ∀ o i, ∃ ops, subscripted e false o i = operate ops (getItem o i) := by
  intro o i
  cases e <;> first | exact ⟨_, rfl⟩ | cases h
theorem EV.item {e e' : Expr} {p : Pos} {xs : List D} {i : Int} {d : D} (he : EV c σ e (.list xs)) (hi : EV c σ e' (.int i)) (hs : noSlice e' = true) (h0 : 0 ≤ i) (hz : i < 2 ^ 62) (hd : xs[i.toNat]? = some d) : EV c σ (.Subscript e e' p) d :=
  EV.item2 he hi (sub_of hs) fun s X vs u v R E I ru rv q => by
    obtain ⟨a, items, rfl, hl, _, ri⟩ := ru.list_inv
    obtain ⟨_, rfl⟩ := rv.int_inv
    obtain ⟨x, ex, rx⟩ := ri.get _ hd
    exact ⟨"list", _, hl.isList.typeIs, slot_list_getitem.lookup, wpAny_getItem_list hl.isList h0 (by omega) (by simpa using ex) (q _ s.heap s.toks (Keep.refl _) rx)⟩
theorem EV.itemT {e e' : Expr} {p : Pos} {xs : List D} {i : Int} {d : D} (he : EV c σ e (.tuple xs)) (hi : EV c σ e' (.int i)) (hs : noSlice e' = true) (h0 : 0 ≤ i) (hz : i < 2 ^ 62) (hd : xs[i.toNat]? = some d) : EV c σ (.Subscript e e' p) d :=
  EV.item2 he hi (sub_of hs) fun s X vs u v R E I ru rv q => by
    obtain ⟨a, items, rfl, ⟨o, n, ho, hc, hdt⟩, ri⟩ := ru.tuple_inv
    obtain ⟨_, rfl⟩ := rv.int_inv
    obtain ⟨x, ex, rx⟩ := ri.get _ hd
    have ht : PyProof.Rows.IsTup s.heap a items := ⟨o, ho, hc, n, hdt⟩
    have hlt : i < items.size := by
      have := (List.getElem?_eq_some_iff.mp ex).1
      have h2 : items.toList.length = items.size := by simp
      omega
    exact ⟨"tuple", _, ht.typeIs, F.slot_tuple_getitem.lookup, PyProof.Rows.getItem_tuple ht (by omega) (by omega) (seqIndex_of h0 hlt) (by simpa using ex) (q _ s.heap s.toks (Keep.refl _) rx)⟩
end
end Mine
end
section
namespace Mine
open PySem PySem.Calls

section
variable {c : Cx} {σ : List Slot}

/-- a list to be read at once: a value, or an owned one -/
structure EVo (c : Cx) (σ : List Slot) (e : Expr) (xs : List D) : Prop where
  run : ∀ (s : Shared) (X : AS) (vs : Nat → Option Value) (R : Value → Shared → Prop) (E : Value → Shared → Prop), Inv c X s.heap vs σ →
    (∀ a items h' tk', Keep s.heap h' → IsLx h' a items → RepAll h' (Off c X vs σ) items.toList xs → R (.ref a) { s with heap := h', toks := tk' }) → wpAny (model c.G.prog c.G.w) c.A (eval e c.env) R E s
theorem EV.evo {e : Expr} {xs : List D} (h : EV c σ e (.list xs)) : EVo c σ e xs := by
  constructor; intro s X vs R E I q
  refine h.run s X vs _ _ I fun v h1 t1 k1 r1 => ?_
  obtain ⟨a, items, rfl, hl, _, ri⟩ := r1.list_inv
  exact q a items h1 t1 k1 hl ri
theorem EVo.own {x : Str} {p : Pos} {i : Nat} {xs : List D} (hi : slotOf c.names x = some i) (hk : isVar c x = true) (hd : σ[i]? = some (.own xs)) : EVo c σ (.Name x p) xs := by
  constructor; intro s X vs R E I q
  obtain ⟨a, items, e, l, r⟩ := I.slot i _ hd
  exact wp_load I (slotOf_get hi) (isVar.kind I.ok hk).1 (isVar.kind I.ok hk).2 e (q a items s.heap s.toks (Keep.refl _) l r)

theorem wp_bui {X : AS} {s : Shared} {vs : Nat → Option Value} {f : Str} {id : String} {p pos : Pos} {e : Expr} {R : Value → Shared → Prop} {E : Value → Shared → Prop} (B : isBui c f (.builtin id)) (I : Inv c X s.heap vs σ) (hn : noStar e = true)
    (h : wpAny (model c.G.prog c.G.w) c.A (eval e c.env) (fun v s₁ => wpAny (model c.G.prog c.G.w) c.A (call (.builtin id) [v]) R E s₁) E s) : wpAny (model c.G.prog c.G.w) c.A (eval (.Call (.Name f p) [e] [] pos) c.env) R E s := by
  refine wpAny_Call_NameR (B.load I ?_)
  refine callWith_builtin (noStar_any (by simp [hn])) (wp_args hn ?_)
  exact wpAny_items_cons (wpAny_mono h (fun v s₁ h₁ => wpAny_items_nil h₁) fun _ _ e => e) (starEach_of hn)
theorem EV.lenO {p pos : Pos} {e : Expr} {xs : List D} (B : isBui c (PySem.Str.ofString "len") (.builtin "len")) (he : EVo c σ e xs) (hn : noStar e = true) (hz : xs.length < 2 ^ 62) :
    EV c σ (.Call (.Name (PySem.Str.ofString "len") p) [e] [] pos) (.int xs.length) := by
  constructor; intro s X vs R E I q
  refine wp_bui B I hn (he.run s X vs _ _ I fun a items h1 t1 k1 hl ri => ?_)
  have hz' : items.size = xs.length := by rw [← ri.length]; simp
  exact call_len_list (s := { s with heap := h1, toks := t1 }) hl.isList (by omega) (by rw [hz']; exact q _ _ _ k1 Rep.int)
theorem EV.itemO {e e' : Expr} {p : Pos} {xs : List D} {i : Int} {d : D} (he : EVo c σ e xs) (hi : EV c σ e' (.int i)) (hs : noSlice e' = true) (h0 : 0 ≤ i) (hz : i < 2 ^ 62) (hd : xs[i.toNat]? = some d) : EV c σ (.Subscript e e' p) d := by
  constructor; intro s X vs R E I q
  refine PyProof.Rows.Subscript_ (he.run s X vs _ _ I fun a items h1 t1 k1 hl ri => hi.run _ X vs _ _ (I.grow k1) fun v h2 t2 k2 r2 => ?_)
  obtain ⟨_, rfl⟩ := r2.int_inv
  obtain ⟨n, hn⟩ := hl
  have hl2 : IsLx h2 a items := ⟨n, k2 _ _ hn⟩
  obtain ⟨x, ex, rx⟩ := (ri.keep k2).get _ hd
  obtain ⟨ops, hs⟩ := sub_of hs (.ref a) (.int i _)
  exact PyProof.Rows.tail_any (s := { s with heap := h2, toks := t2 }) hl2.isList.typeIs slot_list_getitem.lookup (wpAny_getItem_list hl2.isList h0 (by omega) (by simpa using ex) (q _ _ _ (k1.trans k2) rx)) hs

/-- a slice's bound -/
structure EVp (c : Cx) (σ : List Slot) (e : Option Expr) (k : Option Int) : Prop where
  run : ∀ (s : Shared) (X : AS) (vs : Nat → Option Value) (R : Value → Shared → Prop) (E : Value → Shared → Prop), Inv c X s.heap vs σ →
    (∀ v h' tk', Keep s.heap h' → IsPart v k → R v { s with heap := h', toks := tk' }) → wpAny (model c.G.prog c.G.w) c.A (evalPart e c.env) R E s
theorem EVp.none : EVp c σ none none := ⟨fun s _ _ _ _ _ q => wpAny_pure (q _ s.heap s.toks (Keep.refl _) .none)⟩
theorem EVp.some {e : Expr} {i : Int} (h : EV c σ e (.int i)) : EVp c σ (some e) (some i) := by
  constructor; intro s X vs R E I q
  refine h.run s X vs _ _ I fun v h1 t1 k1 r1 => ?_
  obtain ⟨t, rfl⟩ := r1.int_inv
  exact q _ _ _ k1 (.int i t)

/-- xs[lo:hi] -/
def cut {α : Type} (lo hi : Option Int) (xs : List α) : List α := (xs.drop (lo.elim 0 (clipAt xs.length))).take (hi.elim xs.length (clipAt xs.length) - lo.elim 0 (clipAt xs.length))

theorem cut_map {α β : Type} (f : α → β) (lo hi : Option Int) (xs : List α) : cut lo hi (xs.map f) = (cut lo hi xs).map f := by
  simp [cut, List.map_take, List.map_drop]

theorem EVF.slice {e : Expr} {l u : Option Expr} {p pos : Pos} {xs : List D} {lo hi : Option Int} (he : EVo c σ e xs) (hl : EVp c σ l lo) (hu : EVp c σ u hi) (hz : xs.length ≤ 2 ^ 20) : EVF c σ (.Subscript e (.Slice l u none p) pos) (cut lo hi xs) := by
  constructor; intro s X vs R E I q
  refine PyProof.Rows.Subscript_ (he.run s X vs _ _ I fun a items h1 t1 k1 hx ri => wpAny_Slice (hl.run _ X vs _ _ (I.grow k1) fun vl h2 t2 k2 r2 => hu.run _ X vs _ _ ((I.grow k1).grow k2) fun vu h3 t3 k3 r3 => wpAny_pure ?_))
  obtain ⟨n, hn⟩ := hx
  have hlen : items.size = xs.length := by rw [← ri.length]; simp
  have hx4 : IsLx (h3.push { cls := .type "slice", data := .fields #[vl, vu, Value.none] }) a items := ⟨n, Heap.get?_push_of_some _ (k3 _ _ (k2 _ _ hn))⟩
  refine PyProof.Rows.tail_any (s := { s with heap := h3.push { cls := .type "slice", data := .fields #[vl, vu, Value.none] }, toks := t3 }) hx4.isList.typeIs slot_list_getitem.lookup
    (wpAny_getItem_list_slice hx4.isList (Heap.IsSliceOf.new ..) r2 r3 .none (by simp) ?_ (by rw [hlen]; exact Nat.le_trans hz (by decide))) rfl
  rw [slicePick_plain]
  have k4 : Keep s.heap (h3.push { cls := .type "slice", data := .fields #[vl, vu, Value.none] }) := k1.trans (k2.trans (k3.trans (Keep.push _ _)))
  refine newF q k4 ?_
  have r4 := ri.keep (k2.trans (k3.trans (Keep.push h3 { cls := .type "slice", data := .fields #[vl, vu, Value.none] })))
  rw [hlen]
  exact (r4.drop _).take _

/-- an owned list's items change -/
theorem Inv.poke {X : AS} {h h' : Heap} {vs : Nat → Option Value} {i : Nat} {xs xs' : List D} {a : Addr} {items' : Array Value} (I : Inv c X h vs σ) (hi : σ[i]? = some (.own xs)) (hv : vs i = some (.ref a))
    (hs : Heap.SameBut a h h') (hl : IsLx h' a items') (r : RepAll h (Off c X vs σ) items'.toList xs') : Inv c X h' vs (σ.set i (.own xs')) ∧ (∀ b, Mut c vs (σ.set i (.own xs')) b ↔ Mut c vs σ b) := by
  have ho : ∀ j b, OwnAt vs (σ.set i (.own xs')) j b ↔ OwnAt vs σ j b := by
    intro j b
    by_cases q : j = i
    · subst q
      have hlt := (List.getElem?_eq_some_iff.mp hi).1
      constructor
      · rintro ⟨_, e⟩; exact ⟨⟨_, hi, trivial⟩, e⟩
      · rintro ⟨_, e⟩; exact ⟨⟨.own xs', by rw [List.getElem?_set]; simp [hlt], trivial⟩, e⟩
    · constructor
      · rintro ⟨⟨ys, e, o⟩, e2⟩; rw [List.getElem?_set_ne (Ne.symm q)] at e; exact ⟨⟨ys, e, o⟩, e2⟩
      · rintro ⟨⟨ys, e, o⟩, e2⟩; exact ⟨⟨ys, by rw [List.getElem?_set_ne (Ne.symm q)]; exact e, o⟩, e2⟩
  have hm : ∀ b, Mut c vs (σ.set i (.own xs')) b ↔ Mut c vs σ b := by
    intro b
    constructor
    · rintro (k | k | ⟨j, k⟩)
      · exact .inl k
      · exact .inr (.inl k)
      · exact .inr (.inr ⟨j, (ho j b).mp k⟩)
    · rintro (k | k | ⟨j, k⟩)
      · exact .inl k
      · exact .inr (.inl k)
      · exact .inr (.inr ⟨j, (ho j b).mpr k⟩)
  have hoff : ∀ b, Off c X vs (σ.set i (.own xs')) b → Off c X vs σ b := fun b k => k.imp id (hm b).mp
  have own : OwnAt vs σ i a := ⟨⟨_, hi, trivial⟩, hv⟩
  have ma : Mut c vs σ a := .inr (.inr ⟨i, own⟩)
  have hk : ∀ b o, h.get? b = some o → b ≠ a → h'.get? b = some o := fun b o e n => (hs.2 b n).trans e
  have hkept : ∀ b o, h.get? b = some o → ¬ Off c X vs σ b ∨ ¬ NT o → h'.get? b = some o := fun b o e k => hk b o e fun q => by
    subst q
    rcases k with k | k
    · exact k (.inr ma)
    · obtain ⟨o', e', n⟩ := I.alive b (.inr ma)
      rw [e] at e'; cases e'; exact k n
  refine ⟨⟨I.ok, fun b o e => hk b o (I.keep b o e) fun q => ?_, ?_, ?_, ?_, fun j k b hj hk => I.own1 j k b ((ho j b).mp hj) ((ho k b).mp hk), fun j b hj => I.ownC j b ((ho j b).mp hj), fun b m => I.sep b ((hm b).mp m), ?_, I.base⟩, hm⟩
  · subst q; rw [(I.sep b ma).2] at e; cases e
  · obtain ⟨m, hn, hm⟩ := I.loc
    exact ⟨m, hn.sameBut hs (Ne.symm (I.ownC i a own).1), hm⟩
  · intro j y hj hy
    obtain ⟨b, e1, o, e2, e3⟩ := I.cel j y hj hy
    exact ⟨b, e1, o, hk b o e2 (fun q => (I.ownC i a own).2 y (q ▸ e1)), e3⟩
  · intro j sl e
    by_cases q : j = i
    · subst q
      rw [List.getElem?_set] at e
      simp only [if_true] at e
      split at e
      · cases e
        exact ⟨a, items', hv, hl, (r.kept hkept).weak fun b y => .inl (hoff b y)⟩
      · cases e
    · rw [List.getElem?_set_ne (Ne.symm q)] at e
      have := (I.slot j sl e).kept hkept fun e1 b e2 o e3 => hk b o e3 fun w => by
        subst w; exact q (I.own1 j i b ⟨⟨sl, e, e1⟩, e2⟩ own)
      cases sl with
      | un => trivial
      | val d => obtain ⟨v, e, r⟩ := this; exact ⟨v, e, r.weak fun b y => .inl (hoff b y)⟩
      | own ys => obtain ⟨b, items, e, l, r⟩ := this; exact ⟨b, items, e, l, r.weak fun b y => .inl (hoff b y)⟩
      | dic kv => exact this
  · intro b k
    by_cases q : b = a
    · subst q
      obtain ⟨n, e⟩ := hl
      exact ⟨_, e, fun q => absurd (show Value.type "list" = Value.type "tuple" from q) (by decide)⟩
    · obtain ⟨o, e, n⟩ := I.alive b (hoff b k)
      exact ⟨o, hk b o e q, n⟩

theorem notInteractive {X : AS} {h : Heap} {vs : Nat → Option Value} (I : Inv c X h vs σ) : interactive c.env = false := by
  unfold interactive; rw [I.ok.kind]; rfl

theorem attrBase {x : Str} {p : Pos} {n : Str} {env : Env} {t : Sem Value} : attributeBase (.Name x p) n env t = t := rfl

theorem WP.append {x : Str} {p ap cp ep : Pos} {e : Expr} {d : D} {xs : List D} {i : Nat} {rest : List Stmt} {Q : Out → Prop} (hi : slotOf c.names x = some i) (hk : isVar c x = true) (hx : σ[i]? = some (.own xs)) (he : EV c σ e d) (hn : noStar e = true)
    (hline : (ap.endLine == cp.line) = true) (hz : xs.length < 2 ^ 20) (h : WP c (σ.set i (.own (xs ++ [d]))) rest Q) : WP c σ (.Expr (.Call (.Attribute (.Name x p) "append" ap) [e] [] cp) ep :: rest) Q := by
  refine WP.cons ?_
  constructor; intro s X vs R E I k
  obtain ⟨a, items, ea, hl, ri⟩ := I.slot i _ hx
  obtain ⟨n, hl⟩ := hl
  refine wpAny_Expr (wpAny_Call_append attrBase (by rw [starEach_of hn]; rfl) hline (by rw [starEach_of hn]; rfl) ?_) (notInteractive I) rfl
  refine wp_load I (slotOf_get hi) (isVar.kind I.ok hk).1 (isVar.kind I.ok hk).2 ea ⟨a, items, rfl, ⟨_, n, hl, rfl, rfl, rfl⟩, ?_⟩
  refine he.run s X vs _ _ I fun v h1 t1 k1 r1 => ?_
  have I1 := I.grow k1
  have hlen : items.size = xs.length := by rw [← ri.length]; simp
  refine wpAny_list_append_plain (s := { s with heap := h1, toks := t1 }) (items := items) ⟨n, k1 _ _ hl⟩ (fun h2 hl2 hs2 => ?_) (by rw [hlen]; exact Nat.le_of_lt (Nat.lt_trans hz (by decide)))
  have P := I1.poke hx ea hs2 hl2 (xs' := xs ++ [d]) (by rw [Array.toList_push]; exact RepAll.append (ri.keep k1) (RepAll.cons r1 RepAll.nil))
  refine k (.next (σ.set i (.own (xs ++ [d])))) _ _ _ h ⟨rfl, fun b o nb e => ?_, vs, P.1, fun b m => .inl ((P.2 b).mp m)⟩
  exact (hs2.2 b fun w => nb (by subst w; exact .inr (.inr ⟨i, ⟨_, hx, trivial⟩, ea⟩))).trans (k1 b o e)
end
end Mine
end
section
namespace Mine
open PySem PySem.Calls

section
variable {c : Cx} {σ : List Slot}

/-- comparing data -/
theorem units_ok {X : AS} {h : Heap} {vs : Nat → Option Value} (I : Inv c X h vs σ) : c.A.units + 64 < cLine := by
  have := I.ok.units; omega
theorem TS.eqD {l r : Expr} {p : Pos} {da db : D} (hl : EV c σ l da) (hr : EV c σ r db) (hn : noSet r = true) (ha : SeqAt.shaped da = true) (hb : SeqAt.shaped db = true) : TS c σ (.Compare l [.Eq] [r] p) (PyData.eqv da db) :=
  TS.cmp hl hr hn fun s X vs u v R E I ru rv q => by
    obtain ⟨_, ru, _⟩ := ru; obtain ⟨_, rv, _⟩ := rv
    exact SeqAt.compareEq_shaped ru rv ha hb (units_ok I) q
theorem TS.neD {l r : Expr} {p : Pos} {da db : D} (hl : EV c σ l da) (hr : EV c σ r db) (hn : noSet r = true) (ha : SeqAt.shaped da = true) (hb : SeqAt.shaped db = true) : TS c σ (.Compare l [.NotEq] [r] p) (!PyData.eqv da db) :=
  TS.cmp hl hr hn fun s X vs u v R E I ru rv q => by
    obtain ⟨_, ru, _⟩ := ru; obtain ⟨_, rv, _⟩ := rv
    exact SeqAt.compareNe_shaped ru rv ha hb (units_ok I) q

/-- two lists put together -/
theorem EVF.cat {l r : Expr} {p : Pos} {xs ys : List D} (hl : EV c σ l (.list xs)) (hr : EV c σ r (.list ys)) (hz : xs.length + ys.length ≤ 2 ^ 20) : EVF c σ (.BinOp l .Add r p) (xs ++ ys) := by
  constructor; intro s X vs R E I q
  refine wpAny_BinOp (hl.run s X vs _ _ I fun u h1 t1 k1 r1 => hr.run _ X vs _ _ (I.grow k1) fun v h2 t2 k2 r2 => ?_)
  obtain ⟨a, items, rfl, ⟨n, ha⟩, _, ri⟩ := (r1.keep k2).list_inv
  obtain ⟨b, items2, rfl, ⟨n2, hb⟩, _, ri2⟩ := r2.list_inv
  have e1 : items.size = xs.length := by rw [← ri.length]; simp
  have e2 : items2.size = ys.length := by rw [← ri2.length]; simp
  refine P.add_list (s := { s with heap := h2, toks := t2 }) ha hb ?_ (by rw [e1, e2]; exact Nat.le_trans hz (by decide))
  have := newF q (k1.trans k2) (t1 := t2) (ri.append ri2)
  rw [show (items.toList ++ items2.toList).toArray = items ++ items2 by simp] at this
  exact this

/-- several targets -/
structure TGs (c : Cx) (ts : List Expr) (ds : List D) (σ σ' : List Slot) : Prop where
  run : ∀ (s : Shared) (X : AS) (vs : Nat → Option Value) (us : List Value) (R : Unit → Shared → Prop) (E : Value → Shared → Prop), Inv c X s.heap vs σ → RepAll s.heap (Off c X vs σ) us ds →
    (∀ h' tk' vs', (∀ b o, ¬ Mut c vs σ b → s.heap.get? b = some o → h'.get? b = some o) → Inv c X h' vs' σ' → (∀ a, Mut c vs' σ' a → Mut c vs σ a) → R () { s with heap := h', toks := tk' }) →
      wpAny (model c.G.prog c.G.w) c.A (assignInOrder ((assignEach ts c.env).map (·.2)) us) R E s
theorem TGs.nil : TGs c [] [] σ σ := ⟨fun s _ vs _ _ _ I _ k => wpAny_pure (k s.heap s.toks vs (fun _ _ _ e => e) I fun _ m => m)⟩
theorem assignEach_of {t : Expr} {ts : List Expr} {env : Env} (h : noStar t = true) : assignEach (t :: ts) env = (false, assign t env) :: assignEach ts env := by
  cases t <;> first | rfl | cases h
theorem RepAll.move {h h' : Heap} {Y Y' : AS} : ∀ {vs : List Value} {ds : List D}, RepAll h Y vs ds → (∀ b o, h.get? b = some o → ¬ Y b ∨ ¬ NT o → h'.get? b = some o) → (∀ a, Y' a → Y a ∨ h.get? a = Option.none) → RepAll h' Y' vs ds
  | vs, [], q, _, _ => by rw [q.nil_inv]; exact RepAll.nil
  | vs, d :: ds, q, hk, hy => by
    obtain ⟨v, us, rfl, r, q⟩ := q.cons_inv
    exact RepAll.cons (r.move hk hy) (q.move hk hy)
theorem TGs.cons {t : Expr} {ts : List Expr} {d : D} {ds : List D} {σ1 σ' : List Slot} (h : TG c t d σ σ1) (hs : TGs c ts ds σ1 σ') (hn : noStar t = true) : TGs c (t :: ts) (d :: ds) σ σ' := by
  constructor; intro s X vs us R E I ru k
  obtain ⟨u, us, rfl, r, ru'⟩ := ru.cons_inv
  rw [assignEach_of hn]
  refine PyProof.Rows.assignInOrder_cons (h.run s X vs u _ _ I r fun h1 t1 vs1 k1 I1 m1 => ?_)
  refine hs.run _ X vs1 us _ _ I1 (ru'.move (fun b o e q => k1 b o (fun m => ?_) e) fun a y => .inl (y.imp id (m1 a))) fun h2 t2 vs2 k2 I2 m2 => k h2 t2 vs2 (fun b o n e => k2 b o (fun m => n (m1 b m)) (k1 b o n e)) I2 fun a m => m1 a (m2 a m)
  rcases q with q | q
  · exact q (.inr m)
  · obtain ⟨o', e', nt⟩ := I.alive b (.inr m)
    rw [e] at e'; cases e'; exact q nt
theorem assignEach_length {env : Env} : ∀ {ts : List Expr}, ts.all noStar = true → (assignEach ts env).length = ts.length ∧ (assignEach ts env).findIdx? (·.1) = none
  | [], _ => ⟨rfl, rfl⟩
  | t :: ts, h => by
    simp only [List.all_cons, Bool.and_eq_true] at h
    obtain ⟨h1, h2⟩ := assignEach_length (env := env) h.2
    rw [assignEach_of h.1]
    refine ⟨by simp [h1], ?_⟩
    rw [List.findIdx?_cons]
    simp [h2]
theorem TG.tuple {ts : List Expr} {k : Nat} {p : Pos} {ds : List D} {σ' : List Slot} (hs : TGs c ts ds σ σ') (hn : ts.all noStar = true) (hl : ts.length = ds.length) : TG c (.Tuple ts k p) (.tuple ds) σ σ' := by
  constructor; intro s X vs v R E I r q
  obtain ⟨a, items, rfl, ⟨o, n, ho, hc, hd⟩, ri⟩ := r.tuple_inv
  have ht : s.heap.IsTuple a items := ⟨o, ho, hc, n, hd⟩
  have hlen : items.size = ds.length := by rw [← ri.length]; simp
  obtain ⟨e1, e2⟩ := assignEach_length (env := c.env) hn
  refine wpAny_assign_Tuple I.ok.hh ht (by rw [e1, hl, hlen]) e2 fun h' hx => ?_
  have kk : Keep s.heap h' := fun b o e => hx b o (fun w => by rw [w, size_none] at e; cases e) e
  exact hs.run _ X vs _ _ _ (I.grow kk) (ri.keep kk) fun h2 t2 vs2 k2 I2 m2 => q h2 t2 vs2 (fun b o n e => k2 b o n (kk b o e)) I2 m2

/-- no tuple, no comprehension on the right -/
def plainRight : Expr → Bool
  | .Name .. | .Call .. | .Subscript .. => true
  | _ => false
theorem WP.unpack {ts : List Expr} {k : Nat} {tp p : Pos} {e : Expr} {d : D} {σ' : List Slot} {rest : List Stmt} {Q : Out → Prop} (he : EV c σ e d) (hp : plainRight e = true) (ht : TG c (.Tuple ts k tp) d σ σ')
    (h : WP c σ' rest Q) : WP c σ (.Assign [.Tuple ts k tp] e p :: rest) Q := by
  refine WP.cons ?_
  constructor; intro s X vs R E I k'
  refine PyProof.Rows.Assign_Tuple (he.run s X vs _ _ I fun v h1 t1 k1 r1 => ?_) (by cases e <;> first | rfl | cases hp) (by cases e <;> first | rfl | cases hp)
  refine ht.run _ X vs v _ _ (I.grow k1) r1 fun h2 t2 vs2 k2 I2 m2 => ?_
  exact k' (.next σ') _ _ _ h ⟨rfl, fun b o n e => k2 b o n (k1 b o e), vs2, I2, fun a m => .inl (m2 a m)⟩

/-- what a def gives for these arguments -/
def FnSpec (G : GX) (f : Addr) (args : List D) (P : D → Prop) (n : Nat) : Prop :=
  ∀ (A : Around) (s : Shared) (X : AS) (us : List Value) (R : Value → Shared → Prop) (E : Value → Shared → Prop), Keep G.hb s.heap → A.handled = none → A.depth + n < recursionLimit → A.units + 8 * n + 100 < cLine →
    (∀ a, X a → ∃ o, s.heap.get? a = some o ∧ NT o) → (∀ a, X a → G.hb.get? a = none) → RepAll s.heap X us args →
    (∀ v r h' tk', P r → Keep s.heap h' → Rep h' X v r → R v { s with heap := h', toks := tk' }) → wpAny (model G.prog G.w) A (call (.ref f) us) R E s
theorem FnSpec.mono {G : GX} {f : Addr} {args : List D} {P : D → Prop} {n m : Nat} (h : FnSpec G f args P n) (hm : n ≤ m) : FnSpec G f args P m :=
  fun A s X us R E k h1 h2 h3 a b ru q => h A s X us R E k h1 (by omega) (by omega) a b ru q

theorem off_base {X : AS} {h : Heap} {vs : Nat → Option Value} (I : Inv c X h vs σ) : ∀ a, Off c X vs σ a → c.G.hb.get? a = none := fun a k => k.elim (I.base a) fun m => none_of_keep I.ok.keepB (I.sep a m).2
structure IsFn (G : GX) (x : Str) (f : Addr) : Prop where
  glob : G.mg x = some (.ref f)
  fn : ∃ o fd, G.hb.get? f = some o ∧ o.data = .func fd
/-- an expression's value, known in part -/
structure EVP (c : Cx) (σ : List Slot) (e : Expr) (P : D → Prop) : Prop where
  run : ∀ (s : Shared) (X : AS) (vs : Nat → Option Value) (R : Value → Shared → Prop) (E : Value → Shared → Prop), Inv c X s.heap vs σ →
    (∀ v d h' tk', P d → Keep s.heap h' → Rep h' (Off c X vs σ) v d → R v { s with heap := h', toks := tk' }) → wpAny (model c.G.prog c.G.w) c.A (eval e c.env) R E s
theorem EVP.ev {e : Expr} {d : D} (h : EVP c σ e (· = d)) : EV c σ e d :=
  ⟨fun s X vs R E I q => h.run s X vs R E I fun v d' h' tk' e k r => q v h' tk' k (e ▸ r)⟩
theorem EVP.call {x : Str} {p pos : Pos} {f : Addr} {e : Expr} {es : List Expr} {ds : List D} {P : D → Prop} {n : Nat} (hk : c.kinds.lookup x = some .globalImplicit) (hd : (x == ("__debug__" : Str)) = false) (hf : IsFn c.G x f) (hs : EVs c σ (e :: es) ds) (hn : noStar e = true)
    (h : FnSpec c.G f ds P n) (hr : n ≤ c.room) : EVP c σ (.Call (.Name x p) (e :: es) [] pos) P := by
  constructor; intro s X vs R E I q
  refine wpAny_Call_NameR (Name_function_global I.ok.kind ((I.ok.kinds x).trans hk) (loadGlobal_global (env := c.env) ?_ hf.glob ?_) hd)
  · rw [I.ok.glob]; exact (I.ok.g.g.keeps I.ok.keepB).keeps I.keep
  obtain ⟨o, fd, ho, hfd⟩ := hf.fn
  refine callWith_function (o := o) (fd := fd) (wp_args hn (hs.run s X vs _ _ pos I fun us h1 t1 k1 r1 => ⟨⟨?_, hfd⟩, ?_⟩))
  · exact k1 _ _ (I.keep _ _ (I.ok.keepB _ _ ho))
  have I1 := I.grow k1
  exact (h.mono hr) c.A _ (Off c X vs σ) us _ _ (I.ok.keepB.trans I1.keep) I.ok.hh I.ok.depth I.ok.units I1.alive (off_base I1) r1 fun v r h' tk' hp k r' => q v r h' tk' hp (k1.trans k) r'
theorem EV.call {x : Str} {p pos : Pos} {f : Addr} {e : Expr} {es : List Expr} {ds : List D} {r : D} {n : Nat} (hk : c.kinds.lookup x = some .globalImplicit) (hd : (x == ("__debug__" : Str)) = false) (hf : IsFn c.G x f) (hs : EVs c σ (e :: es) ds) (hn : noStar e = true)
    (h : FnSpec c.G f ds (· = r) n) (hr : n ≤ c.room) : EV c σ (.Call (.Name x p) (e :: es) [] pos) r := (EVP.call hk hd hf hs hn h hr).ev
theorem WP.assignP {x : Str} {p p' : Pos} {e : Expr} {P : D → Prop} {i : Nat} {rest : List Stmt} {Q : Out → Prop} (hi : slotOf c.names x = some i) (hk : isVar c x = true) (hc : noComp e = true) (he : EVP c σ e P)
    (h : ∀ d, P d → WP c (σ.set i (.val d)) rest Q) : WP c σ (.Assign [.Name x p'] e p :: rest) Q := by
  refine WP.cons ?_
  constructor; intro s X vs R E I k
  refine wpAny_Assign_Name (he.run s X vs _ _ I fun v d h1 t1 hp k1 r1 => ?_) (swaps_of hc)
  have I1 := I.grow k1
  refine wp_store I1 (slotOf_get hi) (isVar.kind I.ok hk).1 fun h2 t2 S => ?_
  refine k (.next (σ.set i (.val d))) _ _ _ (h d hp) ⟨rfl, fun b o n q => S.keeps b o n (k1 b o q), upd vs i v, ?_, fun a m => ?_⟩
  · exact I1.put S (slotOf_get hi) (fun _ x => x) (fun e => by exact False.elim e) fun _ => ⟨v, rfl, r1⟩
  · exact mut_put (fun e => by exact False.elim e) m

/-- a def's own facts -/
structure FnIs (G : GX) (f : Addr) (fd : FuncData) : Prop where
  get : ∃ o, G.hb.get? f = some o ∧ o.data = .func fd
  code : G.hb.CodeRec fd.code fd.qualname
  glob : fd.globals = mainGlobals
  bui : fd.builtins = builtinsNs
  clo : fd.closure = []
  co : fd.scope.isCoroutine = false
  gen : fd.scope.isGenerator = false
  kind : fd.scope.kind = .function

theorem bindL_not {k : Str → Option NameKind} : ∀ {binds : List (Str × Value)} {m : Str → Option Value} {x : Str}, (∀ v, (x, v) ∉ binds) → bindL k binds m x = m x
  | [], _, _, _ => rfl
  | (n, v) :: r, m, x, h => by
    unfold bindL
    rw [bindL_not fun v' hm => h v' (.tail _ hm)]
    split
    · show (if x = n then some v else m x) = m x
      rw [if_neg]
      intro e; subst e; exact h v (.head _)
    · rfl
theorem bindC_not {k : Str → Option NameKind} : ∀ {binds : List (Str × Value)} {m : Str → Option Value} {x : Str}, (∀ v, (x, v) ∉ binds) → bindC k binds m x = m x
  | [], _, _, _ => rfl
  | (n, v) :: r, m, x, h => by
    unfold bindC
    rw [bindC_not fun v' hm => h v' (.tail _ hm)]
    split
    · rfl
    · show (if x = n then some v else m x) = m x
      rw [if_neg]
      intro e; subst e; exact h v (.head _)
theorem bindL_at {k : Str → Option NameKind} : ∀ {binds : List (Str × Value)} {m : Str → Option Value} {x : Str} {v : Value}, (binds.map (·.1)).Nodup → (x, v) ∈ binds → k x = some .local → bindL k binds m x = some v
  | (n, u) :: r, m, x, v, nd, h, hk => by
    unfold bindL
    rw [List.map_cons, List.nodup_cons] at nd
    rcases List.mem_cons.mp h with e | h
    · cases e
      rw [bindL_not fun v' hm => nd.1 (List.mem_map.mpr ⟨_, hm, rfl⟩), if_pos hk]
      exact if_pos rfl
    · exact bindL_at nd.2 h hk
theorem bindC_at {k : Str → Option NameKind} : ∀ {binds : List (Str × Value)} {m : Str → Option Value} {x : Str} {v : Value}, (binds.map (·.1)).Nodup → (x, v) ∈ binds → k x ≠ some .local → bindC k binds m x = some v
  | (n, u) :: r, m, x, v, nd, h, hk => by
    unfold bindC
    rw [List.map_cons, List.nodup_cons] at nd
    rcases List.mem_cons.mp h with e | h
    · cases e
      rw [bindC_not fun v' hm => nd.1 (List.mem_map.mpr ⟨_, hm, rfl⟩), if_neg hk]
      exact if_pos rfl
    · exact bindC_at nd.2 h hk

theorem cells_lookup : ∀ {l : List (Str × NameKind)} {n : Nat} {acc : List (Str × Addr)} {x : Str}, (l.lookup x = some .cell ∨ (acc.lookup x).isSome = true) → ((cellsFrom n l acc).lookup x).isSome = true
  | [], n, acc, x, h => h.elim (fun e => by simp at e) id
  | (y, k) :: r, n, acc, x, h => by
    unfold cellsFrom
    split
    · rename_i hk
      refine cells_lookup ?_
      by_cases e : x = y
      · right; subst e; simp
      · have e' : (x == y) = false := by simpa using e
        rcases h with h | h
        · left; rw [List.lookup_cons, e'] at h; exact h
        · right; rw [List.lookup_cons, e']; exact h
    · rename_i hk
      refine cells_lookup ?_
      rcases h with h | h
      · left
        rw [List.lookup_cons] at h
        split at h
        · cases h; exact absurd rfl hk
        · exact h
      · exact .inr h

/-- a def's body gives its spec -/
theorem FnSpec.intro {G : GX} {f : Addr} {fd : FuncData} {body : List Stmt} {params more : List Str} {kinds : List (Str × NameKind)} {args : List D} {P : D → Prop} {n : Nat} (hG : G.Ok) (hf : FnIs G f fd) (hb : fd.body = .stmts body) (hkinds : fd.scope.names = kinds)
    (hbind : ∀ us : List Value, us.length = params.length → bindArgs fd ⟨us, []⟩ = pure (params.zip us)) (hnd : (params ++ more).Nodup) (hkind : (params ++ more).all (fun x => kinds.lookup x == some .local || kinds.lookup x == some .cell) = true)
    (hlen : args.length = params.length)
    (h : ∀ (A : Around) (env : Env) (h0 : Heap), WP ⟨G, A, env, h0, params ++ more, kinds, n⟩ (args.map Slot.val ++ more.map fun _ => .un) body (fun o => ∃ d, o = .ret d ∧ P d)) : FnSpec G f args P (n + 1) := by
  intro A s X us R E kb hh hd hu al ab ru q
  obtain ⟨o, ho, hdat⟩ := hf.get
  have hus : us.length = params.length := by rw [ru.length, hlen]
  have hmap : (params.zip us).map (·.1) = params := List.map_fst_zip (by omega)
  have hkd : ∀ x ∈ params ++ more, kinds.lookup x = some .local ∨ kinds.lookup x = some .cell := fun x hx => by
    have := List.all_eq_true.mp hkind x hx
    simpa using this
  refine wpAny_call (codeAny_call_cells (by omega) (kb _ _ ho) hdat (hG.nolim.keeps kb) (hf.code.keeps kb) hb (hbind us hus) hf.clo ?_ ?_ hf.co hf.gen hf.kind)
  · intro x hx
    have hm : x.1 ∈ params := by rw [← hmap]; exact List.mem_map.mpr ⟨x, hx, rfl⟩
    rw [hkinds]
    rcases hkd x.1 (List.mem_append_left _ hm) with e | e
    · exact .inl e
    · exact .inr ⟨e, cells_lookup (.inl e)⟩
  · intro s₁ x
    have hkof : ∀ y, (callEnvC fd s.heap.objs.size f).kindOf y = kinds.lookup y := fun y => by rw [← hkinds]; rfl
    generalize henv : callEnvC fd s.heap.objs.size f = env at x hkof ⊢
    have e1 : env.scope.kind = .function := by rw [← henv]; exact hf.kind
    have e2 : env.globals = mainGlobals := by rw [← henv]; exact hf.glob
    have e3 : env.builtins = builtinsNs := by rw [← henv]; exact hf.bui
    obtain ⟨h₁, tk, rfl, kk⟩ := x.done
    have nsL := x.toInCall.ns
    have hL0 : ∀ a, env.locals ≤ a → s.heap.get? a = none := fun a ha => Heap.get?_none_of_le (Nat.le_trans x.toInCall.fresh ha)
    let vs : Nat → Option Value := fun i => ((params ++ more)[i]?).elim none fun y => if kinds.lookup y = some .local then bindL env.kindOf (params.zip us) (fun _ => none) y else bindC env.kindOf (params.zip us) (fun _ => none) y
    have vget : ∀ i y, (params ++ more)[i]? = some y → vs i = if kinds.lookup y = some .local then bindL env.kindOf (params.zip us) (fun _ => none) y else bindC env.kindOf (params.zip us) (fun _ => none) y := fun i y e => by
      show ((params ++ more)[i]?).elim _ _ = _
      rw [e]; rfl
    have hown : ∀ i a, ¬ OwnAt vs (args.map Slot.val ++ more.map fun _ => .un) i a := by
      rintro i a ⟨⟨xs, e, ho⟩, _⟩
      rw [List.getElem?_append] at e
      split at e
      · rw [List.getElem?_map] at e
        cases q : args[i]? <;> rw [q] at e <;> cases e <;> exact ho
      · rw [List.getElem?_map] at e
        cases q : more[i - (args.map Slot.val).length]? <;> rw [q] at e <;> cases e <;> exact ho
    have ok : Cx.Ok ⟨G, A.deeper env, env, s.heap, params ++ more, kinds, n⟩ := ⟨hG, kb, e1, e2, e3, hh, by show A.depth + 1 + n < recursionLimit; omega, by show A.units + 3 + 8 * n + 100 < cLine; omega, hnd, hkof, x.apart, fun y a hm => Nat.ne_of_gt (x.above y a (mem_of_lookup hm))⟩
    have hmut : ∀ a, Mut ⟨G, A.deeper env, env, s.heap, params ++ more, kinds, n⟩ vs (args.map Slot.val ++ more.map fun _ => .un) a → env.locals ≤ a ∧ ∃ o, h₁.get? a = some o ∧ NT o := by
      rintro a (e | ⟨y, e⟩ | ⟨i, e⟩)
      · subst e
        obtain ⟨o, es, ep, e4, e5, _⟩ := nsL
        exact ⟨Nat.le_refl _, o, e4, fun _ v n q => by rw [e5] at q; cases q⟩
      · have hab := x.above y a (mem_of_lookup e)
        obtain ⟨o, e4, e5⟩ := x.cell y a e
        exact ⟨Nat.le_of_lt hab, o, e4, fun _ v n q => by rw [e5] at q; cases q⟩
      · exact absurd e (hown i a)
    have hX : ∀ a, X a → s.heap.get? a ≠ none := fun a hx e => by obtain ⟨o, e', _⟩ := al a hx; rw [e] at e'; cases e'
    have hY : ∀ a, Off ⟨G, A.deeper env, env, s.heap, params ++ more, kinds, n⟩ X vs (args.map Slot.val ++ more.map fun _ => .un) a → X a ∨ s.heap.get? a = none := by
      rintro a (k | k)
      · exact .inl k
      · exact .inr (hL0 a (hmut a k).1)
    have I : Inv ⟨G, A.deeper env, env, s.heap, params ++ more, kinds, n⟩ X h₁ vs (args.map Slot.val ++ more.map fun _ => .un) := by
      refine ⟨ok, kk, ⟨_, nsL, fun i y hy hl => ?_⟩, fun i y hy hl => ?_, fun i sl e => ?_, fun i j a hi _ => absurd hi (hown i a), fun i a hi => absurd hi (hown i a), fun a m => ?_, ?_, ?_⟩
      · rw [vget i y hy, ← hkof, if_pos hl]
      · rw [vget i y hy, ← hkof, if_neg (by rw [hl]; decide)]
        have hc : ∃ a, env.cells.lookup y = some a := by
          have : (env.cells.lookup y).isSome = true := by
            rw [← henv]
            refine cells_lookup (.inl ?_)
            rw [hkinds, ← hkof]; exact hl
          exact Option.isSome_iff_exists.mp this
        obtain ⟨a, ha⟩ := hc
        exact ⟨a, ha, x.cell y a ha⟩
      · rw [List.getElem?_append] at e
        split at e
        · rename_i hlt
          rw [List.length_map] at hlt
          rw [List.getElem?_map, List.getElem?_eq_getElem hlt] at e
          cases e
          obtain ⟨u, eu, r1⟩ := ru.get i (List.getElem?_eq_getElem hlt)
          have hi : i < params.length := by omega
          have hp : (params ++ more)[i]? = some params[i] := by rw [List.getElem?_append_left hi, List.getElem?_eq_getElem hi]
          have hmem : (params[i], u) ∈ params.zip us := by
            obtain ⟨hiu, eu'⟩ := List.getElem?_eq_some_iff.mp eu
            refine List.mem_iff_getElem.mpr ⟨i, by simp; omega, ?_⟩
            simp [eu']
          have ndz : ((params.zip us).map (·.1)).Nodup := by rw [hmap]; exact (List.nodup_append.mp hnd).1
          refine ⟨u, ?_, (r1.weak fun a y => hY a y).keep kk⟩
          rw [vget i _ hp]
          by_cases hl : kinds.lookup params[i] = some .local
          · rw [if_pos hl]; exact bindL_at ndz hmem ((hkof _).trans hl)
          · rw [if_neg hl]; exact bindC_at ndz hmem (by rw [hkof]; exact hl)
        · rw [List.getElem?_map] at e
          cases q : more[i - (args.map Slot.val).length]? <;> rw [q] at e <;> cases e
          trivial
      · have := hL0 a (hmut a m).1
        exact ⟨fun hx => hX a hx this, this⟩
      · rintro a (k | k)
        · obtain ⟨o, e, nt⟩ := al a k
          exact ⟨o, kk a o e, nt⟩
        · exact (hmut a k).2
      · exact ab
    refine (h (A.deeper env) env s.heap).run _ X vs _ _ I fun out fl h' tk' ho r => ?_
    obtain ⟨d, rfl, hp⟩ := ho
    obtain ⟨v, rfl, k2, r2⟩ := r
    refine q v d h' tk' hp (fun b o e => ?_) r2
    refine k2 b o (fun m => ?_) (kk b o e)
    have := hL0 b (hmut b m).1
    rw [e] at this; cases this
end
end Mine
end
section
namespace Mine
open PySem PySem.Calls

def bodyAt (p : Program) (k : Nat) : List Stmt := match p.main.body[k]? with
  | some (.FunctionDef _ _ b _ _ _ _ _ _ _) => b
  | _ => []
def kindsAt (p : Program) (k : Nat) : List (Str × NameKind) := match p.main.body[k]? with
  | some (.FunctionDef _ _ _ _ _ _ s _ _ _) => s.names
  | _ => []

/-- the built-ins that the texts call -/
structure Bis (G : GX) : Prop where
  len : BI G (PySem.Str.ofString "len") (.builtin "len")
  min : BI G (PySem.Str.ofString "min") (.builtin "min")
  max : BI G (PySem.Str.ofString "max") (.builtin "max")
  abs : BI G (PySem.Str.ofString "abs") (.builtin "abs")
  sum : BI G (PySem.Str.ofString "sum") (.builtin "sum")
  range : BI G (PySem.Str.ofString "range") (.type "range")
  list : BI G (PySem.Str.ofString "list") (.type "list")

abbrev LI (ns : List Int) : D := .list (ns.map PyData.int)
abbrev TI (ns : List Int) : D := .tuple (ns.map PyData.int)
abbrev T3 (p : Int × Int × Int) : D := .tuple [.int p.1, .int p.2.1, .int p.2.2]
abbrev LT (ts : List (Int × Int × Int)) : D := .list (ts.map T3)
theorem li_get {ns : List Int} {i : Int} {x : Int} (h : ns[i.toNat]? = some x) : (ns.map PyData.int)[i.toNat]? = some (PyData.int x) := by
  rw [List.getElem?_map, h]; rfl

theorem li_at {ns : List Int} {i : Int} (h0 : 0 ≤ i) (h : i < ns.length) : (ns.map PyData.int)[i.toNat]? = some (PyData.int (ns.getD i.toNat 0)) := by
  have : i.toNat < ns.length := by omega
  rw [List.getElem?_map, List.getElem?_eq_getElem this, List.getD_eq_getElem?_getD, List.getElem?_eq_getElem this]; rfl

section
variable {c : Cx} {σ : List Slot}
theorem EV.itemI {e e' : Expr} {p : Pos} {ns : List Int} {i : Int} (he : EVo c σ e (ns.map PyData.int)) (hi : EV c σ e' (.int i)) (hs : noSlice e' = true) (h0 : 0 ≤ i) (h : i < ns.length) (hz : i < 2 ^ 62) : EV c σ (.Subscript e e' p) (.int (ns.getD i.toNat 0)) :=
  EV.itemO he hi hs h0 hz (li_at h0 h)
theorem EV.modP {l r : Expr} {p : Pos} {a b : Int} (hl : EV c σ l (.int a)) (hr : EV c σ r (.int b)) (hb : 0 < b) : EV c σ (.BinOp l .Mod r p) (.int (a % b)) := by
  have := EV.mod (p := p) hl hr (by omega)
  rwa [Int.fmod_eq_emod_of_nonneg _ (by omega)] at this
theorem EV.fdivP {l r : Expr} {p : Pos} {a b : Int} (hl : EV c σ l (.int a)) (hr : EV c σ r (.int b)) (hb : 0 < b) (hs : b < 1073741824) : EV c σ (.BinOp l .FloorDiv r p) (.int (a / b)) := by
  have := EV.fdiv (p := p) hl hr (by omega) (by omega)
  rwa [Int.fdiv_eq_ediv_of_nonneg _ (by omega)] at this
theorem EV.pow {l r : Expr} {p : Pos} {a b : Int} (hl : EV c σ l (.int a)) (hr : EV c σ r (.int b)) (h0 : 0 ≤ b) (ha : a.natAbs < 2 ^ 64) (hb : b ≤ 2 ^ 20) : EV c σ (.BinOp l .Pow r p) (.int (a ^ b.toNat)) :=
  EV.bin2 hl hr fun s X vs u v R E I ru rv q => by
    obtain ⟨_, rfl⟩ := ru.int_inv; obtain ⟨_, rfl⟩ := rv.int_inv
    refine PyProof.Rows.pow_int h0 ?_ (q _ _ _ (Keep.refl _) Rep.int)
    have h1 := intBits_small ha
    have h2 : (Builtin.Int.intBits a : Int) * b ≤ 64 * b := Int.mul_le_mul_of_nonneg_right (by omega) h0
    omega
theorem EVF.listOf {e : Expr} {p pos : Pos} {xs : List D} (B : Bis c.G) (he : EVo c σ e xs) (hk : c.kinds.lookup (PySem.Str.ofString "list") = some .globalImplicit) (hn : noStar e = true) (hz : xs.length ≤ 2 ^ 20) : EVF c σ (.Call (.Name (PySem.Str.ofString "list") p) [e] [] pos) xs := by
  constructor; intro s X vs R E I q
  have Bu : isBui c (PySem.Str.ofString "list") (.type "list") := ⟨hk, by decide, B.list⟩
  refine wpAny_Call_NameR (Bu.load I ?_)
  refine callWith_type (noStar_any (by simp [hn])) (wp_args hn (wpAny_items_cons (he.run s X vs _ _ I fun a items h1 t1 k1 hl ri => wpAny_items_nil ?_) (starEach_of hn)))
  obtain ⟨n, ha⟩ := hl
  have hlen : items.size = xs.length := by rw [← ri.length]; simp
  refine call_list_seq (s := { s with heap := h1, toks := t1 }) a (.inl rfl) ha rfl rfl (fun h' c' k hx => ?_) (by rw [hlen]; exact Nat.le_trans hz (by decide))
  refine q _ items h' t1 (k1.trans k) (none_of_keep k1 (size_none _)) ⟨c', hx⟩ ((ri.weak fun b y => ?_).keep k)
  rcases y with y | rfl
  · exact .inl y
  · exact .inr (size_none _)
theorem EV.itemTI {e e' : Expr} {p : Pos} {ns : List Int} {i : Int} (he : EV c σ e (.tuple (ns.map PyData.int))) (hi : EV c σ e' (.int i)) (hs : noSlice e' = true) (h0 : 0 ≤ i) (h : i < ns.length) (hz : i < 2 ^ 62) : EV c σ (.Subscript e e' p) (.int (ns.getD i.toNat 0)) :=
  EV.itemT he hi hs h0 hz (li_at h0 h)
theorem WP.appendI {x : Str} {p ap cp ep : Pos} {e : Expr} {n : Int} {ns : List Int} {i : Nat} {rest : List Stmt} {Q : Out → Prop} (hi : slotOf c.names x = some i) (hk : isVar c x = true) (hx : σ[i]? = some (.own (ns.map PyData.int))) (he : EV c σ e (.int n)) (hn : noStar e = true)
    (hline : (ap.endLine == cp.line) = true) (hz : ns.length < 2 ^ 20) (h : WP c (σ.set i (.own ((ns ++ [n]).map PyData.int))) rest Q) : WP c σ (.Expr (.Call (.Attribute (.Name x p) "append" ap) [e] [] cp) ep :: rest) Q :=
  WP.append hi hk hx he hn hline (by simpa using hz) (by rw [List.map_append] at h; exact h)
theorem WP.appendT {x : Str} {p ap cp ep : Pos} {e : Expr} {a b d : Int} {ts : List (Int × Int × Int)} {i : Nat} {rest : List Stmt} {Q : Out → Prop} (hi : slotOf c.names x = some i) (hk : isVar c x = true) (hx : σ[i]? = some (.own (ts.map T3))) (he : EV c σ e (.tuple [.int a, .int b, .int d])) (hn : noStar e = true)
    (hline : (ap.endLine == cp.line) = true) (hz : ts.length < 2 ^ 20) (h : WP c (σ.set i (.own ((ts ++ [(a, b, d)]).map T3))) rest Q) : WP c σ (.Expr (.Call (.Attribute (.Name x p) "append" ap) [e] [] cp) ep :: rest) Q :=
  WP.append hi hk hx he hn hline (by simpa using hz) (by rw [List.map_append] at h; exact h)
theorem WP.unpackP {ts : List Expr} {k : Nat} {tp p : Pos} {e : Expr} {P : D → Prop} {rest : List Stmt} {Q : Out → Prop} (he : EVP c σ e P) (hp : plainRight e = true) (h : ∀ d, P d → ∃ σ', TG c (.Tuple ts k tp) d σ σ' ∧ WP c σ' rest Q) :
    WP c σ (.Assign [.Tuple ts k tp] e p :: rest) Q := by
  refine WP.cons ?_
  constructor; intro s X vs R E I k'
  refine PyProof.Rows.Assign_Tuple (he.run s X vs _ _ I fun v d h1 t1 hP k1 r1 => ?_) (by cases e <;> first | rfl | cases hp) (by cases e <;> first | rfl | cases hp)
  obtain ⟨σ', ht, hw⟩ := h d hP
  refine ht.run _ X vs v _ _ (I.grow k1) r1 fun h2 t2 vs2 k2 I2 m2 => ?_
  exact k' (.next σ') _ _ _ hw ⟨rfl, fun b o n e => k2 b o n (k1 b o e), vs2, I2, fun a m => .inl (m2 a m)⟩
theorem EVF.sliceI {e : Expr} {l u : Option Expr} {p pos : Pos} {ns : List Int} {lo hi : Option Int} (he : EVo c σ e (ns.map PyData.int)) (hl : EVp c σ l lo) (hu : EVp c σ u hi) (hz : ns.length ≤ 2 ^ 20) : EVF c σ (.Subscript e (.Slice l u none p) pos) ((cut lo hi ns).map PyData.int) := by
  have := EVF.slice (p := p) (pos := pos) he hl hu (by simpa using hz)
  rwa [cut_map] at this
theorem EVF.catI {l r : Expr} {p : Pos} {a b : List Int} (hl : EV c σ l (LI a)) (hr : EV c σ r (LI b)) (hz : a.length + b.length ≤ 2 ^ 20) : EVF c σ (.BinOp l .Add r p) ((a ++ b).map PyData.int) := by
  rw [List.map_append]
  exact EVF.cat hl hr (by simpa using hz)
theorem EVF.evI {e : Expr} {ns : List Int} (h : EVF c σ e (ns.map PyData.int)) : EV c σ e (LI ns) := h.ev
theorem EV.min' {p pos : Pos} {e e' : Expr} {a b : Int} (B : Bis c.G) (he : EV c σ e (.int a)) (he' : EV c σ e' (.int b)) (hk : c.kinds.lookup (PySem.Str.ofString "min") = some .globalImplicit) (hn : noStar e = true) (hn' : noStar e' = true) :
    EV c σ (.Call (.Name (PySem.Str.ofString "min") p) [e, e'] [] pos) (.int (Min.min a b)) := EV.min ⟨hk, by decide, B.min⟩ he he' hn hn'
theorem EV.max' {p pos : Pos} {e e' : Expr} {a b : Int} (B : Bis c.G) (he : EV c σ e (.int a)) (he' : EV c σ e' (.int b)) (hk : c.kinds.lookup (PySem.Str.ofString "max") = some .globalImplicit) (hn : noStar e = true) (hn' : noStar e' = true) :
    EV c σ (.Call (.Name (PySem.Str.ofString "max") p) [e, e'] [] pos) (.int (Max.max a b)) := EV.max ⟨hk, by decide, B.max⟩ he he' hn hn'
theorem EV.abs' {p pos : Pos} {e : Expr} {a : Int} (B : Bis c.G) (he : EV c σ e (.int a)) (hk : c.kinds.lookup (PySem.Str.ofString "abs") = some .globalImplicit) (hn : noStar e = true) :
    EV c σ (.Call (.Name (PySem.Str.ofString "abs") p) [e] [] pos) (.int (if a < 0 then -a else a)) := EV.abs ⟨hk, by decide, B.abs⟩ he hn
theorem EV.len' {p pos : Pos} {e : Expr} {xs : List D} (B : Bis c.G) (he : EVo c σ e xs) (hk : c.kinds.lookup (PySem.Str.ofString "len") = some .globalImplicit) (hn : noStar e = true) (hz : xs.length < 2 ^ 62) :
    EV c σ (.Call (.Name (PySem.Str.ofString "len") p) [e] [] pos) (.int xs.length) := EV.lenO ⟨hk, by decide, B.len⟩ he hn hz
theorem IT.range1' {e : Expr} {p pos : Pos} {n : Int} (B : Bis c.G) (he : EV c σ e (.int n)) (hk : c.kinds.lookup (PySem.Str.ofString "range") = some .globalImplicit) (hn : noStar e = true) (hlo : -(2 ^ 62) ≤ n) (hhi : n < 2 ^ 62) :
    IT c σ (.Call (.Name (PySem.Str.ofString "range") p) [e] [] pos) (rng 0 n) := IT.range1 ⟨hk, by decide, B.range⟩ he hn hlo hhi
theorem IT.range2' {e e' : Expr} {p pos : Pos} {a b : Int} (B : Bis c.G) (he : EV c σ e (.int a)) (he' : EV c σ e' (.int b)) (hk : c.kinds.lookup (PySem.Str.ofString "range") = some .globalImplicit) (hn : noStar e = true) (hn' : noStar e' = true)
    (hlo : -(2 ^ 62) ≤ a) (hhi : a < 2 ^ 62) (hlo' : -(2 ^ 62) ≤ b) (hhi' : b < 2 ^ 62) : IT c σ (.Call (.Name (PySem.Str.ofString "range") p) [e, e'] [] pos) (rng a b) := IT.range2 ⟨hk, by decide, B.range⟩ he he' hn hn' hlo hhi hlo' hhi'
theorem IT.rangeDown' {e e' : Expr} {p pos p1 p2 : Pos} {k : Nat} {a b : Int} (B : Bis c.G) (he : EV c σ e (.int a)) (he' : EV c σ e' (.int b)) (hk : c.kinds.lookup (PySem.Str.ofString "range") = some .globalImplicit) (hn : noStar e = true) (hn' : noStar e' = true)
    (hlo : -(2 ^ 62) ≤ a) (hhi : a < 2 ^ 62) (hlo' : -(2 ^ 62) ≤ b) (hhi' : b < 2 ^ 62) : IT c σ (.Call (.Name (PySem.Str.ofString "range") p) [e, e', .UnaryOp .USub (.Constant (.int 1) k p1) p2] [] pos) (rngD a b) := IT.rangeDown ⟨hk, by decide, B.range⟩ he he' hn hn' hlo hhi hlo' hhi'
end

theorem cut_nat {α : Type} (a b : Nat) (xs : List α) : cut (some (a : Int)) (some (b : Int)) xs = (xs.drop a).take (b - a) := by
  unfold cut
  simp only [Option.elim, clipAt_nat]
  rcases Nat.le_total a xs.length with h | h
  · rw [Nat.min_eq_left h]
    rcases Nat.le_total b xs.length with h' | h'
    · rw [Nat.min_eq_left h']
    · rw [Nat.min_eq_right h', List.take_of_length_le (by simp), List.take_of_length_le (by simp; omega)]
  · rw [Nat.min_eq_right h, List.drop_of_length_le (Nat.le_refl _), List.drop_of_length_le h]; simp
theorem cut_upto {α : Type} (b : Nat) (xs : List α) : cut none (some (b : Int)) xs = xs.take b := by
  unfold cut
  simp only [Option.elim, clipAt_nat, List.drop_zero, Nat.sub_zero]
  rcases Nat.le_total b xs.length with h | h
  · rw [Nat.min_eq_left h]
  · rw [Nat.min_eq_right h, List.take_of_length_le (Nat.le_refl _), List.take_of_length_le h]
theorem cut_from {α : Type} (a : Nat) (xs : List α) : cut (some (a : Int)) none xs = xs.drop a := by
  unfold cut
  simp only [Option.elim, clipAt_nat]
  rcases Nat.le_total a xs.length with h | h
  · rw [Nat.min_eq_left h, List.take_of_length_le (by simp)]
  · rw [Nat.min_eq_right h, List.drop_of_length_le (Nat.le_refl _), List.drop_of_length_le h]; simp
theorem cut_all {α : Type} (xs : List α) : cut none none xs = xs := by simp [cut]

theorem rng_length (a b : Int) : (rng a b).length = (b - a).toNat := by simp [rng]
theorem rng_get {a b : Int} {j : Nat} {d : D} (h : (rng a b)[j]? = some d) : d = .int (a + j) ∧ (j : Int) < b - a := by
  refine ⟨range_get h, ?_⟩
  have := (List.getElem?_eq_some_iff.mp h).1
  rw [rng_length] at this; omega
theorem rngD_length (a b : Int) : (rngD a b).length = (a - b).toNat := by simp [rngD]
theorem rngD_get {a b : Int} {j : Nat} {d : D} (h : (rngD a b)[j]? = some d) : d = .int (a - j) ∧ (j : Int) < a - b := by
  refine ⟨range_get h, ?_⟩
  have := (List.getElem?_eq_some_iff.mp h).1
  rw [rngD_length] at this; omega
end Mine
end
section
namespace Mine
open PySem PySem.Calls

/-- a def of the text -/
structure Def (G : GX) (p : Program) (k : Nat) (x : Str) (f : Addr) (params : List Str) : Prop where
  glob : G.mg x = some (.ref f)
  fd : ∃ fd, FnIs G f fd ∧ fd.body = .stmts (bodyAt p k) ∧ fd.scope.names = kindsAt p k ∧ ∀ us : List Value, us.length = params.length → bindArgs fd ⟨us, []⟩ = pure (params.zip us)
theorem Def.isFn {G : GX} {p : Program} {k : Nat} {x : Str} {f : Addr} {params : List Str} (d : Def G p k x f params) : IsFn G x f := by
  obtain ⟨fd, h, _⟩ := d.fd
  obtain ⟨o, ho, hd⟩ := h.get
  exact ⟨d.glob, o, fd, ho, hd⟩
theorem Def.spec {G : GX} {p : Program} {k : Nat} {x : Str} {f : Addr} {params more : List Str} {args : List D} {P : D → Prop} {n : Nat} (d : Def G p k x f params) (hG : G.Ok) (hlen : args.length = params.length)
    (h : ∀ (A : Around) (env : Env) (h0 : Heap), WP ⟨G, A, env, h0, params ++ more, kindsAt p k, n⟩ (args.map Slot.val ++ more.map fun _ => .un) (bodyAt p k) (fun o => ∃ d, o = .ret d ∧ P d))
    (hnd : (params ++ more).Nodup := by decide) (hkind : (params ++ more).all (fun x => (kindsAt p k).lookup x == some .local || (kindsAt p k).lookup x == some .cell) = true := by rfl) : FnSpec G f args P (n + 1) := by
  obtain ⟨fd, h1, h2, h3, h4⟩ := d.fd
  exact FnSpec.intro hG h1 h2 h3 h4 hnd hkind hlen h

open PySem.W in
theorem Def.of_K {K : Frag} {G : GX} {p : Program} {k : Nat} {x : Str} {f : Addr} {ps : List Str} {name qual : Str} {params : Arguments} {body : List Stmt} {scope : Scope} {dV kV doc pm cdv ct oc : Value} {an od : Option Addr} {osl : Array (Option Value)}
    (X : K.In G.hb) (hg : G.mg x = some (.ref f)) (ho : K.lookup f = some ⟨oc, od, .func (fnX name qual params body scope [] dV kV doc pm an cdv ct), osl⟩) (hcd : codeIn K cdv qual = true)
    (hb : body = bodyAt p k) (hs : scope.names = kindsAt p k) (hbind : ∀ us : List Value, us.length = ps.length → bindArgs (fnX name qual params body scope [] dV kV doc pm an cdv ct) ⟨us, []⟩ = pure (ps.zip us))
    (hco : scope.isCoroutine = false) (hgen : scope.isGenerator = false) (hk : scope.kind = .function) : Def G p k x f ps :=
  ⟨hg, _, ⟨⟨_, X _ _ ho, rfl⟩, codeRec_of X hcd, rfl, rfl, rfl, hco, hgen, hk⟩, by rw [← hb], hs, hbind⟩

theorem reads_ints {h : Heap} : ∀ {vs : List Value} {ns : List Int}, PyProof.Rows.IntsAre vs ns → ReadsAll h vs (ns.map PyData.int) []
  | _, _, .nil => .nil
  | _, _, .cons _ _ q => .cons (.int _ _) (reads_ints q)
open PySem.W in
theorem tup_of_K {K : Frag} {G : GX} {x : Str} {a : Addr} {od : Option Addr} {items : Array Value} {m : Nat} {sl : Array (Option Value)} {ns : List Int} (X : K.In G.hb) (hg : G.mg x = some (.ref a)) (ho : K.lookup a = some ⟨.type "tuple", od, .seq items m, sl⟩)
    (hi : PyProof.Rows.IntsAre items.toList ns) : ∃ v, G.mg x = some v ∧ ∀ h, Keep G.hb h → Reads h v (TI ns) [] :=
  ⟨_, hg, fun _ k => .tuple (k _ _ (X _ _ ho)) rfl rfl (reads_ints hi)⟩
theorem len1 {us : List Value} {α : Type} {a : α} (h : us.length = [a].length) : ∃ u, us = [u] := by
  match us, h with
  | [u], _ => exact ⟨u, rfl⟩
theorem len2 {us : List Value} {α : Type} {a b : α} (h : us.length = [a, b].length) : ∃ u v, us = [u, v] := by
  match us, h with
  | [u, v], _ => exact ⟨u, v, rfl⟩
theorem len3 {us : List Value} {α : Type} {a b c : α} (h : us.length = [a, b, c].length) : ∃ u v w, us = [u, v, w] := by
  match us, h with
  | [u, v, w], _ => exact ⟨u, v, w, rfl⟩
theorem len4 {us : List Value} {α : Type} {a b c d : α} (h : us.length = [a, b, c, d].length) : ∃ u v w x, us = [u, v, w, x] := by
  match us, h with
  | [u, v, w, x], _ => exact ⟨u, v, w, x, rfl⟩

open PySem.W in
theorem wellAll_ints {P : Params} {h : Heap} {Y : AS} : ∀ {vs : List Value} {ns : List Int} {xs : List WData}, xs = ns.map WData.int → WellAll P h vs xs → RepAll h Y vs (ns.map PyData.int)
  | _, [], _, e, w => by subst e; cases w; exact RepAll.nil
  | _, n :: ns, _, e, w => by
    subst e
    cases w with
    | cons w1 w2 =>
      cases w1
      exact RepAll.cons Rep.int (wellAll_ints rfl w2)
open PySem.W in
theorem well_ints {P : Params} {h : Heap} {Y : AS} {a : Addr} {ns : List Int} (hY : ¬ Y a) (w : Well P h (.ref a) (ofPy (.list (ns.map PyData.int)))) : Rep h Y (.ref a) (LI ns) := by
  have e : ofPy (.list (ns.map PyData.int)) = .list (ns.map WData.int) := by
    simp only [ofPy, ofPys_eq, List.map_map]
    congr 1
  rw [e] at w
  cases w with
  | list h1 h2 => exact Rep.list ⟨0, h1⟩ hY (wellAll_ints rfl h2)
open PySem.W in
/-- the claim's end -/
theorem claim_end {l : OpenLaw} {w : World} {P : Params} {s₀ s₁ : Shared} {mg mb : Str → Option Value} {f a : Addr} {ns : List Int} {args : List WData} (hg : s₁.gens = #[])
    (hw : Well P s₁.heap (.ref a) (ofPy (.list (ns.map PyData.int)))) (h : FnSpec ⟨l.row.prog, w, s₁.heap, mg, mb⟩ f [LI ns] (· = .bool true) 20) :
    wpAny (model l.row.prog w) callerA ((fun f vs => call f vs) (Value.ref f) [Value.ref a])
      (fun v s' => GoodWG l.row.claim (classAt s₀.heap) (ExcName.means s₀.heap) args s₁ (Except.ok (Flow.ret v)) s')
      (fun e s' => GoodWG l.row.claim (classAt s₀.heap) (ExcName.means s₀.heap) args s₁ (Except.error e) s') s₁ := by
  refine h callerA s₁ (fun _ => False) _ _ _ (Keep.refl _) rfl ?_ ?_ (fun _ x => x.elim) (fun _ x => x.elim) (RepAll.cons (well_ints (fun x => x) hw) RepAll.nil) fun v r' h' tk' e k r => ?_
  · decide
  · decide
  · subst e
    cases r.bool_inv
    refine GoodW.toG ⟨.inl ⟨_, .bool true, [], rfl, fun _ => rfl, .bool true, ?_, fun _ => ⟨.nil, fun _ m => nomatch m⟩⟩, k, rfl, hg⟩
    refine postW_of (r := l.row.toRowW) (X := (true == true)) (by simp [OpenLaw.row, WShape.has, WShape.arms]) ?_ rfl
    exact w_eq_bool (a := .res) (b := .lit (.bool true)) (w_res rfl) w_lit
end Mine
end
section
namespace Mine
open PySem PySem.Calls

/-- the longest run alike at i and j, at most t -/
def run (ns : List Int) (i j : Nat) : Nat → Nat
  | 0 => 0
  | t + 1 => if ns[i]? = ns[j]? then run ns (i + 1) (j + 1) t + 1 else 0
theorem run_split (ns : List Int) : ∀ (k t i j : Nat), k ≤ t → (∀ n, n < k → ns[i + n]? = ns[j + n]?) → run ns i j t = k + run ns (i + k) (j + k) (t - k)
  | 0, t, i, j, _, _ => by simp
  | k + 1, 0, i, j, h, _ => by omega
  | k + 1, t + 1, i, j, h, e => by
    have h0 := e 0 (by omega)
    rw [run, if_pos (by simpa using h0), run_split ns k t (i + 1) (j + 1) (by omega) fun n hn => by
      have := e (n + 1) (by omega)
      rw [show i + 1 + n = i + (n + 1) by omega, show j + 1 + n = j + (n + 1) by omega]; exact this]
    rw [show i + 1 + k = i + (k + 1) by omega, show j + 1 + k = j + (k + 1) by omega, show t + 1 - (k + 1) = t - k by omega]
    omega
theorem run_stop {ns : List Int} {k t i j : Nat} (hk : k < t) (e : ∀ n, n < k → ns[i + n]? = ns[j + n]?) (hne : ns[i + k]? ≠ ns[j + k]?) : run ns i j t = k := by
  rw [run_split ns k t i j (by omega) e]
  obtain ⟨u, hu⟩ : ∃ u, t - k = u + 1 := ⟨t - k - 1, by omega⟩
  rw [hu, run, if_neg hne]; rfl
theorem run_full {ns : List Int} {t i j : Nat} (e : ∀ n, n < t → ns[i + n]? = ns[j + n]?) : run ns i j t = t := by
  rw [run_split ns t t i j (by omega) e]; simp [run]
theorem run_le (ns : List Int) : ∀ (t i j : Nat), run ns i j t ≤ t
  | 0, _, _ => by simp [run]
  | t + 1, i, j => by
    rw [run]; split
    · have := run_le ns t (i + 1) (j + 1); omega
    · omega
theorem run_alike (ns : List Int) : ∀ (t i j n : Nat), n < run ns i j t → ns[i + n]? = ns[j + n]?
  | 0, _, _, n, h => by simp [run] at h
  | t + 1, i, j, n, h => by
    rw [run] at h
    split at h
    · rename_i e
      cases n with
      | zero => simpa using e
      | succ n =>
        have := run_alike ns t (i + 1) (j + 1) n (by omega)
        rw [show i + (n + 1) = i + 1 + n by omega, show j + (n + 1) = j + 1 + n by omega]; exact this
    · omega
/-- n alike ⟺ the run reaches n -/
theorem run_ge {ns : List Int} {t i j n : Nat} (hn : n ≤ t) : n ≤ run ns i j t ↔ ∀ m, m < n → ns[i + m]? = ns[j + m]? := by
  constructor
  · intro h m hm; exact run_alike ns t i j m (by omega)
  · intro h; rw [run_split ns n t i j hn h]; omega

/-- the nearest of the longest, distances 1 .. w -/
def best (ns : List Int) (j t : Nat) : Nat → Nat × Nat
  | 0 => (0, 0)
  | w + 1 => if max 3 (best ns j t w).2 < run ns (j - (w + 1)) j t then (w + 1, run ns (j - (w + 1)) j t) else best ns j t w
abbrev pair (p : Nat × Nat) : D := .tuple [.int p.1, .int p.2]

theorem eqv_li (a b : List Int) : PyData.eqv (LI a) (LI b) = decide (a = b) := by
  simp only [PyData.eqv]; exact PySem.W.ked_eqvAll a b
theorem shaped_li (a : List Int) : SeqAt.shaped (LI a) = true := PySem.W.shaped_ints a
theorem eqv_pair (p q : Nat × Nat) : PyData.eqv (pair p) (pair q) = decide (p = q) := by
  obtain ⟨a, b⟩ := p; obtain ⟨c, d⟩ := q
  have : (((a : Int) == (c : Int)) && ((b : Int) == (d : Int))) = decide ((a, b) = (c, d)) := by
    rw [Bool.eq_iff_iff]; simp; omega
  simpa [PyData.eqv, PyData.eqvAll] using this
theorem shaped_pair (p : Nat × Nat) : SeqAt.shaped (pair p) = true := by
  simp [SeqAt.shaped, PyData.canLay0, PyData.canLayAll0, PyData.depth, PyData.depthAll]

theorem slices_alike {ns : List Int} {i j n : Nat} : (ns.drop i).take n = (ns.drop j).take n ↔ ∀ m, m < n → ns[i + m]? = ns[j + m]? := by
  constructor
  · intro h m hm
    have := congrArg (fun l : List Int => l[m]?) h
    simpa [List.getElem?_take, hm, List.getElem?_drop] using this
  · intro h
    apply List.ext_getElem?
    intro m
    simp only [List.getElem?_take, List.getElem?_drop]
    split
    · rename_i hm; exact h m hm
    · rfl

theorem shaped_t2 (a b : Int) : SeqAt.shaped (.tuple [.int a, .int b]) = true := by
  simp [SeqAt.shaped, PyData.canLay0, PyData.canLayAll0, PyData.depth, PyData.depthAll]
theorem getD_all {P : Int → Prop} : ∀ (ns : List Int) (i : Nat), (∀ x ∈ ns, P x) → P 0 → P (ns.getD i 0)
  | [], i, _, h0 => by simpa using h0
  | n :: ns, 0, h, _ => by simpa using h n (.head _)
  | n :: ns, i + 1, h, h0 => by
    have := getD_all ns i (fun x hx => h x (.tail _ hx)) h0
    simpa using this

theorem getD_mem {ns : List Int} {i : Nat} (h : i < ns.length) : ns.getD i 0 ∈ ns := by
  rw [List.getD_eq_getElem?_getD, List.getElem?_eq_getElem h]
  exact List.getElem_mem h

/-- what the nearest of the longest is -/
theorem best_lt {ns : List Int} {j t n : Nat} (h3 : 3 < n) : ∀ {w : Nat}, (∀ d, 1 ≤ d → d ≤ w → run ns (j - d) j t < n) → (best ns j t w).2 < n
  | 0, _ => by simp [best]; omega
  | w + 1, h => by
    rw [best]
    split
    · exact h (w + 1) (by omega) (by omega)
    · exact best_lt h3 fun d h1 h2 => h d h1 (by omega)
theorem best_none {ns : List Int} {j t : Nat} : ∀ {w : Nat}, (∀ d, 1 ≤ d → d ≤ w → run ns (j - d) j t ≤ 3) → best ns j t w = (0, 0)
  | 0, _ => rfl
  | w + 1, h => by
    rw [best, if_neg, best_none fun d h1 h2 => h d h1 (by omega)]
    have := h (w + 1) (by omega) (by omega)
    omega
theorem best_eq {ns : List Int} {j t d n : Nat} (h3 : 3 < n) (hd : 1 ≤ d) (hn : run ns (j - d) j t = n) (hb : ∀ e, 1 ≤ e → e < d → run ns (j - e) j t < n) : ∀ {w : Nat}, d ≤ w → (∀ e, 1 ≤ e → e ≤ w → run ns (j - e) j t ≤ n) → best ns j t w = (d, n)
  | 0, h, _ => by omega
  | w + 1, h, ha => by
    by_cases q : d = w + 1
    · subst q
      have := best_lt (ns := ns) (j := j) (t := t) (w := w) h3 fun e h1 h2 => hb e h1 (by omega)
      rw [best, if_pos (by omega), hn]
    · have := best_eq h3 hd hn hb (w := w) (by omega) fun e h1 h2 => ha e h1 (by omega)
      rw [best, this, if_neg]
      have := ha (w + 1) (by omega) (by omega)
      simp only; omega
theorem best_le (ns : List Int) (j t : Nat) : ∀ w, (best ns j t w).2 ≤ t ∧ (best ns j t w).1 ≤ w
  | 0 => by simp [best]
  | w + 1 => by
    rw [best]
    have h1 := run_le ns t (j - (w + 1)) j
    have h2 := best_le ns j t w
    split
    · exact ⟨h1, Nat.le_refl _⟩
    · exact ⟨h2.1, by omega⟩
theorem best_nil (ns : List Int) (j t : Nat) : ∀ w, (best ns j t w).2 = 0 ∨ (3 < (best ns j t w).2 ∧ 1 ≤ (best ns j t w).1)
  | 0 => by simp [best]
  | w + 1 => by
    rw [best]
    split
    · right; simp only; omega
    · exact best_nil ns j t w


/-- one token of the greedy parse, and the place behind it -/
def tok (ns : List Int) (w l : Int) (j : Nat) : (Int × Int × Int) × Nat :=
  if 0 < (best ns j (min l (ns.length - j)).toNat (min w j).toNat).2 then ((1, (best ns j (min l (ns.length - j)).toNat (min w j).toNat).1, (best ns j (min l (ns.length - j)).toNat (min w j).toNat).2), j + (best ns j (min l (ns.length - j)).toNat (min w j).toNat).2)
  else ((0, ns.getD j 0, 0), j + 1)
def parse (ns : List Int) (w l : Int) : Nat → Nat → List (Int × Int × Int)
  | 0, _ => []
  | f + 1, j => if j < ns.length then (tok ns w l j).1 :: parse ns w l f (tok ns w l j).2 else []
def toks (ns : List Int) (w l : Int) : List (Int × Int × Int) := parse ns w l ns.length 0
theorem tok_next (ns : List Int) (w l : Int) (j : Nat) (h : j < ns.length) : j < (tok ns w l j).2 ∧ (tok ns w l j).2 ≤ ns.length := by
  have := (best_le ns j (min l (ns.length - j)).toNat (min w j).toNat).1
  unfold tok
  split <;> simp only <;> omega
theorem parse_fuel (ns : List Int) (w l : Int) : ∀ (f g j : Nat), ns.length - j ≤ f → ns.length - j ≤ g → parse ns w l f j = parse ns w l g j
  | 0, 0, _, _, _ => rfl
  | 0, g + 1, j, h, _ => by simp only [parse]; rw [if_neg (by omega)]
  | f + 1, 0, j, _, h => by simp only [parse]; rw [if_neg (by omega)]
  | f + 1, g + 1, j, h1, h2 => by
    simp only [parse]
    split
    · rename_i h
      have := tok_next ns w l j h
      rw [parse_fuel ns w l f g _ (by omega) (by omega)]
    · rfl
theorem parse_at {ns : List Int} {w l : Int} {j : Nat} (h : j < ns.length) : parse ns w l (ns.length - j) j = (tok ns w l j).1 :: parse ns w l (ns.length - (tok ns w l j).2) (tok ns w l j).2 := by
  have hn := tok_next ns w l j h
  obtain ⟨m, hm⟩ : ∃ m, ns.length - j = m + 1 := ⟨ns.length - j - 1, by omega⟩
  rw [hm]; simp only [parse]; rw [if_pos h, parse_fuel ns w l m _ _ (by omega) (Nat.le_refl _)]
theorem parse_done {ns : List Int} {w l : Int} {j : Nat} (h : ns.length ≤ j) : parse ns w l (ns.length - j) j = [] := by
  rw [show ns.length - j = 0 by omega]; rfl
theorem depthAll_le {m : Nat} : ∀ {ds : List D}, (∀ d ∈ ds, d.depth ≤ m) → PyData.depthAll ds ≤ m
  | [], _ => by simp [PyData.depthAll]
  | d :: ds, h => by
    have h1 := h d (.head _)
    have h2 := depthAll_le (ds := ds) fun e he => h e (.tail _ he)
    simp only [PyData.depthAll]; omega
theorem canLayAll_of : ∀ {ds : List D}, (∀ d ∈ ds, d.canLay0 = true) → PyData.canLayAll0 ds = true
  | [], _ => by simp [PyData.canLayAll0]
  | d :: ds, h => by simp [PyData.canLayAll0, h d (.head _), canLayAll_of fun e he => h e (.tail _ he)]
theorem shaped_lt (ts : List (Int × Int × Int)) : SeqAt.shaped (LT ts) = true := by
  have h1 : PyData.canLayAll0 (ts.map T3) = true := canLayAll_of fun d hd => by
    obtain ⟨t, _, rfl⟩ := List.mem_map.mp hd
    simp [PyData.canLay0, PyData.canLayAll0]
  have h2 : PyData.depthAll (ts.map T3) ≤ 1 := depthAll_le fun d hd => by
    obtain ⟨t, _, rfl⟩ := List.mem_map.mp hd
    simp [PyData.depth, PyData.depthAll]
  have h3 : (LT ts).depth ≤ 64 := by simp only [PyData.depth]; omega
  simp only [SeqAt.shaped, PyData.canLay0, h1, Bool.true_and, decide_eq_true_eq]
  exact h3
theorem eqv_self {d : D} (h : SeqAt.shaped d = true) : PyData.eqv d d = true := PySem.SeqAt.eqv_refl d (SeqAt.canLay_of_shaped h)
end Mine
end
section
namespace Mine
open PySem PySem.Calls

/-- names that a comprehension takes from its frame -/
def frees (names : List (Str × NameKind)) : List Str := names.filterMap fun x => if x.2 == .free then some x.1 else none
def relK (names kinds : List (Str × NameKind)) : List (Str × NameKind) := names.map fun (n, k) => if (k == .free && kinds.lookup n == some .cell) then (n, .cell) else (n, k)
def closOf (cells : List (Str × Addr)) (names : List (Str × NameKind)) : List (Str × Addr) := ((frees names).map fun n => (n, (cells.lookup n).getD 0)).reverse

theorem closure_go {env : Env} {g : Str × NameKind → List (Str × Addr) → Sem (ForInStep (List (Str × Addr)))} (h1 : ∀ n k r, (k == NameKind.free) = false → g (n, k) r = pure (ForInStep.yield r))
    (h2 : ∀ n k r a, (k == NameKind.free) = true → env.cells.lookup n = some a → g (n, k) r = pure (ForInStep.yield ((n, a) :: r))) : ∀ (names : List (Str × NameKind)) (acc : List (Str × Addr)), (∀ n ∈ frees names, ∃ a, env.cells.lookup n = some a) →
    (forIn names acc g : Sem (List (Str × Addr))) = pure (closOf env.cells names ++ acc)
  | [], acc, _ => rfl
  | (n, k) :: r, acc, h => by
    rw [List.forIn_cons]
    cases hk : k == NameKind.free with
    | false =>
      have e : frees ((n, k) :: r) = frees r := by unfold frees; rw [List.filterMap_cons, hk]; rfl
      rw [h1 n k acc hk]
      have e2 : closOf env.cells ((n, k) :: r) = closOf env.cells r := by unfold closOf; rw [e]
      rw [e2, ← closure_go h1 h2 r acc (fun m hm => h m (by rw [e]; exact hm))]
      rfl
    | true =>
      have e : frees ((n, k) :: r) = n :: frees r := by unfold frees; rw [List.filterMap_cons, hk]; rfl
      obtain ⟨a, ha⟩ := h n (by rw [e]; exact .head _)
      rw [h2 n k acc a hk ha]
      have e2 : closOf env.cells ((n, k) :: r) ++ acc = closOf env.cells r ++ ((n, a) :: acc) := by
        unfold closOf; rw [e]; simp [ha]
      rw [e2, ← closure_go h1 h2 r ((n, a) :: acc) (fun m hm => h m (by rw [e]; exact .tail _ hm))]
      rfl
theorem closure_is {scope : Scope} {env : Env} (h : ∀ n ∈ frees scope.names, ∃ a, env.cells.lookup n = some a) : closureFor scope env = pure (closOf env.cells scope.names) := by
  simp only [closureFor]
  rw [closure_go (env := env) ?_ ?_ scope.names [] h, List.append_nil]
  · rfl
  · intro n k r hk
    simp only [hk, Bool.false_eq_true, if_false]
  · intro n k r a hk ha
    have e3 : cellOf env n = pure a := by unfold cellOf; rw [ha]
    simp only [hk, if_true, e3]
    rfl

theorem mem_frees {names : List (Str × NameKind)} {n : Str} (h : n ∈ frees names) : (n, NameKind.free) ∈ names := by
  unfold frees at h
  obtain ⟨⟨m, k⟩, h1, h2⟩ := List.mem_filterMap.mp h
  cases k <;> simp at h2
  subst h2; exact h1
theorem frees_sub {names : List (Str × NameKind)} : (frees names).Sublist (names.map (·.1)) := by
  induction names with
  | nil => exact .slnil
  | cons x r ih =>
    obtain ⟨n, k⟩ := x
    unfold frees at ih ⊢
    rw [List.filterMap_cons]
    cases k <;> first | exact ih.cons _ | exact ih.cons_cons _
theorem lookup_of_mem {β : Type} : ∀ {l : List (Str × β)} {n : Str} {k : β}, (l.map (·.1)).Nodup → (n, k) ∈ l → l.lookup n = some k
  | (m, j) :: r, n, k, nd, h => by
    rw [List.map_cons, List.nodup_cons] at nd
    rcases List.mem_cons.mp h with e | h
    · cases e; simp
    · have : n ≠ m := fun e => nd.1 (e ▸ List.mem_map.mpr ⟨_, h, rfl⟩)
      rw [List.lookup_cons]
      have : (n == m) = false := by simpa using this
      rw [this]
      exact lookup_of_mem nd.2 h
theorem lookup_relK {names kinds : List (Str × NameKind)} {n : Str} : (relK names kinds).lookup n = (names.lookup n).map fun k => if (k == .free && kinds.lookup n == some .cell) then .cell else k := by
  unfold relK
  induction names with
  | nil => rfl
  | cons x r ih =>
    obtain ⟨m, k⟩ := x
    rw [List.map_cons]
    by_cases e : n = m
    · subst e
      dsimp only
      split <;> simp [List.lookup_cons] <;> simp_all
    · have e' : (n == m) = false := by simpa using e
      dsimp only
      split <;> rw [List.lookup_cons, e', List.lookup_cons, e'] <;> exact ih
theorem clos_lookup {cells : List (Str × Addr)} {names : List (Str × NameKind)} {n : Str} {a : Addr} (nd : (names.map (·.1)).Nodup) (hn : names.lookup n = some .free) (ha : cells.lookup n = some a) : (closOf cells names).lookup n = some a := by
  have hmem : n ∈ frees names := List.mem_filterMap.mpr ⟨(n, .free), mem_of_lookup hn, rfl⟩
  refine lookup_of_mem ?_ ?_
  · unfold closOf
    rw [List.map_reverse, List.map_map]
    rw [show ((fun x : Str × Addr => x.1) ∘ fun n => (n, (cells.lookup n).getD 0)) = id from rfl, List.map_id]
    have := frees_sub.nodup nd
    exact List.pairwise_reverse.mpr (this.imp fun h => Ne.symm h)
  · unfold closOf
    rw [List.mem_reverse]
    exact List.mem_map.mpr ⟨n, hmem, by rw [ha]; rfl⟩
theorem clos_mem {cells : List (Str × Addr)} {names : List (Str × NameKind)} {n : Str} {a : Addr} (h : (n, a) ∈ closOf cells names) (hf : ∀ n ∈ frees names, ∃ a, cells.lookup n = some a) : n ∈ frees names ∧ cells.lookup n = some a := by
  unfold closOf at h
  rw [List.mem_reverse] at h
  obtain ⟨m, h1, h2⟩ := List.mem_map.mp h
  cases h2
  obtain ⟨a, ha⟩ := hf _ h1
  rw [ha]; exact ⟨h1, rfl⟩
theorem clos_apart {c : Cx} (ok : c.Ok) {names : List (Str × NameKind)} (nd : (names.map (·.1)).Nodup) (hf : ∀ n ∈ frees names, ∃ a, c.env.cells.lookup n = some a) : (closOf c.env.cells names).Pairwise fun x y => x.2 ≠ y.2 := by
  have h1 : (closOf c.env.cells names).Pairwise fun x y => x.1 ≠ y.1 := by
    unfold closOf
    rw [List.pairwise_reverse, List.pairwise_map]
    exact (frees_sub.nodup nd).imp fun h => Ne.symm h
  refine h1.imp_of_mem fun {x y} hx hy hne e => hne ?_
  have hx' := (clos_mem (n := x.1) (a := x.2) hx hf).2
  have hy' := (clos_mem (n := y.1) (a := y.2) hy hf).2
  exact lookup_inj ok hx' (e ▸ hy')
end Mine
end
section
namespace Mine
open PySem PySem.Calls

section
variable {c : Cx} {σ : List Slot}

/-- targets that are locals alone -/
structure TGL (c : Cx) (t : Expr) (d : D) (σ σ' : List Slot) : Prop where
  run : ∀ (s : Shared) (X : AS) (vs : Nat → Option Value) (v : Value) (R : Unit → Shared → Prop) (E : Value → Shared → Prop), Inv c X s.heap vs σ → Rep s.heap (Off c X vs σ) v d →
    (∀ h' tk' vs', (∀ b o, b ≠ c.env.locals → s.heap.get? b = some o → h'.get? b = some o) → Inv c X h' vs' σ' → (∀ a, Mut c vs' σ' a → Mut c vs σ a) → R () { s with heap := h', toks := tk' }) →
      wpAny (model c.G.prog c.G.w) c.A (assign t c.env v) R E s
theorem TGL.name {x : Str} {p : Pos} {i : Nat} {d : D} (hi : slotOf c.names x = some i) (hk : isVar c x = true) (hl : c.kinds.lookup x = some .local) : TGL c (.Name x p) d σ (σ.set i (.val d)) := by
  constructor; intro s X vs v R E I r k
  refine wpAny_assign_Name (wp_store I (slotOf_get hi) (isVar.kind I.ok hk).1 fun h2 t2 S => ?_)
  refine k h2 t2 (upd vs i v) (fun b o n q => ?_) (I.put S (slotOf_get hi) (fun _ x => x) (fun e => by exact False.elim e) fun _ => ⟨v, rfl, r⟩) fun a m => ?_
  · cases S with
    | loc _ s _ => exact (s.2 b n).trans q
    | cel a k _ _ _ => rw [I.ok.kinds, hl] at k; cases k
  · rcases m with m | m | ⟨j, m⟩
    · exact .inl m
    · exact .inr (.inl m)
    · rcases own_upd m with ⟨_, m⟩ | ⟨_, e, _⟩
      · exact .inr (.inr ⟨j, m⟩)
      · exact False.elim e
structure TGLs (c : Cx) (ts : List Expr) (ds : List D) (σ σ' : List Slot) : Prop where
  run : ∀ (s : Shared) (X : AS) (vs : Nat → Option Value) (us : List Value) (R : Unit → Shared → Prop) (E : Value → Shared → Prop), Inv c X s.heap vs σ → RepAll s.heap (Off c X vs σ) us ds →
    (∀ h' tk' vs', (∀ b o, b ≠ c.env.locals → s.heap.get? b = some o → h'.get? b = some o) → Inv c X h' vs' σ' → (∀ a, Mut c vs' σ' a → Mut c vs σ a) → R () { s with heap := h', toks := tk' }) →
      wpAny (model c.G.prog c.G.w) c.A (assignInOrder ((assignEach ts c.env).map (·.2)) us) R E s
theorem TGLs.nil : TGLs c [] [] σ σ := ⟨fun s _ vs _ _ _ I _ k => wpAny_pure (k s.heap s.toks vs (fun _ _ _ e => e) I fun _ m => m)⟩
theorem TGLs.cons {t : Expr} {ts : List Expr} {d : D} {ds : List D} {σ1 σ' : List Slot} (h : TGL c t d σ σ1) (hs : TGLs c ts ds σ1 σ') (hn : noStar t = true) : TGLs c (t :: ts) (d :: ds) σ σ' := by
  constructor; intro s X vs us R E I ru k
  obtain ⟨u, us, rfl, r, ru'⟩ := ru.cons_inv
  rw [assignEach_of hn]
  refine PyProof.Rows.assignInOrder_cons (h.run s X vs u _ _ I r fun h1 t1 vs1 k1 I1 m1 => ?_)
  refine hs.run _ X vs1 us _ _ I1 (ru'.move (fun b o e q => k1 b o (fun m => ?_) e) fun a y => .inl (y.imp id (m1 a))) fun h2 t2 vs2 k2 I2 m2 => k h2 t2 vs2 (fun b o n e => k2 b o n (k1 b o n e)) I2 fun a m => m1 a (m2 a m)
  have m' : Mut c vs σ b := .inl m
  rcases q with q | q
  · exact q (.inr m')
  · obtain ⟨o', e', nt⟩ := I.alive b (.inr m')
    rw [e] at e'; cases e'; exact q nt
theorem TGL.tuple {ts : List Expr} {k : Nat} {p : Pos} {ds : List D} {σ' : List Slot} (hs : TGLs c ts ds σ σ') (hn : ts.all noStar = true) (hl : ts.length = ds.length) : TGL c (.Tuple ts k p) (.tuple ds) σ σ' := by
  constructor; intro s X vs v R E I r q
  obtain ⟨a, items, rfl, ⟨o, n, ho, hc, hd⟩, ri⟩ := r.tuple_inv
  have ht : s.heap.IsTuple a items := ⟨o, ho, hc, n, hd⟩
  have hlen : items.size = ds.length := by rw [← ri.length]; simp
  obtain ⟨e1, e2⟩ := assignEach_length (env := c.env) hn
  refine wpAny_assign_Tuple I.ok.hh ht (by rw [e1, hl, hlen]) e2 fun h' hx => ?_
  have kk : Keep s.heap h' := fun b o e => hx b o (fun w => by rw [w, size_none] at e; cases e) e
  exact hs.run _ X vs _ _ _ (I.grow kk) (ri.keep kk) fun h2 t2 vs2 k2 I2 m2 => q h2 t2 vs2 (fun b o n e => k2 b o n (kk b o e)) I2 m2

/-- a comprehension's tests -/
structure TSI (c : Cx) (σ : List Slot) (ifs : List Expr) (b : Bool) : Prop where
  run : ∀ (s : Shared) (X : AS) (vs : Nat → Option Value) (R : Bool → Shared → Prop) (E : Value → Shared → Prop), Inv c X s.heap vs σ →
    (∀ h' tk', Keep s.heap h' → R b { s with heap := h', toks := tk' }) →
      wpAny (model c.G.prog c.G.w) c.A (forIn ifs true fun t r => if r = true then do let ok ← isTrue t c.env (eval t c.env); pure (ForInStep.yield ok) else pure (ForInStep.yield r)) R E s
theorem TSI.nil : TSI c σ [] true := ⟨fun s _ _ _ _ _ k => wpAny_tests_nil (k s.heap s.toks (Keep.refl _))⟩
theorem TSI.one {t : Expr} {b : Bool} (h : TS c σ t b) : TSI c σ [t] b := ⟨fun s X vs R E I k => wpAny_tests_one (h.run s X vs R E I k)⟩

def FrOk (c : Cx) (σ : List Slot) (scope : Scope) : List (Str × D) → Prop
  | [] => True
  | p :: r => (∃ i, slotOf c.names p.1 = some i ∧ c.kinds.lookup p.1 = some .cell ∧ σ[i]? = some (.val p.2) ∧ scope.names.lookup p.1 = some .free) ∧ FrOk c σ scope r
theorem FrOk.mem {scope : Scope} : ∀ {fr : List (Str × D)}, FrOk c σ scope fr → ∀ p ∈ fr, ∃ i, slotOf c.names p.1 = some i ∧ c.kinds.lookup p.1 = some .cell ∧ σ[i]? = some (.val p.2) ∧ scope.names.lookup p.1 = some .free
  | p :: r, ⟨h, h'⟩, q, m => by
    rcases List.mem_cons.mp m with rfl | m
    · exact h
    · exact FrOk.mem h' q m
structure CompOk (c : Cx) (σ : List Slot) (scope : Scope) (ts : List Str) (fr : List (Str × D)) : Prop where
  kind : scope.kind = .function
  cell : scope.names.all (fun x => x.2 != .cell) = true
  names : (scope.names.map (·.1)).Nodup
  hts : ts.all (fun t => scope.names.lookup t == some .local) = true
  nd : (ts ++ fr.map (·.1)).Nodup
  free : (frees scope.names).all (fun n => c.kinds.lookup n == some .cell && (slotOf c.names n).isSome) = true
  hfr : FrOk c σ scope fr
abbrev compCx (c : Cx) (scope : Scope) (ts : List Str) (fr : List (Str × D)) (env : Env) : Cx := ⟨c.G, c.A, env, c.h0, ts ++ fr.map (·.1), relK scope.names c.kinds, c.room⟩

theorem codeAny_compLoop_any {prog : Program} {w : World} {A : Around} {R : Result → Shared → Prop} {s : Shared} {elt target iter : Expr} {ifs : List Expr} {scope : Scope} {pos : Pos} {it acc : Value} {env : Env} (I : Nat → Shared → Prop)
    (turn : ∀ n s, I n s → wpAny (model prog w) A (pyNext it) (fun r s₁ => match r with
      | none => R (.ok .next) s₁
      | some v => wpAny (model prog w) A (letOwnedTupleGo target it v) (fun _ s₁ => wpAny (model prog w) A (assign target env v) (fun _ s₂ =>
          wpAny (model prog w) A (forIn ifs true fun c r => if r = true then do let ok ← isTrue c env (eval c env); pure (ForInStep.yield ok) else pure (ForInStep.yield r)) (fun ok s₃ =>
            if ok = true then wpAny (model prog w) A (eval elt env) (fun x s₄ =>
              wpAny (model prog w) A (call (.builtin "list.append") [acc, x]) (fun _ s₅ => ∃ m, m < n ∧ I m s₅) (notedBy (model prog w) A env fun e s' => R (.error e) s') s₄) (notedBy (model prog w) A env fun e s' => R (.error e) s') s₃
            else ∃ m, m < n ∧ I m s₃) (notedBy (model prog w) A env fun e s' => R (.error e) s') s₂) (notedBy (model prog w) A env fun e s' => R (.error e) s') s₁) (notedBy (model prog w) A env fun e s' => R (.error e) s') s₁) (notedBy (model prog w) A env fun e s' => R (.error e) s') s)
    (n : Nat) (h : I n s) : codeAny (model prog w) A (.compLoop (.ListComp elt [⟨target, iter, ifs, 0⟩] scope pos) 0 it acc env) R s := by
  refine codeAny_loop rfl I (fun n s hI => ?_) n h
  show wpAny _ A ((compTurn (.ListComp elt [⟨target, iter, ifs, 0⟩] scope pos) 0 it acc env).onRaise (fun x => do noteFrame x env; theTreesLotGoes x)) _ _ s
  refine wpAny_noted ?_
  rw [compTurn_list]
  refine wpAny_bind (wpAny_standAt (wpAny_bind (wpAny_mono (turn n s hI) (fun r s₁ h₁ => ?_) fun _ _ h' => h')))
  cases r with
  | none => exact wpAny_pure h₁
  | some v =>
    refine wpAny_bind (wpAny_mono h₁ (fun _ s₁' h₁ => ?_) fun _ _ h' => h')
    refine wpAny_bind (wpAny_mono h₁ (fun _ s₂ h₂ => wpAny_bind (wpAny_mono h₂ (fun ok s₃ h₃ => ?_) fun _ _ h' => h')) fun _ _ h' => h')
    cases ok with
    | false => exact wpAny_pure ⟨rfl, h₃⟩
    | true =>
      exact wpAny_bind (wpAny_bind (wpAny_mono h₃ (fun x s₄ h₄ => wpAny_bind (wpAny_mono h₄ (fun _ s₅ h₅ => wpAny_pure (wpAny_pure ⟨rfl, h₅⟩)) fun _ _ h' => h')) fun _ _ h' => h'))

theorem relabel_is {scope : Scope} (ok : c.Ok) : (relabel scope c.env).names = relK scope.names c.kinds := by
  show scope.names.map _ = scope.names.map _
  apply List.map_congr_left
  rintro ⟨n, k⟩ _
  simp only [ok.kind, ok.kinds]
  cases k <;> simp

theorem take_filter_map {α β : Type} (p : α → Bool) (f : α → β) (l : List α) (i : Nat) (x : α) (h : l[i]? = some x) : ((l.take (i + 1)).filter p).map f = ((l.take i).filter p).map f ++ (if p x then [f x] else []) := by
  rw [take_succ_filter p l i x h, List.map_append]
  cases p x <;> rfl

/-- a new address put off limits; an address off limits changes -/
theorem Inv.guardS {X N : AS} {h h' : Heap} {vs : Nat → Option Value} (I : Inv c X h vs σ) (k : Keep h h') (hn : ∀ a, N a → h.get? a = none ∧ ∃ o, h'.get? a = some o ∧ NT o) : Inv c (fun b => X b ∨ N b) h' vs σ := by
  have I' := I.grow k
  have hm : ∀ b, Mut c vs σ b → ¬ N b := fun b m q => by
    obtain ⟨o, e, _⟩ := I.alive b (.inr m); rw [(hn b q).1] at e; cases e
  refine ⟨I.ok, I'.keep, I'.loc, I'.cel, fun i sl e => ?_, I.own1, I.ownC, fun b m => ⟨fun q => q.elim (I.sep b m).1 (hm b m), (I.sep b m).2⟩, ?_, fun b q => q.elim (I.base b) fun w => none_hb I (hn b w).1⟩
  · have := I.slot i sl e
    have hY : ∀ b, Off c (fun b => X b ∨ N b) vs σ b → Off c X vs σ b ∨ h.get? b = none := by
      rintro b ((k | k) | k)
      · exact .inl (.inl k)
      · exact .inr (hn b k).1
      · exact .inl (.inr k)
    cases sl with
    | un => trivial
    | val d => obtain ⟨v, e, r⟩ := this; exact ⟨v, e, (r.weak hY).keep k⟩
    | own xs => obtain ⟨b, items, e, ⟨n, l⟩, r⟩ := this; exact ⟨b, items, e, ⟨n, k _ _ l⟩, (r.weak hY).keep k⟩
    | dic kv => obtain ⟨b, es, e, ⟨n, l⟩, r⟩ := this; exact ⟨b, es, e, ⟨n, k _ _ l⟩, r⟩
  · rintro b ((q | q) | q)
    · exact I'.alive b (.inl q)
    · exact (hn b q).2
    · exact I'.alive b (.inr q)
theorem Inv.bump {X : AS} {h h' : Heap} {vs : Nat → Option Value} {q : Addr} (I : Inv c X h vs σ) (hq : X q) (h0 : c.h0.get? q = none) (hk : ∀ b o, b ≠ q → h.get? b = some o → h'.get? b = some o) (al : ∃ o, h'.get? q = some o ∧ NT o) : Inv c X h' vs σ := by
  refine I.change (fun b o e => hk b o (fun w => by rw [w, h0] at e; cases e) (I.keep b o e)) (fun b o e q' => hk b o (fun w => ?_) e) fun b y => ?_
  · subst w
    rcases q' with q' | q' | q'
    · exact q' (.inl hq)
    · obtain ⟨o', e', nt⟩ := I.alive b (.inl hq)
      rw [e] at e'; cases e'; exact q' nt
    · exact (I.sep b q').1 hq
  · by_cases w : b = q
    · subst w; exact al
    · obtain ⟨o, e, nt⟩ := I.alive b (.inl y)
      exact ⟨o, hk b o w e, nt⟩
theorem lx_nt {h : Heap} {a : Addr} {items : Array Value} (l : IsLx h a items) : ∃ o, h.get? a = some o ∧ NT o := by
  obtain ⟨n, e⟩ := l
  exact ⟨_, e, fun q => absurd (show Value.type "list" = Value.type "tuple" from q) (by decide)⟩
theorem ns_nt {h : Heap} {a : Addr} {m : Str → Option Value} (l : h.Ns a m) : ∃ o, h.get? a = some o ∧ NT o := by
  obtain ⟨o, es, ep, e1, e2, _⟩ := l
  exact ⟨o, e1, fun _ v n q => by rw [e2] at q; cases q⟩
theorem RepAll.over {g g' : Heap} {Y : AS} {us : List Value} {ds : List D} (r : RepAll g Y us ds) (hk : ∀ b o, ¬ Y b ∨ ¬ NT o → g.get? b = some o → g'.get? b = some o) : RepAll g' Y us ds := r.kept fun b o e q => hk b o q e

theorem comp_run {α : Type} {use : Option (Value → Sem Unit)} {elt iter target : Expr} {ifs : List Expr} {scope : Scope} {pos cpos : Pos} {xs : List α} {ι : α → D} {p : α → Bool} {f : α → D} {ts : List Str} {fr : List (Str × D)} {P : List Slot → Prop}
    {s : Shared} {X : AS} {vs : Nat → Option Value} {Q : Value → Shared → Prop} {E : Value → Shared → Prop} (I : Inv c X s.heap vs σ) (hit : IT c σ iter (xs.map ι)) (hf : noFold iter = true) (hz : xs.length ≤ 2 ^ 20) (S : CompOk c σ scope ts fr)
    (hP0 : P (ts.map (fun _ => Slot.un) ++ fr.map fun q => Slot.val q.2))
    (step : ∀ env' x σ', x ∈ xs → P σ' → ∃ σ'', TGL (compCx c scope ts fr env') target (ι x) σ' σ'' ∧ P σ'' ∧ TSI (compCx c scope ts fr env') σ'' ifs (p x) ∧ (p x = true → EV (compCx c scope ts fr env') σ'' elt (f x)))
    (k : ∀ D C items h' tk', Keep s.heap h' → s.heap.get? D = none → s.heap.get? C = none → D ≠ C → IsLx h' D items → RepAll h' (fun b => Off c X vs σ b ∨ b = D ∨ b = C) items.toList ((xs.filter p).map f) → (∃ m, h'.Ns C m) →
      compPost (model c.G.prog c.G.w) c.A E use Q (.ref D) C (.ok .next) { s with heap := h', toks := tk' }) :
    wpAny (model c.G.prog c.G.w) c.A (comprehension (.ListComp elt [⟨target, iter, ifs, 0⟩] scope pos) scope c.env cpos (newList []) false (eval iter c.env) use) Q E s := by
  have ok := I.ok
  have hfree : ∀ n ∈ frees scope.names, ∃ a, c.env.cells.lookup n = some a := by
    intro n hn
    have := List.all_eq_true.mp S.free n hn
    simp only [Bool.and_eq_true, beq_iff_eq] at this
    obtain ⟨i, hi⟩ := Option.isSome_iff_exists.mp this.2
    obtain ⟨a, ha, _⟩ := I.cel i n (slotOf_get hi) ((ok.kinds n).trans this.1)
    exact ⟨a, ha⟩
  have hcell : ∀ x ∈ scope.names, x.2 ≠ .cell := fun x hx => by simpa using List.all_eq_true.mp S.cell x hx
  refine wpAny_comprehension_free (cl := closOf c.env.cells scope.names) rfl (folded_of hf) (closure_is hfree) S.kind (fun x hx hl => lookup_of_mem S.names (by rw [← hl]; exact hx)) (hit.run s X vs _ _ I fun a fp n PP St h1 t1 k1 T => ?_)
  refine wpAny_newObj_type (wpAny_newFunctionEnv hcell (by intro y hy; simp at hy) (fun h₁ hns₁ hsb₁ => ?_) S.kind)
  dsimp only at hns₁ hsb₁ ⊢
  generalize hcl : closOf c.env.cells scope.names = cl at hns₁ hsb₁ ⊢
  have clc : ∀ x b, cl.lookup x = some b → c.env.cells.lookup x = some b := fun x b e => (clos_mem (hcl ▸ mem_of_lookup e) hfree).2
  generalize hH2 : h1.push { cls := .type "list", dict := none, data := .seq ([] : List Value).toArray } = H2 at hns₁ hsb₁ ⊢
  have hC : H2.objs.size = h1.objs.size + 1 := by rw [← hH2, Heap.size_push]
  generalize hD : h1.objs.size = D at hsb₁ hC ⊢
  generalize hCC : H2.objs.size = C at hns₁ hsb₁ hC ⊢
  have hDC : D ≠ C := by omega
  have newD : h1.get? D = none := hD ▸ size_none _
  have newC : h1.get? C = none := Heap.get?_none_of_le (by omega)
  have old : Keep h1 h₁ := fun b o e => hsb₁.extBut b o (fun w => by rw [w, newC] at e; cases e) (Heap.get?_push_of_some _ (hH2 ▸ Heap.get?_push_of_some _ e))
  have e0 : H2.get? D = some { cls := .type "list", dict := none, data := .seq ([] : List Value).toArray } := by rw [← hH2, ← hD]; exact Heap.get?_push_size _ rfl
  have hacc : IsLx h₁ D #[] := ⟨_, hsb₁.extBut _ _ hDC (Heap.get?_push_of_some _ e0)⟩
  have haD : a ≠ D := fun w => by
    obtain ⟨o, _, e, _⟩ := T.it 0 h1 T.st
    rw [w, newD] at e; cases e
  have haC : a ≠ C := fun w => by
    obtain ⟨o, _, e, _⟩ := T.it 0 h1 T.st
    rw [w, newC] at e; cases e
  have hal : ∀ i g, St i g → ∃ o, g.get? a = some o ∧ NT o := fun i g st => by
    obtain ⟨o, T', e, hc, hT⟩ := T.it i g st
    exact ⟨o, e, nt_of_iter hc hT⟩
  have hst₁ : St 0 h₁ := T.W.frame _ _ _ T.st fun b _ o e => old b o e
  obtain ⟨env', hE⟩ : ∃ e, compEnvC scope cl C c.env = e := ⟨_, rfl⟩
  have eL : env'.locals = C := by rw [← hE]; rfl
  have eC : env'.cells = cl := by rw [← hE]; rfl
  have ok' : (compCx c scope ts fr env').Ok := by
    refine ⟨ok.g, ok.keepB, ?_, ?_, ?_, ok.hh, ok.depth, ok.units, S.nd, fun x => ?_, ?_, fun x b e => ?_⟩
    · rw [← hE]; exact S.kind
    · rw [← hE]; exact ok.glob
    · rw [← hE]; exact ok.bui
    · rw [← hE]
      show (relabel scope c.env).names.lookup x = _
      rw [relabel_is ok]
    · show env'.cells.Pairwise _
      rw [eC, ← hcl]; exact clos_apart ok S.names hfree
    · show b ≠ env'.locals
      rw [eL]
      have e' : env'.cells.lookup x = some b := e
      rw [eC] at e'
      obtain ⟨o, e2, _⟩ := I.alive b (.inr (.inr (.inl ⟨x, clc x b e'⟩)))
      exact fun w => by rw [w] at e2; rw [none_of_keep k1 newC] at e2; cases e2
  let Y : AS := fun b => Off c X vs σ b ∨ b = a ∨ b = D ∨ b = C
  let X' : AS := fun b => (Off c X vs σ b ∧ ¬ ∃ x, cl.lookup x = some b) ∨ b = a ∨ b = D
  let M : AS := fun b => b = C ∨ ∃ x, cl.lookup x = some b
  have MY : ∀ b, M b → Y b := by
    rintro b (w | ⟨x, w⟩)
    · exact .inr (.inr (.inr w))
    · exact .inl (.inr (.inr (.inl ⟨x, clc x b w⟩)))
  have XY : ∀ b, X' b → Y b := by
    rintro b (w | w | w)
    · exact .inl w.1
    · exact .inr (.inl w)
    · exact .inr (.inr (.inl w))
  have YOff : ∀ (vs2 : Nat → Option Value) (σ2 : List Slot) b, Y b → Off (compCx c scope ts fr env') X' vs2 σ2 b := by
    rintro vs2 σ2 b (w | w | w | w)
    · by_cases q : ∃ x, cl.lookup x = some b
      · exact .inr (.inr (.inl (by show ∃ x, env'.cells.lookup x = some b; rw [eC]; exact q)))
      · exact .inl (.inl ⟨w, q⟩)
    · exact .inl (.inr (.inl w))
    · exact .inl (.inr (.inr w))
    · exact .inr (.inl (w.trans eL.symm))
  have YS : ∀ b, Y b → Off c X vs σ b ∨ s.heap.get? b = none := by
    rintro b (w | w | w | w)
    · exact .inl w
    · rw [w]; exact .inr T.new
    · rw [w]; exact .inr (none_of_keep k1 newD)
    · rw [w]; exact .inr (none_of_keep k1 newC)
  have Y1 : ∀ b, Y b → (Off c X vs σ b ∨ b = a) ∨ h1.get? b = none := by
    rintro b (w | w | w | w)
    · exact .inl (.inl w)
    · exact .inl (.inr w)
    · rw [w]; exact .inr newD
    · rw [w]; exact .inr newC
  have nM : ∀ b, M b → ¬ X' b := by
    rintro b (w | w) (q | q | q)
    · obtain ⟨o, e, _⟩ := I.alive b q.1
      rw [w, none_of_keep k1 newC] at e; cases e
    · exact haC (q.symm.trans w)
    · exact hDC (q.symm.trans w)
    · exact q.2 w
    · obtain ⟨x, w⟩ := w
      obtain ⟨o, e, _⟩ := I.alive b (.inr (.inr (.inl ⟨x, clc x b w⟩)))
      rw [q, T.new] at e; cases e
    · obtain ⟨x, w⟩ := w
      obtain ⟨o, e, _⟩ := I.alive b (.inr (.inr (.inl ⟨x, clc x b w⟩)))
      rw [q, none_of_keep k1 newD] at e; cases e
  have M0 : ∀ b, M b → c.h0.get? b = none := by
    rintro b (w | ⟨x, w⟩)
    · rw [w]; exact none_of_keep I.keep (none_of_keep k1 newC)
    · exact (I.sep b (.inr (.inl ⟨x, clc x b w⟩))).2
  have a0 : c.h0.get? a = none := none_of_keep I.keep T.new
  have D0 : c.h0.get? D = none := none_of_keep I.keep (none_of_keep k1 newD)
  -- the frame at its start
  let vs' : Nat → Option Value := fun i => if i < ts.length then none else (fr[i - ts.length]?).elim none fun q => (slotOf c.names q.1).elim none vs
  have hown : ∀ i b, ¬ OwnAt vs' (ts.map (fun _ => Slot.un) ++ fr.map fun q => Slot.val q.2) i b := by
    rintro i b ⟨⟨ys, e, ho⟩, _⟩
    rw [List.getElem?_append] at e
    split at e
    · rw [List.getElem?_map] at e
      cases q : ts[i]? <;> rw [q] at e <;> cases e <;> exact ho
    · rw [List.getElem?_map] at e
      cases q : fr[i - (ts.map fun _ => Slot.un).length]? <;> rw [q] at e <;> cases e <;> exact ho
  have hMut : ∀ b, Mut (compCx c scope ts fr env') vs' (ts.map (fun _ => Slot.un) ++ fr.map fun q => Slot.val q.2) b → M b := by
    rintro b (w | ⟨x, w⟩ | ⟨i, w⟩)
    · exact .inl ((show b = env'.locals from w).trans eL)
    · exact .inr ⟨x, by rw [← eC]; exact w⟩
    · exact absurd w (hown i b)
  have tsk : ∀ x ∈ ts, (relK scope.names c.kinds).lookup x = some .local := fun x hx => by
    have := List.all_eq_true.mp S.hts x hx
    rw [lookup_relK, show scope.names.lookup x = some .local by simpa using this]; rfl
  have frk : ∀ q ∈ fr, (relK scope.names c.kinds).lookup q.1 = some .cell := fun q hq => by
    obtain ⟨i, h1, h2, h3, h4⟩ := S.hfr.mem q hq
    rw [lookup_relK, h4, h2]; rfl
  have I0 : Inv (compCx c scope ts fr env') X' h₁ vs' (ts.map (fun _ => Slot.un) ++ fr.map fun q => Slot.val q.2) := by
    refine ⟨ok', I.keep.trans (k1.trans old), ⟨_, (by show h₁.Ns env'.locals _; rw [eL]; exact hns₁), fun i x hx hl => ?_⟩, fun i x hx hl => ?_, fun i sl e => ?_, fun i j b hi _ => absurd hi (hown i b), fun i b hi => absurd hi (hown i b), fun b m => ⟨nM b (hMut b m), M0 b (hMut b m)⟩, ?_, fun b w => ?_⟩
    · rw [ok'.kinds] at hl
      show none = vs' i
      show none = if i < ts.length then none else _
      split
      · rfl
      · rename_i hi
        exfalso
        have hx' : (ts ++ fr.map (·.1))[i]? = some x := hx
        rw [List.getElem?_append_right (by omega), List.getElem?_map] at hx'
        cases q : fr[i - ts.length]? with
        | none => rw [q] at hx'; cases hx'
        | some w =>
          rw [q] at hx'
          have hw := frk w (List.mem_of_getElem? q)
          cases hx'
          rw [show (compCx c scope ts fr env').kinds.lookup w.1 = some .cell from hw] at hl
          cases hl
    · rw [ok'.kinds] at hl
      have hx' : (ts ++ fr.map (·.1))[i]? = some x := hx
      by_cases hi : i < ts.length
      · rw [List.getElem?_append_left hi] at hx'
        have := tsk x (List.mem_of_getElem? hx')
        rw [show (compCx c scope ts fr env').kinds.lookup x = some .local from this] at hl
        cases hl
      · rw [List.getElem?_append_right (by omega), List.getElem?_map] at hx'
        cases q : fr[i - ts.length]? with
        | none => rw [q] at hx'; cases hx'
        | some w =>
          rw [q] at hx'
          cases hx'
          obtain ⟨j, e1, e2, e3, e4⟩ := S.hfr.mem w (List.mem_of_getElem? q)
          obtain ⟨b, e5, o, e6, e7⟩ := I.cel j w.1 (slotOf_get e1) ((ok.kinds _).trans e2)
          refine ⟨b, ?_, o, old _ _ (k1 _ _ e6), ?_⟩
          · show env'.cells.lookup w.1 = some b
            rw [eC, ← hcl]; exact clos_lookup S.names e4 e5
          · rw [e7]
            show _ = Data.cell (if i < ts.length then none else (fr[i - ts.length]?).elim none fun q => (slotOf c.names q.1).elim none vs)
            rw [if_neg hi, q]
            show _ = Data.cell ((slotOf c.names w.1).elim none vs)
            rw [e1]; rfl
    · by_cases hi : i < ts.length
      · rw [List.getElem?_append_left (by simpa using hi), List.getElem?_map] at e
        cases q : ts[i]? <;> rw [q] at e <;> cases e
        trivial
      · rw [List.getElem?_append_right (by simpa using hi), List.getElem?_map, List.length_map] at e
        cases q : fr[i - ts.length]? with
        | none => rw [q] at e; cases e
        | some w =>
          rw [q] at e; cases e
          obtain ⟨j, e1, e2, e3, e4⟩ := S.hfr.mem w (List.mem_of_getElem? q)
          obtain ⟨v, e5, r⟩ := I.slot j _ e3
          refine ⟨v, ?_, (r.weak fun b y => ?_).keep (k1.trans old)⟩
          · show (if i < ts.length then none else (fr[i - ts.length]?).elim none fun q => (slotOf c.names q.1).elim none vs) = some v
            rw [if_neg hi, q]
            show ((slotOf c.names w.1).elim none vs) = some v
            rw [e1]; exact e5
          · rcases y with y | y
            · exact YS b (XY b y)
            · exact YS b (MY b (hMut b y))
    · rintro b (w | w)
      · rcases w with w | w | w
        · obtain ⟨o, e, nt⟩ := I.alive b w.1
          exact ⟨o, old _ _ (k1 _ _ e), nt⟩
        · rw [w]; exact hal 0 h₁ hst₁
        · rw [w]; exact lx_nt hacc
      · rcases hMut b w with w | ⟨x, w⟩
        · rw [w]; exact ns_nt hns₁
        · obtain ⟨o, e, nt⟩ := I.alive b (.inr (.inr (.inl ⟨x, clc x b w⟩)))
          exact ⟨o, old _ _ (k1 _ _ e), nt⟩
    · rcases w with w | w | w
      · rcases w.1 with w | w
        · exact I.base b w
        · exact none_of_keep ok.keepB (I.sep b w).2
      · rw [w]; exact none_of_keep ok.keepB a0
      · rw [w]; exact none_of_keep ok.keepB D0
  have hlen : n = xs.length := by rw [T.len, List.length_map]
  let J : Nat → Shared → Prop := fun m s' => ∃ i vs2 σ2 h' tk' items, s' = { s with heap := h', toks := tk' } ∧ m = n + 1 - i ∧ i ≤ n ∧ Inv (compCx c scope ts fr env') X' h' vs2 σ2 ∧ P σ2 ∧ (∀ b, Mut (compCx c scope ts fr env') vs2 σ2 b → M b) ∧ St i h' ∧ IsLx h' D items ∧
    RepAll h' Y items.toList (((xs.take i).filter p).map f) ∧ ∀ b o, b ≠ a → b ≠ D → b ≠ C → h1.get? b = some o → h'.get? b = some o
  have loop : ∀ tk, codeAny (model c.G.prog c.G.w) c.A (.compLoop (.ListComp elt [⟨target, iter, ifs, 0⟩] scope pos) 0 (.ref a) (.ref D) env') (compPost (model c.G.prog c.G.w) c.A E use Q (.ref D) C) { s with heap := h₁, toks := tk } := by
    intro tk
    refine codeAny_compLoop_any J ?_ (n + 1) ⟨0, vs', _, h₁, tk, #[], rfl, rfl, Nat.zero_le _, I0, hP0, hMut, hst₁, hacc, by simpa using RepAll.nil, fun b o _ _ _ e => old b o e⟩
    rintro m s' ⟨i, vs2, σ2, h', tk', items, rfl, rfl, hi, I', hP, hM, st, hl, hr, hk⟩
    have aC : ∀ {g : Heap} {vs3 : Nat → Option Value} {σ3 : List Slot}, Inv (compCx c scope ts fr env') X' g vs3 σ3 → ∀ b, b = a ∨ b = D ∨ b = C → ∃ o, g.get? b = some o ∧ NT o := by
      intro g vs3 σ3 I3 b hb
      rcases hb with w | w | w
      · exact I3.alive b (.inl (.inr (.inl w)))
      · exact I3.alive b (.inl (.inr (.inr w)))
      · exact I3.alive b (.inr (.inl (w.trans eL.symm)))
    by_cases hlt : i < n
    · refine T.W.item i _ _ _ hlt st fun v h2 t2 hPv st2 k2 => ?_
      have k2' : ∀ b o, b ≠ a → h'.get? b = some o → h2.get? b = some o := fun b o n e => k2 b o (fun q => n (List.mem_singleton.mp q)) e
      obtain ⟨o2, T2, e2, hc2, hT2⟩ := T.it _ _ st2
      have I2 := I'.bump (.inr (.inl rfl)) a0 k2' ⟨o2, e2, nt_of_iter hc2 hT2⟩
      refine letOwned_pure (s := { s with heap := h2, toks := t2 }) e2 hc2 hT2 ?_
      have hltx : i < xs.length := by omega
      have hx : xs[i]? = some xs[i] := List.getElem?_eq_getElem hltx
      have hd : (xs.map ι)[i]? = some (ι xs[i]) := by rw [List.getElem?_map, hx]; rfl
      obtain ⟨σ3, tg, hP3, hts, hel⟩ := step env' xs[i] σ2 (List.getElem_mem hltx) hP
      have r2 : Rep h2 (Off (compCx c scope ts fr env') X' vs2 σ2) v (ι xs[i]) := by
        refine (T.item i v _ hPv hd).move (fun b o e q => ?_) fun b y => ?_
        · have hba : b ≠ a := fun w => by
            subst w
            rcases q with q | q
            · exact q (.inr rfl)
            · obtain ⟨o', e', nt⟩ := hal 0 h1 T.st
              rw [e] at e'; cases e'; exact q nt
          exact k2' b o hba (hk b o hba (fun w => by rw [w, newD] at e; cases e) (fun w => by rw [w, newC] at e; cases e) e)
        · rcases y with y | y
          · exact Y1 b (XY b y)
          · exact Y1 b (MY b (hM b y))
      refine tg.run _ _ vs2 v _ _ I2 r2 fun h3 t3 vs3 k3 I3 m3 => ?_
      have k3' : ∀ b o, b ≠ C → h2.get? b = some o → h3.get? b = some o := fun b o n e => k3 b o (by show b ≠ env'.locals; rw [eL]; exact n) e
      refine hts.run _ _ vs3 _ _ I3 fun h4 t4 k4 => ?_
      have I4 := I3.grow k4
      have kk : ∀ b o, b ≠ a → b ≠ C → h'.get? b = some o → h4.get? b = some o := fun b o n1 n2 e => k4 b o (k3' b o n2 (k2' b o n1 e))
      have kf : ∀ b ∈ fp, ∀ o, h2.get? b = some o → h4.get? b = some o := fun b hb o e => by
        refine k4 b o (k3' b o (fun w => ?_) e)
        by_cases q : b = a
        · exact haC (q.symm.trans w)
        · obtain ⟨_, o1, e1⟩ := T.fps b hb q
          rw [w, newC] at e1; cases e1
      have fpD : D ∉ fp := fun hb => by
        obtain ⟨_, o1, e1⟩ := T.fps D hb (Ne.symm haD)
        rw [newD] at e1; cases e1
      have r4 : RepAll h4 Y items.toList (((xs.take i).filter p).map f) := hr.over fun b o q e => by
        have nn : ∀ w, w = a ∨ w = D ∨ w = C → b ≠ w := fun w hw hb => by
          rcases q with q | q
          · exact q (by rw [hb]; exact .inr hw)
          · obtain ⟨o', e', nt⟩ := aC I' w hw
            rw [hb, e'] at e; cases e; exact q nt
        exact kk b o (nn a (.inl rfl)) (nn C (.inr (.inr rfl))) e
      have l4 : IsLx h4 D items := by
        obtain ⟨nn, e⟩ := hl
        exact ⟨nn, kk _ _ (Ne.symm haD) hDC e⟩
      cases hp : p xs[i] with
      | false =>
        simp only [Bool.false_eq_true, if_false]
        refine ⟨n + 1 - (i + 1), by omega, i + 1, vs3, σ3, h4, t4, items, rfl, rfl, hlt, I4, hP3, fun b m => hM b (m3 b m), T.W.frame _ _ _ st2 kf, l4, ?_, fun b o n1 n2 n3 e => kk b o n1 n3 (hk b o n1 n2 n3 e)⟩
        rw [take_filter_map p f xs i _ hx, hp]
        simpa using r4
      | true =>
        simp only [if_true]
        refine (hel hp).run _ _ vs3 _ _ I4 fun u h5 t5 k5 r5 => ?_
        obtain ⟨nn, e5⟩ := l4
        have hsz : items.size ≤ 2 ^ 20 := by
          have e1 := r4.length
          have e2 : ((xs.take i).filter p).length ≤ (xs.take i).length := List.length_filter_le _ _
          have e3 : (xs.take i).length ≤ xs.length := by rw [List.length_take]; omega
          rw [List.length_map] at e1
          have e4 : items.toList.length = items.size := by simp
          omega
        refine wpAny_list_append_plain (s := { s with heap := h5, toks := t5 }) (items := items) ⟨nn, k5 _ _ e5⟩ (fun h6 l6 s6 => ?_) (Nat.le_trans hsz (by decide))
        have I5 := I4.grow k5
        have k6 : ∀ b o, b ≠ D → h5.get? b = some o → h6.get? b = some o := fun b o n e => (s6.2 b n).trans e
        refine ⟨n + 1 - (i + 1), by omega, i + 1, vs3, σ3, h6, t5, _, rfl, rfl, hlt, I5.bump (.inr (.inr rfl)) D0 k6 (lx_nt l6), hP3, fun b m => hM b (m3 b m), T.W.frame _ _ _ st2 fun b hb o e => k6 b o (fun w => fpD (w ▸ hb)) (k5 b o (kf b hb o e)), l6, ?_,
          fun b o n1 n2 n3 e => k6 b o n2 (k5 b o (kk b o n1 n3 (hk b o n1 n2 n3 e)))⟩
        rw [take_filter_map p f xs i _ hx, hp, Array.toList_push]
        have nD : ∀ b o, h5.get? b = some o → ¬ Y b ∨ ¬ NT o → b ≠ D := fun b o e q w => by
          rcases q with q | q
          · exact q (.inr (.inr (.inl w)))
          · obtain ⟨o', e', nt⟩ := aC I5 b (.inr (.inl w))
            rw [e] at e'; cases e'; exact q nt
        refine RepAll.append ((r4.keep k5).kept fun b o e q => k6 b o (nD b o e q) e) ?_
        refine RepAll.cons (r5.move (fun b o e q => k6 b o (nD b o e (q.imp (fun w y => w (YOff vs3 σ3 b y)) id)) e) fun b y => .inl (YOff vs3 σ3 b y)) RepAll.nil
    · have hin : i = n := by omega
      subst hin
      refine T.W.done _ _ _ st fun h2 t2 k2 => ?_
      have k2' : ∀ b o, b ≠ a → h'.get? b = some o → h2.get? b = some o := fun b o n e => k2 b o (fun q => n (List.mem_singleton.mp q)) e
      obtain ⟨mm, hns, _⟩ := I'.loc
      have hns : h'.Ns C mm := by rw [← eL]; exact hns
      refine k D C items h2 t2 (fun b o e => ?_) (none_of_keep k1 newD) (none_of_keep k1 newC) hDC ?_ ?_ ⟨mm, hns.at' fun o e => k2' _ o (Ne.symm haC) e⟩
      · have e1 := k1 b o e
        have hba : b ≠ a := fun w => by rw [w, T.new] at e; cases e
        exact k2' b o hba (hk b o hba (fun w => by rw [w, newD] at e1; cases e1) (fun w => by rw [w, newC] at e1; cases e1) e1)
      · obtain ⟨nn, e⟩ := hl
        exact ⟨nn, k2' _ _ (Ne.symm haD) e⟩
      · rw [show xs.take i = xs from List.take_of_length_le (by omega)] at hr
        refine (hr.over fun b o q e => k2' b o (fun w => ?_) e).weak fun b y => .inl ?_
        · rcases q with q | q
          · exact q (.inr (.inl w))
          · obtain ⟨o', e', nt⟩ := aC I' b (.inl w)
            rw [e] at e'; cases e'; exact q nt
        · rcases y with y | y | y
          · exact .inl y
          · exact .inr (.inr (.inl y))
          · exact .inr (.inr (.inr y))
  show codeAny _ _ (.compStart _ 0 (.ref a) (.ref D) (compEnvC scope cl C c.env)) (compPost _ _ E use Q (.ref D) C) _
  rw [hE]
  exact codeAny_compStart_list (loop _) (T.W.self 0 _ _ _ hst₁ (loop _))
end
end Mine
end
section
namespace Mine
open PySem PySem.Calls

section
variable {c : Cx} {σ : List Slot}

theorem EVF.compG {α : Type} {elt iter target : Expr} {ifs : List Expr} {scope : Scope} {pos : Pos} {xs : List α} {ι : α → D} {p : α → Bool} {f : α → D} {ts : List Str} {fr : List (Str × D)} {P : List Slot → Prop}
    (hit : IT c σ iter (xs.map ι)) (hf : noFold iter = true) (hz : xs.length ≤ 2 ^ 20) (S : CompOk c σ scope ts fr)
    (hP0 : P (ts.map (fun _ => Slot.un) ++ fr.map fun q => Slot.val q.2))
    (step : ∀ env' x σ', x ∈ xs → P σ' → ∃ σ'', TGL (compCx c scope ts fr env') target (ι x) σ' σ'' ∧ P σ'' ∧ TSI (compCx c scope ts fr env') σ'' ifs (p x) ∧ (p x = true → EV (compCx c scope ts fr env') σ'' elt (f x))) :
    EVF c σ (.ListComp elt [⟨target, iter, ifs, 0⟩] scope pos) ((xs.filter p).map f) := by
  constructor; intro s X vs R E I q
  rw [eval_ListComp]
  refine comp_run (use := none) I hit hf hz S hP0 step fun D C items h' tk' kk nD nC hDC hl hr hns => ?_
  obtain ⟨m, hns⟩ := hns
  refine ⟨m, hns, fun h2 sb => ?_⟩
  obtain ⟨nn, e⟩ := hl
  refine q D items h2 tk' (fun b o e => (sb.2 b fun w => ?_).trans (kk b o e)) nD ⟨nn, (sb.2 _ hDC).trans e⟩ ?_
  · rw [w, nC] at e; cases e
  · refine (hr.over fun b o w e => (sb.2 b fun w' => ?_).trans e).weak fun b y => .inl (y.imp id .inl)
    rcases w with w | w
    · exact w (.inr (.inr w'))
    · obtain ⟨o', e', nt⟩ := ns_nt hns
      rw [w', e'] at e; cases e; exact w nt

/-- x for one name, with or without a test -/
theorem EVF.compI {α : Type} {elt iter t : Expr} {x : Str} {px : Pos} {scope : Scope} {pos : Pos} {xs : List α} {ι : α → D} {p : α → Bool} {f : α → D} {fr : List (Str × D)}
    (hit : IT c σ iter (xs.map ι)) (S : CompOk c σ scope [x] fr) (hf : noFold iter = true) (hx : isVar (compCx c scope [x] fr c.env) x = true) (hz : xs.length ≤ 2 ^ 20)
    (ht : ∀ env' x', x' ∈ xs → TS (compCx c scope [x] fr env') (.val (ι x') :: fr.map fun q => .val q.2) t (p x'))
    (he : ∀ env' x', x' ∈ xs → p x' = true → EV (compCx c scope [x] fr env') (.val (ι x') :: fr.map fun q => .val q.2) elt (f x')) :
    EVF c σ (.ListComp elt [⟨.Name x px, iter, [t], 0⟩] scope pos) ((xs.filter p).map f) := by
  refine EVF.compG (P := fun σ' => ∃ sl, σ' = sl :: fr.map fun q => .val q.2) hit hf hz S ⟨_, rfl⟩ ?_
  rintro env' y _ hy ⟨sl, rfl⟩
  have hl : (relK scope.names c.kinds).lookup x = some .local := by
    have := List.all_eq_true.mp S.hts x (.head _)
    rw [lookup_relK, show scope.names.lookup x = some .local by simpa using this]; rfl
  exact ⟨_, TGL.name (i := 0) (by simp [slotOf]) hx hl, ⟨_, rfl⟩, TSI.one (ht env' y hy), he env' y hy⟩
theorem EVF.comp {α : Type} {elt iter : Expr} {x : Str} {px : Pos} {scope : Scope} {pos : Pos} {xs : List α} {ι : α → D} {f : α → D} {fr : List (Str × D)}
    (hit : IT c σ iter (xs.map ι)) (S : CompOk c σ scope [x] fr) (hf : noFold iter = true) (hx : isVar (compCx c scope [x] fr c.env) x = true) (hz : xs.length ≤ 2 ^ 20)
    (he : ∀ env' x', x' ∈ xs → EV (compCx c scope [x] fr env') (.val (ι x') :: fr.map fun q => .val q.2) elt (f x')) :
    EVF c σ (.ListComp elt [⟨.Name x px, iter, [], 0⟩] scope pos) (xs.map f) := by
  have h := EVF.compG (P := fun σ' => ∃ sl, σ' = sl :: fr.map fun q => .val q.2) (p := fun _ => true) (f := f) (elt := elt) (target := .Name x px) (ifs := []) (pos := pos) hit hf hz S ⟨_, rfl⟩ ?_
  · rwa [show xs.filter (fun _ => true) = xs from List.filter_eq_self.mpr (fun _ _ => rfl)] at h
  rintro env' y _ hy ⟨sl, rfl⟩
  have hl : (relK scope.names c.kinds).lookup x = some .local := by
    have := List.all_eq_true.mp S.hts x (.head _)
    rw [lookup_relK, show scope.names.lookup x = some .local by simpa using this]; rfl
  exact ⟨_, TGL.name (i := 0) (by simp [slotOf]) hx hl, ⟨_, rfl⟩, TSI.nil, fun _ => he env' y hy⟩

theorem swaps_true {y : Str} {py spos pos : Pos} {elt : Expr} {gs : List Comprehension} {scope : Scope} {X : AS} {h : Heap} {vs : Nat → Option Value} (I : Inv c X h vs σ) (hl : c.kinds.lookup y = some .local) (hline : (py.line == pos.line) = true)
    (hnot : (scope.names.any fun x => x.1 == y && (x.2 == .local || x.2 == .cell)) = false) : swapsWith (.ListComp elt gs scope pos) (some (.Name y py)) spos.line c.env = pure true := by
  unfold swapsWith
  have h1 : c.env.blockKind = .function := by unfold Env.blockKind; rw [I.ok.kind]; rfl
  simp only [h1, I.ok.kinds, hl]
  show pure (_ && _ && (py.line == pos.line) && !(scope.names.any fun x => x.1 == y && (x.2 == .local || x.2 == .cell))) = _
  rw [hline, hnot]; rfl
theorem swaps_cell {y : Str} {py spos pos : Pos} {elt : Expr} {gs : List Comprehension} {scope : Scope} {X : AS} {h : Heap} {vs : Nat → Option Value} (I : Inv c X h vs σ) (hl : c.kinds.lookup y = some .cell) :
    swapsWith (.ListComp elt gs scope pos) (some (.Name y py)) spos.line c.env = pure false := by
  unfold swapsWith
  simp only [I.ok.kinds, hl]
  show pure (_ && (some NameKind.cell == some NameKind.local) && _ && _) = _
  rw [show (some NameKind.cell == some NameKind.local) = false from rfl, Bool.and_false, Bool.false_and, Bool.false_and]

/-- a comprehension given to a local -/
theorem WP.assignCompG {α : Type} {y : Str} {py spos : Pos} {i : Nat} {elt iter target : Expr} {ifs : List Expr} {scope : Scope} {pos : Pos} {xs : List α} {ι : α → D} {p : α → Bool} {f : α → D} {ts : List Str} {fr : List (Str × D)} {P : List Slot → Prop} {rest : List Stmt} {Q : Out → Prop}
    (hi : slotOf c.names y = some i) (hk : isVar c y = true) (hl : c.kinds.lookup y = some .local) (hline : (py.line == pos.line) = true) (hnot : (scope.names.any fun x => x.1 == y && (x.2 == .local || x.2 == .cell)) = false)
    (hit : IT c σ iter (xs.map ι)) (hf : noFold iter = true) (hz : xs.length ≤ 2 ^ 20) (S : CompOk c σ scope ts fr)
    (hP0 : P (ts.map (fun _ => Slot.un) ++ fr.map fun q => Slot.val q.2))
    (step : ∀ env' x σ', x ∈ xs → P σ' → ∃ σ'', TGL (compCx c scope ts fr env') target (ι x) σ' σ'' ∧ P σ'' ∧ TSI (compCx c scope ts fr env') σ'' ifs (p x) ∧ (p x = true → EV (compCx c scope ts fr env') σ'' elt (f x)))
    (h : WP c (σ.set i (.own ((xs.filter p).map f))) rest Q) : WP c σ (.Assign [.Name y py] (.ListComp elt [⟨target, iter, ifs, 0⟩] scope pos) spos :: rest) Q := by
  refine WP.cons ?_
  constructor; intro s X vs R E I k
  rw [exec_Assign_Name_used _ _ _ _ (swaps_true I hl hline hnot)]
  refine wpAny_bind (wpAny_standAt (wpAny_bind ?_))
  show wpAny _ c.A (do let _ ← comprehension (.ListComp elt [⟨target, iter, ifs, 0⟩] scope pos) scope c.env _ (newList []) false (eval iter c.env) (some (PySem.assign (.Name y py) c.env))) _ _ s
  refine wpAny_bind (wpAny_mono (comp_run (use := some (PySem.assign (.Name y py) c.env)) (Q := fun _ s' => R .next s') (E := E) I hit hf hz S hP0 step fun D C items h' tk' kk nD nC hDC hlx hr hns => ?_) (fun _ s' hq => wpAny_pure (wpAny_pure hq)) fun _ _ e => e)
  obtain ⟨m, hns⟩ := hns
  have I1 : Inv c (fun b => X b ∨ (b = D ∨ b = C)) h' vs σ := I.guardS kk fun b hb => by
    rcases hb with rfl | rfl
    · exact ⟨nD, lx_nt hlx⟩
    · exact ⟨nC, ns_nt hns⟩
  show wpAny _ c.A (PySem.assign (.Name y py) c.env (.ref D)) _ _ _
  refine wpAny_assign_Name (wp_store I1 (slotOf_get hi) (isVar.kind I.ok hk).1 fun h2 t2 S2 => ?_)
  have hXD : ¬ X D := fun q => off_fresh I nD (.inl q)
  have I2 : Inv c (fun b => X b ∨ b = C) h2 (upd vs i (.ref D)) (σ.set i (.own ((xs.filter p).map f))) := by
    refine I1.put S2 (slotOf_get hi) (fun b q => q.imp id .inr) (fun _ b e2 => ?_) fun _ => ⟨D, items, rfl, hlx, hr.weak fun b y => ?_⟩
    · cases e2; exact ⟨.inr (.inl rfl), fun q => q.elim hXD hDC, none_of_keep I.keep nD⟩
    · rcases y with (y | y) | y
      · exact .inl (.inl (.inl y))
      · exact .inl (.inr y)
      · exact .inl (.inl (.inr y))
  have hC2 : ∃ o, h2.get? C = some o ∧ NT o := I2.alive C (.inl (.inr rfl))
  have hnsC : h2.Ns C m := by
    obtain ⟨q, hq, sb, _⟩ := S2.place
    refine hns.sameBut sb fun w => ?_
    have hm : Mut c vs σ q := hq.elim .inl fun z => .inr (.inl z)
    obtain ⟨o, e, _⟩ := I.alive q (.inr hm)
    rw [← w, nC] at e; cases e
  refine ⟨m, hnsC, fun h3 sb3 => ?_⟩
  have k3 : ∀ b o, b ≠ C → h2.get? b = some o → h3.get? b = some o := fun b o n e => (sb3.2 b n).trans e
  have I3 : Inv c X h3 (upd vs i (.ref D)) (σ.set i (.own ((xs.filter p).map f))) := by
    refine I2.changeTo (fun _ x => .inl x) (fun b o e => k3 b o (fun w => by rw [w, none_of_keep I.keep nC] at e; cases e) (I2.keep b o e)) (fun b o e q => k3 b o (fun w => ?_) e) fun b x => ?_
    · rcases q with q | q | q
      · exact q (.inl (.inr w))
      · obtain ⟨o', e', nt⟩ := hC2
        rw [w, e'] at e; cases e; exact q nt
      · exact (I2.sep b q).1 (.inr w)
    · obtain ⟨o, e, nt⟩ := I2.alive b (.inl (.inl x))
      exact ⟨o, k3 b o (fun w => off_fresh I nC (.inl (w ▸ x))) e, nt⟩
  refine k (.next (σ.set i (.own ((xs.filter p).map f)))) _ _ _ h ⟨rfl, fun b o nb e => ?_, upd vs i (.ref D), I3, fun b mm => ?_⟩
  · exact k3 b o (fun w => by rw [w, nC] at e; cases e) (S2.keeps b o nb (kk b o e))
  · exact mut_put (fun _ b e2 => by cases e2; exact nD) mm
theorem WP.assignComp {α : Type} {y : Str} {py spos : Pos} {i : Nat} {elt iter : Expr} {x : Str} {px : Pos} {scope : Scope} {pos : Pos} {xs : List α} {ι : α → D} {f : α → D} {fr : List (Str × D)} {rest : List Stmt} {Q : Out → Prop}
    (hi : slotOf c.names y = some i) (hk : isVar c y = true) (hl : c.kinds.lookup y = some .local) (hline : (py.line == pos.line) = true) (hnot : (scope.names.any fun x => x.1 == y && (x.2 == .local || x.2 == .cell)) = false)
    (hit : IT c σ iter (xs.map ι)) (S : CompOk c σ scope [x] fr) (hf : noFold iter = true) (hx : isVar (compCx c scope [x] fr c.env) x = true) (hz : xs.length ≤ 2 ^ 20)
    (he : ∀ env' x', x' ∈ xs → EV (compCx c scope [x] fr env') (.val (ι x') :: fr.map fun q => .val q.2) elt (f x'))
    (h : WP c (σ.set i (.own (xs.map f))) rest Q) : WP c σ (.Assign [.Name y py] (.ListComp elt [⟨.Name x px, iter, [], 0⟩] scope pos) spos :: rest) Q := by
  refine WP.assignCompG (P := fun σ' => ∃ sl, σ' = sl :: fr.map fun q => .val q.2) (p := fun _ => true) (f := f) hi hk hl hline hnot hit hf hz S ⟨_, rfl⟩ ?_ (by rw [show xs.filter (fun _ => true) = xs from List.filter_eq_self.mpr (fun _ _ => rfl)]; exact h)
  rintro env' y _ hy ⟨sl, rfl⟩
  have hl : (relK scope.names c.kinds).lookup x = some .local := by
    have := List.all_eq_true.mp S.hts x (.head _)
    rw [lookup_relK, show scope.names.lookup x = some .local by simpa using this]; rfl
  exact ⟨_, TGL.name (i := 0) (by simp [slotOf]) hx hl, ⟨_, rfl⟩, TSI.nil, fun _ => he env' y hy⟩
theorem WP.assignCompI {α : Type} {y : Str} {py spos : Pos} {i : Nat} {elt iter t : Expr} {x : Str} {px : Pos} {scope : Scope} {pos : Pos} {xs : List α} {ι : α → D} {p : α → Bool} {f : α → D} {fr : List (Str × D)} {rest : List Stmt} {Q : Out → Prop}
    (hi : slotOf c.names y = some i) (hk : isVar c y = true) (hl : c.kinds.lookup y = some .local) (hline : (py.line == pos.line) = true) (hnot : (scope.names.any fun x => x.1 == y && (x.2 == .local || x.2 == .cell)) = false)
    (hit : IT c σ iter (xs.map ι)) (S : CompOk c σ scope [x] fr) (hf : noFold iter = true) (hx : isVar (compCx c scope [x] fr c.env) x = true) (hz : xs.length ≤ 2 ^ 20)
    (ht : ∀ env' x', x' ∈ xs → TS (compCx c scope [x] fr env') (.val (ι x') :: fr.map fun q => .val q.2) t (p x'))
    (he : ∀ env' x', x' ∈ xs → p x' = true → EV (compCx c scope [x] fr env') (.val (ι x') :: fr.map fun q => .val q.2) elt (f x'))
    (h : WP c (σ.set i (.own ((xs.filter p).map f))) rest Q) : WP c σ (.Assign [.Name y py] (.ListComp elt [⟨.Name x px, iter, [t], 0⟩] scope pos) spos :: rest) Q := by
  refine WP.assignCompG (P := fun σ' => ∃ sl, σ' = sl :: fr.map fun q => .val q.2) hi hk hl hline hnot hit hf hz S ⟨_, rfl⟩ ?_ h
  rintro env' y _ hy ⟨sl, rfl⟩
  have hl : (relK scope.names c.kinds).lookup x = some .local := by
    have := List.all_eq_true.mp S.hts x (.head _)
    rw [lookup_relK, show scope.names.lookup x = some .local by simpa using this]; rfl
  exact ⟨_, TGL.name (i := 0) (by simp [slotOf]) hx hl, ⟨_, rfl⟩, TSI.one (ht env' y hy), he env' y hy⟩
/-- a comprehension given to a cell variable -/
theorem WP.assignCompCell {y : Str} {py spos : Pos} {i : Nat} {elt : Expr} {gs : List Comprehension} {scope : Scope} {pos : Pos} {xs : List D} {rest : List Stmt} {Q : Out → Prop} (hi : slotOf c.names y = some i) (hk : isVar c y = true) (hl : c.kinds.lookup y = some .cell)
    (he : EVF c σ (.ListComp elt gs scope pos) xs) (h : WP c (σ.set i (.val (.list xs))) rest Q) : WP c σ (.Assign [.Name y py] (.ListComp elt gs scope pos) spos :: rest) Q := by
  refine WP.cons ?_
  constructor; intro s X vs R E I k
  refine wpAny_Assign_Name (he.ev.run s X vs _ _ I fun v h1 t1 k1 r1 => ?_) (swaps_cell I hl)
  have I1 := I.grow k1
  refine wp_store I1 (slotOf_get hi) (isVar.kind I.ok hk).1 fun h2 t2 S => ?_
  refine k (.next (σ.set i (.val (.list xs)))) _ _ _ h ⟨rfl, fun b o n q => S.keeps b o n (k1 b o q), upd vs i v, ?_, fun a m => ?_⟩
  · exact I1.put S (slotOf_get hi) (fun _ x => x) (fun e => by exact False.elim e) fun _ => ⟨v, rfl, r1⟩
  · exact mut_put (fun e => by exact False.elim e) m
end
end Mine
end
section
namespace Mine
open PySem PySem.Calls

theorem exec_of_execs1 {M : Model} {A : Around} {st : Stmt} {env : Env} {Q : Flow → Shared → Prop} {E : Value → Shared → Prop} {s : Shared} (h : wpAny M A (execs [st] env) Q E s) : wpAny M A (exec st env) Q E s := fun Γ p hΓ => by
  have := h Γ p hΓ
  rw [execs_cons, Sem.wp_bind'] at this
  refine Sem.wp_mono M Γ _ (fun f p' s' h' => ?_) (fun _ _ _ h' => h') _ _ this
  cases f <;> exact h'

/-- the frames of the calls under way, alive -/
def FrsIn (h : Heap) (l : List Env) : Prop := ∀ env ∈ l, env.scope.kind ≠ .module ∧ ∃ L o, env.frame = some L ∧ h.get? L = some o ∧ ∃ es ep, o.data = .dict es ep
def isFrame (l : List Env) (b : Addr) : Prop := ∃ env ∈ l, env.frame = some b
theorem FrsIn.keep {h h' : Heap} {l : List Env} (x : FrsIn h l) (k : Keep h h') : FrsIn h' l := fun env he => let ⟨h1, L, o, h2, h3, h4⟩ := x env he; ⟨h1, L, o, h2, k _ _ h3, h4⟩
theorem FrsIn.fun {h base : Heap} : ∀ {l : List Env}, FrsIn h l → (∀ b, isFrame l b → base.get? b = none) → h.FunFrames base l
  | [], _, _ => trivial
  | env :: l, x, n => by
    obtain ⟨h1, L, o, h2, h3, h4⟩ := x env (.head _)
    obtain ⟨es, ep, h4⟩ := h4
    exact ⟨h1, ⟨L, o, h2, n L ⟨env, .head _, h2⟩, h3, fun ws w => by rw [h4] at w; cases w⟩, FrsIn.fun (fun e he => x e (.tail _ he)) fun b ⟨e, he, hf⟩ => n b ⟨e, .tail _ he, hf⟩⟩
/-- an exception on its way -/
structure Fly (l : List Env) (cls : Value) (h h' : Heap) (e : Addr) : Prop where
  fly : ∃ base a0, Heap.FlyingW base l e cls a0 h' ∧ ∀ b o, ¬ isFrame l b → h.get? b = some o → base.get? b = some o
  up : h.UpToSlots h'

abbrev OwnX (G : GX) (x : Str) (C : Addr) : Prop := PyProof.Rows.OwnCls x C [.type "Exception", .type "BaseException", .type "object"] "Exception.__new__" G.mg G.hb

def FnRaise (G : GX) (f : Addr) (args : List D) (cls : Value) (n : Nat) : Prop :=
  ∀ (A : Around) (s : Shared) (X : AS) (us : List Value) (R : Value → Shared → Prop) (E : Value → Shared → Prop) (outer : List Env), A.frames = some outer → FrsIn s.heap outer → Keep G.hb s.heap → A.handled = none → A.depth + n < recursionLimit → A.units + 8 * n + 100 < cLine →
    (∀ a, X a → ∃ o, s.heap.get? a = some o ∧ NT o) → (∀ a, X a → G.hb.get? a = none) → RepAll s.heap X us args →
    (∀ e h' tk', Fly outer cls s.heap h' e → E (.ref e) { s with heap := h', toks := tk' }) → wpAny (model G.prog G.w) A (call (.ref f) us) R E s
/-- a def that catches: the frames' slots change -/
def FnSpecF (G : GX) (f : Addr) (args : List D) (d : D) (n : Nat) : Prop :=
  ∀ (A : Around) (s : Shared) (X : AS) (us : List Value) (R : Value → Shared → Prop) (E : Value → Shared → Prop) (outer : List Env), A.frames = some outer → FrsIn s.heap outer → Keep G.hb s.heap → A.handled = none → A.depth + n < recursionLimit → A.units + 8 * n + 100 < cLine →
    (∀ a, X a → ∃ o, s.heap.get? a = some o ∧ NT o) → (∀ a, X a → G.hb.get? a = none) → RepAll s.heap X us args →
    (∀ v h' tk', (∀ b o, ¬ isFrame outer b → s.heap.get? b = some o → h'.get? b = some o) → s.heap.UpToSlots h' → (∃ d', v = d' ∧ ∀ Y, Rep h' Y v d) → R v { s with heap := h', toks := tk' }) → wpAny (model G.prog G.w) A (call (.ref f) us) R E s
theorem FnRaise.mono {G : GX} {f : Addr} {args : List D} {cls : Value} {n m : Nat} (h : FnRaise G f args cls n) (hm : n ≤ m) : FnRaise G f args cls m :=
  fun A s X us R E o h0 h0' k h1 h2 h3 a b ru q => h A s X us R E o h0 h0' k h1 (by omega) (by omega) a b ru q
theorem FnSpecF.mono {G : GX} {f : Addr} {args : List D} {d : D} {n m : Nat} (h : FnSpecF G f args d n) (hm : n ≤ m) : FnSpecF G f args d m :=
  fun A s X us R E o h0 h0' k h1 h2 h3 a b ru q => h A s X us R E o h0 h0' k h1 (by omega) (by omega) a b ru q

section
variable {c : Cx} {σ : List Slot}

/-- statements that raise -/
structure WX (c : Cx) (σ : List Slot) (ss : List Stmt) (cls : Value) : Prop where
  run : ∀ (s : Shared) (X : AS) (vs : Nat → Option Value) (R : Flow → Shared → Prop) (E : Value → Shared → Prop), Inv c X s.heap vs σ → PassesOwn (model c.G.prog c.G.w) c.A c.env E →
    (∀ e g h' tk' args, (∀ b o, ¬ Mut c vs σ b → s.heap.get? b = some o → g.get? b = some o) → (∃ m, g.Ns c.env.locals m) → Heap.MadeExcOf g h' e cls args → E (.ref e) { s with heap := h', toks := tk' }) →
      wpAny (model c.G.prog c.G.w) c.A (execs ss c.env) R E s

theorem WX.raise {x : Str} {C : Addr} {e : Expr} {d : D} {np cpos pos : Pos} {rest : List Stmt} (O : OwnX c.G x C) (he : EV c σ e d) (hn : noStar e = true) (hx : c.kinds.lookup x = some .globalImplicit) (hd : (x == ("__debug__" : Str)) = false) :
    WX c σ (.Raise (some (.Call (.Name x np) [e] [] cpos)) none pos :: rest) (.ref C) := by
  constructor; intro s X vs R E I hE k
  refine wpAny_execs_cons ?_
  obtain ⟨tl, N, nm, q, bs, hdct, sn, sub, ab, col, dd, k0, k1, k2, k3, k5, mN, hC, hN, hni, T⟩ := O.obj
  refine wpAny_Raise_call_subT (C := C) (nm := nm) (q := q) (N := N) (bs := bs) (bm := tl) (hdct := hdct) (sn := sn) (sub := sub) (ab := ab) (col := col) (dd := dd) (k0 := k0) (k1 := k1) (k2 := k2) (k3 := k3) (k5 := k5)
    F.excBase_Exception (mN := mN) (T.hasType F.excBase_Exception.hasBase) I.ok.hh (noStar_any (by simp [hn])) hni (Name_function_global I.ok.kind ((I.ok.kinds x).trans hx) (loadGlobal_global (env := c.env) ?_ O.bound ⟨rfl, ?_⟩) hd)
  · rw [I.ok.glob]; exact (I.ok.g.g.keeps I.ok.keepB).keeps I.keep
  refine wp_args hn ((EVs.one he hn).run s X vs _ _ cpos I fun us h1 t1 k1 r1 => ?_)
  have I1 := I.grow k1
  have kb : Keep c.G.hb h1 := I.ok.keepB.trans I1.keep
  obtain ⟨m, hns, _⟩ := I1.loc
  refine ⟨rfl, ?_, kb _ _ hC, hN.keeps kb, T.keeps kb, fun h' e hm => ?_⟩
  · have := r1.length
    show us.length ≤ sizeLine
    rw [this]; exact Nat.le_trans (by decide : 1 ≤ 2) (by decide)
  · exact k e h1 h' t1 _ (fun b o _ e => k1 b o e) ⟨m, hns⟩ hm

theorem WX.seq {st : Stmt} {rest : List Stmt} {cls : Value} (h : WP c σ [st] (fun o => ∃ σ', o = .next σ' ∧ WX c σ' rest cls)) : WX c σ (st :: rest) cls := by
  constructor; intro s X vs R E I hE k
  refine wpAny_execs_cons (exec_of_execs1 (h.run s X vs _ _ I fun out f h1 t1 q r => ?_))
  obtain ⟨σ1, rfl, hw⟩ := q
  obtain ⟨rfl, k1, vs1, I1, e1⟩ := r
  refine hw.run _ X vs1 _ _ I1 hE fun e g h' tk' args kk hn hm => k e g h' tk' args (fun b o n q => kk b o (fun m => ?_) (k1 b o n q)) hn hm
  rcases e1 b m with m | m
  · exact n m
  · rw [q] at m; cases m

theorem WX.ite {t : Expr} {body orelse rest : List Stmt} {p : Pos} {b : Bool} {cls : Value} (ht : TS c σ t b) (h1 : b = true → WX c σ body cls) (h2 : b = false → WX c σ orelse cls) : WX c σ (.If t body orelse p :: rest) cls := by
  constructor; intro s X vs R E I hE k
  refine wpAny_execs_cons (wpAny_If (ht.run s X vs _ _ I fun h1' t1 k1 => ?_))
  cases b with
  | true => exact (h1 rfl).run _ X vs _ _ (I.grow k1) hE fun e g h' tk' args kk hn hm => k e g h' tk' args (fun b o n q => kk b o n (k1 b o q)) hn hm
  | false => exact (h2 rfl).run _ X vs _ _ (I.grow k1) hE fun e g h' tk' args kk hn hm => k e g h' tk' args (fun b o n q => kk b o n (k1 b o q)) hn hm

theorem WX.while {t : Expr} {body rest : List Stmt} {p : Pos} {cls : Value} (P : Nat → List Slot → Prop) (n : Nat) (h0 : P n σ)
    (step : ∀ m σ', P m σ' → TS c σ' t true ∧ (WX c σ' body cls ∨ WP c σ' body (fun o => ∃ σ'' m', o = .next σ'' ∧ m' < m ∧ P m' σ''))) : WX c σ (.While t body [] p :: rest) cls := by
  constructor; intro s X vs R E I hE k
  refine wpAny_execs_cons ?_
  let J : Nat → Shared → Prop := fun m s' => ∃ vs' σ' h' tk', s' = { s with heap := h', toks := tk' } ∧ Inv c X h' vs' σ' ∧ P m σ' ∧ (∀ b o, ¬ Mut c vs σ b → s.heap.get? b = some o → h'.get? b = some o) ∧ ∀ b, Mut c vs' σ' b → Mut c vs σ b ∨ s.heap.get? b = none
  refine wpAny_While (codeAny_whileLoop J ?_ n ⟨vs, σ, s.heap, s.toks, rfl, I, h0, fun _ _ _ e => e, fun _ m => .inl m⟩)
  rintro m s' ⟨vs', σ', h', tk', rfl, I', hP, hk, he⟩
  obtain ⟨ht, hb⟩ := step m σ' hP
  refine ht.run _ X vs' _ _ I' fun h1' t1 k1 => ?_
  simp only [if_true]
  rcases hb with hb | hb
  · refine wpAny_passesOwn hE (hb.run _ X vs' _ _ (I'.grow k1) hE fun e g h'' tk'' args kk hn hm => k e g h'' tk'' args (fun b o nb q => kk b o (fun mm => ?_) (k1 b o (hk b o nb q))) hn hm)
    rcases he b mm with mm | mm
    · exact nb mm
    · rw [q] at mm; cases mm
  · refine hb.run _ X vs' _ _ (I'.grow k1) fun out f h4 t4 q r => ?_
    obtain ⟨σ4, m', rfl, hm, hP4⟩ := q
    obtain ⟨rfl, k4, vs4, I4, e4⟩ := (show OutOk c X s.heap vs σ h4 (.next σ4) f from (r.grown k1).trans hk he)
    exact ⟨m', hm, vs4, σ4, h4, t4, rfl, I4, hP4, k4, e4⟩
end

/-- entering a def -/
theorem enter {G : GX} {f : Addr} {fd : FuncData} {body : List Stmt} {params more : List Str} {kinds : List (Str × NameKind)} {args : List D} {n : Nat} (hG : G.Ok) (hf : FnIs G f fd) (hb : fd.body = .stmts body) (hkinds : fd.scope.names = kinds)
    (hbind : ∀ us : List Value, us.length = params.length → bindArgs fd ⟨us, []⟩ = pure (params.zip us)) (hnd : (params ++ more).Nodup) (hkind : (params ++ more).all (fun x => kinds.lookup x == some .local || kinds.lookup x == some .cell) = true)
    (hlen : args.length = params.length) {A : Around} {s : Shared} {X : AS} {us : List Value} {R : Value → Shared → Prop} {E : Value → Shared → Prop}
    (kb : Keep G.hb s.heap) (hh : A.handled = none) (hd : A.depth + (n + 1) < recursionLimit) (hu : A.units + 8 * (n + 1) + 100 < cLine) (al : ∀ a, X a → ∃ o, s.heap.get? a = some o ∧ NT o) (ab : ∀ a, X a → G.hb.get? a = none) (ru : RepAll s.heap X us args)
    (k : ∀ env vs h₁ tk, Inv ⟨G, A.deeper env, env, s.heap, params ++ more, kinds, n⟩ X h₁ vs (args.map Slot.val ++ more.map fun _ => .un) → Keep s.heap h₁ → env.frame = some env.locals →
      (∀ a, Mut ⟨G, A.deeper env, env, s.heap, params ++ more, kinds, n⟩ vs (args.map Slot.val ++ more.map fun _ => .un) a → s.heap.get? a = none) →
      wpAny (model G.prog G.w) (A.deeper env) (execs body env) (fun fl s' => R (match fl with | .ret v => v | _ => .none) s') (fun e s' => wpAny (model G.prog G.w) (A.deeper env) (leaving env e) (fun _ s'' => E e s'') (fun e' s'' => E e' s'') s') { s with heap := h₁, toks := tk }) :
    wpAny (model G.prog G.w) A (call (.ref f) us) R E s := by
  obtain ⟨o, ho, hdat⟩ := hf.get
  have hus : us.length = params.length := by rw [ru.length, hlen]
  have hmap : (params.zip us).map (·.1) = params := List.map_fst_zip (by omega)
  have hkd : ∀ x ∈ params ++ more, kinds.lookup x = some .local ∨ kinds.lookup x = some .cell := fun x hx => by
    have := List.all_eq_true.mp hkind x hx
    simpa using this
  refine wpAny_call (codeAny_call_cells (by omega) (kb _ _ ho) hdat (hG.nolim.keeps kb) (hf.code.keeps kb) hb (hbind us hus) hf.clo ?_ ?_ hf.co hf.gen hf.kind)
  · intro x hx
    have hm : x.1 ∈ params := by rw [← hmap]; exact List.mem_map.mpr ⟨x, hx, rfl⟩
    rw [hkinds]
    rcases hkd x.1 (List.mem_append_left _ hm) with e | e
    · exact .inl e
    · exact .inr ⟨e, cells_lookup (.inl e)⟩
  · intro s₁ x
    have hkof : ∀ y, (callEnvC fd s.heap.objs.size f).kindOf y = kinds.lookup y := fun y => by rw [← hkinds]; rfl
    have e0 : (callEnvC fd s.heap.objs.size f).frame = some (callEnvC fd s.heap.objs.size f).locals := rfl
    generalize henv : callEnvC fd s.heap.objs.size f = env at x hkof e0 ⊢
    have e1 : env.scope.kind = .function := by rw [← henv]; exact hf.kind
    have e2 : env.globals = mainGlobals := by rw [← henv]; exact hf.glob
    have e3 : env.builtins = builtinsNs := by rw [← henv]; exact hf.bui
    obtain ⟨h₁, tk, rfl, kk⟩ := x.done
    have nsL := x.toInCall.ns
    have hL0 : ∀ a, env.locals ≤ a → s.heap.get? a = none := fun a ha => Heap.get?_none_of_le (Nat.le_trans x.toInCall.fresh ha)
    let vs : Nat → Option Value := fun i => ((params ++ more)[i]?).elim none fun y => if kinds.lookup y = some .local then bindL env.kindOf (params.zip us) (fun _ => none) y else bindC env.kindOf (params.zip us) (fun _ => none) y
    have vget : ∀ i y, (params ++ more)[i]? = some y → vs i = if kinds.lookup y = some .local then bindL env.kindOf (params.zip us) (fun _ => none) y else bindC env.kindOf (params.zip us) (fun _ => none) y := fun i y e => by
      show ((params ++ more)[i]?).elim _ _ = _
      rw [e]; rfl
    have hown : ∀ i a, ¬ OwnAt vs (args.map Slot.val ++ more.map fun _ => .un) i a := by
      rintro i a ⟨⟨xs, e, ho⟩, _⟩
      rw [List.getElem?_append] at e
      split at e
      · rw [List.getElem?_map] at e
        cases q : args[i]? <;> rw [q] at e <;> cases e <;> exact ho
      · rw [List.getElem?_map] at e
        cases q : more[i - (args.map Slot.val).length]? <;> rw [q] at e <;> cases e <;> exact ho
    have ok : Cx.Ok ⟨G, A.deeper env, env, s.heap, params ++ more, kinds, n⟩ := ⟨hG, kb, e1, e2, e3, hh, by show A.depth + 1 + n < recursionLimit; omega, by show A.units + 3 + 8 * n + 100 < cLine; omega, hnd, hkof, x.apart, fun y a hm => Nat.ne_of_gt (x.above y a (mem_of_lookup hm))⟩
    have hmut : ∀ a, Mut ⟨G, A.deeper env, env, s.heap, params ++ more, kinds, n⟩ vs (args.map Slot.val ++ more.map fun _ => .un) a → env.locals ≤ a ∧ ∃ o, h₁.get? a = some o ∧ NT o := by
      rintro a (e | ⟨y, e⟩ | ⟨i, e⟩)
      · subst e
        obtain ⟨o, es, ep, e4, e5, _⟩ := nsL
        exact ⟨Nat.le_refl _, o, e4, fun _ v n q => by rw [e5] at q; cases q⟩
      · have hab := x.above y a (mem_of_lookup e)
        obtain ⟨o, e4, e5⟩ := x.cell y a e
        exact ⟨Nat.le_of_lt hab, o, e4, fun _ v n q => by rw [e5] at q; cases q⟩
      · exact absurd e (hown i a)
    have hX : ∀ a, X a → s.heap.get? a ≠ none := fun a hx e => by obtain ⟨o, e', _⟩ := al a hx; rw [e] at e'; cases e'
    have hY : ∀ a, Off ⟨G, A.deeper env, env, s.heap, params ++ more, kinds, n⟩ X vs (args.map Slot.val ++ more.map fun _ => .un) a → X a ∨ s.heap.get? a = none := by
      rintro a (k | k)
      · exact .inl k
      · exact .inr (hL0 a (hmut a k).1)
    have I : Inv ⟨G, A.deeper env, env, s.heap, params ++ more, kinds, n⟩ X h₁ vs (args.map Slot.val ++ more.map fun _ => .un) := by
      refine ⟨ok, kk, ⟨_, nsL, fun i y hy hl => ?_⟩, fun i y hy hl => ?_, fun i sl e => ?_, fun i j a hi _ => absurd hi (hown i a), fun i a hi => absurd hi (hown i a), fun a m => ?_, ?_, ab⟩
      · rw [vget i y hy, ← hkof, if_pos hl]
      · rw [vget i y hy, ← hkof, if_neg (by rw [hl]; decide)]
        have hc : ∃ a, env.cells.lookup y = some a := by
          have : (env.cells.lookup y).isSome = true := by
            rw [← henv]
            refine cells_lookup (.inl ?_)
            rw [hkinds, ← hkof]; exact hl
          exact Option.isSome_iff_exists.mp this
        obtain ⟨a, ha⟩ := hc
        exact ⟨a, ha, x.cell y a ha⟩
      · rw [List.getElem?_append] at e
        split at e
        · rename_i hlt
          rw [List.length_map] at hlt
          rw [List.getElem?_map, List.getElem?_eq_getElem hlt] at e
          cases e
          obtain ⟨u, eu, r1⟩ := ru.get i (List.getElem?_eq_getElem hlt)
          have hi : i < params.length := by omega
          have hp : (params ++ more)[i]? = some params[i] := by rw [List.getElem?_append_left hi, List.getElem?_eq_getElem hi]
          have hmem : (params[i], u) ∈ params.zip us := by
            obtain ⟨hiu, eu'⟩ := List.getElem?_eq_some_iff.mp eu
            refine List.mem_iff_getElem.mpr ⟨i, by simp; omega, ?_⟩
            simp [eu']
          have ndz : ((params.zip us).map (·.1)).Nodup := by rw [hmap]; exact (List.nodup_append.mp hnd).1
          refine ⟨u, ?_, (r1.weak fun a y => hY a y).keep kk⟩
          rw [vget i _ hp]
          by_cases hl : kinds.lookup params[i] = some .local
          · rw [if_pos hl]; exact bindL_at ndz hmem ((hkof _).trans hl)
          · rw [if_neg hl]; exact bindC_at ndz hmem (by rw [hkof]; exact hl)
        · rw [List.getElem?_map] at e
          cases q : more[i - (args.map Slot.val).length]? <;> rw [q] at e <;> cases e
          trivial
      · have := hL0 a (hmut a m).1
        exact ⟨fun hx => hX a hx this, this⟩
      · rintro a (k | k)
        · obtain ⟨o, e, nt⟩ := al a k
          exact ⟨o, kk a o e, nt⟩
        · exact (hmut a k).2
    exact k env vs h₁ tk I kk e0 fun a m => hL0 a (hmut a m).1

open PySem.W in
theorem Def.raise {G : GX} {p : Program} {k : Nat} {x : Str} {f : Addr} {params more : List Str} {args : List D} {cls : Value} {n : Nat} (d : Def G p k x f params) (hG : G.Ok) (hlen : args.length = params.length)
    (h : ∀ (A : Around) (env : Env) (h0 : Heap), WX ⟨G, A, env, h0, params ++ more, kindsAt p k, n⟩ (args.map Slot.val ++ more.map fun _ => .un) (bodyAt p k) cls)
    (hnd : (params ++ more).Nodup := by decide) (hkind : (params ++ more).all (fun x => (kindsAt p k).lookup x == some .local || (kindsAt p k).lookup x == some .cell) = true := by rfl) : FnRaise G f args cls (n + 1) := by
  obtain ⟨fd, h1, h2, h3, h4⟩ := d.fd
  intro A s X us R E outer hfr hF kb hh hd hu al ab ru q
  refine enter hG h1 h2 h3 h4 hnd hkind hlen kb hh hd hu al ab ru fun env vs h₁ tk I kk ef nm => ?_
  refine (h (A.deeper env) env s.heap).run _ X vs _ _ I PassesOwn.leaving fun e g h' tk' as kg hns hm => ?_
  have kg' : Keep s.heap g := fun b o e => kg b o (fun m => by rw [nm b m] at e; cases e) (kk b o e)
  have hlist : ∀ b, isFrame (env :: outer) b → b ∈ (env :: outer).filterMap (·.frame) := fun b ⟨e', he, hf⟩ => List.mem_filterMap.mpr ⟨e', he, hf⟩
  have fr : FrsIn g (env :: outer) := by
    intro e' he
    rcases List.mem_cons.mp he with rfl | he
    · obtain ⟨m, o, es, ep, e1, e2, _⟩ := hns
      have ek : e'.scope.kind = .function := I.ok.kind
      exact ⟨by rw [ek]; decide, _, o, ef, e1, es, ep, e2⟩
    · exact (hF.keep kg') e' he
  refine wpAny_leaves_madeW (base := hideAll g ((env :: outer).filterMap (·.frame))) (Around.frames_deeper hfr) ef (fun b o w => of_hideAll _ w) (fr.fun fun b hb => hideAll_none _ (hlist b hb)) hm fun h'' t x1 x2 x3 x4 => ?_
  refine q e h'' tk' ⟨⟨_, _, x1, fun b o nb w => hideAll_get _ (kg' b o w) fun hm => ?_⟩, ((Heap.UpToSlots.of_keeps kg').trans (Heap.UpToSlots.of_keeps hm.keeps)).trans x4⟩
  obtain ⟨e', he, hf⟩ := List.mem_filterMap.mp hm
  rcases List.mem_cons.mp he with rfl | he
  · rw [ef] at hf; cases hf
    have := nm _ (.inl rfl)
    rw [show (s.heap.get? e'.locals) = none from this] at w; cases w
  · exact nb ⟨e', he, hf⟩
end Mine
end
section
namespace Mine
open PySem PySem.Calls

/-- a frame that may catch -/
structure CFr (c : Cx) (outer : List Env) : Prop where
  frames : c.A.frames = some (c.env :: outer)
  frame : c.env.frame = some c.env.locals
  frs : FrsIn c.h0 outer
theorem frsIn_of {c : Cx} {outer : List Env} {X : AS} {h : Heap} {vs : Nat → Option Value} {σ : List Slot} (F : CFr c outer) (I : Inv c X h vs σ) : FrsIn h (c.env :: outer) := by
  intro e' he
  rcases List.mem_cons.mp he with rfl | he
  · obtain ⟨m, ⟨o, es, ep, e1, e2, _⟩, _⟩ := I.loc
    exact ⟨by rw [I.ok.kind]; decide, _, o, F.frame, e1, es, ep, e2⟩
  · exact (F.frs.keep I.keep) e' he

section
variable {c : Cx} {σ : List Slot}

theorem Fly.from {l : List Env} {cls : Value} {h h1 h' : Heap} {e : Addr} (k : Keep h h1) (f : Fly l cls h1 h' e) : Fly l cls h h' e := by
  obtain ⟨⟨base, a0, f1, f2⟩, u⟩ := f
  exact ⟨⟨base, a0, f1, fun b o n w => f2 b o n (k b o w)⟩, (Heap.UpToSlots.of_keeps k).trans u⟩

structure EVX (c : Cx) (σ : List Slot) (e : Expr) (cls : Value) : Prop where
  run : ∀ (s : Shared) (X : AS) (vs : Nat → Option Value) (R : Value → Shared → Prop) (E : Value → Shared → Prop) (outer : List Env), Inv c X s.heap vs σ → CFr c outer →
    (∀ e h' tk', Fly (c.env :: outer) cls s.heap h' e → E (.ref e) { s with heap := h', toks := tk' }) → wpAny (model c.G.prog c.G.w) c.A (eval e c.env) R E s
theorem EVX.call {x : Str} {p pos : Pos} {f : Addr} {e : Expr} {es : List Expr} {ds : List D} {cls : Value} {n : Nat} (hk : c.kinds.lookup x = some .globalImplicit) (hd : (x == ("__debug__" : Str)) = false) (hf : IsFn c.G x f) (hs : EVs c σ (e :: es) ds) (hn : noStar e = true)
    (h : FnRaise c.G f ds cls n) (hr : n ≤ c.room) : EVX c σ (.Call (.Name x p) (e :: es) [] pos) cls := by
  constructor; intro s X vs R E outer I F q
  refine wpAny_Call_NameR (Name_function_global I.ok.kind ((I.ok.kinds x).trans hk) (loadGlobal_global (env := c.env) ?_ hf.glob ?_) hd)
  · rw [I.ok.glob]; exact (I.ok.g.g.keeps I.ok.keepB).keeps I.keep
  obtain ⟨o, fd, ho, hfd⟩ := hf.fn
  refine callWith_function (o := o) (fd := fd) (wp_args hn (hs.run s X vs _ _ pos I fun us h1 t1 k1 r1 => ⟨⟨?_, hfd⟩, ?_⟩))
  · exact k1 _ _ (I.keep _ _ (I.ok.keepB _ _ ho))
  have I1 := I.grow k1
  exact (h.mono hr) c.A _ (Off c X vs σ) us _ _ _ F.frames (frsIn_of F I1) (I.ok.keepB.trans I1.keep) I.ok.hh I.ok.depth I.ok.units I1.alive (off_base I1) r1 fun e h' tk' fl => q e h' tk' (fl.from k1)

/-- statements that let an exception of a call pass -/
structure WE (c : Cx) (σ : List Slot) (ss : List Stmt) (cls : Value) : Prop where
  run : ∀ (s : Shared) (X : AS) (vs : Nat → Option Value) (R : Flow → Shared → Prop) (E : Value → Shared → Prop) (outer : List Env), Inv c X s.heap vs σ → CFr c outer →
    (∀ e h' tk', Fly (c.env :: outer) cls s.heap h' e → E (.ref e) { s with heap := h', toks := tk' }) → wpAny (model c.G.prog c.G.w) c.A (execs ss c.env) R E s
theorem WE.ret {e : Expr} {cls : Value} {p : Pos} {rest : List Stmt} (h : EVX c σ e cls) : WE c σ (.Return (some e) p :: rest) cls :=
  ⟨fun s X vs _ _ outer I F q => wpAny_execs_cons (wpAny_Return_some (h.run s X vs _ _ outer I F q))⟩
theorem WE.assign {x : Str} {e : Expr} {cls : Value} {p p' : Pos} {rest : List Stmt} (hc : noComp e = true) (h : EVX c σ e cls) : WE c σ (.Assign [.Name x p'] e p :: rest) cls :=
  ⟨fun s X vs _ _ outer I F q => wpAny_execs_cons (wpAny_Assign_Name (h.run s X vs _ _ outer I F q) (swaps_of hc))⟩
theorem swapsN_of {e : Expr} {l : Nat} {env : Env} (h : noComp e = true) : swapsWith e none l env = pure false := by
  cases e <;> first | rfl | cases h
theorem WE.expr {e : Expr} {cls : Value} {p : Pos} {rest : List Stmt} (hc : noComp e = true) (h : EVX c σ e cls) : WE c σ (.Expr e p :: rest) cls :=
  ⟨fun s X vs _ _ outer I F q => wpAny_execs_cons (wpAny_Expr (h.run s X vs _ _ outer I F q) (notInteractive I) (swapsN_of hc))⟩

/-- caught by the name of its own class -/
theorem wp_catch {outer : List Env} {X : AS} {s : Shared} {vs : Nat → Option Value} {h1 : Heap} {e C : Addr} {tk : Nat} {x : Str} {np pos : Pos} {b₀ : Stmt} {suite : List Stmt} {rest : List ExceptHandler} {Q : Flow → Shared → Prop} {E : Value → Shared → Prop}
    (F : CFr c outer) (I : Inv c X s.heap vs σ) (O : OwnX c.G x C) (hx : c.kinds.lookup x = some .globalImplicit) (hd : (x == ("__debug__" : Str)) = false) (fl : Fly (c.env :: outer) (.ref C) s.heap h1 e)
    (k : ∀ h' E', (∀ b o, ¬ isFrame (c.env :: outer) b → s.heap.get? b = some o → h'.get? b = some o) → s.heap.UpToSlots h' → wpAny (model c.G.prog c.G.w) (c.A.mark (some (.ref e))) (execs (b₀ :: suite) c.env) Q E' { s with heap := h', toks := tk }) :
    wpAny (model c.G.prog c.G.w) c.A (noteFrame (.ref e) c.env) (fun _ s₂ => wpAny (model c.G.prog c.G.w) c.A (setFlight (.ref e) none) (fun _ s₃ =>
      wpAny (model c.G.prog c.G.w) c.A (handleBy (.ref e) c.env (.ExceptHandler (some (.Name x np)) none (b₀ :: suite) pos :: rest)) Q E s₃) E s₂) E { s with heap := h1, toks := tk } := by
  obtain ⟨⟨base, a0, f1, f2⟩, u⟩ := fl
  refine wpAny_looks_onW F.frames F.frame f1 fun h₄ hheld₄ hsm₄ => ?_
  refine wpAny_landsW hheld₄ fun h₅ hheld hsm₅ => ?_
  obtain ⟨ob, hob, hobc⟩ := hheld.there
  have up₅ : s.heap.UpToSlots h₅ := (u.trans hsm₄).trans hsm₅
  have hg : h₅.Ns mainGlobals c.G.mg := up₅.ns ((I.ok.g.g.keeps I.ok.keepB).keeps I.keep)
  refine wpAny_handleBy_cons (codeAny_handlers_test (Name_function_global I.ok.kind ((I.ok.kinds x).trans hx) (loadGlobal_global (env := c.env) (by rw [I.ok.glob]; exact hg) O.bound ?_) hd)) (by intro q; cases q)
  have O' := (O.keeps I.ok.keepB).keeps I.keep
  obtain ⟨bm, N, nm, qn, bs, hdct, sn, sub, ab, col, dd, k0, k1, k2, k3, k5, mN, hC, hN, hni, TL⟩ := O'.obj
  have hCb : base.get? C = some (excClassObj nm qn C N bs bm hdct sn sub ab col dd k0 k1 k2 k3 k5 "Exception.__new__") := by
    refine f2 C _ (fun hf => ?_) hC
    obtain ⟨e', he', hf⟩ := hf
    rcases List.mem_cons.mp he' with rfl | he'
    · rw [F.frame] at hf; cases hf
      obtain ⟨m, ⟨o, es, ep, e1, e2, _⟩, _⟩ := I.loc
      rw [hC] at e1; cases e1; cases e2
    · obtain ⟨_, L, o, e1, e2, es, ep, e3⟩ := frsIn_of F I e' (.tail _ he')
      rw [hf] at e1; cases e1
      rw [hC] at e2; cases e2; cases e3
  have hC5 := hheld.1 _ _ hCb
  refine wpAny_excMatches_sub_self hC5 hob hobc (TL.hasType (by decide)) (codeAny_handlers_suite ?_)
  refine PyProof.Rows.lands_againW hheld fun h₆ hfl₆ hsm₆ => ?_
  exact k h₆ _ (fun b o n w => hfl₆.1 b o (f2 b o n w)) (up₅.trans hsm₆)
/-- the frame's slots change -/
theorem Inv.slots {X : AS} {h h' : Heap} {vs : Nat → Option Value} (I : Inv c X h vs σ) (hk : ∀ b o, b ≠ c.env.locals → h.get? b = some o → h'.get? b = some o) (u : h.UpToSlots h') : Inv c X h' vs σ := by
  obtain ⟨m, hns, hm⟩ := I.loc
  have hL : Mut c vs σ c.env.locals := .inl rfl
  have kn : ∀ b o, h.get? b = some o → ¬ Off c X vs σ b ∨ ¬ NT o → h'.get? b = some o := fun b o e q => hk b o (fun w => by
    subst w
    rcases q with q | q
    · exact q (.inr hL)
    · obtain ⟨o', e', nt⟩ := I.alive _ (.inr hL)
      rw [e] at e'; cases e'; exact q nt) e
  refine ⟨I.ok, fun b o e => hk b o (fun w => ?_) (I.keep b o e), ⟨m, u.ns hns, hm⟩, ?_, ?_, I.own1, I.ownC, I.sep, ?_, I.base⟩
  · subst w; rw [(I.sep _ hL).2] at e; cases e
  · intro i x e1 e2
    obtain ⟨a, e3, o, e4, e5⟩ := I.cel i x e1 e2
    exact ⟨a, e3, o, hk a o (I.ok.cellL x a e3) e4, e5⟩
  · intro i sl e
    exact (I.slot i sl e).kept kn fun e1 a e2 o e3 => hk a o (I.ownC i a ⟨⟨sl, e, e1⟩, e2⟩).1 e3
  · intro a k
    by_cases w : a = c.env.locals
    · subst w; exact ns_nt (u.ns hns)
    · obtain ⟨o, e, nt⟩ := I.alive a k
      exact ⟨o, hk a o w e, nt⟩
theorem frame_one (F : CFr c []) {b : Addr} (hb : b ≠ c.env.locals) : ¬ isFrame [c.env] b := by
  rintro ⟨e', he, hf⟩
  cases List.mem_singleton.mp he
  rw [F.frame] at hf; cases hf; exact hb rfl

/-- if CALL != r, the call being one that catches -/
theorem WP.iteF {x : Str} {p pos ip cp : Pos} {f : Addr} {e r : Expr} {es : List Expr} {ds : List D} {d dr : D} {n : Nat} {body orelse rest : List Stmt} {Q : Out → Prop} (F : CFr c []) (hk : c.kinds.lookup x = some .globalImplicit) (hd : (x == ("__debug__" : Str)) = false) (hf : IsFn c.G x f) (hs : EVs c σ (e :: es) ds) (hn : noStar e = true)
    (h : FnSpecF c.G f ds d n) (hr : n ≤ c.room) (he : EV c σ r dr) (hne : noSet r = true) (s1 : SeqAt.shaped d = true) (s2 : SeqAt.shaped dr = true)
    (h1 : (!PyData.eqv d dr) = true → WP c σ body (seqQ c rest Q)) (h2 : (!PyData.eqv d dr) = false → WP c σ orelse (seqQ c rest Q)) : WP c σ (.If (.Compare (.Call (.Name x p) (e :: es) [] pos) [.NotEq] [r] cp) body orelse ip :: rest) Q := by
  refine WP.cons ?_
  constructor; intro s X vs R E I k
  refine wpAny_If (wpAny_isTrue_Compare1 (wpAny_Call_NameR (Name_function_global I.ok.kind ((I.ok.kinds x).trans hk) (loadGlobal_global (env := c.env) ?_ hf.glob ?_) hd)) (marks_of hne))
  · rw [I.ok.glob]; exact (I.ok.g.g.keeps I.ok.keepB).keeps I.keep
  obtain ⟨o, fd, ho, hfd⟩ := hf.fn
  refine callWith_function (o := o) (fd := fd) (wp_args hn (hs.run s X vs _ _ pos I fun us h1' t1 k1 r1 => ⟨⟨?_, hfd⟩, ?_⟩))
  · exact k1 _ _ (I.keep _ _ (I.ok.keepB _ _ ho))
  have I1 := I.grow k1
  refine (h.mono hr) c.A _ (Off c X vs σ) us _ _ _ F.frames (frsIn_of F I1) (I.ok.keepB.trans I1.keep) I.ok.hh I.ok.depth I.ok.units I1.alive (off_base I1) r1 fun v h2' t2 k2 u2 rv => ?_
  obtain ⟨_, _, rv⟩ := rv
  have kk : ∀ b o, b ≠ c.env.locals → h1'.get? b = some o → h2'.get? b = some o := fun b o nb w => k2 b o (frame_one F nb) w
  have I2 := I1.slots kk u2
  refine he.run _ X vs _ _ I2 fun v' h3 t3 k3 r3 => ?_
  obtain ⟨_, ru, _⟩ := (rv (Off c X vs σ)).keep k3; obtain ⟨_, rv', _⟩ := r3
  refine SeqAt.compareNe_shaped ru rv' s1 s2 (units_ok I) (wpAny_truthy_bool ?_)
  have I3 := I2.grow k3
  have tr : ∀ {out : Out} {fl : Flow} {h4 : Heap}, OutOk c X h3 vs σ h4 out fl → OutOk c X s.heap vs σ h4 out fl := fun r => r.trans (fun b o nb w => k3 b o (kk b o (fun w' => nb (.inl w')) (k1 b o w))) fun _ m => .inl m
  cases hb : !PyData.eqv d dr with
  | true => exact (h1 hb).run _ X vs _ _ I3 fun out f h' tk' q r => k out f h' tk' q (tr r)
  | false => exact (h2 hb).run _ X vs _ _ I3 fun out f h' tk' q r => k out f h' tk' q (tr r)

/-- a try whose body raises nothing -/
theorem WP.tryOk {body rest : List Stmt} {h₀ : ExceptHandler} {hs : List ExceptHandler} {p : Pos} {Q : Out → Prop} (h : WP c σ body (seqQ c rest Q)) : WP c σ (.Try body (h₀ :: hs) [] [] p :: rest) Q := by
  refine WP.cons ?_
  constructor; intro s X vs R E I k
  refine wpAny_Try_except (h.run s X vs _ _ I fun out f h' tk' q r => ?_)
  cases out with
  | next σ' => obtain ⟨rfl, _⟩ := id r; exact wpAny_execs_nil (k _ _ _ _ q r)
  | cont σ' => obtain ⟨rfl, _⟩ := id r; exact k _ _ _ _ q r
  | brk σ' => obtain ⟨rfl, _⟩ := id r; exact k _ _ _ _ q r
  | ret d => obtain ⟨v, rfl, _⟩ := id r; exact k _ _ _ _ q r

/-- a try whose body raises, the handler sets a name -/
theorem WP.trySet {body rest : List Stmt} {hs : List ExceptHandler} {p np hp ap ap' kp : Pos} {kn : Nat} {x y : Str} {C : Addr} {b : Bool} {i : Nat} {Q : Out → Prop} (F : CFr c []) (O : OwnX c.G x C) (hx : c.kinds.lookup x = some .globalImplicit) (hd : (x == ("__debug__" : Str)) = false)
    (hb : WE c σ body (.ref C)) (hi : slotOf c.names y = some i) (hk : isVar c y = true) (hl : c.kinds.lookup y = some .local) (h : WP c (σ.set i (.val (.bool b))) rest Q) :
    WP c σ (.Try body (.ExceptHandler (some (.Name x np)) none [.Assign [.Name y ap'] (.Constant (.bool b) kn kp) ap] hp :: hs) [] [] p :: rest) Q := by
  refine WP.cons ?_
  constructor; intro s X vs R E I k
  refine wpAny_Try_except (hb.run s X vs _ _ [] I F fun e h1 tk fl => ?_)
  refine wp_catch F I O hx hd fl fun h2 E' k2 u2 => ?_
  have kk : ∀ b o, b ≠ c.env.locals → s.heap.get? b = some o → h2.get? b = some o := fun b o nb w => k2 b o (frame_one F nb) w
  have I2 := I.slots kk u2
  obtain ⟨m, hns, hm⟩ := I2.loc
  refine wpAny_execs_cons (wpAny_Assign_Name (wpAny_Constant_bool (wpAny_storeName_local ((I.ok.kinds y).trans hl) hns (fun h3 hn3 hs3 => wpAny_execs_nil ?_) (by rw [I.ok.kind]; rfl))) rfl)
  have S : StoreRel c y (.bool b) h2 h3 := .loc ((I.ok.kinds y).trans hl) hs3 ⟨m, hns, hn3⟩
  refine k (.next (σ.set i (.val (.bool b)))) _ _ _ h ⟨rfl, fun b' o n q => S.keeps b' o n (kk b' o (fun w => n (.inl w)) q), upd vs i (.bool b), ?_, fun a mm => ?_⟩
  · exact I2.put S (slotOf_get hi) (fun _ x => x) (fun e => by exact False.elim e) fun _ => ⟨_, rfl, Rep.bool⟩
  · exact mut_put (fun e => by exact False.elim e) mm
end

/-- def g(..): try: .. f(..) .. except X: return 'lit' -/
theorem Def.catch {G : GX} {p : Program} {k : Nat} {g : Str} {ga : Addr} {params more : List Str} {args : List D} {n : Nat} {body rest : List Stmt} {x lit : Str} {C : Addr} {np hp rp kp tp : Pos} {kn : Nat} {hs : List ExceptHandler} (d : Def G p k g ga params) (hG : G.Ok) (hlen : args.length = params.length)
    (hbody : bodyAt p k = .Try body (.ExceptHandler (some (.Name x np)) none [.Return (some (.Constant (.str lit) kn kp)) rp] hp :: hs) [] [] tp :: rest) (O : OwnX G x C) (hx : (kindsAt p k).lookup x = some .globalImplicit) (hd : (x == ("__debug__" : Str)) = false)
    (h : ∀ (A : Around) (env : Env) (h0 : Heap), WE ⟨G, A, env, h0, params ++ more, kindsAt p k, n⟩ (args.map Slot.val ++ more.map fun _ => .un) body (.ref C))
    (hnd : (params ++ more).Nodup := by decide) (hkind : (params ++ more).all (fun x => (kindsAt p k).lookup x == some .local || (kindsAt p k).lookup x == some .cell) = true := by rfl) : FnSpecF G ga args (.str lit) (n + 1) := by
  obtain ⟨fd, h1, h2, h3, h4⟩ := d.fd
  intro A s X us R E outer hfr hF kb hh hd' hu al ab ru q
  refine enter hG h1 h2 h3 h4 hnd hkind hlen kb hh hd' hu al ab ru fun env vs h₁ tk I kk ef nm => ?_
  have F : CFr ⟨G, A.deeper env, env, s.heap, params ++ more, kindsAt p k, n⟩ outer := ⟨Around.frames_deeper hfr, ef, hF⟩
  rw [hbody]
  refine wpAny_execs_cons (wpAny_Try_except ((h (A.deeper env) env s.heap).run _ X vs _ _ outer I F fun e h1 tk' fl => ?_))
  refine wp_catch F I O hx hd fl fun h2 E' k2 u2 => ?_
  refine wpAny_execs_cons (wpAny_Return_some (wpAny_Constant_str ?_))
  refine q _ h2 _ (fun b o nb w => k2 b o ?_ (kk b o w)) ((Heap.UpToSlots.of_keeps kk).trans u2) ⟨_, rfl, fun Y => Rep.str⟩
  rintro ⟨e', he, hf⟩
  rcases List.mem_cons.mp he with rfl | he
  · have ef' : e'.frame = some e'.locals := ef
    rw [show (Cx.env ⟨G, A.deeper e', e', s.heap, params ++ more, kindsAt p k, n⟩).frame = some e'.locals from ef'] at hf
    cases hf
    have := nm _ (.inl rfl)
    rw [show s.heap.get? e'.locals = none from this] at w; cases w
  · exact nb ⟨e', he, hf⟩
end Mine
end
section
namespace Mine
open PySem PySem.Calls

section
variable {c : Cx} {σ : List Slot}
theorem TS.isNot {l r : Expr} {p : Pos} {a b : Bool} (hl : EV c σ l (.bool a)) (hr : EV c σ r (.bool b)) (hn : noSet r = true) : TS c σ (.Compare l [.IsNot] [r] p) (a != b) :=
  TS.cmp hl hr hn fun s X vs u v R E I ru rv q => by
    cases ru.bool_inv; cases rv.bool_inv
    exact PyProof.Rows.isnot_bool q

theorem TS.or3 {e e' e'' : Expr} {p : Pos} {b b' b'' : Bool} (h : TS c σ e b) (h' : b = false → TS c σ e' b') (h'' : b = false → b' = false → TS c σ e'' b'') : TS c σ (.BoolOp .Or [e, e', e''] p) (b || b' || b'') := by
  constructor; intro s X vs R E I q
  refine wpAny_isTrue_BoolOp (wpAny_allTrue_Or_cons (h.run s X vs _ _ I fun h1 t1 k1 => ?_))
  cases b with
  | true => exact q _ _ k1
  | false =>
    refine wpAny_allTrue_Or_cons ((h' rfl).run _ X vs _ _ (I.grow k1) fun h2 t2 k2 => ?_)
    cases b' with
    | true => exact q _ _ (k1.trans k2)
    | false =>
      refine wpAny_allTrue_Or_cons ((h'' rfl rfl).run _ X vs _ _ ((I.grow k1).grow k2) fun h3 t3 k3 => ?_)
      cases b'' with
      | true => exact q _ _ (k1.trans (k2.trans k3))
      | false => exact wpAny_allTrue_Or_nil (q _ _ (k1.trans (k2.trans k3)))
theorem foldl_rep {α : Type} (items : Array α) : ∀ (n : Nat) (acc : Array α), (List.foldl (fun x y => x ++ y) acc (List.replicate n items)).toList = acc.toList ++ (List.replicate n items.toList).flatten
  | 0, acc => by simp
  | n + 1, acc => by
    rw [List.replicate_succ, List.foldl_cons, foldl_rep items n]
    simp [List.replicate_succ]
theorem RepAll.times {h : Heap} {Y : AS} {us : List Value} {ds : List D} (r : RepAll h Y us ds) : ∀ n : Nat, RepAll h Y (List.replicate n us).flatten (List.replicate n ds).flatten
  | 0 => by simpa using RepAll.nil
  | n + 1 => by
    rw [List.replicate_succ, List.replicate_succ, List.flatten_cons, List.flatten_cons]
    exact r.append (r.times n)
/-- a list over and over -/
theorem EVF.mul {l r : Expr} {p : Pos} {xs : List D} {n : Int} (hl : EVo c σ l xs) (hr : EV c σ r (.int n)) (h0 : 0 < n) (hz : xs.length * n.toNat ≤ 2 ^ 20) (hz' : n < 2 ^ 20) : EVF c σ (.BinOp l .Mult r p) (List.replicate n.toNat xs).flatten := by
  constructor; intro s X vs R E I q
  refine wpAny_BinOp (hl.run s X vs _ _ I fun a items h1 t1 k1 hx ri => hr.run _ X vs _ _ (I.grow k1) fun v h2 t2 k2 r2 => ?_)
  obtain ⟨u, rfl⟩ := r2.int_inv
  obtain ⟨k, hx⟩ := hx
  have hl2 := k2 _ _ hx
  have e1 : items.size = xs.length := by rw [← ri.length]; simp
  have hz2 : items.size * n.toNat ≤ 2 ^ 20 := by rw [e1]; exact hz
  refine wpAny_binaryOp_repeat_ref (T := "list") (U := "int") (by decide) ⟨_, hl2, rfl⟩ (fun s' => typeIs_int s' n u) noFill_list_mul F.fills_int_mul F.slot_int_rmul repeat_list F.slot_int_index.lookup
    (call_meets F.slot_int_rmul (typeIs_int _ n u) F.entry_int_rmul (F.args_int_rmul_2 _ _) (int___rmul___int_list n u a items k)
      ⟨hl2, rfl, ⟨_, hl2, rfl⟩, call_meets F.slot_list_mul ⟨_, hl2, rfl⟩ F.entry_list_mul (F.args_list_mul_2 _ _)
        (AutoListH.list___mul___list_int_3 a items k n u (by simp [Builtin.List.listFitsIndex]; omega) (by omega) (by simp [Builtin.List.listTooLong, sizeLine]; omega))
        ⟨hl2, ?_⟩⟩)
  have := newF (s₀ := s) q (k1.trans k2) (t1 := t2) ((ri.keep k2).times n.toNat)
  have e2 : (List.replicate n.toNat items.toList).flatten.toArray = List.foldl (fun x1 x2 => x1 ++ x2) #[] (List.replicate (if items.isEmpty = true then 0 else n.toNat) items) := by
    apply Array.toList_inj.mp
    rw [foldl_rep]
    split
    · rename_i he
      have : items.toList = [] := by simpa using he
      simp [this]
    · simp
  rw [e2] at this
  exact this
end

/-- a law: its own frame is the only one -/
def FnSpec0 (G : GX) (f : Addr) (args : List D) (P : D → Prop) (n : Nat) : Prop :=
  ∀ (A : Around) (s : Shared) (X : AS) (us : List Value) (R : Value → Shared → Prop) (E : Value → Shared → Prop), A.frames = some [] → Keep G.hb s.heap → A.handled = none → A.depth + n < recursionLimit → A.units + 8 * n + 100 < cLine →
    (∀ a, X a → ∃ o, s.heap.get? a = some o ∧ NT o) → (∀ a, X a → G.hb.get? a = none) → RepAll s.heap X us args →
    (∀ v r h' tk', P r → Keep s.heap h' → Rep h' X v r → R v { s with heap := h', toks := tk' }) → wpAny (model G.prog G.w) A (call (.ref f) us) R E s
theorem Def.spec0 {G : GX} {p : Program} {k : Nat} {x : Str} {f : Addr} {params more : List Str} {args : List D} {P : D → Prop} {n : Nat} (d : Def G p k x f params) (hG : G.Ok) (hlen : args.length = params.length)
    (h : ∀ (A : Around) (env : Env) (h0 : Heap), CFr ⟨G, A, env, h0, params ++ more, kindsAt p k, n⟩ [] → WP ⟨G, A, env, h0, params ++ more, kindsAt p k, n⟩ (args.map Slot.val ++ more.map fun _ => .un) (bodyAt p k) (fun o => ∃ d, o = .ret d ∧ P d))
    (hnd : (params ++ more).Nodup := by decide) (hkind : (params ++ more).all (fun x => (kindsAt p k).lookup x == some .local || (kindsAt p k).lookup x == some .cell) = true := by rfl) : FnSpec0 G f args P (n + 1) := by
  obtain ⟨fd, h1, h2, h3, h4⟩ := d.fd
  intro A s X us R E hfr kb hh hd hu al ab ru q
  refine enter hG h1 h2 h3 h4 hnd hkind hlen kb hh hd hu al ab ru fun env vs h₁ tk I kk ef nm => ?_
  refine (h (A.deeper env) env s.heap ⟨Around.frames_deeper hfr, ef, fun _ m => nomatch m⟩).run _ X vs _ _ I fun out fl h' tk' ho r => ?_
  obtain ⟨d, rfl, hp⟩ := ho
  obtain ⟨v, rfl, k2, r2⟩ := r
  refine q v d h' tk' hp (fun b o e => ?_) r2
  refine k2 b o (fun m => ?_) (kk b o e)
  rw [nm b m] at e; cases e
open PySem.W in
theorem claim_end0 {l : OpenLaw} {w : World} {P : Params} {s₀ s₁ : Shared} {mg mb : Str → Option Value} {f a : Addr} {ns : List Int} {args : List WData} (hg : s₁.gens = #[])
    (hw : Well P s₁.heap (.ref a) (ofPy (.list (ns.map PyData.int)))) (h : FnSpec0 ⟨l.row.prog, w, s₁.heap, mg, mb⟩ f [LI ns] (· = .bool true) 20) :
    wpAny (model l.row.prog w) callerA ((fun f vs => call f vs) (Value.ref f) [Value.ref a])
      (fun v s' => GoodWG l.row.claim (classAt s₀.heap) (ExcName.means s₀.heap) args s₁ (Except.ok (Flow.ret v)) s')
      (fun e s' => GoodWG l.row.claim (classAt s₀.heap) (ExcName.means s₀.heap) args s₁ (Except.error e) s') s₁ := by
  refine h callerA s₁ (fun _ => False) _ _ _ rfl (Keep.refl _) rfl ?_ ?_ (fun _ x => x.elim) (fun _ x => x.elim) (RepAll.cons (well_ints (fun x => x) hw) RepAll.nil) fun v r' h' tk' e k r => ?_
  · decide
  · decide
  · subst e
    cases r.bool_inv
    refine GoodW.toG ⟨.inl ⟨_, .bool true, [], rfl, fun _ => rfl, .bool true, ?_, fun _ => ⟨.nil, fun _ m => nomatch m⟩⟩, k, rfl, hg⟩
    refine postW_of (r := l.row.toRowW) (X := (true == true)) (by simp [OpenLaw.row, WShape.has, WShape.arms]) ?_ rfl
    exact w_eq_bool (a := .res) (b := .lit (.bool true)) (w_res rfl) w_lit
theorem FnSpec0.mono {G : GX} {f : Addr} {args : List D} {P : D → Prop} {n m : Nat} (h : FnSpec0 G f args P n) (hm : n ≤ m) : FnSpec0 G f args P m :=
  fun A s X us R E k0 k h1 h2 h3 a b ru q => h A s X us R E k0 k h1 (by omega) (by omega) a b ru q
end Mine
end
section
namespace Mine
open PySem PySem.Calls

/-- the pairs of a dict, values as they stand -/
inductive VP : List (Int × Value) → List (Int × Int) → Prop
  | nil : VP [] []
  | cons {k v : Int} {u : Tok} {vs : List (Int × Value)} {kvs : List (Int × Int)} : VP vs kvs → VP ((k, .int v u) :: vs) ((k, v) :: kvs)
theorem VP.keys : ∀ {vs : List (Int × Value)} {kvs : List (Int × Int)}, VP vs kvs → vs.map (·.1) = kvs.map (·.1)
  | _, _, .nil => rfl
  | _, _, .cons h => by simp [h.keys]
theorem VP.length {vs : List (Int × Value)} {kvs : List (Int × Int)} (h : VP vs kvs) : vs.length = kvs.length := by
  have := congrArg List.length h.keys
  simpa using this
def look (kvs : List (Int × Int)) (k : Int) : Option Int := (kvs.find? fun kv => decide (kv.1 = k)).map (·.2)
theorem VP.find {k : Int} : ∀ {vs : List (Int × Value)} {kvs : List (Int × Int)}, VP vs kvs → (look kvs k = none ∧ valueAt vs k = none) ∨ ∃ v u, look kvs k = some v ∧ valueAt vs k = some (.int v u)
  | _, _, .nil => .inl ⟨rfl, rfl⟩
  | _, _, .cons (k := k') (v := v) (u := u) h => by
    by_cases q : k' = k
    · right
      exact ⟨v, u, by simp [look, q], by simp [valueAt, q]⟩
    · rcases h.find (k := k) with ⟨h1, h2⟩ | ⟨w, x, h1, h2⟩
      · left
        refine ⟨?_, ?_⟩
        · simpa [look, q] using h1
        · simpa [valueAt, q] using h2
      · right
        refine ⟨w, x, ?_, ?_⟩
        · simpa [look, q] using h1
        · simpa [valueAt, q] using h2
def storeI (kvs : List (Int × Int)) (k v : Int) : List (Int × Int) := if kvs.any (fun kv => decide (kv.1 = k)) then kvs.map (fun kv => if kv.1 = k then (kv.1, v) else kv) else kvs ++ [(k, v)]
theorem VP.any {k : Int} : ∀ {vs : List (Int × Value)} {kvs : List (Int × Int)}, VP vs kvs → (vs.any fun kv => decide (kv.1 = k)) = kvs.any fun kv => decide (kv.1 = k)
  | _, _, .nil => rfl
  | _, _, .cons h => by simp [h.any]
theorem VP.map {k v : Int} {u : Tok} : ∀ {vs : List (Int × Value)} {kvs : List (Int × Int)}, VP vs kvs → VP (vs.map fun kv => if kv.1 = k then (kv.1, .int v u) else kv) (kvs.map fun kv => if kv.1 = k then (kv.1, v) else kv)
  | _, _, .nil => .nil
  | _, _, .cons (k := k') h => by
    by_cases q : k' = k
    · simp only [List.map_cons, q, if_true]; exact .cons h.map
    · simp only [List.map_cons, q, if_false]; exact .cons h.map
theorem VP.snoc {k v : Int} {u : Tok} : ∀ {vs : List (Int × Value)} {kvs : List (Int × Int)}, VP vs kvs → VP (vs ++ [(k, .int v u)]) (kvs ++ [(k, v)])
  | _, _, .nil => .cons .nil
  | _, _, .cons h => .cons h.snoc
theorem VP.store {k v : Int} {u : Tok} {vs : List (Int × Value)} {kvs : List (Int × Int)} (h : VP vs kvs) : VP (stored vs k (.int v u)) (storeI kvs k v) := by
  unfold stored storeI
  rw [h.any]
  split
  · exact h.map
  · exact h.snoc
theorem pairs_of {prog : Program} {w : World} : ∀ {es : List DictEntry} {kvs : List (Int × Int)}, EPairs es kvs → ∃ vs, Pairs (intKind prog w) es vs ∧ VP vs kvs ∧ ∀ e ∈ es, ∃ k, (intKind prog w).is k e.key = true ∧ e.hash = (intKind prog w).hash k
  | _, _, .nil => ⟨[], .nil, .nil, fun _ h => nomatch h⟩
  | _, _, .cons (k := k) (v := v) (u := u) h => by
    obtain ⟨vs, h1, h2, h3⟩ := pairs_of (prog := prog) (w := w) h
    refine ⟨(k, .int v u) :: vs, .cons ?_ rfl h1, .cons h2, fun e he => ?_⟩
    · simp [intKind, Value.isInt]
    · rcases List.mem_cons.mp he with rfl | he
      · exact ⟨k, by simp [intKind, Value.isInt], rfl⟩
      · exact h3 e he
theorem epairs_of {prog : Program} {w : World} : ∀ {es : List DictEntry} {vs : List (Int × Value)} {kvs : List (Int × Int)}, Pairs (intKind prog w) es vs → VP vs kvs → (∀ e ∈ es, ∃ k, (intKind prog w).is k e.key = true ∧ e.hash = (intKind prog w).hash k) → EPairs es kvs
  | _, _, _, .nil, .nil, _ => .nil
  | _, _, _, .cons (e := e) hk hv hp, .cons h, hh => by
    obtain ⟨hash, key, val⟩ := e
    obtain ⟨k', hk', hh'⟩ := hh _ (.head _)
    have hk1 : Value.isInt _ key = true := hk
    have hk2 : Value.isInt k' key = true := hk'
    have e1 := Value.isInt_inj key _ _ hk1 hk2
    obtain ⟨t, rfl⟩ := Value.isInt_shape hk1
    cases hv
    have hh2 : hash = hashInt k' := hh'
    rw [hh2, ← e1]
    exact .cons (epairs_of hp h fun e he => hh e (.tail _ he))
theorem dictOf {prog : Program} {w : World} {h : Heap} {a : Addr} {es : Array DictEntry} {kvs : List (Int × Int)} (hx : IsDx h a es) (p : EPairs es.toList kvs) (nd : (kvs.map (·.1)).Nodup) : ∃ vs, h.DictOf (intKind prog w) a vs ∧ VP vs kvs := by
  obtain ⟨vs, h1, h2, h3⟩ := pairs_of (prog := prog) (w := w) p
  obtain ⟨n, e⟩ := hx
  exact ⟨vs, ⟨_, es, n, e, ⟨rfl, rfl, rfl⟩, rfl, fun e he => h3 e (by simpa using he), h1, by rw [h2.keys]; exact nd⟩, h2⟩
theorem ofDict {prog : Program} {w : World} {h : Heap} {a : Addr} {vs : List (Int × Value)} {kvs : List (Int × Int)} (d : h.DictOf (intKind prog w) a vs) (v : VP vs kvs) : ∃ es, IsDx h a es ∧ EPairs es.toList kvs ∧ (kvs.map (·.1)).Nodup := by
  obtain ⟨o, es, ep, e1, ⟨c1, c2, c3⟩, e2, e3, e4, e5⟩ := d
  obtain ⟨cl, di, da, sl⟩ := o
  simp only at c1 c2 c3 e2
  subst c1 c2 c3 e2
  exact ⟨es, ⟨ep, e1⟩, epairs_of e4 v fun e he => e3 e (by simpa using he), by rw [← v.keys]; exact e5⟩

abbrev DI (kvs : List (Int × Int)) : D := .dict (kvs.map fun kv => (.int kv.1, .int kv.2))
end Mine
end
section
namespace Mine
open PySem PySem.Calls

theorem readsKeys {h : Heap} : ∀ {es : List DictEntry} {kvs : List (Int × Int)}, EPairs es kvs → ReadsAll h (es.map (·.key)) ((kvs.map fun kv => ((PyData.int kv.1, PyData.int kv.2) : D × D)).map (·.1)) [] ∧ ReadsAll h (es.map (·.val)) ((kvs.map fun kv => ((PyData.int kv.1, PyData.int kv.2) : D × D)).map (·.2)) []
  | _, _, .nil => ⟨.nil, .nil⟩
  | _, _, .cons h => ⟨.cons (.int _ _) (readsKeys h).1, .cons (.int _ _) (readsKeys h).2⟩
theorem readsKeys_inv {h : Heap} : ∀ {es : List DictEntry} {kvs kv2 : List (Int × Int)} {as bs : List Addr}, EPairs es kvs → ReadsAll h (es.map (·.key)) ((kv2.map fun kv => ((PyData.int kv.1, PyData.int kv.2) : D × D)).map (·.1)) as → ReadsAll h (es.map (·.val)) ((kv2.map fun kv => ((PyData.int kv.1, PyData.int kv.2) : D × D)).map (·.2)) bs → kvs = kv2
  | _, _, [], _, _, .nil, _, _ => rfl
  | _, _, (k, v) :: r, _, _, .nil, h1, _ => by cases h1
  | _, _, [], _, _, .cons _, h1, _ => by cases h1
  | _, _, (k, v) :: r, _, _, .cons h, h1, h2 => by
    cases h1 with
    | cons a1 a2 =>
      cases h2 with
      | cons b1 b2 =>
        cases a1; cases b1
        rw [readsKeys_inv h a2 b2]
theorem Rep.dict {h : Heap} {Y : AS} {a : Addr} {es : Array DictEntry} {kvs : List (Int × Int)} (hx : IsDx h a es) (p : EPairs es.toList kvs) (nd : (kvs.map (·.1)).Nodup) (hs : a ≠ sysModules) (ha : ¬ Y a) : Rep h Y (.ref a) (DI kvs) := by
  obtain ⟨n, e⟩ := hx
  refine ⟨a :: [] ++ [], .dict e rfl rfl (readsKeys p).1 (readsKeys p).2, fun b m => ?_⟩
  simp at m; subst m
  exact ⟨ha, _, e, rfl, rfl, fun es' n' q => by cases q; exact ⟨hs, kvs, p, nd⟩⟩
theorem Rep.dict_inv {h : Heap} {Y : AS} {v : Value} {kvs : List (Int × Int)} (r : Rep h Y v (DI kvs)) : ∃ a es, v = .ref a ∧ IsDx h a es ∧ EPairs es.toList kvs ∧ (kvs.map (·.1)).Nodup ∧ a ≠ sysModules ∧ ¬ Y a := by
  obtain ⟨as, r, p⟩ := r
  cases r with
  | dict h1 h2 h3 h4 h5 =>
    rename_i a o es n as bs
    have pa := p a (.head _)
    obtain ⟨o', e, q1, q2, q3⟩ := pa.2
    rw [h1] at e; cases e
    obtain ⟨hs, kv, e1, e2⟩ := q3 es n h3
    have := readsKeys_inv e1 h4 h5
    subst this
    obtain ⟨c, d, da, sl⟩ := o
    simp only at h2 h3 q1 q2
    subst h2 h3 q1 q2
    exact ⟨a, es, rfl, ⟨n, h1⟩, e1, e2, hs, pa.1⟩

section
variable {c : Cx} {σ : List Slot}

/-- an owned object changes -/
theorem Inv.pokeG {X : AS} {h h' : Heap} {vs : Nat → Option Value} {i : Nat} {sl sl' : Slot} {a : Addr} (I : Inv c X h vs σ) (hi : σ[i]? = some sl) (os : sl.isOwn) (os' : sl'.isOwn) (hv : vs i = some (.ref a))
    (hs : Heap.SameBut a h h') (hal : ∃ o, h'.get? a = some o ∧ NT o) (hok : (∀ b o, h.get? b = some o → ¬ Off c X vs σ b ∨ ¬ NT o → h'.get? b = some o) → SlotOk h' (Off c X vs σ) (vs i) sl') : Inv c X h' vs (σ.set i sl') ∧ (∀ b, Mut c vs (σ.set i sl') b ↔ Mut c vs σ b) := by
  have ho : ∀ j b, OwnAt vs (σ.set i sl') j b ↔ OwnAt vs σ j b := by
    intro j b
    by_cases q : j = i
    · subst q
      have hlt := (List.getElem?_eq_some_iff.mp hi).1
      constructor
      · rintro ⟨_, e⟩; exact ⟨⟨_, hi, os⟩, e⟩
      · rintro ⟨_, e⟩; exact ⟨⟨sl', by rw [List.getElem?_set]; simp [hlt], os'⟩, e⟩
    · constructor
      · rintro ⟨⟨ys, e, o⟩, e2⟩; rw [List.getElem?_set_ne (Ne.symm q)] at e; exact ⟨⟨ys, e, o⟩, e2⟩
      · rintro ⟨⟨ys, e, o⟩, e2⟩; exact ⟨⟨ys, by rw [List.getElem?_set_ne (Ne.symm q)]; exact e, o⟩, e2⟩
  have hm : ∀ b, Mut c vs (σ.set i sl') b ↔ Mut c vs σ b := by
    intro b
    constructor
    · rintro (k | k | ⟨j, k⟩)
      · exact .inl k
      · exact .inr (.inl k)
      · exact .inr (.inr ⟨j, (ho j b).mp k⟩)
    · rintro (k | k | ⟨j, k⟩)
      · exact .inl k
      · exact .inr (.inl k)
      · exact .inr (.inr ⟨j, (ho j b).mpr k⟩)
  have hoff : ∀ b, Off c X vs (σ.set i sl') b → Off c X vs σ b := fun b k => k.imp id (hm b).mp
  have own : OwnAt vs σ i a := ⟨⟨_, hi, os⟩, hv⟩
  have ma : Mut c vs σ a := .inr (.inr ⟨i, own⟩)
  have hk : ∀ b o, h.get? b = some o → b ≠ a → h'.get? b = some o := fun b o e n => (hs.2 b n).trans e
  have hkept : ∀ b o, h.get? b = some o → ¬ Off c X vs σ b ∨ ¬ NT o → h'.get? b = some o := fun b o e k => hk b o e fun q => by
    subst q
    rcases k with k | k
    · exact k (.inr ma)
    · obtain ⟨o', e', n⟩ := I.alive b (.inr ma)
      rw [e] at e'; cases e'; exact k n
  have weak : ∀ {ov : Option Value} {sl : Slot}, SlotOk h' (Off c X vs σ) ov sl → SlotOk h' (Off c X vs (σ.set i sl')) ov sl := by
    intro ov sl this
    cases sl with
    | un => trivial
    | val d => obtain ⟨v, e, r⟩ := this; exact ⟨v, e, r.weak fun b y => .inl (hoff b y)⟩
    | own ys => obtain ⟨b, items, e, l, r⟩ := this; exact ⟨b, items, e, l, r.weak fun b y => .inl (hoff b y)⟩
    | dic kv => exact this
  refine ⟨⟨I.ok, fun b o e => hk b o (I.keep b o e) fun q => ?_, ?_, ?_, ?_, fun j k b hj hk => I.own1 j k b ((ho j b).mp hj) ((ho k b).mp hk), fun j b hj => I.ownC j b ((ho j b).mp hj), fun b m => I.sep b ((hm b).mp m), ?_, I.base⟩, hm⟩
  · subst q; rw [(I.sep b ma).2] at e; cases e
  · obtain ⟨m, hn, hm⟩ := I.loc
    exact ⟨m, hn.sameBut hs (Ne.symm (I.ownC i a own).1), hm⟩
  · intro j y hj hy
    obtain ⟨b, e1, o, e2, e3⟩ := I.cel j y hj hy
    exact ⟨b, e1, o, hk b o e2 (fun q => (I.ownC i a own).2 y (q ▸ e1)), e3⟩
  · intro j sl e
    by_cases q : j = i
    · subst q
      rw [List.getElem?_set] at e
      simp only [if_true] at e
      split at e
      · cases e
        exact weak (hok hkept)
      · cases e
    · rw [List.getElem?_set_ne (Ne.symm q)] at e
      exact weak ((I.slot j sl e).kept hkept fun e1 b e2 o e3 => hk b o e3 fun w => by
        subst w; exact q (I.own1 j i b ⟨⟨sl, e, e1⟩, e2⟩ own))
  · intro b k
    by_cases q : b = a
    · subst q; exact hal
    · obtain ⟨o, e, n⟩ := I.alive b (hoff b k)
      exact ⟨o, hk b o e q, n⟩

theorem dx_nt {h : Heap} {a : Addr} {es : Array DictEntry} (l : IsDx h a es) : ∃ o, h.get? a = some o ∧ NT o := by
  obtain ⟨n, e⟩ := l
  exact ⟨_, e, fun q => absurd (show Value.type "dict" = Value.type "tuple" from q) (by decide)⟩
theorem size_sys {X : AS} {h : Heap} {vs : Nat → Option Value} (I : Inv c X h vs σ) : h.objs.size ≠ sysModules := by
  have hg := (I.ok.g.g.keeps I.ok.keepB).keeps I.keep
  obtain ⟨o, es, ep, e1, _⟩ := hg
  have := Heap.lt_size e1
  intro q
  rw [q] at this
  exact absurd this (by decide)

/-- t = {} -/
theorem WP.assignDict {x : Str} {p p' dp : Pos} {i : Nat} {rest : List Stmt} {Q : Out → Prop} (hi : slotOf c.names x = some i) (hk : isVar c x = true) (h : WP c (σ.set i (.dic [])) rest Q) : WP c σ (.Assign [.Name x p'] (.Dict [] [] dp) p :: rest) Q := by
  refine WP.cons ?_
  constructor; intro s X vs R E I k
  refine wpAny_Assign_Name (wpAny_Dict_empty ?_) rfl
  have hn : s.heap.get? s.heap.objs.size = none := size_none _
  have l1 : IsDx (s.heap.push { cls := .type "dict", data := .dict #[] }) s.heap.objs.size #[] := ⟨_, Heap.get?_push_size _ rfl⟩
  have I1 := I.guard (Keep.push _ _) hn (dx_nt l1)
  refine wp_store I1 (slotOf_get hi) (isVar.kind I.ok hk).1 fun h2 t2 S => ?_
  have hX : ¬ X s.heap.objs.size := fun q => off_fresh I hn (.inl q)
  refine k (.next (σ.set i (.dic []))) _ _ _ h ⟨rfl, fun b o n q => S.keeps b o n (Keep.push _ _ b o q), upd vs i (.ref s.heap.objs.size), ?_, fun b m => ?_⟩
  · refine I1.put S (slotOf_get hi) (fun _ x => .inl x) (fun _ b e2 => ?_) fun _ => ⟨_, #[], rfl, l1, .nil, by simp, size_sys I⟩
    cases e2; exact ⟨.inr rfl, hX, none_of_keep I.keep hn⟩
  · exact mut_put (fun _ b e2 => by cases e2; exact hn) m

/-- t[e] = r -/
theorem WP.setDict {x : Str} {p1 p2 p3 : Pos} {i : Nat} {e r : Expr} {ki vi : Int} {kvs : List (Int × Int)} {rest : List Stmt} {Q : Out → Prop} (hi : slotOf c.names x = some i) (hk : isVar c x = true) (hx : σ[i]? = some (.dic kvs)) (he : EV c σ e (.int ki)) (hr : EV c σ r (.int vi)) (hc : noComp r = true)
    (hz : kvs.length ≤ 2 ^ 20) (h : WP c (σ.set i (.dic (storeI kvs ki vi))) rest Q) : WP c σ (.Assign [.Subscript (.Name x p1) e p2] r p3 :: rest) Q := by
  refine WP.cons ?_
  constructor; intro s X vs R E I k
  obtain ⟨a, es, ea, hd, hp, nd, hsy⟩ := I.slot i _ hx
  refine wpAny_Assign_Subscript (hr.run s X vs _ _ I fun v h1 t1 k1 r1 => ?_) (swaps_of hc)
  obtain ⟨u, rfl⟩ := r1.int_inv
  have I1 := I.grow k1
  refine wp_load (s := { s with heap := h1, toks := t1 }) I1 (slotOf_get hi) (isVar.kind I.ok hk).1 (isVar.kind I.ok hk).2 ea ?_
  refine he.run _ X vs _ _ I1 fun kv h2 t2 k2 r2 => ?_
  obtain ⟨t, rfl⟩ := r2.int_inv
  have I2 := I1.grow k2
  obtain ⟨n, hd⟩ := hd
  have hd2 : IsDx h2 a es := ⟨n, k2 _ _ (k1 _ _ hd)⟩
  obtain ⟨ws, hw, hv⟩ := dictOf (prog := c.G.prog) (w := c.G.w) hd2 hp nd
  refine wpAny_setItem_pairs (s := { s with heap := h2, toks := t2 }) (knd := intKind c.G.prog c.G.w) (k := ki) (by simp [intKind, Value.isInt]) hw (fun h3 hw3 hs3 => ?_) (by rw [hv.length]; exact Nat.le_trans hz (by decide))
  obtain ⟨es3, hd3, hp3, nd3⟩ := ofDict hw3 (hv.store (k := ki) (v := vi) (u := u))
  have P := I2.pokeG (sl' := .dic (storeI kvs ki vi)) hx trivial trivial ea hs3 (dx_nt hd3) fun _ => ⟨a, es3, ea, hd3, hp3, nd3, hsy⟩
  refine k (.next (σ.set i (.dic (storeI kvs ki vi)))) _ _ _ h ⟨rfl, fun b o nb w => ?_, vs, P.1, fun b m => .inl ((P.2 b).mp m)⟩
  exact (hs3.2 b fun w' => nb (by subst w'; exact .inr (.inr ⟨i, ⟨_, hx, trivial⟩, ea⟩))).trans (k2 b o (k1 b o w))
end
end Mine
end
section
namespace Mine
open PySem PySem.Calls

section
variable {c : Cx} {σ : List Slot}

/-- a constant of the module that is no flat one -/
theorem EV.globR {x : Str} {p : Pos} {d : D} {v : Value} {as : List Addr} (hk : c.kinds.lookup x = some .globalImplicit) (hd : (x == ("__debug__" : Str)) = false) (hg : c.G.mg x = some v) (hr : Reads c.G.hb v d as) (ha : ∀ a ∈ as, Plain c.G.hb a) : EV c σ (.Name x p) d := by
  constructor; intro s X vs R E I q
  have kb : Keep c.G.hb s.heap := I.ok.keepB.trans I.keep
  refine Name_function_global I.ok.kind ((I.ok.kinds x).trans hk) (loadGlobal_global (env := c.env) ?_ hg (q v s.heap s.toks (Keep.refl _) ⟨as, reads_kept hr fun b o e _ => kb b o e, fun a m => ⟨fun k => ?_, (ha a m).keep kb⟩⟩)) hd
  · rw [I.ok.glob]
    exact (I.ok.g.g.keeps I.ok.keepB).keeps I.keep
  · obtain ⟨o, e, _⟩ := ha a m
    rw [off_base I a k] at e; cases e

theorem Inv.freezeD {X : AS} {h : Heap} {vs : Nat → Option Value} {i : Nat} {kvs : List (Int × Int)} (I : Inv c X h vs σ) (hi : σ[i]? = some (.dic kvs)) : Inv c X h vs (σ.set i (.val (DI kvs))) ∧ ∀ a, Mut c vs (σ.set i (.val (DI kvs))) a → Mut c vs σ a := by
  have ho : ∀ j a, OwnAt vs (σ.set i (.val (DI kvs))) j a → j ≠ i ∧ OwnAt vs σ j a := by
    rintro j a ⟨⟨ys, e, ho⟩, e2⟩
    by_cases q : j = i
    · subst q
      rw [List.getElem?_set] at e
      simp only [if_true] at e
      split at e <;> cases e <;> exact ho.elim
    · rw [List.getElem?_set_ne (Ne.symm q)] at e
      exact ⟨q, ⟨ys, e, ho⟩, e2⟩
  have hm : ∀ a, Mut c vs (σ.set i (.val (DI kvs))) a → Mut c vs σ a := by
    rintro a (k | k | ⟨j, k⟩)
    · exact .inl k
    · exact .inr (.inl k)
    · exact .inr (.inr ⟨j, (ho j a k).2⟩)
  have hoff : ∀ a, Off c X vs (σ.set i (.val (DI kvs))) a → Off c X vs σ a := fun a k => k.imp id (hm a)
  refine ⟨⟨I.ok, I.keep, I.loc, I.cel, fun j sl e => ?_, fun j k a hj hk => I.own1 j k a (ho j a hj).2 (ho k a hk).2, fun j a hj => I.ownC j a (ho j a hj).2, fun a m => I.sep a (hm a m), fun a k => I.alive a (hoff a k), I.base⟩, hm⟩
  by_cases q : j = i
  · subst q
    rw [List.getElem?_set] at e
    simp only [if_true] at e
    split at e
    · cases e
      obtain ⟨a, es, e, l, p, nd, sy⟩ := I.slot j _ hi
      refine ⟨_, e, Rep.dict l p nd sy fun k => ?_⟩
      rcases k with k | k | k | ⟨m, k⟩
      · exact (I.sep a (.inr (.inr ⟨j, ⟨_, hi, trivial⟩, e⟩))).1 k
      · exact (I.ownC j a ⟨⟨_, hi, trivial⟩, e⟩).1 k
      · obtain ⟨y, k⟩ := k; exact (I.ownC j a ⟨⟨_, hi, trivial⟩, e⟩).2 y k
      · exact (ho m a k).1 (I.own1 m j a (ho m a k).2 ⟨⟨_, hi, trivial⟩, e⟩)
    · cases e
  · rw [List.getElem?_set_ne (Ne.symm q)] at e
    have := I.slot j sl e
    cases sl with
    | un => trivial
    | val d => obtain ⟨v, e, r⟩ := this; exact ⟨v, e, r.weak fun b y => .inl (hoff b y)⟩
    | own ys => obtain ⟨b, items, e, l, r⟩ := this; exact ⟨b, items, e, l, r.weak fun b y => .inl (hoff b y)⟩
    | dic kv => exact this
theorem WP.freezeD {ss : List Stmt} {Q : Out → Prop} (i : Nat) {kvs : List (Int × Int)} (hi : σ[i]? = some (.dic kvs)) (h' : WP c (σ.set i (.val (DI kvs))) ss Q) : WP c σ ss Q :=
  ⟨fun s X vs R E I k => h'.run s X vs R E (I.freezeD hi).1 fun out f h' tk' q r => k out f h' tk' q (r.trans (fun _ _ _ e => e) fun a m => .inl ((I.freezeD hi).2 a m))⟩

/-- k in t -/
theorem TS.inD {l r : Expr} {p : Pos} {k : Int} {kvs : List (Int × Int)} (hl : EV c σ l (.int k)) (hr : EV c σ r (DI kvs)) (hn : noSet r = true) (hm : behindInMarks .In r = false) : TS c σ (.Compare l [.In] [r] p) (look kvs k).isSome := by
  constructor; intro s X vs R E I q
  refine wpAny_isTrue_Compare1 (hl.run s X vs _ _ I fun u h1 t1 k1 r1 => hr.run _ X vs _ _ (I.grow k1) fun v h2 t2 k2 r2 => ?_) hm
  obtain ⟨t, rfl⟩ := r1.int_inv
  obtain ⟨a, es, rfl, hx, hp, nd, _, _⟩ := r2.dict_inv
  obtain ⟨ws, hw, hv⟩ := dictOf (prog := c.G.prog) (w := c.G.w) hx hp nd
  refine wpAny_in_intMap (s := { s with heap := h2, toks := t2 }) hw.mapOf.intMap (wpAny_truthy_bool ?_)
  rcases hv.find (k := k) with ⟨e1, e2⟩ | ⟨w, u, e1, e2⟩
  · rw [e2]; rw [e1] at q; exact q h2 _ (k1.trans k2)
  · rw [e2]; rw [e1] at q; exact q h2 _ (k1.trans k2)
/-- t[k] -/
theorem EV.itemD {e e' : Expr} {p : Pos} {k v : Int} {kvs : List (Int × Int)} (he : EV c σ e (DI kvs)) (hi : EV c σ e' (.int k)) (hs : noSlice e' = true) (hv : look kvs k = some v) : EV c σ (.Subscript e e' p) (.int v) :=
  EV.item2 he hi (sub_of hs) fun s X vs u w R E I ru rv q => by
    obtain ⟨_, rfl⟩ := rv.int_inv
    obtain ⟨a, es, rfl, hx, hp, nd, _, _⟩ := ru.dict_inv
    obtain ⟨ws, hw, hvp⟩ := dictOf (prog := c.G.prog) (w := c.G.w) hx hp nd
    rcases hvp.find (k := k) with ⟨e1, e2⟩ | ⟨w, u, e1, e2⟩
    · rw [hv] at e1; cases e1
    · rw [hv] at e1; cases e1
      exact ⟨"dict", _, hw.typeIs, slot_dict_getitem.lookup, wpAny_getItem_intMap hw.mapOf.intMap e2 (q _ s.heap _ (Keep.refl _) Rep.int)⟩
theorem valueAt_cons_ne {k k' : Int} {v : Value} {vs : List (Int × Value)} (h : k' ≠ k) : valueAt ((k', v) :: vs) k = valueAt vs k := by simp [valueAt, h]
open PySem.W in
theorem keqHits_same {A : Around} {s : Shared} {kb : List (Int × Value)} {kvb : List (Int × Int)} (hb : VP kb kvb) (nb : (kvb.map (·.1)).Nodup) : ∀ {ka : List (Int × Value)} {kva : List (Int × Int)}, VP ka kva → (∀ x ∈ kva, look kvb x.1 = some x.2) → KeqHits A s kb ka true
  | _, _, .nil, _ => .nil
  | _, _, .cons (k := k) (v := v) (u := u) h, hx => by
    rcases hb.find (k := k) with ⟨e1, e2⟩ | ⟨w, u', e1, e2⟩
    · rw [hx (k, v) (.head _)] at e1; cases e1
    · rw [hx (k, v) (.head _)] at e1
      cases e1
      have := KeqHits.hit e2 (keq_flat (A := A) (s := s) (.int v u) (.int v u')) (keqHits_same hb nb h fun x hm => hx x (.tail _ hm))
      simpa [PyData.eqv] using this
theorem look_self : ∀ {kvs : List (Int × Int)}, (kvs.map (·.1)).Nodup → ∀ x ∈ kvs, look kvs x.1 = some x.2
  | (k, v) :: r, nd, x, hx => by
    rw [List.map_cons, List.nodup_cons] at nd
    rcases List.mem_cons.mp hx with rfl | hx
    · simp [look]
    · have hne : k ≠ x.1 := fun q => nd.1 (by rw [q]; exact List.mem_map.mpr ⟨x, hx, rfl⟩)
      have := look_self nd.2 x hx
      simpa [look, hne] using this
open PySem.W in
/-- the same table twice -/
theorem TS.neDict {l r : Expr} {p : Pos} {kvs : List (Int × Int)} (hl : EV c σ l (DI kvs)) (hr : EV c σ r (DI kvs)) (hn : noSet r = true) : TS c σ (.Compare l [.NotEq] [r] p) false :=
  TS.cmp hl hr hn fun s X vs u v R E I ru rv q => by
    obtain ⟨a, es, rfl, hx, hp, nd, sy, _⟩ := ru.dict_inv
    obtain ⟨b, es2, rfl, hx2, hp2, nd2, sy2, _⟩ := rv.dict_inv
    obtain ⟨ws, hw, hv⟩ := dictOf (prog := c.G.prog) (w := c.G.w) hx hp nd
    obtain ⟨ws2, hw2, hv2⟩ := dictOf (prog := c.G.prog) (w := c.G.w) hx2 hp2 nd2
    refine keq_ne (r := true) (by simpa using sy) (by simpa using sy2) hw hw2 (by have := I.ok.units; omega) (fun _ => keqHits_same hv2 nd2 hv (look_self nd)) ?_
    rw [hv.length, hv2.length]
    simpa using q
end
end Mine
end
section
namespace Mine
open PySem PySem.Calls

def lmax (ns : List Int) : Int := ns.getD (argBest (fun i j => decide (ns.getD i 0 > ns.getD j 0)) (ns.length - 1)) 0
theorem lmax_ge {ns : List Int} : ∀ x ∈ ns, x ≤ lmax ns := by
  intro x hx
  obtain ⟨i, hi, rfl⟩ := List.mem_iff_getElem.mp hx
  have := (argBest_gt (fun i => ns.getD i 0) (ns.length - 1)).2 i (by omega)
  have e : ns.getD i 0 = ns[i] := by rw [List.getD_eq_getElem?_getD, List.getElem?_eq_getElem hi]; rfl
  rw [e] at this
  exact this
theorem lmax_mem {ns : List Int} (h : 0 < ns.length) : lmax ns ∈ ns := by
  have := (argBest_gt (fun i => ns.getD i 0) (ns.length - 1)).1
  exact getD_mem (by omega)
theorem preSum_take {ns : List Int} : ∀ j, j ≤ ns.length → preSum (fun i => ns.getD i 0) j = (ns.take j).sum
  | 0, _ => by simp [preSum]
  | j + 1, h => by
    rw [preSum, preSum_take j (by omega), List.take_add_one, List.getElem?_eq_getElem (show j < ns.length by omega), List.sum_append]
    simp [List.getD_eq_getElem?_getD, List.getElem?_eq_getElem (show j < ns.length by omega)]

section
variable {c : Cx} {σ : List Slot}
theorem ints_get {h : Heap} {Y : AS} {items : Array Value} {ns : List Int} (r : RepAll h Y items.toList (ns.map PyData.int)) : ∀ (i : Nat) (v : Value), items[i]? = some v → ∃ t, v = Value.int (ns.getD i 0) t := by
  intro i v hv
  have hlen : items.size = ns.length := by have := r.length; simpa using this
  have hi : i < ns.length := by
    have := (Array.getElem?_eq_some_iff.mp hv).1
    omega
  obtain ⟨v', e, r'⟩ := r.get i (d := .int (ns.getD i 0)) (by rw [List.getElem?_map, List.getElem?_eq_getElem hi, List.getD_eq_getElem?_getD, List.getElem?_eq_getElem hi]; rfl)
  have : v' = v := by
    have h2 : items.toList[i]? = some v := by simpa using hv
    rw [e] at h2; exact Option.some.inj h2
  subst this
  exact r'.int_inv
theorem EV.maxL {p pos : Pos} {e : Expr} {ns : List Int} (B : Bis c.G) (he : EV c σ e (LI ns)) (hk : c.kinds.lookup (PySem.Str.ofString "max") = some .globalImplicit) (hn : noStar e = true) (h0 : 0 < ns.length) :
    EV c σ (.Call (.Name (PySem.Str.ofString "max") p) [e] [] pos) (.int (lmax ns)) :=
  EV.bui ⟨hk, by decide, B.max⟩ (EVs.one he hn) (by simp [hn]) fun s X vs us R E I ru q => by
    obtain ⟨u, _, rfl, ru', rn⟩ := ru.cons_inv
    cases rn.nil_inv
    obtain ⟨a, items, rfl, hl, _, ri⟩ := ru'.list_inv
    have hlen : items.size = ns.length := by have := ri.length; simpa using this
    obtain ⟨n, hn'⟩ := id hl
    have hne : a ≠ s.heap.objs.size := Nat.ne_of_lt (Heap.lt_size hn')
    refine call_max_walk (wpAny_pyIter_list hl.isList ⟨_, _, _, _, _, _, _, rfl, Walks.list (A := c.A.in1) (show c.A.in1.handled = none from I.ok.hh) _ a hne items, ⟨⟨_, Heap.get?_push_size _ rfl, rfl, rfl⟩, hl.isList.push _⟩, ?_, by omega, CmpOf.ints_gt (fun i => ns.getD i 0) (ints_get ri), fun v h' tk hv hk => ?_⟩)
    · intro b hb
      show b < (s.heap.push _).objs.size
      rw [Heap.size_push]
      rcases List.mem_cons.mp hb with w | hb
      · rw [w]; exact Nat.lt_succ_self _
      · rw [List.mem_singleton.mp hb]; exact Nat.lt_succ_of_lt (Heap.lt_size hn')
    · obtain ⟨t, rfl⟩ := ints_get ri _ v hv
      rw [hlen]
      exact q _ h' tk (fun b o w => hk b o (fun m => by rw [List.mem_singleton.mp m, size_none] at w; cases w) (Heap.get?_push_of_some _ w)) Rep.int
theorem EV.sumL {p pos : Pos} {e : Expr} {ns : List Int} (B : Bis c.G) (he : EV c σ e (LI ns)) (hk : c.kinds.lookup (PySem.Str.ofString "sum") = some .globalImplicit) (hn : noStar e = true) (hb : ∀ x ∈ ns, 0 ≤ x ∧ x ≤ 2 ^ 20) (hz : ns.length ≤ 2 ^ 20) :
    EV c σ (.Call (.Name (PySem.Str.ofString "sum") p) [e] [] pos) (.int ns.sum) :=
  EV.bui ⟨hk, by decide, B.sum⟩ (EVs.one he hn) (by simp [hn]) fun s X vs us R E I ru q => by
    obtain ⟨u, _, rfl, ru', rn⟩ := ru.cons_inv
    cases rn.nil_inv
    obtain ⟨a, items, rfl, hl, _, ri⟩ := ru'.list_inv
    have hlen : items.size = ns.length := by have := ri.length; simpa using this
    obtain ⟨n, hn'⟩ := id hl
    have hne : a ≠ s.heap.objs.size := Nat.ne_of_lt (Heap.lt_size hn')
    have hval : ∀ j, 0 ≤ ns.getD j 0 ∧ ns.getD j 0 ≤ 2 ^ 20 := fun j => getD_all (P := fun x => 0 ≤ x ∧ x ≤ 2 ^ 20) ns j hb (by decide)
    have hpre : ∀ j, 0 ≤ preSum (fun i => ns.getD i 0) j ∧ preSum (fun i => ns.getD i 0) j ≤ 2 ^ 20 * j := by
      intro j
      induction j with
      | zero => simp [preSum]
      | succ j ih =>
        have := hval j
        rw [preSum]; omega
    refine call_sum_walk (wpAny_pyIter_list hl.isList ⟨_, _, _, _, _, _, _, rfl, Walks.list (A := c.A.in1) (show c.A.in1.handled = none from I.ok.hh) _ a hne items, ⟨⟨_, Heap.get?_push_size _ rfl, rfl, rfl⟩, hl.isList.push _⟩, ?_, ints_get ri, fun j hj => ⟨?_, ?_⟩, fun h' tk t' hk => ?_⟩)
    · intro b hb
      show b < (s.heap.push _).objs.size
      rw [Heap.size_push]
      rcases List.mem_cons.mp hb with w | hb
      · rw [w]; exact Nat.lt_succ_self _
      · rw [List.mem_singleton.mp hb]; exact Nat.lt_succ_of_lt (Heap.lt_size hn')
    · have := hval j; exact ⟨by omega, by omega⟩
    · have := hpre (j + 1); exact ⟨by omega, by omega⟩
    · have e : preSum (fun i => ns.getD i 0) items.size = ns.sum := by rw [hlen, preSum_take _ (Nat.le_refl _), List.take_length]
      rw [e]
      exact q _ h' tk (fun b o w => hk b o (fun m => by rw [List.mem_singleton.mp m, size_none] at w; cases w) (Heap.get?_push_of_some _ w)) Rep.int
/-- xs[i] = e -/
theorem WP.setItem {x : Str} {p1 p2 p3 : Pos} {i : Nat} {e r : Expr} {k : Int} {d : D} {xs : List D} {rest : List Stmt} {Q : Out → Prop} (hi : slotOf c.names x = some i) (hk : isVar c x = true) (hx : σ[i]? = some (.own xs)) (he : EV c σ e (.int k)) (hr : EV c σ r d) (hc : noComp r = true)
    (h0 : 0 ≤ k) (hlt : k < xs.length) (hz : k < 2 ^ 62) (h : WP c (σ.set i (.own (xs.set k.toNat d))) rest Q) : WP c σ (.Assign [.Subscript (.Name x p1) e p2] r p3 :: rest) Q := by
  refine WP.cons ?_
  constructor; intro s X vs R E I kk
  obtain ⟨a, items, ea, hl, ri⟩ := I.slot i _ hx
  refine wpAny_Assign_Subscript (hr.run s X vs _ _ I fun v h1 t1 k1 r1 => ?_) (swaps_of hc)
  have I1 := I.grow k1
  refine wp_load (s := { s with heap := h1, toks := t1 }) I1 (slotOf_get hi) (isVar.kind I.ok hk).1 (isVar.kind I.ok hk).2 ea ?_
  refine he.run _ X vs _ _ I1 fun kv h2 t2 k2 r2 => ?_
  obtain ⟨t, rfl⟩ := r2.int_inv
  have I2 := I1.grow k2
  obtain ⟨n, hl⟩ := hl
  have hl2 := k2 _ _ (k1 _ _ hl)
  have hlen : items.size = xs.length := by rw [← ri.length]; simp
  refine PySem.W.ki_setAt (s := { s with heap := h2, toks := t2 }) (n := n) hl2 h0 (by omega) (by omega) ?_
  have hl3 : IsLx (h2.update a (Obj.mapSeq (·.setIfInBounds k.toNat v))) a (items.setIfInBounds k.toNat v) := ⟨_, Heap.get?_update_self _ hl2 rfl⟩
  have hs3 : Heap.SameBut a h2 (h2.update a (Obj.mapSeq (·.setIfInBounds k.toNat v))) := Heap.SameBut.update ..
  have P := I2.poke hx ea hs3 hl3 (xs' := xs.set k.toNat d) (by rw [Array.toList_setIfInBounds]; exact RepAll.set _ ((ri.keep k1).keep k2) (r1.keep k2))
  refine kk (.next (σ.set i (.own (xs.set k.toNat d)))) _ _ _ h ⟨rfl, fun b o nb w => ?_, vs, P.1, fun b m => .inl ((P.2 b).mp m)⟩
  exact (hs3.2 b fun w' => nb (by subst w'; exact .inr (.inr ⟨i, ⟨_, hx, trivial⟩, ea⟩))).trans (k2 b o (k1 b o w))
end
end Mine
end
section
namespace Mine
open PySem PySem.Calls
section
variable {c : Cx} {σ : List Slot}
/-- a for in which, or behind which, something raises -/
theorem WX.forIn {t it : Expr} {body rest : List Stmt} {p : Pos} {ds : List D} {cls : Value} (P : Nat → List Slot → Prop) (hit : IT c σ it ds) (hf : noFold it = true) (h0 : P 0 σ)
    (step : ∀ j d σ', ds[j]? = some d → P j σ' → ∃ σ'', TG c t d σ' σ'' ∧ (WX c σ'' body cls ∨ WP c σ'' body (fun o => ∃ σ4, o = .next σ4 ∧ P (j + 1) σ4))) (done : ∀ σ', P ds.length σ' → WX c σ' rest cls) : WX c σ (.For t it body [] p :: rest) cls := by
  constructor; intro s X vs R E I hE kE
  refine wpAny_execs_cons ?_
  refine wpAny_For (hit.run s X vs _ _ I fun a fp n PP St h1 t1 k1 T => ?_) (folded_of hf)
  have hal : ∀ i g, St i g → ∃ o, g.get? a = some o ∧ NT o := fun i g st => by
    obtain ⟨o, T', e, hc, hT⟩ := T.it i g st
    exact ⟨o, e, nt_of_iter hc hT⟩
  have I1 : Inv c (fun b => X b ∨ b = a) h1 vs σ := I.guard k1 T.new (hal 0 h1 T.st)
  let J : Nat → Shared → Prop := fun m s' => ∃ i vs' σ' h' tk', s' = { s with heap := h', toks := tk' } ∧ m = n + 1 - i ∧ i ≤ n ∧ Inv c (fun b => X b ∨ b = a) h' vs' σ' ∧ St i h' ∧ P i σ' ∧
    (∀ b o, ¬ Mut c vs σ b → b ≠ a → h1.get? b = some o → h'.get? b = some o) ∧ ∀ b, Mut c vs' σ' b → Mut c vs σ b ∨ h1.get? b = none
  refine codeAny_forLoop_any J ?_ (n + 1) ⟨0, vs, σ, h1, t1, rfl, rfl, Nat.zero_le _, I1, T.st, h0, fun _ _ _ _ e => e, fun _ m => .inl m⟩
  rintro m s' ⟨i, vs', σ', h', tk', rfl, rfl, hi, I', st, hP, hk, he⟩
  have haX : ∀ {vs2 : Nat → Option Value} {σ2 : List Slot} {g : Heap}, Inv c (fun b => X b ∨ b = a) g vs2 σ2 → ¬ Mut c vs2 σ2 a := fun I2 m => (I2.sep a m).1 (.inr rfl)
  have ha0 : c.h0.get? a = none := none_of_keep I.keep T.new
  by_cases hlt : i < n
  · refine T.W.item i _ _ _ hlt st fun v h2 t2 hPv st2 k2 => ?_
    have k2' : ∀ b o, b ≠ a → h'.get? b = some o → h2.get? b = some o := fun b o n e => k2 b o (fun q => n (List.mem_singleton.mp q)) e
    obtain ⟨o2, T2, e2, hc2, hT2⟩ := T.it _ _ st2
    have I2 := I'.bump (.inr rfl) ha0 k2' ⟨o2, e2, nt_of_iter hc2 hT2⟩
    refine letOwned_pure (s := { s with heap := h2, toks := t2 }) e2 hc2 hT2 ?_
    have hlt' : i < ds.length := by rw [← T.len]; exact hlt
    have hd : ds[i]? = some ds[i] := List.getElem?_eq_getElem hlt'
    obtain ⟨σ2, tg, wb⟩ := step i _ σ' hd hP
    have r2 : Rep h2 (Off c (fun b => X b ∨ b = a) vs' σ') v ds[i] := by
      refine (T.item i v _ hPv hd).move (fun b o e q => ?_) fun b y => ?_
      · have hba : b ≠ a := fun w => by
          subst w
          rcases q with q | q
          · exact q (.inr rfl)
          · obtain ⟨o', e', nt⟩ := hal 0 h1 T.st
            rw [e] at e'; cases e'; exact q nt
        refine k2' b o hba (hk b o (fun m => ?_) hba e)
        rcases q with q | q
        · exact q (.inl (.inr m))
        · obtain ⟨o', e', nt⟩ := I1.alive b (.inr m)
          rw [e] at e'; cases e'; exact q nt
      · rcases y with (y | y) | y
        · exact .inl (.inl (.inl y))
        · exact .inl (.inr y)
        · rcases he b y with y | y
          · exact .inl (.inl (.inr y))
          · exact .inr y
    refine tg.run _ _ vs' v _ _ I2 r2 fun h3 t3 vs3 k3 I3 m3 => ?_
    have kk : ∀ {h4 : Heap}, (∀ b o, ¬ Mut c vs3 σ2 b → h3.get? b = some o → h4.get? b = some o) → ∀ b o, ¬ Mut c vs σ b → b ≠ a → h1.get? b = some o → h4.get? b = some o := by
      intro h4 k4 b o n1 n2 e
      have n' : ¬ Mut c vs' σ' b := fun m => by
        rcases he b m with m | m
        · exact n1 m
        · rw [e] at m; cases m
      exact k4 b o (fun m => n' (m3 b m)) (k3 b o n' (k2' b o n2 (hk b o n1 n2 e)))
    have kg : ∀ {h4 : Heap}, (∀ b o, ¬ Mut c vs3 σ2 b → h3.get? b = some o → h4.get? b = some o) → ∀ b o, ¬ Mut c vs σ b → s.heap.get? b = some o → h4.get? b = some o := by
      intro h4 k4 b o n1 e
      exact kk k4 b o n1 (fun w => by rw [w, T.new] at e; cases e) (k1 b o e)
    rcases wb with wb | wb
    · exact wpAny_passesOwn hE (wb.run _ _ vs3 _ _ I3 hE fun e g h'' tk'' args k4 hn hm => kE e g h'' tk'' args (kg k4) hn hm)
    · refine wb.run _ _ vs3 _ _ I3 fun out f h4 t4 q r => ?_
      obtain ⟨σ4, rfl, hP4⟩ := q
      obtain ⟨rfl, k4, vs4, I4, e4⟩ := r
      refine ⟨n + 1 - (i + 1), by omega, i + 1, vs4, σ4, h4, t4, rfl, rfl, hlt, I4, ?_, hP4, kk k4, fun b m => ?_⟩
      · refine T.W.frame _ _ _ st2 fun b hb o e => ?_
        have nb' : ¬ Mut c vs' σ' b := fun m => by
          by_cases w : b = a
          · exact haX I' (w ▸ m)
          · obtain ⟨n1, o1, e1⟩ := T.fps b hb w
            rcases he b m with m | m
            · exact n1 m
            · rw [e1] at m; cases m
        exact k4 b o (fun m => nb' (m3 b m)) (k3 b o nb' e)
      · have na : b ≠ a := fun w => haX I4 (w ▸ m)
        rcases e4 b m with m' | m'
        · exact he b (m3 b m')
        · by_cases n1 : Mut c vs σ b
          · exact .inl n1
          · cases w : h1.get? b with
            | none => exact .inr rfl
            | some o =>
              have n' : ¬ Mut c vs' σ' b := fun m => by
                rcases he b m with m | m
                · exact n1 m
                · rw [w] at m; cases m
              rw [k3 b o n' (k2' b o na (hk b o n1 na w))] at m'; cases m'
  · have hin : i = n := by omega
    subst hin
    refine T.W.done _ _ _ st fun h2 t2 k2 => ?_
    have k2' : ∀ b o, b ≠ a → h'.get? b = some o → h2.get? b = some o := fun b o n e => k2 b o (fun q => n (List.mem_singleton.mp q)) e
    have na : ¬ X a := fun x => off_fresh I T.new (.inl x)
    have I2 : Inv c X h2 vs' σ' := by
      refine I'.changeTo (fun _ x => .inl x) (fun b o e => k2' b o (fun q => by rw [q, ha0] at e; cases e) (I'.keep b o e)) (fun b o e q => k2' b o (fun w => ?_) e) fun b y => ?_
      · subst w
        rcases q with q | q | q
        · exact q (.inl (.inr rfl))
        · obtain ⟨o', e', nt⟩ := hal i h' st
          rw [e] at e'; cases e'; exact q nt
        · exact haX I' q
      · obtain ⟨o, e, nt⟩ := I'.alive b (.inl (.inl y))
        exact ⟨o, k2' b o (fun w => na (w ▸ y)) e, nt⟩
    refine wpAny_execs_nil ?_
    refine (done σ' (T.len ▸ hP)).run _ X vs' _ _ I2 hE fun e g h'' tk'' args k4 hn hm => kE e g h'' tk'' args (fun b o n1 w => k4 b o (fun m => ?_) ?_) hn hm
    · rcases he b m with m | m
      · exact n1 m
      · rw [k1 b o w] at m; cases m
    · have hba : b ≠ a := fun w' => by rw [w', T.new] at w; cases w
      exact k2' b o hba (hk b o n1 hba (k1 b o w))
end
end Mine
end
section
set_option maxRecDepth 100000
namespace Mine
open PySem PySem.Calls
section
variable {c : Cx} {σ : List Slot}
theorem WX.raiseV {e : Expr} {d : D} {np cpos pos : Pos} {rest : List Stmt} (B : BI c.G (PySem.Str.ofString "ValueError") (.type "ValueError")) (he : EV c σ e d) (hn : noStar e = true) (hk : c.kinds.lookup (PySem.Str.ofString "ValueError") = some .globalImplicit) :
    WX c σ (.Raise (some (.Call (.Name (PySem.Str.ofString "ValueError") np) [e] [] cpos)) none pos :: rest) (.type "ValueError") := by
  constructor; intro s X vs R E I hE k
  have Bu : isBui c (PySem.Str.ofString "ValueError") (.type "ValueError") := ⟨hk, by decide, B⟩
  refine wpAny_execs_cons (PyProof.Rows.Raise_madeB F.excCall_ValueError F.excRaise_ValueError I.ok.hh (Bu.load I ⟨rfl, (EVs.one he hn).run s X vs _ _ cpos I fun us h1 t1 k1 r1 => ?_⟩) (starEach_of hn) rfl)
  have I1 := I.grow k1
  obtain ⟨m, hns, _⟩ := I1.loc
  refine ⟨?_, fun h' e hm => ?_⟩
  · have := r1.length
    rw [this]; exact Nat.le_trans (by decide : 1 ≤ 2) (by decide)
  · exact k e h1 h' t1 _ (fun b o _ e => k1 b o e) ⟨m, hns⟩ (PySem.Heap.MadeExc.of hm)

theorem wp_catchV {outer : List Env} {X : AS} {s : Shared} {vs : Nat → Option Value} {h1 : Heap} {e : Addr} {tk : Nat} {np pos : Pos} {b₀ : Stmt} {suite : List Stmt} {rest : List ExceptHandler} {Q : Flow → Shared → Prop} {E : Value → Shared → Prop}
    (F : CFr c outer) (I : Inv c X s.heap vs σ) (B : BI c.G (PySem.Str.ofString "ValueError") (.type "ValueError")) (hx : c.kinds.lookup (PySem.Str.ofString "ValueError") = some .globalImplicit) (fl : Fly (c.env :: outer) (.type "ValueError") s.heap h1 e)
    (k : ∀ h' E', (∀ b o, ¬ isFrame (c.env :: outer) b → s.heap.get? b = some o → h'.get? b = some o) → s.heap.UpToSlots h' → wpAny (model c.G.prog c.G.w) (c.A.mark (some (.ref e))) (execs (b₀ :: suite) c.env) Q E' { s with heap := h', toks := tk }) :
    wpAny (model c.G.prog c.G.w) c.A (noteFrame (.ref e) c.env) (fun _ s₂ => wpAny (model c.G.prog c.G.w) c.A (setFlight (.ref e) none) (fun _ s₃ =>
      wpAny (model c.G.prog c.G.w) c.A (handleBy (.ref e) c.env (.ExceptHandler (some (.Name (PySem.Str.ofString "ValueError") np)) none (b₀ :: suite) pos :: rest)) Q E s₃) E s₂) E { s with heap := h1, toks := tk } := by
  obtain ⟨⟨base, a0, f1, f2⟩, u⟩ := fl
  refine wpAny_looks_onW F.frames F.frame f1 fun h₄ hheld₄ hsm₄ => ?_
  refine wpAny_landsW hheld₄ fun h₅ hheld hsm₅ => ?_
  obtain ⟨ob, hob, hobc⟩ := hheld.there
  have up₅ : s.heap.UpToSlots h₅ := (u.trans hsm₄).trans hsm₅
  have hg : h₅.Ns mainGlobals c.G.mg := up₅.ns ((I.ok.g.g.keeps I.ok.keepB).keeps I.keep)
  have hbn : h₅.Ns builtinsNs c.G.mb := up₅.ns ((I.ok.g.b.keeps I.ok.keepB).keeps I.keep)
  refine wpAny_handleBy_builtin (X := "ValueError") (T := "ValueError") (b := true) PySem.F.isExc_ValueError PySem.F.notTuple_ValueError (by rw [isSubtype_type]; kernel_rfl)
    (Name_function_global I.ok.kind ((I.ok.kinds _).trans hx) (loadGlobal_builtin (env := c.env) (by rw [I.ok.glob]; exact hg) B.miss (by rw [I.ok.bui]; exact hbn) B.is ⟨rfl, ⟨ob, hob, hobc⟩, ?_⟩) (by decide))
  refine PyProof.Rows.lands_againW hheld fun h₆ hfl₆ hsm₆ => ?_
  exact k h₆ _ (fun b o n w => hfl₆.1 b o (f2 b o n w)) (up₅.trans hsm₆)
end
theorem Def.catchV {G : GX} {p : Program} {k : Nat} {g : Str} {ga : Addr} {params more : List Str} {args : List D} {n : Nat} {body rest : List Stmt} {lit : Str} {np hp rp kp tp : Pos} {kn : Nat} {hs : List ExceptHandler} (d : Def G p k g ga params) (hG : G.Ok) (hlen : args.length = params.length)
    (hbody : bodyAt p k = .Try body (.ExceptHandler (some (.Name (PySem.Str.ofString "ValueError") np)) none [.Return (some (.Constant (.str lit) kn kp)) rp] hp :: hs) [] [] tp :: rest) (B : BI G (PySem.Str.ofString "ValueError") (.type "ValueError")) (hx : (kindsAt p k).lookup (PySem.Str.ofString "ValueError") = some .globalImplicit)
    (h : ∀ (A : Around) (env : Env) (h0 : Heap), WE ⟨G, A, env, h0, params ++ more, kindsAt p k, n⟩ (args.map Slot.val ++ more.map fun _ => .un) body (.type "ValueError"))
    (hnd : (params ++ more).Nodup := by decide) (hkind : (params ++ more).all (fun x => (kindsAt p k).lookup x == some .local || (kindsAt p k).lookup x == some .cell) = true := by rfl) : FnSpecF G ga args (.str lit) (n + 1) := by
  obtain ⟨fd, h1, h2, h3, h4⟩ := d.fd
  intro A s X us R E outer hfr hF kb hh hd' hu al ab ru q
  refine enter hG h1 h2 h3 h4 hnd hkind hlen kb hh hd' hu al ab ru fun env vs h₁ tk I kk ef nm => ?_
  have F : CFr ⟨G, A.deeper env, env, s.heap, params ++ more, kindsAt p k, n⟩ outer := ⟨Around.frames_deeper hfr, ef, hF⟩
  rw [hbody]
  refine wpAny_execs_cons (wpAny_Try_except ((h (A.deeper env) env s.heap).run _ X vs _ _ outer I F fun e h1 tk' fl => ?_))
  refine wp_catchV F I B hx fl fun h2 E' k2 u2 => ?_
  refine wpAny_execs_cons (wpAny_Return_some (wpAny_Constant_str ?_))
  refine q _ h2 _ (fun b o nb w => k2 b o ?_ (kk b o w)) ((Heap.UpToSlots.of_keeps kk).trans u2) ⟨_, rfl, fun Y => Rep.str⟩
  rintro ⟨e', he, hf⟩
  rcases List.mem_cons.mp he with rfl | he
  · have ef' : e'.frame = some e'.locals := ef
    rw [show (Cx.env ⟨G, A.deeper e', e', s.heap, params ++ more, kindsAt p k, n⟩).frame = some e'.locals from ef'] at hf
    cases hf
    have := nm _ (.inl rfl)
    rw [show s.heap.get? e'.locals = none from this] at w; cases w
  · exact nb ⟨e', he, hf⟩
end Mine
end
section
namespace Mine
open PySem PySem.Calls

section
variable {c : Cx} {σ : List Slot}
theorem WP.iteJ {t : Expr} {body orelse rest : List Stmt} {p : Pos} {b : Bool} {Q : Out → Prop} (P : List Slot → Prop) (ht : TS c σ t b) (h1 : b = true → WP c σ body (fun o => ∃ σ', o = .next σ' ∧ P σ')) (h2 : b = false → WP c σ orelse (fun o => ∃ σ', o = .next σ' ∧ P σ')) (h : ∀ σ', P σ' → WP c σ' rest Q) :
    WP c σ (.If t body orelse p :: rest) Q := by
  refine WP.ite ht (fun hb => (h1 hb).mono ?_) fun hb => (h2 hb).mono ?_ <;> (rintro o ⟨σ', rfl, hP⟩; exact h σ' hP)
theorem EVF.is {e : Expr} {xs ys : List D} (h : EVF c σ e xs) (hy : xs = ys) : EVF c σ e ys := hy ▸ h
theorem EVF.comp' {α : Type} {elt iter : Expr} {x : Str} {px : Pos} {scope : Scope} {pos : Pos} {xs : List α} {ι : α → D} {f : α → D} {fr : List (Str × D)} {ys : List D}
    (hit : IT c σ iter (xs.map ι)) (S : CompOk c σ scope [x] fr) (hf : noFold iter = true) (hx : isVar (compCx c scope [x] fr c.env) x = true) (hz : xs.length ≤ 2 ^ 20)
    (he : ∀ env' x', x' ∈ xs → EV (compCx c scope [x] fr env') (.val (ι x') :: fr.map fun q => .val q.2) elt (f x')) (hy : xs.map f = ys) :
    EVF c σ (.ListComp elt [⟨.Name x px, iter, [], 0⟩] scope pos) ys := (EVF.comp hit S hf hx hz he).is hy
theorem EVF.sliceI' {e : Expr} {l u : Option Expr} {p pos : Pos} {ns ms : List Int} {lo hi : Option Int} (he : EVo c σ e (ns.map PyData.int)) (hl : EVp c σ l lo) (hu : EVp c σ u hi) (hz : ns.length ≤ 2 ^ 20) (hy : cut lo hi ns = ms) : EVF c σ (.Subscript e (.Slice l u none p) pos) (ms.map PyData.int) :=
  hy ▸ EVF.sliceI he hl hu hz
end

section
variable {c : Cx} {σ : List Slot}
/-- two lists put together, read at once -/
theorem EVF.catO {l r : Expr} {p : Pos} {xs ys : List D} (hl : EVo c σ l xs) (hr : EVo c σ r ys) (hz : xs.length + ys.length ≤ 2 ^ 20) : EVF c σ (.BinOp l .Add r p) (xs ++ ys) := by
  constructor; intro s X vs R E I q
  refine wpAny_BinOp (hl.run s X vs _ _ I fun a items h1 t1 k1 ha ri => hr.run _ X vs _ _ (I.grow k1) fun b items2 h2 t2 k2 hb ri2 => ?_)
  obtain ⟨n, ha⟩ := ha
  obtain ⟨n2, hb⟩ := hb
  have e1 : items.size = xs.length := by rw [← ri.length]; simp
  have e2 : items2.size = ys.length := by rw [← ri2.length]; simp
  refine P.add_list (s := { s with heap := h2, toks := t2 }) (k2 _ _ ha) hb ?_ (by rw [e1, e2]; exact Nat.le_trans hz (by decide))
  have := newF q (k1.trans k2) (t1 := t2) ((ri.keep k2).append ri2)
  rw [show (items.toList ++ items2.toList).toArray = items ++ items2 by simp] at this
  exact this
end

theorem TS.is {c : Cx} {σ : List Slot} {e : Expr} {b b' : Bool} (h : TS c σ e b) (hb : b = b') : TS c σ e b' := hb ▸ h
end Mine
end
section
namespace Mine
open PySem PySem.Calls

abbrev P2 (p : Int × Int) : D := .tuple [.int p.1, .int p.2]
abbrev LP (ps : List (Int × Int)) : D := .list (ps.map P2)
/-- what code t adds to the value of a code of length n at place s -/
def bef (L : List Int) (n : Int) (s t : Nat) : Bool := decide (0 < L.getD t 0 ∧ (L.getD t 0 < n ∨ (L.getD t 0 = n ∧ t < s)))
def vsum (L : List Int) (n : Int) (s : Nat) : Nat → Int
  | 0 => 0
  | t + 1 => vsum L n s t + if bef L n s t = true then 2 ^ n.toNat / 2 ^ (L.getD t 0).toNat else 0
def code (L : List Int) (s : Nat) : Int × Int := (vsum L (L.getD s 0) s L.length, L.getD s 0)
def codesOf (L : List Int) : List (Int × Int) := (List.range L.length).map (code L)
theorem pow_pos2 (n : Nat) : 0 < (2 : Int) ^ n := Int.pow_pos (by decide)
theorem pow_ratio {n m : Nat} (h : m ≤ n) : (2 : Int) ^ n / 2 ^ m = 2 ^ (n - m) := by
  have e : (2 : Int) ^ n = 2 ^ (n - m) * 2 ^ m := by rw [← Int.pow_add, Nat.sub_add_cancel h]
  rw [e]; exact Int.mul_ediv_cancel _ (by have := pow_pos2 m; omega)
theorem vsum_zero {L : List Int} {s : Nat} : ∀ T, vsum L 0 s T = 0
  | 0 => rfl
  | T + 1 => by
    rw [vsum, vsum_zero T]
    have : bef L 0 s T = false := by
      simp only [bef]; apply decide_eq_false; omega
    rw [this]; simp
theorem vsum_next {L : List Int} {n : Int} (hn : 0 < n) {j : Nat} : ∀ T, vsum L n (j + 1) T = vsum L n j T + if j < T ∧ L.getD j 0 = n then 1 else 0
  | 0 => by simp [vsum]
  | T + 1 => by
    rw [vsum, vsum, vsum_next hn T]
    by_cases q : T = j
    · subst q
      have h1 : ¬ (T < T ∧ L.getD T 0 = n) := by omega
      rw [if_neg h1]
      by_cases e : L.getD T 0 = n
      · have b1 : bef L n (T + 1) T = true := by simp only [bef]; apply decide_eq_true; omega
        have b2 : bef L n T T = false := by simp only [bef]; apply decide_eq_false; omega
        rw [b1, b2, if_pos rfl, if_neg (by decide), if_pos ⟨by omega, e⟩, e, Int.ediv_self (by have := pow_pos2 n.toNat; omega)]
        try omega
      · have b : bef L n (T + 1) T = bef L n T T := by
          simp only [bef]; apply decide_eq_decide.mpr; omega
        rw [b, if_neg (show ¬ (T < T + 1 ∧ L.getD T 0 = n) from fun h => e h.2)]
        omega
    · have b : bef L n (j + 1) T = bef L n j T := by
        simp only [bef]; apply decide_eq_decide.mpr; omega
      rw [b]
      by_cases h : j < T ∧ L.getD j 0 = n
      · rw [if_pos h, if_pos (show j < T + 1 ∧ L.getD j 0 = n from ⟨by omega, h.2⟩)]; omega
      · rw [if_neg h, if_neg (show ¬ (j < T + 1 ∧ L.getD j 0 = n) from fun w => h ⟨by omega, w.2⟩)]; omega
theorem vsum_double {L : List Int} {k : Nat} {s : Nat} : ∀ T, T ≤ s → vsum L ((k + 1 : Nat) : Int) 0 T = vsum L (k : Int) s T * 2
  | 0, _ => by simp [vsum]
  | T + 1, h => by
    rw [vsum, vsum, vsum_double (s := s) T (by omega), Int.add_mul]
    congr 1
    have b : bef L ((k + 1 : Nat) : Int) 0 T = bef L (k : Int) s T := by
      simp only [bef]; apply decide_eq_decide.mpr; omega
    rw [b]
    split
    · rename_i hb
      have hb' : 0 < L.getD T 0 ∧ L.getD T 0 ≤ k := by
        have := of_decide_eq_true (show decide _ = true from hb)
        omega
      rw [pow_ratio (by omega), pow_ratio (by omega), show ((k + 1 : Nat) : Int).toNat - (L.getD T 0).toNat = ((k : Int).toNat - (L.getD T 0).toNat) + 1 by omega, Int.pow_succ]
    · rfl
theorem vsum_nonneg {L : List Int} {n : Int} {s : Nat} : ∀ T, 0 ≤ vsum L n s T
  | 0 => by simp [vsum]
  | T + 1 => by
    rw [vsum]
    have := vsum_nonneg (L := L) (n := n) (s := s) T
    split
    · have h := Int.ediv_nonneg (Int.le_of_lt (pow_pos2 n.toNat)) (Int.le_of_lt (pow_pos2 (L.getD T 0).toNat))
      omega
    · omega
theorem code_zero {L : List Int} {s : Nat} (h : L.getD s 0 = 0) : code L s = (0, 0) := by
  unfold code; rw [h, vsum_zero]
section
variable {c : Cx} {σ : List Slot}
/-- a list over and over -/
theorem EVF.mulN {l r : Expr} {p : Pos} {xs : List D} {n : Int} (hl : EVo c σ l xs) (hr : EV c σ r (.int n)) (h0 : 0 ≤ n) (hz : xs.length * n.toNat ≤ 2 ^ 20) (hz' : n < 2 ^ 20) : EVF c σ (.BinOp l .Mult r p) (List.replicate n.toNat xs).flatten := by
  constructor; intro s X vs R E I q
  refine wpAny_BinOp (hl.run s X vs _ _ I fun a items h1 t1 k1 hx ri => hr.run _ X vs _ _ (I.grow k1) fun v h2 t2 k2 r2 => ?_)
  obtain ⟨u, rfl⟩ := r2.int_inv
  obtain ⟨k, hx⟩ := hx
  have hl2 := k2 _ _ hx
  have e1 : items.size = xs.length := by rw [← ri.length]; simp
  have hz2 : items.size * n.toNat ≤ 2 ^ 20 := by rw [e1]; exact hz
  refine wpAny_binaryOp_repeat_ref (T := "list") (U := "int") (by decide) ⟨_, hl2, rfl⟩ (fun s' => typeIs_int s' n u) noFill_list_mul F.fills_int_mul F.slot_int_rmul repeat_list F.slot_int_index.lookup
    (call_meets F.slot_int_rmul (typeIs_int _ n u) F.entry_int_rmul (F.args_int_rmul_2 _ _) (int___rmul___int_list n u a items k)
      ⟨hl2, rfl, ⟨_, hl2, rfl⟩, call_meets F.slot_list_mul ⟨_, hl2, rfl⟩ F.entry_list_mul (F.args_list_mul_2 _ _)
        (AutoListH.list___mul___list_int_3 a items k n u (by simp [Builtin.List.listFitsIndex]; omega) (by omega) (by simp [Builtin.List.listTooLong, sizeLine]; omega))
        ⟨hl2, ?_⟩⟩)
  have := newF (s₀ := s) q (k1.trans k2) (t1 := t2) ((ri.keep k2).times n.toNat)
  have e2 : (List.replicate n.toNat items.toList).flatten.toArray = List.foldl (fun x1 x2 => x1 ++ x2) #[] (List.replicate (if items.isEmpty = true then 0 else n.toNat) items) := by
    apply Array.toList_inj.mp
    rw [foldl_rep]
    split
    · rename_i he
      have : items.toList = [] := by simpa using he
      simp [this]
    · simp
  rw [e2] at this
  exact this
end
def part (L : List Int) (k j : Nat) : List (Int × Int) := (List.range L.length).map fun s => if 0 < L.getD s 0 ∧ (L.getD s 0 ≤ k ∨ (L.getD s 0 = k + 1 ∧ s < j)) then code L s else (0, 0)
theorem part_len (L : List Int) (k j : Nat) : (part L k j).length = L.length := by simp [part]
theorem part_hit {L : List Int} {k j : Nat} (hj : j < L.length) (h : L.getD j 0 = k + 1) : (part L k j).set j (code L j) = part L k (j + 1) := by
  apply List.ext_getElem?
  intro i
  rw [List.getElem?_set]
  by_cases q : j = i
  · subst q
    simp only [if_true, part_len, hj]
    unfold part
    rw [List.getElem?_map, List.getElem?_range hj]
    simp only [Option.map_some]
    rw [if_pos (by omega)]
  · simp only [q, if_false]
    unfold part
    rw [List.getElem?_map, List.getElem?_map]
    by_cases hi : i < L.length
    · rw [List.getElem?_range hi]
      simp only [Option.map_some]
      congr 1
      by_cases w : 0 < L.getD i 0 ∧ (L.getD i 0 ≤ k ∨ (L.getD i 0 = k + 1 ∧ i < j))
      · rw [if_pos w, if_pos (by omega)]
      · rw [if_neg w, if_neg (by omega)]
    · rw [List.getElem?_eq_none (by simp; omega)]; rfl
theorem part_miss {L : List Int} {k j : Nat} (h : L.getD j 0 ≠ k + 1) : part L k j = part L k (j + 1) := by
  unfold part
  apply List.map_congr_left
  intro i _
  by_cases q : i = j
  · subst q
    by_cases w : 0 < L.getD i 0 ∧ (L.getD i 0 ≤ k ∨ (L.getD i 0 = k + 1 ∧ i < i))
    · rw [if_pos w, if_pos (by omega)]
    · rw [if_neg w, if_neg (by omega)]
  · by_cases w : 0 < L.getD i 0 ∧ (L.getD i 0 ≤ k ∨ (L.getD i 0 = k + 1 ∧ i < j))
    · rw [if_pos w, if_pos (by omega)]
    · rw [if_neg w, if_neg (by omega)]
theorem part_next {L : List Int} {k : Nat} : part L k L.length = part L (k + 1) 0 := by
  unfold part
  apply List.map_congr_left
  intro i hi
  have := List.mem_range.mp hi
  by_cases w : 0 < L.getD i 0 ∧ (L.getD i 0 ≤ k ∨ (L.getD i 0 = k + 1 ∧ i < L.length))
  · rw [if_pos w, if_pos (by omega)]
  · rw [if_neg w, if_neg (by omega)]
theorem part_start {L : List Int} : part L 0 0 = List.replicate L.length (0, 0) := by
  unfold part
  apply List.ext_getElem?
  intro i
  rw [List.getElem?_map, List.getElem?_replicate]
  by_cases hi : i < L.length
  · rw [List.getElem?_range hi, if_pos hi]
    simp only [Option.map_some]
    rw [if_neg (by omega)]
  · rw [List.getElem?_eq_none (by simp; omega), if_neg hi]; rfl
theorem part_end {L : List Int} {k : Nat} (h : ∀ i, 0 ≤ L.getD i 0 ∧ L.getD i 0 ≤ k) : part L k 0 = codesOf L := by
  unfold part codesOf
  apply List.map_congr_left
  intro i _
  have := h i
  by_cases w : L.getD i 0 = 0
  · rw [if_neg (by omega), code_zero w]
  · rw [if_pos (by omega)]
def bitsI (v : Int) (w : Nat) : List Int := (List.range w).map fun k => v / 2 ^ (w - 1 - k) % 2
theorem bitsI_len (v : Int) (w : Nat) : (bitsI v w).length = w := by simp [bitsI]
theorem bitsI_succ (v : Int) (j : Nat) : bitsI v (j + 1) = (v / 2 ^ j % 2) :: bitsI v j := by
  unfold bitsI
  rw [List.range_succ_eq_map, List.map_cons, List.map_map]
  congr 1
  apply List.map_congr_left
  intro k _
  simp only [Function.comp]
  rw [show j + 1 - 1 - Nat.succ k = j - 1 - k by omega]
end Mine
end
section
namespace Mine
open PySem PySem.Calls
theorem bitsI_get {v : Int} {n j : Nat} (h : j < n) : (bitsI v n)[j]? = some (v / 2 ^ (n - 1 - j) % 2) := by
  unfold bitsI
  rw [List.getElem?_map, List.getElem?_range h]; rfl
/-- the key behind j bits of a word -/
def keyAt (v : Int) (n j : Nat) : Int := 2 ^ j + v / 2 ^ (n - j)
theorem keyAt_zero {v : Int} {n : Nat} (h0 : 0 ≤ v) (h : v < 2 ^ n) : keyAt v n 0 = 1 := by
  unfold keyAt
  rw [Nat.sub_zero, Int.ediv_eq_zero_of_lt h0 h]; rfl
theorem keyAt_full {v : Int} {n : Nat} : keyAt v n n = 2 ^ n + v := by
  unfold keyAt
  rw [Nat.sub_self, Int.pow_zero, Int.ediv_one]
theorem keyAt_succ {v : Int} {n j : Nat} (h : j < n) : keyAt v n (j + 1) = keyAt v n j * 2 + v / 2 ^ (n - 1 - j) % 2 := by
  unfold keyAt
  have e : v / 2 ^ (n - j) = v / 2 ^ (n - 1 - j) / 2 := by
    rw [show n - j = (n - 1 - j) + 1 by omega, Int.pow_succ, Int.ediv_ediv_of_nonneg (Int.le_of_lt (pow_pos2 _))]
  rw [e, show n - (j + 1) = n - 1 - j by omega, Int.pow_succ]
  omega
end Mine
end
section
namespace Mine
open PySem PySem.Calls

local macro_rules | `(tactic| walk_at "side") => `(tactic| first | assumption | with_unfolding_all rfl | omega | decide | (simp only [List.length_map, List.length_cons, List.length_nil, List.length_append, List.length_set]; omega) | exact shaped_li _ | exact shaped_t2 _ _ | exact shaped_lt _ | exact Int.emod_nonneg _ (by omega) | exact Int.emod_lt_of_pos _ (by omega) | exact Int.lt_of_lt_of_le (Int.emod_lt_of_pos _ (by omega)) (by omega))
local macro_rules | `(tactic| walk_at "evcall") => `(tactic| fail "no call")
local macro_rules | `(tactic| walk_at "ev") => `(tactic| first
  | with_reducible exact EV.int
  | with_reducible exact EV.bool
  | with_reducible exact EV.str
  | (with_reducible apply EV.var; all_goals with_unfolding_all rfl)
  | (with_reducible apply EV.add; all_goals walk_at "ev")
  | (with_reducible apply EV.sub; all_goals walk_at "ev")
  | (with_reducible apply EV.mul; all_goals walk_at "ev")
  | (with_reducible apply EV.pow; all_goals walk_at "ev")
  | (with_reducible apply EV.modP; all_goals walk_at "ev")
  | (with_reducible apply EV.fdivP; all_goals walk_at "ev")
  | (with_reducible apply EV.neg; all_goals walk_at "ev")
  | (with_reducible apply EV.len'; all_goals walk_at "ev")
  | (with_reducible apply EV.min'; all_goals walk_at "ev")
  | (with_reducible apply EV.max'; all_goals walk_at "ev")
  | (with_reducible apply EV.abs'; all_goals walk_at "ev")
  | (with_reducible apply EV.tuple; all_goals walk_at "ev")
  | (with_reducible apply EV.itemTI; all_goals walk_at "ev")
  | (with_reducible apply EV.itemT; all_goals walk_at "ev")
  | (with_reducible apply EV.itemI; all_goals walk_at "ev")
  | walk_at "evcall"
  | (with_reducible apply EVF.evI; all_goals walk_at "ev")
  | (with_reducible apply EVF.ev; all_goals walk_at "ev")
  | (with_reducible apply EVo.own; all_goals with_unfolding_all rfl)
  | (with_reducible apply EV.evo; all_goals walk_at "ev")
  | with_reducible exact EVs.nil
  | (with_reducible apply EVs.cons; all_goals walk_at "ev")
  | with_reducible exact EVp.none
  | (with_reducible apply EVp.some; all_goals walk_at "ev")
  | (with_reducible apply EVF.listOf; all_goals walk_at "ev")
  | (with_reducible apply EVF.sliceI; all_goals walk_at "ev")
  | (with_reducible apply EVF.catI; all_goals walk_at "ev")
  | (with_reducible apply EVF.list; all_goals walk_at "ev")
  | (with_reducible apply EVF.slice; all_goals walk_at "ev")
  | (with_reducible apply EVF.cat; all_goals walk_at "ev")
  | (with_reducible apply TS.lt; all_goals walk_at "ev")
  | (with_reducible apply TS.gt; all_goals walk_at "ev")
  | (with_reducible apply TS.le; all_goals walk_at "ev")
  | (with_reducible apply TS.ge; all_goals walk_at "ev")
  | (with_reducible apply TS.eq; all_goals walk_at "ev")
  | (with_reducible apply TS.ne; all_goals walk_at "ev")
  | (with_reducible apply TS.not; all_goals walk_at "ev")
  | (with_reducible apply TS.isNot; all_goals walk_at "ev")
  | (with_reducible apply TS.neD; all_goals walk_at "ev")
  | (with_reducible apply TS.eqD; all_goals walk_at "ev")
  | (with_reducible apply TS.val; all_goals walk_at "ev")
  | (with_reducible apply TS.and2; all_goals first | (intro _; walk_at "ev") | walk_at "ev")
  | (with_reducible apply TS.or2; all_goals first | (intro _; walk_at "ev") | walk_at "ev")
  | (with_reducible apply IT.rangeDown'; all_goals walk_at "ev")
  | (with_reducible apply IT.range1'; all_goals walk_at "ev")
  | (with_reducible apply IT.range2'; all_goals walk_at "ev")
  | (with_reducible apply IT.list; all_goals walk_at "ev")
  | (with_reducible apply IT.tuple; all_goals walk_at "ev")
  | walk_at "side")
local macro_rules | `(tactic| walk_at "assign") => `(tactic| (with_reducible apply WP.assign (c := _) (rest := _); all_goals first | with_reducible show WP _ _ _ _ | walk_at "ev"))
local macro_rules | `(tactic| walk_at "assignOwn") => `(tactic| (with_reducible apply WP.assignOwn; all_goals first | with_reducible show WP _ _ _ _ | walk_at "ev"))
local macro_rules | `(tactic| walk_at "append") => `(tactic| first | (with_reducible apply WP.appendI; all_goals first | with_reducible show WP _ _ _ _ | walk_at "ev") | (with_reducible apply WP.append; all_goals first | with_reducible show WP _ _ _ _ | walk_at "ev"))
local macro_rules | `(tactic| walk_at "ret") => `(tactic| (with_reducible apply WP.ret; all_goals first | with_reducible show EV _ _ _ _; walk_at "ev" | skip))
local macro_rules | `(tactic| walk_at "next") => `(tactic| (refine WP.nil ?_; with_unfolding_all show WP _ _ _ _))


abbrev P103 := PySem.Challenge.pw_pd_squeeze_1_03
def shapes : List (List Int) := [[1], [1, 1], [1, 2, 3, 3], [2, 2, 2, 2], [1, 2, 3, 4, 4], [0, 0], [1, 1, 2], [2, 2, 2, 2, 4]]

structure H103 (G : GX) (F : Nat → Addr) : Prop where
  ok : G.Ok
  bis : Bis G
  fe : OwnX G "FormatError" (F 1)
  ve : BI G (PySem.Str.ofString "ValueError") (.type "ValueError")
  cc : Def G P103 2 "canonical_codes" (F 2) ["lengths"]
  pf : Def G P103 3 "is_prefix_free" (F 3) ["codes"]
  bo : Def G P103 4 "bits_of" (F 4) ["value", "width"]
  enc : Def G P103 5 "encode_symbols" (F 5) ["symbols", "codes"]
  dt : Def G P103 6 "decoding_table" (F 6) ["codes"]
  dec : Def G P103 7 "decode_symbols" (F 7) ["bits", "codes", "count"]
  cell : Def G P103 10 "_law_cell" (F 10) ["script", "i"]
  lens : Def G P103 11 "_law_lengths" (F 11) ["script"]
  lcodes : Def G P103 12 "_law_codes" (F 12) ["lengths"]
  word : Def G P103 13 "_law_word" (F 13) ["v", "n"]
  lenc : Def G P103 14 "_law_encoded" (F 14) ["symbols", "codes"]
  ldec : Def G P103 15 "_law_decoded" (F 15) ["bits", "codes", "count"]
  law : Def G P103 16 "law" (F 16) ["script"]
  shapes : ∃ v as, G.mg "_law_shapes" = some v ∧ Reads G.hb v (.list (shapes.map LI)) as ∧ ∀ a ∈ as, Plain G.hb a

def cellI (ns : List Int) (k : Int) : Int := if k < ns.length then ns.getD k.toNat 0 else k
set_option maxRecDepth 100000 in
theorem cell_body {G : GX} (B : Bis G) {A : Around} {env : Env} {h0 : Heap} {n : Nat} {ns : List Int} {k : Int} (hk : 0 ≤ k) (hz : ns.length < 2 ^ 20) :
    WP ⟨G, A, env, h0, ["script", "i"], kindsAt P103 10, n⟩ [.val (LI ns), .val (.int k)] (bodyAt P103 10) (fun o => ∃ d, o = .ret d ∧ d = .int (cellI ns k)) := by
  conv => enter [1, 6]; whnf
  conv => enter [3]; whnf
  have hlen : (ns.map PyData.int).length = ns.length := by simp
  refine WP.ite (by walk_at "ev") ?_ ?_
  all_goals rw [hlen]; intro hb; simp at hb
  · refine WP.ret (by walk_at "ev") ⟨_, rfl, ?_⟩
    rw [cellI, if_pos hb]
  · refine WP.nil (WP.ret (by walk_at "ev") ⟨_, rfl, ?_⟩)
    rw [cellI, if_neg (by omega)]
theorem ev_cell {c : Cx} {σ : List Slot} {F : Nat → Addr} (H : H103 c.G F) {es ek : Expr} {p pos : Pos} {ns : List Int} {k : Int} (hs : EV c σ es (LI ns)) (hi : EV c σ ek (.int k))
    (hk : c.kinds.lookup (PySem.Str.ofString "_law_cell") = some .globalImplicit) (n1 : noStar es = true) (n2 : noStar ek = true) (h1 : 0 ≤ k) (hz : ns.length < 2 ^ 20) (hr : 1 ≤ c.room) :
    EV c σ (.Call (.Name "_law_cell" p) [es, ek] [] pos) (.int (cellI ns k)) :=
  EV.call hk (by decide) H.cell.isFn (EVs.cons hs (EVs.one hi n2) n1) n1 (H.cell.spec (more := []) (n := 0) H.ok rfl fun A env h0 => cell_body H.bis h1 hz) hr

/-- lengths that the law builds -/
structure Lens (L : List Int) : Prop where
  lo : ∀ x ∈ L, 0 ≤ x ∧ x ≤ 4
  len : L.length ≤ 7
theorem Lens.at {L : List Int} (h : Lens L) (i : Nat) : 0 ≤ L.getD i 0 ∧ L.getD i 0 ≤ 4 := getD_all (P := fun x => 0 ≤ x ∧ x ≤ 4) L i h.lo (by decide)
theorem pow_le2 : ∀ n : Nat, n ≤ 4 → 0 < (2 : Int) ^ n ∧ (2 : Int) ^ n ≤ 16 := by decide

set_option maxRecDepth 100000 in
theorem lcodes_body {G : GX} (B : Bis G) {A : Around} {env : Env} {h0 : Heap} {k : Nat} {L : List Int} (hL : Lens L) :
    WP ⟨G, A, env, h0, ["lengths", "want", "s", "n", "v", "t", "m"], kindsAt P103 12, k⟩ [.val (LI L), .un, .un, .un, .un, .un, .un] (bodyAt P103 12) (fun o => ∃ d, o = .ret d ∧ d = LP (codesOf L)) := by
  conv => enter [1, 6]; whnf
  conv => enter [3]; whnf
  have hlen : (L.map PyData.int).length = L.length := by simp
  have hl7 := hL.len
  walk_at "assignOwn"
  refine WP.forIn (fun j σ => ∃ s1 s2 s3 s4 s5 : Slot, σ = [.val (LI L), .own (((List.range j).map (code L)).map P2), s1, s2, s3, s4, s5]) (by walk_at "ev") rfl ?_ ?_ ?_
  · exact ⟨_, _, _, _, _, rfl⟩
  · rintro s d σ hd ⟨s1, s2, s3, s4, s5, rfl⟩
    obtain ⟨rfl, hst⟩ := rng_get hd
    rw [hlen] at hst
    refine ⟨_, TG.name rfl rfl, ?_⟩
    walk_at "assign"
    rw [show (0 + (s : Int)).toNat = s by omega]
    have hn := hL.at s
    generalize hnn : L.getD s 0 = n at hn
    walk_at "assign"
    refine WP.forIn (fun t σ => ∃ s4 s5 : Slot, σ = [.val (LI L), .own (((List.range s).map (code L)).map P2), .val (.int (0 + s)), .val (.int n), .val (.int (vsum L n s t)), s4, s5]) (by walk_at "ev") rfl ?_ ?_ ?_
    · exact ⟨_, _, rfl⟩
    · rintro t d σ hd ⟨s4, s5, rfl⟩
      obtain ⟨rfl, htt⟩ := rng_get hd
      rw [hlen] at htt
      refine ⟨_, TG.name rfl rfl, ?_⟩
      walk_at "assign"
      rw [show (0 + (t : Int)).toNat = t by omega]
      have hm := hL.at t
      have hp1 := pow_le2 (L.getD t 0).toNat (by omega)
      have hp2 := hp1.1
      have hp3 : (2 : Int) ^ (L.getD t 0).toNat < 1073741824 := by omega
      refine WP.ite (TS.and2 (by walk_at "ev") fun _ => TS.or2 (by walk_at "ev") fun _ => TS.and2 (by walk_at "ev") fun _ => by walk_at "ev") ?_ ?_
      · intro hb
        have hbe : bef L n s t = true := by
          simp only [bef]; apply decide_eq_true
          simp only [Bool.and_eq_true, Bool.or_eq_true, decide_eq_true_eq] at hb; omega
        walk_at "assign"
        refine WP.nil (WP.nil ?_)
        show ∃ s4 s5 : Slot, _ = _
        rw [vsum, if_pos hbe]
        exact ⟨_, _, rfl⟩
      · intro hb
        have hbe : ¬ bef L n s t = true := by
          intro h
          have := of_decide_eq_true (show decide _ = true from h)
          simp only [Bool.and_eq_false_iff, Bool.or_eq_false_iff, decide_eq_false_iff_not] at hb; omega
        refine WP.nil (WP.nil ?_)
        show ∃ s4 s5 : Slot, _ = _
        rw [vsum, if_neg hbe, Int.add_zero]
        exact ⟨_, _, rfl⟩
    · rintro σ ⟨s4, s5, rfl⟩
      rw [rng_length, hlen, show ((L.length : Int) - 0).toNat = L.length by omega]
      refine WP.append rfl rfl rfl (by walk_at "ev") rfl rfl (by simp; omega) ?_
      refine WP.nil ?_
      show ∃ s1 s2 s3 s4 s5 : Slot, _ = _
      have e : ((List.range (s + 1)).map (code L)).map P2 = ((List.range s).map (code L)).map P2 ++ [PyData.tuple [.int (vsum L n s L.length), .int n]] := by
        rw [List.range_succ, List.map_append, List.map_append, ← hnn]; rfl
      rw [e]
      exact ⟨_, _, _, _, _, rfl⟩
  · rintro σ ⟨s1, s2, s3, s4, s5, rfl⟩
    rw [rng_length, hlen, show ((L.length : Int) - 0).toNat = L.length by omega]
    refine WP.freeze 1 rfl ?_
    exact WP.ret (by walk_at "ev") ⟨_, rfl, rfl⟩
theorem ev_lcodes {c : Cx} {σ : List Slot} {F : Nat → Addr} (H : H103 c.G F) {e : Expr} {p pos : Pos} {L : List Int} (hs : EV c σ e (LI L)) (hk : c.kinds.lookup (PySem.Str.ofString "_law_codes") = some .globalImplicit) (n1 : noStar e = true) (hL : Lens L) (hr : 1 ≤ c.room) :
    EV c σ (.Call (.Name "_law_codes" p) [e] [] pos) (LP (codesOf L)) :=
  EV.call hk (by decide) H.lcodes.isFn (EVs.one hs n1) n1 (H.lcodes.spec (more := ["want", "s", "n", "v", "t", "m"]) (n := 0) H.ok rfl fun A env h0 => lcodes_body H.bis hL) hr
theorem flat_one {n : Nat} (x : D) : (List.replicate n [x]).flatten = List.replicate n x := List.flatten_replicate_singleton
set_option maxRecDepth 100000 in
theorem cc_body {G : GX} (B : Bis G) {A : Around} {env : Env} {h0 : Heap} {q : Nat} {L : List Int} (hL : Lens L) :
    WP ⟨G, A, env, h0, ["lengths", "codes", "value", "n", "symbol"], kindsAt P103 2, q⟩ [.val (LI L), .un, .un, .un, .un] (bodyAt P103 2) (fun o => ∃ d, o = .ret d ∧ d = LP (codesOf L)) := by
  conv => enter [1, 6]; whnf
  conv => enter [3]; whnf
  have hlen : (L.map PyData.int).length = L.length := by simp
  have hl7 := hL.len
  have e0 : (List.replicate (((L.map PyData.int).length : Nat) : Int).toNat [P2 (0, 0)]).flatten = (part L 0 0).map P2 := by
    rw [hlen, Int.toNat_natCast, flat_one, part_start, List.map_replicate]
  refine WP.assignOwn rfl rfl rfl (EVF.is (EVF.mulN (xs := [P2 (0, 0)]) (n := (((L.map PyData.int).length : Nat) : Int)) (EV.evo (by walk_at "ev")) (by walk_at "ev") (by omega) (by rw [hlen]; simp; omega) (by omega)) e0) ?_
  walk_at "assign"
  have hm0 : 0 < ([0] ++ L).length := by simp
  have hmx : 0 ≤ lmax ([0] ++ L) ∧ lmax ([0] ++ L) ≤ 4 := by
    have := lmax_mem hm0
    rcases List.mem_append.mp this with h | h
    · rw [List.mem_singleton.mp h]; omega
    · exact hL.lo _ h
  have hge : ∀ i, 0 ≤ L.getD i 0 ∧ L.getD i 0 ≤ ((lmax ([0] ++ L)).toNat : Nat) := fun i => by
    refine getD_all (P := fun x => 0 ≤ x ∧ x ≤ ((lmax ([0] ++ L)).toNat : Nat)) L i (fun x hx => ⟨(hL.lo x hx).1, ?_⟩) ⟨by omega, by omega⟩
    have := lmax_ge (ns := [0] ++ L) x (List.mem_append_right _ hx)
    omega
  have hEV : ∀ {σ' : List Slot} {e : Expr} {p : Pos}, True := trivial
  refine WP.forIn (fun k σ => ∃ s1 s2 : Slot, σ = [.val (LI L), .own ((part L k 0).map P2), .val (.int (vsum L k L.length L.length)), s1, s2]) (ds := rng 1 (lmax ([0] ++ L) + 1))
    (IT.range2' B (by walk_at "ev") (EV.add (EV.maxL B (EVF.ev (EVF.is (EVF.cat (xs := [.int 0]) (ys := L.map PyData.int) (by walk_at "ev") (by walk_at "ev") (by simp; omega)) (show _ = ([0] ++ L).map PyData.int by simp))) rfl rfl hm0) (by walk_at "ev")) rfl rfl rfl (by omega) (by omega) (by omega) (by omega)) rfl ?_ ?_ ?_
  · refine ⟨.un, .un, ?_⟩
    rw [show ((0 : Nat) : Int) = 0 from rfl, vsum_zero]; rfl
  · rintro k d σ hd ⟨s1, s2, rfl⟩
    obtain ⟨rfl, hkt⟩ := rng_get hd
    rw [show (1 + (k : Int)) = ((k + 1 : Nat) : Int) by omega]
    refine ⟨_, TG.name rfl rfl, ?_⟩
    have hvn := vsum_nonneg (L := L) (n := (k : Int)) (s := L.length) L.length
    refine WP.assign rfl rfl rfl (EV.mul (by walk_at "ev") (by walk_at "ev") (.inr (by decide))) ?_
    rw [← vsum_double L.length (Nat.le_refl _)]
    refine WP.forIn (fun j σ => ∃ s2 : Slot, σ = [.val (LI L), .own ((part L k j).map P2), .val (.int (vsum L ((k + 1 : Nat) : Int) j L.length)), .val (.int ((k + 1 : Nat) : Int)), s2]) (by walk_at "ev") rfl ?_ ?_ ?_
    · exact ⟨_, rfl⟩
    · rintro j d σ hd ⟨s2, rfl⟩
      obtain ⟨rfl, hjt⟩ := rng_get hd
      rw [hlen] at hjt
      have hj : j < L.length := by omega
      refine ⟨_, TG.name rfl rfl, ?_⟩
      have hnx := vsum_next (L := L) (n := ((k + 1 : Nat) : Int)) (by omega) (j := j) L.length
      refine WP.ite (by walk_at "ev") ?_ ?_
      all_goals rw [show (0 + (j : Int)).toNat = j by omega]; intro hb
      · have hb : L.getD j 0 = ((k + 1 : Nat) : Int) := of_decide_eq_true hb
        rw [if_pos ⟨hj, hb⟩] at hnx
        have ec : code L j = (vsum L ((k + 1 : Nat) : Int) j L.length, ((k + 1 : Nat) : Int)) := by unfold code; rw [hb]
        have ep := part_hit (k := k) hj (by rw [hb]; rfl)
        refine WP.setItem (d := P2 (code L j)) rfl rfl rfl (k := 0 + (j : Int)) (by walk_at "ev") (by rw [ec]; walk_at "ev") rfl (by omega) (by rw [List.length_map, part_len]; omega) (by omega) ?_
        walk_at "assign"
        refine WP.nil (WP.nil ?_)
        show ∃ s2 : Slot, _ = _
        rw [hnx, ← ep, List.map_set, show (0 + (j : Int)).toNat = j by omega]
        exact ⟨_, rfl⟩
      · have hb : L.getD j 0 ≠ ((k + 1 : Nat) : Int) := of_decide_eq_false hb
        rw [if_neg fun w => hb w.2, Int.add_zero] at hnx
        refine WP.nil (WP.nil ?_)
        show ∃ s2 : Slot, _ = _
        rw [hnx, ← part_miss (k := k) (by intro w; exact hb (by rw [w]; rfl))]
        exact ⟨_, rfl⟩
    · rintro σ ⟨s2, rfl⟩
      rw [rng_length, hlen, show ((L.length : Int) - 0).toNat = L.length by omega, part_next]
      exact WP.nil ⟨_, _, rfl⟩
  · rintro σ ⟨s1, s2, rfl⟩
    rw [rng_length, show (lmax ([0] ++ L) + 1 - 1).toNat = (lmax ([0] ++ L)).toNat by omega, part_end hge]
    refine WP.freeze 1 rfl ?_
    exact WP.ret (by walk_at "ev") ⟨_, rfl, rfl⟩
theorem ev_cc {c : Cx} {σ : List Slot} {F : Nat → Addr} (H : H103 c.G F) {e : Expr} {p pos : Pos} {L : List Int} (hs : EV c σ e (LI L)) (hk : c.kinds.lookup (PySem.Str.ofString "canonical_codes") = some .globalImplicit) (n1 : noStar e = true) (hL : Lens L) (hr : 1 ≤ c.room) :
    EV c σ (.Call (.Name "canonical_codes" p) [e] [] pos) (LP (codesOf L)) :=
  EV.call hk (by decide) H.cc.isFn (EVs.one hs n1) n1 (H.cc.spec (more := ["codes", "value", "n", "symbol"]) (n := 0) H.ok rfl fun A env h0 => cc_body H.bis hL) hr
set_option maxRecDepth 100000 in
theorem bo_body {G : GX} (B : Bis G) {A : Around} {env : Env} {h0 : Heap} {q : Nat} {v : Int} {w : Nat} (hw : w ≤ 8) :
    WP ⟨G, A, env, h0, ["value", "width"], kindsAt P103 4, q⟩ [.val (.int v), .val (.int w)] (bodyAt P103 4) (fun o => ∃ d, o = .ret d ∧ d = LI (bitsI v w)) := by
  conv => enter [1, 6]; whnf
  conv => enter [3]; whnf
  refine WP.ret (EVF.evI (EVF.comp' (ys := (bitsI v w).map PyData.int) (xs := List.range ((w : Int) - 0).toNat) (ι := fun (i : Nat) => PyData.int (0 + i)) (f := fun (i : Nat) => PyData.int (v / 2 ^ ((w : Int) - 1 - (0 + (i : Int))).toNat % 2)) (fr := [("value", _), ("width", _)])
    (show IT _ _ _ (rng 0 (w : Int)) by walk_at "ev") ⟨rfl, rfl, by decide, rfl, (by show (["k", "value", "width"] : List Str).Nodup; decide), rfl, ⟨⟨_, rfl, rfl, rfl, rfl⟩, ⟨_, rfl, rfl, rfl, rfl⟩, trivial⟩⟩ rfl rfl (by simp; omega) ?_ ?_)) ⟨_, rfl, rfl⟩
  · intro env' i hi
    have hi' : i < w := by have := List.mem_range.mp hi; omega
    have hp := pow_pos2 ((w : Int) - 1 - (0 + (i : Int))).toNat
    have hp2 : (2 : Int) ^ ((w : Int) - 1 - (0 + (i : Int))).toNat < 1073741824 := by
      have h8 : ∀ n : Nat, n ≤ 8 → (2 : Int) ^ n < 1073741824 := by decide
      exact h8 _ (by omega)
    walk_at "ev"
  · unfold bitsI
    rw [List.map_map, show ((w : Int) - 0).toNat = w by omega]
    apply List.map_congr_left
    intro i hi
    have := List.mem_range.mp hi
    simp only [Function.comp]
    rw [show ((w : Int) - 1 - (0 + (i : Int))).toNat = w - 1 - i by omega]
theorem ev_bo {c : Cx} {σ : List Slot} {F : Nat → Addr} (H : H103 c.G F) {e e' : Expr} {p pos : Pos} {v w : Int} (hs : EV c σ e (.int v)) (hs' : EV c σ e' (.int w)) (hk : c.kinds.lookup (PySem.Str.ofString "bits_of") = some .globalImplicit) (n1 : noStar e = true) (n2 : noStar e' = true) (h0 : 0 ≤ w) (hw : w ≤ 8) (hr : 1 ≤ c.room) :
    EV c σ (.Call (.Name "bits_of" p) [e, e'] [] pos) (LI (bitsI v w.toNat)) := by
  refine EV.call hk (by decide) H.bo.isFn (EVs.cons hs (EVs.one hs' n2) n1) n1 (H.bo.spec (more := []) (n := 0) H.ok rfl fun A env h0' => ?_) hr
  have := bo_body (A := A) (env := env) (h0 := h0') (q := 0) H.bis (v := v) (w := w.toNat) (by omega)
  rw [show ((w.toNat : Nat) : Int) = w by omega] at this
  exact this
set_option maxRecDepth 100000 in
theorem word_body {G : GX} (B : Bis G) {A : Around} {env : Env} {h0 : Heap} {q : Nat} {v : Int} {w : Nat} (hw : w ≤ 8) :
    WP ⟨G, A, env, h0, ["v", "n", "word", "_"], kindsAt P103 13, q⟩ [.val (.int v), .val (.int w), .un, .un] (bodyAt P103 13) (fun o => ∃ d, o = .ret d ∧ d = LI (bitsI v w)) := by
  conv => enter [1, 6]; whnf
  conv => enter [3]; whnf
  walk_at "assign"
  refine WP.forIn (fun j σ => ∃ s1 : Slot, σ = [.val (.int (v / 2 ^ j)), .val (.int w), .val (LI (bitsI v j)), s1]) (by walk_at "ev") rfl ?_ ?_ ?_
  · refine ⟨.un, ?_⟩
    rw [Int.pow_zero, Int.ediv_one]; rfl
  · rintro j d σ hd ⟨s1, rfl⟩
    obtain ⟨rfl, hjt⟩ := rng_get hd
    refine ⟨_, TG.name rfl rfl, ?_⟩
    have hbl := bitsI_len v j
    refine WP.assign rfl rfl rfl (EVF.ev (EVF.is (EVF.cat (xs := [.int (v / 2 ^ j % 2)]) (ys := (bitsI v j).map PyData.int) (by walk_at "ev") (by walk_at "ev") (by simp; omega)) (show _ = (bitsI v (j + 1)).map PyData.int by rw [bitsI_succ]; rfl))) ?_
    walk_at "assign"
    refine WP.nil ?_
    show ∃ s1 : Slot, _ = _
    have e : v / 2 ^ (j + 1) = v / 2 ^ j / 2 := by
      rw [Int.pow_succ, Int.ediv_ediv_of_nonneg (Int.le_of_lt (pow_pos2 j))]
    rw [e]
    exact ⟨_, rfl⟩
  · rintro σ ⟨s1, rfl⟩
    rw [rng_length, show ((w : Int) - 0).toNat = w by omega]
    exact WP.ret (by walk_at "ev") ⟨_, rfl, rfl⟩
theorem ev_word {c : Cx} {σ : List Slot} {F : Nat → Addr} (H : H103 c.G F) {e e' : Expr} {p pos : Pos} {v w : Int} (hs : EV c σ e (.int v)) (hs' : EV c σ e' (.int w)) (hk : c.kinds.lookup (PySem.Str.ofString "_law_word") = some .globalImplicit) (n1 : noStar e = true) (n2 : noStar e' = true) (h0 : 0 ≤ w) (hw : w ≤ 8) (hr : 1 ≤ c.room) :
    EV c σ (.Call (.Name "_law_word" p) [e, e'] [] pos) (LI (bitsI v w.toNat)) := by
  refine EV.call hk (by decide) H.word.isFn (EVs.cons hs (EVs.one hs' n2) n1) n1 (H.word.spec (more := ["word", "_"]) (n := 0) H.ok rfl fun A env h0' => ?_) hr
  have := word_body (A := A) (env := env) (h0 := h0') (q := 0) H.bis (v := v) (w := w.toNat) (by omega)
  rw [show ((w.toNat : Nat) : Int) = w by omega] at this
  exact this
/-- a symbol's code and word -/
def cAt (cs : List (Int × Int)) (s : Int) : Int × Int := cs.getD s.toNat (0, 0)
def wAt (cs : List (Int × Int)) (s : Int) : List Int := bitsI (cAt cs s).1 (cAt cs s).2.toNat
theorem cAt_get {cs : List (Int × Int)} {s : Int} (h0 : 0 ≤ s) (h : s < cs.length) : (cs.map P2)[s.toNat]? = some (P2 (cAt cs s)) := by
  have : s.toNat < cs.length := by omega
  rw [List.getElem?_map, List.getElem?_eq_getElem this, cAt, List.getD_eq_getElem?_getD, List.getElem?_eq_getElem this]; rfl
structure Cds (cs : List (Int × Int)) : Prop where
  lo : ∀ p ∈ cs, 0 ≤ p.2 ∧ p.2 ≤ 4
  len : cs.length ≤ 7
theorem Cds.at {cs : List (Int × Int)} (h : Cds cs) (s : Int) : 0 ≤ (cAt cs s).2 ∧ (cAt cs s).2 ≤ 4 := by
  unfold cAt
  by_cases q : s.toNat < cs.length
  · rw [List.getD_eq_getElem?_getD, List.getElem?_eq_getElem q]
    exact h.lo _ (List.getElem_mem q)
  · rw [List.getD_eq_getElem?_getD, List.getElem?_eq_none (by omega)]; decide
local macro_rules | `(tactic| walk_at "evcall") => `(tactic| first | (with_reducible apply ev_bo; all_goals walk_at "ev"))
def encOf (cs : List (Int × Int)) (ss : List Int) : List Int := ss.flatMap (wAt cs)
theorem encOf_len {cs : List (Int × Int)} (h : Cds cs) : ∀ ss : List Int, (encOf cs ss).length ≤ 4 * ss.length
  | [] => by simp [encOf]
  | s :: ss => by
    have := encOf_len h ss
    have h1 := h.at s
    simp only [encOf, List.flatMap_cons, List.length_append, List.length_cons] at this ⊢
    rw [wAt, bitsI_len]; omega
set_option maxRecDepth 100000 in
theorem enc_body {G : GX} {F : Nat → Addr} (H : H103 G F) {A : Around} {env : Env} {h0 : Heap} {q : Nat} (hq : 1 ≤ q) {cs : List (Int × Int)} {ss : List Int} (hc : Cds cs) (hs : ∀ s ∈ ss, 0 ≤ s ∧ s < cs.length ∧ (cAt cs s).2 ≠ 0) (hz : ss.length ≤ 1000) :
    WP ⟨G, A, env, h0, ["symbols", "codes", "bits", "symbol", "value", "length", "bit"], kindsAt P103 5, q⟩ [.val (LI ss), .val (LP cs), .un, .un, .un, .un, .un] (bodyAt P103 5) (fun o => ∃ d, o = .ret d ∧ d = LI (encOf cs ss)) := by
  conv => enter [1, 6]; whnf
  conv => enter [3]; whnf
  have B := H.bis
  have hc7 := hc.len
  walk_at "assignOwn"
  refine WP.forIn (fun k σ => ∃ s1 s2 s3 s4 : Slot, σ = [.val (LI ss), .val (LP cs), .own ((encOf cs (ss.take k)).map PyData.int), s1, s2, s3, s4]) (IT.list (by walk_at "ev")) rfl ?_ ?_ ?_
  · exact ⟨_, _, _, _, rfl⟩
  · rintro k d σ hd ⟨s1, s2, s3, s4, rfl⟩
    rw [List.getElem?_map] at hd
    cases ht : ss[k]? with
    | none => rw [ht] at hd; cases hd
    | some s =>
      rw [ht] at hd; cases hd
      obtain ⟨hs0, hs1, hs2⟩ := hs s (List.mem_of_getElem? ht)
      have hc4 := hc.at s
      have hel := encOf_len hc (ss.take k)
      have hkl := (List.getElem?_eq_some_iff.mp ht).1
      rw [List.length_take] at hel
      have htk : encOf cs (ss.take (k + 1)) = encOf cs (ss.take k) ++ wAt cs s := by
        rw [List.take_add_one, ht]; simp [encOf]
      refine ⟨_, TG.name rfl rfl, ?_⟩
      refine WP.unpack (EV.item (d := P2 (cAt cs s)) (by walk_at "ev") (by walk_at "ev") rfl hs0 (by omega) (cAt_get hs0 hs1)) rfl (TG.tuple (TGs.cons (TG.name rfl rfl) (TGs.cons (TG.name rfl rfl) TGs.nil rfl) rfl) rfl rfl) ?_
      refine WP.ite (by walk_at "ev") ?_ ?_
      · intro hb; exact absurd (of_decide_eq_true hb) hs2
      intro _
      walk_at "next"
      refine WP.forIn (fun m σ => ∃ s4 : Slot, σ = [.val (LI ss), .val (LP cs), .own ((encOf cs (ss.take k) ++ (wAt cs s).take m).map PyData.int), .val (.int s), .val (.int (cAt cs s).1), .val (.int (cAt cs s).2), s4]) (ds := (wAt cs s).map PyData.int) (IT.list (by show EV _ _ _ (LI (bitsI (cAt cs s).1 (cAt cs s).2.toNat)); walk_at "ev")) rfl ?_ ?_ ?_
      · refine ⟨s4, ?_⟩
        rw [List.take_zero, List.append_nil]; rfl
      · rintro m d σ hd ⟨s4, rfl⟩
        rw [List.getElem?_map] at hd
        cases hx : (wAt cs s)[m]? with
        | none => rw [hx] at hd; cases hd
        | some x =>
          rw [hx] at hd; cases hd
          have hml := (List.getElem?_eq_some_iff.mp hx).1
          rw [wAt, bitsI_len] at hml
          have hbz : (encOf cs (ss.take k) ++ (wAt cs s).take m).length < 2 ^ 20 := by rw [List.length_append, List.length_take]; omega
          refine ⟨_, TG.name rfl rfl, ?_⟩
          walk_at "append"
          refine WP.nil ?_
          show ∃ s4 : Slot, _ = _
          rw [List.take_add_one, hx, ← List.append_assoc]
          exact ⟨_, rfl⟩
      · rintro σ ⟨s4, rfl⟩
        rw [List.length_map, List.take_length, ← htk]
        exact WP.nil ⟨_, _, _, _, rfl⟩
  · rintro σ ⟨s1, s2, s3, s4, rfl⟩
    rw [List.length_map, List.take_length]
    refine WP.freeze 2 rfl ?_
    exact WP.ret (by walk_at "ev") ⟨_, rfl, rfl⟩
set_option maxRecDepth 100000 in
theorem enc_raise {G : GX} {F : Nat → Addr} (H : H103 G F) {A : Around} {env : Env} {h0 : Heap} {q : Nat} (hq : 1 ≤ q) {cs : List (Int × Int)} {ss : List Int} {at' : Nat} {lost : Int} (hc : Cds cs) (hs : ∀ s ∈ ss, 0 ≤ s ∧ s < cs.length) (ha : ss[at']? = some lost) (hl : (cAt cs lost).2 = 0) (hb : ∀ s ∈ ss.take at', (cAt cs s).2 ≠ 0) (hz : ss.length ≤ 1000) :
    WX ⟨G, A, env, h0, ["symbols", "codes", "bits", "symbol", "value", "length", "bit"], kindsAt P103 5, q⟩ [.val (LI ss), .val (LP cs), .un, .un, .un, .un, .un] (bodyAt P103 5) (.type "ValueError") := by
  conv => enter [1, 6]; whnf
  conv => enter [3]; whnf
  have B := H.bis
  have hc7 := hc.len
  have hat := (List.getElem?_eq_some_iff.mp ha).1
  refine WX.seq ?_
  refine WP.assignOwn rfl rfl rfl (by walk_at "ev") (WP.nil ⟨_, rfl, ?_⟩)
  refine WX.forIn (fun k σ => (∃ s1 s2 s3 s4 : Slot, σ = [.val (LI ss), .val (LP cs), .own ((encOf cs (ss.take k)).map PyData.int), s1, s2, s3, s4]) ∧ k ≤ at') (IT.list (by walk_at "ev")) rfl ?_ ?_ ?_
  · exact ⟨⟨_, _, _, _, rfl⟩, Nat.zero_le _⟩
  · rintro k d σ hd ⟨⟨s1, s2, s3, s4, rfl⟩, hka⟩
    rw [List.getElem?_map] at hd
    cases ht : ss[k]? with
    | none => rw [ht] at hd; cases hd
    | some s =>
      rw [ht] at hd; cases hd
      obtain ⟨hs0, hs1⟩ := hs s (List.mem_of_getElem? ht)
      have hc4 := hc.at s
      have hel := encOf_len hc (ss.take k)
      have hkl := (List.getElem?_eq_some_iff.mp ht).1
      rw [List.length_take] at hel
      have htk : encOf cs (ss.take (k + 1)) = encOf cs (ss.take k) ++ wAt cs s := by
        rw [List.take_add_one, ht]; simp [encOf]
      refine ⟨_, TG.name rfl rfl, ?_⟩
      by_cases hka' : k = at'
      · left
        rw [hka', ha] at ht
        cases ht
        refine WX.seq ?_
        refine WP.unpack (EV.item (d := P2 (cAt cs lost)) (by walk_at "ev") (by walk_at "ev") rfl hs0 (by omega) (cAt_get hs0 hs1)) rfl (TG.tuple (TGs.cons (TG.name rfl rfl) (TGs.cons (TG.name rfl rfl) TGs.nil rfl) rfl) rfl rfl) (WP.nil ⟨_, rfl, ?_⟩)
        refine WX.ite (by walk_at "ev") ?_ ?_
        · intro _
          exact WX.raiseV H.ve (by walk_at "ev") rfl rfl
        · intro hb'; exact absurd hl (of_decide_eq_false hb')
      · right
        have hs2 : (cAt cs s).2 ≠ 0 := hb s (by
          rw [List.mem_iff_getElem?]
          exact ⟨k, by rw [List.getElem?_take, if_pos (by omega), ht]⟩)
        refine WP.unpack (EV.item (d := P2 (cAt cs s)) (by walk_at "ev") (by walk_at "ev") rfl hs0 (by omega) (cAt_get hs0 hs1)) rfl (TG.tuple (TGs.cons (TG.name rfl rfl) (TGs.cons (TG.name rfl rfl) TGs.nil rfl) rfl) rfl rfl) ?_
        refine WP.ite (by walk_at "ev") ?_ ?_
        · intro hb; exact absurd (of_decide_eq_true hb) hs2
        intro _
        walk_at "next"
        refine WP.forIn (fun m σ => ∃ s4 : Slot, σ = [.val (LI ss), .val (LP cs), .own ((encOf cs (ss.take k) ++ (wAt cs s).take m).map PyData.int), .val (.int s), .val (.int (cAt cs s).1), .val (.int (cAt cs s).2), s4]) (ds := (wAt cs s).map PyData.int) (IT.list (by show EV _ _ _ (LI (bitsI (cAt cs s).1 (cAt cs s).2.toNat)); walk_at "ev")) rfl ?_ ?_ ?_
        · refine ⟨s4, ?_⟩
          rw [List.take_zero, List.append_nil]; rfl
        · rintro m d σ hd ⟨s4, rfl⟩
          rw [List.getElem?_map] at hd
          cases hx : (wAt cs s)[m]? with
          | none => rw [hx] at hd; cases hd
          | some x =>
            rw [hx] at hd; cases hd
            have hml := (List.getElem?_eq_some_iff.mp hx).1
            rw [wAt, bitsI_len] at hml
            have hbz : (encOf cs (ss.take k) ++ (wAt cs s).take m).length < 2 ^ 20 := by rw [List.length_append, List.length_take]; omega
            refine ⟨_, TG.name rfl rfl, ?_⟩
            walk_at "append"
            refine WP.nil ?_
            show ∃ s4 : Slot, _ = _
            rw [List.take_add_one, hx, ← List.append_assoc]
            exact ⟨_, rfl⟩
        · rintro σ ⟨s4, rfl⟩
          rw [List.length_map, List.take_length, ← htk]
          exact WP.nil ⟨_, rfl, ⟨_, _, _, _, rfl⟩, by omega⟩
  · rintro σ ⟨_, hka⟩
    rw [List.length_map] at hka
    omega
def tabTo (cs : List (Int × Int)) : Nat → List (Int × Int)
  | 0 => []
  | k + 1 => if 0 < (cAt cs k).2 then storeI (tabTo cs k) (2 ^ (cAt cs k).2.toNat + (cAt cs k).1) k else tabTo cs k
theorem storeI_len (kvs : List (Int × Int)) (k v : Int) : (storeI kvs k v).length ≤ kvs.length + 1 := by
  unfold storeI; split <;> simp
theorem tabTo_len (cs : List (Int × Int)) : ∀ k, (tabTo cs k).length ≤ k
  | 0 => by simp [tabTo]
  | k + 1 => by
    have h := tabTo_len cs k
    rw [tabTo]
    split
    · have := storeI_len (tabTo cs k) (2 ^ (cAt cs k).2.toNat + (cAt cs k).1) k
      omega
    · omega
set_option maxRecDepth 100000 in
theorem dt_body {G : GX} {F : Nat → Addr} (H : H103 G F) {A : Around} {env : Env} {h0 : Heap} {q : Nat} {cs : List (Int × Int)} (hc : Cds cs) :
    WP ⟨G, A, env, h0, ["codes", "table", "symbol", "value", "length"], kindsAt P103 6, q⟩ [.val (LP cs), .un, .un, .un, .un] (bodyAt P103 6) (fun o => ∃ d, o = .ret d ∧ d = DI (tabTo cs cs.length)) := by
  conv => enter [1, 6]; whnf
  conv => enter [3]; whnf
  have B := H.bis
  have hc7 := hc.len
  have hlen : (cs.map P2).length = cs.length := by simp
  refine WP.assignDict rfl rfl ?_
  refine WP.forIn (fun k σ => ∃ s1 s2 s3 : Slot, σ = [.val (LP cs), .dic (tabTo cs k), s1, s2, s3]) (by walk_at "ev") rfl ?_ ?_ ?_
  · exact ⟨_, _, _, rfl⟩
  · rintro k d σ hd ⟨s1, s2, s3, rfl⟩
    obtain ⟨rfl, hkt⟩ := rng_get hd
    rw [hlen] at hkt
    have hc4 := hc.at (0 + (k : Int))
    have htl := tabTo_len cs k
    have hkk : (0 + (k : Int)) = (k : Int) := by omega
    rw [hkk] at hc4 ⊢
    refine ⟨_, TG.name rfl rfl, ?_⟩
    refine WP.unpack (EV.item (d := P2 (cAt cs (k : Int))) (by walk_at "ev") (by walk_at "ev") rfl (by omega) (by omega) (cAt_get (by omega) (by omega))) rfl (TG.tuple (TGs.cons (TG.name rfl rfl) (TGs.cons (TG.name rfl rfl) TGs.nil rfl) rfl) rfl rfl) ?_
    refine WP.ite (by walk_at "ev") ?_ ?_
    · intro hb
      have hb : 0 < (cAt cs (k : Int)).2 := of_decide_eq_true hb
      refine WP.setDict (ki := 2 ^ (cAt cs (k : Int)).2.toNat + (cAt cs (k : Int)).1) (vi := (k : Int)) rfl rfl rfl (by walk_at "ev") (by walk_at "ev") rfl (by omega) ?_
      refine WP.nil (WP.nil ?_)
      show ∃ s1 s2 s3 : Slot, _ = _
      rw [tabTo, if_pos hb]
      exact ⟨_, _, _, rfl⟩
    · intro hb
      have hb : ¬ 0 < (cAt cs (k : Int)).2 := of_decide_eq_false hb
      refine WP.nil (WP.nil ?_)
      show ∃ s1 s2 s3 : Slot, _ = _
      rw [tabTo, if_neg hb]
      exact ⟨_, _, _, rfl⟩
  · rintro σ ⟨s1, s2, s3, rfl⟩
    rw [rng_length, hlen, show ((cs.length : Int) - 0).toNat = cs.length by omega]
    refine WP.freezeD 1 rfl ?_
    exact WP.ret (by walk_at "ev") ⟨_, rfl, rfl⟩
end Mine
end
section
namespace Mine
open PySem PySem.Calls

local macro_rules | `(tactic| walk_at "side") => `(tactic| first | assumption | with_unfolding_all rfl | omega | decide | (simp only [List.length_map, List.length_cons, List.length_nil, List.length_append, List.length_set]; omega) | exact shaped_li _ | exact shaped_t2 _ _ | exact shaped_lt _ | exact Int.emod_nonneg _ (by omega) | exact Int.emod_lt_of_pos _ (by omega) | exact Int.lt_of_lt_of_le (Int.emod_lt_of_pos _ (by omega)) (by omega))
local macro_rules | `(tactic| walk_at "evcall") => `(tactic| fail "no call")
local macro_rules | `(tactic| walk_at "ev") => `(tactic| first
  | with_reducible exact EV.int
  | with_reducible exact EV.bool
  | with_reducible exact EV.str
  | (with_reducible apply EV.var; all_goals with_unfolding_all rfl)
  | (with_reducible apply EV.add; all_goals walk_at "ev")
  | (with_reducible apply EV.sub; all_goals walk_at "ev")
  | (with_reducible apply EV.mul; all_goals walk_at "ev")
  | (with_reducible apply EV.pow; all_goals walk_at "ev")
  | (with_reducible apply EV.modP; all_goals walk_at "ev")
  | (with_reducible apply EV.fdivP; all_goals walk_at "ev")
  | (with_reducible apply EV.neg; all_goals walk_at "ev")
  | (with_reducible apply EV.len'; all_goals walk_at "ev")
  | (with_reducible apply EV.min'; all_goals walk_at "ev")
  | (with_reducible apply EV.max'; all_goals walk_at "ev")
  | (with_reducible apply EV.abs'; all_goals walk_at "ev")
  | (with_reducible apply EV.tuple; all_goals walk_at "ev")
  | (with_reducible apply EV.itemTI; all_goals walk_at "ev")
  | (with_reducible apply EV.itemT; all_goals walk_at "ev")
  | (with_reducible apply EV.itemI; all_goals walk_at "ev")
  | walk_at "evcall"
  | (with_reducible apply EVF.evI; all_goals walk_at "ev")
  | (with_reducible apply EVF.ev; all_goals walk_at "ev")
  | (with_reducible apply EVo.own; all_goals with_unfolding_all rfl)
  | (with_reducible apply EV.evo; all_goals walk_at "ev")
  | with_reducible exact EVs.nil
  | (with_reducible apply EVs.cons; all_goals walk_at "ev")
  | with_reducible exact EVp.none
  | (with_reducible apply EVp.some; all_goals walk_at "ev")
  | (with_reducible apply EVF.listOf; all_goals walk_at "ev")
  | (with_reducible apply EVF.sliceI; all_goals walk_at "ev")
  | (with_reducible apply EVF.catI; all_goals walk_at "ev")
  | (with_reducible apply EVF.list; all_goals walk_at "ev")
  | (with_reducible apply EVF.slice; all_goals walk_at "ev")
  | (with_reducible apply EVF.cat; all_goals walk_at "ev")
  | (with_reducible apply TS.lt; all_goals walk_at "ev")
  | (with_reducible apply TS.gt; all_goals walk_at "ev")
  | (with_reducible apply TS.le; all_goals walk_at "ev")
  | (with_reducible apply TS.ge; all_goals walk_at "ev")
  | (with_reducible apply TS.eq; all_goals walk_at "ev")
  | (with_reducible apply TS.ne; all_goals walk_at "ev")
  | (with_reducible apply TS.not; all_goals walk_at "ev")
  | (with_reducible apply TS.isNot; all_goals walk_at "ev")
  | (with_reducible apply TS.neD; all_goals walk_at "ev")
  | (with_reducible apply TS.eqD; all_goals walk_at "ev")
  | (with_reducible apply TS.val; all_goals walk_at "ev")
  | (with_reducible apply TS.and2; all_goals first | (intro _; walk_at "ev") | walk_at "ev")
  | (with_reducible apply TS.or2; all_goals first | (intro _; walk_at "ev") | walk_at "ev")
  | (with_reducible apply IT.rangeDown'; all_goals walk_at "ev")
  | (with_reducible apply IT.range1'; all_goals walk_at "ev")
  | (with_reducible apply IT.range2'; all_goals walk_at "ev")
  | (with_reducible apply IT.list; all_goals walk_at "ev")
  | (with_reducible apply IT.tuple; all_goals walk_at "ev")
  | walk_at "side")
local macro_rules | `(tactic| walk_at "assign") => `(tactic| (with_reducible apply WP.assign (c := _) (rest := _); all_goals first | with_reducible show WP _ _ _ _ | walk_at "ev"))
local macro_rules | `(tactic| walk_at "assignOwn") => `(tactic| (with_reducible apply WP.assignOwn; all_goals first | with_reducible show WP _ _ _ _ | walk_at "ev"))
local macro_rules | `(tactic| walk_at "append") => `(tactic| first | (with_reducible apply WP.appendI; all_goals first | with_reducible show WP _ _ _ _ | walk_at "ev") | (with_reducible apply WP.append; all_goals first | with_reducible show WP _ _ _ _ | walk_at "ev"))
local macro_rules | `(tactic| walk_at "ret") => `(tactic| (with_reducible apply WP.ret; all_goals first | with_reducible show EV _ _ _ _; walk_at "ev" | skip))
local macro_rules | `(tactic| walk_at "next") => `(tactic| (refine WP.nil ?_; with_unfolding_all show WP _ _ _ _))

open PySem.W in
theorem list_of_K {K : Frag} {h : Heap} {a : Addr} {items : Array Value} {m : Nat} {ns : List Int} (X : K.In h) (ho : K.lookup a = some ⟨.type "list", none, .seq items m, #[]⟩) (hi : PyProof.Rows.IntsAre items.toList ns) : ∃ as, Reads h (.ref a) (LI ns) as ∧ ∀ b ∈ as, Plain h b := by
  have e := X _ _ ho
  refine ⟨[a], .list e rfl rfl (reads_ints hi), fun b hb => ?_⟩
  rw [List.mem_singleton.mp hb]
  exact ⟨_, e, rfl, rfl, fun es n w => by cases w⟩
theorem lists_nil {h : Heap} : ∃ as, ReadsAll h [] (([] : List (List Int)).map LI) as ∧ ∀ b ∈ as, Plain h b := ⟨[], .nil, fun _ w => nomatch w⟩
theorem lists_cons {h : Heap} {v : Value} {vs : List Value} {ns : List Int} {nss : List (List Int)} (h1 : ∃ as, Reads h v (LI ns) as ∧ ∀ b ∈ as, Plain h b) (h2 : ∃ as, ReadsAll h vs (nss.map LI) as ∧ ∀ b ∈ as, Plain h b) : ∃ as, ReadsAll h (v :: vs) ((ns :: nss).map LI) as ∧ ∀ b ∈ as, Plain h b := by
  obtain ⟨as, r, p⟩ := h1
  obtain ⟨bs, r', p'⟩ := h2
  refine ⟨as ++ bs, .cons r r', fun b hb => ?_⟩
  rcases List.mem_append.mp hb with w | w
  · exact p b w
  · exact p' b w
open PySem.W in
theorem lists_of_K {K : Frag} {G : GX} {x : Str} {a : Addr} {items : Array Value} {m : Nat} {nss : List (List Int)} (X : K.In G.hb) (hg : G.mg x = some (.ref a)) (ho : K.lookup a = some ⟨.type "list", none, .seq items m, #[]⟩) (hi : ∃ as, ReadsAll G.hb items.toList (nss.map LI) as ∧ ∀ b ∈ as, Plain G.hb b) :
    ∃ v as, G.mg x = some v ∧ Reads G.hb v (.list (nss.map LI)) as ∧ ∀ b ∈ as, Plain G.hb b := by
  have e := X _ _ ho
  obtain ⟨as, r, p⟩ := hi
  refine ⟨_, a :: as, hg, .list e rfl rfl r, fun b hb => ?_⟩
  rcases List.mem_cons.mp hb with w | w
  · rw [w]; exact ⟨_, e, rfl, rfl, fun es n w => by cases w⟩
  · exact p b w
end Mine
end
section
namespace Mine
open PySem PySem.Calls

local macro_rules | `(tactic| walk_at "side") => `(tactic| first | assumption | with_unfolding_all rfl | omega | decide | (simp only [List.length_map, List.length_cons, List.length_nil, List.length_append, List.length_set]; omega) | exact shaped_li _ | exact shaped_t2 _ _ | exact shaped_lt _ | exact Int.emod_nonneg _ (by omega) | exact Int.emod_lt_of_pos _ (by omega) | exact Int.lt_of_lt_of_le (Int.emod_lt_of_pos _ (by omega)) (by omega))
local macro_rules | `(tactic| walk_at "evcall") => `(tactic| fail "no call")
local macro_rules | `(tactic| walk_at "ev") => `(tactic| first
  | with_reducible exact EV.int
  | with_reducible exact EV.bool
  | with_reducible exact EV.str
  | (with_reducible apply EV.var; all_goals with_unfolding_all rfl)
  | (with_reducible apply EV.add; all_goals walk_at "ev")
  | (with_reducible apply EV.sub; all_goals walk_at "ev")
  | (with_reducible apply EV.mul; all_goals walk_at "ev")
  | (with_reducible apply EV.pow; all_goals walk_at "ev")
  | (with_reducible apply EV.modP; all_goals walk_at "ev")
  | (with_reducible apply EV.fdivP; all_goals walk_at "ev")
  | (with_reducible apply EV.neg; all_goals walk_at "ev")
  | (with_reducible apply EV.len'; all_goals walk_at "ev")
  | (with_reducible apply EV.min'; all_goals walk_at "ev")
  | (with_reducible apply EV.max'; all_goals walk_at "ev")
  | (with_reducible apply EV.abs'; all_goals walk_at "ev")
  | (with_reducible apply EV.tuple; all_goals walk_at "ev")
  | (with_reducible apply EV.itemTI; all_goals walk_at "ev")
  | (with_reducible apply EV.itemT; all_goals walk_at "ev")
  | (with_reducible apply EV.itemI; all_goals walk_at "ev")
  | walk_at "evcall"
  | (with_reducible apply EVF.evI; all_goals walk_at "ev")
  | (with_reducible apply EVF.ev; all_goals walk_at "ev")
  | (with_reducible apply EVo.own; all_goals with_unfolding_all rfl)
  | (with_reducible apply EV.evo; all_goals walk_at "ev")
  | with_reducible exact EVs.nil
  | (with_reducible apply EVs.cons; all_goals walk_at "ev")
  | with_reducible exact EVp.none
  | (with_reducible apply EVp.some; all_goals walk_at "ev")
  | (with_reducible apply EVF.listOf; all_goals walk_at "ev")
  | (with_reducible apply EVF.sliceI; all_goals walk_at "ev")
  | (with_reducible apply EVF.catI; all_goals walk_at "ev")
  | (with_reducible apply EVF.list; all_goals walk_at "ev")
  | (with_reducible apply EVF.slice; all_goals walk_at "ev")
  | (with_reducible apply EVF.cat; all_goals walk_at "ev")
  | (with_reducible apply TS.lt; all_goals walk_at "ev")
  | (with_reducible apply TS.gt; all_goals walk_at "ev")
  | (with_reducible apply TS.le; all_goals walk_at "ev")
  | (with_reducible apply TS.ge; all_goals walk_at "ev")
  | (with_reducible apply TS.eq; all_goals walk_at "ev")
  | (with_reducible apply TS.ne; all_goals walk_at "ev")
  | (with_reducible apply TS.not; all_goals walk_at "ev")
  | (with_reducible apply TS.isNot; all_goals walk_at "ev")
  | (with_reducible apply TS.neD; all_goals walk_at "ev")
  | (with_reducible apply TS.eqD; all_goals walk_at "ev")
  | (with_reducible apply TS.val; all_goals walk_at "ev")
  | (with_reducible apply TS.and2; all_goals first | (intro _; walk_at "ev") | walk_at "ev")
  | (with_reducible apply TS.or2; all_goals first | (intro _; walk_at "ev") | walk_at "ev")
  | (with_reducible apply IT.rangeDown'; all_goals walk_at "ev")
  | (with_reducible apply IT.range1'; all_goals walk_at "ev")
  | (with_reducible apply IT.range2'; all_goals walk_at "ev")
  | (with_reducible apply IT.list; all_goals walk_at "ev")
  | (with_reducible apply IT.tuple; all_goals walk_at "ev")
  | walk_at "side")
local macro_rules | `(tactic| walk_at "assign") => `(tactic| (with_reducible apply WP.assign (c := _) (rest := _); all_goals first | with_reducible show WP _ _ _ _ | walk_at "ev"))
local macro_rules | `(tactic| walk_at "assignOwn") => `(tactic| (with_reducible apply WP.assignOwn; all_goals first | with_reducible show WP _ _ _ _ | walk_at "ev"))
local macro_rules | `(tactic| walk_at "append") => `(tactic| first | (with_reducible apply WP.appendI; all_goals first | with_reducible show WP _ _ _ _ | walk_at "ev") | (with_reducible apply WP.append; all_goals first | with_reducible show WP _ _ _ _ | walk_at "ev"))
local macro_rules | `(tactic| walk_at "ret") => `(tactic| (with_reducible apply WP.ret; all_goals first | with_reducible show EV _ _ _ _; walk_at "ev" | skip))
local macro_rules | `(tactic| walk_at "next") => `(tactic| (refine WP.nil ?_; with_unfolding_all show WP _ _ _ _))

theorem ev_dt {c : Cx} {σ : List Slot} {F : Nat → Addr} (H : H103 c.G F) {e : Expr} {p pos : Pos} {cs : List (Int × Int)} (hs : EV c σ e (LP cs)) (hk : c.kinds.lookup (PySem.Str.ofString "decoding_table") = some .globalImplicit) (n1 : noStar e = true) (hc : Cds cs) (hr : 1 ≤ c.room) :
    EV c σ (.Call (.Name "decoding_table" p) [e] [] pos) (DI (tabTo cs cs.length)) :=
  EV.call hk (by decide) H.dt.isFn (EVs.one hs n1) n1 (H.dt.spec (more := ["table", "symbol", "value", "length"]) (n := 0) H.ok rfl fun A env h0 => dt_body H hc) hr
theorem ev_enc {c : Cx} {σ : List Slot} {F : Nat → Addr} (H : H103 c.G F) {e e' : Expr} {p pos : Pos} {cs : List (Int × Int)} {ss : List Int} (he : EV c σ e (LI ss)) (he' : EV c σ e' (LP cs)) (hk : c.kinds.lookup (PySem.Str.ofString "encode_symbols") = some .globalImplicit) (n1 : noStar e = true) (n2 : noStar e' = true) (hc : Cds cs) (hs : ∀ s ∈ ss, 0 ≤ s ∧ s < cs.length ∧ (cAt cs s).2 ≠ 0) (hz : ss.length ≤ 1000) (hr : 2 ≤ c.room) :
    EV c σ (.Call (.Name "encode_symbols" p) [e, e'] [] pos) (LI (encOf cs ss)) :=
  EV.call hk (by decide) H.enc.isFn (EVs.cons he (EVs.one he' n2) n1) n1 (H.enc.spec (more := ["bits", "symbol", "value", "length", "bit"]) (n := 1) H.ok rfl fun A env h0 => enc_body H (by omega) hc hs hz) hr
local macro_rules | `(tactic| walk_at "evcall") => `(tactic| first | (with_reducible apply ev_enc; all_goals walk_at "ev") | (with_reducible apply ev_dt; all_goals walk_at "ev"))
set_option maxRecDepth 100000 in
theorem ev_lenc {c : Cx} {σ : List Slot} {F : Nat → Addr} (H : H103 c.G F) {e e' : Expr} {p pos : Pos} {cs : List (Int × Int)} {ss : List Int} (he : EV c σ e (LI ss)) (he' : EV c σ e' (LP cs)) (hk : c.kinds.lookup (PySem.Str.ofString "_law_encoded") = some .globalImplicit) (n1 : noStar e = true) (n2 : noStar e' = true) (hc : Cds cs) (hs : ∀ s ∈ ss, 0 ≤ s ∧ s < cs.length ∧ (cAt cs s).2 ≠ 0) (hz : ss.length ≤ 1000) (hr : 3 ≤ c.room) :
    EV c σ (.Call (.Name "_law_encoded" p) [e, e'] [] pos) (LI (encOf cs ss)) := by
  refine EV.call hk (by decide) H.lenc.isFn (EVs.cons he (EVs.one he' n2) n1) n1 (H.lenc.spec (more := ["got"]) (n := 2) H.ok rfl fun A env h0 => ?_) hr
  show WP ⟨c.G, A, env, h0, ["symbols", "codes", "got"], kindsAt P103 14, 2⟩ [.val (LI ss), .val (LP cs), .un] (bodyAt P103 14) _
  conv => enter [1, 6]; whnf
  conv => enter [3]; whnf
  refine WP.tryOk ?_
  walk_at "assign"
  walk_at "next"
  exact WP.ret (by walk_at "ev") ⟨_, rfl, rfl⟩
set_option maxRecDepth 100000 in
theorem lenc_refuses {G : GX} {F : Nat → Addr} (H : H103 G F) {cs : List (Int × Int)} {ss : List Int} {at' : Nat} {lost : Int} (hc : Cds cs) (hs : ∀ s ∈ ss, 0 ≤ s ∧ s < cs.length) (ha : ss[at']? = some lost) (hl : (cAt cs lost).2 = 0) (hb : ∀ s ∈ ss.take at', (cAt cs s).2 ≠ 0) (hz : ss.length ≤ 1000) :
    FnSpecF G (F 14) [LI ss, LP cs] (.str (PySem.Str.ofString "ValueError")) 3 :=
  H.lenc.catchV (more := ["got"]) (n := 2) H.ok rfl rfl H.ve rfl fun A env h0 => WE.assign rfl (EVX.call rfl (by decide) H.enc.isFn (EVs.cons (EV.var (i := 0) rfl rfl rfl) (EVs.one (EV.var (i := 1) rfl rfl rfl) rfl) rfl) rfl
    (H.enc.raise (more := ["bits", "symbol", "value", "length", "bit"]) (n := 1) H.ok rfl fun A env h0 => enc_raise H (by omega) hc hs ha hl hb hz) (Nat.le_refl _))
end Mine
end
section
namespace Mine
open PySem PySem.Calls

local macro_rules | `(tactic| walk_at "side") => `(tactic| first | assumption | with_unfolding_all rfl | omega | decide | (simp only [List.length_map, List.length_cons, List.length_nil, List.length_append, List.length_set]; omega) | exact shaped_li _ | exact shaped_t2 _ _ | exact shaped_lt _ | exact Int.emod_nonneg _ (by omega) | exact Int.emod_lt_of_pos _ (by omega) | exact Int.lt_of_lt_of_le (Int.emod_lt_of_pos _ (by omega)) (by omega))
local macro_rules | `(tactic| walk_at "evcall") => `(tactic| fail "no call")
local macro_rules | `(tactic| walk_at "ev") => `(tactic| first
  | with_reducible exact EV.int
  | with_reducible exact EV.bool
  | with_reducible exact EV.str
  | (with_reducible apply EV.var; all_goals with_unfolding_all rfl)
  | (with_reducible apply EV.add; all_goals walk_at "ev")
  | (with_reducible apply EV.sub; all_goals walk_at "ev")
  | (with_reducible apply EV.mul; all_goals walk_at "ev")
  | (with_reducible apply EV.pow; all_goals walk_at "ev")
  | (with_reducible apply EV.modP; all_goals walk_at "ev")
  | (with_reducible apply EV.fdivP; all_goals walk_at "ev")
  | (with_reducible apply EV.neg; all_goals walk_at "ev")
  | (with_reducible apply EV.len'; all_goals walk_at "ev")
  | (with_reducible apply EV.min'; all_goals walk_at "ev")
  | (with_reducible apply EV.max'; all_goals walk_at "ev")
  | (with_reducible apply EV.abs'; all_goals walk_at "ev")
  | (with_reducible apply EV.tuple; all_goals walk_at "ev")
  | (with_reducible apply EV.itemTI; all_goals walk_at "ev")
  | (with_reducible apply EV.itemT; all_goals walk_at "ev")
  | (with_reducible apply EV.itemI; all_goals walk_at "ev")
  | walk_at "evcall"
  | (with_reducible apply EVF.evI; all_goals walk_at "ev")
  | (with_reducible apply EVF.ev; all_goals walk_at "ev")
  | (with_reducible apply EVo.own; all_goals with_unfolding_all rfl)
  | (with_reducible apply EV.evo; all_goals walk_at "ev")
  | with_reducible exact EVs.nil
  | (with_reducible apply EVs.cons; all_goals walk_at "ev")
  | with_reducible exact EVp.none
  | (with_reducible apply EVp.some; all_goals walk_at "ev")
  | (with_reducible apply EVF.listOf; all_goals walk_at "ev")
  | (with_reducible apply EVF.sliceI; all_goals walk_at "ev")
  | (with_reducible apply EVF.catI; all_goals walk_at "ev")
  | (with_reducible apply EVF.list; all_goals walk_at "ev")
  | (with_reducible apply EVF.slice; all_goals walk_at "ev")
  | (with_reducible apply EVF.cat; all_goals walk_at "ev")
  | (with_reducible apply TS.lt; all_goals walk_at "ev")
  | (with_reducible apply TS.gt; all_goals walk_at "ev")
  | (with_reducible apply TS.le; all_goals walk_at "ev")
  | (with_reducible apply TS.ge; all_goals walk_at "ev")
  | (with_reducible apply TS.eq; all_goals walk_at "ev")
  | (with_reducible apply TS.ne; all_goals walk_at "ev")
  | (with_reducible apply TS.not; all_goals walk_at "ev")
  | (with_reducible apply TS.isNot; all_goals walk_at "ev")
  | (with_reducible apply TS.neD; all_goals walk_at "ev")
  | (with_reducible apply TS.eqD; all_goals walk_at "ev")
  | (with_reducible apply TS.val; all_goals walk_at "ev")
  | (with_reducible apply TS.and2; all_goals first | (intro _; walk_at "ev") | walk_at "ev")
  | (with_reducible apply TS.or2; all_goals first | (intro _; walk_at "ev") | walk_at "ev")
  | (with_reducible apply IT.rangeDown'; all_goals walk_at "ev")
  | (with_reducible apply IT.range1'; all_goals walk_at "ev")
  | (with_reducible apply IT.range2'; all_goals walk_at "ev")
  | (with_reducible apply IT.list; all_goals walk_at "ev")
  | (with_reducible apply IT.tuple; all_goals walk_at "ev")
  | walk_at "side")
local macro_rules | `(tactic| walk_at "assign") => `(tactic| (with_reducible apply WP.assign (c := _) (rest := _); all_goals first | with_reducible show WP _ _ _ _ | walk_at "ev"))
local macro_rules | `(tactic| walk_at "assignOwn") => `(tactic| (with_reducible apply WP.assignOwn; all_goals first | with_reducible show WP _ _ _ _ | walk_at "ev"))
local macro_rules | `(tactic| walk_at "append") => `(tactic| first | (with_reducible apply WP.appendI; all_goals first | with_reducible show WP _ _ _ _ | walk_at "ev") | (with_reducible apply WP.append; all_goals first | with_reducible show WP _ _ _ _ | walk_at "ev"))
local macro_rules | `(tactic| walk_at "ret") => `(tactic| (with_reducible apply WP.ret; all_goals first | with_reducible show EV _ _ _ _; walk_at "ev" | skip))
local macro_rules | `(tactic| walk_at "next") => `(tactic| (refine WP.nil ?_; with_unfolding_all show WP _ _ _ _))

/-- a table reads a symbol's word -/
structure Good (T : List (Int × Int)) (cs : List (Int × Int)) (s : Int) : Prop where
  pos : 0 < (cAt cs s).2
  lo : 0 ≤ (cAt cs s).1
  hi : (cAt cs s).1 < 2 ^ (cAt cs s).2.toNat
  hit : look T (2 ^ (cAt cs s).2.toNat + (cAt cs s).1) = some s
  miss : ∀ j : Nat, 1 ≤ j → j < (cAt cs s).2.toNat → look T (keyAt (cAt cs s).1 (cAt cs s).2.toNat j) = none
/-- a scaled sum of the codes ahead of (n, j) -/
def vcut (L : List Int) (n j : Nat) : Int := vsum L (n : Int) j L.length * 2 ^ (4 - n)
theorem vcut_next {L : List Int} {n j : Nat} (hn : 0 < n) : vcut L n (j + 1) = vcut L n j + if j < L.length ∧ L.getD j 0 = (n : Int) then 2 ^ (4 - n) else 0 := by
  unfold vcut
  rw [vsum_next (by omega), Int.add_mul]
  split <;> simp
theorem vcut_up {L : List Int} {k : Nat} (hk : k ≤ 3) : vcut L (k + 1) 0 = vcut L k L.length := by
  unfold vcut
  rw [vsum_double L.length (Nat.le_refl _), show 4 - k = (4 - (k + 1)) + 1 by omega, Int.pow_succ, Int.mul_assoc, Int.mul_comm 2]
theorem vcut_mono {L : List Int} {n : Nat} (hn : 0 < n) {i : Nat} : ∀ j, i ≤ j → vcut L n i ≤ vcut L n j
  | 0, h => by rw [show i = 0 by omega]; exact Int.le_refl _
  | j + 1, h => by
    by_cases q : i = j + 1
    · rw [q]; exact Int.le_refl _
    · have := vcut_mono (L := L) hn (i := i) j (by omega)
      rw [vcut_next hn]
      have hp := pow_pos2 (4 - n)
      split <;> omega
theorem vcut_rise {L : List Int} {n : Nat} (hn : 0 < n) {j : Nat} (hj : j ≤ L.length) : ∀ m, n < m → m ≤ 4 → vcut L n j ≤ vcut L m 0
  | 0, h, _ => by omega
  | m + 1, h, h4 => by
    rw [vcut_up (by omega)]
    by_cases q : n = m
    · subst q; exact vcut_mono hn _ hj
    · have h1 := vcut_rise (L := L) hn hj m (by omega) (by omega)
      have h2 := vcut_mono (L := L) (n := m) (by omega) (i := 0) L.length (by omega)
      omega
theorem vcut_zero {L : List Int} {j : Nat} : vcut L 0 j = 0 := by
  unfold vcut
  rw [show ((0 : Nat) : Int) = 0 from rfl, vsum_zero]; rfl
/-- Kraft's sum, times 16 -/
def kraft (L : List Int) : Int := ((L.filter fun n => decide (0 < n)).map fun n => (2 : Int) ^ (4 - n).toNat).sum
theorem vsum_all {L : List Int} (hL : Lens L) : ∀ T, T ≤ L.length → vsum L 4 L.length T = (((L.take T).filter fun n => decide (0 < n)).map fun n => (2 : Int) ^ (4 - n).toNat).sum
  | 0, _ => by simp [vsum]
  | T + 1, h => by
    rw [vsum, vsum_all hL T (by omega), List.take_add_one, List.getElem?_eq_getElem (by omega)]
    have ha := hL.at T
    have e : L.getD T 0 = L[T] := by rw [List.getD_eq_getElem?_getD, List.getElem?_eq_getElem (by omega)]; rfl
    rw [e] at ha ⊢
    simp only [Option.toList_some, List.filter_append, List.map_append, List.sum_append]
    congr 1
    by_cases q : 0 < L[T]
    · have b : bef L 4 L.length T = true := by
        simp only [bef]; apply decide_eq_true; rw [e]; omega
      rw [b, if_pos rfl, show (4 : Int).toNat = 4 from rfl, pow_ratio (by omega)]
      simp only [q, decide_true, List.filter_cons, List.filter_nil, if_true, List.map_cons, List.map_nil, List.sum_cons, List.sum_nil]
      rw [show (4 - L[T]).toNat = 4 - L[T].toNat by omega]; omega
    · have b : bef L 4 L.length T = false := by
        simp only [bef]; apply decide_eq_false; rw [e]; omega
      rw [b]
      simp [q]
theorem vcut_all {L : List Int} (hL : Lens L) : vcut L 4 L.length = kraft L := by
  unfold vcut kraft
  have := vsum_all hL L.length (Nat.le_refl _)
  rw [List.take_length] at this
  rw [show ((4 : Nat) : Int) = 4 from rfl, this]; simp
theorem vcut_le {L : List Int} (hL : Lens L) {n j : Nat} (hn : 0 < n) (h4 : n ≤ 4) (hj : j ≤ L.length) : vcut L n j ≤ kraft L := by
  rw [← vcut_all hL]
  by_cases q : n = 4
  · subst q; exact vcut_mono hn _ hj
  · have h1 := vcut_rise (L := L) hn hj 4 (by omega) (Nat.le_refl _)
    have h2 := vcut_mono (L := L) (n := 4) (by omega) (i := 0) L.length (by omega)
    omega
/-- every place below the sum lies in a code's stretch -/
theorem cover1 {L : List Int} {n : Nat} (hn : 0 < n) {p : Int} (h0 : vcut L n 0 ≤ p) : ∀ J, p < vcut L n J → ∃ j, j < L.length ∧ L.getD j 0 = (n : Int) ∧ vcut L n j ≤ p ∧ p < vcut L n j + 2 ^ (4 - n)
  | 0, h => by omega
  | J + 1, h => by
    by_cases q : p < vcut L n J
    · exact cover1 hn h0 J q
    · rw [vcut_next hn] at h
      by_cases w : J < L.length ∧ L.getD J 0 = (n : Int)
      · rw [if_pos w] at h
        exact ⟨J, w.1, w.2, by omega, h⟩
      · rw [if_neg w] at h; omega
theorem cover {L : List Int} {p : Int} (h0 : 0 ≤ p) : ∀ N, N ≤ 4 → p < vcut L N L.length → ∃ n j, 0 < n ∧ n ≤ 4 ∧ j < L.length ∧ L.getD j 0 = ((n : Nat) : Int) ∧ vcut L n j ≤ p ∧ p < vcut L n j + 2 ^ (4 - n)
  | 0, _, h => by rw [vcut_zero] at h; omega
  | N + 1, h4, h => by
    by_cases q : p < vcut L (N + 1) 0
    · rw [vcut_up (by omega)] at q
      exact cover h0 N (by omega) q
    · obtain ⟨j, h1, h2, h3, h5⟩ := cover1 (n := N + 1) (by omega) (by omega) _ h
      exact ⟨N + 1, j, by omega, h4, h1, h2, h3, h5⟩
/-- the value of a symbol's code -/
def vOf (L : List Int) (s : Nat) : Int := vsum L (L.getD s 0) s L.length
theorem vOf_scaled {L : List Int} (hL : Lens L) (s : Nat) : vcut L (L.getD s 0).toNat s = vOf L s * 2 ^ (4 - (L.getD s 0).toNat) := by
  unfold vcut vOf
  rw [show (((L.getD s 0).toNat : Nat) : Int) = L.getD s 0 by have := hL.at s; omega]
theorem vOf_nonneg (L : List Int) (s : Nat) : 0 ≤ vOf L s := vsum_nonneg _
theorem vOf_end {L : List Int} (hL : Lens L) {s : Nat} (hs : s < L.length) (hp : 0 < L.getD s 0) : vcut L (L.getD s 0).toNat (s + 1) = (vOf L s + 1) * 2 ^ (4 - (L.getD s 0).toNat) := by
  have ha := hL.at s
  rw [vcut_next (by omega), vOf_scaled hL, if_pos ⟨hs, by omega⟩, Int.add_mul, Int.one_mul]
theorem two_pow4 {n : Nat} (h : n ≤ 4) : (16 : Int) = 2 ^ n * 2 ^ (4 - n) := by
  rw [← Int.pow_add, show n + (4 - n) = 4 by omega]; rfl
theorem vOf_lt {L : List Int} (hL : Lens L) (hk : kraft L ≤ 16) {s : Nat} (hs : s < L.length) (hp : 0 < L.getD s 0) : vOf L s < 2 ^ (L.getD s 0).toNat := by
  have ha := hL.at s
  have h1 := vOf_end hL hs hp
  have h2 := vcut_le hL (n := (L.getD s 0).toNat) (j := s + 1) (by omega) (by omega) hs
  rw [h1] at h2
  have h3 := two_pow4 (n := (L.getD s 0).toNat) (by omega)
  have hp' := pow_pos2 (4 - (L.getD s 0).toNat)
  have h4 : (vOf L s + 1) * 2 ^ (4 - (L.getD s 0).toNat) ≤ 2 ^ (L.getD s 0).toNat * 2 ^ (4 - (L.getD s 0).toNat) := by omega
  have := Int.le_of_mul_le_mul_right h4 hp'
  omega
/-- a code that stands behind another one lies behind its whole stretch -/
theorem vOf_sep {L : List Int} (hL : Lens L) {s t : Nat} (hs : s < L.length) (ht : t < L.length) (hp : 0 < L.getD s 0) (ho : L.getD s 0 < L.getD t 0 ∨ (L.getD s 0 = L.getD t 0 ∧ s < t)) :
    vOf L s + 1 ≤ vOf L t / 2 ^ ((L.getD t 0).toNat - (L.getD s 0).toNat) := by
  have ha := hL.at s
  have hb := hL.at t
  have h1 := vOf_end hL hs hp
  have h2 := vOf_scaled hL t
  have h3 : vcut L (L.getD s 0).toNat (s + 1) ≤ vcut L (L.getD t 0).toNat t := by
    rcases ho with ho | ⟨ho, hst⟩
    · have := vcut_rise (L := L) (n := (L.getD s 0).toNat) (by omega) (j := s + 1) hs (L.getD t 0).toNat (by omega) (by omega)
      have h5 := vcut_mono (L := L) (n := (L.getD t 0).toNat) (by omega) (i := 0) t (by omega)
      omega
    · rw [ho]; exact vcut_mono (by omega) _ hst
  rw [h1, h2] at h3
  have e : (2 : Int) ^ (4 - (L.getD s 0).toNat) = 2 ^ ((L.getD t 0).toNat - (L.getD s 0).toNat) * 2 ^ (4 - (L.getD t 0).toNat) := by
    rw [← Int.pow_add]; congr 1; omega
  rw [e, ← Int.mul_assoc] at h3
  have h4 := Int.le_of_mul_le_mul_right h3 (pow_pos2 _)
  exact (Int.le_ediv_iff_mul_le (pow_pos2 _)).mpr h4
/-- too many codes: two words of noughts, one ahead of the other -/
theorem vOf_clash {L : List Int} (hL : Lens L) (hk : 16 < kraft L) : ∃ i j, i < L.length ∧ j < L.length ∧ i ≠ j ∧ 0 < L.getD i 0 ∧ L.getD i 0 ≤ L.getD j 0 ∧ vOf L i = 0 ∧ vOf L j = 2 ^ (L.getD j 0).toNat := by
  rw [← vcut_all hL] at hk
  obtain ⟨n, i, n0, n4, hi, ei, a1, a2⟩ := cover (L := L) (p := 0) (by omega) 4 (Nat.le_refl _) (by omega)
  obtain ⟨m, j, m0, m4, hj, ej, b1, b2⟩ := cover (L := L) (p := 16) (by omega) 4 (Nat.le_refl _) (by omega)
  have en : (L.getD i 0).toNat = n := by omega
  have em : (L.getD j 0).toNat = m := by omega
  have si := vOf_scaled hL i
  have sj := vOf_scaled hL j
  rw [en] at si
  rw [em] at sj
  have vi := vOf_nonneg L i
  have pn := pow_pos2 (4 - n)
  have pm := pow_pos2 (4 - m)
  have zi : vOf L i = 0 := by
    rw [si] at a1
    rcases Int.lt_or_le 0 (vOf L i) with h | h
    · have := Int.mul_pos h pn; omega
    · omega
  have zj : vOf L j = 2 ^ m := by
    rw [sj] at b1 b2
    rw [two_pow4 m4] at b1 b2
    have h1 := Int.le_of_mul_le_mul_right b1 pm
    have h2 : (2 : Int) ^ m * 2 ^ (4 - m) < (vOf L j + 1) * 2 ^ (4 - m) := by rw [Int.add_mul, Int.one_mul]; exact b2
    have h3 := Int.lt_of_mul_lt_mul_right h2 (Int.le_of_lt pm)
    omega
  have p2 := pow_pos2 m
  refine ⟨i, j, hi, hj, ?_, by omega, ?_, zi, by rw [em]; exact zj⟩
  · intro e; subst e; omega
  · rcases Int.lt_or_le (L.getD j 0) (L.getD i 0) with h | h
    · have := vOf_sep hL hj hi (by omega) (.inl h)
      rw [zi, Int.zero_ediv, zj] at this
      omega
    · exact h
theorem bitsI_take {v : Int} {n m : Nat} (h : m ≤ n) : (bitsI v n).take m = bitsI (v / 2 ^ (n - m)) m := by
  apply List.ext_getElem?
  intro k
  rw [List.getElem?_take]
  split
  · rename_i hk
    rw [bitsI_get (by omega), bitsI_get hk, Int.ediv_ediv_of_nonneg (Int.le_of_lt (pow_pos2 _)), ← Int.pow_add, show n - m + (m - 1 - k) = n - 1 - k by omega]
  · rename_i hk
    rw [List.getElem?_eq_none (by rw [bitsI_len]; omega)]
theorem bitsI_inj {v u : Int} {n : Nat} (h4 : n ≤ 4) (v0 : 0 ≤ v) (v1 : v < 2 ^ n) (u0 : 0 ≤ u) (u1 : u < 2 ^ n) (h : bitsI v n = bitsI u n) : v = u := by
  rcases (by omega : n = 0 ∨ n = 1 ∨ n = 2 ∨ n = 3 ∨ n = 4) with rfl | rfl | rfl | rfl | rfl
  · simp at v1 u1; omega
  all_goals
    simp [bitsI, List.range_succ] at h v1 u1
    omega
theorem bitsI_nought {n : Nat} : bitsI (2 ^ n) n = bitsI 0 n := by
  unfold bitsI
  apply List.map_congr_left
  intro k hk
  have := List.mem_range.mp hk
  rw [pow_ratio (by omega), Int.zero_ediv, show n - (n - 1 - k) = k + 1 by omega, Int.pow_succ]
  omega
/-- neither word opens the other -/
def apart (a b : List Int) : Prop := b.take a.length ≠ a ∧ a.take b.length ≠ b
def Free (ws : List (List Int)) : Prop := ∀ i j, i < ws.length → j < ws.length → i ≠ j → (ws.getD j []).take (ws.getD i []).length ≠ ws.getD i []
theorem free_iff {ws : List (List Int)} : Free ws ↔ ws.Pairwise apart := by
  have g : ∀ i (h : i < ws.length), ws.getD i [] = ws[i] := fun i h => by rw [List.getD_eq_getElem?_getD, List.getElem?_eq_getElem h]; rfl
  rw [List.pairwise_iff_getElem]
  constructor
  · intro F i j hi hj hij
    have h1 := F i j hi hj (by omega)
    have h2 := F j i hj hi (by omega)
    rw [g i hi, g j hj] at h1 h2
    exact ⟨h1, h2⟩
  · intro P i j hi hj hij
    rw [g i hi, g j hj]
    rcases Nat.lt_or_gt_of_ne hij with h | h
    · exact (P i j hi hj h).1
    · exact (P j i hj hi h).2
/-- the words of the codes -/
def wordsOf (cs : List (Int × Int)) : List (List Int) := (cs.filter fun p => decide (0 < p.2)).map fun p => bitsI p.1 p.2.toNat
def wOf (L : List Int) (s : Nat) : List Int := bitsI (vOf L s) (L.getD s 0).toNat
theorem free_words {L : List Int} : Free (wordsOf (codesOf L)) ↔ ∀ s t, s < t → t < L.length → 0 < L.getD s 0 → 0 < L.getD t 0 → apart (wOf L s) (wOf L t) := by
  rw [free_iff]
  unfold wordsOf codesOf
  rw [List.pairwise_map, List.pairwise_filter, List.pairwise_map, List.pairwise_iff_getElem]
  simp only [List.length_range, List.getElem_range, decide_eq_true_eq]
  constructor
  · intro h s t hst ht ps pt
    exact h s t (by omega) ht hst ps pt
  · intro h s t hs ht hst ps pt
    exact h s t hst ht ps pt
theorem wOf_len (L : List Int) (s : Nat) : (wOf L s).length = (L.getD s 0).toNat := bitsI_len _ _
theorem wOf_take {L : List Int} (hL : Lens L) (hk : kraft L ≤ 16) {s t : Nat} (hs : s < L.length) (ht : t < L.length) (ps : 0 < L.getD s 0) (pt : 0 < L.getD t 0) (ho : L.getD s 0 < L.getD t 0 ∨ (L.getD s 0 = L.getD t 0 ∧ s ≠ t)) : (wOf L t).take (wOf L s).length ≠ wOf L s := by
  have ha := hL.at s
  have hb := hL.at t
  intro e
  rw [wOf_len] at e
  unfold wOf at e
  rw [bitsI_take (by omega)] at e
  have hp := pow_pos2 ((L.getD t 0).toNat - (L.getD s 0).toNat)
  have u0 := Int.ediv_nonneg (vOf_nonneg L t) (Int.le_of_lt hp)
  have ut := vOf_lt hL hk ht pt
  have us := vOf_lt hL hk hs ps
  have u1 : vOf L t / 2 ^ ((L.getD t 0).toNat - (L.getD s 0).toNat) < 2 ^ (L.getD s 0).toNat := by
    refine (Int.ediv_lt_iff_lt_mul hp).mpr ?_
    rw [← Int.pow_add, show (L.getD s 0).toNat + ((L.getD t 0).toNat - (L.getD s 0).toNat) = (L.getD t 0).toNat by omega]
    exact ut
  have ee := bitsI_inj (by omega) u0 u1 (vOf_nonneg L s) us e
  rcases ho with ho | ⟨ho, hne⟩
  · have := vOf_sep hL hs ht ps (.inl ho)
    omega
  · rcases Nat.lt_or_gt_of_ne hne with h | h
    · have := vOf_sep hL hs ht ps (.inr ⟨ho, h⟩)
      omega
    · have := vOf_sep hL ht hs pt (.inr ⟨ho.symm, h⟩)
      rw [ho, Nat.sub_self, Int.pow_zero, Int.ediv_one] at this ee
      omega
theorem free_of {L : List Int} (hL : Lens L) (hk : kraft L ≤ 16) : Free (wordsOf (codesOf L)) := by
  rw [free_words]
  intro s t hst ht ps pt
  have ha := hL.at s
  have hb := hL.at t
  have far : ∀ {s t : Nat}, L.getD t 0 < L.getD s 0 → 0 < L.getD t 0 → (wOf L t).take (wOf L s).length ≠ wOf L s := by
    intro s t h pt e
    have := congrArg List.length e
    rw [List.length_take, wOf_len, wOf_len] at this
    omega
  refine ⟨?_, ?_⟩
  · rcases Int.lt_or_le (L.getD t 0) (L.getD s 0) with h | h
    · exact far h pt
    · exact wOf_take hL hk (by omega) ht ps pt (by omega)
  · rcases Int.lt_or_le (L.getD s 0) (L.getD t 0) with h | h
    · exact far h ps
    · exact wOf_take hL hk ht (by omega) pt ps (by omega)
theorem not_free {L : List Int} (hL : Lens L) (hk : 16 < kraft L) : ¬ Free (wordsOf (codesOf L)) := by
  rw [free_words]
  intro F
  obtain ⟨i, j, hi, hj, hne, pi, hij, zi, zj⟩ := vOf_clash hL hk
  have ha := hL.at i
  have hb := hL.at j
  have e : (wOf L j).take (wOf L i).length = wOf L i := by
    rw [wOf_len]
    unfold wOf
    rw [zj, zi, bitsI_nought, bitsI_take (by omega), Int.zero_ediv]
  rcases Nat.lt_or_gt_of_ne hne with h | h
  · exact (F i j h hj pi (by omega)).1 e
  · exact (F j i h hi (by omega) pi).2 e
theorem look_store {kvs : List (Int × Int)} {k v k' : Int} : look (storeI kvs k v) k' = if k' = k then some v else look kvs k' := by
  unfold storeI
  induction kvs with
  | nil =>
    by_cases q : k' = k
    · subst q; simp [look]
    · simp [look, q]; intro h; exact absurd h.symm q
  | cons p kvs ih =>
    obtain ⟨a, b⟩ := p
    by_cases h : a = k
    · subst h
      by_cases q : k' = a
      · subst q; simp [look]
      · have q' : ¬ a = k' := fun e => q e.symm
        simp only [List.any_cons, decide_true, Bool.true_or, if_true, List.map_cons, q, if_false]
        simp only [look, List.find?_cons, q', decide_false, List.find?_map]
        have : ∀ l : List (Int × Int), Option.map (fun x => x.2) (Option.map (fun kv : Int × Int => if kv.1 = a then (kv.1, v) else kv) (List.find? ((fun kv : Int × Int => decide (kv.1 = k')) ∘ fun kv => if kv.1 = a then (kv.1, v) else kv) l)) = Option.map (fun x => x.2) (List.find? (fun kv => decide (kv.1 = k')) l) := by
          intro l
          induction l with
          | nil => rfl
          | cons p l ih =>
            obtain ⟨c, d⟩ := p
            by_cases w : c = k'
            · subst w
              simp [q]
            · by_cases w' : c = a
              · subst w'
                simp [w]
                simpa using ih
              · simp [w, w']
                simpa using ih
        exact this kvs
    · simp only [List.any_cons, h, decide_false, Bool.false_or, List.map_cons, if_false]
      by_cases q : (kvs.any fun kv => decide (kv.1 = k)) = true
      · rw [if_pos q] at ih ⊢
        by_cases w : a = k'
        · subst w
          simp [look, h]
        · simp only [look, List.find?_cons, w, decide_false] at ih ⊢
          exact ih
      · rw [if_neg q] at ih ⊢
        by_cases w : a = k'
        · subst w
          simp [look, h]
        · simp only [List.cons_append, look, List.find?_cons, w, decide_false] at ih ⊢
          exact ih
theorem tab_none {cs : List (Int × Int)} {key : Int} : ∀ k, (∀ t : Nat, t < k → 0 < (cAt cs t).2 → key ≠ 2 ^ (cAt cs t).2.toNat + (cAt cs t).1) → look (tabTo cs k) key = none
  | 0, _ => rfl
  | k + 1, h => by
    have ih := tab_none (cs := cs) (key := key) k fun t ht => h t (by omega)
    rw [tabTo]
    split
    · rename_i hp
      rw [look_store, if_neg (h k (by omega) hp)]; exact ih
    · exact ih
theorem tab_some {cs : List (Int × Int)} {key : Int} {s : Nat} : ∀ k, s < k → 0 < (cAt cs s).2 → key = 2 ^ (cAt cs s).2.toNat + (cAt cs s).1 → (∀ t : Nat, t < k → t ≠ s → 0 < (cAt cs t).2 → key ≠ 2 ^ (cAt cs t).2.toNat + (cAt cs t).1) → look (tabTo cs k) key = some (s : Int)
  | 0, hs, _, _, _ => by omega
  | k + 1, hs, hp, hk, h => by
    rw [tabTo]
    by_cases q : k = s
    · subst q
      rw [if_pos hp, look_store, if_pos hk]
    · have ih := tab_some (cs := cs) (key := key) (s := s) k (by omega) hp hk fun t ht => h t (by omega)
      split
      · rename_i hp'
        rw [look_store, if_neg (h k (by omega) q hp')]; exact ih
      · exact ih
theorem cAt_codes {L : List Int} {s : Nat} (h : s < L.length) : cAt (codesOf L) (s : Int) = (vOf L s, L.getD s 0) := by
  unfold cAt codesOf
  rw [Int.toNat_natCast, List.getD_eq_getElem?_getD, List.getElem?_map, List.getElem?_range h]; rfl
theorem codesOf_len (L : List Int) : (codesOf L).length = L.length := by simp [codesOf]
theorem key_eq {n m : Nat} {a b : Int} (hn : n ≤ 4) (hm : m ≤ 4) (a0 : 0 ≤ a) (a1 : a < 2 ^ n) (b0 : 0 ≤ b) (b1 : b < 2 ^ m) (h : (2 : Int) ^ n + a = 2 ^ m + b) : n = m ∧ a = b := by
  rcases (by omega : n = 0 ∨ n = 1 ∨ n = 2 ∨ n = 3 ∨ n = 4) with rfl | rfl | rfl | rfl | rfl <;>
  rcases (by omega : m = 0 ∨ m = 1 ∨ m = 2 ∨ m = 3 ∨ m = 4) with rfl | rfl | rfl | rfl | rfl <;>
  (simp at a1 b1 h; omega)
/-- the table of codes that are free reads each word -/
theorem good_of {L : List Int} (hL : Lens L) (hk : kraft L ≤ 16) {s : Nat} (hs : s < L.length) (hp : 0 < L.getD s 0) : Good (tabTo (codesOf L) (codesOf L).length) (codesOf L) (s : Int) := by
  have ha := hL.at s
  have vs := vOf_lt hL hk hs hp
  have v0 := vOf_nonneg L s
  constructor
  · rw [cAt_codes hs]; exact hp
  · rw [cAt_codes hs]; exact v0
  · rw [cAt_codes hs]; exact vs
  · refine tab_some _ (by rw [codesOf_len]; exact hs) (by rw [cAt_codes hs]; exact hp) rfl fun t ht hne pt => ?_
    rw [codesOf_len] at ht
    rw [cAt_codes ht] at pt
    rw [cAt_codes hs, cAt_codes ht]
    have hb := hL.at t
    intro e
    obtain ⟨e1, e2⟩ := key_eq (by show (L.getD s 0).toNat ≤ 4; omega) (by show (L.getD t 0).toNat ≤ 4; omega) v0 vs (vOf_nonneg L t) (vOf_lt hL hk ht pt) e
    have e3 : L.getD s 0 = L.getD t 0 := by
      have : (L.getD s 0).toNat = (L.getD t 0).toNat := e1
      omega
    have e4 : vOf L s = vOf L t := e2
    rcases Nat.lt_or_gt_of_ne hne with h | h
    · have := vOf_sep hL ht hs pt (.inr ⟨e3.symm, h⟩)
      rw [e3, Nat.sub_self, Int.pow_zero, Int.ediv_one] at this; omega
    · have := vOf_sep hL hs ht hp (.inr ⟨e3, h⟩)
      rw [e3, Nat.sub_self, Int.pow_zero, Int.ediv_one] at this; omega
  · intro j j1 jn
    rw [cAt_codes hs] at jn ⊢
    have jn : j < (L.getD s 0).toNat := jn
    refine tab_none _ fun t ht pt => ?_
    rw [codesOf_len] at ht
    rw [cAt_codes ht] at pt ⊢
    have pt : 0 < L.getD t 0 := pt
    have hb := hL.at t
    intro e
    have e : (2 : Int) ^ j + vOf L s / 2 ^ ((L.getD s 0).toNat - j) = 2 ^ (L.getD t 0).toNat + vOf L t := e
    have pj := pow_pos2 ((L.getD s 0).toNat - j)
    have u0 := Int.ediv_nonneg v0 (Int.le_of_lt pj)
    have u1 : vOf L s / 2 ^ ((L.getD s 0).toNat - j) < 2 ^ j := by
      refine (Int.ediv_lt_iff_lt_mul pj).mpr ?_
      rw [← Int.pow_add, show j + ((L.getD s 0).toNat - j) = (L.getD s 0).toNat by omega]
      exact vs
    obtain ⟨e1, e2⟩ := key_eq (by omega) (by omega) u0 u1 (vOf_nonneg L t) (vOf_lt hL hk ht pt) e
    have := vOf_sep hL ht hs pt (.inl (by omega))
    rw [← e1] at this
    omega
/-- where a reader stands: m symbols read, j bits of the next word; rest lies ahead -/
def Rd (cs : List (Int × Int)) (ss extra rest : List Int) (m j : Nat) : Prop :=
  (m < ss.length ∧ j < (cAt cs (ss.getD m 0)).2.toNat ∧ rest = (wAt cs (ss.getD m 0)).drop j ++ (encOf cs (ss.drop (m + 1)) ++ extra)) ∨ (m = ss.length ∧ j = 0 ∧ rest = extra)
theorem Rd.start {cs : List (Int × Int)} {ss extra : List Int} (hp : ∀ s ∈ ss, 0 < (cAt cs s).2) {m : Nat} (hm : m ≤ ss.length) : Rd cs ss extra (encOf cs (ss.drop m) ++ extra) m 0 := by
  by_cases q : m < ss.length
  · left
    have g : ss.getD m 0 = ss[m] := by rw [List.getD_eq_getElem?_getD, List.getElem?_eq_getElem q]; rfl
    have := hp ss[m] (List.getElem_mem q)
    rw [g]
    refine ⟨q, by omega, ?_⟩
    rw [List.drop_eq_getElem_cons q, encOf, List.flatMap_cons, List.drop_zero, List.append_assoc]; rfl
  · right
    refine ⟨by omega, rfl, ?_⟩
    rw [List.drop_eq_nil_of_le (by omega)]; rfl
/-- the key that a reader holds -/
def rdKey (cs : List (Int × Int)) (ss : List Int) (m j : Nat) : Int := if j = 0 then 1 else keyAt (cAt cs (ss.getD m 0)).1 (cAt cs (ss.getD m 0)).2.toNat j
theorem Rd.step {cs : List (Int × Int)} {ss extra rest : List Int} {b : Int} {m j : Nat} {T : List (Int × Int)} (hg : ∀ s ∈ ss, Good T cs s) (h : Rd cs ss extra (b :: rest) m j) (hm : m < ss.length) :
    rdKey cs ss m j * 2 + b = keyAt (cAt cs (ss.getD m 0)).1 (cAt cs (ss.getD m 0)).2.toNat (j + 1) ∧ j < (cAt cs (ss.getD m 0)).2.toNat ∧
    ((j + 1 = (cAt cs (ss.getD m 0)).2.toNat ∧ Rd cs ss extra rest (m + 1) 0) ∨ (j + 1 < (cAt cs (ss.getD m 0)).2.toNat ∧ Rd cs ss extra rest m (j + 1))) := by
  rcases h with ⟨h1, h2, h3⟩ | ⟨h1, _⟩
  · have g : ss.getD m 0 = ss[m] := by rw [List.getD_eq_getElem?_getD, List.getElem?_eq_getElem hm]; rfl
    have gd : Good T cs (ss.getD m 0) := by rw [g]; exact hg _ (List.getElem_mem hm)
    have hl : j < (wAt cs (ss.getD m 0)).length := by rw [wAt, bitsI_len]; exact h2
    rw [List.drop_eq_getElem_cons hl, List.cons_append] at h3
    obtain ⟨e1, e2⟩ := List.cons.inj h3
    have e3 : b = (cAt cs (ss.getD m 0)).1 / 2 ^ ((cAt cs (ss.getD m 0)).2.toNat - 1 - j) % 2 := by
      have := bitsI_get (v := (cAt cs (ss.getD m 0)).1) h2
      rw [show bitsI (cAt cs (ss.getD m 0)).1 (cAt cs (ss.getD m 0)).2.toNat = wAt cs (ss.getD m 0) from rfl, List.getElem?_eq_getElem hl] at this
      rw [e1]; exact Option.some.inj this
    refine ⟨?_, h2, ?_⟩
    · rw [keyAt_succ h2, ← e3]
      unfold rdKey
      split
      · rename_i j0
        rw [j0, keyAt_zero gd.lo gd.hi]
      · rfl
    · by_cases q : j + 1 = (cAt cs (ss.getD m 0)).2.toNat
      · left
        refine ⟨q, ?_⟩
        rw [e2, List.drop_eq_nil_of_le (by rw [wAt, bitsI_len]; omega), List.nil_append]
        exact Rd.start (fun s hs => (hg s hs).pos) hm
      · right
        exact ⟨by omega, .inl ⟨hm, by omega, e2⟩⟩
  · omega
theorem Rd.le {cs : List (Int × Int)} {ss extra rest : List Int} {m j : Nat} (h : Rd cs ss extra rest m j) : m ≤ ss.length := by
  rcases h with h | h <;> omega
/-- nothing ahead and nothing behind: all is read -/
theorem Rd.nil {cs : List (Int × Int)} {ss extra : List Int} {m j : Nat} (h : Rd cs ss extra [] m j) : m = ss.length := by
  rcases h with ⟨_, h2, h3⟩ | h
  · have := congrArg List.length h3
    rw [List.length_append, List.length_drop, wAt, bitsI_len, List.length_nil] at this
    omega
  · exact h.1
theorem Rd.more {cs : List (Int × Int)} {ss rest : List Int} {b : Int} {m j : Nat} (h : Rd cs ss [] (b :: rest) m j) : m < ss.length := by
  rcases h with h | ⟨_, _, h⟩
  · exact h.1
  · cases h
/-- the symbols that have a code -/
def presTo (L : List Int) (k : Nat) : List Int := ((List.range k).filter fun s => decide (0 < L.getD s 0)).map fun s => ((s : Nat) : Int)
def missTo (L : List Int) (k : Nat) : List Int := ((List.range k).filter fun s => decide (L.getD s 0 = 0)).map fun s => ((s : Nat) : Int)
theorem presTo_mem {L : List Int} {k : Nat} {s : Int} (h : s ∈ presTo L k) : 0 ≤ s ∧ s < k ∧ 0 < L.getD s.toNat 0 := by
  obtain ⟨t, ht, rfl⟩ := List.mem_map.mp h
  obtain ⟨h1, h2⟩ := List.mem_filter.mp ht
  have h1 := List.mem_range.mp h1
  have h2 := of_decide_eq_true h2
  rw [Int.toNat_natCast]
  exact ⟨by omega, by omega, h2⟩
theorem missTo_mem {L : List Int} {k : Nat} {s : Int} (h : s ∈ missTo L k) : 0 ≤ s ∧ s < k ∧ L.getD s.toNat 0 = 0 := by
  obtain ⟨t, ht, rfl⟩ := List.mem_map.mp h
  obtain ⟨h1, h2⟩ := List.mem_filter.mp ht
  have h1 := List.mem_range.mp h1
  have h2 := of_decide_eq_true h2
  rw [Int.toNat_natCast]
  exact ⟨by omega, by omega, h2⟩
theorem presTo_len (L : List Int) (k : Nat) : (presTo L k).length ≤ k := by
  unfold presTo
  rw [List.length_map]
  exact Nat.le_trans (List.length_filter_le _ _) (by simp)
theorem missTo_len (L : List Int) (k : Nat) : (missTo L k).length ≤ k := by
  unfold missTo
  rw [List.length_map]
  exact Nat.le_trans (List.length_filter_le _ _) (by simp)
/-- the table, stored symbol by symbol -/
def tabOf (L : List Int) (ss : List Int) : List (Int × Int) := ss.foldl (fun T s => storeI T (2 ^ (L.getD s.toNat 0).toNat + vOf L s.toNat) s) []
theorem tabOf_snoc (L : List Int) (ss : List Int) (s : Int) : tabOf L (ss ++ [s]) = storeI (tabOf L ss) (2 ^ (L.getD s.toNat 0).toNat + vOf L s.toNat) s := by
  unfold tabOf; rw [List.foldl_append]; rfl
theorem tabOf_pres {L : List Int} : ∀ k, k ≤ L.length → tabOf L (presTo L k) = tabTo (codesOf L) k
  | 0, _ => rfl
  | k + 1, h => by
    have ih := tabOf_pres (L := L) k (by omega)
    rw [tabTo, cAt_codes (by omega : k < L.length)]
    by_cases q : 0 < L.getD k 0
    · rw [if_pos q]
      have e : presTo L (k + 1) = presTo L k ++ [(k : Int)] := by
        unfold presTo
        rw [List.range_succ, List.filter_append, List.map_append]
        simp only [List.filter_cons, q, decide_true, if_true, List.filter_nil, List.map_cons, List.map_nil]
      rw [e, tabOf_snoc, ih, Int.toNat_natCast]
    · rw [if_neg q]
      have e : presTo L (k + 1) = presTo L k := by
        unfold presTo
        rw [List.range_succ, List.filter_append, List.map_append]
        simp only [List.filter_cons, q, decide_false, List.filter_nil]
        simp
      rw [e, ih]
end Mine
end
section
namespace Mine
open PySem PySem.Calls

local macro_rules | `(tactic| walk_at "side") => `(tactic| first | assumption | with_unfolding_all rfl | omega | decide | (simp only [List.length_map, List.length_cons, List.length_nil, List.length_append, List.length_set]; omega) | exact shaped_li _ | exact shaped_t2 _ _ | exact shaped_lt _ | exact Int.emod_nonneg _ (by omega) | exact Int.emod_lt_of_pos _ (by omega) | exact Int.lt_of_lt_of_le (Int.emod_lt_of_pos _ (by omega)) (by omega))
local macro_rules | `(tactic| walk_at "evcall") => `(tactic| fail "no call")
local macro_rules | `(tactic| walk_at "ev") => `(tactic| first
  | with_reducible exact EV.int
  | with_reducible exact EV.bool
  | with_reducible exact EV.str
  | (with_reducible apply EV.var; all_goals with_unfolding_all rfl)
  | (with_reducible apply EV.add; all_goals walk_at "ev")
  | (with_reducible apply EV.sub; all_goals walk_at "ev")
  | (with_reducible apply EV.mul; all_goals walk_at "ev")
  | (with_reducible apply EV.pow; all_goals walk_at "ev")
  | (with_reducible apply EV.modP; all_goals walk_at "ev")
  | (with_reducible apply EV.fdivP; all_goals walk_at "ev")
  | (with_reducible apply EV.neg; all_goals walk_at "ev")
  | (with_reducible apply EV.len'; all_goals walk_at "ev")
  | (with_reducible apply EV.min'; all_goals walk_at "ev")
  | (with_reducible apply EV.max'; all_goals walk_at "ev")
  | (with_reducible apply EV.abs'; all_goals walk_at "ev")
  | (with_reducible apply EV.tuple; all_goals walk_at "ev")
  | (with_reducible apply EV.itemTI; all_goals walk_at "ev")
  | (with_reducible apply EV.itemT; all_goals walk_at "ev")
  | (with_reducible apply EV.itemI; all_goals walk_at "ev")
  | walk_at "evcall"
  | (with_reducible apply EVF.evI; all_goals walk_at "ev")
  | (with_reducible apply EVF.ev; all_goals walk_at "ev")
  | (with_reducible apply EVo.own; all_goals with_unfolding_all rfl)
  | (with_reducible apply EV.evo; all_goals walk_at "ev")
  | with_reducible exact EVs.nil
  | (with_reducible apply EVs.cons; all_goals walk_at "ev")
  | with_reducible exact EVp.none
  | (with_reducible apply EVp.some; all_goals walk_at "ev")
  | (with_reducible apply EVF.listOf; all_goals walk_at "ev")
  | (with_reducible apply EVF.sliceI; all_goals walk_at "ev")
  | (with_reducible apply EVF.catI; all_goals walk_at "ev")
  | (with_reducible apply EVF.list; all_goals walk_at "ev")
  | (with_reducible apply EVF.slice; all_goals walk_at "ev")
  | (with_reducible apply EVF.cat; all_goals walk_at "ev")
  | (with_reducible apply TS.lt; all_goals walk_at "ev")
  | (with_reducible apply TS.gt; all_goals walk_at "ev")
  | (with_reducible apply TS.le; all_goals walk_at "ev")
  | (with_reducible apply TS.ge; all_goals walk_at "ev")
  | (with_reducible apply TS.eq; all_goals walk_at "ev")
  | (with_reducible apply TS.ne; all_goals walk_at "ev")
  | (with_reducible apply TS.not; all_goals walk_at "ev")
  | (with_reducible apply TS.isNot; all_goals walk_at "ev")
  | (with_reducible apply TS.neD; all_goals walk_at "ev")
  | (with_reducible apply TS.eqD; all_goals walk_at "ev")
  | (with_reducible apply TS.val; all_goals walk_at "ev")
  | (with_reducible apply TS.and2; all_goals first | (intro _; walk_at "ev") | walk_at "ev")
  | (with_reducible apply TS.or2; all_goals first | (intro _; walk_at "ev") | walk_at "ev")
  | (with_reducible apply IT.rangeDown'; all_goals walk_at "ev")
  | (with_reducible apply IT.range1'; all_goals walk_at "ev")
  | (with_reducible apply IT.range2'; all_goals walk_at "ev")
  | (with_reducible apply IT.list; all_goals walk_at "ev")
  | (with_reducible apply IT.tuple; all_goals walk_at "ev")
  | walk_at "side")
local macro_rules | `(tactic| walk_at "assign") => `(tactic| (with_reducible apply WP.assign (c := _) (rest := _); all_goals first | with_reducible show WP _ _ _ _ | walk_at "ev"))
local macro_rules | `(tactic| walk_at "assignOwn") => `(tactic| (with_reducible apply WP.assignOwn; all_goals first | with_reducible show WP _ _ _ _ | walk_at "ev"))
local macro_rules | `(tactic| walk_at "append") => `(tactic| first | (with_reducible apply WP.appendI; all_goals first | with_reducible show WP _ _ _ _ | walk_at "ev") | (with_reducible apply WP.append; all_goals first | with_reducible show WP _ _ _ _ | walk_at "ev"))
local macro_rules | `(tactic| walk_at "ret") => `(tactic| (with_reducible apply WP.ret; all_goals first | with_reducible show EV _ _ _ _; walk_at "ev" | skip))
local macro_rules | `(tactic| walk_at "next") => `(tactic| (refine WP.nil ?_; with_unfolding_all show WP _ _ _ _))

local macro_rules | `(tactic| walk_at "evcall") => `(tactic| first | (with_reducible apply ev_dt; all_goals walk_at "ev") | (with_reducible apply ev_bo; all_goals walk_at "ev"))
theorem take_snoc {ss : List Int} {m : Nat} (h : m < ss.length) : ss.take m ++ [ss.getD m 0] = ss.take (m + 1) := by
  rw [List.take_add_one, List.getD_eq_getElem?_getD, List.getElem?_eq_getElem h]; rfl
theorem drop_bit {bits : List Int} {k : Nat} {b : Int} (h : bits[k]? = some b) : bits.drop k = b :: bits.drop (k + 1) := by
  obtain ⟨h1, h2⟩ := List.getElem?_eq_some_iff.mp h
  rw [List.drop_eq_getElem_cons h1, h2]
abbrev decNames : List Str := ["bits", "codes", "count", "table", "symbols", "key", "width", "bit"]
set_option maxRecDepth 100000 in
theorem dec_body {G : GX} {F : Nat → Addr} (H : H103 G F) {A : Around} {env : Env} {h0 : Heap} {q : Nat} (hq : 1 ≤ q) {cs : List (Int × Int)} {bits ss extra : List Int} (hc : Cds cs) (hg : ∀ s ∈ ss, Good (tabTo cs cs.length) cs s) (hb : bits = encOf cs ss ++ extra) (hz : bits.length ≤ 2 ^ 16) (hzs : ss.length ≤ 1000) :
    WP ⟨G, A, env, h0, decNames, kindsAt P103 7, q⟩ [.val (LI bits), .val (LP cs), .val (.int ss.length), .un, .un, .un, .un, .un] (bodyAt P103 7) (fun o => ∃ d, o = .ret d ∧ d = LI ss) := by
  conv => enter [1, 6]; whnf
  conv => enter [3]; whnf
  have B := H.bis
  walk_at "assign"
  walk_at "assignOwn"
  walk_at "assign"
  walk_at "assign"
  refine WP.forIn (fun k σ => ∃ (m j : Nat) (s1 : Slot), Rd cs ss extra (bits.drop k) m j ∧ σ = [.val (LI bits), .val (LP cs), .val (.int ss.length), .val (DI (tabTo cs cs.length)), .own ((ss.take m).map PyData.int), .val (.int (rdKey cs ss m j)), .val (.int j), s1]) (IT.list (by walk_at "ev")) rfl ?_ ?_ ?_
  · refine ⟨0, 0, .un, ?_, rfl⟩
    have := Rd.start (cs := cs) (extra := extra) (fun s hs => (hg s hs).pos) (m := 0) (Nat.zero_le _)
    rw [List.drop_zero] at this
    rw [List.drop_zero, hb]; exact this
  · rintro k d σ hd ⟨m, j, s1, R, rfl⟩
    rw [List.getElem?_map] at hd
    cases hx : bits[k]? with
    | none => rw [hx] at hd; cases hd
    | some b =>
      rw [hx] at hd; cases hd
      have hml := R.le
      have htl : ((ss.take m).map PyData.int).length = m := by rw [List.length_map, List.length_take]; omega
      rw [drop_bit hx] at R
      refine ⟨_, TG.name rfl rfl, ?_⟩
      refine WP.ite (by walk_at "ev") ?_ ?_
      · rw [htl]; intro hb'
        have hb' : (m : Int) = ss.length := of_decide_eq_true hb'
        refine WP.freeze 4 rfl ?_
        refine WP.ret (EV.var rfl rfl rfl) ⟨_, rfl, ?_⟩
        rw [List.take_of_length_le (by omega)]
      · rw [htl]; intro hb'
        have hb' : ¬ (m : Int) = ss.length := of_decide_eq_false hb'
        have hm : m < ss.length := by omega
        walk_at "next"
        obtain ⟨e1, e2, e3⟩ := R.step hg hm
        have gd : Good (tabTo cs cs.length) cs (ss.getD m 0) := hg _ (getD_mem hm)
        have h4 := hc.at (ss.getD m 0)
        refine WP.assign rfl rfl rfl (EV.add (EV.mul (by walk_at "ev") (by walk_at "ev") (.inr (by decide))) (by walk_at "ev")) ?_
        rw [e1]
        walk_at "assign"
        rcases e3 with ⟨ej, R'⟩ | ⟨ej, R'⟩
        · have hlk : look (tabTo cs cs.length) (keyAt (cAt cs (ss.getD m 0)).1 (cAt cs (ss.getD m 0)).2.toNat (j + 1)) = some (ss.getD m 0) := by
            rw [ej, keyAt_full]; exact gd.hit
          refine WP.ite (TS.is (TS.inD (by walk_at "ev") (by walk_at "ev") rfl rfl) (show _ = true by rw [hlk]; rfl)) (fun _ => ?_) (fun h => nomatch h)
          refine WP.appendI rfl rfl rfl (EV.itemD (by walk_at "ev") (by walk_at "ev") rfl hlk) rfl rfl (by rw [List.length_take]; omega) ?_
          rw [take_snoc hm]
          walk_at "assign"
          walk_at "assign"
          exact WP.nil (WP.nil ⟨m + 1, 0, _, R', rfl⟩)
        · have hlk : look (tabTo cs cs.length) (keyAt (cAt cs (ss.getD m 0)).1 (cAt cs (ss.getD m 0)).2.toNat (j + 1)) = none := gd.miss (j + 1) (by omega) ej
          refine WP.ite (TS.is (TS.inD (by walk_at "ev") (by walk_at "ev") rfl rfl) (show _ = false by rw [hlk]; rfl)) (fun h => nomatch h) (fun _ => ?_)
          refine WP.ite (by walk_at "ev") (fun h => ?_) (fun _ => ?_)
          · have : 64 < (j : Int) + 1 := of_decide_eq_true h
            omega
          · refine WP.nil (WP.nil (WP.nil ⟨m, j + 1, .val (.int b), R', ?_⟩))
            rw [show rdKey cs ss m (j + 1) = keyAt (cAt cs (ss.getD m 0)).1 (cAt cs (ss.getD m 0)).2.toNat (j + 1) from if_neg (Nat.succ_ne_zero j)]; rfl
  · rintro σ ⟨m, j, s1, R, rfl⟩
    rw [List.length_map, List.drop_length] at R
    have hm := R.nil
    have htl : ((ss.take m).map PyData.int).length = m := by rw [List.length_map, List.length_take]; omega
    refine WP.ite (by walk_at "ev") ?_ ?_
    · rw [htl]; intro h
      have : (m : Int) < ss.length := of_decide_eq_true h
      omega
    · intro _
      walk_at "next"
      refine WP.freeze 4 rfl ?_
      refine WP.ret (EV.var rfl rfl rfl) ⟨_, rfl, ?_⟩
      rw [List.take_of_length_le (by omega)]
set_option maxRecDepth 100000 in
theorem dec_raise {G : GX} {F : Nat → Addr} (H : H103 G F) {A : Around} {env : Env} {h0 : Heap} {q : Nat} (hq : 1 ≤ q) {cs : List (Int × Int)} {bits ss tail : List Int} {count : Int} (hc : Cds cs) (hg : ∀ s ∈ ss, Good (tabTo cs cs.length) cs s) (hb : bits ++ tail = encOf cs ss) (hz : bits.length ≤ 2 ^ 16) (hzs : ss.length ≤ 1000)
    (hcnt : (tail = [] ∧ count = ss.length + 1) ∨ ((∃ z, tail = [z]) ∧ count = ss.length)) :
    WX ⟨G, A, env, h0, decNames, kindsAt P103 7, q⟩ [.val (LI bits), .val (LP cs), .val (.int count), .un, .un, .un, .un, .un] (bodyAt P103 7) (.ref (F 1)) := by
  conv => enter [1, 6]; whnf
  conv => enter [3]; whnf
  have B := H.bis
  refine WX.seq ?_
  walk_at "assign"
  refine WP.nil ⟨_, rfl, ?_⟩
  refine WX.seq ?_
  walk_at "assignOwn"
  refine WP.nil ⟨_, rfl, ?_⟩
  refine WX.seq ?_
  walk_at "assign"
  refine WP.nil ⟨_, rfl, ?_⟩
  refine WX.seq ?_
  walk_at "assign"
  refine WP.nil ⟨_, rfl, ?_⟩
  refine WX.forIn (fun k σ => ∃ (m j : Nat) (s1 : Slot), Rd cs ss [] (bits.drop k ++ tail) m j ∧ σ = [.val (LI bits), .val (LP cs), .val (.int count), .val (DI (tabTo cs cs.length)), .own ((ss.take m).map PyData.int), .val (.int (rdKey cs ss m j)), .val (.int j), s1]) (IT.list (by walk_at "ev")) rfl ?_ ?_ ?_
  · refine ⟨0, 0, .un, ?_, rfl⟩
    have := Rd.start (cs := cs) (extra := []) (fun s hs => (hg s hs).pos) (m := 0) (Nat.zero_le _)
    rw [List.drop_zero, List.append_nil] at this
    rw [List.drop_zero, hb]; exact this
  · rintro k d σ hd ⟨m, j, s1, R, rfl⟩
    rw [List.getElem?_map] at hd
    cases hx : bits[k]? with
    | none => rw [hx] at hd; cases hd
    | some b =>
      rw [hx] at hd; cases hd
      rw [drop_bit hx, List.cons_append] at R
      have hm := R.more
      have htl : ((ss.take m).map PyData.int).length = m := by rw [List.length_map, List.length_take]; omega
      refine ⟨_, TG.name rfl rfl, .inr ?_⟩
      refine WP.ite (by walk_at "ev") ?_ ?_
      · rw [htl]; intro hb'
        have hb' : (m : Int) = count := of_decide_eq_true hb'
        omega
      · intro _
        walk_at "next"
        obtain ⟨e1, e2, e3⟩ := R.step hg hm
        have gd : Good (tabTo cs cs.length) cs (ss.getD m 0) := hg _ (getD_mem hm)
        have h4 := hc.at (ss.getD m 0)
        refine WP.assign rfl rfl rfl (EV.add (EV.mul (by walk_at "ev") (by walk_at "ev") (.inr (by decide))) (by walk_at "ev")) ?_
        rw [e1]
        walk_at "assign"
        rcases e3 with ⟨ej, R'⟩ | ⟨ej, R'⟩
        · have hlk : look (tabTo cs cs.length) (keyAt (cAt cs (ss.getD m 0)).1 (cAt cs (ss.getD m 0)).2.toNat (j + 1)) = some (ss.getD m 0) := by
            rw [ej, keyAt_full]; exact gd.hit
          refine WP.ite (TS.is (TS.inD (by walk_at "ev") (by walk_at "ev") rfl rfl) (show _ = true by rw [hlk]; rfl)) (fun _ => ?_) (fun h => nomatch h)
          refine WP.appendI rfl rfl rfl (EV.itemD (by walk_at "ev") (by walk_at "ev") rfl hlk) rfl rfl (by rw [List.length_take]; omega) ?_
          rw [take_snoc hm]
          walk_at "assign"
          walk_at "assign"
          exact WP.nil (WP.nil ⟨_, rfl, m + 1, 0, _, R', rfl⟩)
        · have hlk : look (tabTo cs cs.length) (keyAt (cAt cs (ss.getD m 0)).1 (cAt cs (ss.getD m 0)).2.toNat (j + 1)) = none := gd.miss (j + 1) (by omega) ej
          refine WP.ite (TS.is (TS.inD (by walk_at "ev") (by walk_at "ev") rfl rfl) (show _ = false by rw [hlk]; rfl)) (fun h => nomatch h) (fun _ => ?_)
          refine WP.ite (by walk_at "ev") (fun h => ?_) (fun _ => ?_)
          · have : 64 < (j : Int) + 1 := of_decide_eq_true h
            omega
          · refine WP.nil (WP.nil (WP.nil ⟨_, rfl, m, j + 1, .val (.int b), R', ?_⟩))
            rw [show rdKey cs ss m (j + 1) = keyAt (cAt cs (ss.getD m 0)).1 (cAt cs (ss.getD m 0)).2.toNat (j + 1) from if_neg (Nat.succ_ne_zero j)]; rfl
  · rintro σ ⟨m, j, s1, R, rfl⟩
    rw [List.length_map, List.drop_length, List.nil_append] at R
    have hml := R.le
    have htl : ((ss.take m).map PyData.int).length = m := by rw [List.length_map, List.length_take]; omega
    have hlt : (m : Int) < count := by
      rcases hcnt with ⟨_, h⟩ | ⟨⟨z, h⟩, h'⟩
      · omega
      · rw [h] at R
        have := R.more
        omega
    refine WX.ite (by walk_at "ev") ?_ ?_
    · intro _
      exact WX.raise H.fe (by walk_at "ev") rfl rfl (by decide)
    · rw [htl]; intro h
      exact absurd hlt (of_decide_eq_false h)
theorem ev_dec {c : Cx} {σ : List Slot} {F : Nat → Addr} (H : H103 c.G F) {e e' e'' : Expr} {p pos : Pos} {cs : List (Int × Int)} {bits ss extra : List Int} (he : EV c σ e (LI bits)) (he' : EV c σ e' (LP cs)) (he'' : EV c σ e'' (.int ss.length)) (hk : c.kinds.lookup (PySem.Str.ofString "decode_symbols") = some .globalImplicit) (n1 : noStar e = true) (n2 : noStar e' = true) (n3 : noStar e'' = true) (hc : Cds cs) (hg : ∀ s ∈ ss, Good (tabTo cs cs.length) cs s) (hb : bits = encOf cs ss ++ extra) (hz : bits.length ≤ 2 ^ 16) (hzs : ss.length ≤ 1000) (hr : 2 ≤ c.room) :
    EV c σ (.Call (.Name "decode_symbols" p) [e, e', e''] [] pos) (LI ss) :=
  EV.call hk (by decide) H.dec.isFn (EVs.cons he (EVs.cons he' (EVs.one he'' n3) n2) n1) n1 (H.dec.spec (more := ["table", "symbols", "key", "width", "bit"]) (n := 1) H.ok rfl fun A env h0 => dec_body H (by omega) hc hg hb hz hzs) hr
set_option maxRecDepth 100000 in
theorem ev_ldec {c : Cx} {σ : List Slot} {F : Nat → Addr} (H : H103 c.G F) {e e' e'' : Expr} {p pos : Pos} {cs : List (Int × Int)} {bits ss extra : List Int} (he : EV c σ e (LI bits)) (he' : EV c σ e' (LP cs)) (he'' : EV c σ e'' (.int ss.length)) (hk : c.kinds.lookup (PySem.Str.ofString "_law_decoded") = some .globalImplicit) (n1 : noStar e = true) (n2 : noStar e' = true) (n3 : noStar e'' = true) (hc : Cds cs) (hg : ∀ s ∈ ss, Good (tabTo cs cs.length) cs s) (hb : bits = encOf cs ss ++ extra) (hz : bits.length ≤ 2 ^ 16) (hzs : ss.length ≤ 1000) (hr : 3 ≤ c.room) :
    EV c σ (.Call (.Name "_law_decoded" p) [e, e', e''] [] pos) (LI ss) := by
  refine EV.call hk (by decide) H.ldec.isFn (EVs.cons he (EVs.cons he' (EVs.one he'' n3) n2) n1) n1 (H.ldec.spec (more := ["got"]) (n := 2) H.ok rfl fun A env h0 => ?_) hr
  show WP ⟨c.G, A, env, h0, ["bits", "codes", "count", "got"], kindsAt P103 15, 2⟩ [.val (LI bits), .val (LP cs), .val (.int ss.length), .un] (bodyAt P103 15) _
  conv => enter [1, 6]; whnf
  conv => enter [3]; whnf
  refine WP.tryOk ?_
  refine WP.assign rfl rfl rfl (ev_dec (c := ⟨c.G, A, env, h0, _, _, _⟩) H (by walk_at "ev") (by walk_at "ev") (by walk_at "ev") rfl rfl rfl rfl hc hg hb hz hzs (by walk_at "side")) ?_
  walk_at "next"
  exact WP.ret (by walk_at "ev") ⟨_, rfl, rfl⟩
set_option maxRecDepth 100000 in
theorem ldec_refuses {G : GX} {F : Nat → Addr} (H : H103 G F) {cs : List (Int × Int)} {bits ss tail : List Int} {count : Int} (hc : Cds cs) (hg : ∀ s ∈ ss, Good (tabTo cs cs.length) cs s) (hb : bits ++ tail = encOf cs ss) (hz : bits.length ≤ 2 ^ 16) (hzs : ss.length ≤ 1000)
    (hcnt : (tail = [] ∧ count = ss.length + 1) ∨ ((∃ z, tail = [z]) ∧ count = ss.length)) :
    FnSpecF G (F 15) [LI bits, LP cs, .int count] (.str (PySem.Str.ofString "FormatError")) 3 :=
  H.ldec.catch (more := ["got"]) (n := 2) H.ok rfl rfl H.fe rfl (by decide) fun A env h0 => WE.assign rfl (EVX.call rfl (by decide) H.dec.isFn (EVs.cons (EV.var (i := 0) rfl rfl rfl) (EVs.cons (EV.var (i := 1) rfl rfl rfl) (EVs.one (EV.var (i := 2) rfl rfl rfl) rfl) rfl) rfl) rfl
    (H.dec.raise (more := ["table", "symbols", "key", "width", "bit"]) (n := 1) H.ok rfl fun A env h0 => dec_raise H (by omega) hc hg hb hz hzs hcnt) (Nat.le_refl _))
end Mine
end
section
namespace Mine
open PySem PySem.Calls

local macro_rules | `(tactic| walk_at "side") => `(tactic| first | assumption | with_unfolding_all rfl | omega | decide | (simp only [List.length_map, List.length_cons, List.length_nil, List.length_append, List.length_set]; omega) | exact shaped_li _ | exact shaped_t2 _ _ | exact shaped_lt _ | exact Int.emod_nonneg _ (by omega) | exact Int.emod_lt_of_pos _ (by omega) | exact Int.lt_of_lt_of_le (Int.emod_lt_of_pos _ (by omega)) (by omega))
local macro_rules | `(tactic| walk_at "evcall") => `(tactic| fail "no call")
local macro_rules | `(tactic| walk_at "ev") => `(tactic| first
  | with_reducible exact EV.int
  | with_reducible exact EV.bool
  | with_reducible exact EV.str
  | (with_reducible apply EV.var; all_goals with_unfolding_all rfl)
  | (with_reducible apply EV.add; all_goals walk_at "ev")
  | (with_reducible apply EV.sub; all_goals walk_at "ev")
  | (with_reducible apply EV.mul; all_goals walk_at "ev")
  | (with_reducible apply EV.pow; all_goals walk_at "ev")
  | (with_reducible apply EV.modP; all_goals walk_at "ev")
  | (with_reducible apply EV.fdivP; all_goals walk_at "ev")
  | (with_reducible apply EV.neg; all_goals walk_at "ev")
  | (with_reducible apply EV.len'; all_goals walk_at "ev")
  | (with_reducible apply EV.min'; all_goals walk_at "ev")
  | (with_reducible apply EV.max'; all_goals walk_at "ev")
  | (with_reducible apply EV.abs'; all_goals walk_at "ev")
  | (with_reducible apply EV.tuple; all_goals walk_at "ev")
  | (with_reducible apply EV.itemTI; all_goals walk_at "ev")
  | (with_reducible apply EV.itemT; all_goals walk_at "ev")
  | (with_reducible apply EV.itemI; all_goals walk_at "ev")
  | walk_at "evcall"
  | (with_reducible apply EVF.evI; all_goals walk_at "ev")
  | (with_reducible apply EVF.ev; all_goals walk_at "ev")
  | (with_reducible apply EVo.own; all_goals with_unfolding_all rfl)
  | (with_reducible apply EV.evo; all_goals walk_at "ev")
  | with_reducible exact EVs.nil
  | (with_reducible apply EVs.cons; all_goals walk_at "ev")
  | with_reducible exact EVp.none
  | (with_reducible apply EVp.some; all_goals walk_at "ev")
  | (with_reducible apply EVF.listOf; all_goals walk_at "ev")
  | (with_reducible apply EVF.sliceI; all_goals walk_at "ev")
  | (with_reducible apply EVF.catI; all_goals walk_at "ev")
  | (with_reducible apply EVF.list; all_goals walk_at "ev")
  | (with_reducible apply EVF.slice; all_goals walk_at "ev")
  | (with_reducible apply EVF.cat; all_goals walk_at "ev")
  | (with_reducible apply TS.lt; all_goals walk_at "ev")
  | (with_reducible apply TS.gt; all_goals walk_at "ev")
  | (with_reducible apply TS.le; all_goals walk_at "ev")
  | (with_reducible apply TS.ge; all_goals walk_at "ev")
  | (with_reducible apply TS.eq; all_goals walk_at "ev")
  | (with_reducible apply TS.ne; all_goals walk_at "ev")
  | (with_reducible apply TS.not; all_goals walk_at "ev")
  | (with_reducible apply TS.isNot; all_goals walk_at "ev")
  | (with_reducible apply TS.neD; all_goals walk_at "ev")
  | (with_reducible apply TS.eqD; all_goals walk_at "ev")
  | (with_reducible apply TS.val; all_goals walk_at "ev")
  | (with_reducible apply TS.and2; all_goals first | (intro _; walk_at "ev") | walk_at "ev")
  | (with_reducible apply TS.or2; all_goals first | (intro _; walk_at "ev") | walk_at "ev")
  | (with_reducible apply IT.rangeDown'; all_goals walk_at "ev")
  | (with_reducible apply IT.range1'; all_goals walk_at "ev")
  | (with_reducible apply IT.range2'; all_goals walk_at "ev")
  | (with_reducible apply IT.list; all_goals walk_at "ev")
  | (with_reducible apply IT.tuple; all_goals walk_at "ev")
  | walk_at "side")
local macro_rules | `(tactic| walk_at "assign") => `(tactic| (with_reducible apply WP.assign (c := _) (rest := _); all_goals first | with_reducible show WP _ _ _ _ | walk_at "ev"))
local macro_rules | `(tactic| walk_at "assignOwn") => `(tactic| (with_reducible apply WP.assignOwn; all_goals first | with_reducible show WP _ _ _ _ | walk_at "ev"))
local macro_rules | `(tactic| walk_at "append") => `(tactic| first | (with_reducible apply WP.appendI; all_goals first | with_reducible show WP _ _ _ _ | walk_at "ev") | (with_reducible apply WP.append; all_goals first | with_reducible show WP _ _ _ _ | walk_at "ev"))
local macro_rules | `(tactic| walk_at "ret") => `(tactic| (with_reducible apply WP.ret; all_goals first | with_reducible show EV _ _ _ _; walk_at "ev" | skip))
local macro_rules | `(tactic| walk_at "next") => `(tactic| (refine WP.nil ?_; with_unfolding_all show WP _ _ _ _))

local macro_rules | `(tactic| walk_at "evcall") => `(tactic| first | (with_reducible apply ev_bo; all_goals walk_at "ev") | (with_reducible apply ev_cell; all_goals walk_at "ev"))
theorem wordsOf_len (cs : List (Int × Int)) : (wordsOf cs).length ≤ cs.length := by
  unfold wordsOf
  rw [List.length_map]
  exact List.length_filter_le _ _
theorem wordsOf_word {cs : List (Int × Int)} (hc : Cds cs) : ∀ w ∈ wordsOf cs, w.length ≤ 4 := by
  intro w hw
  obtain ⟨p, hp, rfl⟩ := List.mem_map.mp hw
  have := hc.lo p (List.mem_filter.mp hp).1
  rw [bitsI_len]; omega
theorem ws_get {ws : List (List Int)} {i : Nat} (h : i < ws.length) : (ws.map LI)[(0 + (i : Int)).toNat]? = some (LI (ws.getD i [])) := by
  rw [show (0 + (i : Int)).toNat = i by omega, List.getElem?_map, List.getElem?_eq_getElem h, List.getD_eq_getElem?_getD, List.getElem?_eq_getElem h]; rfl
theorem ws_mem {ws : List (List Int)} {i : Nat} (h : i < ws.length) : ws.getD i [] ∈ ws := by
  rw [List.getD_eq_getElem?_getD, List.getElem?_eq_getElem h]; exact List.getElem_mem h
set_option maxRecDepth 100000 in
theorem pf_body {G : GX} {F : Nat → Addr} (H : H103 G F) {A : Around} {env : Env} {h0 : Heap} {q : Nat} (hq : 1 ≤ q) {cs : List (Int × Int)} (hc : Cds cs) {r : Bool} (hr : r = true ↔ Free (wordsOf cs)) :
    WP ⟨G, A, env, h0, ["codes", "words", "i", "j"], kindsAt P103 3, q⟩ [.val (LP cs), .un, .un, .un] (bodyAt P103 3) (fun o => ∃ d, o = .ret d ∧ d = .bool r) := by
  conv => enter [1, 6]; whnf
  conv => enter [3]; whnf
  have B := H.bis
  have hc7 := hc.len
  refine WP.assignCompG (xs := cs) (ι := P2) (p := fun p => decide (0 < p.2)) (f := fun p => LI (bitsI p.1 p.2.toNat)) (ts := ["value", "n"]) (fr := []) (P := fun σ' => ∃ a b : Slot, σ' = [a, b]) rfl rfl rfl rfl rfl (IT.list (by walk_at "ev")) rfl (by omega)
    ⟨rfl, rfl, by decide, rfl, (by show (["value", "n"] : List Str).Nodup; decide), rfl, trivial⟩ ⟨_, _, rfl⟩ ?_ ?_
  · rintro env' p σ' hp ⟨a, b, rfl⟩
    have h4 := hc.lo p hp
    have h5 := h4.1
    have h6 : p.2 ≤ 8 := by omega
    exact ⟨_, TGL.tuple (TGLs.cons (TGL.name rfl rfl rfl) (TGLs.cons (TGL.name rfl rfl rfl) TGLs.nil rfl) rfl) rfl rfl, ⟨_, _, rfl⟩, TSI.one (by walk_at "ev"), fun _ => by walk_at "ev"⟩
  have e : ((cs.filter fun p => decide (0 < p.2)).map fun p => LI (bitsI p.1 p.2.toNat)) = (wordsOf cs).map LI := by
    unfold wordsOf; rw [List.map_map]; rfl
  rw [e]
  refine WP.freeze 1 rfl ?_
  have hwl := wordsOf_len cs
  have hw4 := wordsOf_word hc
  generalize wordsOf cs = ws at *
  have hlen : (ws.map LI).length = ws.length := by simp
  have hwz : ws.length ≤ 7 := by omega
  refine WP.forIn (fun i σ => ∃ s1 s2 : Slot, σ = [.val (LP cs), .val (.list (ws.map LI)), s1, s2] ∧ ∀ i' j', i' < i → j' < ws.length → i' ≠ j' → (ws.getD j' []).take (ws.getD i' []).length ≠ ws.getD i' []) (by walk_at "ev") rfl ?_ ?_ ?_
  · exact ⟨_, _, rfl, fun _ _ h => by omega⟩
  · rintro i d σ hd ⟨s1, s2, rfl, hold⟩
    obtain ⟨rfl, hit⟩ := rng_get hd
    rw [hlen] at hit
    have hi : i < ws.length := by omega
    refine ⟨_, TG.name rfl rfl, ?_⟩
    refine WP.forIn (fun j σ => ∃ s2 : Slot, σ = [.val (LP cs), .val (.list (ws.map LI)), .val (.int (0 + i)), s2] ∧ ∀ j', j' < j → i ≠ j' → (ws.getD j' []).take (ws.getD i []).length ≠ ws.getD i []) (by walk_at "ev") rfl ?_ ?_ ?_
    · exact ⟨_, rfl, fun _ h => by omega⟩
    · rintro j d σ hd ⟨s2, rfl, hold2⟩
      obtain ⟨rfl, hjt⟩ := rng_get hd
      rw [hlen] at hjt
      have hj : j < ws.length := by omega
      have hwi := hw4 _ (ws_mem hi)
      have hwj := hw4 _ (ws_mem hj)
      refine ⟨_, TG.name rfl rfl, ?_⟩
      refine WP.ite (TS.and2 (by walk_at "ev") fun _ => TS.eqD (da := LI ((ws.getD j []).take (ws.getD i []).length)) (db := LI (ws.getD i []))
        (EVF.evI (EVF.sliceI' (EV.evo (EV.item (d := LI (ws.getD j [])) (by walk_at "ev") (by walk_at "ev") rfl (by omega) (by omega) (ws_get hj))) EVp.none (EVp.some (EV.len' (xs := (ws.getD i []).map PyData.int) B (EV.evo (EV.item (d := LI (ws.getD i [])) (by walk_at "ev") (by walk_at "ev") rfl (by omega) (by omega) (ws_get hi))) rfl rfl (by rw [List.length_map]; omega))) (by omega) (by rw [List.length_map]; exact cut_upto _ _)))
        (EV.item (d := LI (ws.getD i [])) (by walk_at "ev") (by walk_at "ev") rfl (by omega) (by omega) (ws_get hi)) rfl (shaped_li _) (shaped_li _)) ?_ ?_
      · intro hb
        rw [eqv_li] at hb
        simp only [Bool.and_eq_true, decide_eq_true_eq] at hb
        have hne : i ≠ j := by omega
        have hf : r = false := by
          cases r with
          | false => rfl
          | true => exact absurd hb.2 ((hr.mp rfl) i j hi hj hne)
        exact WP.ret (by rw [hf]; walk_at "ev") ⟨_, rfl, rfl⟩
      · intro hb
        rw [eqv_li] at hb
        refine WP.nil (WP.nil ⟨_, rfl, ?_⟩)
        intro j' hj' hne
        by_cases w : j' = j
        · subst w
          intro e
          simp only [Bool.and_eq_false_iff, decide_eq_false_iff_not] at hb
          rcases hb with hb | hb
          · omega
          · exact hb e
        · exact hold2 j' (by omega) hne
    · rintro σ ⟨s2, rfl, hold2⟩
      rw [rng_length, hlen, show ((ws.length : Int) - 0).toNat = ws.length by omega] at hold2
      refine WP.nil ⟨_, _, rfl, ?_⟩
      intro i' j' hi' hj' hne
      by_cases w : i' = i
      · subst w; exact hold2 j' hj' hne
      · exact hold i' j' (by omega) hj' hne
  · rintro σ ⟨s1, s2, rfl, hold⟩
    rw [rng_length, hlen, show ((ws.length : Int) - 0).toNat = ws.length by omega] at hold
    have hf : r = true := hr.mpr fun i j hi hj hne => hold i j hi hj hne
    exact WP.ret (by rw [hf]; walk_at "ev") ⟨_, rfl, rfl⟩
theorem ev_pf {c : Cx} {σ : List Slot} {F : Nat → Addr} (H : H103 c.G F) {e : Expr} {p pos : Pos} {cs : List (Int × Int)} {r : Bool} (hs : EV c σ e (LP cs)) (hk : c.kinds.lookup (PySem.Str.ofString "is_prefix_free") = some .globalImplicit) (n1 : noStar e = true) (hc : Cds cs) (hrr : r = true ↔ Free (wordsOf cs)) (hr : 2 ≤ c.room) :
    EV c σ (.Call (.Name "is_prefix_free" p) [e] [] pos) (.bool r) :=
  EV.call hk (by decide) H.pf.isFn (EVs.one hs n1) n1 (H.pf.spec (more := ["words", "i", "j"]) (n := 1) H.ok rfl fun A env h0 => pf_body H (by omega) hc hrr) hr
theorem shapes_all : ∀ sh ∈ shapes, (1 ≤ sh.length ∧ sh.length ≤ 5) ∧ ∀ x ∈ sh, 0 ≤ x ∧ x ≤ 4 := by decide
set_option maxRecDepth 100000 in
theorem lens_body {G : GX} {F : Nat → Addr} (H : H103 G F) {A : Around} {env : Env} {h0 : Heap} {q : Nat} (hq : 1 ≤ q) {ns : List Int} (hz : ns.length ≤ 63) :
    WP ⟨G, A, env, h0, ["script", "mode", "shape", "r", "turned", "at"], kindsAt P103 11, q⟩ [.val (LI ns), .un, .un, .un, .un, .un] (bodyAt P103 11) (fun o => ∃ d, o = .ret d ∧ ∃ L, d = LI L ∧ Lens L) := by
  conv => enter [1, 6]; whnf
  conv => enter [3]; whnf
  have B := H.bis
  walk_at "assign"
  generalize hmm : cellI ns 0 % 12 = mode
  have hm : 0 ≤ mode ∧ mode < 12 := by omega
  refine WP.ite (by walk_at "ev") ?_ ?_
  · intro _
    generalize hnn : cellI ns 1 % 7 = n
    have hn : 0 ≤ n ∧ n < 7 := by omega
    refine WP.ret (EVF.evI (EVF.comp' (ys := ((List.range (n - 0).toNat).map fun (i : Nat) => cellI ns (2 + (0 + (i : Int))) % 5).map PyData.int) (xs := List.range (n - 0).toNat) (ι := fun (i : Nat) => PyData.int (0 + i)) (f := fun (i : Nat) => PyData.int (cellI ns (2 + (0 + (i : Int))) % 5)) (fr := [("script", _)])
      (show IT _ _ _ (rng 0 n) by rw [← hnn]; walk_at "ev") ⟨rfl, rfl, by decide, rfl, (by show (["i", "script"] : List Str).Nodup; decide), rfl, ⟨⟨_, rfl, rfl, rfl, rfl⟩, trivial⟩⟩ rfl rfl (by simp; omega) ?_ (by rw [List.map_map]; rfl))) ⟨_, rfl, _, rfl, ?_⟩
    · intro env' i hi
      walk_at "ev"
    · constructor
      · intro x hx
        obtain ⟨i, _, rfl⟩ := List.mem_map.mp hx
        omega
      · simp; omega
  · intro hb
    have hb : ¬ 8 ≤ mode := of_decide_eq_false hb
    walk_at "next"
    obtain ⟨v, as, hv, hrd, ha⟩ := H.shapes
    have hml : mode.toNat < shapes.length := by show mode.toNat < 8; omega
    have hget : (shapes.map LI)[mode.toNat]? = some (LI (shapes.getD mode.toNat [])) := by
      rw [List.getElem?_map, List.getElem?_eq_getElem hml, List.getD_eq_getElem?_getD, List.getElem?_eq_getElem hml]; rfl
    have hsh := shapes_all _ (ws_mem hml)
    refine WP.assign rfl rfl rfl (EV.item (d := LI (shapes.getD mode.toNat [])) (EV.globR rfl (by decide) hv hrd ha) (by walk_at "ev") rfl (by omega) (by omega) hget) ?_
    generalize shapes.getD mode.toNat [] = sh at hsh
    obtain ⟨⟨hs1, hs5⟩, hse⟩ := hsh
    have hlen : (sh.map PyData.int).length = sh.length := by simp
    have hs1' : 0 < (((sh.map PyData.int).length : Nat) : Int) := by omega
    walk_at "assign"
    rw [hlen]
    generalize hrr : cellI ns 1 % (sh.length : Int) = r
    have hr0 : 0 ≤ r := by rw [← hrr]; exact Int.emod_nonneg _ (by omega)
    have hrn : r = ((r.toNat : Nat) : Int) := by omega
    refine WP.assign rfl rfl rfl (EVF.evI (EVF.catI (a := sh.drop r.toNat) (b := sh.take r.toNat) (EVF.evI (EVF.sliceI' (EV.evo (by walk_at "ev")) (EVp.some (by walk_at "ev")) EVp.none (by omega) (by rw [hrn]; exact cut_from _ _))) (EVF.evI (EVF.sliceI' (EV.evo (by walk_at "ev")) EVp.none (EVp.some (by walk_at "ev")) (by omega) (by rw [hrn]; exact cut_upto _ _))) (by rw [List.length_drop, List.length_take]; omega))) ?_
    have ht5 : (sh.drop r.toNat ++ sh.take r.toNat).length ≤ 5 := by rw [List.length_append, List.length_drop, List.length_take]; omega
    have hte : ∀ x ∈ sh.drop r.toNat ++ sh.take r.toNat, 0 ≤ x ∧ x ≤ 4 := fun x hx => by
      rcases List.mem_append.mp hx with h | h
      · exact hse x (List.mem_of_mem_drop h)
      · exact hse x (List.mem_of_mem_take h)
    generalize sh.drop r.toNat ++ sh.take r.toNat = tu at ht5 hte
    walk_at "assign"
    generalize haa : cellI ns 3 % 6 = at'
    have ha0 : 0 ≤ at' := by omega
    have han : at' = ((at'.toNat : Nat) : Int) := by omega
    have h2 : 0 ≤ cellI ns 2 % 2 ∧ cellI ns 2 % 2 < 2 := by omega
    have e0 : (List.replicate (cellI ns 2 % 2).toNat [PyData.int 0]).flatten = (List.replicate (cellI ns 2 % 2).toNat (0 : Int)).map PyData.int := by
      rw [List.flatten_replicate_singleton, List.map_replicate]
    refine WP.ret (EVF.evI (EVF.catI (a := tu.take at'.toNat ++ List.replicate (cellI ns 2 % 2).toNat 0) (b := tu.drop at'.toNat)
      (EVF.evI (EVF.catI (EVF.evI (EVF.sliceI' (EV.evo (by walk_at "ev")) EVp.none (EVp.some (by walk_at "ev")) (by omega) (by rw [han]; exact cut_upto _ _))) (EVF.evI (EVF.is (EVF.mulN (xs := [.int 0]) (n := cellI ns 2 % 2) (EV.evo (by walk_at "ev")) (by walk_at "ev") (by omega) (by simp; omega) (by omega)) e0)) (by rw [List.length_take, List.length_replicate]; omega)))
      (EVF.evI (EVF.sliceI' (EV.evo (by walk_at "ev")) (EVp.some (by walk_at "ev")) EVp.none (by omega) (by rw [han]; exact cut_from _ _))) (by rw [List.length_append, List.length_take, List.length_replicate, List.length_drop]; omega))) ⟨_, rfl, _, rfl, ?_⟩
    constructor
    · intro x hx
      rcases List.mem_append.mp hx with h | h
      · rcases List.mem_append.mp h with h | h
        · exact hte x (List.mem_of_mem_take h)
        · rw [(List.mem_replicate.mp h).2]; decide
      · exact hte x (List.mem_of_mem_drop h)
    · rw [List.length_append, List.length_append, List.length_take, List.length_replicate, List.length_drop]; omega
theorem evp_lens {c : Cx} {σ : List Slot} {F : Nat → Addr} (H : H103 c.G F) {e : Expr} {p pos : Pos} {ns : List Int} (hs : EV c σ e (LI ns)) (hk : c.kinds.lookup (PySem.Str.ofString "_law_lengths") = some .globalImplicit) (n1 : noStar e = true) (hz : ns.length ≤ 63) (hr : 2 ≤ c.room) :
    EVP c σ (.Call (.Name "_law_lengths" p) [e] [] pos) (fun d => ∃ L, d = LI L ∧ Lens L) :=
  EVP.call hk (by decide) H.lens.isFn (EVs.one hs n1) n1 (H.lens.spec (more := ["mode", "shape", "r", "turned", "at"]) (n := 1) H.ok rfl fun A env h0 => lens_body H (by omega) hz) hr
end Mine
end
section
namespace Mine
open PySem PySem.Calls

local macro_rules | `(tactic| walk_at "side") => `(tactic| first | assumption | with_unfolding_all rfl | omega | decide | (simp only [List.length_map, List.length_cons, List.length_nil, List.length_append, List.length_set]; omega) | exact shaped_li _ | exact shaped_t2 _ _ | exact shaped_lt _ | exact Int.emod_nonneg _ (by omega) | exact Int.emod_lt_of_pos _ (by omega) | exact Int.lt_of_lt_of_le (Int.emod_lt_of_pos _ (by omega)) (by omega))
local macro_rules | `(tactic| walk_at "evcall") => `(tactic| fail "no call")
local macro_rules | `(tactic| walk_at "ev") => `(tactic| first
  | with_reducible exact EV.int
  | with_reducible exact EV.bool
  | with_reducible exact EV.str
  | (with_reducible apply EV.var; all_goals with_unfolding_all rfl)
  | (with_reducible apply EV.add; all_goals walk_at "ev")
  | (with_reducible apply EV.sub; all_goals walk_at "ev")
  | (with_reducible apply EV.mul; all_goals walk_at "ev")
  | (with_reducible apply EV.pow; all_goals walk_at "ev")
  | (with_reducible apply EV.modP; all_goals walk_at "ev")
  | (with_reducible apply EV.fdivP; all_goals walk_at "ev")
  | (with_reducible apply EV.neg; all_goals walk_at "ev")
  | (with_reducible apply EV.len'; all_goals walk_at "ev")
  | (with_reducible apply EV.min'; all_goals walk_at "ev")
  | (with_reducible apply EV.max'; all_goals walk_at "ev")
  | (with_reducible apply EV.abs'; all_goals walk_at "ev")
  | (with_reducible apply EV.tuple; all_goals walk_at "ev")
  | (with_reducible apply EV.itemTI; all_goals walk_at "ev")
  | (with_reducible apply EV.itemT; all_goals walk_at "ev")
  | (with_reducible apply EV.itemI; all_goals walk_at "ev")
  | walk_at "evcall"
  | (with_reducible apply EVF.evI; all_goals walk_at "ev")
  | (with_reducible apply EVF.ev; all_goals walk_at "ev")
  | (with_reducible apply EVo.own; all_goals with_unfolding_all rfl)
  | (with_reducible apply EV.evo; all_goals walk_at "ev")
  | with_reducible exact EVs.nil
  | (with_reducible apply EVs.cons; all_goals walk_at "ev")
  | with_reducible exact EVp.none
  | (with_reducible apply EVp.some; all_goals walk_at "ev")
  | (with_reducible apply EVF.listOf; all_goals walk_at "ev")
  | (with_reducible apply EVF.sliceI; all_goals walk_at "ev")
  | (with_reducible apply EVF.catI; all_goals walk_at "ev")
  | (with_reducible apply EVF.list; all_goals walk_at "ev")
  | (with_reducible apply EVF.slice; all_goals walk_at "ev")
  | (with_reducible apply EVF.cat; all_goals walk_at "ev")
  | (with_reducible apply TS.lt; all_goals walk_at "ev")
  | (with_reducible apply TS.gt; all_goals walk_at "ev")
  | (with_reducible apply TS.le; all_goals walk_at "ev")
  | (with_reducible apply TS.ge; all_goals walk_at "ev")
  | (with_reducible apply TS.eq; all_goals walk_at "ev")
  | (with_reducible apply TS.ne; all_goals walk_at "ev")
  | (with_reducible apply TS.not; all_goals walk_at "ev")
  | (with_reducible apply TS.isNot; all_goals walk_at "ev")
  | (with_reducible apply TS.neD; all_goals walk_at "ev")
  | (with_reducible apply TS.eqD; all_goals walk_at "ev")
  | (with_reducible apply TS.val; all_goals walk_at "ev")
  | (with_reducible apply TS.and2; all_goals first | (intro _; walk_at "ev") | walk_at "ev")
  | (with_reducible apply TS.or2; all_goals first | (intro _; walk_at "ev") | walk_at "ev")
  | (with_reducible apply IT.rangeDown'; all_goals walk_at "ev")
  | (with_reducible apply IT.range1'; all_goals walk_at "ev")
  | (with_reducible apply IT.range2'; all_goals walk_at "ev")
  | (with_reducible apply IT.list; all_goals walk_at "ev")
  | (with_reducible apply IT.tuple; all_goals walk_at "ev")
  | walk_at "side")
local macro_rules | `(tactic| walk_at "assign") => `(tactic| (with_reducible apply WP.assign (c := _) (rest := _); all_goals first | with_reducible show WP _ _ _ _ | walk_at "ev"))
local macro_rules | `(tactic| walk_at "assignOwn") => `(tactic| (with_reducible apply WP.assignOwn; all_goals first | with_reducible show WP _ _ _ _ | walk_at "ev"))
local macro_rules | `(tactic| walk_at "append") => `(tactic| first | (with_reducible apply WP.appendI; all_goals first | with_reducible show WP _ _ _ _ | walk_at "ev") | (with_reducible apply WP.append; all_goals first | with_reducible show WP _ _ _ _ | walk_at "ev"))
local macro_rules | `(tactic| walk_at "ret") => `(tactic| (with_reducible apply WP.ret; all_goals first | with_reducible show EV _ _ _ _; walk_at "ev" | skip))
local macro_rules | `(tactic| walk_at "next") => `(tactic| (refine WP.nil ?_; with_unfolding_all show WP _ _ _ _))

theorem shaped_lp (ts : List (Int × Int)) : SeqAt.shaped (LP ts) = true := by
  have h1 : PyData.canLayAll0 (ts.map P2) = true := canLayAll_of fun d hd => by
    obtain ⟨t, _, rfl⟩ := List.mem_map.mp hd
    simp [PyData.canLay0, PyData.canLayAll0]
  have h2 : PyData.depthAll (ts.map P2) ≤ 1 := depthAll_le fun d hd => by
    obtain ⟨t, _, rfl⟩ := List.mem_map.mp hd
    simp [PyData.depth, PyData.depthAll]
  have h3 : (LP ts).depth ≤ 64 := by simp only [PyData.depth]; omega
  simp only [SeqAt.shaped, PyData.canLay0, h1, Bool.true_and, decide_eq_true_eq]
  exact h3
theorem cds_of {L : List Int} (hL : Lens L) : Cds (codesOf L) := by
  constructor
  · intro p hp
    obtain ⟨s, _, rfl⟩ := List.mem_map.mp hp
    exact hL.at s
  · rw [codesOf_len]; exact hL.len
theorem cut_butlast (ds : List Int) (h : 0 < ds.length) : cut none (some (-1)) ds = ds.take (ds.length - 1) := by
  unfold cut
  simp only [Option.elim]
  rw [show (-1 : Int) = -((1 : Nat) : Int) from rfl, clipAt_neg _ _ (by omega), List.drop_zero, Nat.sub_zero]
theorem take_last {ds : List Int} (h : 0 < ds.length) : ds.take (ds.length - 1) ++ [ds.getD (ds.length - 1) 0] = ds := by
  rw [take_snoc (by omega), show ds.length - 1 + 1 = ds.length by omega, List.take_length]
theorem encOf_pos {cs : List (Int × Int)} {ss : List Int} (hp : ∀ s ∈ ss, 0 < (cAt cs s).2) (h : 0 < ss.length) : 0 < (encOf cs ss).length := by
  cases ss with
  | nil => simp at h
  | cons s ss =>
    have := hp s (.head _)
    simp only [encOf, List.flatMap_cons, List.length_append]
    rw [wAt, bitsI_len]; omega
theorem cAt_sym {L : List Int} {s : Int} (h0 : 0 ≤ s) (h : s < L.length) : cAt (codesOf L) s = (vOf L s.toNat, L.getD s.toNat 0) := by
  have := cAt_codes (L := L) (s := s.toNat) (by omega)
  rwa [show ((s.toNat : Nat) : Int) = s by omega] at this
theorem ev_want {c : Cx} {σ : List Slot} {e e' : Expr} {p p' p'' : Pos} {k : Nat} {L : List Int} {s : Int} (he : EV c σ e (LP (codesOf L))) (hi : EV c σ e' (.int s)) (hs : noSlice e' = true) (h0 : 0 ≤ s) (h : s < L.length) (hz : L.length ≤ 7) : EV c σ (.Subscript (.Subscript e e' p) (.Constant (.int 0) k p') p'') (.int (vOf L s.toNat)) := by
  have hg := cAt_get (cs := codesOf L) h0 (by rw [codesOf_len]; exact h)
  rw [cAt_sym h0 h] at hg
  exact EV.itemT (xs := [.int (vOf L s.toNat), .int (L.getD s.toNat 0)]) (EV.item he hi hs h0 (by omega) hg) EV.int rfl (by decide) (by decide) rfl
theorem flat_four (ss : List Int) : (List.replicate (4 : Int).toNat (ss.map PyData.int)).flatten = ((List.replicate 4 ss).flatten).map PyData.int := by
  rw [List.map_flatten, List.map_replicate]; rfl
theorem lost_get {ss : List Int} {k : Nat} {x : Int} (h : k ≤ ss.length) : (ss.take k ++ [x] ++ ss.drop k)[k]? = some x := by
  have hl : (ss.take k).length = k := by rw [List.length_take]; omega
  rw [List.append_assoc, List.getElem?_append_right (by omega), hl, Nat.sub_self]; rfl
theorem lost_take {ss : List Int} {k : Nat} {x : Int} (h : k ≤ ss.length) : (ss.take k ++ [x] ++ ss.drop k).take k = ss.take k := by
  have hl : (ss.take k).length = k := by rw [List.length_take]; omega
  rw [List.append_assoc, List.take_append_of_le_length (by omega), List.take_of_length_le (by omega)]
local macro_rules | `(tactic| walk_at "evcall") => `(tactic| first | (with_reducible apply ev_cell; all_goals walk_at "ev") | (with_reducible apply ev_lcodes; all_goals walk_at "ev") | (with_reducible apply ev_cc; all_goals walk_at "ev") | (with_reducible apply ev_want; all_goals walk_at "ev") | (with_reducible apply ev_word; all_goals walk_at "ev"))
abbrev lawNames : List Str := ["script", "lengths", "want", "codes", "kraft", "free", "present", "missing", "want_table", "s", "symbols", "i", "bits", "extra", "at", "lost"]

set_option maxHeartbeats 4000000 in
set_option maxRecDepth 100000 in
theorem law_body {G : GX} {F : Nat → Addr} (H : H103 G F) {A : Around} {env : Env} {h0 : Heap} {ns : List Int} (hz : ns.length ≤ 63) (CF : CFr ⟨G, A, env, h0, lawNames, kindsAt P103 16, 3⟩ []) :
    WP ⟨G, A, env, h0, lawNames, kindsAt P103 16, 3⟩ [.val (LI ns), .un, .un, .un, .un, .un, .un, .un, .un, .un, .un, .un, .un, .un, .un, .un] (bodyAt P103 16) (fun o => ∃ d, o = .ret d ∧ d = .bool true) := by
  conv at CF => enter [1, 6]; whnf
  conv => enter [1, 6]; whnf
  conv => enter [3]; whnf
  have B := H.bis
  refine WP.assignP rfl rfl rfl (evp_lens H (by walk_at "ev") rfl rfl hz (by walk_at "side")) ?_
  rintro _ ⟨L, rfl, hL⟩
  have hC := cds_of hL
  have hl7 := hL.len
  have hlen : (L.map PyData.int).length = L.length := by simp
  walk_at "assign"
  walk_at "assign"
  refine WP.ite (TS.neD (by walk_at "ev") (by walk_at "ev") rfl (shaped_lp _) (shaped_lp _)) ?_ ?_
  · rw [eqv_self (shaped_lp _)]; intro hb; simp at hb
  intro _
  walk_at "next"
  refine WP.assign rfl rfl rfl (EV.sumL (ns := (L.filter fun n => decide (0 < n)).map fun n => (2 : Int) ^ (4 - n).toNat) B (EVF.evI (EVF.is (EVF.compI (xs := L) (ι := PyData.int) (p := fun n => decide (0 < n)) (f := fun n => PyData.int (2 ^ (4 - n).toNat)) (fr := []) (IT.list (by walk_at "ev")) ⟨rfl, rfl, by decide, rfl, by decide, rfl, trivial⟩ rfl rfl (by omega) (fun env' x hx => by walk_at "ev")
    (fun env' x hx hp => by have h1 := hL.lo x hx; walk_at "ev")) (by rw [List.map_map]; rfl))) rfl rfl ?_ ?_) ?_
  · intro x hx
    obtain ⟨n, hn, rfl⟩ := List.mem_map.mp hx
    have h1 := hL.lo n (List.mem_filter.mp hn).1
    have := pow_le2 (4 - n).toNat (by omega)
    omega
  · rw [List.length_map]
    have := List.length_filter_le (fun n => decide (0 < n)) L
    omega
  rw [show ((L.filter fun n => decide (0 < n)).map fun n => (2 : Int) ^ (4 - n).toNat).sum = kraft L from rfl]
  have hfree : decide (kraft L ≤ 16) = true ↔ Free (wordsOf (codesOf L)) := by
    rw [decide_eq_true_eq]
    exact ⟨fun h => free_of hL h, fun h => Int.not_lt.mp fun w => not_free hL w h⟩
  refine WP.assign rfl rfl rfl (ev_pf (r := decide (kraft L ≤ 16)) H (by walk_at "ev") rfl rfl hC hfree (by walk_at "side")) ?_
  refine WP.ite (by walk_at "ev") ?_ ?_
  · intro hb
    have hb : 16 < kraft L := of_decide_eq_true hb
    rw [decide_eq_false (show ¬ kraft L ≤ 16 by omega)]
    refine WP.ite (TS.isNot (by walk_at "ev") (by walk_at "ev") rfl) ?_ ?_
    · intro h; simp at h
    intro _
    walk_at "next"
    exact WP.ret (by walk_at "ev") ⟨_, rfl, rfl⟩
  intro hb
  have hk : kraft L ≤ 16 := by have : ¬ 16 < kraft L := of_decide_eq_false hb
                               omega
  rw [decide_eq_true hk]
  walk_at "next"
  refine WP.ite (TS.isNot (by walk_at "ev") (by walk_at "ev") rfl) ?_ ?_
  · intro h; simp at h
  intro _
  walk_at "next"
  have hidx : ∀ i, i ∈ List.range ((((L.map PyData.int).length : Nat) : Int) - 0).toNat → i < L.length ∧ (0 + (i : Int)).toNat = i := fun i hi => by
    have := List.mem_range.mp hi
    rw [hlen] at this
    omega
  refine WP.assignCompI (xs := List.range ((((L.map PyData.int).length : Nat) : Int) - 0).toNat) (ι := fun (i : Nat) => PyData.int (0 + i)) (p := fun i => decide (0 < L.getD i 0)) (f := fun (i : Nat) => PyData.int (0 + i)) (fr := [("lengths", _)]) rfl rfl rfl rfl rfl
    (show IT _ _ _ (rng 0 (((L.map PyData.int).length : Nat) : Int)) by walk_at "ev") ⟨rfl, rfl, by decide, rfl, (by show (["s", "lengths"] : List Str).Nodup; decide), rfl, ⟨⟨_, rfl, rfl, rfl, rfl⟩, trivial⟩⟩ rfl rfl (by simp; omega)
    (fun env' i hi => by
      have h1 := hidx i hi
      refine TS.is (b := decide (0 < L.getD (0 + (i : Int)).toNat 0)) ?_ (by rw [h1.2])
      walk_at "ev") (fun env' i hi hp => by walk_at "ev") ?_
  refine WP.freeze 6 rfl ?_
  refine WP.assignCompI (xs := List.range ((((L.map PyData.int).length : Nat) : Int) - 0).toNat) (ι := fun (i : Nat) => PyData.int (0 + i)) (p := fun i => decide (L.getD i 0 = 0)) (f := fun (i : Nat) => PyData.int (0 + i)) (fr := [("lengths", _)]) rfl rfl rfl rfl rfl
    (show IT _ _ _ (rng 0 (((L.map PyData.int).length : Nat) : Int)) by walk_at "ev") ⟨rfl, rfl, by decide, rfl, (by show (["s", "lengths"] : List Str).Nodup; decide), rfl, ⟨⟨_, rfl, rfl, rfl, rfl⟩, trivial⟩⟩ rfl rfl (by simp; omega)
    (fun env' i hi => by
      have h1 := hidx i hi
      refine TS.is (b := decide (L.getD (0 + (i : Int)).toNat 0 = 0)) ?_ (by rw [h1.2])
      walk_at "ev") (fun env' i hi hp => by walk_at "ev") ?_
  refine WP.freeze 7 rfl ?_
  have ep : ((List.range ((((L.map PyData.int).length : Nat) : Int) - 0).toNat).filter fun i => decide (0 < L.getD i 0)).map (fun (i : Nat) => PyData.int (0 + i)) = (presTo L L.length).map PyData.int := by
    unfold presTo
    rw [List.map_map, hlen, show ((L.length : Int) - 0).toNat = L.length by omega]
    apply List.map_congr_left
    intro i _
    simp only [Function.comp]
    rw [Int.zero_add]
  have em : ((List.range ((((L.map PyData.int).length : Nat) : Int) - 0).toNat).filter fun i => decide (L.getD i 0 = 0)).map (fun (i : Nat) => PyData.int (0 + i)) = (missTo L L.length).map PyData.int := by
    unfold missTo
    rw [List.map_map, hlen, show ((L.length : Int) - 0).toNat = L.length by omega]
    apply List.map_congr_left
    intro i _
    simp only [Function.comp]
    rw [Int.zero_add]
  show WP _ [.val (LI ns), .val (LI L), .val (LP (codesOf L)), .val (LP (codesOf L)), .val (.int (kraft L)), .val (.bool true), .val (.list (((List.range ((((L.map PyData.int).length : Nat) : Int) - 0).toNat).filter fun i => decide (0 < L.getD i 0)).map (fun (i : Nat) => PyData.int (0 + i)))), .val (.list (((List.range ((((L.map PyData.int).length : Nat) : Int) - 0).toNat).filter fun i => decide (L.getD i 0 = 0)).map (fun (i : Nat) => PyData.int (0 + i)))), .un, .un, .un, .un, .un, .un, .un, .un] _ _
  rw [ep, em]
  have hpm := fun s => presTo_mem (L := L) (k := L.length) (s := s)
  have hmm := fun s => missTo_mem (L := L) (k := L.length) (s := s)
  have htab := tabOf_pres (L := L) L.length (Nat.le_refl _)
  have hpl := presTo_len L L.length
  have hml := missTo_len L L.length
  generalize presTo L L.length = pres at *
  generalize missTo L L.length = miss at *
  refine WP.assignDict rfl rfl ?_
  refine WP.forIn (fun k σ => ∃ s1 : Slot, σ = [.val (LI ns), .val (LI L), .val (LP (codesOf L)), .val (LP (codesOf L)), .val (.int (kraft L)), .val (.bool true), .val (LI pres), .val (LI miss), .dic (tabOf L (pres.take k)), s1, .un, .un, .un, .un, .un, .un] ∧ (tabOf L (pres.take k)).length ≤ k) (IT.list (by walk_at "ev")) rfl ?_ ?_ ?_
  · exact ⟨_, rfl, Nat.zero_le _⟩
  · rintro k d σ hd ⟨s1, rfl, htk⟩
    rw [List.getElem?_map] at hd
    cases hx : pres[k]? with
    | none => rw [hx] at hd; cases hd
    | some s =>
      rw [hx] at hd; cases hd
      obtain ⟨hs0, hs1, hs2⟩ := hpm s (List.mem_of_getElem? hx)
      have hkl := (List.getElem?_eq_some_iff.mp hx).1
      have ha := hL.at s.toNat
      have hsn : tabOf L (pres.take (k + 1)) = storeI (tabOf L (pres.take k)) (2 ^ (L.getD s.toNat 0).toNat + vOf L s.toNat) s := by
        rw [List.take_add_one, hx]; exact tabOf_snoc L _ s
      refine ⟨_, TG.name rfl rfl, ?_⟩
      refine WP.setDict (ki := 2 ^ (L.getD s.toNat 0).toNat + vOf L s.toNat) (vi := s) rfl rfl rfl (by walk_at "ev") (by walk_at "ev") rfl (by omega) ?_
      refine WP.nil ?_
      show ∃ s1 : Slot, _ = _ ∧ _
      have := storeI_len (tabOf L (pres.take k)) (2 ^ (L.getD s.toNat 0).toNat + vOf L s.toNat) s
      rw [hsn]
      exact ⟨_, rfl, by omega⟩
  rintro σ ⟨s1, rfl, _⟩
  rw [List.length_map, List.take_length, htab]
  refine WP.freezeD 8 rfl ?_
  have hcl := codesOf_len L
  refine WP.ite (TS.neDict (kvs := tabTo (codesOf L) L.length) (by rw [← hcl]; exact ev_dt H (by walk_at "ev") rfl rfl hC (by walk_at "side")) (EV.var rfl rfl rfl) rfl) (fun h => nomatch h) (fun _ => ?_)
  walk_at "next"
  walk_at "assignOwn"
  refine WP.iteJ (fun σ => ∃ (ss : List Int) (s2 : Slot), σ = [.val (LI ns), .val (LI L), .val (LP (codesOf L)), .val (LP (codesOf L)), .val (.int (kraft L)), .val (.bool true), .val (LI pres), .val (LI miss), .val (DI (tabTo (codesOf L) L.length)), s1, .own (ss.map PyData.int), s2, .un, .un, .un, .un] ∧ ss.length ≤ 8 ∧ ∀ s ∈ ss, s ∈ pres) (by walk_at "ev") ?_ ?_ ?_
  · rw [List.length_map]; intro hb
    have hb : 0 < (pres.length : Int) := of_decide_eq_true hb
    have hb' : 0 < (((pres.map PyData.int).length : Nat) : Int) := by rw [List.length_map]; exact hb
    generalize hnn : cellI ns 8 % 9 = n
    have hn : 0 ≤ n ∧ n < 9 := by omega
    refine WP.forIn (fun k σ => ∃ (ss : List Int) (s2 : Slot), σ = [.val (LI ns), .val (LI L), .val (LP (codesOf L)), .val (LP (codesOf L)), .val (.int (kraft L)), .val (.bool true), .val (LI pres), .val (LI miss), .val (DI (tabTo (codesOf L) L.length)), s1, .own (ss.map PyData.int), s2, .un, .un, .un, .un] ∧ ss.length ≤ k ∧ ∀ s ∈ ss, s ∈ pres) (show IT _ _ _ (rng 0 n) by rw [← hnn]; walk_at "ev") rfl ?_ ?_ ?_
    · exact ⟨[], _, rfl, Nat.le_refl _, fun _ h => nomatch h⟩
    · rintro k d σ hd ⟨ss, s2, rfl, hsl, hsm⟩
      obtain ⟨rfl, hkt⟩ := rng_get hd
      refine ⟨_, TG.name rfl rfl, ?_⟩
      have hm0 := Int.emod_nonneg (cellI ns (10 + (0 + (k : Int)))) (show (((pres.map PyData.int).length : Nat) : Int) ≠ 0 by omega)
      have hm1 := Int.emod_lt_of_pos (cellI ns (10 + (0 + (k : Int)))) hb'
      have hm2 : cellI ns (10 + (0 + (k : Int))) % (((pres.map PyData.int).length : Nat) : Int) < pres.length := by rw [List.length_map] at hm1 ⊢; exact hm1
      refine WP.appendI rfl rfl rfl (EV.itemI (ns := pres) (by walk_at "ev") (by walk_at "ev") rfl hm0 hm2 (by omega)) rfl rfl (by omega) ?_
      refine WP.nil ⟨_, _, rfl, by rw [List.length_append]; simp; omega, ?_⟩
      intro s hs
      rcases List.mem_append.mp hs with h | h
      · exact hsm s h
      · rw [List.mem_singleton.mp h]
        exact getD_mem (by omega)
    · rintro σ ⟨ss, s2, rfl, hsl, hsm⟩
      rw [rng_length] at hsl
      exact WP.nil ⟨_, rfl, ss, s2, rfl, by omega, hsm⟩
  · intro _
    exact WP.nil ⟨_, rfl, [], _, rfl, Nat.zero_le _, fun _ h => nomatch h⟩
  rintro σ ⟨ss0, s2, rfl, hsl0, hsm0⟩
  refine WP.freeze 10 rfl ?_
  refine WP.iteJ (fun σ => ∃ (ss : List Int), σ = [.val (LI ns), .val (LI L), .val (LP (codesOf L)), .val (LP (codesOf L)), .val (.int (kraft L)), .val (.bool true), .val (LI pres), .val (LI miss), .val (DI (tabTo (codesOf L) L.length)), s1, .val (LI ss), s2, .un, .un, .un, .un] ∧ ss.length ≤ 32 ∧ ∀ s ∈ ss, s ∈ pres) (by walk_at "ev") ?_ ?_ ?_
  · intro _
    refine WP.assign rfl rfl rfl (EVF.evI (EVF.is (EVF.mul (xs := ss0.map PyData.int) (n := 4) (EV.evo (by walk_at "ev")) (by walk_at "ev") (by decide) (by rw [List.length_map]; show ss0.length * 4 ≤ 2 ^ 20; omega) (by decide)) (flat_four ss0))) ?_
    refine WP.nil ⟨_, rfl, _, rfl, ?_, ?_⟩
    · simp [List.replicate]; omega
    · intro s hs
      obtain ⟨l, hl, hs⟩ := List.mem_flatten.mp hs
      rw [(List.mem_replicate.mp hl).2] at hs
      exact hsm0 s hs
  · intro _
    exact WP.nil ⟨_, rfl, _, rfl, by omega, hsm0⟩
  rintro σ ⟨ss, rfl, hsl, hsm⟩
  have hsy : ∀ s ∈ ss, 0 ≤ s ∧ s < L.length ∧ 0 < L.getD s.toNat 0 := fun s hs => hpm s (hsm s hs)
  have hgood : ∀ s ∈ ss, Good (tabTo (codesOf L) (codesOf L).length) (codesOf L) s := fun s hs => by
    obtain ⟨h1, h2, h3⟩ := hsy s hs
    have := good_of hL hk (s := s.toNat) (by omega) h3
    rwa [show ((s.toNat : Nat) : Int) = s by omega] at this
  walk_at "assign"
  refine WP.forIn (fun k σ => ∃ (s3 : Slot), σ = [.val (LI ns), .val (LI L), .val (LP (codesOf L)), .val (LP (codesOf L)), .val (.int (kraft L)), .val (.bool true), .val (LI pres), .val (LI miss), .val (DI (tabTo (codesOf L) L.length)), s3, .val (LI ss), s2, .val (LI (encOf (codesOf L) (ss.take k))), .un, .un, .un]) (IT.list (by walk_at "ev")) rfl ?_ ?_ ?_
  · exact ⟨_, rfl⟩
  · rintro k d σ hd ⟨s3, rfl⟩
    rw [List.getElem?_map] at hd
    cases hx : ss[k]? with
    | none => rw [hx] at hd; cases hd
    | some s =>
      rw [hx] at hd; cases hd
      obtain ⟨hs0, hs1, hs2⟩ := hsy s (List.mem_of_getElem? hx)
      have ha := hL.at s.toNat
      have hel := encOf_len hC (ss.take k)
      rw [List.length_take] at hel
      have htk : encOf (codesOf L) (ss.take (k + 1)) = encOf (codesOf L) (ss.take k) ++ bitsI (vOf L s.toNat) (L.getD s.toNat 0).toNat := by
        rw [List.take_add_one, hx]
        simp only [encOf, Option.toList_some, List.flatMap_append, List.flatMap_cons, List.flatMap_nil, List.append_nil]
        rw [wAt, cAt_sym hs0 hs1]
      refine ⟨_, TG.name rfl rfl, ?_⟩
      refine WP.assign rfl rfl rfl (EVF.evI (EVF.catI (a := encOf (codesOf L) (ss.take k)) (b := bitsI (vOf L s.toNat) (L.getD s.toNat 0).toNat) (by walk_at "ev") (ev_word H (by walk_at "ev") (by walk_at "ev") rfl rfl rfl (by omega) (by omega) (by walk_at "side")) (by rw [bitsI_len]; omega))) ?_
      refine WP.nil ?_
      show ∃ s3 : Slot, _ = _
      rw [htk]
      exact ⟨_, rfl⟩
  rintro σ ⟨s3, rfl⟩
  rw [List.length_map, List.take_length]
  have hel := encOf_len hC ss
  have hps : ∀ s ∈ ss, 0 < (cAt (codesOf L) s).2 := fun s hs => (hgood s hs).pos
  have hcd : ∀ s ∈ ss, 0 ≤ s ∧ s < (codesOf L).length ∧ (cAt (codesOf L) s).2 ≠ 0 := fun s hs => by
    have h1 := hsy s hs
    have h2 := hps s hs
    rw [hcl]
    exact ⟨h1.1, h1.2.1, by omega⟩
  refine WP.ite (TS.neD (ev_lenc H (by walk_at "ev") (by walk_at "ev") rfl rfl rfl hC hcd (by omega) (by walk_at "side")) (by walk_at "ev") rfl (shaped_li _) (shaped_li _)) ?_ ?_
  · rw [eqv_self (shaped_li _)]; intro hb; simp at hb
  intro _
  walk_at "next"
  have hsl' : ((ss.length : Nat) : Int) = (((ss.map PyData.int).length : Nat) : Int) := by rw [List.length_map]
  have hepos := encOf_pos hps
  have hbe : encOf (codesOf L) ss = encOf (codesOf L) ss ++ [] := (List.append_nil _).symm
  refine WP.ite (TS.neD (ev_ldec (extra := []) (ss := ss) H (by walk_at "ev") (by walk_at "ev") (by rw [hsl']; walk_at "ev") rfl rfl rfl rfl hC hgood hbe (by omega) (by omega) (by walk_at "side")) (by walk_at "ev") rfl (shaped_li _) (shaped_li _)) ?_ ?_
  · rw [eqv_self (shaped_li _)]; intro hb; simp at hb
  intro _
  walk_at "next"
  generalize hnn : cellI ns 18 % 4 = n
  have hn : 0 ≤ n ∧ n < 4 := by omega
  refine WP.assignComp (xs := List.range (n - 0).toNat) (ι := fun (i : Nat) => PyData.int (0 + i)) (f := fun (i : Nat) => PyData.int (cellI ns (19 + (0 + (i : Int))) % 2)) (fr := [("script", _)]) rfl rfl rfl rfl rfl
    (show IT _ _ _ (rng 0 n) by rw [← hnn]; walk_at "ev") ⟨rfl, rfl, by decide, rfl, (by show (["i", "script"] : List Str).Nodup; decide), rfl, ⟨⟨_, rfl, rfl, rfl, rfl⟩, trivial⟩⟩ rfl rfl (by simp; omega) (fun env' i hi => by walk_at "ev") ?_
  refine WP.freeze 13 rfl ?_
  have ex : (List.range (n - 0).toNat).map (fun (i : Nat) => PyData.int (cellI ns (19 + (0 + (i : Int))) % 2)) = ((List.range (n - 0).toNat).map fun (i : Nat) => cellI ns (19 + (0 + (i : Int))) % 2).map PyData.int := by rw [List.map_map]; rfl
  have hxl : ((List.range (n - 0).toNat).map fun (i : Nat) => cellI ns (19 + (0 + (i : Int))) % 2).length ≤ 3 := by simp; omega
  show WP _ [.val (LI ns), .val (LI L), .val (LP (codesOf L)), .val (LP (codesOf L)), .val (.int (kraft L)), .val (.bool true), .val (LI pres), .val (LI miss), .val (DI (tabTo (codesOf L) L.length)), s3, .val (LI ss), s2, .val (LI (encOf (codesOf L) ss)), .val (.list ((List.range (n - 0).toNat).map (fun (i : Nat) => PyData.int (cellI ns (19 + (0 + (i : Int))) % 2)))), .un, .un] _ _
  rw [ex]
  generalize ((List.range (n - 0).toNat).map fun (i : Nat) => cellI ns (19 + (0 + (i : Int))) % 2) = ext at hxl
  refine WP.ite (TS.neD (ev_ldec (bits := encOf (codesOf L) ss ++ ext) (extra := ext) (ss := ss) H (EVF.evI (EVF.catI (by walk_at "ev") (by walk_at "ev") (by omega))) (by walk_at "ev") (by rw [hsl']; walk_at "ev") rfl rfl rfl rfl hC hgood rfl (by rw [List.length_append]; omega) (by omega) (by walk_at "side")) (by walk_at "ev") rfl (shaped_li _) (shaped_li _)) ?_ ?_
  · rw [eqv_self (shaped_li _)]; intro hb; simp at hb
  intro _
  walk_at "next"
  have hsh : SeqAt.shaped (.str (PySem.Str.ofString "FormatError")) = true := by decide +kernel
  have hsv : SeqAt.shaped (.str (PySem.Str.ofString "ValueError")) = true := by decide +kernel
  have hstr : PyData.eqv (.str (PySem.Str.ofString "FormatError")) (.str (PySem.Str.ofString "FormatError")) = true := eqv_self hsh
  have hstv : PyData.eqv (.str (PySem.Str.ofString "ValueError")) (.str (PySem.Str.ofString "ValueError")) = true := eqv_self hsv
  refine WP.iteF CF rfl (by decide) H.ldec.isFn (EVs.cons (d := LI (encOf (codesOf L) ss)) (by walk_at "ev") (EVs.cons (d := LP (codesOf L)) (by walk_at "ev") (EVs.one (d := .int (ss.length + 1)) (by rw [hsl']; walk_at "ev") rfl) rfl) rfl) rfl (ldec_refuses (tail := []) H hC hgood (List.append_nil _) (by omega) (by omega) (.inl ⟨rfl, rfl⟩)) (by walk_at "side") (by walk_at "ev") rfl hsh hsh ?_ ?_
  · rw [hstr]; intro hb; simp at hb
  intro _
  walk_at "next"
  refine WP.iteJ (fun σ => σ = [.val (LI ns), .val (LI L), .val (LP (codesOf L)), .val (LP (codesOf L)), .val (.int (kraft L)), .val (.bool true), .val (LI pres), .val (LI miss), .val (DI (tabTo (codesOf L) L.length)), s3, .val (LI ss), s2, .val (LI (encOf (codesOf L) ss)), .val (LI ext), .un, .un]) (by walk_at "ev") ?_ ?_ ?_
  · rw [List.length_map]; intro hb
    have hb : 0 < (ss.length : Int) := of_decide_eq_true hb
    have hep : 0 < (encOf (codesOf L) ss).length := hepos (by omega)
    refine WP.iteF CF rfl (by decide) H.ldec.isFn (EVs.cons (d := LI ((encOf (codesOf L) ss).take ((encOf (codesOf L) ss).length - 1))) (EVF.evI (EVF.sliceI' (EV.evo (by walk_at "ev")) EVp.none (EVp.some (EV.neg EV.int)) (by omega) (cut_butlast _ hep))) (EVs.cons (d := LP (codesOf L)) (by walk_at "ev") (EVs.one (d := .int ss.length) (by rw [hsl']; walk_at "ev") rfl) rfl) rfl) rfl (ldec_refuses H hC hgood (take_last hep) (by rw [List.length_take]; omega) (by omega) (.inr ⟨⟨_, rfl⟩, rfl⟩)) (by walk_at "side") (by walk_at "ev") rfl hsh hsh ?_ ?_
    · rw [hstr]; intro hb; simp at hb
    intro _
    exact WP.nil (WP.nil ⟨_, rfl, rfl⟩)
  · intro _
    exact WP.nil ⟨_, rfl, rfl⟩
  rintro σ rfl
  refine WP.iteJ (fun σ => True) (by walk_at "ev") ?_ ?_ ?_
  · rw [List.length_map]; intro hb
    have hb : 0 < (miss.length : Int) := of_decide_eq_true hb
    have hb' : 0 < (((miss.map PyData.int).length : Nat) : Int) := by rw [List.length_map]; exact hb
    walk_at "assign"
    rw [← hsl']
    generalize haa : cellI ns 22 % ((ss.length : Int) + 1) = at'
    have ha0 : 0 ≤ at' ∧ at' ≤ ss.length := by
      have h1 := Int.emod_nonneg (cellI ns 22) (show (ss.length : Int) + 1 ≠ 0 by omega)
      have h2 := Int.emod_lt_of_pos (cellI ns 22) (show 0 < (ss.length : Int) + 1 by omega)
      omega
    have han : at' = ((at'.toNat : Nat) : Int) := by omega
    have hal : at'.toNat ≤ ss.length := by omega
    have hm0 := Int.emod_nonneg (cellI ns 23) (show (((miss.map PyData.int).length : Nat) : Int) ≠ 0 by omega)
    have hm1 := Int.emod_lt_of_pos (cellI ns 23) hb'
    have hm2 : cellI ns 23 % (((miss.map PyData.int).length : Nat) : Int) < miss.length := by rw [List.length_map] at hm1 ⊢; exact hm1
    refine WP.assign rfl rfl rfl (EV.itemI (ns := miss) (by walk_at "ev") (by walk_at "ev") rfl hm0 hm2 (by omega)) ?_
    have hlm := getD_mem (ns := miss) (i := (cellI ns 23 % (((miss.map PyData.int).length : Nat) : Int)).toNat) (by omega)
    generalize miss.getD (cellI ns 23 % (((miss.map PyData.int).length : Nat) : Int)).toNat 0 = lost at hlm
    obtain ⟨hx0, hx1, hx2⟩ := hmm lost hlm
    have hxc : (cAt (codesOf L) lost).2 = 0 := by rw [cAt_sym hx0 hx1]; exact hx2
    have hall : ∀ s ∈ ss.take at'.toNat ++ [lost] ++ ss.drop at'.toNat, 0 ≤ s ∧ s < (codesOf L).length := fun s hs => by
      rw [hcl]
      rcases List.mem_append.mp hs with h | h
      · rcases List.mem_append.mp h with h | h
        · have := hsy s (List.mem_of_mem_take h); exact ⟨this.1, this.2.1⟩
        · rw [List.mem_singleton.mp h]; exact ⟨hx0, hx1⟩
      · have := hsy s (List.mem_of_mem_drop h); exact ⟨this.1, this.2.1⟩
    have hbef : ∀ s ∈ (ss.take at'.toNat ++ [lost] ++ ss.drop at'.toNat).take at'.toNat, (cAt (codesOf L) s).2 ≠ 0 := fun s hs => by
      rw [lost_take hal] at hs
      exact (hcd s (List.mem_of_mem_take hs)).2.2
    refine WP.iteF CF rfl (by decide) H.lenc.isFn (EVs.cons (d := LI (ss.take at'.toNat ++ [lost] ++ ss.drop at'.toNat))
      (EVF.evI (EVF.catI (EVF.evI (EVF.catI (EVF.evI (EVF.sliceI' (EV.evo (by walk_at "ev")) EVp.none (EVp.some (by walk_at "ev")) (by omega) (by rw [han]; exact cut_upto _ _))) (show EV _ _ _ (.list [.int lost]) by walk_at "ev") (by rw [List.length_take]; simp; omega))) (EVF.evI (EVF.sliceI' (EV.evo (by walk_at "ev")) (EVp.some (by walk_at "ev")) EVp.none (by omega) (by rw [han]; exact cut_from _ _))) (by rw [List.length_append, List.length_take, List.length_drop]; simp; omega)))
      (EVs.one (d := LP (codesOf L)) (by walk_at "ev") rfl) rfl) rfl (lenc_refuses H hC hall (lost_get hal) hxc hbef (by rw [List.length_append, List.length_append, List.length_take, List.length_drop]; simp; omega)) (by walk_at "side") (by walk_at "ev") rfl hsv hsv ?_ ?_
    · rw [hstv]; intro hb; simp at hb
    intro _
    exact WP.nil (WP.nil ⟨_, rfl, trivial⟩)
  · intro _
    exact WP.nil ⟨_, rfl, trivial⟩
  intro σ _
  exact WP.ret EV.bool ⟨_, rfl, rfl⟩
theorem law_spec {G : GX} {F : Nat → Addr} (H : H103 G F) {ns : List Int} (hz : ns.length ≤ 63) : FnSpec0 G (F 16) [LI ns] (· = .bool true) 20 :=
  FnSpec0.mono (H.law.spec0 (args := [LI ns]) (P := (· = .bool true)) (more := ["lengths", "want", "codes", "kraft", "free", "present", "missing", "want_table", "s", "symbols", "i", "bits", "extra", "at", "lost"]) (n := 3) H.ok rfl fun A env h0 CF => law_body H hz CF) (by omega)
end Mine
end
open PySem PySem.W PyProof.Rows
set_option maxRecDepth 100000 in
set_option maxHeartbeats 8000000 in
theorem PySem.Challenge.cw_pd_squeeze_1_03_holds : PySem.Challenge.rw_pd_squeeze_1_03.Holds := by
  (w_on; o_law; k_head; (case hw => w_witness2))
  k_fill
  intro w s₀ s₁ mg mb G Y fa o pm cd doc dV kV ho hd hcd hD hmg hg args vals as hpre hlay hrd hwl hlo
  have KX := kIn_of Y
  refine Ground.open G ?_
  intro T B D TE TW
  clear ho hd hcd hD B D TE TW
  wrow_args hpre hlay hrd hwl hlo
  have bi : ∀ {x : PySem.Str} {v : Value}, mg x = none → x ≠ "__name__" → bootBuiltins x = some v → Mine.BI ⟨PySem.Challenge.rw_pd_squeeze_1_03.row.prog, w, s₁.heap, mg, mb⟩ x v := fun h1 h2 h3 => ⟨h1, (T.builtins _ h2).trans h3⟩
  have b0 := bi (mg_none_of (n := PySem.Str.ofString "len") KX T.g (by k_is)) (by decide) Boot.«len»
  have b1 := bi (mg_none_of (n := PySem.Str.ofString "min") KX T.g (by k_is)) (by decide) Boot.«min»
  have b2 := bi (mg_none_of (n := PySem.Str.ofString "max") KX T.g (by k_is)) (by decide) Boot.«max»
  have b3 := bi (mg_none_of (n := PySem.Str.ofString "abs") KX T.g (by k_is)) (by decide) Boot.«abs»
  have b4 := bi (mg_none_of (n := PySem.Str.ofString "sum") KX T.g (by k_is)) (by decide) Boot.«sum»
  have b5 := bi (mg_none_of (n := PySem.Str.ofString "range") KX T.g (by k_is)) (by decide) Boot.«range»
  have b6 := bi (mg_none_of (n := PySem.Str.ofString "list") KX T.g (by k_is)) (by decide) Boot.«list»
  have g2 := mg_of (n := PySem.Str.ofString "canonical_codes") KX T.g (by k_is)
  have d2 := Mine.Def.of_K (p := Mine.P103) (k := 2) (ps := ["lengths"]) (G := ⟨PySem.Challenge.rw_pd_squeeze_1_03.row.prog, w, s₁.heap, mg, mb⟩) KX g2 (by k_is) (by k_is) rfl rfl (fun us h => by obtain ⟨u, rfl⟩ := Mine.len1 h; rfl) rfl rfl rfl
  have g3 := mg_of (n := PySem.Str.ofString "is_prefix_free") KX T.g (by k_is)
  have d3 := Mine.Def.of_K (p := Mine.P103) (k := 3) (ps := ["codes"]) (G := ⟨PySem.Challenge.rw_pd_squeeze_1_03.row.prog, w, s₁.heap, mg, mb⟩) KX g3 (by k_is) (by k_is) rfl rfl (fun us h => by obtain ⟨u, rfl⟩ := Mine.len1 h; rfl) rfl rfl rfl
  have g4 := mg_of (n := PySem.Str.ofString "bits_of") KX T.g (by k_is)
  have d4 := Mine.Def.of_K (p := Mine.P103) (k := 4) (ps := ["value", "width"]) (G := ⟨PySem.Challenge.rw_pd_squeeze_1_03.row.prog, w, s₁.heap, mg, mb⟩) KX g4 (by k_is) (by k_is) rfl rfl (fun us h => by obtain ⟨u, v, rfl⟩ := Mine.len2 h; rfl) rfl rfl rfl
  have g5 := mg_of (n := PySem.Str.ofString "encode_symbols") KX T.g (by k_is)
  have d5 := Mine.Def.of_K (p := Mine.P103) (k := 5) (ps := ["symbols", "codes"]) (G := ⟨PySem.Challenge.rw_pd_squeeze_1_03.row.prog, w, s₁.heap, mg, mb⟩) KX g5 (by k_is) (by k_is) rfl rfl (fun us h => by obtain ⟨u, v, rfl⟩ := Mine.len2 h; rfl) rfl rfl rfl
  have g6 := mg_of (n := PySem.Str.ofString "decoding_table") KX T.g (by k_is)
  have d6 := Mine.Def.of_K (p := Mine.P103) (k := 6) (ps := ["codes"]) (G := ⟨PySem.Challenge.rw_pd_squeeze_1_03.row.prog, w, s₁.heap, mg, mb⟩) KX g6 (by k_is) (by k_is) rfl rfl (fun us h => by obtain ⟨u, rfl⟩ := Mine.len1 h; rfl) rfl rfl rfl
  have g7 := mg_of (n := PySem.Str.ofString "decode_symbols") KX T.g (by k_is)
  have d7 := Mine.Def.of_K (p := Mine.P103) (k := 7) (ps := ["bits", "codes", "count"]) (G := ⟨PySem.Challenge.rw_pd_squeeze_1_03.row.prog, w, s₁.heap, mg, mb⟩) KX g7 (by k_is) (by k_is) rfl rfl (fun us h => by obtain ⟨u, v, x, rfl⟩ := Mine.len3 h; rfl) rfl rfl rfl
  have g10 := mg_of (n := PySem.Str.ofString "_law_cell") KX T.g (by k_is)
  have d10 := Mine.Def.of_K (p := Mine.P103) (k := 10) (ps := ["script", "i"]) (G := ⟨PySem.Challenge.rw_pd_squeeze_1_03.row.prog, w, s₁.heap, mg, mb⟩) KX g10 (by k_is) (by k_is) rfl rfl (fun us h => by obtain ⟨u, v, rfl⟩ := Mine.len2 h; rfl) rfl rfl rfl
  have g11 := mg_of (n := PySem.Str.ofString "_law_lengths") KX T.g (by k_is)
  have d11 := Mine.Def.of_K (p := Mine.P103) (k := 11) (ps := ["script"]) (G := ⟨PySem.Challenge.rw_pd_squeeze_1_03.row.prog, w, s₁.heap, mg, mb⟩) KX g11 (by k_is) (by k_is) rfl rfl (fun us h => by obtain ⟨u, rfl⟩ := Mine.len1 h; rfl) rfl rfl rfl
  have g12 := mg_of (n := PySem.Str.ofString "_law_codes") KX T.g (by k_is)
  have d12 := Mine.Def.of_K (p := Mine.P103) (k := 12) (ps := ["lengths"]) (G := ⟨PySem.Challenge.rw_pd_squeeze_1_03.row.prog, w, s₁.heap, mg, mb⟩) KX g12 (by k_is) (by k_is) rfl rfl (fun us h => by obtain ⟨u, rfl⟩ := Mine.len1 h; rfl) rfl rfl rfl
  have g13 := mg_of (n := PySem.Str.ofString "_law_word") KX T.g (by k_is)
  have d13 := Mine.Def.of_K (p := Mine.P103) (k := 13) (ps := ["v", "n"]) (G := ⟨PySem.Challenge.rw_pd_squeeze_1_03.row.prog, w, s₁.heap, mg, mb⟩) KX g13 (by k_is) (by k_is) rfl rfl (fun us h => by obtain ⟨u, v, rfl⟩ := Mine.len2 h; rfl) rfl rfl rfl
  have g14 := mg_of (n := PySem.Str.ofString "_law_encoded") KX T.g (by k_is)
  have d14 := Mine.Def.of_K (p := Mine.P103) (k := 14) (ps := ["symbols", "codes"]) (G := ⟨PySem.Challenge.rw_pd_squeeze_1_03.row.prog, w, s₁.heap, mg, mb⟩) KX g14 (by k_is) (by k_is) rfl rfl (fun us h => by obtain ⟨u, v, rfl⟩ := Mine.len2 h; rfl) rfl rfl rfl
  have g15 := mg_of (n := PySem.Str.ofString "_law_decoded") KX T.g (by k_is)
  have d15 := Mine.Def.of_K (p := Mine.P103) (k := 15) (ps := ["bits", "codes", "count"]) (G := ⟨PySem.Challenge.rw_pd_squeeze_1_03.row.prog, w, s₁.heap, mg, mb⟩) KX g15 (by k_is) (by k_is) rfl rfl (fun us h => by obtain ⟨u, v, x, rfl⟩ := Mine.len3 h; rfl) rfl rfl rfl
  have g16 := mg_of (n := PySem.Str.ofString "law") KX T.g (by k_is)
  have d16 := Mine.Def.of_K (p := Mine.P103) (k := 16) (ps := ["script"]) (G := ⟨PySem.Challenge.rw_pd_squeeze_1_03.row.prog, w, s₁.heap, mg, mb⟩) KX g16 (by k_is) (by k_is) rfl rfl (fun us h => by obtain ⟨u, rfl⟩ := Mine.len1 h; rfl) rfl rfl rfl
  have fe := own_of_in (x := PySem.Str.ofString "FormatError") (bmB := [.type "Exception", .type "BaseException", .type "object"]) (newId := "Exception.__new__") KX (topRead_of T) (by k_is) (by k_exc)
  have ve := bi (mg_none_of (n := PySem.Str.ofString "ValueError") KX T.g (by k_is)) (by decide) Boot.«ValueError»
  have c0 := mg_of (n := PySem.Str.ofString "_law_shapes") KX T.g (by k_is)
  have sh := Mine.lists_of_K (G := ⟨PySem.Challenge.rw_pd_squeeze_1_03.row.prog, w, s₁.heap, mg, mb⟩) (nss := Mine.shapes) KX c0 (by k_is) (by
    refine Mine.lists_cons (Mine.list_of_K (ns := [1]) KX (by k_is) ?_) ?_
    · exact .cons _ _ (.nil)
    refine Mine.lists_cons (Mine.list_of_K (ns := [1, 1]) KX (by k_is) ?_) ?_
    · exact .cons _ _ (.cons _ _ (.nil))
    refine Mine.lists_cons (Mine.list_of_K (ns := [1, 2, 3, 3]) KX (by k_is) ?_) ?_
    · exact .cons _ _ (.cons _ _ (.cons _ _ (.cons _ _ (.nil))))
    refine Mine.lists_cons (Mine.list_of_K (ns := [2, 2, 2, 2]) KX (by k_is) ?_) ?_
    · exact .cons _ _ (.cons _ _ (.cons _ _ (.cons _ _ (.nil))))
    refine Mine.lists_cons (Mine.list_of_K (ns := [1, 2, 3, 4, 4]) KX (by k_is) ?_) ?_
    · exact .cons _ _ (.cons _ _ (.cons _ _ (.cons _ _ (.cons _ _ (.nil)))))
    refine Mine.lists_cons (Mine.list_of_K (ns := [0, 0]) KX (by k_is) ?_) ?_
    · exact .cons _ _ (.cons _ _ (.nil))
    refine Mine.lists_cons (Mine.list_of_K (ns := [1, 1, 2]) KX (by k_is) ?_) ?_
    · exact .cons _ _ (.cons _ _ (.cons _ _ (.nil)))
    refine Mine.lists_cons (Mine.list_of_K (ns := [2, 2, 2, 2, 4]) KX (by k_is) ?_) ?_
    · exact .cons _ _ (.cons _ _ (.cons _ _ (.cons _ _ (.cons _ _ (.nil)))))
    exact Mine.lists_nil)
  have H : Mine.H103 ⟨PySem.Challenge.rw_pd_squeeze_1_03.row.prog, w, s₁.heap, mg, mb⟩ (fun k => match k with | 1 => _ | 2 => _ | 3 => _ | 4 => _ | 5 => _ | 6 => _ | 7 => _ | 10 => _ | 11 => _ | 12 => _ | 13 => _ | 14 => _ | 15 => _ | 16 => _ | _ => 0) :=
    ⟨⟨T.g, T.b, T.nolimit⟩, ⟨b0, b1, b2, b3, b4, b5, b6⟩, fe, ve, d2, d3, d4, d5, d6, d7, d10, d11, d12, d13, d14, d15, d16, sh⟩
  have hfa := hmg.symm.trans g16
  cases hfa
  exact Mine.claim_end0 hg (by assumption) (Mine.law_spec H (by omega))

