import PyProof.Rows.All
import Wide.All
import OpenK.AllK
import Wide.FinOn
import KE.DataEq
import HandS.ForMost
import HandS.Style
import HandS.SortInts
import HandS.Conv
import HandS.SetFor
import HandS.IsInst
import PySem.Challenge.RW_twentyfours_k37_whole_hats_and_lost_word
set_option Elab.async false
set_option linter.all false
set_option maxRecDepth 100000
set_option maxHeartbeats 4000000
set_option autoImplicit false
namespace DL
open PySem PySem.Spec PyProof.Rows L2
abbrev D := PyData
abbrev Cell := Addr × HO
/-! ### computations -/
class Run (m : Type → Type) extends Monad m where
  run : {α : Type} → m α → (α → Prop) → Prop
  run_pure : ∀ {α : Type} (a : α) (Q : α → Prop), run (pure a) Q → Q a
  run_pure' : ∀ {α : Type} (a : α) (Q : α → Prop), Q a → run (pure a) Q
  run_bind : ∀ {α β : Type} (x : m α) (f : α → m β) (Q : β → Prop), run (x >>= f) Q → run x (fun a => run (f a) Q)
  run_mono : ∀ {α : Type} (x : m α) (Q Q' : α → Prop), (∀ a, Q a → Q' a) → run x Q → run x Q'
  pure_b : ∀ {α β : Type} (a : α) (f : α → m β), (pure a >>= f) = f a
  lift : {α : Type} → Option α → m α
  run_lift : ∀ {α : Type} (o : Option α) (Q : α → Prop), run (lift o) Q → ∃ a, o = some a ∧ Q a
instance : Run Option where
  run := fun o Q => ∃ a, o = some a ∧ Q a
  run_pure := fun a Q h => by
    obtain ⟨b, e, q⟩ := h
    cases e
    exact q
  run_pure' := fun a Q h => ⟨a, rfl, h⟩
  run_bind := fun x f Q h => by
    cases x with
    | none =>
      obtain ⟨b, e, q⟩ := h
      cases e
    | some a => exact ⟨a, rfl, h⟩
  run_mono := fun x Q Q' k h => by
    obtain ⟨b, e, q⟩ := h
    exact ⟨b, e, k b q⟩
  pure_b := fun _ _ => rfl
  lift := fun o => o
  run_lift := fun _ _ h => h
/-- what holds whatever is drawn -/
structure W (α : Type) where
  wp : (α → Prop) → Prop
  mono : ∀ (Q Q' : α → Prop), (∀ a, Q a → Q' a) → wp Q → wp Q'
instance : Monad W where
  pure := fun a => ⟨fun Q => Q a, fun _ _ k h => k a h⟩
  bind := fun x f => ⟨fun Q => x.wp fun a => (f a).wp Q, fun _ _ k h => x.mono _ _ (fun a q => (f a).mono _ _ k q) h⟩
def up {α : Type} (o : Option α) : W α := ⟨fun Q => ∃ a, o = some a ∧ Q a, fun _ _ k ⟨a, e, q⟩ => ⟨a, e, k a q⟩⟩
instance : Run W where
  run := fun x Q => x.wp Q
  run_pure := fun _ _ h => h
  run_pure' := fun _ _ h => h
  run_bind := fun _ _ _ h => h
  run_mono := fun x Q Q' k h => x.mono Q Q' k h
  pure_b := fun _ _ => rfl
  lift := up
  run_lift := fun _ _ h => h
theorem rpure {m : Type → Type} [Run m] {α : Type} {a : α} {Q : α → Prop} (q : Run.run (pure a : m α) Q) : Q a := Run.run_pure a Q q
theorem rpure' {m : Type → Type} [Run m] {α : Type} {a : α} {Q : α → Prop} (q : Q a) : Run.run (pure a : m α) Q := Run.run_pure' a Q q
theorem rbind {m : Type → Type} [Run m] {α β : Type} {x : m α} {f : α → m β} {Q : β → Prop} (q : Run.run (x >>= f) Q) : Run.run x fun a => Run.run (f a) Q := Run.run_bind x f Q q
theorem rmono {m : Type → Type} [Run m] {α : Type} {x : m α} {Q Q' : α → Prop} (q : Run.run x Q) (k : ∀ a, Q a → Q' a) : Run.run x Q' := Run.run_mono x Q Q' k q
theorem rlift {m : Type → Type} [Run m] {α : Type} {o : Option α} {Q : α → Prop} (q : Run.run (Run.lift o : m α) Q) : ∃ a, o = some a ∧ Q a := Run.run_lift o Q q
/-- a number drawn: any from 0 to m less 1 -/
def drawW (m : Int) : W Int := ⟨fun Q => (0 < m ∧ m < 1073741824) ∧ ∀ v, 0 ≤ v → v < m → Q v, fun _ _ k h => ⟨h.1, fun v a b => k v (h.2 v a b)⟩⟩
/-! ### what stands for data -/
def Sub (F H : Hp) : Prop := ∀ a o, F a = some o → H a = some o
theorem Sub.refl (F : Hp) : Sub F F := fun _ _ h => h
theorem Sub.trans {F G H : Hp} (h : Sub F G) (k : Sub G H) : Sub F H := fun a o e => k a o (h a o e)
theorem Sub.none {F H : Hp} (h : Sub F H) {a : Addr} (e : H a = none) : F a = none := by
  cases q : F a with
  | none => rfl
  | some o => rw [h a o q] at e; cases e
/-- without the feed -/
def hid (fd : Option Addr) (H : Hp) : Hp := fun a => if fd = some a then none else H a
theorem hid_sub {fd : Option Addr} {H : Hp} : Sub (hid fd H) H := fun a o e => by
  unfold hid at e
  split at e
  · cases e
  · exact e
theorem hid_ne {fd : Option Addr} {H : Hp} {a : Addr} (h : fd ≠ some a) : hid fd H a = H a := by unfold hid; rw [if_neg h]
theorem hid_none (H : Hp) : hid none H = H := by funext a; unfold hid; simp
theorem hid_eq {φ : Addr} {H : Hp} : hid (some φ) H φ = none := by unfold hid; simp
def kD : Key → D
  | .inl i => .int i
  | .inr x => .str x
mutual
inductive Rp (K : PySem.W.Frag) (F : Hp) : V → D → Prop
  | non : Rp K F .non .none
  | bl (b : Bool) : Rp K F (.bl b) (.bool b)
  | int (i : Int) : Rp K F (.int i) (.int i)
  | str (x : Str) : Rp K F (.str x) (.str x)
  | lst {a : Addr} {xs : List V} {ds : List D} : F a = some (.lst xs) → RpAll K F xs ds → ds.length ≤ sizeLine → Rp K F (.ref a) (.list ds)
  | tup {a : Addr} {xs : List V} {ds : List D} : SqT K F a xs → RpAll K F xs ds → ds.length ≤ sizeLine → Rp K F (.ref a) (.tuple ds)
  | dic {a : Addr} {kvs : List (Key × V)} {ds : List (D × D)} : Rd F a (.dK kvs) → RpKV K F kvs ds → Rp K F (.ref a) (.dict ds)
inductive RpAll (K : PySem.W.Frag) (F : Hp) : List V → List D → Prop
  | nil : RpAll K F [] []
  | cons {v : V} {vs : List V} {d : D} {ds : List D} : Rp K F v d → RpAll K F vs ds → RpAll K F (v :: vs) (d :: ds)
inductive RpKV (K : PySem.W.Frag) (F : Hp) : List (Key × V) → List (D × D) → Prop
  | nil : RpKV K F [] []
  | cons {k : Key} {v : V} {vs : List (Key × V)} {d : D} {ds : List (D × D)} : Rp K F v d → RpKV K F vs ds → RpKV K F ((k, v) :: vs) ((kD k, d) :: ds)
end
section
variable {K : PySem.W.Frag} {F F' G : Hp}
theorem Sub.rd (h : Sub F F') {a : Addr} {u : HO} (r : Rd F a u) : Rd F' a u := by
  rcases r with r | ⟨o, r⟩
  · exact .inl (h _ _ r)
  · exact .inr ⟨o, h _ _ r⟩
theorem Sub.sql (h : Sub F F') {a : Addr} {xs : List V} (r : SqL K F a xs) : SqL K F' a xs := by
  rcases r with r | r
  · exact .inl (h.rd r)
  · exact .inr r
theorem Sub.sqt (h : Sub F F') {a : Addr} {xs : List V} (r : SqT K F a xs) : SqT K F' a xs := by
  rcases r with r | r
  · exact .inl (h.rd r)
  · exact .inr r
theorem Rp.mono {v : V} {d : D} (h : Sub F F') (r : Rp K F v d) : Rp K F' v d :=
  Rp.rec (motive_1 := fun v d _ => Rp K F' v d) (motive_2 := fun vs ds _ => RpAll K F' vs ds) (motive_3 := fun vs ds _ => RpKV K F' vs ds)
    .non .bl .int .str (fun a _ z q => .lst (h _ _ a) q z) (fun a _ z q => .tup (h.sqt a) q z) (fun a _ q => .dic (h.rd a) q) .nil (fun _ _ a b => .cons a b) .nil (fun _ _ a b => .cons a b) r
theorem RpAll.mono {v : List V} {d : List D} (h : Sub F F') (r : RpAll K F v d) : RpAll K F' v d :=
  RpAll.rec (motive_1 := fun v d _ => Rp K F' v d) (motive_2 := fun vs ds _ => RpAll K F' vs ds) (motive_3 := fun vs ds _ => RpKV K F' vs ds)
    .non .bl .int .str (fun a _ z q => .lst (h _ _ a) q z) (fun a _ z q => .tup (h.sqt a) q z) (fun a _ q => .dic (h.rd a) q) .nil (fun _ _ a b => .cons a b) .nil (fun _ _ a b => .cons a b) r
theorem RpKV.mono {v : List (Key × V)} {d : List (D × D)} (h : Sub F F') (r : RpKV K F v d) : RpKV K F' v d :=
  RpKV.rec (motive_1 := fun v d _ => Rp K F' v d) (motive_2 := fun vs ds _ => RpAll K F' vs ds) (motive_3 := fun vs ds _ => RpKV K F' vs ds)
    .non .bl .int .str (fun a _ z q => .lst (h _ _ a) q z) (fun a _ z q => .tup (h.sqt a) q z) (fun a _ q => .dic (h.rd a) q) .nil (fun _ _ a b => .cons a b) .nil (fun _ _ a b => .cons a b) r
theorem RpAll.length {vs : List V} {ds : List D} (h : RpAll K F vs ds) : vs.length = ds.length := by
  induction ds generalizing vs with
  | nil => cases h; rfl
  | cons d ds ih =>
    cases h with
    | cons _ t => rw [List.length_cons, List.length_cons, ih t]
theorem RpAll.get {vs : List V} {ds : List D} (h : RpAll K F vs ds) {i : Nat} {d : D} (e : ds[i]? = some d) : ∃ v, vs[i]? = some v ∧ Rp K F v d := by
  induction ds generalizing vs i with
  | nil => simp at e
  | cons x ds ih =>
    cases h with
    | cons a t =>
      cases i with
      | zero => simp at e; subst e; exact ⟨_, rfl, a⟩
      | succ i => obtain ⟨v, e1, e2⟩ := ih t (by simpa using e); exact ⟨v, by simpa using e1, e2⟩
theorem RpAll.getV {vs : List V} {ds : List D} (h : RpAll K F vs ds) {i : Nat} {v : V} (e : vs[i]? = some v) : ∃ d, ds[i]? = some d ∧ Rp K F v d := by
  induction ds generalizing vs i with
  | nil => cases h; simp at e
  | cons x ds ih =>
    cases h with
    | cons a t =>
      cases i with
      | zero => simp at e; subst e; exact ⟨_, rfl, a⟩
      | succ i => obtain ⟨d, e1, e2⟩ := ih t (by simpa using e); exact ⟨d, by simpa using e1, e2⟩
theorem RpAll.append {vs ws : List V} {ds es : List D} (h : RpAll K F vs ds) (k : RpAll K F ws es) : RpAll K F (vs ++ ws) (ds ++ es) := by
  induction ds generalizing vs with
  | nil => cases h; exact k
  | cons x ds ih =>
    cases h with
    | cons a t => exact .cons a (ih t)
theorem RpAll.one {v : V} {d : D} (h : Rp K F v d) : RpAll K F [v] [d] := .cons h .nil
theorem RpAll.set {vs : List V} {ds : List D} {v : V} {d : D} (h : RpAll K F vs ds) (k : Rp K F v d) (i : Nat) : RpAll K F (vs.set i v) (ds.set i d) := by
  induction ds generalizing vs i with
  | nil => cases h; exact .nil
  | cons x ds ih =>
    cases h with
    | cons a t =>
      cases i with
      | zero => exact .cons k t
      | succ i => exact .cons a (ih t i)
theorem RpAll.take {vs : List V} {ds : List D} (h : RpAll K F vs ds) (n : Nat) : RpAll K F (vs.take n) (ds.take n) := by
  induction ds generalizing vs n with
  | nil => cases h; simp; exact .nil
  | cons x ds ih =>
    cases h with
    | cons a t =>
      cases n with
      | zero => exact .nil
      | succ n => exact .cons a (ih t n)
theorem RpAll.drop {vs : List V} {ds : List D} (h : RpAll K F vs ds) (n : Nat) : RpAll K F (vs.drop n) (ds.drop n) := by
  induction ds generalizing vs n with
  | nil => cases h; simp; exact .nil
  | cons x ds ih =>
    cases h with
    | cons a t =>
      cases n with
      | zero => exact .cons a t
      | succ n => exact ih t n
theorem RpAll.reverse {vs : List V} {ds : List D} (h : RpAll K F vs ds) : RpAll K F vs.reverse ds.reverse := by
  induction ds generalizing vs with
  | nil => cases h; exact .nil
  | cons x ds ih =>
    cases h with
    | cons a t => rw [List.reverse_cons, List.reverse_cons]; exact (ih t).append (.one a)
theorem RpAll.eraseIdx {vs : List V} {ds : List D} (h : RpAll K F vs ds) (i : Nat) : RpAll K F (vs.eraseIdx i) (ds.eraseIdx i) := by
  induction ds generalizing vs i with
  | nil => cases h; exact .nil
  | cons x ds ih =>
    cases h with
    | cons a t =>
      cases i with
      | zero => exact t
      | succ i => exact .cons a (ih t i)
theorem RpAll.ints {vs : List V} {ns : List Int} (h : RpAll K F vs (ns.map PyData.int)) : vs = ns.map V.int := by
  induction ns generalizing vs with
  | nil => cases h; rfl
  | cons x ns ih =>
    cases h with
    | cons a t => cases a; rw [ih t]; rfl
theorem RpAll.bools {vs : List V} {ns : List Bool} (h : RpAll K F vs (ns.map PyData.bool)) : vs = ns.map V.bl := by
  induction ns generalizing vs with
  | nil => cases h; rfl
  | cons x ns ih =>
    cases h with
    | cons a t => cases a; rw [ih t]; rfl
theorem RpAll.strs {vs : List V} {ns : List Str} (h : RpAll K F vs (ns.map PyData.str)) : vs = ns.map V.str := by
  induction ns generalizing vs with
  | nil => cases h; rfl
  | cons x ns ih =>
    cases h with
    | cons a t => cases a; rw [ih t]; rfl
theorem RpAll.ofInts (ns : List Int) : RpAll K F (ns.map V.int) (ns.map PyData.int) := by
  induction ns with
  | nil => exact .nil
  | cons x ns ih => exact .cons (.int x) ih
theorem RpAll.ofStrs (ns : List Str) : RpAll K F (ns.map V.str) (ns.map PyData.str) := by
  induction ns with
  | nil => exact .nil
  | cons x ns ih => exact .cons (.str x) ih
end
/-! ### what is ours to change -/
def scalD : D → Bool
  | .none | .bool _ | .int _ | .str _ => true
  | _ => false
theorem Rp.scal {K : PySem.W.Frag} {F G : Hp} {v : V} {d : D} (h : scalD d = true) (r : Rp K F v d) : Rp K G v d := by
  cases r with
  | non => exact .non
  | bl b => exact .bl b
  | int b => exact .int b
  | str b => exact .str b
  | lst => cases h
  | tup => cases h
  | dic => cases h
theorem RpAll.scal' {K : PySem.W.Frag} {G F : Hp} : ∀ {ds : List D} {vs : List V}, (∀ d ∈ ds, scalD d = true) → RpAll K G vs ds → RpAll K F vs ds
  | [], _, _, h => by cases h; exact .nil
  | d :: ds, _, k, h => by
    cases h with
    | cons a t => exact .cons (a.scal (k d (by simp))) (RpAll.scal' (fun x hx => k x (by simp [hx])) t)
mutual
inductive Own (K : PySem.W.Frag) (F : Hp) : Nat → V → D → List Cell → Prop
  | z {v : V} {d : D} : Rp K F v d → Own K F 0 v d []
  | s {n : Nat} {v : V} {d : D} : scalD d = true → Rp K F v d → Own K F (n + 1) v d []
  | lst {n : Nat} {p : Addr} {vs : List V} {ds : List D} {C : List Cell} : OwnAll K F n vs ds C → ds.length ≤ sizeLine → Own K F (n + 1) (.ref p) (.list ds) ((p, .lst vs) :: C)
  | tup {n : Nat} {p : Addr} {vs : List V} {ds : List D} {C : List Cell} : OwnAll K F n vs ds C → ds.length ≤ sizeLine → Own K F (n + 1) (.ref p) (.tuple ds) ((p, .tup vs) :: C)
  | dic {n : Nat} {p : Addr} {vs : List (Key × V)} {ds : List (D × D)} : RpKV K F vs ds → Own K F (n + 1) (.ref p) (.dict ds) [(p, .dK vs)]
inductive OwnAll (K : PySem.W.Frag) (F : Hp) : Nat → List V → List D → List Cell → Prop
  | nil {n : Nat} : OwnAll K F n [] [] []
  | cons {n : Nat} {v : V} {vs : List V} {d : D} {ds : List D} {C1 C2 : List Cell} : Own K F n v d C1 → OwnAll K F n vs ds C2 → OwnAll K F n (v :: vs) (d :: ds) (C1 ++ C2)
end
section
variable {K : PySem.W.Frag} {F F' G H : Hp}
theorem Own.mono {n : Nat} {v : V} {d : D} {C : List Cell} (h : Sub F F') (r : Own K F n v d C) : Own K F' n v d C :=
  Own.rec (motive_1 := fun n v d C _ => Own K F' n v d C) (motive_2 := fun n vs ds C _ => OwnAll K F' n vs ds C)
    (fun a => .z (a.mono h)) (fun a b => .s a (b.mono h)) (fun _ z q => .lst q z) (fun _ z q => .tup q z) (fun q => .dic (q.mono h)) .nil (fun _ _ a b => .cons a b) r
theorem OwnAll.mono {n : Nat} {v : List V} {d : List D} {C : List Cell} (h : Sub F F') (r : OwnAll K F n v d C) : OwnAll K F' n v d C :=
  OwnAll.rec (motive_1 := fun n v d C _ => Own K F' n v d C) (motive_2 := fun n vs ds C _ => OwnAll K F' n vs ds C)
    (fun a => .z (a.mono h)) (fun a b => .s a (b.mono h)) (fun _ z q => .lst q z) (fun _ z q => .tup q z) (fun q => .dic (q.mono h)) .nil (fun _ _ a b => .cons a b) r
/-- what is ours, read where it stands -/
theorem Own.rp {n : Nat} {v : V} {d : D} {C : List Cell} (h : Sub F G) (r : Own K F n v d C) : (∀ c ∈ C, G c.1 = some c.2) → Rp K G v d :=
  Own.rec (motive_1 := fun n v d C _ => (∀ c ∈ C, G c.1 = some c.2) → Rp K G v d) (motive_2 := fun n vs ds C _ => (∀ c ∈ C, G c.1 = some c.2) → RpAll K G vs ds)
    (fun a _ => a.mono h) (fun a b _ => b.mono h) (fun _ z q k => .lst (k _ (List.mem_cons_self)) (q fun c hc => k c (List.mem_cons_of_mem _ hc)) z)
    (fun _ z q k => .tup (.inl (.inl (k _ (List.mem_cons_self)))) (q fun c hc => k c (List.mem_cons_of_mem _ hc)) z)
    (fun q k => .dic (.inl (k _ (List.mem_cons_self))) (q.mono h)) (fun _ => .nil)
    (fun _ _ a b k => .cons (a fun c hc => k c (List.mem_append_left _ hc)) (b fun c hc => k c (List.mem_append_right _ hc))) r
theorem OwnAll.rp {n : Nat} {v : List V} {d : List D} {C : List Cell} (h : Sub F G) (r : OwnAll K F n v d C) : (∀ c ∈ C, G c.1 = some c.2) → RpAll K G v d :=
  OwnAll.rec (motive_1 := fun n v d C _ => (∀ c ∈ C, G c.1 = some c.2) → Rp K G v d) (motive_2 := fun n vs ds C _ => (∀ c ∈ C, G c.1 = some c.2) → RpAll K G vs ds)
    (fun a _ => a.mono h) (fun a b _ => b.mono h) (fun _ z q k => .lst (k _ (List.mem_cons_self)) (q fun c hc => k c (List.mem_cons_of_mem _ hc)) z)
    (fun _ z q k => .tup (.inl (.inl (k _ (List.mem_cons_self)))) (q fun c hc => k c (List.mem_cons_of_mem _ hc)) z)
    (fun q k => .dic (.inl (k _ (List.mem_cons_self))) (q.mono h)) (fun _ => .nil)
    (fun _ _ a b k => .cons (a fun c hc => k c (List.mem_append_left _ hc)) (b fun c hc => k c (List.mem_append_right _ hc))) r
theorem Own.sc {n : Nat} {v : V} {d : D} (h : scalD d = true) (r : Rp K F v d) : Own K F n v d [] := by
  cases n with
  | zero => exact .z r
  | succ n => exact .s h r
theorem OwnAll.zero {vs : List V} {ds : List D} (r : RpAll K F vs ds) : OwnAll K F 0 vs ds [] := by
  induction ds generalizing vs with
  | nil => cases r; exact .nil
  | cons d ds ih =>
    cases r with
    | cons a t => exact .cons (C1 := []) (.z a) (ih t)
theorem OwnAll.zero' {vs : List V} {ds : List D} {C : List Cell} (r : OwnAll K F 0 vs ds C) : RpAll K F vs ds ∧ C = [] := by
  induction ds generalizing vs C with
  | nil => cases r; exact ⟨.nil, rfl⟩
  | cons d ds ih =>
    cases r with
    | cons a t =>
      obtain ⟨h1, h2⟩ := ih t
      cases a with
      | z a => subst h2; exact ⟨.cons a h1, rfl⟩
theorem OwnAll.append {n : Nat} {vs ws : List V} {ds es : List D} {C C' : List Cell} (h : OwnAll K F n vs ds C) (k : OwnAll K F n ws es C') : OwnAll K F n (vs ++ ws) (ds ++ es) (C ++ C') := by
  induction ds generalizing vs C with
  | nil => cases h; exact k
  | cons x ds ih =>
    cases h with
    | cons a t => rw [List.append_assoc]; exact .cons a (ih t)
theorem OwnAll.length {n : Nat} {vs : List V} {ds : List D} {C : List Cell} (h : OwnAll K F n vs ds C) : vs.length = ds.length := by
  induction ds generalizing vs C with
  | nil => cases h; rfl
  | cons d ds ih =>
    cases h with
    | cons _ t => rw [List.length_cons, List.length_cons, ih t]
end
end DL
namespace DL
open PySem PySem.Spec PyProof.Rows L2
/-- the feed: the script's copy, how far it is read, what is left of a great cell, the state -/
def FeedOk (K : PySem.W.Frag) (fd : Option Addr) (F H : Hp) : Prop :=
  ∀ φ, fd = some φ → F φ = none ∧ ∃ (l : Addr) (ns : List Int) (i c s : Int), H φ = some (.lst [.ref l, .int i, .int c, .int s]) ∧ SqL K F l (ns.map V.int) ∧ ns.length ≤ 63 ∧
    0 ≤ i ∧ i ≤ ns.length ∧ 0 ≤ c ∧ 0 ≤ s ∧ s < 2147483647
structure Step (K : PySem.W.Frag) (fd : Option Addr) (F H F' H' : Hp) : Prop where
  ff : Sub F F'
  hh : Sub (hid fd H) (hid fd H')
  fh : Sub F' (hid fd H')
  st : ∀ p, H p ≠ none → F p = none → F' p = none
  fe : FeedOk K fd F' H'
section
variable {K : PySem.W.Frag} {fd : Option Addr} {F H F' H' F2 H2 : Hp}
theorem Step.refl (fh : Sub F (hid fd H)) (fe : FeedOk K fd F H) : Step K fd F H F H := ⟨Sub.refl _, Sub.refl _, fh, fun _ _ h => h, fe⟩
/-- what was there is there -/
theorem Step.there (S : Step K fd F H F' H') (fe : FeedOk K fd F H) {p : Addr} (h : H p ≠ none) : H' p ≠ none := by
  intro e
  by_cases hp : fd = some p
  · obtain ⟨_, l, ns, i, c, s, q, _⟩ := S.fe p hp
    rw [q] at e; cases e
  · cases q : H p with
    | none => exact h q
    | some o =>
      have := S.hh p o (by rw [hid_ne hp]; exact q)
      rw [hid_ne hp, e] at this; cases this
theorem Step.fresh (S : Step K fd F H F' H') (fe : FeedOk K fd F H) {p : Addr} (h : H' p = none) : H p = none := by
  cases q : H p with
  | none => rfl
  | some o => exact absurd h (S.there fe (by rw [q]; simp))
theorem Step.trans (fe : FeedOk K fd F H) (a : Step K fd F H F' H') (b : Step K fd F' H' F2 H2) : Step K fd F H F2 H2 :=
  ⟨a.ff.trans b.ff, a.hh.trans b.hh, b.fh, fun p h n => b.st p (a.there fe h) (a.st p h n), b.fe⟩
theorem FeedOk.mono (h : FeedOk K fd F H) (ff : Sub F F') (k : ∀ φ, fd = some φ → F' φ = none) (hh : ∀ φ, fd = some φ → H' φ = H φ) : FeedOk K fd F' H' := fun φ e => by
  obtain ⟨_, l, ns, i, c, s, q, r⟩ := h φ e
  exact ⟨k φ e, l, ns, i, c, s, (hh φ e).trans q, ff.sql r.1, r.2⟩
theorem FeedOk.some (h : FeedOk K fd F H) {φ : Addr} (e : fd = some φ) : ∃ o, H φ = some o := by
  obtain ⟨_, l, ns, i, c, s, q, _⟩ := h φ e
  exact ⟨_, q⟩
/-- a new object, nobody's -/
theorem Step.alloc {p : Addr} {o : HO} (fh : Sub F (hid fd H)) (fe : FeedOk K fd F H) (n : H p = none) : Step K fd F H F (upd H p o) := by
  have hp : fd ≠ Option.some p := fun e => by
    obtain ⟨o, q⟩ := fe.some e
    rw [n] at q; cases q
  have hh : Sub (hid fd H) (hid fd (upd H p o)) := fun a u e => by
    by_cases ha : fd = Option.some a
    · unfold hid at e; rw [if_pos ha] at e; cases e
    · rw [hid_ne ha] at e ⊢
      rw [upd_ne (ne_of_none e n)]; exact e
  refine ⟨Sub.refl _, hh, fh.trans hh, fun _ _ h => h, fe.mono (Sub.refl _) (fun φ e => (fe φ e).1) fun φ e => ?_⟩
  obtain ⟨u, q⟩ := fe.some e
  exact upd_ne (ne_of_none q n)
/-- a new object that stays -/
theorem Step.allocF {p : Addr} {o : HO} (fh : Sub F (hid fd H)) (fe : FeedOk K fd F H) (n : H p = none) : Step K fd F H (upd F p o) (upd H p o) := by
  have A := Step.alloc (o := o) fh fe n
  have hp : fd ≠ Option.some p := fun e => by
    obtain ⟨o, q⟩ := fe.some e
    rw [n] at q; cases q
  have nF : F p = none := (fh.trans hid_sub).none n
  have ff : Sub F (upd F p o) := fun a u e => by rw [upd_ne (ne_of_none e nF)]; exact e
  refine ⟨ff, A.hh, fun a u e => ?_, fun q h e => ?_, A.fe.mono ff (fun φ e => ?_) fun _ _ => rfl⟩
  · by_cases ha : a = p
    · subst ha; rw [upd_same] at e; rw [hid_ne hp, upd_same]; exact e
    · rw [upd_ne ha] at e; exact A.fh a u e
  · rw [upd_ne (fun z => h (by rw [z]; exact n))]; exact e
  · rw [upd_ne (fun z => hp (by rw [e, z]))]; exact (fe φ e).1
end
/-- new cells that hold -/
def Holds (C : List Cell) (F' H' H : Hp) : Prop := (C.map (·.1)).Nodup ∧ ∀ c ∈ C, H' c.1 = some c.2 ∧ F' c.1 = none ∧ H c.1 = none
theorem Holds.nil {F' H' H : Hp} : Holds [] F' H' H := ⟨List.nodup_nil, fun _ h => nomatch h⟩
inductive Md where
  /-- to be looked at -/
  | pk
  /-- new to depth n; 0: it stays -/
  | ow (n : Nat)
def Post (K : PySem.W.Frag) (fd : Option Addr) (md : Md) (F H : Hp) (d : D) (Q : VK) : Prop := match md with
  | .pk => ∀ v F' H', Step K fd F H F' H' → Rp K (hid fd H') v d → Q v H'
  | .ow n => ∀ v F' H' C, Step K fd F H F' H' → Own K F' n v d C → Holds C F' H' H → Q v H'
section
variable {K : PySem.W.Frag} {fd : Option Addr} {F H F' H' F2 H2 : Hp} {md : Md} {d : D} {Q Q' : VK}
theorem Post.back (fe : FeedOk K fd F H) (S : Step K fd F H F' H') (h : Post K fd md F H d Q) : Post K fd md F' H' d Q := by
  cases md with
  | pk => exact fun v F2 H2 S2 r => h v F2 H2 (S.trans fe S2) r
  | ow n => exact fun v F2 H2 C S2 r k => h v F2 H2 C (S.trans fe S2) r ⟨k.1, fun c hc => ⟨(k.2 c hc).1, (k.2 c hc).2.1, S.fresh fe (k.2 c hc).2.2⟩⟩
theorem Post.imp (h : Post K fd md F H d Q) (k : ∀ v H', Q v H' → Q' v H') : Post K fd md F H d Q' := by
  cases md with
  | pk => exact fun v F2 H2 S2 r => k _ _ (h v F2 H2 S2 r)
  | ow n => exact fun v F2 H2 C S2 r c => k _ _ (h v F2 H2 C S2 r c)
/-- a scalar, the heap as it is -/
theorem Post.sc {v : V} (fh : Sub F (hid fd H)) (fe : FeedOk K fd F H) (h : Post K fd md F H d Q) (hs : scalD d = true) (r : Rp K F v d) : Q v H := by
  cases md with
  | pk => exact h v F H (.refl fh fe) (r.mono fh)
  | ow n => exact h v F H [] (.refl fh fe) (Own.sc hs r) .nil
/-- what stays is handed on -/
theorem Post.fr {v : V} (S : Step K fd F H F' H') (h : Post K fd (.ow 0) F H d Q) (r : Rp K F' v d) : Q v H' := h v F' H' [] S (.z r) .nil
end
/-! ### the state -/
structure Bs where
  B : Hp
  F0 : Hp
  fd : Option Addr
inductive Sl where
  | v (d : D) | o (n : Nat) (d : D) | feed
abbrev Sls := List (Option Sl)
def SlOk (K : PySem.W.Frag) (F : Hp) (fd : Option Addr) (x : Option (Option V)) (C : List Cell) : Sl → Prop
  | .v d => ∃ v, x = some (some v) ∧ Rp K F v d
  | .o n d => ∃ v, x = some (some v) ∧ Own K F n v d C
  | .feed => ∃ φ, x = some (some (.ref φ)) ∧ fd = some φ
structure Rel (K : PySem.W.Frag) (b : Bs) (sl : Sls) (F H : Hp) (σ : L2.St) : Prop where
  len : σ.length = sl.length
  sub : Sub F (hid b.fd H)
  base : Sub (hid b.fd b.B) (hid b.fd H)
  fro : ∀ p, b.B p ≠ none → b.F0 p = none → F p = none
  f0 : Sub b.F0 F
  fe : FeedOk K b.fd F H
  fb : ∀ φ, b.fd = some φ → b.B φ ≠ none ∧ b.F0 φ = none
  slots : ∃ Cs : Nat → List Cell, (∀ i s, sl[i]? = some (some s) → SlOk K F b.fd σ[i]? (Cs i) s) ∧
    (∀ i, ((Cs i).map (·.1)).Nodup ∧ ∀ c ∈ Cs i, H c.1 = some c.2 ∧ F c.1 = none ∧ b.B c.1 = none ∧ b.fd ≠ some c.1) ∧ ∀ i j, i ≠ j → ∀ c ∈ Cs i, ∀ c' ∈ Cs j, c.1 ≠ c'.1
section
variable {K : PySem.W.Frag} {b : Bs} {sl sl' : Sls} {F H F' H' : Hp} {σ σ' : L2.St}
theorem Rel.bstep (R : Rel K b sl F H σ) (S : Step K b.fd F H F' H') : Sub (hid b.fd b.B) (hid b.fd H') ∧ (∀ p, b.B p ≠ none → b.F0 p = none → F' p = none) := by
  refine ⟨R.base.trans S.hh, fun p h e => ?_⟩
  by_cases hp : b.fd = some p
  · exact (S.fe p hp).1
  · refine S.st p (fun z => ?_) (R.fro p h e)
    cases q : b.B p with
    | none => exact h q
    | some o =>
      have := R.base p o (by rw [hid_ne hp]; exact q)
      rw [hid_ne hp, z] at this; cases this
theorem SlOk.mono {x : Option (Option V)} {C : List Cell} {s : Sl} {fd : Option Addr} (h : Sub F F') (k : SlOk K F fd x C s) : SlOk K F' fd x C s := by
  cases s with
  | v d => obtain ⟨v, e, r⟩ := k; exact ⟨v, e, r.mono h⟩
  | o n d => obtain ⟨v, e, r⟩ := k; exact ⟨v, e, r.mono h⟩
  | feed => exact k
theorem Rel.step (R : Rel K b sl F H σ) (S : Step K b.fd F H F' H') : Rel K b sl F' H' σ := by
  obtain ⟨Cs, s1, s2, s3⟩ := R.slots
  refine ⟨R.len, S.fh, (R.bstep S).1, (R.bstep S).2, R.f0.trans S.ff, S.fe, R.fb, Cs, fun i s e => (s1 i s e).mono S.ff, fun i => ⟨(s2 i).1, fun c hc => ?_⟩, s3⟩
  obtain ⟨h1, h2, h3, h4⟩ := (s2 i).2 c hc
  have := S.hh c.1 c.2 (by rw [hid_ne h4]; exact h1)
  rw [hid_ne h4] at this
  exact ⟨this, S.st c.1 (by rw [h1]; simp) h2, h3, h4⟩
/-- slots forgotten -/
theorem Rel.weak (R : Rel K b sl F H σ) (hl : σ'.length = sl'.length) (k : ∀ (i : Nat) (s : Sl), sl'[i]? = some (some s) → sl[i]? = some (some s) ∧ σ'[i]? = σ[i]?) : Rel K b sl' F H σ' := by
  obtain ⟨Cs, s1, s2, s3⟩ := R.slots
  refine ⟨hl, R.sub, R.base, R.fro, R.f0, R.fe, R.fb, Cs, fun i s e => ?_, s2, s3⟩
  rw [(k i s e).2]
  exact s1 i s (k i s e).1
/-- a name stored: what stays -/
theorem Rel.setV (R : Rel K b sl F H σ) {i : Nat} {v : V} {d : D} (r : Rp K F v d) : Rel K b (sl.set i (some (.v d))) F H (σ.set i (some v)) := by
  obtain ⟨Cs, s1, s2, s3⟩ := R.slots
  refine ⟨by simp [R.len], R.sub, R.base, R.fro, R.f0, R.fe, R.fb, Cs, fun j s e => ?_, s2, s3⟩
  by_cases hj : i = j
  · subst hj
    by_cases hi : i < sl.length
    · rw [List.getElem?_set_self hi] at e
      cases e
      exact ⟨v, List.getElem?_set_self (by rw [R.len]; exact hi), r⟩
    · rw [List.getElem?_eq_none (by simpa using hi)] at e; cases e
  · rw [List.getElem?_set_ne hj] at e
    rw [List.getElem?_set_ne hj]
    exact s1 j s e
theorem Rel.setN (R : Rel K b sl F H σ) {i : Nat} {v : Option V} : Rel K b (sl.set i none) F H (σ.set i v) := by
  obtain ⟨Cs, s1, s2, s3⟩ := R.slots
  refine ⟨by simp [R.len], R.sub, R.base, R.fro, R.f0, R.fe, R.fb, Cs, fun j s e => ?_, s2, s3⟩
  by_cases hj : i = j
  · subst hj
    by_cases hi : i < sl.length
    · rw [List.getElem?_set_self hi] at e; cases e
    · rw [List.getElem?_eq_none (by simpa using hi)] at e; cases e
  · rw [List.getElem?_set_ne hj] at e
    rw [List.getElem?_set_ne hj]
    exact s1 j s e
/-- a name stored: what is ours -/
theorem Rel.setO (R : Rel K b sl F H σ) {i n : Nat} {v : V} {d : D} {C : List Cell} (r : Own K F n v d C) (nd : (C.map (·.1)).Nodup) (h : ∀ c ∈ C, H c.1 = some c.2 ∧ F c.1 = none ∧ b.B c.1 = none ∧ b.fd ≠ some c.1)
    (dis : ∃ Cs : Nat → List Cell, (∀ j s, j ≠ i → sl[j]? = some (some s) → SlOk K F b.fd σ[j]? (Cs j) s) ∧ (∀ j, j ≠ i → ((Cs j).map (·.1)).Nodup ∧ ∀ c ∈ Cs j, H c.1 = some c.2 ∧ F c.1 = none ∧ b.B c.1 = none ∧ b.fd ≠ some c.1) ∧
      (∀ j l, j ≠ l → j ≠ i → l ≠ i → ∀ c ∈ Cs j, ∀ c' ∈ Cs l, c.1 ≠ c'.1) ∧ ∀ j, j ≠ i → ∀ c ∈ Cs j, ∀ c' ∈ C, c.1 ≠ c'.1) : Rel K b (sl.set i (some (.o n d))) F H (σ.set i (some v)) := by
  obtain ⟨Cs, s1, s2, s3, s4⟩ := dis
  refine ⟨by simp [R.len], R.sub, R.base, R.fro, R.f0, R.fe, R.fb, fun j => if j = i then C else Cs j, fun j s e => ?_, fun j => ?_, fun j l hjl c hc c' hc' => ?_⟩
  · by_cases hj : j = i
    · subst hj
      dsimp only
      rw [if_pos rfl]
      by_cases hi : j < sl.length
      · rw [List.getElem?_set_self hi] at e
        cases e
        exact ⟨v, List.getElem?_set_self (by rw [R.len]; exact hi), r⟩
      · rw [List.getElem?_eq_none (by simpa using hi)] at e; cases e
    · dsimp only
      rw [if_neg hj]
      rw [List.getElem?_set_ne (Ne.symm hj)] at e
      rw [List.getElem?_set_ne (Ne.symm hj)]
      exact s1 j s hj e
  · by_cases hj : j = i
    · dsimp only; rw [if_pos hj]; exact ⟨nd, h⟩
    · dsimp only; rw [if_neg hj]; exact s2 j hj
  · dsimp only at hc hc'
    by_cases hj : j = i
    · rw [if_pos hj] at hc
      have hl : l ≠ i := fun z => hjl (hj.trans z.symm)
      rw [if_neg hl] at hc'
      exact (s4 l hl c' hc' c hc).symm
    · rw [if_neg hj] at hc
      by_cases hl : l = i
      · rw [if_pos hl] at hc'
        exact s4 j hj c hc c' hc'
      · rw [if_neg hl] at hc'
        exact s3 j l hjl hj hl c hc c' hc'
/-- .. new since H0 -/
theorem Rel.setNew (R : Rel K b sl F H σ) {i n : Nat} {v : V} {d : D} {C : List Cell} {F' H' : Hp} (S : Step K b.fd F H F' H') (r : Own K F' n v d C) (h : Holds C F' H' H) : Rel K b (sl.set i (some (.o n d))) F' H' (σ.set i (some v)) := by
  have R' := R.step S
  obtain ⟨Cs, s1, s2, s3⟩ := R.slots
  have fdn : ∀ c ∈ C, b.fd ≠ some c.1 := fun c hc z => by
    obtain ⟨o, q⟩ := R.fe.some z
    rw [(h.2 c hc).2.2] at q; cases q
  have bn : ∀ c ∈ C, b.B c.1 = none := fun c hc => by
    cases q : b.B c.1 with
    | none => rfl
    | some o =>
      have := R.base c.1 o (by rw [hid_ne (fdn c hc)]; exact q)
      rw [hid_ne (fdn c hc), (h.2 c hc).2.2] at this; cases this
  refine R'.setO r h.1 (fun c hc => ⟨(h.2 c hc).1, (h.2 c hc).2.1, bn c hc, fdn c hc⟩) (dis := ⟨Cs, fun j s _ e => (s1 j s e).mono S.ff, fun j _ => ⟨(s2 j).1, fun c hc => ?_⟩, fun j l h1 _ _ => s3 j l h1, fun j _ c hc c' hc' z => ?_⟩)
  · obtain ⟨h1, h2, h3, h4⟩ := (s2 j).2 c hc
    have := S.hh c.1 c.2 (by rw [hid_ne h4]; exact h1)
    rw [hid_ne h4] at this
    exact ⟨this, S.st c.1 (by rw [h1]; simp) h2, h3, h4⟩
  · have e1 := ((s2 j).2 c hc).1
    rw [z, (h.2 c' hc').2.2] at e1; cases e1
theorem Rel.getV (R : Rel K b sl F H σ) {i : Nat} {d : D} (e : sl[i]? = some (some (.v d))) : ∃ v, σ[i]? = some (some v) ∧ Rp K F v d := by
  obtain ⟨Cs, s1, s2, s3⟩ := R.slots
  exact s1 i _ e
theorem Rel.getO (R : Rel K b sl F H σ) {i n : Nat} {d : D} (e : sl[i]? = some (some (.o n d))) : ∃ v, σ[i]? = some (some v) ∧ Rp K (hid b.fd H) v d := by
  obtain ⟨Cs, s1, s2, s3⟩ := R.slots
  obtain ⟨v, e1, r⟩ := s1 i _ e
  exact ⟨v, e1, r.rp R.sub fun c hc => by rw [hid_ne ((s2 i).2 c hc).2.2.2]; exact ((s2 i).2 c hc).1⟩
/-- it is let stand -/
theorem freeze {fd : Option Addr} {n : Nat} {v : V} {d : D} {C : List Cell} {H0 F0 : Hp} (fe0 : FeedOk K fd F0 H0) (S : Step K fd F0 H0 F H) (r : Own K F n v d C) (h : Holds C F H H0) : ∃ F', Step K fd F0 H0 F' H ∧ Rp K F' v d ∧ Sub F F' := by
  have fdn : ∀ c ∈ C, fd ≠ some c.1 := fun c hc z => by
    obtain ⟨o, q⟩ := fe0.some z
    rw [(h.2 c hc).2.2] at q; cases q
  let F' : Hp := fun a => if a ∈ C.map (·.1) then H a else F a
  have ff : Sub F F' := fun a o e => by
    show (if a ∈ C.map (·.1) then H a else F a) = some o
    rw [if_neg]
    · exact e
    · intro hm
      obtain ⟨c, hc, rfl⟩ := List.mem_map.mp hm
      rw [(h.2 c hc).2.1] at e; cases e
  have fc : ∀ c ∈ C, F' c.1 = some c.2 := fun c hc => by
    show (if c.1 ∈ C.map (·.1) then H c.1 else F c.1) = some c.2
    rw [if_pos (List.mem_map.mpr ⟨c, hc, rfl⟩)]
    exact (h.2 c hc).1
  refine ⟨F', ⟨S.ff.trans ff, S.hh, fun a o e => ?_, fun p hp e => ?_, S.fe.mono ff (fun φ e => ?_) fun _ _ => rfl⟩, r.rp ff fc, ff⟩
  · have e : (if a ∈ C.map (·.1) then H a else F a) = some o := e
    split at e
    · rename_i hm
      obtain ⟨c, hc, rfl⟩ := List.mem_map.mp hm
      rw [hid_ne (fdn c hc)]; exact e
    · exact S.fh a o e
  · show (if p ∈ C.map (·.1) then H p else F p) = none
    rw [if_neg]
    · exact S.st p hp e
    · intro hm
      obtain ⟨c, hc, rfl⟩ := List.mem_map.mp hm
      exact hp (h.2 c hc).2.2
  · show (if φ ∈ C.map (·.1) then H φ else F φ) = none
    rw [if_neg]
    · exact (S.fe φ e).1
    · intro hm
      obtain ⟨c, hc, rfl⟩ := List.mem_map.mp hm
      exact fdn c hc e
end
/-! ### expressions -/
section
variable {m : Type → Type} [Run m] {α β γ : Type}
def tD (K : PySem.W.Frag) (b : Bs) (sl : Sls) (md : Md) (c : m α) (g : α → D) : TE := fun σ H Q => ∃ F, Rel K b sl F H σ ∧ Run.run c (fun x => Post K b.fd md F H (g x) Q)
abbrev DM (X : Cx) (b : Bs) (sl : Sls) (e : Expr) (md : Md) (c : m α) (g : α → D) : Prop := PE X e (tD X.K b sl md c g)
end
theorem PE.imp {X : Cx} {e : Expr} {t t' : TE} (h : PE X e t) (k : ∀ σ H Q, t' σ H Q → t σ H Q) : PE X e t' := ⟨fun pins s σ H Q I q => h.run pins s σ H Q I (k σ H Q q)⟩
theorem PT.imp {X : Cx} {e : Expr} {t t' : TT} (h : PT X e t) (k : ∀ σ H Q, t' σ H Q → t σ H Q) : PT X e t' := ⟨fun pins s σ H Q I q => h.run pins s σ H Q I (k σ H Q q)⟩
theorem PSs.imp {X : Cx} {e : List Stmt} {t t' : TS} (h : PSs X e t) (k : ∀ D σ H, t' D σ H → t D σ H) : PSs X e t' := ⟨fun pins s σ H D I q => h.run pins s σ H D I (k D σ H q)⟩
theorem PS.imp {X : Cx} {e : Stmt} {t t' : TS} (h : PS X e t) (k : ∀ D σ H, t' D σ H → t D σ H) : PS X e t' := ⟨fun pins s σ H D I q => h.run pins s σ H D I (k D σ H q)⟩
section
variable {m : Type → Type} [Run m] {α β γ : Type} {X : Cx} {b : Bs} {sl : Sls} {e e1 e2 : Expr} {md : Md} {c : m α} {g : α → D} {c1 : m β} {g1 : β → D} {pos : Pos}
/-- what is ours is let stand -/
theorem dm_fr {n : Nat} (h : DM X b sl e (.ow n) c g) : DM X b sl e (.ow 0) c g := PE.imp h fun σ H Q ⟨F, R, q⟩ => ⟨F, R, Run.run_mono _ _ _ (fun x p v F' H' C S r k => by
  obtain ⟨F2, S2, r2, _⟩ := freeze R.fe S r k
  exact Post.fr S2 p r2) q⟩
/-- .. is looked at -/
theorem dm_pk {n : Nat} (h : DM X b sl e (.ow n) c g) : DM X b sl e .pk c g := PE.imp h fun σ H Q ⟨F, R, q⟩ => ⟨F, R, Run.run_mono _ _ _ (fun x p v F' H' C S r k => by
  obtain ⟨F2, S2, r2, _⟩ := freeze R.fe S r k
  exact p v F2 H' S2 (r2.mono S2.fh)) q⟩
theorem dm_up {c : Option α} (h : DM X b sl e md c g) : DM X b sl e md (up c) g := PE.imp h fun σ H Q ⟨F, R, q⟩ => ⟨F, R, q⟩
/-- another way to say it -/
theorem dm_to {c' : m α} (h : DM X b sl e md c g) (k : ∀ Q, Run.run c' Q → Run.run c Q) : DM X b sl e md c' g := PE.imp h fun σ H Q ⟨F, R, q⟩ => ⟨F, R, k _ q⟩
theorem dm_eq {c' : m α} (h : DM X b sl e md c g) (k : c = c') : DM X b sl e md c' g := k ▸ h
theorem dm_name (i : Nat) (g : α → D) (a : α) {x : Str} (e : sl[i]? = some (some (.v (g a))) := by rfl) (hN : X.N[i]? = some x := by rfl) (hv : Vis X.env.scope x := by first | exact Or.inl rfl | exact Or.inr (Or.inl rfl) | exact Or.inr (Or.inr rfl)) (hd : (x == ("__debug__" : Str)) = false := by decide)
    (hcd : (x == ("__classdict__" : Str)) = false := by decide) : DM X b sl (.Name x pos) (.ow 0) (pure a : m α) g := PE.imp (pe_var hN hv hd hcd) fun σ H Q ⟨F, R, q⟩ => by
  obtain ⟨v, e1, r⟩ := R.getV e
  exact ⟨v, e1, Post.fr (.refl R.sub R.fe) (Run.run_pure a _ q) r⟩
theorem dm_nameO (i : Nat) (g : α → D) (a : α) {n : Nat} {x : Str} (e : sl[i]? = some (some (.o n (g a))) := by rfl) (hN : X.N[i]? = some x := by rfl) (hv : Vis X.env.scope x := by first | exact Or.inl rfl | exact Or.inr (Or.inl rfl) | exact Or.inr (Or.inr rfl)) (hd : (x == ("__debug__" : Str)) = false := by decide)
    (hcd : (x == ("__classdict__" : Str)) = false := by decide) : DM X b sl (.Name x pos) .pk (pure a : m α) g := PE.imp (pe_var hN hv hd hcd) fun σ H Q ⟨F, R, q⟩ => by
  obtain ⟨v, e1, r⟩ := R.getO e
  exact ⟨v, e1, (Run.run_pure a _ q) v F H (.refl R.sub R.fe) r⟩
end
end DL
namespace DL
open PySem PySem.Spec PyProof.Rows L2
/-! ### kinds of data -/
def eI : Int → D := PyData.int
def eB : Bool → D := PyData.bool
def eS : Str → D := PyData.str
def eN : Unit → D := fun _ => PyData.none
def eD (d : D) : D := d
section
variable {α β γ : Type}
def eL (g : α → D) (xs : List α) : D := .list (xs.map g)
def eT (g : α → D) (xs : List α) : D := .tuple (xs.map g)
def eP (g : α → D) (h : β → D) (p : α × β) : D := .tuple [g p.1, h p.2]
def eP3 (g : α → D) (h : β → D) (k : γ → D) (p : α × β × γ) : D := .tuple [g p.1, h p.2.1, k p.2.2]
def eO (g : α → D) : Option α → D
  | none => .none
  | some a => g a
/-- scalars -/
class Sca (g : α → D) : Prop where
  sc : ∀ x, scalD (g x) = true
instance : Sca eI := ⟨fun _ => rfl⟩
instance : Sca eB := ⟨fun _ => rfl⟩
instance : Sca eS := ⟨fun _ => rfl⟩
instance : Sca eN := ⟨fun _ => rfl⟩
instance {g : α → D} [h : Sca g] : Sca (eO g) := ⟨fun x => by
  cases x with
  | none => rfl
  | some a => exact h.sc a⟩
/-- == says what it says -/
class Eqv [BEq α] (g : α → D) (k : outParam Nat) : Prop where
  plain : ∀ x, (g x).plain = true
  depth : ∀ x, (g x).depth ≤ k
  eqv : ∀ x y, PyData.eqv (g x) (g y) = (x == y)
instance : Eqv eI 1 := ⟨fun _ => rfl, fun _ => by simp [eI, PyData.depth], fun x y => by simp [eI, PyData.eqv]⟩
instance : Eqv eB 1 := ⟨fun _ => rfl, fun _ => by simp [eB, PyData.depth], fun x y => by simp [eB, PyData.eqv]⟩
instance : Eqv eS 1 := ⟨fun _ => rfl, fun _ => by simp [eS, PyData.depth], fun x y => by simp [eS, PyData.eqv]⟩
instance : Eqv eN 1 := ⟨fun _ => rfl, fun _ => by simp [eN, PyData.depth], fun x y => by simp [eN, PyData.eqv]⟩
theorem plainAll_map {g : α → D} (h : ∀ x, (g x).plain = true) : ∀ xs : List α, PyData.plainAll (xs.map g) = true
  | [] => rfl
  | x :: xs => by simp [PyData.plainAll, h x, plainAll_map h xs]
theorem depthAll_map {g : α → D} {k : Nat} (h : ∀ x, (g x).depth ≤ k) : ∀ xs : List α, PyData.depthAll (xs.map g) ≤ k
  | [] => by simp [PyData.depthAll]
  | x :: xs => by
    have := h x
    have := depthAll_map h xs
    simp only [List.map_cons, PyData.depthAll]
    omega
theorem eqvAll_map [BEq α] {g : α → D} (h : ∀ x y, PyData.eqv (g x) (g y) = (x == y)) : ∀ xs ys : List α, PyData.eqvAll (xs.map g) (ys.map g) = (xs == ys)
  | [], [] => by simp [PyData.eqvAll]
  | [], _ :: _ => by simp [PyData.eqvAll]
  | _ :: _, [] => by simp [PyData.eqvAll]
  | x :: xs, y :: ys => by simp [PyData.eqvAll, h x y, eqvAll_map h xs ys]
instance [BEq α] {g : α → D} {k : Nat} [h : Eqv g k] : Eqv (eL g) (k + 1) := ⟨fun xs => plainAll_map h.plain xs, fun xs => by
  have := depthAll_map h.depth xs
  simp only [eL, PyData.depth]
  omega, fun xs ys => by simp only [eL, PyData.eqv]; exact eqvAll_map h.eqv xs ys⟩
instance [BEq α] {g : α → D} {k : Nat} [h : Eqv g k] : Eqv (eT g) (k + 1) := ⟨fun xs => plainAll_map h.plain xs, fun xs => by
  have := depthAll_map h.depth xs
  simp only [eT, PyData.depth]
  omega, fun xs ys => by simp only [eT, PyData.eqv]; exact eqvAll_map h.eqv xs ys⟩
instance [BEq α] [BEq β] {g : α → D} {h : β → D} {k l : Nat} [x : Eqv g k] [y : Eqv h l] : Eqv (eP g h) (max k l + 1) := ⟨fun p => by simp [eP, PyData.plain, PyData.plainAll, x.plain, y.plain], fun p => by
  have := x.depth p.1
  have := y.depth p.2
  simp only [eP, PyData.depth, PyData.depthAll]
  omega, fun p q => by
  simp only [eP, PyData.eqv, PyData.eqvAll, x.eqv, y.eqv, Bool.and_true]
  rfl⟩
end
/-! ### what reads as data is read by the library -/
section
variable {X : Cx} {pins : List (Addr × Obj)} {σ : L2.St} {H : Hp} {s : Shared}
mutual
theorem Rp.reads (I : Inv X pins σ H s) : ∀ (d : D) (v : V) (u : Value), d.plain = true → Rp X.K H v d → RelV v u → ∃ as, Reads s.heap u d as
  | .none, _, _, _, h, r => by
    cases h
    cases r
    exact ⟨_, Reads.none⟩
  | .bool b, _, _, _, h, r => by
    cases h
    cases r
    exact ⟨_, Reads.bool b⟩
  | .int i, _, _, _, h, r => by
    cases h
    obtain ⟨t, rfl⟩ := r
    exact ⟨_, Reads.int i t⟩
  | .str x, _, _, _, h, r => by
    cases h
    obtain ⟨t, rfl⟩ := r
    exact ⟨_, Reads.str x t⟩
  | .list ds, _, _, p, h, r => by
    cases h with
    | lst hs ha =>
      cases r
      obtain ⟨its, rv, ⟨o, n, ho, hc, _, hd⟩, _⟩ := I.list (SqL.of hs)
      obtain ⟨as, hr⟩ := Rp.readsAll I ds _ its p ha rv
      exact ⟨_, Reads.list ho hc hd hr⟩
  | .tuple ds, _, _, p, h, r => by
    cases h with
    | tup hs ha =>
      cases r
      obtain ⟨its, rv, ⟨o, ho, hc, n, hd⟩, _⟩ := I.tuple hs
      obtain ⟨as, hr⟩ := Rp.readsAll I ds _ its p ha rv
      exact ⟨_, Reads.tuple ho hc hd hr⟩
  | .dict _, _, _, p, _, _ => by cases p
theorem Rp.readsAll (I : Inv X pins σ H s) : ∀ (ds : List D) (vs : List V) (us : List Value), PyData.plainAll ds = true → RpAll X.K H vs ds → Vals vs us → ∃ as, ReadsAll s.heap us ds as
  | [], _, _, _, h, r => by
    cases h
    cases r
    exact ⟨_, ReadsAll.nil⟩
  | d :: ds, _, _, p, h, r => by
    have p' : d.plain = true ∧ PyData.plainAll ds = true := by simpa [PyData.plainAll] using p
    cases h with
    | cons h1 h2 =>
      cases r with
      | cons r1 r2 =>
        obtain ⟨as, q1⟩ := Rp.reads I d _ _ p'.1 h1 r1
        obtain ⟨bs, q2⟩ := Rp.readsAll I ds _ _ p'.2 h2 r2
        exact ⟨_, ReadsAll.cons q1 q2⟩
end
def rEqP (K : PySem.W.Frag) (neg : Bool) : R2 := fun x y H Q => ∃ d e, Rp K H x d ∧ Rp K H y e ∧ d.plain = true ∧ e.plain = true ∧ min d.depth e.depth ≤ 64 ∧ Q (.bl (if neg then !PyData.eqv d e else PyData.eqv d e)) H
theorem op_eqP (hu : X.A.units + 64 < cLine) : OpR X (compareOp .Eq) (rEqP X.K false) := by
  intro pins s σ H x y v u Q I rx ry h
  obtain ⟨d, e, hd, he, sd, se, dd, q⟩ := h
  obtain ⟨as, r1⟩ := Rp.reads I d x v sd hd rx
  obtain ⟨bs, r2⟩ := Rp.reads I e y u se he ry
  exact SeqAt.eq_plain r1 r2 sd se (by omega) ⟨.bl _, H, I, rfl, q⟩
theorem op_neP (hu : X.A.units + 64 < cLine) : OpR X (compareOp .NotEq) (rEqP X.K true) := by
  intro pins s σ H x y v u Q I rx ry h
  obtain ⟨d, e, hd, he, sd, se, dd, q⟩ := h
  obtain ⟨as, r1⟩ := Rp.reads I d x v sd hd rx
  obtain ⟨bs, r2⟩ := Rp.reads I e y u se he ry
  exact SeqAt.ne_plain r1 r2 sd se (by omega) ⟨.bl _, H, I, rfl, q⟩
/-- x in xs, xs a list or a tuple -/
def rInP (K : PySem.W.Frag) (neg : Bool) : R2 := fun x y H Q => ∃ d ds, Rp K H x d ∧ (Rp K H y (.list ds) ∨ Rp K H y (.tuple ds)) ∧ d.plain = true ∧ PyData.plainAll ds = true ∧ PyData.depthAll ds ≤ 62 ∧ d.depth ≤ 62 ∧
  Q (.bl (if neg then !(ds.any fun e => PyData.eqv e d) else ds.any fun e => PyData.eqv e d)) H
end
end DL
namespace DL
open PySem PySem.Spec PyProof.Rows L2
section
variable {m : Type → Type} [Run m] {α β γ : Type} {X : Cx} {b : Bs} {sl : Sls} {e e1 e2 : Expr} {md : Md} {c : m α} {g : α → D} {c1 : m β} {g1 : β → D} {pos : Pos}
/-! ### constants -/
theorem dm_pure {t : TE} {x : α} {v : V} (h : PE X e (tC v)) (hs : scalD (g x) = true) (r : ∀ K F, Rp K F v (g x)) : DM X b sl e md (pure x : m α) g := PE.imp h fun σ H Q ⟨F, R, q⟩ => by
  have q := rpure q
  exact Post.sc R.sub R.fe q hs (r _ _)
theorem dm_int {i : Int} {j} : DM X b sl (.Constant (.int i) j pos) md (pure i : m Int) eI := dm_pure (t := tC (.int i)) pe_int rfl fun _ _ => .int i
theorem dm_bool {i : Bool} {j} : DM X b sl (.Constant (.bool i) j pos) md (pure i : m Bool) eB := dm_pure (t := tC (.bl i)) pe_bl rfl fun _ _ => .bl i
theorem dm_str {i : Str} {j} : DM X b sl (.Constant (.str i) j pos) md (pure i : m Str) eS := dm_pure (t := tC (.str i)) pe_str rfl fun _ _ => .str i
theorem dm_none {j} : DM X b sl (.Constant .none j pos) md (pure () : m Unit) eN := dm_pure (t := tC .non) pe_non rfl fun _ _ => .non
/-- a scalar, in any way -/
theorem dm_sc [Sca g] {n : Nat} {md' : Md} (h : DM X b sl e (.ow n) c g) : DM X b sl e md' c g := PE.imp h fun σ H Q ⟨F, R, q⟩ => ⟨F, R, Run.run_mono _ _ _ (fun x p v F' H' C S r k => by
  obtain ⟨F2, S2, r2, _⟩ := freeze R.fe S r k
  exact Post.sc (md := md') S2.fh S2.fe (Post.back R.fe S2 p) (Sca.sc x) r2) q⟩
theorem dm_scP [Sca g] {md' : Md} (h : DM X b sl e .pk c g) : DM X b sl e md' c g := PE.imp h fun σ H Q ⟨F, R, q⟩ => ⟨F, R, Run.run_mono _ _ _ (fun x p v F' H' S r =>
  Post.sc (md := md') S.fh S.fe (Post.back R.fe S p) (Sca.sc x) (r.scal (Sca.sc x))) q⟩
/-- told by another kind -/
theorem dm_enc {g' : β → D} {f : α → β} (h : DM X b sl e md c g) (k : ∀ x, g' (f x) = g x) : DM X b sl e md (c >>= fun x => pure (f x)) g' := PE.imp h fun σ H Q ⟨F, R, q⟩ => ⟨F, R, rmono (rbind q) fun x p => by
  have := rpure p
  rw [k x] at this
  exact this⟩
theorem dm_encP {g' : β → D} {f : α → β} {x : α} (h : DM X b sl e md (pure x : m α) g) (k : g' (f x) = g x) : DM X b sl e md (pure (f x) : m β) g' := PE.imp h fun σ H Q ⟨F, R, q⟩ => ⟨F, R, by
  have q := rpure q
  rw [k] at q
  exact rpure' q⟩
end
end DL
namespace DL
open PySem PySem.Spec PyProof.Rows L2
section
variable {m : Type → Type} [Run m] {α β γ : Type} {X : Cx} {b : Bs} {sl : Sls} {e e1 e2 : Expr} {md : Md} {c : m α} {g : α → D} {c1 : m β} {g1 : β → D} {pos : Pos} {K : PySem.W.Frag} {fd : Option Addr}
/-! ### operands -/
inductive Am where
  /-- where it stands -/
  | pk
  /-- it stays -/
  | fr
  /-- a list where it stands, its items stay -/
  | sh
def ArgOk (K : PySem.W.Frag) (fd : Option Addr) (F H : Hp) (am : Am) (v : V) (d : D) : Prop := match am with
  | .pk => Rp K (hid fd H) v d
  | .fr => Rp K F v d
  | .sh => ∃ p vs ds, v = .ref p ∧ d = .list ds ∧ hid fd H p = some (.lst vs) ∧ RpAll K F vs ds ∧ ds.length ≤ sizeLine
theorem ArgOk.step {F H F' H' : Hp} {am : Am} {v : V} {d : D} (h : ArgOk K fd F H am v d) (S : Step K fd F H F' H') : ArgOk K fd F' H' am v d := by
  cases am with
  | pk => exact Rp.mono S.hh h
  | fr => exact Rp.mono S.ff h
  | sh =>
    obtain ⟨p, vs, ds, e1, e2, e3, e4, e5⟩ := h
    exact ⟨p, vs, ds, e1, e2, S.hh _ _ e3, e4.mono S.ff, e5⟩
def PostA (K : PySem.W.Frag) (fd : Option Addr) (am : Am) (F H : Hp) (d : D) (Q : VK) : Prop := ∀ v F' H', Step K fd F H F' H' → ArgOk K fd F' H' am v d → Q v H'
def tA (K : PySem.W.Frag) (b : Bs) (sl : Sls) (am : Am) (c : m α) (g : α → D) : TE := fun σ H Q => ∃ F, Rel K b sl F H σ ∧ Run.run c (fun x => PostA K b.fd am F H (g x) Q)
abbrev DA (X : Cx) (b : Bs) (sl : Sls) (e : Expr) (am : Am) (c : m α) (g : α → D) : Prop := PE X e (tA X.K b sl am c g)
theorem da_pk (h : DM X b sl e .pk c g) : DA X b sl e .pk c g := h
theorem da_fr {n : Nat} (h : DM X b sl e (.ow n) c g) : DA X b sl e .fr c g := PE.imp h fun σ H Q ⟨F, R, q⟩ => ⟨F, R, rmono q fun x p v F' H' C S r k => by
  obtain ⟨F2, S2, r2, _⟩ := freeze R.fe S r k
  exact p v F2 H' S2 r2⟩
theorem da_pk' {n : Nat} (h : DM X b sl e (.ow n) c g) : DA X b sl e .pk c g := da_pk (dm_pk h)
theorem da_sh {g : α → D} {c : m (List α)} {n : Nat} (h : DM X b sl e (.ow n) c (eL g)) : DA X b sl e .sh c (eL g) := PE.imp h fun σ H Q ⟨F, R, q⟩ => ⟨F, R, rmono q fun x p v F' H' C S r k => by
  obtain ⟨F2, S2, r2, _⟩ := freeze R.fe S r k
  refine p v F2 H' S2 ?_
  cases r2 with
  | lst a q l => exact ⟨_, _, _, rfl, rfl, S2.fh _ _ a, q, l⟩⟩
/-- a list of scalars -/
theorem da_shS {g : α → D} {c : m (List α)} [hs : Sca g] (h : DM X b sl e .pk c (eL g)) : DA X b sl e .sh c (eL g) := PE.imp h fun σ H Q ⟨F, R, q⟩ => ⟨F, R, rmono q fun x p v F' H' S r => by
  refine p v F' H' S ?_
  cases r with
  | lst a q l =>
    refine ⟨_, _, _, rfl, rfl, a, RpAll.scal' (fun d hd => ?_) q, l⟩
    obtain ⟨y, _, rfl⟩ := List.mem_map.mp hd
    exact hs.sc y⟩
/-- a name of ours, one deep -/
theorem da_nameO (i : Nat) (g : α → D) (a : List α) {x : Str} (e : sl[i]? = some (some (.o 1 (eL g a))) := by rfl) (hN : X.N[i]? = some x := by rfl) (hv : Vis X.env.scope x := by first | exact Or.inl rfl | exact Or.inr (Or.inl rfl) | exact Or.inr (Or.inr rfl)) (hd : (x == ("__debug__" : Str)) = false := by decide)
    (hcd : (x == ("__classdict__" : Str)) = false := by decide) : DA X b sl (.Name x pos) .sh (pure a : m (List α)) (eL g) := PE.imp (pe_var hN hv hd hcd) fun σ H Q ⟨F, R, q⟩ => by
  have q := rpure q
  obtain ⟨Cs, s1, s2, s3⟩ := R.slots
  obtain ⟨v, e1, r⟩ := s1 i _ e
  refine ⟨v, e1, q v F H (.refl R.sub R.fe) ?_⟩
  generalize hC : Cs i = C at r
  have hc := (s2 i).2
  rw [hC] at hc
  cases r with
  | s a _ => cases a
  | lst o l =>
    obtain ⟨h1, _, _, h4⟩ := hc _ List.mem_cons_self
    exact ⟨_, _, _, rfl, rfl, by rw [hid_ne h4]; exact h1, (OwnAll.zero' o).1, l⟩
/-! ### two operands -/
def OpS (K : PySem.W.Frag) (fd : Option Addr) (r : R2) (a1 a2 : Am) (ga : α → D) (gb : β → D) (P : α → β → Prop) (k : α → β → m γ) (md : Md) (g : γ → D) : Prop :=
  ∀ F H v1 v2 x y Q, P x y → Sub F (hid fd H) → FeedOk K fd F H → ArgOk K fd F H a1 v1 (ga x) → ArgOk K fd F H a2 v2 (gb y) → Run.run (k x y) (fun z => Post K fd md F H (g z) Q) → r v1 v2 H Q
variable {a1 a2 : Am}
theorem tD_op {r : R2} {k : α → β → m γ} {h : γ → D} (hr : OpS X.K b.fd r a1 a2 g g1 (fun _ _ => True) k md h) {σ : L2.St} {H : Hp} {Q : VK} (q : tD X.K b sl md (c >>= fun x => c1 >>= fun y => k x y) h σ H Q) :
    tOp r (tA X.K b sl a1 c g) (tA X.K b sl a2 c1 g1) σ H Q := by
  obtain ⟨F, R, q⟩ := q
  refine ⟨F, R, rmono (rbind q) fun x q v1 F1 H1 S1 r1 => ?_⟩
  have R1 := R.step S1
  refine ⟨F1, R1, rmono (rbind q) fun y q v2 F2 H2 S2 r2 => ?_⟩
  have R2 := R1.step S2
  exact hr F2 H2 v1 v2 x y Q trivial R2.sub R2.fe (r1.step S2) r2 (rmono q fun z p => p.back R.fe (S1.trans R.fe S2))
theorem tD_opR {r : R2} {k : α → m γ} {h : γ → D} {y : β} (hr : OpS X.K b.fd r a1 a2 g g1 (fun _ z => z = y) (fun x _ => k x) md h) {σ : L2.St} {H : Hp} {Q : VK} (q : tD X.K b sl md (c >>= k) h σ H Q) :
    tOp r (tA X.K b sl a1 c g) (tA X.K b sl a2 (pure y : m β) g1) σ H Q := by
  obtain ⟨F, R, q⟩ := q
  refine ⟨F, R, rmono (rbind q) fun x q v1 F1 H1 S1 r1 => ?_⟩
  have R1 := R.step S1
  refine ⟨F1, R1, rpure' fun v2 F2 H2 S2 r2 => ?_⟩
  have R2 := R1.step S2
  exact hr F2 H2 v1 v2 x y Q rfl R2.sub R2.fe (r1.step S2) r2 (rmono q fun z p => p.back R.fe (S1.trans R.fe S2))
theorem tD_opL {r : R2} {k : β → m γ} {h : γ → D} {x : α} (hr : OpS X.K b.fd r a1 a2 g g1 (fun z _ => z = x) (fun _ y => k y) md h) {σ : L2.St} {H : Hp} {Q : VK} (q : tD X.K b sl md (c1 >>= k) h σ H Q) :
    tOp r (tA X.K b sl a1 (pure x : m α) g) (tA X.K b sl a2 c1 g1) σ H Q := by
  obtain ⟨F, R, q⟩ := q
  refine ⟨F, R, rpure' fun v1 F1 H1 S1 r1 => ?_⟩
  have R1 := R.step S1
  refine ⟨F1, R1, rmono (rbind q) fun y q v2 F2 H2 S2 r2 => ?_⟩
  have R2 := R1.step S2
  exact hr F2 H2 v1 v2 x y Q rfl R2.sub R2.fe (r1.step S2) r2 (rmono q fun z p => p.back R.fe (S1.trans R.fe S2))
theorem dm_op {op : Operator} {r : R2} {k : α → β → m γ} {h : γ → D} (ho : OpR X (binaryOp op) r) (ha : DA X b sl e1 a1 c g) (hb : DA X b sl e2 a2 c1 g1) (hr : OpS X.K b.fd r a1 a2 g g1 (fun _ _ => True) k md h) :
    DM X b sl (.BinOp e1 op e2 pos) md (c >>= fun x => c1 >>= fun y => k x y) h := PE.imp (pe_op ho ha hb) fun _ _ _ q => tD_op hr q
theorem dm_opR {op : Operator} {r : R2} {k : α → m γ} {h : γ → D} {y : β} (ho : OpR X (binaryOp op) r) (ha : DA X b sl e1 a1 c g) (hb : DA X b sl e2 a2 (pure y : m β) g1) (hr : OpS X.K b.fd r a1 a2 g g1 (fun _ z => z = y) (fun x _ => k x) md h) :
    DM X b sl (.BinOp e1 op e2 pos) md (c >>= k) h := PE.imp (pe_op ho ha hb) fun _ _ _ q => tD_opR hr q
theorem dm_opL {op : Operator} {r : R2} {k : β → m γ} {h : γ → D} {x : α} (ho : OpR X (binaryOp op) r) (ha : DA X b sl e1 a1 (pure x : m α) g) (hb : DA X b sl e2 a2 c1 g1) (hr : OpS X.K b.fd r a1 a2 g g1 (fun z _ => z = x) (fun _ y => k y) md h) :
    DM X b sl (.BinOp e1 op e2 pos) md (c1 >>= k) h := PE.imp (pe_op ho ha hb) fun _ _ _ q => tD_opL hr q
theorem dm_cmp {op : CmpOp} {r : R2} {k : α → β → m γ} {h : γ → D} (ho : OpR X (compareOp op) r) (ha : DA X b sl e1 a1 c g) (hb : DA X b sl e2 a2 c1 g1) (hr : OpS X.K b.fd r a1 a2 g g1 (fun _ _ => True) k md h) (hm : behindInMarks op e2 = false) :
    DM X b sl (.Compare e1 [op] [e2] pos) md (c >>= fun x => c1 >>= fun y => k x y) h := PE.imp (pe_cmpR ho ha hb hm) fun _ _ _ q => tD_op hr q
/-- a[i] -/
theorem dm_ix {r : R2} {k : α → β → m γ} {h : γ → D} (ho : IxR X r) (ha : DA X b sl e1 a1 c g) (hb : DA X b sl e2 a2 c1 g1) (hr : OpS X.K b.fd r a1 a2 g g1 (fun _ _ => True) k md h) (hs : PlainIx e2) :
    DM X b sl (.Subscript e1 e2 pos) md (c >>= fun x => c1 >>= fun y => k x y) h := PE.imp (pe_ix ho ha hb hs) fun _ _ _ q => tD_op hr q
/-! ### tests -/
def tTT (K : PySem.W.Frag) (b : Bs) (sl : Sls) (c : m Bool) : TT := fun σ H Q => ∃ F, Rel K b sl F H σ ∧ Run.run c (fun t => ∀ F' H', Step K b.fd F H F' H' → Q t H')
abbrev DT (X : Cx) (b : Bs) (sl : Sls) (e : Expr) (c : m Bool) : Prop := PT X e (tTT X.K b sl c)
theorem dt_cmp {op : CmpOp} {r : R2} {k : α → β → m Bool} (ho : OpR X (compareOp op) r) (ha : DA X b sl e1 a1 c g) (hb : DA X b sl e2 a2 c1 g1) (hr : OpS X.K b.fd r a1 a2 g g1 (fun _ _ => True) k .pk eB) (hm : behindInMarks op e2 = false) :
    DT X b sl (.Compare e1 [op] [e2] pos) (c >>= fun x => c1 >>= fun y => k x y) := PT.imp (pt_cmpR ho ha hb hm) fun σ H Q ⟨F, R, q⟩ => tD_op (md := .pk) (h := eB) hr ⟨F, R, rmono q fun t p v F' H' S r => by
    cases r
    exact ⟨_, rfl, p F' H' S⟩⟩
theorem dt_val {c : m Bool} (h : DM X b sl e .pk c eB) (he : ∀ whole, isTrue e X.env whole = (do let v ← whole; standAt e.pos; holding [v] (truthy v)) := by intro _; rfl) : DT X b sl e c := PT.imp (pt_val h he) fun σ H Q ⟨F, R, q⟩ =>
  ⟨F, R, rmono q fun t p v F' H' S r => by
    cases r
    exact ⟨_, rfl, p F' H' S⟩⟩
theorem dt_to {c c' : m Bool} (h : DT X b sl e c) (k : ∀ Q, Run.run c' Q → Run.run c Q) : DT X b sl e c' := PT.imp h fun σ H Q ⟨F, R, q⟩ => ⟨F, R, k _ q⟩
theorem dt_not {c : m Bool} (h : DT X b sl e c) : DT X b sl (.UnaryOp .Not e pos) (c >>= fun t => pure (!t)) := PT.imp (pt_not h) fun σ H Q ⟨F, R, q⟩ => ⟨F, R, rmono (rbind q) fun t p F' H' S => by
  have p := rpure p
  exact p F' H' S⟩
/-- .. where nothing can fail -/
theorem dt_notT {t : Bool} (h : DT X b sl e (pure t : m Bool)) : DT X b sl (.UnaryOp .Not e pos) (pure (!t) : m Bool) := PT.imp (pt_not h) fun σ H Q ⟨F, R, q⟩ => ⟨F, R, by
  have q := rpure q
  exact rpure' fun F' H' S => q F' H' S⟩
/-- and, or: a chain -/
abbrev DW (X : Cx) (b : Bs) (sl : Sls) (e : Expr) (c : m Bool) : Prop := PW X e (tTT X.K b sl c)
theorem DW.dt {c : m Bool} (h : DW X b sl e c) : DT X b sl e c := PW.pt h
theorem PW.imp {e : Expr} {t t' : TT} (h : PW X e t) (k : ∀ σ H Q, t' σ H Q → t σ H Q) : PW X e t' := ⟨fun w pins s σ H Q I q => h.run w pins s σ H Q I (k σ H Q q)⟩
theorem dw_and1 {c : m Bool} (h : DT X b sl e c) : DW X b sl (.BoolOp .And [e] pos) c := pw_and1 h
theorem dw_or1 {c : m Bool} (h : DT X b sl e c) : DW X b sl (.BoolOp .Or [e] pos) c := pw_or1 h
theorem dw_and {c c1 : m Bool} {rest : List Expr} (h : DT X b sl e c) (h1 : DW X b sl (.BoolOp .And (e1 :: rest) pos) c1) : DW X b sl (.BoolOp .And (e :: e1 :: rest) pos) (c >>= fun t => if t then c1 else pure false) :=
  PW.imp (pw_and h h1) fun σ H Q ⟨F, R, q⟩ => ⟨F, R, rmono (rbind q) fun t p F' H' S => by
    cases t with
    | true => exact ⟨F', R.step S, rmono p fun t p F2 H2 S2 => p F2 H2 (S.trans R.fe S2)⟩
    | false =>
      have p := rpure p
      exact p F' H' S⟩
theorem dw_or {c c1 : m Bool} {rest : List Expr} (h : DT X b sl e c) (h1 : DW X b sl (.BoolOp .Or (e1 :: rest) pos) c1) : DW X b sl (.BoolOp .Or (e :: e1 :: rest) pos) (c >>= fun t => if t then pure true else c1) :=
  PW.imp (pw_or h h1) fun σ H Q ⟨F, R, q⟩ => ⟨F, R, rmono (rbind q) fun t p F' H' S => by
    cases t with
    | false => exact ⟨F', R.step S, rmono p fun t p F2 H2 S2 => p F2 H2 (S.trans R.fe S2)⟩
    | true =>
      have p := rpure p
      exact p F' H' S⟩
theorem dw_andT {t u : Bool} {rest : List Expr} (h : DT X b sl e (pure t : m Bool)) (h1 : DW X b sl (.BoolOp .And (e1 :: rest) pos) (pure u : m Bool)) : DW X b sl (.BoolOp .And (e :: e1 :: rest) pos) (pure (t && u) : m Bool) :=
  PW.imp (dw_and h h1) fun σ H Q ⟨F, R, q⟩ => ⟨F, R, by
    have q := rpure q
    show Run.run ((pure t : m Bool) >>= fun t => if t then (pure u : m Bool) else pure false) _
    rw [Run.pure_b]
    cases t <;> exact rpure' q⟩
theorem dw_orT {t u : Bool} {rest : List Expr} (h : DT X b sl e (pure t : m Bool)) (h1 : DW X b sl (.BoolOp .Or (e1 :: rest) pos) (pure u : m Bool)) : DW X b sl (.BoolOp .Or (e :: e1 :: rest) pos) (pure (t || u) : m Bool) :=
  PW.imp (dw_or h h1) fun σ H Q ⟨F, R, q⟩ => ⟨F, R, by
    have q := rpure q
    show Run.run ((pure t : m Bool) >>= fun t => if t then pure true else (pure u : m Bool)) _
    rw [Run.pure_b]
    cases t <;> exact rpure' q⟩
/-- .. as values: all bools -/
abbrev DV (X : Cx) (b : Bs) (sl : Sls) (e : Expr) (c : m Bool) : Prop := DM X b sl e .pk c eB
theorem dv_one {op : BoolOp} {c : m Bool} (h : DV X b sl e c) : DV X b sl (.BoolOp op [e] pos) c := pe_one h
theorem dv_and {c c1 : m Bool} {rest : List Expr} (h : DV X b sl e c) (h1 : DV X b sl (.BoolOp .And (e1 :: rest) pos) c1) : DV X b sl (.BoolOp .And (e :: e1 :: rest) pos) (c >>= fun t => if t then c1 else pure false) :=
  PE.imp (pe_and h h1) fun σ H Q ⟨F, R, q⟩ => ⟨F, R, rmono (rbind q) fun t p v F' H' S r => by
    cases r
    refine ⟨_, rfl, ?_⟩
    cases t with
    | true => exact ⟨F', R.step S, rmono p fun t p v F2 H2 S2 r => p v F2 H2 (S.trans R.fe S2) r⟩
    | false =>
      have p := rpure p
      exact p _ F' H' S (.bl false)⟩
theorem dv_or {c c1 : m Bool} {rest : List Expr} (h : DV X b sl e c) (h1 : DV X b sl (.BoolOp .Or (e1 :: rest) pos) c1) : DV X b sl (.BoolOp .Or (e :: e1 :: rest) pos) (c >>= fun t => if t then pure true else c1) :=
  PE.imp (pe_or h h1) fun σ H Q ⟨F, R, q⟩ => ⟨F, R, rmono (rbind q) fun t p v F' H' S r => by
    cases r
    refine ⟨_, rfl, ?_⟩
    cases t with
    | false => exact ⟨F', R.step S, rmono p fun t p v F2 H2 S2 r => p v F2 H2 (S.trans R.fe S2) r⟩
    | true =>
      have p := rpure p
      exact p _ F' H' S (.bl true)⟩
theorem dv_andT {t u : Bool} {rest : List Expr} (h : DV X b sl e (pure t : m Bool)) (h1 : DV X b sl (.BoolOp .And (e1 :: rest) pos) (pure u : m Bool)) : DV X b sl (.BoolOp .And (e :: e1 :: rest) pos) (pure (t && u) : m Bool) :=
  PE.imp (dv_and h h1) fun σ H Q ⟨F, R, q⟩ => ⟨F, R, by
    have q := rpure q
    rw [Run.pure_b]
    cases t <;> exact rpure' q⟩
theorem dv_orT {t u : Bool} {rest : List Expr} (h : DV X b sl e (pure t : m Bool)) (h1 : DV X b sl (.BoolOp .Or (e1 :: rest) pos) (pure u : m Bool)) : DV X b sl (.BoolOp .Or (e :: e1 :: rest) pos) (pure (t || u) : m Bool) :=
  PE.imp (dv_or h h1) fun σ H Q ⟨F, R, q⟩ => ⟨F, R, by
    have q := rpure q
    rw [Run.pure_b]
    cases t <;> exact rpure' q⟩
theorem dv_not {c : m Bool} (h : DV X b sl e c) : DV X b sl (.UnaryOp .Not e pos) (c >>= fun t => pure (!t)) := PE.imp (pe_not h) fun σ H Q ⟨F, R, q⟩ => ⟨F, R, rmono (rbind q) fun t p v F' H' S r => by
    have p := rpure p
    cases r
    exact ⟨_, rfl, p _ F' H' S (.bl _)⟩⟩
theorem dv_notT {t : Bool} (h : DV X b sl e (pure t : m Bool)) : DV X b sl (.UnaryOp .Not e pos) (pure (!t) : m Bool) := PE.imp (pe_not h) fun σ H Q ⟨F, R, q⟩ => ⟨F, R, by
    have q := rpure q
    refine rpure' fun v F' H' S r => ?_
    cases r
    exact ⟨_, rfl, q _ F' H' S (.bl _)⟩⟩
/-- a if t else b -/
theorem dm_if {t : m Bool} {c c' : m α} (ht : DT X b sl e t) (h1 : DM X b sl e1 md c g) (h2 : DM X b sl e2 md c' g) : DM X b sl (.IfExp e e1 e2 pos) md (t >>= fun k => if k then c else c') g :=
  PE.imp (pe_ifExp ht h1 h2) fun σ H Q ⟨F, R, q⟩ => ⟨F, R, rmono (rbind q) fun k p F' H' S => by
    cases k with
    | true => exact ⟨F', R.step S, rmono p fun x p => p.back R.fe S⟩
    | false => exact ⟨F', R.step S, rmono p fun x p => p.back R.fe S⟩⟩
theorem dm_ifT {t : Bool} {x y : α} (ht : DT X b sl e (pure t : m Bool)) (h1 : DM X b sl e1 md (pure x : m α) g) (h2 : DM X b sl e2 md (pure y : m α) g) : DM X b sl (.IfExp e e1 e2 pos) md (pure (if t then x else y) : m α) g :=
  PE.imp (dm_if ht h1 h2) fun σ H Q ⟨F, R, q⟩ => ⟨F, R, by
    have q := rpure q
    rw [Run.pure_b]
    cases t <;> exact rpure' q⟩
end
end DL
namespace DL
open PySem PySem.Spec PyProof.Rows L2
section
variable {m : Type → Type} [Run m] {α β γ : Type} {K : PySem.W.Frag} {fd : Option Addr} {md : Md} {P : Int → Int → Prop}
/-! ### ints -/
theorem os_II {f : Int → Int → Int} : OpS K fd (rI0 fun i j => .int (f i j)) .pk .pk eI eI P (fun x y => (pure (f x y) : m Int)) md eI := fun F H v1 v2 x y Q _ fh fe r1 r2 q => by
  cases r1
  cases r2
  have q := rpure q
  exact ⟨x, y, rfl, rfl, Post.sc fh fe q rfl (.int _)⟩
theorem os_IB {f : Int → Int → Bool} : OpS K fd (rI0 fun i j => .bl (f i j)) .pk .pk eI eI P (fun x y => (pure (f x y) : m Bool)) md eB := fun F H v1 v2 x y Q _ fh fe r1 r2 q => by
  cases r1
  cases r2
  have q := rpure q
  exact ⟨x, y, rfl, rfl, Post.sc fh fe q rfl (.bl _)⟩
theorem os_IC {C : Int → Int → Prop} {f : Int → Int → Int} (h : ∀ x y, P x y → C x y) : OpS K fd (rI C fun i j => .int (f i j)) .pk .pk eI eI P (fun x y => (pure (f x y) : m Int)) md eI := fun F H v1 v2 x y Q p fh fe r1 r2 q => by
  cases r1
  cases r2
  have q := rpure q
  exact ⟨x, y, rfl, rfl, h x y p, Post.sc fh fe q rfl (.int _)⟩
theorem os_IP {C : Int → Int → Prop} {f : Int → Int → Int} {o : Int → Int → Option Int} (h : ∀ x y z, o x y = some z → C x y ∧ f x y = z) : OpS K fd (rI C fun i j => .int (f i j)) .pk .pk eI eI P (fun x y => (Run.lift (o x y) : m Int)) md eI := fun F H v1 v2 x y Q p fh fe r1 r2 q => by
  cases r1
  cases r2
  obtain ⟨z, e, q⟩ := rlift q
  obtain ⟨hc, rfl⟩ := h x y z e
  exact ⟨x, y, rfl, rfl, hc, Post.sc fh fe q rfl (.int _)⟩
def imul (x y : Int) : Option Int := if x.natAbs < 18446744073709551616 ∨ y.natAbs < 18446744073709551616 then some (x * y) else none
def idiv (x y : Int) : Option Int := if 0 < y ∧ y < 1073741824 then some (x / y) else none
def imod (x y : Int) : Option Int := if 0 < y then some (x % y) else none
def ipow (x y : Int) : Option Int := if 0 ≤ y ∧ y ≤ 1000000 ∧ x.natAbs < 18446744073709551616 then some (x ^ y.toNat) else none
def ishl (x y : Int) : Option Int := if 0 ≤ y ∧ y ≤ 1000000 ∧ x.natAbs < 18446744073709551616 then some (x * 2 ^ y.toNat) else none
def ishr (x y : Int) : Option Int := if 0 ≤ y then some (x / 2 ^ y.toNat) else none
theorem some_if {α : Type} {c : Prop} [Decidable c] {x z : α} (h : (if c then some x else none) = some z) : c ∧ x = z := by
  by_cases hc : c
  · rw [if_pos hc] at h; exact ⟨hc, Option.some.inj h⟩
  · rw [if_neg hc] at h; cases h
theorem os_mul : OpS K fd (rI CMul fun i j => .int (i * j)) .pk .pk eI eI P (fun x y => (Run.lift (imul x y) : m Int)) md eI := os_IP fun x y z h => by
  obtain ⟨h1, h2⟩ := some_if h
  refine ⟨?_, h2⟩
  rcases h1 with h1 | h1
  · exact .inl ⟨by omega, by omega⟩
  · exact .inr ⟨by omega, by omega⟩
/-- times a written number -/
theorem os_mulR {n : Int} (h : decide (n.natAbs < 18446744073709551616) = true) : OpS K fd (rI CMul fun i j => .int (i * j)) .pk .pk eI eI (fun _ y => y = n) (fun x _ => (pure (x * n) : m Int)) md eI := fun F H v1 v2 x y Q p fh fe r1 r2 q => by
  subst p
  have h' := of_decide_eq_true h
  exact os_IC (m := m) (P := fun _ z => z = y) (C := CMul) (f := fun i j => i * j) (fun x z hz => .inr (by subst hz; exact ⟨by omega, by omega⟩)) F H v1 v2 x y Q rfl fh fe r1 r2 q
theorem os_mulL {n : Int} (h : decide (n.natAbs < 18446744073709551616) = true) : OpS K fd (rI CMul fun i j => .int (i * j)) .pk .pk eI eI (fun x _ => x = n) (fun _ y => (pure (n * y) : m Int)) md eI := fun F H v1 v2 x y Q p fh fe r1 r2 q => by
  subst p
  have h' := of_decide_eq_true h
  exact os_IC (m := m) (P := fun z _ => z = x) (C := CMul) (f := fun i j => i * j) (fun z y hz => .inl (by subst hz; exact ⟨by omega, by omega⟩)) F H v1 v2 x y Q rfl fh fe r1 r2 q
theorem os_div : OpS K fd (rI CDiv fun i j => .int (i / j)) .pk .pk eI eI P (fun x y => (Run.lift (idiv x y) : m Int)) md eI := os_IP fun x y z h => by
  obtain ⟨h1, h2⟩ := some_if h
  exact ⟨h1, h2⟩
theorem os_mod : OpS K fd (rI (fun _ j => 0 < j) fun i j => .int (i % j)) .pk .pk eI eI P (fun x y => (Run.lift (imod x y) : m Int)) md eI := os_IP fun x y z h => some_if h
theorem os_divK {n : Int} (h : decide (0 < n ∧ n < 1073741824) = true) : OpS K fd (rI CDiv fun i j => .int (i / j)) .pk .pk eI eI (fun _ y => y = n) (fun x _ => (pure (x / n) : m Int)) md eI := fun F H v1 v2 x y Q p fh fe r1 r2 q => by
  subst p
  exact os_IC (m := m) (P := fun _ z => z = y) (C := CDiv) (f := fun i j => i / j) (fun x z hz => by subst hz; have h' := of_decide_eq_true h; exact h') F H v1 v2 x y Q rfl fh fe r1 r2 q
theorem os_modK {n : Int} (h : decide (0 < n) = true) : OpS K fd (rI (fun _ j => 0 < j) fun i j => .int (i % j)) .pk .pk eI eI (fun _ y => y = n) (fun x _ => (pure (x % n) : m Int)) md eI := fun F H v1 v2 x y Q p fh fe r1 r2 q => by
  subst p
  exact os_IC (m := m) (P := fun _ z => z = y) (C := fun _ j => 0 < j) (f := fun i j => i % j) (fun x z hz => by subst hz; exact of_decide_eq_true h) F H v1 v2 x y Q rfl fh fe r1 r2 q
theorem os_pow : OpS K fd (rI CPow fun i j => .int (i ^ j.toNat)) .pk .pk eI eI P (fun x y => (Run.lift (ipow x y) : m Int)) md eI := os_IP fun x y z h => by
  obtain ⟨h1, h2⟩ := some_if h
  exact ⟨⟨h1.1, h1.2.1, by omega⟩, h2⟩
theorem os_shl : OpS K fd (rI CPow fun i j => .int (i * 2 ^ j.toNat)) .pk .pk eI eI P (fun x y => (Run.lift (ishl x y) : m Int)) md eI := os_IP fun x y z h => by
  obtain ⟨h1, h2⟩ := some_if h
  exact ⟨⟨h1.1, h1.2.1, by omega⟩, h2⟩
theorem os_shr : OpS K fd (rI (fun _ j => 0 ≤ j) fun i j => .int (i / 2 ^ j.toNat)) .pk .pk eI eI P (fun x y => (Run.lift (ishr x y) : m Int)) md eI := os_IP fun x y z h => some_if h
theorem os_shrK {n : Int} (h : decide (0 ≤ n) = true) : OpS K fd (rI (fun _ j => 0 ≤ j) fun i j => .int (i / 2 ^ j.toNat)) .pk .pk eI eI (fun _ y => y = n) (fun x _ => (pure (x / 2 ^ n.toNat) : m Int)) md eI := fun F H v1 v2 x y Q p fh fe r1 r2 q => by
  subst p
  exact os_IC (m := m) (P := fun _ z => z = y) (C := fun _ j => 0 ≤ j) (f := fun i j => i / 2 ^ j.toNat) (fun x z hz => by subst hz; exact of_decide_eq_true h) F H v1 v2 x y Q rfl fh fe r1 r2 q
/-! ### ==, in -/
section
variable {P : α → β → Prop}
theorem os_eq [BEq α] {g : α → D} {k : Nat} [h : Eqv g k] (hk : decide (k ≤ 62) = true) : OpS K fd (rEqP K false) .pk .pk g g (fun _ _ => True) (fun x y => (pure (x == y) : m Bool)) md eB := fun F H v1 v2 x y Q _ fh fe r1 r2 q => by
  have hk := of_decide_eq_true hk
  have := h.depth x
  refine ⟨g x, g y, Rp.mono hid_sub r1, Rp.mono hid_sub r2, h.plain x, h.plain y, by omega, ?_⟩
  show Q (.bl (PyData.eqv (g x) (g y))) H
  rw [h.eqv]
  have q := rpure q
  exact Post.sc fh fe q rfl (.bl _)
theorem os_ne [BEq α] {g : α → D} {k : Nat} [h : Eqv g k] (hk : decide (k ≤ 62) = true) : OpS K fd (rEqP K true) .pk .pk g g (fun _ _ => True) (fun x y => (pure (x != y) : m Bool)) md eB := fun F H v1 v2 x y Q _ fh fe r1 r2 q => by
  have hk := of_decide_eq_true hk
  have := h.depth x
  refine ⟨g x, g y, Rp.mono hid_sub r1, Rp.mono hid_sub r2, h.plain x, h.plain y, by omega, ?_⟩
  show Q (.bl (!PyData.eqv (g x) (g y))) H
  rw [h.eqv]
  have q := rpure q
  exact Post.sc fh fe q rfl (.bl _)
/-- of any plain data, looked at where it stands -/
def deq (d e : D) : Option Bool := if d.plain = true ∧ e.plain = true ∧ d.depth ≤ 62 then some (PyData.eqv d e) else none
theorem os_eqD {g : α → D} {h : β → D} : OpS K fd (rEqP K false) .pk .pk g h P (fun x y => (Run.lift (deq (g x) (h y)) : m Bool)) md eB := fun F H v1 v2 x y Q _ fh fe r1 r2 q => by
  obtain ⟨z, e, q⟩ := rlift q
  obtain ⟨⟨h1, h2, h3⟩, rfl⟩ := some_if e
  exact ⟨g x, h y, Rp.mono hid_sub r1, Rp.mono hid_sub r2, h1, h2, by omega, Post.sc fh fe q rfl (.bl _)⟩
theorem os_neD {g : α → D} {h : β → D} : OpS K fd (rEqP K true) .pk .pk g h P (fun x y => (Run.lift ((deq (g x) (h y)).map (!·)) : m Bool)) md eB := fun F H v1 v2 x y Q _ fh fe r1 r2 q => by
  obtain ⟨z, e, q⟩ := rlift q
  obtain ⟨w, e2, rfl⟩ := Option.map_eq_some_iff.mp e
  obtain ⟨⟨h1, h2, h3⟩, rfl⟩ := some_if e2
  exact ⟨g x, h y, Rp.mono hid_sub r1, Rp.mono hid_sub r2, h1, h2, by omega, Post.sc fh fe q rfl (.bl _)⟩
end
section
variable {X : Cx}
theorem op_inP (hu : X.A.units + 64 < cLine) : OpR X (compareOp .In) (rInP X.K false) := by
  intro pins s σ H x y v u Q I rx ry h
  obtain ⟨d, ds, hd, he, sd, se, d1, d2, q⟩ := h
  obtain ⟨as, r1⟩ := Rp.reads I d x v sd hd rx
  rcases he with he | he
  · obtain ⟨bs, r2⟩ := Rp.reads I (.list ds) y u se he ry
    exact SeqAt.in_list_data r2 r1 se sd (by omega) ⟨.bl _, H, I, rfl, q⟩
  · obtain ⟨bs, r2⟩ := Rp.reads I (.tuple ds) y u se he ry
    exact SeqAt.in_tuple_data r2 r1 se sd (by omega) ⟨.bl _, H, I, rfl, q⟩
theorem op_notInP (hu : X.A.units + 64 < cLine) : OpR X (compareOp .NotIn) (rInP X.K true) := by
  intro pins s σ H x y v u Q I rx ry h
  obtain ⟨d, ds, hd, he, sd, se, d1, d2, q⟩ := h
  obtain ⟨as, r1⟩ := Rp.reads I d x v sd hd rx
  rcases he with he | he
  · obtain ⟨bs, r2⟩ := Rp.reads I (.list ds) y u se he ry
    exact SeqAt.notIn_list_data r2 r1 se sd (by omega) ⟨.bl _, H, I, rfl, q⟩
  · obtain ⟨bs, r2⟩ := Rp.reads I (.tuple ds) y u se he ry
    exact SeqAt.notIn_tuple_data r2 r1 se sd (by omega) ⟨.bl _, H, I, rfl, q⟩
end
theorem any_eqv [BEq α] {g : α → D} {k : Nat} [h : Eqv g k] (x : α) : ∀ xs : List α, (xs.map g).any (fun e => PyData.eqv e (g x)) = xs.any (fun y => y == x)
  | [] => rfl
  | y :: ys => by rw [List.map_cons, List.any_cons, List.any_cons, h.eqv, any_eqv x ys]
/-- x in xs -/
def lin [BEq α] (x : α) (xs : List α) : Bool := xs.any fun y => y == x
theorem os_in [BEq α] {g : α → D} {k : Nat} [h : Eqv g k] (hk : decide (k ≤ 62) = true) : OpS K fd (rInP K false) .pk .pk g (eL g) (fun _ _ => True) (fun x y => (pure (lin x y) : m Bool)) md eB := fun F H v1 v2 x y Q _ fh fe r1 r2 q => by
  have hk := of_decide_eq_true hk
  have h1 := h.depth x
  have h2 := depthAll_map h.depth y
  refine ⟨g x, y.map g, Rp.mono hid_sub r1, .inl (Rp.mono hid_sub r2), h.plain x, plainAll_map h.plain y, by omega, by omega, ?_⟩
  show Q (.bl ((y.map g).any fun e => PyData.eqv e (g x))) H
  rw [any_eqv]
  have q := rpure q
  exact Post.sc fh fe q rfl (.bl _)
theorem os_notin [BEq α] {g : α → D} {k : Nat} [h : Eqv g k] (hk : decide (k ≤ 62) = true) : OpS K fd (rInP K true) .pk .pk g (eL g) (fun _ _ => True) (fun x y => (pure (!lin x y) : m Bool)) md eB := fun F H v1 v2 x y Q _ fh fe r1 r2 q => by
  have hk := of_decide_eq_true hk
  have h1 := h.depth x
  have h2 := depthAll_map h.depth y
  refine ⟨g x, y.map g, Rp.mono hid_sub r1, .inl (Rp.mono hid_sub r2), h.plain x, plainAll_map h.plain y, by omega, by omega, ?_⟩
  show Q (.bl (!(y.map g).any fun e => PyData.eqv e (g x))) H
  rw [any_eqv]
  have q := rpure q
  exact Post.sc fh fe q rfl (.bl _)
theorem os_inT [BEq α] {g : α → D} {k : Nat} [h : Eqv g k] (hk : decide (k ≤ 62) = true) : OpS K fd (rInP K false) .pk .pk g (eT g) (fun _ _ => True) (fun x y => (pure (lin x y) : m Bool)) md eB := fun F H v1 v2 x y Q _ fh fe r1 r2 q => by
  have hk := of_decide_eq_true hk
  have h1 := h.depth x
  have h2 := depthAll_map h.depth y
  refine ⟨g x, y.map g, Rp.mono hid_sub r1, .inr (Rp.mono hid_sub r2), h.plain x, plainAll_map h.plain y, by omega, by omega, ?_⟩
  show Q (.bl ((y.map g).any fun e => PyData.eqv e (g x))) H
  rw [any_eqv]
  have q := rpure q
  exact Post.sc fh fe q rfl (.bl _)
theorem os_notinT [BEq α] {g : α → D} {k : Nat} [h : Eqv g k] (hk : decide (k ≤ 62) = true) : OpS K fd (rInP K true) .pk .pk g (eT g) (fun _ _ => True) (fun x y => (pure (!lin x y) : m Bool)) md eB := fun F H v1 v2 x y Q _ fh fe r1 r2 q => by
  have hk := of_decide_eq_true hk
  have h1 := h.depth x
  have h2 := depthAll_map h.depth y
  refine ⟨g x, y.map g, Rp.mono hid_sub r1, .inr (Rp.mono hid_sub r2), h.plain x, plainAll_map h.plain y, by omega, by omega, ?_⟩
  show Q (.bl (!(y.map g).any fun e => PyData.eqv e (g x))) H
  rw [any_eqv]
  have q := rpure q
  exact Post.sc fh fe q rfl (.bl _)
/-! ### lists -/
/-- what is new: a list of things that stay, at a new place -/
theorem Post.newL {F H : Hp} {d : List D} {vs : List V} {Q : VK} {p : Addr} (hm : md = .pk ∨ md = .ow 0 ∨ md = .ow 1) (fh : Sub F (hid fd H)) (fe : FeedOk K fd F H) (h : Post K fd md F H (.list d) Q) (r : RpAll K F vs d) (hl : d.length ≤ sizeLine) (np : H p = none) :
    Q (.ref p) (upd H p (.lst vs)) := by
  have A := Step.allocF (K := K) (o := .lst vs) fh fe np
  rcases hm with rfl | rfl | rfl
  · exact h _ _ _ A ((Rp.lst (by exact upd_same) (r.mono A.ff) hl).mono A.fh)
  · exact h _ _ _ [] A (.z (.lst upd_same (r.mono A.ff) hl)) .nil
  · exact h _ F _ [(p, .lst vs)] (Step.alloc fh fe np) (.lst (OwnAll.zero r) hl) ⟨by simp, fun c hc => by
      have : c = (p, .lst vs) := by simpa using hc
      subst this
      exact ⟨upd_same, (fh.trans hid_sub).none np, np⟩⟩
end
end DL
namespace DL
open PySem PySem.Spec PyProof.Rows L2
def NewL (md : Md) : Prop := md = .pk ∨ md = .ow 0 ∨ md = .ow 1
theorem nlP : NewL .pk := .inl rfl
theorem nl0 : NewL (.ow 0) := .inr (.inl rfl)
theorem nl1 : NewL (.ow 1) := .inr (.inr rfl)
def lcat {α : Type} (xs ys : List α) : Option (List α) := if xs.length + ys.length ≤ 16777216 then some (xs ++ ys) else none
def lrep {α : Type} (xs : List α) (k : Int) : Option (List α) := if -9223372036854775808 ≤ k ∧ k < 9223372036854775808 ∧ xs.length * k.toNat ≤ 16777216 then some (List.replicate k.toNat xs).flatten else none
def lcut {α : Type} (xs : List α) (lo hi : Option Int) : List α := (xs.drop (HT.sIx xs.length 0 lo)).take (HT.sIx xs.length xs.length hi - HT.sIx xs.length 0 lo)
section
variable {m : Type → Type} [Run m] {α β γ : Type} {K : PySem.W.Frag} {fd : Option Addr} {md : Md} {g : α → D}
theorem sl16 : sizeLine = 16777216 := rfl
theorem map_rep {g : α → D} (xs : List α) (n : Nat) : ((List.replicate n xs).flatten).map g = (List.replicate n (xs.map g)).flatten := by
  induction n with
  | zero => rfl
  | succ n ih => rw [List.replicate_succ, List.replicate_succ, List.flatten_cons, List.flatten_cons, List.map_append, ih]
theorem RpAll.rep {F : Hp} {vs : List V} {ds : List D} (h : RpAll K F vs ds) (n : Nat) : RpAll K F (List.replicate n vs).flatten (List.replicate n ds).flatten := by
  induction n with
  | zero => exact .nil
  | succ n ih => rw [List.replicate_succ, List.replicate_succ, List.flatten_cons, List.flatten_cons]; exact h.append ih
theorem os_cat (hm : NewL md) : OpS K fd rCat .sh .sh (eL g) (eL g) (fun _ _ => True) (fun x y => (Run.lift (lcat x y) : m (List α))) md (eL g) := fun F H v1 v2 x y Q _ fh fe r1 r2 q => by
  obtain ⟨z, e, q⟩ := rlift q
  obtain ⟨hz, rfl⟩ := some_if e
  obtain ⟨p1, w1, d1, rfl, e1, h1, a1, l1⟩ := r1
  obtain ⟨p2, w2, d2, rfl, e2, h2, a2, l2⟩ := r2
  injection e1 with e1
  injection e2 with e2
  subst e1 e2
  refine ⟨p1, p2, w1, w2, rfl, rfl, hid_sub _ _ h1, hid_sub _ _ h2, ?_, fun p np => ?_⟩
  · rw [a1.length, a2.length, List.length_map, List.length_map]; exact hz
  · have q : Post K fd md F H (.list ((x ++ y).map g)) Q := q
    rw [List.map_append] at q
    exact Post.newL hm fh fe q (a1.append a2) (by rw [List.length_append, List.length_map, List.length_map]; exact hz) np
theorem os_rep (hm : NewL md) : OpS K fd rRep .sh .pk (eL g) eI (fun _ _ => True) (fun x y => (Run.lift (lrep x y) : m (List α))) md (eL g) := fun F H v1 v2 x y Q _ fh fe r1 r2 q => by
  obtain ⟨z, e, q⟩ := rlift q
  obtain ⟨⟨hz1, hz2, hz⟩, rfl⟩ := some_if e
  obtain ⟨p1, w1, d1, rfl, e1, h1, a1, l1⟩ := r1
  cases r2
  injection e1 with e1
  subst e1
  refine ⟨p1, y, w1, rfl, rfl, hid_sub _ _ h1, hz1, hz2, ?_, fun p np => ?_⟩
  · rw [a1.length, List.length_map]; exact hz
  · have q : Post K fd md F H (.list (((List.replicate y.toNat x).flatten).map g)) Q := q
    rw [map_rep] at q
    refine Post.newL hm fh fe q (a1.rep _) ?_ np
    rw [PyProof.Rows.lm_len_rep_flat, List.length_map, Nat.mul_comm]; exact hz
theorem atI_map {α β : Type} {f : α → β} {xs : List α} {i : Int} : atI (xs.map f) i = (atI xs i).map f := by
  unfold atI
  rw [List.length_map]
  cases ixN xs.length i with
  | none => rfl
  | some j => show (xs.map f)[j]? = (xs[j]?).map f; rw [List.getElem?_map]
theorem RpAll.atI {F : Hp} {vs : List V} {ds : List D} (h : RpAll K F vs ds) {i : Int} {d : D} (e : atI ds i = some d) : ∃ v, atI vs i = some v ∧ Rp K F v d := by
  unfold L2.atI at e ⊢
  rw [h.length]
  cases hq : ixN ds.length i with
  | none => rw [hq] at e; cases e
  | some j => rw [hq] at e; exact h.get e
/-- an item of a list: it stays -/
theorem os_ixL : OpS K fd (rIxL K) .sh .pk (eL g) eI (fun _ _ => True) (fun x y => (Run.lift (atI x y) : m α)) (.ow 0) g := fun F H v1 v2 x y Q _ fh fe r1 r2 q => by
  obtain ⟨z, e, q⟩ := rlift q
  obtain ⟨p1, w1, d1, rfl, e1, h1, a1, l1⟩ := r1
  cases r2
  injection e1 with e1
  subst e1
  obtain ⟨v, ev, rv⟩ := a1.atI (d := g z) (by rw [atI_map, e]; rfl)
  exact ⟨p1, w1, y, v, rfl, rfl, SqL.of (hid_sub _ _ h1), ev, Post.fr (.refl fh fe) q rv⟩
/-- .. looked at -/
theorem os_ixLP : OpS K fd (rIxL K) .pk .pk (eL g) eI (fun _ _ => True) (fun x y => (Run.lift (atI x y) : m α)) .pk g := fun F H v1 v2 x y Q _ fh fe r1 r2 q => by
  obtain ⟨z, e, q⟩ := rlift q
  cases r2
  cases r1 with
  | lst h1 a1 l1 =>
    obtain ⟨v, ev, rv⟩ := a1.atI (d := g z) (by rw [atI_map, e]; rfl)
    exact ⟨_, _, y, v, rfl, rfl, SqL.of (hid_sub _ _ h1), ev, q v F H (.refl fh fe) rv⟩
theorem os_ixT : OpS K fd (rIxT K) .fr .pk (eT g) eI (fun _ _ => True) (fun x y => (Run.lift (atI x y) : m α)) (.ow 0) g := fun F H v1 v2 x y Q _ fh fe r1 r2 q => by
  obtain ⟨z, e, q⟩ := rlift q
  cases r2
  cases r1 with
  | tup h1 a1 l1 =>
    obtain ⟨v, ev, rv⟩ := a1.atI (d := g z) (by rw [atI_map, e]; rfl)
    exact ⟨_, _, y, v, rfl, rfl, (fh.trans hid_sub).sqt h1, ev, Post.fr (.refl fh fe) q rv⟩
end
section
variable {m : Type → Type} [Run m] {α β γ : Type} {X : Cx} {b : Bs} {sl : Sls} {e e1 e2 : Expr} {md : Md} {c : m α} {g : α → D} {c1 : m β} {g1 : β → D} {pos : Pos} {am am2 : Am} {h : γ → D}
/-! ### slices -/
def tAO (K : PySem.W.Frag) (b : Bs) (sl : Sls) (c : m (Option Int)) : TO := fun σ H Q => ∃ F, Rel K b sl F H σ ∧ Run.run c (fun x => ∀ F' H', Step K b.fd F H F' H' → Q x H')
theorem PO.imp {e : Option Expr} {t t' : TO} (h : PO X e t) (k : ∀ σ H Q, t' σ H Q → t σ H Q) : PO X e t' := ⟨fun pins s σ H Q I q => h.run pins s σ H Q I (k σ H Q q)⟩
theorem po_no : PO X none (tAO X.K b sl (pure none : m (Option Int))) := PO.imp po_none fun σ H Q ⟨F, R, q⟩ => by
  have q := rpure q
  exact q F H (.refl R.sub R.fe)
theorem po_yes {c : m Int} (h : DA X b sl e .pk c eI) : PO X (some e) (tAO X.K b sl (c >>= fun i => pure (some i))) := PO.imp (po_some h) fun σ H Q ⟨F, R, q⟩ => ⟨F, R, rmono (rbind q) fun x p v F' H' S r => by
  have p := rpure p
  cases r
  exact ⟨x, rfl, p F' H' S⟩⟩
theorem po_yesT {i : Int} (h : DA X b sl e .pk (pure i : m Int) eI) : PO X (some e) (tAO X.K b sl (pure (some i) : m (Option Int))) := PO.imp (po_some h) fun σ H Q ⟨F, R, q⟩ => ⟨F, R, by
  have q := rpure q
  refine rpure' fun v F' H' S r => ?_
  cases r
  exact ⟨i, rfl, q F' H' S⟩⟩
theorem map_cut {xs : List α} {lo hi : Option Int} : (lcut xs lo hi).map g = lcut (xs.map g) lo hi := by unfold lcut; rw [List.map_take, List.map_drop, List.length_map]
theorem RpAll.cut {K : PySem.W.Frag} {F : Hp} {vs : List V} {ds : List D} (h : RpAll K F vs ds) (lo hi : Option Int) : RpAll K F (cutV vs lo hi) (lcut ds lo hi) := by
  unfold cutV lcut
  rw [h.length]
  exact (h.drop _).take _
theorem lcut_le {xs : List α} {lo hi : Option Int} : (lcut xs lo hi).length ≤ xs.length := by unfold lcut; rw [List.length_take, List.length_drop]; omega
theorem dm_slice {lo hi : Option Expr} {c : m (List α)} {cl ch : m (Option Int)} {p2 : Pos} (hm : NewL md) (he : DA X b sl e .sh c (eL g)) (hl : PO X lo (tAO X.K b sl cl)) (hh : PO X hi (tAO X.K b sl ch)) :
    DM X b sl (.Subscript e (.Slice lo hi none p2) pos) md (c >>= fun x => cl >>= fun l => ch >>= fun h => pure (lcut x l h)) (eL g) := PE.imp (pe_slice sl_list he hl hh) fun σ H Q ⟨F, R, q⟩ => ⟨F, R, rmono (rbind q) fun x p v F1 H1 S1 r1 =>
  ⟨F1, R.step S1, rmono (rbind p) fun l p F2 H2 S2 => ⟨F2, (R.step S1).step S2, rmono (rbind p) fun h p F3 H3 S3 => by
    have p := rpure p
    have S23 := S2.trans (R.step S1).fe S3
    have R3 := (R.step S1).step S23
    obtain ⟨p1, w1, d1, rfl, e1, h1, a1, l1⟩ := r1.step S23
    injection e1 with e1
    subst e1
    refine ⟨p1, w1, rfl, SqL.of (hid_sub _ _ h1), fun p' np => ?_⟩
    have p : Post X.K b.fd md F H (.list ((lcut x l h).map g)) Q := p
    rw [map_cut] at p
    exact Post.newL hm R3.sub R3.fe (p.back R.fe (S1.trans R.fe S23)) (a1.cut l h) (Nat.le_trans lcut_le l1) np⟩⟩⟩
theorem dm_rev {c : m (List α)} {k : Nat} {p1 p2 p3 : Pos} (hm : NewL md) (he : DA X b sl e .sh c (eL g)) : DM X b sl (.Subscript e (.Slice none none (some (.UnaryOp .USub (.Constant (.int 1) k p1) p2)) p3) pos) md (c >>= fun x => pure x.reverse) (eL g) :=
  PE.imp (pe_revL he) fun σ H Q ⟨F, R, q⟩ => ⟨F, R, rmono (rbind q) fun x p v F1 H1 S1 r1 => by
    have p := rpure p
    have R1 := R.step S1
    obtain ⟨p1, w1, d1, rfl, e1, h1, a1, l1⟩ := r1
    injection e1 with e1
    subst e1
    refine ⟨p1, w1, rfl, SqL.of (hid_sub _ _ h1), fun p' np => ?_⟩
    have p : Post X.K b.fd md F H (.list (x.reverse.map g)) Q := p
    rw [List.map_reverse] at p
    exact Post.newL hm R1.sub R1.fe (p.back R.fe S1) a1.reverse (by rw [List.length_reverse]; exact l1) np⟩
/-! ### calls of built-ins -/
def OpS1 (K : PySem.W.Frag) (fd : Option Addr) (r : List V → Hp → VK → Prop) (a1 : Am) (ga : α → D) (k : α → m γ) (md : Md) (h : γ → D) : Prop :=
  ∀ F H v1 x Q, Sub F (hid fd H) → FeedOk K fd F H → ArgOk K fd F H a1 v1 (ga x) → Run.run (k x) (fun z => Post K fd md F H (h z) Q) → r [v1] H Q
def OpS2 (K : PySem.W.Frag) (fd : Option Addr) (r : List V → Hp → VK → Prop) (a1 a2 : Am) (ga : α → D) (gb : β → D) (k : α → β → m γ) (md : Md) (h : γ → D) : Prop :=
  ∀ F H v1 v2 x y Q, Sub F (hid fd H) → FeedOk K fd F H → ArgOk K fd F H a1 v1 (ga x) → ArgOk K fd F H a2 v2 (gb y) → Run.run (k x y) (fun z => Post K fd md F H (h z) Q) → r [v1, v2] H Q
theorem tD_c1 {r : List V → Hp → VK → Prop} {k : α → m γ} (hr : OpS1 X.K b.fd r am g k md h) {σ : L2.St} {H : Hp} {Q : VK} (q : tD X.K b sl md (c >>= k) h σ H Q) : tCB r (tCons (tA X.K b sl am c g) tNil) σ H Q := by
  obtain ⟨F, R, q⟩ := q
  refine ⟨F, R, rmono (rbind q) fun x q v1 F1 H1 S1 r1 => ?_⟩
  have R1 := R.step S1
  exact hr F1 H1 v1 x Q R1.sub R1.fe r1 (rmono q fun z p => p.back R.fe S1)
theorem tD_c2 {r : List V → Hp → VK → Prop} {k : α → β → m γ} (hr : OpS2 X.K b.fd r am am2 g g1 k md h) {σ : L2.St} {H : Hp} {Q : VK} (q : tD X.K b sl md (c >>= fun x => c1 >>= fun y => k x y) h σ H Q) : tCB r (tCons (tA X.K b sl am c g) (tCons (tA X.K b sl am2 c1 g1) tNil)) σ H Q := by
  obtain ⟨F, R, q⟩ := q
  refine ⟨F, R, rmono (rbind q) fun x q v1 F1 H1 S1 r1 => ?_⟩
  have R1 := R.step S1
  refine ⟨F1, R1, rmono (rbind q) fun y q v2 F2 H2 S2 r2 => ?_⟩
  have R2 := R1.step S2
  exact hr F2 H2 v1 v2 x y Q R2.sub R2.fe (r1.step S2) r2 (rmono q fun z p => p.back R.fe (S1.trans R.fe S2))
variable {x : Str} {p : Pos} {id T : String} {r : List V → Hp → VK → Prop}
theorem dm_cB {k : α → m γ} (hc : CallR X (.builtin id) r) (hr : OpS1 X.K b.fd r am g k md h) (hm : X.mg x = none) (hv : bootBuiltins x = some (.builtin id)) (ha : DA X b sl e am c g) (hg : Gl X x := by rfl) (hn : x ≠ "__name__" := by decide) (hdb : (x == ("__debug__" : Str)) = false := by decide)
    (hs : starEach [e] X.env = (false, eval e X.env) :: starEach [] X.env := by rfl) :
    DM X b sl (.Call (.Name x p) [e] [] pos) md (c >>= k) h := PE.imp (pe_callB hc hg hm hv (pa_cons ha pa_nil hs) hn hdb hs) fun _ _ _ q => tD_c1 hr q
theorem dm_cT {k : α → m γ} (hc : CallR X (.type T) r) (hr : OpS1 X.K b.fd r am g k md h) (hm : X.mg x = none) (hv : bootBuiltins x = some (.type T)) (ha : DA X b sl e am c g) (hg : Gl X x := by rfl) (hn : x ≠ "__name__" := by decide) (hdb : (x == ("__debug__" : Str)) = false := by decide)
    (hs : starEach [e] X.env = (false, eval e X.env) :: starEach [] X.env := by rfl) :
    DM X b sl (.Call (.Name x p) [e] [] pos) md (c >>= k) h := PE.imp (pe_callTy hc hg hm hv (pa_cons ha pa_nil hs) hn hdb hs) fun _ _ _ q => tD_c1 hr q
theorem dm_cB2 {k : α → β → m γ} (hc : CallR X (.builtin id) r) (hr : OpS2 X.K b.fd r am am2 g g1 k md h) (hm : X.mg x = none) (hv : bootBuiltins x = some (.builtin id)) (ha : DA X b sl e1 am c g) (hb : DA X b sl e2 am2 c1 g1) (hg : Gl X x := by rfl) (hn : x ≠ "__name__" := by decide) (hdb : (x == ("__debug__" : Str)) = false := by decide)
    (hs : starEach [e1, e2] X.env = (false, eval e1 X.env) :: starEach [e2] X.env := by rfl) (hs2 : starEach [e2] X.env = (false, eval e2 X.env) :: starEach [] X.env := by rfl) (hpl : (backTo pos (starEach [e2] X.env)).any (·.1) = false := by rfl) :
    DM X b sl (.Call (.Name x p) [e1, e2] [] pos) md (c >>= fun x => c1 >>= fun y => k x y) h := PE.imp (pe_callB hc hg hm hv (pa_cons ha (pa_cons hb pa_nil hs2) hs) hn hdb hs hpl) fun _ _ _ q => tD_c2 hr q
end
section
variable {m : Type → Type} [Run m] {α β γ : Type} {K : PySem.W.Frag} {fd : Option Addr} {md : Md} {g : α → D}
abbrev rLen (K : PySem.W.Frag) : List V → Hp → VK → Prop := fun xs H Q => ∃ p ys, xs = [.ref p] ∧ (SqL K H p ys ∨ SqT K H p ys) ∧ Q (.int ys.length) H
theorem os_len : OpS1 K fd (rLen K) .pk (eL g) (fun x => (pure (x.length : Int) : m Int)) md eI := fun F H v1 x Q fh fe r1 q => by
  have q := rpure q
  cases r1 with
  | lst h1 a1 l1 =>
    refine ⟨_, _, rfl, .inl (SqL.of (hid_sub _ _ h1)), ?_⟩
    rw [a1.length, List.length_map]
    exact Post.sc fh fe q rfl (.int _)
theorem os_lenT : OpS1 K fd (rLen K) .pk (eT g) (fun x => (pure (x.length : Int) : m Int)) md eI := fun F H v1 x Q fh fe r1 q => by
  have q := rpure q
  cases r1 with
  | tup h1 a1 l1 =>
    refine ⟨_, _, rfl, .inr (hid_sub.sqt h1), ?_⟩
    rw [a1.length, List.length_map]
    exact Post.sc fh fe q rfl (.int _)
abbrev rLenS : List V → Hp → VK → Prop := fun xs H Q => ∃ z, xs = [.str z] ∧ z.length ≤ sizeLine ∧ Q (.int z.length) H
def slen (z : Str) : Option Int := if z.length ≤ 16777216 then some z.length else none
theorem os_lenS : OpS1 K fd rLenS .pk eS (fun x => (Run.lift (slen x) : m Int)) md eI := fun F H v1 x Q fh fe r1 q => by
  obtain ⟨z, e, q⟩ := rlift q
  obtain ⟨hz, rfl⟩ := some_if e
  cases r1
  exact ⟨x, rfl, hz, Post.sc fh fe q rfl (.int _)⟩
abbrev rListOf (K : PySem.W.Frag) : List V → Hp → VK → Prop := fun xs H Q => ∃ p ys, xs = [.ref p] ∧ (SqL K H p ys ∨ SqT K H p ys) ∧ ∀ l, H l = none → Q (.ref l) (upd H l (.lst ys))
theorem os_listOf (hm : NewL md) : OpS1 K fd (rListOf K) .sh (eL g) (fun x => (pure x : m (List α))) md (eL g) := fun F H v1 x Q fh fe r1 q => by
  have q := rpure q
  obtain ⟨p1, w1, d1, rfl, e1, h1, a1, l1⟩ := r1
  injection e1 with e1
  subst e1
  exact ⟨p1, w1, rfl, .inl (SqL.of (hid_sub _ _ h1)), fun p np => Post.newL hm fh fe q a1 l1 np⟩
theorem os_listOfT (hm : NewL md) : OpS1 K fd (rListOf K) .fr (eT g) (fun x => (pure x : m (List α))) md (eL g) := fun F H v1 x Q fh fe r1 q => by
  have q := rpure q
  cases r1 with
  | tup h1 a1 l1 => exact ⟨_, _, rfl, .inr ((fh.trans hid_sub).sqt h1), fun p np => Post.newL hm fh fe q a1 l1 np⟩
theorem os_sum : OpS1 K fd (rSum K) .pk (eL eI) (fun x => (pure x.sum : m Int)) md eI := fun F H v1 x Q fh fe r1 q => by
  have q := rpure q
  cases r1 with
  | lst h1 a1 l1 =>
    have e := RpAll.ints (ns := x) a1
    subst e
    exact ⟨_, x, rfl, SqL.of (hid_sub _ _ h1), Post.sc fh fe q rfl (.int _)⟩
def lmax : List Int → Option Int
  | [] => none
  | x :: xs => some (xs.foldl (fun a c => if a < c then c else a) x)
def lmin : List Int → Option Int
  | [] => none
  | x :: xs => some (xs.foldl (fun a c => if c < a then c else a) x)
theorem foldl_max : ∀ (xs : List Int) (x : Int), x ≤ xs.foldl (fun a c => if a < c then c else a) x ∧ (∀ y ∈ xs, y ≤ xs.foldl (fun a c => if a < c then c else a) x) ∧ (xs.foldl (fun a c => if a < c then c else a) x = x ∨ xs.foldl (fun a c => if a < c then c else a) x ∈ xs)
  | [], x => ⟨Int.le_refl _, (fun _ h => nomatch h), .inl rfl⟩
  | y :: xs, x => by
    obtain ⟨h1, h2, h3⟩ := foldl_max xs (if x < y then y else x)
    rw [List.foldl_cons]
    generalize xs.foldl (fun a c => if a < c then c else a) (if x < y then y else x) = M at h1 h2 h3 ⊢
    refine ⟨?_, fun z hz => ?_, ?_⟩
    · split at h1 <;> omega
    · rcases List.mem_cons.mp hz with rfl | hz
      · split at h1 <;> omega
      · exact h2 z hz
    · rcases h3 with h3 | h3
      · rw [h3]; split
        · exact .inr (by simp)
        · exact .inl rfl
      · exact .inr (List.mem_cons_of_mem _ h3)
theorem foldl_min : ∀ (xs : List Int) (x : Int), xs.foldl (fun a c => if c < a then c else a) x ≤ x ∧ (∀ y ∈ xs, xs.foldl (fun a c => if c < a then c else a) x ≤ y) ∧ (xs.foldl (fun a c => if c < a then c else a) x = x ∨ xs.foldl (fun a c => if c < a then c else a) x ∈ xs)
  | [], x => ⟨Int.le_refl _, (fun _ h => nomatch h), .inl rfl⟩
  | y :: xs, x => by
    obtain ⟨h1, h2, h3⟩ := foldl_min xs (if y < x then y else x)
    rw [List.foldl_cons]
    generalize xs.foldl (fun a c => if c < a then c else a) (if y < x then y else x) = M at h1 h2 h3 ⊢
    refine ⟨?_, fun z hz => ?_, ?_⟩
    · split at h1 <;> omega
    · rcases List.mem_cons.mp hz with rfl | hz
      · split at h1 <;> omega
      · exact h2 z hz
    · rcases h3 with h3 | h3
      · rw [h3]; split
        · exact .inr (by simp)
        · exact .inl rfl
      · exact .inr (List.mem_cons_of_mem _ h3)
theorem os_max : OpS1 K fd (rMax K) .pk (eL eI) (fun x => (Run.lift (lmax x) : m Int)) md eI := fun F H v1 x Q fh fe r1 q => by
  obtain ⟨z, e, q⟩ := rlift q
  cases x with
  | nil => cases e
  | cons y ys =>
    cases e
    obtain ⟨k1, k2, k3⟩ := foldl_max ys y
    cases r1 with
    | lst h1 a1 l1 =>
      have e := RpAll.ints (ns := y :: ys) a1
      subst e
      refine ⟨_, y :: ys, rfl, SqL.of (hid_sub _ _ h1), by simp, fun z hz hle => ?_⟩
      have : z = ys.foldl (fun a c => if a < c then c else a) y := by
        have g1 : ys.foldl (fun a c => if a < c then c else a) y ≤ z := by
          rcases k3 with k3 | k3
          · rw [k3]; exact hle y (by simp)
          · exact hle _ (List.mem_cons_of_mem _ k3)
        have g2 : z ≤ ys.foldl (fun a c => if a < c then c else a) y := by
          rcases List.mem_cons.mp hz with rfl | hz
          · exact k1
          · exact k2 z hz
        omega
      subst this
      exact Post.sc fh fe q rfl (.int _)
theorem os_min : OpS1 K fd (rMin K) .pk (eL eI) (fun x => (Run.lift (lmin x) : m Int)) md eI := fun F H v1 x Q fh fe r1 q => by
  obtain ⟨z, e, q⟩ := rlift q
  cases x with
  | nil => cases e
  | cons y ys =>
    cases e
    obtain ⟨k1, k2, k3⟩ := foldl_min ys y
    cases r1 with
    | lst h1 a1 l1 =>
      have e := RpAll.ints (ns := y :: ys) a1
      subst e
      refine ⟨_, y :: ys, rfl, SqL.of (hid_sub _ _ h1), by simp, fun z hz hle => ?_⟩
      have : z = ys.foldl (fun a c => if c < a then c else a) y := by
        have g1 : z ≤ ys.foldl (fun a c => if c < a then c else a) y := by
          rcases k3 with k3 | k3
          · rw [k3]; exact hle y (by simp)
          · exact hle _ (List.mem_cons_of_mem _ k3)
        have g2 : ys.foldl (fun a c => if c < a then c else a) y ≤ z := by
          rcases List.mem_cons.mp hz with rfl | hz
          · exact k1
          · exact k2 z hz
        omega
      subst this
      exact Post.sc fh fe q rfl (.int _)
abbrev rAbs : List V → Hp → VK → Prop := fun xs H Q => ∃ i, xs = [.int i] ∧ Q (.int (if i < 0 then -i else i)) H
def iabs (i : Int) : Int := if i < 0 then -i else i
theorem os_abs : OpS1 K fd rAbs .pk eI (fun x => (pure (iabs x) : m Int)) md eI := fun F H v1 x Q fh fe r1 q => by
  have q := rpure q
  cases r1
  exact ⟨x, rfl, Post.sc fh fe q rfl (.int _)⟩
abbrev rInt1 : List V → Hp → VK → Prop := fun xs H Q => (∃ i, xs = [.int i] ∧ Q (.int i) H) ∨ ∃ k, xs = [.bl k] ∧ Q (.int (if k then 1 else 0)) H
theorem os_int : OpS1 K fd rInt1 .pk eI (fun x => (pure x : m Int)) md eI := fun F H v1 x Q fh fe r1 q => by
  have q := rpure q
  cases r1
  exact .inl ⟨x, rfl, Post.sc fh fe q rfl (.int _)⟩
def b2n (k : Bool) : Int := if k then 1 else 0
theorem os_intB : OpS1 K fd rInt1 .pk eB (fun x => (pure (b2n x) : m Int)) md eI := fun F H v1 x Q fh fe r1 q => by
  have q := rpure q
  cases r1
  exact .inr ⟨x, rfl, Post.sc fh fe q rfl (.int _)⟩
def lsort (xs : List Int) : List Int := xs.mergeSort (fun a c => decide (a ≤ c))
theorem lsort_eq {xs ys : List Int} (h1 : ys.Perm xs) (h2 : ys.Pairwise (· ≤ ·)) : ys = lsort xs := by
  have k1 : (lsort xs).Perm xs := List.mergeSort_perm _ _
  have k2 : (lsort xs).Pairwise (fun a c => decide (a ≤ c) = true) := List.pairwise_mergeSort (fun a c d h k => by
    have := of_decide_eq_true h
    have := of_decide_eq_true k
    exact decide_eq_true (by omega)) (fun a c => by
    by_cases h : a ≤ c
    · simp [h]
    · have : c ≤ a := by omega
      simp [this]) _
  have k2' : (lsort xs).Pairwise (· ≤ ·) := k2.imp fun h => of_decide_eq_true h
  exact (h1.trans k1.symm).eq_of_pairwise (fun a c _ _ h k => Int.le_antisymm h k) h2 k2'
theorem os_sorted (hm : NewL md) : OpS1 K fd (rSortedI K) .pk (eL eI) (fun x => (pure (lsort x) : m (List Int))) md (eL eI) := fun F H v1 x Q fh fe r1 q => by
  have q := rpure q
  cases r1 with
  | lst h1 a1 l1 =>
    have e := RpAll.ints (ns := x) a1
    subst e
    refine ⟨_, x, rfl, SqL.of (hid_sub _ _ h1), fun ns' p pm pw np => ?_⟩
    have e := lsort_eq pm pw
    subst e
    refine Post.newL hm fh fe q (RpAll.ofInts (lsort x)) ?_ np
    rw [List.length_map, pm.length_eq, ← List.length_map (f := PyData.int)]; exact l1
end
end DL
namespace DL
open PySem PySem.Spec PyProof.Rows L2
theorem PA.imp {X : Cx} {e : List Expr} {t t' : TA} (h : PA X e t) (k : ∀ σ H Q, t' σ H Q → t σ H Q) : PA X e t' := ⟨fun p pins s σ H Q I q => h.run p pins s σ H Q I (k σ H Q q)⟩
theorem PA.ex {X : Cx} {e : List Expr} {α : Type} {t : α → TA} (h : ∀ x, PA X e (t x)) : PA X e (fun σ H Q => ∃ x, t x σ H Q) := ⟨fun p pins s σ H Q I ⟨x, q⟩ => (h x).run p pins s σ H Q I q⟩
section
variable {K : PySem.W.Frag} {fd : Option Addr}
theorem Holds.step {C : List Cell} {F H F1 H1 F2 H2 : Hp} (fe : FeedOk K fd F H) (S1 : Step K fd F H F1 H1) (h : Holds C F1 H1 H) (S : Step K fd F1 H1 F2 H2) : Holds C F2 H2 H := ⟨h.1, fun c hc => by
  obtain ⟨h1, h2, h3⟩ := h.2 c hc
  have nf : fd ≠ some c.1 := fun z => by
    obtain ⟨o, q⟩ := fe.some z
    rw [h3] at q; cases q
  have := S.hh c.1 c.2 (by rw [hid_ne nf]; exact h1)
  rw [hid_ne nf] at this
  exact ⟨this, S.st c.1 (by rw [h1]; simp) h2, h3⟩⟩
theorem Holds.append {C1 C2 : List Cell} {F H F1 H1 F2 H2 : Hp} (fe : FeedOk K fd F H) (S1 : Step K fd F H F1 H1) (h1 : Holds C1 F1 H1 H) (S : Step K fd F1 H1 F2 H2) (h2 : Holds C2 F2 H2 H1) : Holds (C1 ++ C2) F2 H2 H := by
  have k1 := h1.step fe S1 S
  refine ⟨?_, fun c hc => ?_⟩
  · rw [List.map_append, List.nodup_append]
    refine ⟨h1.1, h2.1, fun a ha b hb e => ?_⟩
    obtain ⟨c, hc, rfl⟩ := List.mem_map.mp ha
    obtain ⟨c', hc', rfl⟩ := List.mem_map.mp hb
    have q1 := (h1.2 c hc).1
    have q2 := (h2.2 c' hc').2.2
    rw [e] at q1
    rw [q1] at q2; cases q2
  · rcases List.mem_append.mp hc with hc | hc
    · exact k1.2 c hc
    · obtain ⟨a1, a2, a3⟩ := h2.2 c hc
      exact ⟨a1, a2, S1.fresh fe a3⟩
end
section
variable {m : Type → Type} [Run m] {α β γ : Type} {X : Cx} {b : Bs} {sl : Sls} {e e1 e2 e3 : Expr} {es : List Expr} {md : Md} {c : m α} {g : α → D} {c1 : m β} {g1 : β → D} {pos : Pos} {am am2 : Am} {h : γ → D}
/-! ### displays -/
def tLs (K : PySem.W.Frag) (b : Bs) (sl : Sls) (n k : Nat) (c : m (List α)) (g : α → D) : TA := fun σ H Q => ∃ F, Rel K b sl F H σ ∧ Run.run c (fun xs => ∀ vs F' H' C, Step K b.fd F H F' H' → OwnAll K F' n vs (xs.map g) C → Holds C F' H' H → vs.length = k → Q vs H')
theorem dl_nil {n : Nat} : PA X [] (tLs X.K b sl n 0 (pure [] : m (List α)) g) := PA.imp pa_nil fun σ H Q ⟨F, R, q⟩ => by
  have q := rpure q
  exact q [] F H [] (.refl R.sub R.fe) .nil .nil rfl
theorem dl_cons {n k : Nat} {c1 : m (List α)} (he : DM X b sl e (.ow n) c g) (hr : PA X es (tLs X.K b sl n k c1 g)) (hs : starEach (e :: es) X.env = (false, eval e X.env) :: starEach es X.env := by rfl) :
    PA X (e :: es) (tLs X.K b sl n (k + 1) (c >>= fun x => c1 >>= fun xs => pure (x :: xs)) g) := PA.imp (pa_cons he hr hs) fun σ H Q ⟨F, R, q⟩ => ⟨F, R, rmono (rbind q) fun x p v F1 H1 C1 S1 o1 h1 =>
  ⟨F1, R.step S1, rmono (rbind p) fun xs p vs F2 H2 C2 S2 o2 h2 l => by
    have p := rpure p
    exact p (v :: vs) F2 H2 (C1 ++ C2) (S1.trans R.fe S2) (.cons (o1.mono S2.ff) o2) (h1.append R.fe S1 S2 h2) (by simp [l])⟩⟩
/-- .. where nothing can fail -/
theorem dl_consT {n k : Nat} {x : α} {xs : List α} (he : DM X b sl e (.ow n) (pure x : m α) g) (hr : PA X es (tLs X.K b sl n k (pure xs : m (List α)) g)) (hs : starEach (e :: es) X.env = (false, eval e X.env) :: starEach es X.env := by rfl) :
    PA X (e :: es) (tLs X.K b sl n (k + 1) (pure (x :: xs) : m (List α)) g) := PA.imp (dl_cons he hr hs) fun σ H Q ⟨F, R, q⟩ => ⟨F, R, by
      rw [Run.pure_b, Run.pure_b]; exact q⟩
theorem dm_list {n k : Nat} {c : m (List α)} (h : PA X es (tLs X.K b sl n k c g)) (hk : decide (k ≤ 1000) = true := by rfl) : DM X b sl (.List es pos) (.ow (n + 1)) c (eL g) := PE.imp (pe_lst h) fun σ H Q ⟨F, R, q⟩ => ⟨F, R, rmono q fun xs p vs F1 H1 C1 S1 o1 h1 l => by
  have hk := of_decide_eq_true hk
  refine ⟨Nat.le_of_lt (small1000 (by omega)), fun p' np => ?_⟩
  have R1 := R.step S1
  have A := Step.alloc (K := X.K) (o := .lst vs) R1.sub R1.fe np
  refine p (.ref p') F1 _ ((p', .lst vs) :: C1) (S1.trans R.fe A) (.lst o1 (by rw [← o1.length]; exact Nat.le_of_lt (small1000 (by omega)))) ?_
  have k1 := h1.step R.fe S1 A
  refine ⟨?_, fun c hc => ?_⟩
  · rw [List.map_cons, List.nodup_cons]
    refine ⟨fun hm => ?_, h1.1⟩
    obtain ⟨c, hc, e⟩ := List.mem_map.mp hm
    have q := (h1.2 c hc).1
    rw [e, np] at q; cases q
  · rcases List.mem_cons.mp hc with rfl | hc
    · exact ⟨upd_same, (R1.sub.trans hid_sub).none np, S1.fresh R.fe np⟩
    · exact k1.2 c hc⟩
/-- a pair -/
theorem Own.tup2 {K : PySem.W.Frag} {F : Hp} {n : Nat} {v w : V} {d d' : D} {C C' : List Cell} (h1 : Own K F n v d C) (h2 : Own K F n w d' C') : OwnAll K F n [v, w] [d, d'] (C ++ C') := by
  have := OwnAll.cons h1 (.cons h2 .nil)
  rwa [List.append_nil] at this
theorem Post.tup {K : PySem.W.Frag} {fd : Option Addr} {F0 H0 F H : Hp} {n : Nat} {vs : List V} {ds : List D} {C : List Cell} {Q : VK} {p : Addr} (fe0 : FeedOk K fd F0 H0) (S1 : Step K fd F0 H0 F H) (q : Post K fd (.ow (n + 1)) F0 H0 (.tuple ds) Q) (o1 : OwnAll K F n vs ds C) (h1 : Holds C F H H0) (hl : vs.length ≤ 1000) (np : H p = none) : Q (.ref p) (upd H p (.tup vs)) := by
  have A := Step.alloc (K := K) (o := .tup vs) S1.fh S1.fe np
  refine q (.ref p) F _ ((p, .tup vs) :: C) (S1.trans fe0 A) (.tup o1 (by rw [← o1.length]; exact Nat.le_of_lt (small1000 hl))) ?_
  have k1 := h1.step fe0 S1 A
  refine ⟨?_, fun c hc => ?_⟩
  · rw [List.map_cons, List.nodup_cons]
    refine ⟨fun hm => ?_, h1.1⟩
    obtain ⟨c, hc, e⟩ := List.mem_map.mp hm
    have q := (h1.2 c hc).1
    rw [e, np] at q; cases q
  · rcases List.mem_cons.mp hc with rfl | hc
    · exact ⟨upd_same, (S1.fh.trans hid_sub).none np, S1.fresh fe0 np⟩
    · exact k1.2 c hc
theorem dm_tup2 {n : Nat} {x1} (h1 : DM X b sl e1 (.ow n) c g) (h2 : DM X b sl e2 (.ow n) c1 g1) (hs : starEach [e1, e2] X.env = (false, eval e1 X.env) :: starEach [e2] X.env := by rfl) (hs2 : starEach [e2] X.env = (false, eval e2 X.env) :: starEach [] X.env := by rfl) :
    DM X b sl (.Tuple [e1, e2] x1 pos) (.ow (n + 1)) (c >>= fun x => c1 >>= fun y => pure (x, y)) (eP g g1) := PE.imp (pe_tup (pa_cons h1 (pa_cons h2 pa_nil hs2) hs)) fun σ H Q ⟨F, R, q⟩ => ⟨F, R, rmono (rbind q) fun x p v F1 H1 C1 S1 o1 k1 =>
  ⟨F1, R.step S1, rmono (rbind p) fun y p w F2 H2 C2 S2 o2 k2 => by
    have p := rpure p
    exact ⟨by show 2 ≤ sizeLine; decide, fun p' np => Post.tup R.fe (S1.trans R.fe S2) p ((o1.mono S2.ff).tup2 o2) (k1.append R.fe S1 S2 k2) (by show 2 ≤ 1000; decide) np⟩⟩⟩
theorem dm_tup2T {n : Nat} {x1} {x : α} {y : β} (h1 : DM X b sl e1 (.ow n) (pure x : m α) g) (h2 : DM X b sl e2 (.ow n) (pure y : m β) g1) (hs : starEach [e1, e2] X.env = (false, eval e1 X.env) :: starEach [e2] X.env := by rfl) (hs2 : starEach [e2] X.env = (false, eval e2 X.env) :: starEach [] X.env := by rfl) :
    DM X b sl (.Tuple [e1, e2] x1 pos) (.ow (n + 1)) (pure (x, y) : m (α × β)) (eP g g1) := PE.imp (dm_tup2 h1 h2 hs hs2) fun σ H Q ⟨F, R, q⟩ => ⟨F, R, by rw [Run.pure_b, Run.pure_b]; exact q⟩
/-! ### calls of defs -/
inductive ArgsOk (K : PySem.W.Frag) (F : Hp) (fd : Option Addr) : List V → List (Option D) → Prop
  | nil : ArgsOk K F fd [] []
  | val {v : V} {d : D} {vs : List V} {ds : List (Option D)} : Rp K F v d → ArgsOk K F fd vs ds → ArgsOk K F fd (v :: vs) (some d :: ds)
  | feed {φ : Addr} {vs : List V} {ds : List (Option D)} : fd = some φ → ArgsOk K F fd vs ds → ArgsOk K F fd (.ref φ :: vs) (none :: ds)
theorem ArgsOk.length {K : PySem.W.Frag} {F : Hp} {fd : Option Addr} {vs : List V} {ds : List (Option D)} (h : ArgsOk K F fd vs ds) : vs.length = ds.length := by
  induction h with
  | nil => rfl
  | val _ _ ih => rw [List.length_cons, List.length_cons, ih]
  | feed _ _ ih => rw [List.length_cons, List.length_cons, ih]
theorem ArgsOk.no {K : PySem.W.Frag} {F : Hp} {fd : Option Addr} {vs : List V} {ds : List D} (h : ArgsOk K F fd vs (ds.map some)) : ArgsOk K F none vs (ds.map some) := by
  induction ds generalizing vs with
  | nil => cases h; exact .nil
  | cons d ds ih =>
    cases h with
    | val r t => exact .val r (ih t)
def tCA (K : PySem.W.Frag) (b : Bs) (sl : Sls) (M : m γ) (T : List (Option D) → m γ → Prop) : TA := fun σ H Q => ∃ F, Rel K b sl F H σ ∧ ∃ R : γ → Prop, Run.run M R ∧ ∀ vs F' H' ds k, Step K b.fd F H F' H' → ArgsOk K F' b.fd vs ds → T ds k → Run.run k R → Q vs H'
theorem ca_nil {M : m γ} : PA X [] (tCA X.K b sl M (fun ds k => ds = [] ∧ k = M)) := PA.imp pa_nil fun σ H Q ⟨F, R, P, r, q⟩ => q [] F H [] M (.refl R.sub R.fe) .nil ⟨rfl, rfl⟩ r
theorem ca_cons {M : α → m γ} {T : α → List (Option D) → m γ → Prop} (he : DA X b sl e .fr c g) (hr : ∀ x, PA X es (tCA X.K b sl (M x) (T x))) (hs : starEach (e :: es) X.env = (false, eval e X.env) :: starEach es X.env := by rfl) :
    PA X (e :: es) (tCA X.K b sl (c >>= M) (fun ds k => ∃ x ds', ds = some (g x) :: ds' ∧ T x ds' k)) := PA.imp (pa_cons he (PA.ex hr) hs) fun σ H Q ⟨F, R, P, r, q⟩ => ⟨F, R, rmono (rbind r) fun x r v F1 H1 S1 o1 =>
  ⟨x, F1, R.step S1, P, r, fun vs F2 H2 ds k S2 o2 t r2 => q (v :: vs) F2 H2 (some (g x) :: ds) k (S1.trans R.fe S2) (.val (Rp.mono S2.ff o1) o2) ⟨x, ds, rfl, t⟩ r2⟩⟩
theorem ca_consT {M : m γ} {x : α} {T : List (Option D) → m γ → Prop} (he : DA X b sl e .fr (pure x : m α) g) (hr : PA X es (tCA X.K b sl M T)) (hs : starEach (e :: es) X.env = (false, eval e X.env) :: starEach es X.env := by rfl) :
    PA X (e :: es) (tCA X.K b sl M (fun ds k => ∃ ds', ds = some (g x) :: ds' ∧ T ds' k)) := PA.imp (pa_cons he hr hs) fun σ H Q ⟨F, R, P, r, q⟩ => ⟨F, R, rpure' fun v F1 H1 S1 o1 =>
  ⟨F1, R.step S1, P, r, fun vs F2 H2 ds k S2 o2 t r2 => q (v :: vs) F2 H2 (some (g x) :: ds) k (S1.trans R.fe S2) (.val (Rp.mono S2.ff o1) o2) ⟨ds, rfl, t⟩ r2⟩⟩
theorem ca_feed {M : m γ} {T : List (Option D) → m γ → Prop} (i : Nat) {x : Str} (hr : PA X es (tCA X.K b sl M T)) (he : sl[i]? = some (some .feed) := by rfl) (hN : X.N[i]? = some x := by rfl) (hv : Vis X.env.scope x := by first | exact Or.inl rfl | exact Or.inr (Or.inl rfl) | exact Or.inr (Or.inr rfl)) (hd : (x == ("__debug__" : Str)) = false := by decide)
    (hcd : (x == ("__classdict__" : Str)) = false := by decide) (hs : starEach (Expr.Name x pos :: es) X.env = (false, eval (Expr.Name x pos) X.env) :: starEach es X.env := by rfl) :
    PA X (.Name x pos :: es) (tCA X.K b sl M (fun ds k => ∃ ds', ds = none :: ds' ∧ T ds' k)) := PA.imp (pa_cons (pe_var hN hv hd hcd) hr hs) fun σ H Q ⟨F, R, P, r, q⟩ => by
  obtain ⟨Cs, s1, s2, s3⟩ := R.slots
  obtain ⟨φ, e1, e2⟩ := s1 i _ he
  exact ⟨.ref φ, e1, F, R, P, r, fun vs F2 H2 ds k S2 o2 t r2 => q _ F2 H2 (none :: ds) k S2 (.feed e2 o2) ⟨ds, rfl, t⟩ r2⟩
/-- what a def without the feed promises -/
def spD (K : PySem.W.Frag) (gs : α → List D) (f : α → Option β) (n : Nat) (g : β → D) : Sp := fun vs H Q _ => ∃ F x, Sub F H ∧ ArgsOk K F none vs ((gs x).map some) ∧ Run.run (f x) (fun y => Post K none (.ow n) F H (g y) Q)
/-- .. with it -/
def spF (K : PySem.W.Frag) (gs : α → List (Option D)) (f : α → W β) (n : Nat) (g : β → D) : Sp := fun vs H Q _ => ∃ F φ x, Sub F (hid (some φ) H) ∧ FeedOk K (some φ) F H ∧ ArgsOk K F (some φ) vs (gs x) ∧ Run.run (f x) (fun y => Post K (some φ) (.ow n) F H (g y) Q)
theorem FeedOk.no {K : PySem.W.Frag} {F H : Hp} : FeedOk K none F H := fun _ e => nomatch e
theorem Step.wide {K : PySem.W.Frag} {fd : Option Addr} {F H F' H' : Hp} (fh : Sub F (hid fd H)) (fe : FeedOk K fd F H) (S : Step K none F H F' H') : Step K fd F H F' H' := by
  have hh : Sub H H' := by have := S.hh; rwa [hid_none, hid_none] at this
  have hf : Sub F' H' := by have := S.fh; rwa [hid_none] at this
  have fn : ∀ φ, fd = some φ → F' φ = none := fun φ e => by
    obtain ⟨o, q⟩ := fe.some e
    exact S.st φ (by rw [q]; simp) (fe φ e).1
  refine ⟨S.ff, fun a o e => ?_, fun a o e => ?_, S.st, fe.mono S.ff fn fun φ e => ?_⟩
  · by_cases ha : fd = some a
    · unfold hid at e; rw [if_pos ha] at e; cases e
    · rw [hid_ne ha] at e ⊢; exact hh a o e
  · by_cases ha : fd = some a
    · rw [fn a ha] at e; cases e
    · rw [hid_ne ha]; exact hf a o e
  · obtain ⟨o, q⟩ := fe.some e
    rw [q, hh φ o q]
variable {f : Addr} {fd : FuncData} {ps : List Str} {kl : Nat} {x : Str} {p : Pos} {n : Nat}
theorem dm_call {M : m γ} {T : List (Option D) → m γ → Prop} {gs : α → List D} {fM : α → Option γ} (F : FnOk X.prog X.w X.K X.mg X.base CX0 kl f fd ps (spD X.K gs fM n h)) (hr : Room kl X.A) (hm : X.mg x = some (.ref f)) (hk : PySem.W.keepIn X.K (.ref f) = true) (hb : Binds X.K fd ps [])
    (ha : PA X (e :: es) (tCA X.K b sl M T)) (hT : ∀ ds k, T ds k → ∃ x, ds = (gs x).map some ∧ k = Run.lift (fM x)) (hg : Gl X x := by rfl)
    (hs : starEach (e :: es) X.env = (false, eval e X.env) :: starEach es X.env := by rfl) (hpl : (backTo pos (starEach es X.env)).any (·.1) = false := by rfl) (hdb : (x == ("__debug__" : Str)) = false := by decide) :
    DM X b sl (.Call (.Name x p) (e :: es) [] pos) (.ow n) M h := PE.imp (pe_call F hr hg hm hk hb .nil pass0 ha hdb hs hpl) fun σ H Q ⟨F, R, q⟩ => ⟨F, R, _, q, fun vs F' H' ds k S o t r => by
  obtain ⟨x, rfl, rfl⟩ := hT ds k t
  refine ⟨F', x, S.fh.trans hid_sub, by rw [List.append_nil]; exact o.no, ?_⟩
  obtain ⟨y, e, r⟩ := rlift r
  refine ⟨y, e, fun v F2 H2 C S2 o2 h2 => ?_⟩
  have S2' := S2.wide S.fh S.fe
  exact r v F2 H2 C (S.trans R.fe S2') o2 ⟨h2.1, fun c hc => ⟨(h2.2 c hc).1, (h2.2 c hc).2.1, S.fresh R.fe (h2.2 c hc).2.2⟩⟩⟩
theorem dm_call0 {fM : Unit → Option γ} (F : FnOk X.prog X.w X.K X.mg X.base CX0 kl f fd ps (spD X.K (fun _ => []) fM n h)) (hr : Room kl X.A) (hm : X.mg x = some (.ref f)) (hk : PySem.W.keepIn X.K (.ref f) = true) (hb : Binds X.K fd ps []) (hg : Gl X x := by rfl) (hdb : (x == ("__debug__" : Str)) = false := by decide) :
    DM X b sl (.Call (.Name x p) [] [] pos) (.ow n) (Run.lift (fM ()) : m γ) h := PE.imp (pe_call0 F hr hg hm hk hb .nil pass0 hdb) fun σ H Q ⟨F, R, q⟩ => by
  refine ⟨F, (), R.sub.trans hid_sub, .nil, ?_⟩
  obtain ⟨y, e, r⟩ := rlift q
  exact ⟨y, e, fun v F2 H2 C S2 o2 h2 => r v F2 H2 C (S2.wide R.sub R.fe) o2 h2⟩
theorem dm_callF {M : W γ} {T : List (Option D) → W γ → Prop} {gs : α → List (Option D)} {fM : α → W γ} (F : FnOk X.prog X.w X.K X.mg X.base CX0 kl f fd ps (spF X.K gs fM n h)) (hfd : b.fd ≠ none) (hr : Room kl X.A) (hm : X.mg x = some (.ref f)) (hk : PySem.W.keepIn X.K (.ref f) = true) (hb : Binds X.K fd ps [])
    (ha : PA X (e :: es) (tCA X.K b sl M T)) (hT : ∀ ds k, T ds k → ∃ x, ds = gs x ∧ k = fM x) (hg : Gl X x := by rfl)
    (hs : starEach (e :: es) X.env = (false, eval e X.env) :: starEach es X.env := by rfl) (hpl : (backTo pos (starEach es X.env)).any (·.1) = false := by rfl) (hdb : (x == ("__debug__" : Str)) = false := by decide) :
    DM X b sl (.Call (.Name x p) (e :: es) [] pos) (.ow n) M h := PE.imp (pe_call F hr hg hm hk hb .nil pass0 ha hdb hs hpl) fun σ H Q ⟨F, R, q⟩ => ⟨F, R, _, q, fun vs F' H' ds k S o t r => by
  obtain ⟨x, rfl, rfl⟩ := hT ds k t
  cases hb : b.fd with
  | none => exact absurd hb hfd
  | some φ =>
    have fe := S.fe
    have sub := S.fh
    rw [hb] at fe sub o
    refine ⟨F', φ, x, sub, fe, by rw [List.append_nil]; exact o, rmono r fun y p v F2 H2 C S2 o2 h2 => ?_⟩
    rw [← hb] at S2
    exact p v F2 H2 C (S.trans R.fe S2) o2 ⟨h2.1, fun c hc => ⟨(h2.2 c hc).1, (h2.2 c hc).2.1, S.fresh R.fe (h2.2 c hc).2.2⟩⟩⟩
end
end DL
namespace DL
open PySem PySem.Spec PyProof.Rows L2
/-! ### what is walked -/
structure ItOk (K : PySem.W.Frag) (fd : Option Addr) (J : It) (ds : List D) (ok : Hp → Hp → Prop) : Prop where
  go : ∀ F H i, ok F H → Sub F (hid fd H) → FeedOk K fd F H → i < ds.length → J.go i H
  yld : ∀ F H i x H' d, ok F H → Sub F (hid fd H) → FeedOk K fd F H → ds[i]? = some d → J.yld i H x H' → ∃ F', Step K fd F H F' H' ∧ Rp K F' x d
  stop : ∀ F H, ok F H → Sub F (hid fd H) → FeedOk K fd F H → J.stop ds.length H
  st : ∀ F H F' H', ok F H → Step K fd F H F' H' → ok F' H'
def Fz (fd : Option Addr) (ok : Hp → Hp → Prop) : Prop := ∀ F H F' H', ok F H → Sub F F' → Sub F' (hid fd H') → ok F' H'
section
variable {m : Type → Type} [Run m] {α β γ : Type} {X : Cx} {b : Bs} {sl : Sls} {e e1 e2 : Expr} {tg iter : Expr} {c : m (List α)} {g : α → D} {K : PySem.W.Frag} {fd : Option Addr}
def tI (K : PySem.W.Frag) (b : Bs) (sl : Sls) (fz : Bool) (c : m (List α)) (g : α → D) : TI := fun σ H R => ∃ F, Rel K b sl F H σ ∧ Run.run c (fun xs => ∀ J F' H' ok, Step K b.fd F H F' H' → ItOk K b.fd J (xs.map g) ok → ok F' H' → (fz = true → Fz b.fd ok) → xs.length ≤ sizeLine → R J H')
abbrev DI (X : Cx) (b : Bs) (sl : Sls) (tg iter : Expr) (fz : Bool) (c : m (List α)) (g : α → D) : Prop := PI X tg iter (tI X.K b sl fz c g)
theorem PI.imp {t t' : TI} (h : PI X tg iter t) (k : ∀ σ H R, t' σ H R → t σ H R) : PI X tg iter t' := ⟨fun pins s σ H R I q => h.run pins s σ H R I (k σ H R q)⟩
/-- a list where it stands -/
def okL (K : PySem.W.Frag) (fd : Option Addr) (a : Addr) (ds : List D) (F H : Hp) : Prop := ∃ vs, hid fd H a = some (.lst vs) ∧ RpAll K F vs ds
def okF (K : PySem.W.Frag) (fd : Option Addr) (a : Addr) (ds : List D) (F H : Hp) : Prop := ∃ vs, F a = some (.lst vs) ∧ RpAll K F vs ds
def okT (K : PySem.W.Frag) (fd : Option Addr) (a : Addr) (ds : List D) (F H : Hp) : Prop := ∃ vs, SqT K F a vs ∧ RpAll K F vs ds
theorem it_list {a : Addr} {ds : List D} {ok : Hp → Hp → Prop} (h : ∀ F H, ok F H → Sub F (hid fd H) → okL K fd a ds F H) (st : ∀ F H F' H', ok F H → Step K fd F H F' H' → ok F' H') : ItOk K fd (Itl K a) ds ok where
  go := fun F H i o fh fe hi => by
    obtain ⟨vs, h1, h2⟩ := h F H o fh
    obtain ⟨v, e, _⟩ := h2.get (List.getElem?_eq_getElem hi)
    exact ⟨vs, v, SqL.of (hid_sub _ _ h1), e⟩
  yld := fun F H i x H' d o fh fe hd y => by
    obtain ⟨vs, h1, h2⟩ := h F H o fh
    obtain ⟨e, y⟩ := y
    subst e
    obtain ⟨v, e, r⟩ := h2.get hd
    have := y vs (SqL.of (hid_sub _ _ h1))
    rw [e] at this; cases this
    exact ⟨F, .refl fh fe, r⟩
  stop := fun F H o fh fe => by
    obtain ⟨vs, h1, h2⟩ := h F H o fh
    exact ⟨vs, SqL.of (hid_sub _ _ h1), by rw [h2.length]; exact Nat.le_refl _⟩
  st := st
theorem di_list (h : DA X b sl iter .sh c (eL g)) : DI X b sl tg iter false c g := PI.imp (pi_list h) fun σ H R ⟨F, Re, q⟩ => ⟨F, Re, rmono q fun xs p v F1 H1 S1 r1 => by
  obtain ⟨a, vs, ds, rfl, e, h1, h2, h3⟩ := r1
  injection e with e
  subst e
  exact ⟨a, rfl, ⟨vs, SqL.of (hid_sub _ _ h1)⟩, p _ F1 H1 (okL X.K b.fd a (xs.map g)) S1 (it_list (fun F H o _ => o) fun F H F' H' ⟨vs, o1, o2⟩ S => ⟨vs, S.hh _ _ o1, o2.mono S.ff⟩) ⟨vs, h1, h2⟩ (fun z => by cases z) (by simpa using h3)⟩⟩
theorem di_listF (h : DA X b sl iter .fr c (eL g)) : DI X b sl tg iter true c g := PI.imp (pi_list h) fun σ H R ⟨F, Re, q⟩ => ⟨F, Re, rmono q fun xs p v F1 H1 S1 r1 => by
  cases r1 with
  | lst h1 h2 h3 =>
    exact ⟨_, rfl, ⟨_, SqL.of (hid_sub _ _ (S1.fh _ _ h1))⟩, p _ F1 H1 (okF X.K b.fd _ (xs.map g)) S1 (it_list (fun F H ⟨vs, o1, o2⟩ s => ⟨vs, s _ _ o1, o2⟩) fun F H F' H' ⟨vs, o1, o2⟩ S => ⟨vs, S.ff _ _ o1, o2.mono S.ff⟩) ⟨_, h1, h2⟩
      (fun _ F H F' H' ⟨vs, o1, o2⟩ ff _ => ⟨vs, ff _ _ o1, o2.mono ff⟩) (by simpa using h3)⟩⟩
theorem di_tup (h : DA X b sl iter .fr c (eT g)) : DI X b sl tg iter true c g := PI.imp (pi_tup h) fun σ H R ⟨F, Re, q⟩ => ⟨F, Re, rmono q fun xs p v F1 H1 S1 r1 => by
  cases r1 with
  | tup h1 h2 h3 =>
    refine ⟨_, rfl, ⟨_, (S1.fh.trans hid_sub).sqt h1⟩, p _ F1 H1 (okT X.K b.fd _ (xs.map g)) S1 ⟨fun F H i o fh fe hi => ?_, fun F H i x H' d o fh fe hd y => ?_, fun F H o fh fe => ?_, fun F H F' H' ⟨vs, o1, o2⟩ S => ⟨vs, S.ff.sqt o1, o2.mono S.ff⟩⟩ ⟨_, h1, h2⟩
      (fun _ F H F' H' ⟨vs, o1, o2⟩ ff _ => ⟨vs, ff.sqt o1, o2.mono ff⟩) (by simpa using h3)⟩
    · obtain ⟨vs, h1, h2⟩ := o
      obtain ⟨v, e, _⟩ := h2.get (List.getElem?_eq_getElem hi)
      exact ⟨vs, v, (fh.trans hid_sub).sqt h1, e⟩
    · obtain ⟨vs, h1, h2⟩ := o
      obtain ⟨e, y⟩ := y
      subst e
      obtain ⟨v, e, r⟩ := h2.get hd
      have := y vs ((fh.trans hid_sub).sqt h1)
      rw [e] at this; cases this
      exact ⟨F, .refl fh fe, r⟩
    · obtain ⟨vs, h1, h2⟩ := o
      exact ⟨vs, (fh.trans hid_sub).sqt h1, by rw [h2.length]; exact Nat.le_refl _⟩⟩
/-- lo, lo + 1, .. below hi -/
def rng (lo hi : Int) : List Int := (List.range (hi - lo).toNat).map fun k : Nat => lo + (k : Int)
theorem rng_length (lo hi : Int) : (rng lo hi).length = (hi - lo).toNat := by unfold rng; simp
theorem rng_get {lo hi : Int} {i : Nat} (h : i < (hi - lo).toNat) : (rng lo hi)[i]? = some (lo + (i : Int)) := by unfold rng; rw [List.getElem?_map, List.getElem?_range h]; rfl
def irng (lo hi : Int) : Option (List Int) := if -4611686018427387904 ≤ lo ∧ lo < 4611686018427387904 ∧ -4611686018427387904 ≤ hi ∧ hi < 4611686018427387904 ∧ (hi - lo).toNat ≤ 16777216 then some (rng lo hi) else none
theorem it_rng {lo : Int} {n : Nat} {hi : Int} (e : (hi - lo).toNat = n) : ItOk K fd (Itr lo n) ((rng lo hi).map eI) (fun _ _ => True) where
  go := fun F H i _ _ _ h => by
    rw [List.length_map, rng_length] at h
    show i < n
    omega
  yld := fun F H i x H' d _ fh fe hd y => by
    obtain ⟨e1, e2⟩ := y
    subst e1 e2
    have hi : i < (hi - lo).toNat := by
      have := (List.getElem?_eq_some_iff.mp hd).1
      rw [List.length_map, rng_length] at this
      exact this
    rw [List.getElem?_map, rng_get hi] at hd
    cases hd
    exact ⟨F, .refl fh fe, .int _⟩
  stop := fun F H _ _ _ => by
    rw [List.length_map, rng_length]
    show n ≤ _
    omega
  st := fun _ _ _ _ _ _ => trivial
variable {p pos : Pos}
theorem di_rng1 {c : m Int} (hm : X.mg "range" = none) (h : DA X b sl e .pk c eI) (hg : Gl X "range" := by rfl) (hs : starEach [e] X.env = [(false, eval e X.env)] := by rfl) (hs2 : starEach [e] X.env = (false, eval e X.env) :: starEach [] X.env := by rfl) :
    DI X b sl tg (.Call (.Name "range" p) [e] [] pos) true (c >>= fun n => Run.lift (irng 0 n)) eI := PI.imp (pi_range1 hg hm (pa_cons h pa_nil hs2) hs) fun σ H R ⟨F, Re, q⟩ => ⟨F, Re, rmono (rbind q) fun n p v F1 H1 S1 r1 => by
  obtain ⟨z, e, p⟩ := rlift p
  obtain ⟨⟨h1, h2, h3, h4, h5⟩, rfl⟩ := some_if e
  cases r1
  exact ⟨n, rfl, by omega, by omega, p _ F1 H1 _ S1 (it_rng (by omega)) trivial (fun _ _ _ _ _ _ _ _ => trivial) (by rw [rng_length]; exact h5)⟩⟩
theorem di_rng2 {c c1 : m Int} (hm : X.mg "range" = none) (h : DA X b sl e1 .pk c eI) (h' : DA X b sl e2 .pk c1 eI) (hg : Gl X "range" := by rfl) (hs : starEach [e1, e2] X.env = [(false, eval e1 X.env), (false, eval e2 X.env)] := by rfl) (hs2 : starEach [e2] X.env = [(false, eval e2 X.env)] := by rfl)
    (hs3 : starEach [e1, e2] X.env = (false, eval e1 X.env) :: starEach [e2] X.env := by rfl) (hs4 : starEach [e2] X.env = (false, eval e2 X.env) :: starEach [] X.env := by rfl) :
    DI X b sl tg (.Call (.Name "range" p) [e1, e2] [] pos) true (c >>= fun lo => c1 >>= fun hi => Run.lift (irng lo hi)) eI := PI.imp (pi_range2 hg hm (pa_cons h (pa_cons h' pa_nil hs4) hs3) hs hs2) fun σ H R ⟨F, Re, q⟩ => ⟨F, Re, rmono (rbind q) fun lo p v F1 H1 S1 r1 =>
  ⟨F1, Re.step S1, rmono (rbind p) fun hi p v2 F2 H2 S2 r2 => by
    obtain ⟨z, e, p⟩ := rlift p
    obtain ⟨⟨h1, h2, h3, h4, h5⟩, rfl⟩ := some_if e
    cases r1
    cases r2
    exact ⟨lo, hi, rfl, ⟨by omega, by omega, by omega, by omega⟩, p _ F2 H2 _ (S1.trans Re.fe S2) (it_rng rfl) trivial (fun _ _ _ _ _ _ _ _ => trivial) (by rw [rng_length]; exact h5)⟩⟩⟩
/-- .. written ends -/
theorem di_rngK {n : Int} (hm : X.mg "range" = none) (h : DA X b sl e .pk (pure n : m Int) eI) (hk : decide (0 ≤ n ∧ n ≤ 16777216) = true := by rfl) (hg : Gl X "range" := by rfl) (hs : starEach [e] X.env = [(false, eval e X.env)] := by rfl) (hs2 : starEach [e] X.env = (false, eval e X.env) :: starEach [] X.env := by rfl) :
    DI X b sl tg (.Call (.Name "range" p) [e] [] pos) true (pure (rng 0 n) : m (List Int)) eI := PI.imp (pi_range1 hg hm (pa_cons h pa_nil hs2) hs) fun σ H R ⟨F, Re, q⟩ => ⟨F, Re, by
  have q := rpure q
  have hk := of_decide_eq_true hk
  refine rpure' fun v F1 H1 S1 r1 => ?_
  cases r1
  exact ⟨n, rfl, by omega, by omega, q _ F1 H1 _ S1 (it_rng (by omega)) trivial (fun _ _ _ _ _ _ _ _ => trivial) (by rw [rng_length, sl16]; omega)⟩⟩
theorem di_rngK2 {lo n : Int} (hm : X.mg "range" = none) (h : DA X b sl e1 .pk (pure lo : m Int) eI) (h' : DA X b sl e2 .pk (pure n : m Int) eI) (hk : decide (0 ≤ lo ∧ lo ≤ 16777216 ∧ 0 ≤ n ∧ n ≤ 16777216) = true := by rfl) (hg : Gl X "range" := by rfl) (hs : starEach [e1, e2] X.env = [(false, eval e1 X.env), (false, eval e2 X.env)] := by rfl) (hs2 : starEach [e2] X.env = [(false, eval e2 X.env)] := by rfl)
    (hs3 : starEach [e1, e2] X.env = (false, eval e1 X.env) :: starEach [e2] X.env := by rfl) (hs4 : starEach [e2] X.env = (false, eval e2 X.env) :: starEach [] X.env := by rfl) :
    DI X b sl tg (.Call (.Name "range" p) [e1, e2] [] pos) true (pure (rng lo n) : m (List Int)) eI := PI.imp (pi_range2 hg hm (pa_cons h (pa_cons h' pa_nil hs4) hs3) hs hs2) fun σ H R ⟨F, Re, q⟩ => ⟨F, Re, by
  have q := rpure q
  have hk := of_decide_eq_true hk
  refine rpure' fun v F1 H1 S1 r1 => ⟨F1, Re.step S1, rpure' fun v2 F2 H2 S2 r2 => ?_⟩
  cases r1
  cases r2
  exact ⟨lo, n, rfl, ⟨by omega, by omega, by omega, by omega⟩, q _ F2 H2 _ (S1.trans Re.fe S2) (it_rng rfl) trivial (fun _ _ _ _ _ _ _ _ => trivial) (by rw [rng_length, sl16]; omega)⟩⟩
/-- enumerate(xs) -/
def enumI : List α → List (Int × α) := fun xs => (List.range xs.length).zip xs |>.map fun p => ((p.1 : Int), p.2)
theorem enumI_get {xs : List α} {i : Nat} {x : α} (h : xs[i]? = some x) : (enumI xs)[i]? = some ((i : Int), x) := by
  have hi := (List.getElem?_eq_some_iff.mp h).1
  unfold enumI
  have e : ((List.range xs.length).zip xs)[i]? = some (i, x) := List.getElem?_zip_eq_some.mpr ⟨List.getElem?_range hi, h⟩
  rw [List.getElem?_map, e]
  rfl
theorem enumI_length (xs : List α) : (enumI xs).length = xs.length := by unfold enumI; simp
theorem it_enum {a : Addr} {xs : List α} {ok : Hp → Hp → Prop} (h : ∀ F H, ok F H → Sub F (hid fd H) → okL K fd a (xs.map g) F H) (st : ∀ F H F' H', ok F H → Step K fd F H F' H' → ok F' H') : ItOk K fd (Ite K a) ((enumI xs).map (eP eI g)) ok where
  go := fun F H i o fh fe hi => by
    obtain ⟨vs, h1, h2⟩ := h F H o fh
    rw [List.length_map, enumI_length, ← List.length_map (f := g)] at hi
    obtain ⟨v, e, _⟩ := h2.get (List.getElem?_eq_getElem hi)
    exact ⟨vs, v, SqL.of (hid_sub _ _ h1), e⟩
  yld := fun F H i x H' d o fh fe hd y => by
    obtain ⟨vs, h1, h2⟩ := h F H o fh
    obtain ⟨T, v, rfl, nT, rfl, y⟩ := y
    have hi : i < xs.length := by
      have := (List.getElem?_eq_some_iff.mp hd).1
      rw [List.length_map, enumI_length] at this
      exact this
    rw [List.getElem?_map, enumI_get (List.getElem?_eq_getElem hi)] at hd
    cases hd
    obtain ⟨v', e, r⟩ := h2.get (d := g xs[i]) (by rw [List.getElem?_map, List.getElem?_eq_getElem hi]; rfl)
    have := y vs (SqL.of (hid_sub _ _ h1))
    rw [e] at this; cases this
    have A := Step.allocF (K := K) (o := .tup [.int (i : Nat), v]) fh fe nT
    exact ⟨_, A, .tup (SqT.of upd_same) (.cons (.int _) (.cons (r.mono A.ff) .nil)) (by show 2 ≤ sizeLine; decide)⟩
  stop := fun F H o fh fe => by
    obtain ⟨vs, h1, h2⟩ := h F H o fh
    exact ⟨vs, SqL.of (hid_sub _ _ h1), by rw [h2.length, List.length_map, List.length_map, enumI_length]; exact Nat.le_refl _⟩
  st := st
variable {elts : List Expr} {kk : Nat} {tpos : Pos}
theorem di_enum (hm : X.mg "enumerate" = none) (h : DA X b sl e .sh c (eL g)) (hg : Gl X "enumerate" := by rfl) (hs : starEach [e] X.env = [(false, eval e X.env)] := by rfl) (hs2 : starEach [e] X.env = (false, eval e X.env) :: starEach [] X.env := by rfl) :
    DI X b sl (.Tuple elts kk tpos) (.Call (.Name "enumerate" p) [e] [] pos) false (c >>= fun xs => pure (enumI xs)) (eP eI g) := PI.imp (pi_enum hg hm (pa_cons h pa_nil hs2) hs) fun σ H R ⟨F, Re, q⟩ => ⟨F, Re, rmono (rbind q) fun xs p v F1 H1 S1 r1 => by
  have p := rpure p
  obtain ⟨a, vs, ds, rfl, e, h1, h2, h3⟩ := r1
  injection e with e
  subst e
  exact ⟨a, vs, rfl, SqL.of (hid_sub _ _ h1), p _ F1 H1 (okL X.K b.fd a (xs.map g)) S1 (it_enum (fun F H o _ => o) fun F H F' H' ⟨vs, o1, o2⟩ S => ⟨vs, S.hh _ _ o1, o2.mono S.ff⟩) ⟨vs, h1, h2⟩ (fun z => by cases z) (by rw [enumI_length]; simpa using h3)⟩⟩
theorem di_enumF (hm : X.mg "enumerate" = none) (h : DA X b sl e .fr c (eL g)) (hg : Gl X "enumerate" := by rfl) (hs : starEach [e] X.env = [(false, eval e X.env)] := by rfl) (hs2 : starEach [e] X.env = (false, eval e X.env) :: starEach [] X.env := by rfl) :
    DI X b sl (.Tuple elts kk tpos) (.Call (.Name "enumerate" p) [e] [] pos) true (c >>= fun xs => pure (enumI xs)) (eP eI g) := PI.imp (pi_enum hg hm (pa_cons h pa_nil hs2) hs) fun σ H R ⟨F, Re, q⟩ => ⟨F, Re, rmono (rbind q) fun xs p v F1 H1 S1 r1 => by
  have p := rpure p
  cases r1 with
  | lst h1 h2 h3 =>
    exact ⟨_, _, rfl, SqL.of (hid_sub _ _ (S1.fh _ _ h1)), p _ F1 H1 (okF X.K b.fd _ (xs.map g)) S1 (it_enum (fun F H ⟨vs, o1, o2⟩ s => ⟨vs, s _ _ o1, o2⟩) fun F H F' H' ⟨vs, o1, o2⟩ S => ⟨vs, S.ff _ _ o1, o2.mono S.ff⟩) ⟨_, h1, h2⟩
      (fun _ F H F' H' ⟨vs, o1, o2⟩ ff _ => ⟨vs, ff _ _ o1, o2.mono ff⟩) (by rw [enumI_length]; simpa using h3)⟩⟩
/-- zip(xs, ys) -/
theorem it_zip {δ : Type} {h' : δ → D} {a a' : Addr} {xs : List α} {ys : List δ} {ok : Hp → Hp → Prop} (h : ∀ F H, ok F H → Sub F (hid fd H) → okL K fd a (xs.map g) F H ∧ okL K fd a' (ys.map h') F H) (st : ∀ F H F' H', ok F H → Step K fd F H F' H' → ok F' H') :
    ItOk K fd (Itz K a a') ((xs.zip ys).map (eP g h')) ok where
  go := fun F H i o fh fe hi => by
    obtain ⟨⟨vs, h1, h2⟩, ws, k1, k2⟩ := h F H o fh
    rw [List.length_map, List.length_zip] at hi
    obtain ⟨v, e, _⟩ := h2.get (List.getElem?_eq_getElem (i := i) (by rw [List.length_map]; omega))
    obtain ⟨w, e', _⟩ := k2.get (List.getElem?_eq_getElem (i := i) (by rw [List.length_map]; omega))
    exact ⟨vs, ws, v, w, SqL.of (hid_sub _ _ h1), SqL.of (hid_sub _ _ k1), e, e'⟩
  yld := fun F H i x H' d o fh fe hd y => by
    obtain ⟨⟨vs, h1, h2⟩, ws, k1, k2⟩ := h F H o fh
    obtain ⟨T, v, w, rfl, nT, rfl, y, y'⟩ := y
    rw [List.getElem?_map] at hd
    obtain ⟨⟨z1, z2⟩, hz, rfl⟩ := Option.map_eq_some_iff.mp hd
    obtain ⟨e1, e2⟩ := List.getElem?_zip_eq_some.mp hz
    obtain ⟨v', e, r⟩ := h2.get (d := g z1) (by rw [List.getElem?_map, e1]; rfl)
    obtain ⟨w', e', r'⟩ := k2.get (d := h' z2) (by rw [List.getElem?_map, e2]; rfl)
    have q1 := y vs (SqL.of (hid_sub _ _ h1))
    rw [e] at q1; cases q1
    have q2 := y' ws (SqL.of (hid_sub _ _ k1))
    rw [e'] at q2; cases q2
    have A := Step.allocF (K := K) (o := .tup [v, w]) fh fe nT
    exact ⟨_, A, .tup (SqT.of upd_same) (.cons (r.mono A.ff) (.cons (r'.mono A.ff) .nil)) (by show 2 ≤ sizeLine; decide)⟩
  stop := fun F H o fh fe => by
    obtain ⟨⟨vs, h1, h2⟩, ws, k1, k2⟩ := h F H o fh
    refine ⟨vs, ws, SqL.of (hid_sub _ _ h1), SqL.of (hid_sub _ _ k1), ?_⟩
    have l1 := h2.length
    have l2 := k2.length
    rw [List.length_map] at l1 l2
    rw [List.length_map, List.length_zip]
    omega
  st := st
theorem di_zip {δ : Type} {h' : δ → D} {c1 : m (List δ)} (hm : X.mg "zip" = none) (h1 : DA X b sl e1 .sh c (eL g)) (h2 : DA X b sl e2 .sh c1 (eL h')) (hg : Gl X "zip" := by rfl) (hs : starEach [e1, e2] X.env = (false, eval e1 X.env) :: starEach [e2] X.env := by rfl) (hpl : (backTo pos (starEach [e2] X.env)).any (·.1) = false := by rfl)
    (hs2 : starEach [e2] X.env = (false, eval e2 X.env) :: starEach [] X.env := by rfl) :
    DI X b sl (.Tuple elts kk tpos) (.Call (.Name "zip" p) [e1, e2] [] pos) false (c >>= fun xs => c1 >>= fun ys => pure (xs.zip ys)) (eP g h') := PI.imp (pi_zip hg hm (pa_cons h1 (pa_cons h2 pa_nil hs2) hs) hs hpl) fun σ H R ⟨F, Re, q⟩ => ⟨F, Re, rmono (rbind q) fun xs p v F1 H1 S1 r1 =>
  ⟨F1, Re.step S1, rmono (rbind p) fun ys p w F2 H2 S2 r2 => by
    have p := rpure p
    obtain ⟨a, vs, ds, rfl, e, h1, h2, h3⟩ := r1.step S2
    injection e with e
    subst e
    obtain ⟨a', ws, ds', rfl, e, k1, k2, k3⟩ := r2
    injection e with e
    subst e
    refine ⟨a, a', vs, ws, rfl, SqL.of (hid_sub _ _ h1), SqL.of (hid_sub _ _ k1), p _ F2 H2 (fun F H => okL X.K b.fd a (xs.map g) F H ∧ okL X.K b.fd a' (ys.map h') F H) (S1.trans Re.fe S2) (it_zip (fun F H o _ => o) fun F H F' H' ⟨⟨vs, o1, o2⟩, ws, o3, o4⟩ S => ⟨⟨vs, S.hh _ _ o1, o2.mono S.ff⟩, ws, S.hh _ _ o3, o4.mono S.ff⟩) ⟨⟨vs, h1, h2⟩, ws, k1, k2⟩ (fun z => by cases z) ?_⟩
    rw [List.length_zip]
    rw [List.length_map] at h3
    omega⟩⟩
theorem di_zipF {δ : Type} {h' : δ → D} {c1 : m (List δ)} (hm : X.mg "zip" = none) (h1 : DA X b sl e1 .fr c (eL g)) (h2 : DA X b sl e2 .fr c1 (eL h')) (hg : Gl X "zip" := by rfl) (hs : starEach [e1, e2] X.env = (false, eval e1 X.env) :: starEach [e2] X.env := by rfl) (hpl : (backTo pos (starEach [e2] X.env)).any (·.1) = false := by rfl)
    (hs2 : starEach [e2] X.env = (false, eval e2 X.env) :: starEach [] X.env := by rfl) :
    DI X b sl (.Tuple elts kk tpos) (.Call (.Name "zip" p) [e1, e2] [] pos) true (c >>= fun xs => c1 >>= fun ys => pure (xs.zip ys)) (eP g h') := PI.imp (pi_zip hg hm (pa_cons h1 (pa_cons h2 pa_nil hs2) hs) hs hpl) fun σ H R ⟨F, Re, q⟩ => ⟨F, Re, rmono (rbind q) fun xs p v F1 H1 S1 r1 =>
  ⟨F1, Re.step S1, rmono (rbind p) fun ys p w F2 H2 S2 r2 => by
    have p := rpure p
    cases r1.step S2 with
    | lst h1 h2 h3 =>
      cases r2 with
      | lst k1 k2 k3 =>
        refine ⟨_, _, _, _, rfl, SqL.of (hid_sub _ _ (S2.fh _ _ h1)), SqL.of (hid_sub _ _ (S2.fh _ _ k1)), p _ F2 H2 (fun F H => okF X.K b.fd _ (xs.map g) F H ∧ okF X.K b.fd _ (ys.map h') F H) (S1.trans Re.fe S2)
          (it_zip (fun F H ⟨⟨vs, o1, o2⟩, ws, o3, o4⟩ s => ⟨⟨vs, s _ _ o1, o2⟩, ws, s _ _ o3, o4⟩) fun F H F' H' ⟨⟨vs, o1, o2⟩, ws, o3, o4⟩ S => ⟨⟨vs, S.ff _ _ o1, o2.mono S.ff⟩, ws, S.ff _ _ o3, o4.mono S.ff⟩) ⟨⟨_, h1, h2⟩, _, k1, k2⟩
          (fun _ F H F' H' ⟨⟨vs, o1, o2⟩, ws, o3, o4⟩ ff _ => ⟨⟨vs, ff _ _ o1, o2.mono ff⟩, ws, ff _ _ o3, o4.mono ff⟩) ?_⟩
        rw [List.length_zip]
        rw [List.length_map] at h3
        omega⟩⟩
end
end DL
namespace DL
open PySem PySem.Spec PyProof.Rows L2
/-! ### targets -/
theorem wipe_comm : ∀ {ws : List Nat} {σ : L2.St} {v : Nat} {x : Option V}, v ∉ ws → wipe (σ.set v x) ws = (wipe σ ws).set v x
  | [], _, _, _, _ => rfl
  | w :: ws, σ, v, x, h => by
    show (wipe (σ.set v x) ws).set w none = ((wipe σ ws).set w none).set v x
    rw [wipe_comm fun z => h (List.mem_cons_of_mem _ z), List.set_comm _ _ (fun z => h (by rw [z]; simp))]
theorem wipe_set : ∀ {vs : List Nat} {σ : L2.St} {i : Nat} {x : Option V}, i ∈ vs → wipe (σ.set i x) vs = wipe σ vs
  | v :: vs, σ, i, x, h => by
    show (wipe (σ.set i x) vs).set v none = (wipe σ vs).set v none
    by_cases hi : i ∈ vs
    · rw [wipe_set hi]
    · have e : v = i := by
        rcases List.mem_cons.mp h with e | e
        · exact e.symm
        · exact absurd e hi
      subst e
      rw [wipe_comm hi, List.set_set]
theorem wipe_wipe : ∀ (ws : List Nat) {vs : List Nat} {σ : L2.St}, (∀ v ∈ ws, v ∈ vs) → wipe (wipe σ ws) vs = wipe σ vs
  | [], _, _, _ => rfl
  | w :: ws, vs, σ, h => by
    show wipe ((wipe σ ws).set w none) vs = wipe σ vs
    rw [wipe_set (h w (by simp)), wipe_wipe ws fun v hv => h v (List.mem_cons_of_mem _ hv)]
def wipeS (sl : Sls) : List Nat → Sls
  | [] => sl
  | v :: vs => (wipeS sl vs).set v none
theorem Rel.wipe {K : PySem.W.Frag} {b : Bs} {sl : Sls} {F H : Hp} {σ : L2.St} (R : Rel K b sl F H σ) : ∀ vs : List Nat, Rel K b (wipeS sl vs) F H (L2.wipe σ vs)
  | [] => R
  | v :: vs => (R.wipe vs).setN
/-- a target: where it stores, what is known behind it -/
structure GT (K : PySem.W.Frag) {α : Type} (t : TG) (vs : List Nat) (g : α → D) (set : α → Sls → Sls) : Prop where
  run : ∀ (b : Bs) (sl : Sls) (F H : Hp) (σ : L2.St) (v : V) (x : α) (Q : L2.St → Hp → Prop), Rel K b sl F H σ → Rp K F v (g x) → (∀ σ', Rel K b (set x sl) F H σ' → (∀ ws, (∀ i ∈ vs, i ∈ ws) → L2.wipe σ' ws = L2.wipe σ ws) → Q σ' H) → t v σ H Q
section
variable {K : PySem.W.Frag} {α β γ δ : Type} {g : α → D} {g' : β → D} {h : δ → D}
theorem gt_name (i : Nat) : GT K (gName i) [i] g (fun x sl => sl.set i (some (.v (g x)))) := ⟨fun b sl F H σ v x Q R r q => q _ (R.setV r) fun ws hw => wipe_set (hw i (by simp))⟩
theorem gt_tup2 (i j : Nat) : GT K (gTup K 2 (gCons (gName i) (gCons (gName j) gNil))) [i, j] (eP g g') (fun x sl => (sl.set i (some (.v (g x.1)))).set j (some (.v (g' x.2)))) := ⟨fun b sl F H σ v x Q R r q => by
  cases r with
  | tup hs ha hl =>
    cases ha with
    | cons a1 t =>
      cases t with
      | cons a2 t =>
        cases t
        exact ⟨_, _, rfl, (R.sub.trans hid_sub).sqt hs, rfl, _, _, rfl, _, _, rfl, rfl, q _ ((R.setV a1).setV a2) fun ws hw => by rw [wipe_set (hw j (by simp)), wipe_set (hw i (by simp))]⟩⟩
/-- (i, (j, k)) -/
theorem gt_tup2r {t : TG} {vs : List Nat} {set : β → Sls → Sls} (i : Nat) (ht : GT K t vs g' set) : GT K (gTup K 2 (gCons (gName i) (gCons t gNil))) (i :: vs) (eP g g') (fun x sl => set x.2 (sl.set i (some (.v (g x.1))))) := ⟨fun b sl F H σ v x Q R r q => by
  cases r with
  | tup hs ha hl =>
    cases ha with
    | cons a1 t =>
      cases t with
      | cons a2 t =>
        cases t
        refine ⟨_, _, rfl, (R.sub.trans hid_sub).sqt hs, rfl, _, _, rfl, _, _, rfl, ht.run b _ F H _ _ x.2 _ (R.setV a1) a2 fun σ' R' hw' => ⟨rfl, q σ' R' fun ws hw => ?_⟩⟩
        rw [hw' ws fun z hz => hw z (List.mem_cons_of_mem _ hz), wipe_set (hw i (by simp))]⟩
theorem gt_tup3 (i j k : Nat) : GT K (gTup K 3 (gCons (gName i) (gCons (gName j) (gCons (gName k) gNil)))) [i, j, k] (eP3 g g' h) (fun x sl => ((sl.set i (some (.v (g x.1)))).set j (some (.v (g' x.2.1)))).set k (some (.v (h x.2.2)))) := ⟨fun b sl F H σ v x Q R r q => by
  cases r with
  | tup hs ha hl =>
    cases ha with
    | cons a1 t =>
      cases t with
      | cons a2 t =>
        cases t with
        | cons a3 t =>
          cases t
          exact ⟨_, _, rfl, (R.sub.trans hid_sub).sqt hs, rfl, _, _, rfl, _, _, rfl, _, _, rfl, rfl, q _ (((R.setV a1).setV a2).setV a3) fun ws hw => by rw [wipe_set (hw k (by simp)), wipe_set (hw j (by simp)), wipe_set (hw i (by simp))]⟩⟩
end
/-! ### comprehensions -/
def lcM {m : Type → Type} [Monad m] {α β : Type} (tst : α → m Bool) (elt : α → m β) : List α → m (List β)
  | [] => pure []
  | x :: xs => tst x >>= fun t => if t then elt x >>= fun y => lcM tst elt xs >>= fun ys => pure (y :: ys) else lcM tst elt xs
section
variable {m : Type → Type} [Run m] {α β γ : Type} {X : Cx} {b : Bs} {sl : Sls} {e : Expr} {g : α → D} {h : β → D} {K : PySem.W.Frag} {fd : Option Addr} {c : m (List α)} {vs ws : List Nat} {n : Nat} {tst : α → m Bool} {elt : α → m β} {set : α → Sls → Sls} {gt : TG} {fz : Bool} {tt : TT}
/-- tests: what they ask -/
def TsOk (K : PySem.W.Frag) (b : Bs) (sl : Sls) (set : α → Sls → Sls) (tst : α → m Bool) (tt : TT) : Prop := ∀ x σ F H Q, Rel K b (set x sl) F H σ → Run.run (tst x) (fun t => ∀ F' H', Step K b.fd F H F' H' → Q t H') → tt σ H Q
theorem ts_yes : TsOk K b sl set (fun _ => (pure true : m Bool)) tYes := fun x σ F H Q R q => by
  have q := rpure q
  exact q F H (.refl R.sub R.fe)
def tEx (t : α → TT) : TT := fun σ H Q => ∃ x, t x σ H Q
def tExE (t : α → TE) : TE := fun σ H Q => ∃ x, t x σ H Q
theorem ts_one : TsOk K b sl set tst (tEx fun x => tTT K b (set x sl) (tst x)) := fun x σ F H Q R q => ⟨x, F, R, q⟩
theorem PT.ex {X : Cx} {e : Expr} {t : α → TT} (h : ∀ x, PT X e (t x)) : PT X e (tEx t) := ⟨fun pins s σ H Q I ⟨x, q⟩ => (h x).run pins s σ H Q I q⟩
theorem PE.ex {X : Cx} {e : Expr} {t : α → TE} (h : ∀ x, PE X e (t x)) : PE X e (tExE t) := ⟨fun pins s σ H Q I ⟨x, q⟩ => (h x).run pins s σ H Q I q⟩
/-- the reading of a comprehension -/
theorem lc_to (hg : GT K gt ws g set) (hw : ∀ i ∈ ws, i ∈ vs) (ht : TsOk K b (wipeS sl vs) set tst tt) {σ : L2.St} {H : Hp} {Q : VK}
    (q : tD K b sl (.ow (n + 1)) (c >>= lcM tst elt) (eL h) σ H Q) : tLc (tI K b sl fz c g) gt tt (tExE fun x => tD K b (set x (wipeS sl vs)) (.ow n) (elt x) h) vs σ H Q := by
  obtain ⟨F, R, q⟩ := q
  refine ⟨F, R, rmono (rbind q) fun xs q J F1 H1 ok S1 it o1 _ hl D nD => ?_⟩
  have R1 := R.step S1
  -- behind i items
  let Inv : Nat → Hp → Prop := fun i H2 => ∃ (F2 : Hp) (done : List β) (us : List V) (C : List Cell), Step K b.fd F1 H1 F2 H2 ∧ ok F2 H2 ∧ H2 D = some (.lst us) ∧ F2 D = none ∧ OwnAll K F2 n us (done.map h) C ∧ Holds C F2 H2 H1 ∧ (∀ c ∈ C, c.1 ≠ D) ∧ done.length ≤ i ∧
    i ≤ xs.length ∧ Run.run (lcM tst elt (xs.drop i)) (fun ys => Post K b.fd (.ow (n + 1)) F1 H1 (eL h (done ++ ys)) Q)
  have nF : F1 D = none := (S1.fh.trans hid_sub).none nD
  have fdD : b.fd ≠ some D := fun z => by
    obtain ⟨o, q⟩ := R1.fe.some z
    rw [nD] at q; cases q
  refine ⟨fun i k H2 => k = xs.length - i ∧ Inv i H2, ⟨xs.length, by simp, F1, [], [], [], Step.alloc S1.fh S1.fe nD, it.st _ _ _ _ o1 (Step.alloc S1.fh S1.fe nD), upd_same, nF, .nil, ⟨List.nodup_nil, fun _ h => nomatch h⟩, (fun _ h => nomatch h), Nat.zero_le _, Nat.zero_le _, rmono q fun ys p => p.back R.fe S1⟩, ?_⟩
  rintro i k H2 ⟨rfl, F2, done, us, C, S2, o2, hD, fD, ow, hc, hcD, dl, il, run⟩
  have R2 := R1.step S2
  by_cases hi : i < xs.length
  · refine .inr ⟨it.go F2 H2 i o2 R2.sub R2.fe (by rw [List.length_map]; exact hi), fun H' => Inv (i + 1) H', fun H' p => ⟨xs.length - (i + 1), by omega, rfl, p⟩, fun v H3 y => ?_⟩
    rw [List.drop_eq_getElem_cons hi] at run
    obtain ⟨F3, S3, r3⟩ := it.yld F2 H2 i v H3 (g xs[i]) o2 R2.sub R2.fe (by rw [List.getElem?_map, List.getElem?_eq_getElem hi]; rfl) y
    have S23 := S2.trans R1.fe S3
    have R3 := (R1.step S23).wipe vs
    refine hg.run b _ F3 H3 _ v xs[i] _ R3 r3 fun σ' R' hw' => ⟨by rw [hw' vs hw, wipe_wipe vs fun _ h => h], ht xs[i] σ' F3 H3 _ R' (rmono (rbind run) fun t p F4 H4 S4 => ?_)⟩
    have S24 := S23.trans R1.fe S4
    have k2 : H2 D ≠ none := by rw [hD]; simp
    have stay : ∀ {F' H'}, Step K b.fd F2 H2 F' H' → H' D = some (.lst us) ∧ F' D = none := fun {F' H'} S => ⟨by
      have := S.hh D _ (by rw [hid_ne fdD]; exact hD)
      rw [hid_ne fdD] at this
      exact this, S.st D k2 fD⟩
    cases t with
    | false =>
      rw [if_neg Bool.false_ne_true]
      have S34 := S3.trans R2.fe S4
      refine ⟨F4, done, us, C, S24, it.st _ _ _ _ o2 S34, (stay S34).1, (stay S34).2, ow.mono S34.ff, hc.step R1.fe S2 S34, hcD, by omega, hi, p⟩
    | true =>
      rw [if_pos rfl]
      refine ⟨xs[i], F4, R'.step S4, rmono (rbind p) fun z p w F5 H5 C5 S5 o5 k5 => ?_⟩
      have S35 := S3.trans R2.fe (S4.trans R'.fe S5)
      have S25 := S2.trans R1.fe S35
      obtain ⟨e1, e2⟩ := stay S35
      have hl' : us.length < sizeLine := by
        have := ow.length
        rw [List.length_map] at this
        omega
      -- the list with the new item
      have neD : ∀ a o, hid b.fd H5 a = some o → a ≠ D → hid b.fd (upd H5 D (.lst (us ++ [w]))) a = some o := fun a o e ne => by
        by_cases ha : b.fd = some a
        · unfold hid at e; rw [if_pos ha] at e; cases e
        · rw [hid_ne ha] at e ⊢
          rw [upd_ne ne]; exact e
      have fh' : Sub F5 (hid b.fd (upd H5 D (.lst (us ++ [w])))) := fun a o e => neD a o (S35.fh a o e) (fun z => by rw [z, e2] at e; cases e)
      have SU : Step K b.fd F1 H1 F5 (upd H5 D (.lst (us ++ [w]))) := by
        refine ⟨S25.ff, fun a o e => neD a o (S25.hh a o e) (fun z => ?_), fh', S25.st, S25.fe.mono (Sub.refl _) (fun φ e => (S25.fe φ e).1) fun φ e => upd_ne (fun z => fdD (by rw [e, z]))⟩
        rw [z] at e
        rw [hid_ne fdD, nD] at e; cases e
      have okU : ok F5 (upd H5 D (.lst (us ++ [w]))) := it.st F1 H1 _ _ o1 SU
      have c5 : ∀ c ∈ C5, c.1 ≠ D := fun c hc z => by
        have h1 := (k5.2 c hc).2.2
        have h2 : H4 D = some (.lst us) := (stay (S3.trans R2.fe S4)).1
        rw [z] at h1
        rw [h1] at h2; cases h2
      have kk := hc.append (C2 := C5) R1.fe S2 (F2 := F5) (H2 := H5) S35 ⟨k5.1, fun c hc => ⟨(k5.2 c hc).1, (k5.2 c hc).2.1, (S3.trans R2.fe S4).fresh R2.fe (k5.2 c hc).2.2⟩⟩
      refine ⟨us, e1, hl', F5, done ++ [z], us ++ [w], C ++ C5, SU, okU, upd_same, e2, ?_, ⟨kk.1, fun c hc => ?_⟩, fun c hc => ?_, by simp; omega, hi, ?_⟩
      · rw [List.map_append]
        have o5' : OwnAll K F5 n [w] [h z] C5 := by
          have := OwnAll.cons o5 .nil
          rwa [List.append_nil] at this
        exact (ow.mono S35.ff).append o5'
      · obtain ⟨a1, a2, a3⟩ := kk.2 c hc
        refine ⟨?_, a2, a3⟩
        rw [upd_ne ?_]
        · exact a1
        · rcases List.mem_append.mp hc with hc | hc
          · exact hcD c hc
          · exact c5 c hc
      · rcases List.mem_append.mp hc with hc | hc
        · exact hcD c hc
        · exact c5 c hc
      · refine rmono (rbind p) fun ys p => ?_
        have p := rpure p
        rw [List.append_assoc]
        exact p
  · have e : i = xs.length := by omega
    subst e
    refine .inl ⟨by have := it.stop F2 H2 o2 R2.sub R2.fe; rwa [List.length_map] at this, ?_⟩
    rw [List.drop_length] at run
    have run := rpure run
    rw [List.append_nil] at run
    refine run (.ref D) F2 H2 ((D, .lst us) :: C) S2 (.lst ow ?_) ⟨?_, fun c hc' => ?_⟩
    · rw [List.length_map]
      exact Nat.le_trans dl hl
    · rw [List.map_cons, List.nodup_cons]
      refine ⟨fun hm => ?_, hc.1⟩
      obtain ⟨c, h1, e⟩ := List.mem_map.mp hm
      exact hcD c h1 e
    · rcases List.mem_cons.mp hc' with rfl | hc'
      · exact ⟨hD, fD, nD⟩
      · exact hc.2 c hc'
end
end DL
namespace DL
open PySem PySem.Spec PyProof.Rows L2
section
variable {m : Type → Type} [Run m] {α β γ : Type} {X : Cx} {b : Bs} {sl : Sls} {e e1 e2 : Expr} {md : Md} {g : α → D} {h : β → D} {K : PySem.W.Frag} {fd : Option Addr} {c : m (List α)} {vs ws : List Nat} {n : Nat} {tst : α → m Bool} {elt : α → m β} {set : α → Sls → Sls} {gt : TG} {fz : Bool} {tt : TT} {pos : Pos}
theorem lcM_map (f : α → β) : ∀ xs : List α, lcM (fun _ => (pure true : m Bool)) (fun x => (pure (f x) : m β)) xs = pure (xs.map f)
  | [] => rfl
  | x :: xs => by
    show ((pure true : m Bool) >>= fun t => if t then _ else _) = _
    rw [Run.pure_b, if_pos rfl, Run.pure_b, lcM_map f xs, Run.pure_b]
    rfl
theorem lcM_filter (p : α → Bool) (f : α → β) : ∀ xs : List α, lcM (fun x => (pure (p x) : m Bool)) (fun x => (pure (f x) : m β)) xs = pure ((xs.filter p).map f)
  | [] => rfl
  | x :: xs => by
    show ((pure (p x) : m Bool) >>= fun t => if t then _ else _) = _
    rw [Run.pure_b, List.filter_cons]
    cases p x with
    | true => rw [if_pos rfl, if_pos rfl, Run.pure_b, lcM_filter p f xs, Run.pure_b]; rfl
    | false => rw [if_neg Bool.false_ne_true, if_neg Bool.false_ne_true, lcM_filter p f xs]
variable {elx tg iter : Expr} {ifs : List Expr} {scope : Scope} {own : List (Str × Nat)}
theorem dm_lc (hc : X.calm = true) (hN : X.N.Nodup) (hi : DI X b sl tg iter fz c g) (ok : BlkOk X.N X.env.scope scope own) (hgt : GT X.K gt ws g set)
    (hg : ∀ (s : Shared) (H : Hp) (C : Addr) (cl : List (Str × Addr)) (fp : List Addr), PG (X.blk s H scope (compEnvC scope cl C X.env) fp) tg gt)
    (ht : ∀ (s : Shared) (H : Hp) (C : Addr) (cl : List (Str × Addr)) (fp : List Addr), PTs (X.blk s H scope (compEnvC scope cl C X.env) fp) ifs tt) (hto : TsOk X.K b (wipeS sl (own.map (·.2))) set tst tt)
    (he : ∀ (s : Shared) (H : Hp) (C : Addr) (cl : List (Str × Addr)) (fp : List Addr) (x : α), DM (X.blk s H scope (compEnvC scope cl C X.env) fp) b (set x (wipeS sl (own.map (·.2)))) elx (.ow n) (elt x) h)
    (hw : ∀ i ∈ ws, i ∈ own.map (·.2) := by decide) (hs : ∀ x, foldedSetIterable iter X.env x = pure x := by intro _; rfl) : DM X b sl (.ListComp elx [⟨tg, iter, ifs, 0⟩] scope pos) (.ow (n + 1)) (c >>= lcM tst elt) (eL h) :=
  PE.imp (pe_lc hc hN hi ok hg ht (fun s H C cl fp => PE.ex (he s H C cl fp)) hs) fun _ _ _ q => lc_to hgt hw hto q
/-- tests of a comprehension -/
structure LT (X : Cx) (b : Bs) (sl : Sls) (set : α → Sls → Sls) (scope : Scope) (ifs : List Expr) (tst : α → m Bool) (tt : TT) : Prop where
  pts : ∀ (s : Shared) (H : Hp) (C : Addr) (cl : List (Str × Addr)) (fp : List Addr), PTs (X.blk s H scope (compEnvC scope cl C X.env) fp) ifs tt
  ok : TsOk X.K b sl set tst tt
theorem lt_no : LT X b sl set scope [] (fun _ => (pure true : m Bool)) tYes := ⟨fun _ _ _ _ _ => pts_nil, ts_yes⟩
theorem lt_if (h : ∀ (s : Shared) (H : Hp) (C : Addr) (cl : List (Str × Addr)) (fp : List Addr) (x : α), DT (X.blk s H scope (compEnvC scope cl C X.env) fp) b (set x sl) e (tst x)) : LT X b sl set scope [e] tst (tEx fun x => tTT X.K b (set x sl) (tst x)) :=
  ⟨fun s H C cl fp => pts_one (PT.ex (h s H C cl fp)), ts_one⟩
/-- a comprehension with a test or none -/
theorem dm_lc' (hc : X.calm = true) (hN : X.N.Nodup) (hi : DI X b sl tg iter fz c g) (ok : BlkOk X.N X.env.scope scope own) (hgt : GT X.K gt ws g set)
    (hg : ∀ (s : Shared) (H : Hp) (C : Addr) (cl : List (Str × Addr)) (fp : List Addr), PG (X.blk s H scope (compEnvC scope cl C X.env) fp) tg gt)
    (ht : LT X b (wipeS sl (own.map (·.2))) set scope ifs tst tt)
    (he : ∀ (s : Shared) (H : Hp) (C : Addr) (cl : List (Str × Addr)) (fp : List Addr) (x : α), DM (X.blk s H scope (compEnvC scope cl C X.env) fp) b (set x (wipeS sl (own.map (·.2)))) elx (.ow n) (elt x) h)
    (hw : ∀ i ∈ ws, i ∈ own.map (·.2) := by decide) (hs : ∀ x, foldedSetIterable iter X.env x = pure x := by intro _; rfl) : DM X b sl (.ListComp elx [⟨tg, iter, ifs, 0⟩] scope pos) (.ow (n + 1)) (c >>= lcM tst elt) (eL h) :=
  dm_lc hc hN hi ok hgt hg ht.pts ht.ok he hw hs
/-! ### where nothing can fail -/
theorem dm_lcT {xs : List α} {f : α → β} (q : DM X b sl e md ((pure xs : m (List α)) >>= lcM (fun _ => pure true) (fun x => pure (f x))) (eL h)) : DM X b sl e md (pure (xs.map f) : m (List β)) (eL h) := dm_eq q (by rw [Run.pure_b, lcM_map])
theorem dm_lcF {xs : List α} {p : α → Bool} {f : α → β} (q : DM X b sl e md ((pure xs : m (List α)) >>= lcM (fun x => pure (p x)) (fun x => pure (f x))) (eL h)) : DM X b sl e md (pure ((xs.filter p).map f) : m (List β)) (eL h) := dm_eq q (by rw [Run.pure_b, lcM_filter])
theorem dm_lcT' {f : α → β} (q : DM X b sl e md (c >>= lcM (fun _ => pure true) (fun x => pure (f x))) (eL h)) : DM X b sl e md (c >>= fun xs => pure (xs.map f)) (eL h) := dm_eq q (by congr 1; funext xs; exact lcM_map f xs)
theorem dm_lcF' {p : α → Bool} {f : α → β} (q : DM X b sl e md (c >>= lcM (fun x => pure (p x)) (fun x => pure (f x))) (eL h)) : DM X b sl e md (c >>= fun xs => pure ((xs.filter p).map f)) (eL h) := dm_eq q (by congr 1; funext xs; exact lcM_filter p f xs)
theorem dm_b1 {γ' : Type} {h' : γ' → D} {x : α} {k : α → m γ'} (q : DM X b sl e md ((pure x : m α) >>= k) h') : DM X b sl e md (k x) h' := dm_eq q (Run.pure_b _ _)
theorem dm_b2 {γ' : Type} {h' : γ' → D} {x : α} {y : β} {k : α → β → m γ'} (q : DM X b sl e md ((pure x : m α) >>= fun x => (pure y : m β) >>= fun y => k x y) h') : DM X b sl e md (k x y) h' := dm_eq q (by rw [Run.pure_b, Run.pure_b])
theorem dt_b2 {x : α} {y : β} {k : α → β → m Bool} (q : DT X b sl e ((pure x : m α) >>= fun x => (pure y : m β) >>= fun y => k x y)) : DT X b sl e (k x y) := by rw [Run.pure_b, Run.pure_b] at q; exact q
theorem di_b1 {γ' : Type} {h' : γ' → D} {x : α} {k : α → m (List γ')} (q : DI X b sl tg iter fz ((pure x : m α) >>= k) h') : DI X b sl tg iter fz (k x) h' := by rw [Run.pure_b] at q; exact q
theorem di_b2 {γ' : Type} {h' : γ' → D} {x : α} {y : β} {k : α → β → m (List γ')} (q : DI X b sl tg iter fz ((pure x : m α) >>= fun x => (pure y : m β) >>= fun y => k x y) h') : DI X b sl tg iter fz (k x y) h' := by rw [Run.pure_b, Run.pure_b] at q; exact q
/-! ### statements -/
inductive Oc where
  | nx (sl : Sls) | rt (n : Nat) (d : D) | bk (sl : Sls) | ct (sl : Sls)
structure RelB (K : PySem.W.Frag) (b : Bs) (F H : Hp) : Prop where
  sub : Sub F (hid b.fd H)
  base : Sub (hid b.fd b.B) (hid b.fd H)
  fro : ∀ p, b.B p ≠ none → b.F0 p = none → F p = none
  f0 : Sub b.F0 F
  fe : FeedOk K b.fd F H
def HoldsB (C : List Cell) (b : Bs) (F H : Hp) : Prop := (C.map (·.1)).Nodup ∧ ∀ c ∈ C, H c.1 = some c.2 ∧ F c.1 = none ∧ b.B c.1 = none
def OcOk (K : PySem.W.Frag) (b : Bs) (F : Hp) (E : Ends) : Oc → Prop
  | .nx sl => ∀ σ' F' H', Sub F F' → Rel K b sl F' H' σ' → E.nx σ' H'
  | .bk sl => ∀ σ' F' H', Sub F F' → Rel K b sl F' H' σ' → E.bk σ' H'
  | .ct sl => ∀ σ' F' H', Sub F F' → Rel K b sl F' H' σ' → E.ct σ' H'
  | .rt n d => ∀ v F' H' C, Sub F F' → RelB K b F' H' → Own K F' n v d C → HoldsB C b F' H' → E.rt v H'
theorem Rel.relB {F H : Hp} {σ : L2.St} (R : Rel K b sl F H σ) : RelB K b F H := ⟨R.sub, R.base, R.fro, R.f0, R.fe⟩
theorem OcOk.mono {F F' : Hp} {E : Ends} {o : Oc} (h : OcOk K b F E o) (s : Sub F F') : OcOk K b F' E o := by
  cases o with
  | nx sl => exact fun σ' F2 H2 s2 R => h σ' F2 H2 (s.trans s2) R
  | bk sl => exact fun σ' F2 H2 s2 R => h σ' F2 H2 (s.trans s2) R
  | ct sl => exact fun σ' F2 H2 s2 R => h σ' F2 H2 (s.trans s2) R
  | rt n d => exact fun v F2 H2 C s2 R => h v F2 H2 C (s.trans s2) R
variable {Z Z' S R : Type}
def tB (K : PySem.W.Frag) (b : Bs) (sl : Sls) (c : m Z) (out : Z → Oc) : TS := fun E σ H => ∃ F, Rel K b sl F H σ ∧ Run.run c (fun z => OcOk K b F E (out z))
abbrev DS1 (X : Cx) (b : Bs) (sl : Sls) (st : Stmt) (c : m Z) (out : Z → Oc) : Prop := PS X st (tB X.K b sl c out)
abbrev DS (X : Cx) (b : Bs) (sl : Sls) (sts : List Stmt) (c : m Z) (out : Z → Oc) : Prop := PSs X sts (tB X.K b sl c out)
theorem PSs.ex {sts : List Stmt} {t : α → TS} (h : ∀ x, PSs X sts (t x)) : PSs X sts (fun E σ H => ∃ x, t x E σ H) := ⟨fun pins s σ H D I ⟨x, q⟩ => (h x).run pins s σ H D I q⟩
/-- known less -/
def Wk : Sls → Sls → Prop
  | [], [] => True
  | none :: r, _ :: r' => Wk r r'
  | some x :: r, some y :: r' => x = y ∧ Wk r r'
  | _, _ => False
theorem Wk.get : ∀ {s s' : Sls}, Wk s s' → s.length = s'.length ∧ ∀ (i : Nat) (x : Sl), s[i]? = some (some x) → s'[i]? = some (some x)
  | [], [], _ => ⟨rfl, fun i x h => by simp at h⟩
  | none :: r, y :: r', h => by
    obtain ⟨h1, h2⟩ := Wk.get (s := r) (s' := r') h
    refine ⟨by simp [h1], fun i x e => ?_⟩
    cases i with
    | zero => simp at e
    | succ i => exact h2 i x e
  | some x :: r, some y :: r', h => by
    obtain ⟨rfl, h⟩ := h
    obtain ⟨h1, h2⟩ := Wk.get h
    refine ⟨by simp [h1], fun i z e => ?_⟩
    cases i with
    | zero => exact e
    | succ i => exact h2 i z e
theorem Rel.wk {s s' : Sls} {F H : Hp} {σ : L2.St} (R : Rel K b s' F H σ) (w : Wk s s') : Rel K b s F H σ := R.weak (by rw [R.len, w.get.1]) fun i x e => ⟨w.get.2 i x e, rfl⟩
theorem ds_nil {z : Z} {out : Z → Oc} {sl' : Sls} (ho : out z = .nx sl') (w : Wk sl' sl) : DS X b sl [] (pure z : m Z) out := PSs.imp pss_nil fun E σ H ⟨F, R, q⟩ => by
  have q := rpure q
  rw [ho] at q
  exact q σ F H (Sub.refl _) (R.wk w)
/-- how what follows goes on -/
def Kont (X : Cx) (b : Bs) (rest : List Stmt) (out : Z → Oc) (o : Oc) (k : m Z) : Prop := match o with
  | .nx sl' => DS X b sl' rest k out
  | o => ∃ z, k = pure z ∧ out z = o
theorem ds_cons {st : Stmt} {rest : List Stmt} {c : m Z'} {o1 : Z' → Oc} {k : Z' → m Z} {out : Z → Oc} (h1 : DS1 X b sl st c o1) (h2 : ∀ z, Kont X b rest out (o1 z) (k z)) : DS X b sl (st :: rest) (c >>= k) out := by
  have hk : ∀ z : { p : Z' × Sls // o1 p.1 = .nx p.2 }, DS X b z.1.2 rest (k z.1.1) out := fun z => by
    have := h2 z.1.1
    rw [z.2] at this
    exact this
  refine PSs.imp (pss_cons h1 (PSs.ex hk)) fun E σ H ⟨F, R, q⟩ => ⟨F, R, rmono (rbind q) fun z q => ?_⟩
  cases ho : o1 z with
  | nx sl' => exact fun σ' F' H' s R' => ⟨⟨(z, sl'), ho⟩, F', R', rmono q fun z' q => q.mono s⟩
  | rt n d =>
    have := h2 z
    rw [ho] at this
    obtain ⟨z', e, e2⟩ := this
    rw [e] at q
    have q := rpure q
    rw [e2] at q
    exact q
  | bk sl' =>
    have := h2 z
    rw [ho] at this
    obtain ⟨z', e, e2⟩ := this
    rw [e] at q
    have q := rpure q
    rw [e2] at q
    exact q
  | ct sl' =>
    have := h2 z
    rw [ho] at this
    obtain ⟨z', e, e2⟩ := this
    rw [e] at q
    have q := rpure q
    rw [e2] at q
    exact q
theorem ds_b {x : α} {sts : List Stmt} {k : α → m Z} {out : Z → Oc} (q : DS X b sl sts ((pure x : m α) >>= k) out) : DS X b sl sts (k x) out := by rw [Run.pure_b] at q; exact q
theorem ds_eq {sts : List Stmt} {c c' : m Z} {out : Z → Oc} (q : DS X b sl sts c out) (e : c = c') : DS X b sl sts c' out := e ▸ q
theorem ds_last {st : Stmt} {c : m Z} {out : Z → Oc} (h : DS1 X b sl st c out) : DS X b sl [st] c out := pss_one h
end
end DL
namespace DL
open PySem PySem.Spec PyProof.Rows L2
section
variable {m : Type → Type} [Run m] {α β γ : Type} {X : Cx} {b : Bs} {sl : Sls} {e e1 e2 : Expr} {md : Md} {g : α → D} {h : β → D} {K : PySem.W.Frag} {fd : Option Addr} {c : m α} {vs ws : List Nat} {n : Nat} {pos : Pos} {Z Z' S R : Type} {out : Z → Oc} {x : Str} {pos' : Pos}
theorem Rel.hb {F H F' H' : Hp} {σ : L2.St} {C : List Cell} (R : Rel K b sl F H σ) (S : Step K b.fd F H F' H') (h : Holds C F' H' H) : HoldsB C b F' H' := ⟨h.1, fun c hc => ⟨(h.2 c hc).1, (h.2 c hc).2.1, by
  cases q : b.B c.1 with
  | none => rfl
  | some o =>
    have nf : b.fd ≠ some c.1 := fun z => by
      obtain ⟨o, e⟩ := R.fe.some z
      rw [(h.2 c hc).2.2] at e; cases e
    have := R.base c.1 o (by rw [hid_ne nf]; exact q)
    rw [hid_ne nf, (h.2 c hc).2.2] at this; cases this⟩⟩
/-! ### assignments -/
theorem asgV {i : Nat} {E : Ends} {σ : L2.St} {H : Hp} (q : tB K b sl c (fun x => .nx (sl.set i (some (.v (g x))))) E σ H) : tAsg (tD K b sl (.ow 0) c g) (gName i) E σ H := by
  obtain ⟨F, R, q⟩ := q
  refine ⟨F, R, rmono q fun x p v F' H' C S r k => ?_⟩
  cases r with
  | z r => exact p _ F' H' S.ff ((R.step S).setV r)
theorem asgO {n : Nat} {i : Nat} {E : Ends} {σ : L2.St} {H : Hp} (q : tB K b sl c (fun x => .nx (sl.set i (some (.o n (g x))))) E σ H) : tAsg (tD K b sl (.ow n) c g) (gName i) E σ H := by
  obtain ⟨F, R, q⟩ := q
  exact ⟨F, R, rmono q fun x p v F' H' C S r k => p _ F' H' S.ff (R.setNew S r k)⟩
theorem ds_setV (i : Nat) (he : DM X b sl e (.ow 0) c g) (hN : X.N.Nodup) (hi : X.N[i]? = some x := by rfl) (hx : Loc X.env.scope x := by first | exact Or.inl rfl | exact Or.inr rfl) (hs : swapsWith e (some (.Name x pos')) pos.line X.env = pure false := by rfl) (hf : X.fn x = true ∨ X.env.scope.names.lookup x = some .local := by first | exact .inl rfl | exact .inr rfl) :
    DS1 X b sl (.Assign [.Name x pos'] e pos) c (fun x => .nx (sl.set i (some (.v (g x))))) := PS.imp (ps_set hN hi hx he hs hf) fun E σ H q => asgV q
theorem ds_setO (i : Nat) {n : Nat} (he : DM X b sl e (.ow n) c g) (hN : X.N.Nodup) (hi : X.N[i]? = some x := by rfl) (hx : Loc X.env.scope x := by first | exact Or.inl rfl | exact Or.inr rfl) (hs : swapsWith e (some (.Name x pos')) pos.line X.env = pure false := by rfl) (hf : X.fn x = true ∨ X.env.scope.names.lookup x = some .local := by first | exact .inl rfl | exact .inr rfl) :
    DS1 X b sl (.Assign [.Name x pos'] e pos) c (fun x => .nx (sl.set i (some (.o n (g x))))) := PS.imp (ps_set hN hi hx he hs hf) fun E σ H q => asgO q
theorem asgF {n : Nat} {i : Nat} {E : Ends} {σ : L2.St} {H : Hp} (q : tB K b sl c (fun x => .nx (sl.set i (some (.v (g x))))) E σ H) : tAsg (tD K b sl (.ow n) c g) (gName i) E σ H := by
  obtain ⟨F, R, q⟩ := q
  refine ⟨F, R, rmono q fun x p v F' H' C S r k => ?_⟩
  obtain ⟨F2, S2, r2, _⟩ := freeze R.fe S r k
  exact p _ F2 H' S2.ff ((R.step S2).setV r2)
theorem tAsg_imp {te te' : TE} {t : TG} {E : Ends} {σ : L2.St} {H : Hp} (k : ∀ Q, te' σ H Q → te σ H Q) (q : tAsg te' t E σ H) : tAsg te t E σ H := k _ q
theorem tB_eq {c c' : m Z} {E : Ends} {σ : L2.St} {H : Hp} (e : c = c') (q : tB K b sl c' out E σ H) : tB K b sl c out E σ H := e ▸ q
theorem ds1_eq {st : Stmt} {c c' : m Z} (q : DS1 X b sl st c out) (e : c = c') : DS1 X b sl st c' out := e ▸ q
section
variable {δ ε : Type} {elx tg iter : Expr} {ifs : List Expr} {scope : Scope} {own : List (Str × Nat)} {c : m (List δ)} {g : δ → D} {h : ε → D} {tst : δ → m Bool} {elt : δ → m ε} {set : δ → Sls → Sls} {gt : TG} {fz : Bool} {tt : TT}
theorem ds_lcO (i : Nat) {n : Nat} {y : Str} {py spos : Pos} (hc : X.calm = true) (hN : X.N.Nodup) (hi : DI X b sl tg iter fz c g) (ok : BlkOk X.N X.env.scope scope own) (hgt : GT X.K gt ws g set)
    (hg : ∀ (s : Shared) (H : Hp) (C : Addr) (cl : List (Str × Addr)) (fp : List Addr), PG (X.blk s H scope (compEnvC scope cl C X.env) fp) tg gt) (ht : LT X b (wipeS sl (own.map (·.2))) set scope ifs tst tt)
    (he : ∀ (s : Shared) (H : Hp) (C : Addr) (cl : List (Str × Addr)) (fp : List Addr) (x : δ), DM (X.blk s H scope (compEnvC scope cl C X.env) fp) b (set x (wipeS sl (own.map (·.2)))) elx (.ow n) (elt x) h)
    (hsw : swapsWith (.ListComp elx [⟨tg, iter, ifs, 0⟩] scope pos) (some (.Name y py)) spos.line X.env = pure true := by exact sw_true rfl rfl rfl (by decide +kernel))
    (hy : X.N[i]? = some y := by rfl) (hyl : X.env.scope.names.lookup y = some .local := by rfl)
    (hw : ∀ i ∈ ws, i ∈ own.map (·.2) := by decide) (hs : ∀ x, foldedSetIterable iter X.env x = pure x := by intro _; rfl) :
    DS1 X b sl (.Assign [.Name y py] (.ListComp elx [⟨tg, iter, ifs, 0⟩] scope pos) spos) (c >>= lcM tst elt) (fun ys => .nx (sl.set i (some (.o (n + 1) (eL h ys))))) :=
  PS.imp (ps_setLc hc hN hy hyl hsw hi ok hg ht.pts (fun s H C cl fp => PE.ex (he s H C cl fp)) hs) fun E σ H q => tAsg_imp (fun Q q => lc_to hgt hw ht.ok q) (asgO q)
theorem ds_lcV (i : Nat) {n : Nat} {y : Str} {py spos : Pos} (hc : X.calm = true) (hN : X.N.Nodup) (hi : DI X b sl tg iter fz c g) (ok : BlkOk X.N X.env.scope scope own) (hgt : GT X.K gt ws g set)
    (hg : ∀ (s : Shared) (H : Hp) (C : Addr) (cl : List (Str × Addr)) (fp : List Addr), PG (X.blk s H scope (compEnvC scope cl C X.env) fp) tg gt) (ht : LT X b (wipeS sl (own.map (·.2))) set scope ifs tst tt)
    (he : ∀ (s : Shared) (H : Hp) (C : Addr) (cl : List (Str × Addr)) (fp : List Addr) (x : δ), DM (X.blk s H scope (compEnvC scope cl C X.env) fp) b (set x (wipeS sl (own.map (·.2)))) elx (.ow n) (elt x) h)
    (hsw : swapsWith (.ListComp elx [⟨tg, iter, ifs, 0⟩] scope pos) (some (.Name y py)) spos.line X.env = pure true := by exact sw_true rfl rfl rfl (by decide +kernel))
    (hy : X.N[i]? = some y := by rfl) (hyl : X.env.scope.names.lookup y = some .local := by rfl)
    (hw : ∀ i ∈ ws, i ∈ own.map (·.2) := by decide) (hs : ∀ x, foldedSetIterable iter X.env x = pure x := by intro _; rfl) :
    DS1 X b sl (.Assign [.Name y py] (.ListComp elx [⟨tg, iter, ifs, 0⟩] scope pos) spos) (c >>= lcM tst elt) (fun ys => .nx (sl.set i (some (.v (eL h ys))))) :=
  PS.imp (ps_setLc hc hN hy hyl hsw hi ok hg ht.pts (fun s H C cl fp => PE.ex (he s H C cl fp)) hs) fun E σ H q => tAsg_imp (fun Q q => lc_to hgt hw ht.ok q) (asgF q)
theorem ds1_lcT {st : Stmt} {xs : List δ} {f : δ → ε} {out : List ε → Oc} (q : DS1 X b sl st ((pure xs : m (List δ)) >>= lcM (fun _ => pure true) (fun x => pure (f x))) out) : DS1 X b sl st (pure (xs.map f) : m (List ε)) out := ds1_eq q (by rw [Run.pure_b, lcM_map])
theorem ds1_lcF {st : Stmt} {xs : List δ} {p : δ → Bool} {f : δ → ε} {out : List ε → Oc} (q : DS1 X b sl st ((pure xs : m (List δ)) >>= lcM (fun x => pure (p x)) (fun x => pure (f x))) out) : DS1 X b sl st (pure ((xs.filter p).map f) : m (List ε)) out := ds1_eq q (by rw [Run.pure_b, lcM_filter])
theorem ds1_lcT' {st : Stmt} {f : δ → ε} {out : List ε → Oc} (q : DS1 X b sl st (c >>= lcM (fun _ => pure true) (fun x => pure (f x))) out) : DS1 X b sl st (c >>= fun xs => pure (xs.map f)) out := ds1_eq q (by congr 1; funext xs; exact lcM_map f xs)
theorem ds1_lcF' {st : Stmt} {p : δ → Bool} {f : δ → ε} {out : List ε → Oc} (q : DS1 X b sl st (c >>= lcM (fun x => pure (p x)) (fun x => pure (f x))) out) : DS1 X b sl st (c >>= fun xs => pure ((xs.filter p).map f)) out := ds1_eq q (by congr 1; funext xs; exact lcM_filter p f xs)
end
/-- x, y = e -/
theorem ds_asg {tg : Expr} {t : TG} {set : α → Sls → Sls} (he : DA X b sl e .fr c g) (hgt : GT X.K t ws g set) (hg : PG X tg t) (hs : swapsWithSole [tg] e pos.line X.env = pure false := by rfl) (hw : swappedStores [tg] e X.env = pure none := by rfl) (h1 : (assignEach [tg] X.env).map (·.2) = [assign tg X.env] := by rfl) :
    DS1 X b sl (.Assign [tg] e pos) c (fun x => .nx (set x sl)) := PS.imp (ps_asg he hg hs hw h1) fun E σ H ⟨F, R, q⟩ => ⟨F, R, rmono q fun x p v F' H' S r =>
  hgt.run b sl F' H' σ v x _ (R.step S) r fun σ' R' _ => p σ' F' H' S.ff R'⟩
/-- x, y = e1, e2: both sides written -/
theorem ds_par {i j : Nat} {x y : Str} {px py pt : Pos} {kt k2 pt2} {c1 : m β} {g1 : β → D} (hc : X.calm = true) (hN : X.N.Nodup) (h1 : DA X b sl e1 .fr c g) (h2 : DA X b sl e2 .fr c1 g1) (hi : X.N[i]? = some x) (hj : X.N[j]? = some y) (hij : i ≠ j)
    (hx : X.env.scope.names.lookup x = some .local) (hy : X.env.scope.names.lookup y = some .local)
    (hw : swappedStores [.Tuple [.Name x px, .Name y py] kt pt] (.Tuple [e1, e2] k2 pt2) X.env = pure (some [x, y]) := by rfl)
    (hs : swapsWithSole [.Tuple [.Name x px, .Name y py] kt pt] (.Tuple [e1, e2] k2 pt2) pos.line X.env = pure false := by rfl) (hs1 : starEach [e1, e2] X.env = (false, eval e1 X.env) :: starEach [e2] X.env := by rfl) (hs2 : starEach [e2] X.env = (false, eval e2 X.env) :: starEach [] X.env := by rfl) :
    DS1 X b sl (.Assign [.Tuple [.Name x px, .Name y py] kt pt] (.Tuple [e1, e2] k2 pt2) pos) (c >>= fun x => c1 >>= fun y => pure (x, y)) (fun p => .nx ((sl.set i (some (.v (g p.1)))).set j (some (.v (g1 p.2))))) :=
  PS.imp (ps_par hc hN hi hj hij hx hy (pa_cons h1 (pa_cons h2 pa_nil hs2) hs1) hw hs) fun E σ H ⟨F, R, q⟩ => ⟨F, R, rmono (rbind q) fun x q v F1 H1 S1 r1 =>
  ⟨F1, R.step S1, rmono (rbind q) fun y q w F2 H2 S2 r2 => by
    have q := rpure q
    exact ⟨v, w, rfl, q _ F2 H2 (S1.ff.trans S2.ff) ((((R.step S1).step S2).setV (Rp.mono S2.ff r1)).setV r2)⟩⟩⟩
/-- x op= e, ints -/
theorem ds_aug {op : Operator} {r : R2} {c1 : m β} {g1 : β → D} {a : α} {k : α → β → m γ} {h' : γ → D} (i : Nat) (ho : OpR X (inplaceOp op) r) (he : DA X b sl e .pk c1 g1) (hr : OpS X.K b.fd r .pk .pk g g1 (fun _ _ => True) k (.ow 0) h') (hv : sl[i]? = some (some (.v (g a)))) (hN : X.N.Nodup) (hi : X.N[i]? = some x := by rfl) (hx : Loc X.env.scope x := by first | exact Or.inl rfl | exact Or.inr rfl)
    (hf : X.fn x = true ∨ X.env.scope.names.lookup x = some .local := by first | exact .inl rfl | exact .inr rfl) :
    DS1 X b sl (.AugAssign (.Name x pos') op e pos) (c1 >>= fun y => k a y) (fun z => .nx (sl.set i (some (.v (h' z))))) := PS.imp (ps_aug (ti := r) hN hi hx he ho hf) fun E σ H ⟨F, R, q⟩ => by
  obtain ⟨v, e1, r1⟩ := R.getV hv
  refine ⟨v, e1, F, R, rmono (rbind q) fun y q w F1 H1 S1 r2 => ?_⟩
  have R1 := R.step S1
  exact hr F1 H1 v w a y _ trivial R1.sub R1.fe (Rp.mono (S1.ff.trans S1.fh) r1) r2 (rmono q fun z p v2 F2 H2 C S2 r3 k3 => by
    cases r3 with
    | z r3 => exact p _ F2 H2 (S1.ff.trans S2.ff) ((R1.step S2).setV r3))
/-- return e -/
theorem ds_ret {f : α → Z} {rest : List Stmt} (he : DM X b sl e (.ow n) c g) (ho : ∀ r, out (f r) = .rt n (g r)) : DS X b sl (.Return (some e) pos :: rest) (c >>= fun r => pure (f r)) out :=
  PSs.imp (pss_cons (ps_ret he) (pss_never)) fun E σ H ⟨F, R, q⟩ => ⟨F, R, rmono (rbind q) fun r p v F' H' C S o k => by
    have p := rpure p
    rw [ho] at p
    exact p v F' H' C S.ff (R.step S).relB o (R.hb S k)⟩
theorem ds_ret0 {rest : List Stmt} (he : DM X b sl e (.ow n) c g) : DS X b sl (.Return (some e) pos :: rest) c (fun r => .rt n (g r)) :=
  PSs.imp (pss_cons (ps_ret he) (pss_never)) fun E σ H ⟨F, R, q⟩ => ⟨F, R, rmono q fun r p v F' H' C S o k => p v F' H' C S.ff (R.step S).relB o (R.hb S k)⟩
/-- an expression whose value is dropped -/
theorem ds_expr (he : DM X b sl e md c g) (hs : swapsWith e none pos.line X.env = pure false := by rfl) : DS1 X b sl (.Expr e pos) c (fun _ => .nx sl) := PS.imp (ps_expr he hs) fun E σ H ⟨F, R, q⟩ => ⟨F, R, rmono q fun x p => by
  cases md with
  | pk => exact fun v F' H' S r => p σ F' H' S.ff (R.step S)
  | ow n => exact fun v F' H' C S r k => p σ F' H' S.ff (R.step S)⟩
theorem ds_pass : DS1 X b sl (.Pass pos) (pure () : m Unit) (fun _ => .nx sl) := PS.imp ps_pass fun E σ H ⟨F, R, q⟩ => by
  have q := rpure q
  exact q σ F H (Sub.refl _) R
theorem ds_break {z : Z} (h : out z = .bk sl) : DS1 X b sl (.Break pos) (pure z : m Z) out := PS.imp ps_break fun E σ H ⟨F, R, q⟩ => by
  have q := rpure q
  rw [h] at q
  exact q σ F H (Sub.refl _) R
/-! ### if -/
theorem ds_if {tst : Expr} {A B : List Stmt} {cc : m Bool} {cA cB : m Z} (ht : DT X b sl tst cc) (hA : DS X b sl A cA out) (hB : DS X b sl B cB out) : DS1 X b sl (.If tst A B pos) (cc >>= fun t => if t then cA else cB) out :=
  PS.imp (ps_if ht hA hB) fun E σ H ⟨F, R, q⟩ => ⟨F, R, rmono (rbind q) fun t q F' H' S => by
    cases t with
    | true => exact ⟨F', R.step S, rmono q fun z q => q.mono S.ff⟩
    | false => exact ⟨F', R.step S, rmono q fun z q => q.mono S.ff⟩⟩
/-- an if that leaves, then the rest -/
theorem ds_ifR {tst : Expr} {A rest : List Stmt} {cc : m Bool} {cA : m Z'} {oA : Z' → Oc} {f : Z' → Z} {cR : m Z} (ht : DT X b sl tst cc) (hA : DS X b sl A cA oA) (hl : ∀ z, (∀ s, oA z ≠ .nx s) ∧ out (f z) = oA z) (hR : DS X b sl rest cR out) :
    DS X b sl (.If tst A [] pos :: rest) (cc >>= fun t => if t then cA >>= fun z => pure (f z) else cR) out :=
  PSs.imp (pss_cons (ps_if ht hA pss_nil) hR) fun E σ H ⟨F, R, q⟩ => ⟨F, R, rmono (rbind q) fun t q F' H' S => by
    cases t with
    | true =>
      refine ⟨F', R.step S, rmono (rbind q) fun z q => ?_⟩
      have q := rpure q
      rw [(hl z).2] at q
      have n := (hl z).1
      have q := q.mono S.ff
      generalize oA z = o at n q
      cases o with
      | nx s => exact absurd rfl (n s)
      | rt n d => exact q
      | bk s => exact q
      | ct s => exact q
    | false => exact ⟨F', R.step S, rmono q fun z q => q.mono S.ff⟩⟩
theorem ds_ifR0 {tst : Expr} {A rest : List Stmt} {cc : m Bool} {cA cR : m Z} (ht : DT X b sl tst cc) (hA : DS X b sl A cA out) (hl : ∀ z s, out z ≠ .nx s) (hR : DS X b sl rest cR out) :
    DS X b sl (.If tst A [] pos :: rest) (cc >>= fun t => if t then cA else cR) out :=
  PSs.imp (pss_cons (ps_if ht hA pss_nil) hR) fun E σ H ⟨F, R, q⟩ => ⟨F, R, rmono (rbind q) fun t q F' H' S => by
    cases t with
    | true =>
      refine ⟨F', R.step S, rmono q fun z q => ?_⟩
      have q := q.mono S.ff
      have n := hl z
      generalize out z = o at n q
      cases o with
      | nx s => exact absurd rfl (n s)
      | rt n d => exact q
      | bk s => exact q
      | ct s => exact q
    | false => exact ⟨F', R.step S, rmono q fun z q => q.mono S.ff⟩⟩
/-- what is ours is let stand -/
theorem Rel.frz {F H : Hp} {σ : L2.St} {i n : Nat} {d : D} (R : Rel K b sl F H σ) (e : sl[i]? = some (some (.o n d))) : ∃ F', Sub F F' ∧ Rel K b (sl.set i (some (.v d))) F' H σ := by
  obtain ⟨Cs, s1, s2, s3⟩ := R.slots
  obtain ⟨v, e1, r⟩ := s1 i _ e
  let F' : Hp := fun a => if a ∈ (Cs i).map (·.1) then H a else F a
  have ff : Sub F F' := fun a o e => by
    show (if a ∈ (Cs i).map (·.1) then H a else F a) = some o
    rw [if_neg]
    · exact e
    · intro hm
      obtain ⟨c, hc, rfl⟩ := List.mem_map.mp hm
      rw [((s2 i).2 c hc).2.1] at e; cases e
  have fc : ∀ c ∈ Cs i, F' c.1 = some c.2 := fun c hc => by
    show (if c.1 ∈ (Cs i).map (·.1) then H c.1 else F c.1) = some c.2
    rw [if_pos (List.mem_map.mpr ⟨c, hc, rfl⟩)]
    exact ((s2 i).2 c hc).1
  have fn : ∀ p, F' p = if p ∈ (Cs i).map (·.1) then H p else F p := fun _ => rfl
  refine ⟨F', ff, ⟨by simp [R.len], fun a o e => ?_, R.base, fun p hp e => ?_, R.f0.trans ff, R.fe.mono ff (fun φ e => ?_) fun _ _ => rfl, R.fb, fun j => if j = i then [] else Cs j, fun j s ej => ?_, fun j => ?_, fun j l hjl c hc c' hc' => ?_⟩⟩
  · rw [fn] at e
    split at e
    · rename_i hm
      obtain ⟨c, hc, rfl⟩ := List.mem_map.mp hm
      rw [hid_ne ((s2 i).2 c hc).2.2.2]; exact e
    · exact R.sub a o e
  · rw [fn, if_neg]
    · exact R.fro p hp e
    · intro hm
      obtain ⟨c, hc, rfl⟩ := List.mem_map.mp hm
      exact hp ((s2 i).2 c hc).2.2.1
  · rw [fn, if_neg]
    · exact (R.fe φ e).1
    · intro hm
      obtain ⟨c, hc, rfl⟩ := List.mem_map.mp hm
      exact ((s2 i).2 c hc).2.2.2 e
  · by_cases hj : j = i
    · subst hj
      have hi : j < sl.length := by
        cases q : sl[j]? with
        | none => rw [q] at e; cases e
        | some z => exact (List.getElem?_eq_some_iff.mp q).1
      rw [List.getElem?_set_self hi] at ej
      cases ej
      exact ⟨v, e1, r.rp ff fc⟩
    · rw [List.getElem?_set_ne (Ne.symm hj)] at ej
      dsimp only
      rw [if_neg hj]
      exact (s1 j s ej).mono ff
  · by_cases hj : j = i
    · dsimp only; rw [if_pos hj]; exact ⟨List.nodup_nil, fun _ h => nomatch h⟩
    · dsimp only; rw [if_neg hj]
      refine ⟨(s2 j).1, fun c hc => ?_⟩
      obtain ⟨a1, a2, a3, a4⟩ := (s2 j).2 c hc
      refine ⟨a1, ?_, a3, a4⟩
      rw [fn, if_neg]
      · exact a2
      · intro hm
        obtain ⟨c', hc', e⟩ := List.mem_map.mp hm
        exact s3 j i hj c hc c' hc' e.symm
  · dsimp only at hc hc'
    by_cases hj : j = i
    · rw [if_pos hj] at hc; cases hc
    · by_cases hl : l = i
      · rw [if_pos hl] at hc'; cases hc'
      · rw [if_neg hj] at hc; rw [if_neg hl] at hc'
        exact s3 j l hjl c hc c' hc'
theorem ds_frz (i : Nat) {n : Nat} {d : D} {sts : List Stmt} {c : m Z} (e : sl[i]? = some (some (.o n d))) (h : DS X b (sl.set i (some (.v d))) sts c out) : DS X b sl sts c out := PSs.imp h fun E σ H ⟨F, R, q⟩ => by
  obtain ⟨F', ff, R'⟩ := R.frz e
  exact ⟨F', R', rmono q fun z q => q.mono ff⟩
/-- slots forgotten ahead of a block -/
theorem ds_wk {sl' : Sls} {sts : List Stmt} {c : m Z} (w : Wk sl' sl) (h : DS X b sl' sts c out) : DS X b sl sts c out := PSs.imp h fun E σ H ⟨F, R, q⟩ => ⟨F, R.wk w, q⟩
end
end DL
namespace DL
open PySem PySem.Spec PyProof.Rows L2
inductive Ct (S R : Type) where
  | nx (s : S) | rt (r : R) | bk (s : S)
deriving DecidableEq
section
variable {m : Type → Type} [Monad m] {α S R : Type}
def forS (f : S → α → m S) : S → List α → m S
  | s, [] => pure s
  | s, x :: xs => f s x >>= fun s' => forS f s' xs
def forC (f : S → α → m (Ct S R)) : S → List α → m (Ct S R)
  | s, [] => pure (.nx s)
  | s, x :: xs => f s x >>= fun z => match z with
    | .nx s' => forC f s' xs
    | .rt r => pure (.rt r)
    | .bk s' => pure (.nx s')
end
section
variable {m : Type → Type} [Run m] {S R : Type}
def whileS (c : S → m Bool) (f : S → m S) : Nat → S → m S
  | 0, _ => Run.lift none
  | k + 1, s => c s >>= fun t => if t then f s >>= fun s' => whileS c f k s' else pure s
def whileC (c : S → m Bool) (f : S → m (Ct S R)) : Nat → S → m (Ct S R)
  | 0, _ => Run.lift none
  | k + 1, s => c s >>= fun t => if t then f s >>= fun z => match z with
    | .nx s' => whileC c f k s'
    | .rt r => pure (.rt r)
    | .bk s' => pure (.nx s') else pure (.nx s)
end
section
variable {m : Type → Type} [Run m] {α β γ : Type} {X : Cx} {b : Bs} {sl : Sls} {e e1 e2 : Expr} {md : Md} {g : α → D} {h : β → D} {K : PySem.W.Frag} {fd : Option Addr} {vs ws : List Nat} {n : Nat} {pos : Pos} {Z Z' S R : Type} {out : Z → Oc} {x : Str} {pos' : Pos}
/-! ### for -/
def oC (Ef : S → Sls) (oR : R → Oc) : Ct S R → Oc
  | .nx s => .nx (Ef s)
  | .rt r => oR r
  | .bk s => .bk (Ef s)
/-- how a loop ends -/
def oE (Ef : S → Sls) (oR : R → Oc) : Ct S R → Oc
  | .nx s => .nx (Ef s)
  | .rt r => oR r
  | .bk s => .nx (Ef s)
theorem ds_forC {tg iter : Expr} {body : List Stmt} {t : TG} {set : α → Sls → Sls} {c : m (List α)} {Ef : S → Sls} {s0 : S} {f : S → α → m (Ct S R)} {oR : R → Oc} (hR : ∀ r, ∃ n d, oR r = .rt n d) (hp : PassesOwn (model X.prog X.w) X.A X.env X.xe) (hc : X.calm = true) (hi : DI X b sl tg iter true c g) (hgt : GT X.K t ws g set) (hg : PG X tg t)
    (h0 : Wk (Ef s0) sl) (hb : ∀ s x, DS X b (set x (Ef s)) body (f s x) (oC Ef oR)) (hs : ∀ x, foldedSetIterable iter X.env x = pure x := by intro _; rfl) :
    DS1 X b sl (.For tg iter body [] pos) (c >>= fun xs => forC f s0 xs) (oE Ef oR) := by
  have hb' : PSs X body (fun E σ H => ∃ p : S × α, tB X.K b (set p.2 (Ef p.1)) (f p.1 p.2) (oC Ef oR) E σ H) := PSs.ex fun p => hb p.1 p.2
  refine PS.imp (ps_for hp hc hi hg hb' hs) fun E σ H ⟨F, R0, q⟩ => ⟨F, R0, rmono (rbind q) fun xs q J F1 H1 ok S1 it o1 fz hl => ?_⟩
  have fz := fz rfl
  have q := rmono q fun z p => OcOk.mono p S1.ff
  refine ⟨fun i k σ H => k = xs.length - i ∧ i ≤ xs.length ∧ ∃ F2 s, Sub F1 F2 ∧ ok F2 H ∧ Rel X.K b (Ef s) F2 H σ ∧ Run.run (forC f s (xs.drop i)) (fun z => OcOk X.K b F1 E (oE Ef oR z)), ⟨_, rfl, Nat.zero_le _, F1, s0, Sub.refl _, o1, (R0.step S1).wk h0, q⟩, ?_⟩
  rintro i k σ2 H2 ⟨rfl, il, F2, s, ff, o2, R2, run⟩
  by_cases hi : i < xs.length
  · refine .inr ⟨it.go F2 H2 i o2 R2.sub R2.fe (by rw [List.length_map]; exact hi), fun σ' H' => ∃ F3 s', Sub F1 F3 ∧ ok F3 H' ∧ Rel X.K b (Ef s') F3 H' σ' ∧ Run.run (forC f s' (xs.drop (i + 1))) (fun z => OcOk X.K b F1 E (oE Ef oR z)), fun σ' H' ⟨F3, s', p⟩ => ⟨xs.length - (i + 1), by omega, rfl, by omega, F3, s', p⟩, fun v H3 y => ?_⟩
    rw [List.drop_eq_getElem_cons hi] at run
    obtain ⟨F3, S3, r3⟩ := it.yld F2 H2 i v H3 (g xs[i]) o2 R2.sub R2.fe (by rw [List.getElem?_map, List.getElem?_eq_getElem hi]; rfl) y
    refine hgt.run b _ F3 H3 σ2 v xs[i] _ (R2.step S3) r3 fun σ' R' _ => ⟨(s, xs[i]), F3, R', rmono (rbind run) fun z run => ?_⟩
    have o3 := it.st _ _ _ _ o2 S3
    have f13 : Sub F1 F3 := ff.trans S3.ff
    cases z with
    | nx s' => exact fun σ4 F4 H4 f4 R4 => ⟨F4, s', f13.trans f4, fz _ _ _ _ o3 f4 R4.sub, R4, run⟩
    | rt r =>
      have run : Run.run (pure (Ct.rt r) : m (Ct S R)) (fun z => OcOk X.K b F1 E (oE Ef oR z)) := run
      have run := rpure run
      have run : OcOk X.K b F1 E (oR r) := run
      have run := OcOk.mono run f13
      show OcOk X.K b F3 _ (oR r)
      obtain ⟨n, d, e⟩ := hR r
      rw [e] at run ⊢
      exact run
    | bk s' =>
      have run : Run.run (pure (Ct.nx s') : m (Ct S R)) (fun z => OcOk X.K b F1 E (oE Ef oR z)) := run
      have run := rpure run
      have run : OcOk X.K b F1 E (.nx (Ef s')) := run
      exact OcOk.mono run f13
  · have e : i = xs.length := by omega
    subst e
    rw [List.drop_length] at run
    have run := rpure run
    exact .inl ⟨by have := it.stop F2 H2 o2 R2.sub R2.fe; rwa [List.length_map] at this, run σ2 F2 H2 ff R2⟩
theorem ds_for {tg iter : Expr} {body : List Stmt} {t : TG} {set : α → Sls → Sls} {c : m (List α)} {Ef : S → Sls} {s0 : S} {f : S → α → m S} (hp : PassesOwn (model X.prog X.w) X.A X.env X.xe) (hc : X.calm = true) (hi : DI X b sl tg iter true c g) (hgt : GT X.K t ws g set) (hg : PG X tg t)
    (h0 : Wk (Ef s0) sl) (hb : ∀ s x, DS X b (set x (Ef s)) body (f s x) (fun s => .nx (Ef s))) (hs : ∀ x, foldedSetIterable iter X.env x = pure x := by intro _; rfl) :
    DS1 X b sl (.For tg iter body [] pos) (c >>= fun xs => forS f s0 xs) (fun s => .nx (Ef s)) := by
  have hb' : PSs X body (fun E σ H => ∃ p : S × α, tB X.K b (set p.2 (Ef p.1)) (f p.1 p.2) (fun s => .nx (Ef s)) E σ H) := PSs.ex fun p => hb p.1 p.2
  refine PS.imp (ps_for hp hc hi hg hb' hs) fun E σ H ⟨F, R0, q⟩ => ⟨F, R0, rmono (rbind q) fun xs q J F1 H1 ok S1 it o1 fz hl => ?_⟩
  have fz := fz rfl
  have q := rmono q fun z p => OcOk.mono p S1.ff
  refine ⟨fun i k σ H => k = xs.length - i ∧ i ≤ xs.length ∧ ∃ F2 s, Sub F1 F2 ∧ ok F2 H ∧ Rel X.K b (Ef s) F2 H σ ∧ Run.run (forS f s (xs.drop i)) (fun z => OcOk X.K b F1 E (.nx (Ef z))), ⟨_, rfl, Nat.zero_le _, F1, s0, Sub.refl _, o1, (R0.step S1).wk h0, q⟩, ?_⟩
  rintro i k σ2 H2 ⟨rfl, il, F2, s, ff, o2, R2, run⟩
  by_cases hi : i < xs.length
  · refine .inr ⟨it.go F2 H2 i o2 R2.sub R2.fe (by rw [List.length_map]; exact hi), fun σ' H' => ∃ F3 s', Sub F1 F3 ∧ ok F3 H' ∧ Rel X.K b (Ef s') F3 H' σ' ∧ Run.run (forS f s' (xs.drop (i + 1))) (fun z => OcOk X.K b F1 E (.nx (Ef z))), fun σ' H' ⟨F3, s', p⟩ => ⟨xs.length - (i + 1), by omega, rfl, by omega, F3, s', p⟩, fun v H3 y => ?_⟩
    rw [List.drop_eq_getElem_cons hi] at run
    obtain ⟨F3, S3, r3⟩ := it.yld F2 H2 i v H3 (g xs[i]) o2 R2.sub R2.fe (by rw [List.getElem?_map, List.getElem?_eq_getElem hi]; rfl) y
    refine hgt.run b _ F3 H3 σ2 v xs[i] _ (R2.step S3) r3 fun σ' R' _ => ⟨(s, xs[i]), F3, R', rmono (rbind run) fun z run => ?_⟩
    have o3 := it.st _ _ _ _ o2 S3
    have f13 : Sub F1 F3 := ff.trans S3.ff
    exact fun σ4 F4 H4 f4 R4 => ⟨F4, z, f13.trans f4, fz _ _ _ _ o3 f4 R4.sub, R4, run⟩
  · have e : i = xs.length := by omega
    subst e
    rw [List.drop_length] at run
    have run := rpure run
    exact .inl ⟨by have := it.stop F2 H2 o2 R2.sub R2.fe; rwa [List.length_map] at this, run σ2 F2 H2 ff R2⟩
/-! ### while -/
theorem ds_while {tst : Expr} {body : List Stmt} {cc : S → m Bool} {f : S → m S} {Ef : S → Sls} {s0 : S} (N : Nat) (hp : PassesOwn (model X.prog X.w) X.A X.env X.xe) (ht : ∀ s, DT X b (Ef s) tst (cc s)) (h0 : Wk (Ef s0) sl) (hb : ∀ s, DS X b (Ef s) body (f s) (fun s => .nx (Ef s))) :
    DS1 X b sl (.While tst body [] pos) (whileS cc f N s0) (fun s => .nx (Ef s)) := by
  have hb' : PSs X body (fun E σ H => ∃ s : S, tB X.K b (Ef s) (f s) (fun s => .nx (Ef s)) E σ H) := PSs.ex hb
  have ht' : PT X tst (tEx fun s => tTT X.K b (Ef s) (cc s)) := PT.ex ht
  refine PS.imp (ps_while hp ht' hb') fun E σ H ⟨F, R0, q⟩ => ?_
  refine ⟨fun k σ H => ∃ F2 s, Sub F F2 ∧ Rel X.K b (Ef s) F2 H σ ∧ Run.run (whileS cc f k s) (fun z => OcOk X.K b F E (.nx (Ef z))), ⟨N, F, s0, Sub.refl _, R0.wk h0, q⟩, ?_⟩
  rintro k σ2 H2 ⟨F2, s, ff, R2, run⟩
  cases k with
  | zero =>
    obtain ⟨_, e, _⟩ := rlift run
    cases e
  | succ k =>
    refine ⟨s, F2, R2, rmono (rbind run) fun t run F3 H3 S3 => ?_⟩
    have R3 := R2.step S3
    cases t with
    | false =>
      dsimp only
      rw [if_neg Bool.false_ne_true] at run ⊢
      have run := rpure run
      exact run σ2 F3 H3 (ff.trans S3.ff) R3
    | true =>
      dsimp only
      rw [if_pos rfl] at run ⊢
      refine ⟨fun σ' H' => ∃ F4 s', Sub F F4 ∧ Rel X.K b (Ef s') F4 H' σ' ∧ Run.run (whileS cc f k s') (fun z => OcOk X.K b F E (.nx (Ef z))), fun σ' H' ⟨F4, s', p⟩ => ⟨k, Nat.lt_succ_self _, F4, s', p⟩, s, F3, R3, rmono (rbind run) fun s' run => ?_⟩
      exact fun σ4 F4 H4 f4 R4 => ⟨F4, s', (ff.trans S3.ff).trans f4, R4, run⟩
theorem ds_whileC {tst : Expr} {body : List Stmt} {cc : S → m Bool} {f : S → m (Ct S R)} {Ef : S → Sls} {s0 : S} {oR : R → Oc} (hR : ∀ r, ∃ n d, oR r = .rt n d) (N : Nat) (hp : PassesOwn (model X.prog X.w) X.A X.env X.xe) (ht : ∀ s, DT X b (Ef s) tst (cc s)) (h0 : Wk (Ef s0) sl) (hb : ∀ s, DS X b (Ef s) body (f s) (oC Ef oR)) :
    DS1 X b sl (.While tst body [] pos) (whileC cc f N s0) (oE Ef oR) := by
  have hb' : PSs X body (fun E σ H => ∃ s : S, tB X.K b (Ef s) (f s) (oC Ef oR) E σ H) := PSs.ex hb
  have ht' : PT X tst (tEx fun s => tTT X.K b (Ef s) (cc s)) := PT.ex ht
  refine PS.imp (ps_while hp ht' hb') fun E σ H ⟨F, R0, q⟩ => ?_
  refine ⟨fun k σ H => ∃ F2 s, Sub F F2 ∧ Rel X.K b (Ef s) F2 H σ ∧ Run.run (whileC cc f k s) (fun z => OcOk X.K b F E (oE Ef oR z)), ⟨N, F, s0, Sub.refl _, R0.wk h0, q⟩, ?_⟩
  rintro k σ2 H2 ⟨F2, s, ff, R2, run⟩
  cases k with
  | zero =>
    obtain ⟨_, e, _⟩ := rlift run
    cases e
  | succ k =>
    refine ⟨s, F2, R2, rmono (rbind run) fun t run F3 H3 S3 => ?_⟩
    have R3 := R2.step S3
    cases t with
    | false =>
      dsimp only
      rw [if_neg Bool.false_ne_true] at run ⊢
      have run := rpure run
      exact run σ2 F3 H3 (ff.trans S3.ff) R3
    | true =>
      dsimp only
      rw [if_pos rfl] at run ⊢
      refine ⟨fun σ' H' => ∃ F4 s', Sub F F4 ∧ Rel X.K b (Ef s') F4 H' σ' ∧ Run.run (whileC cc f k s') (fun z => OcOk X.K b F E (oE Ef oR z)), fun σ' H' ⟨F4, s', p⟩ => ⟨k, Nat.lt_succ_self _, F4, s', p⟩, s, F3, R3, rmono (rbind run) fun z run => ?_⟩
      have f13 := ff.trans S3.ff
      cases z with
      | nx s' => exact fun σ4 F4 H4 f4 R4 => ⟨F4, s', f13.trans f4, R4, run⟩
      | rt r =>
        have run : Run.run (pure (Ct.rt r) : m (Ct S R)) (fun z => OcOk X.K b F E (oE Ef oR z)) := run
        have run := rpure run
        have run : OcOk X.K b F E (oR r) := run
        have run := OcOk.mono run f13
        show OcOk X.K b F3 _ (oR r)
        obtain ⟨n, d, e⟩ := hR r
        rw [e] at run ⊢
        exact run
      | bk s' =>
        have run : Run.run (pure (Ct.nx s') : m (Ct S R)) (fun z => OcOk X.K b F E (oE Ef oR z)) := run
        have run := rpure run
        have run : OcOk X.K b F E (.nx (Ef s')) := run
        exact OcOk.mono run f13
end
end DL
namespace DL
open PySem PySem.Spec PyProof.Rows L2
section
variable {K : PySem.W.Frag} {b : Bs} {sl : Sls} {F H F1 H1 : Hp} {σ : L2.St}
/-- a cell of slot i changes, what is known of slot i changes -/
theorem Rel.core (R : Rel K b sl F H σ) (Cs : Nat → List Cell) (s1 : ∀ i s, sl[i]? = some (some s) → SlOk K F b.fd σ[i]? (Cs i) s)
    (s2 : ∀ i, ((Cs i).map (·.1)).Nodup ∧ ∀ c ∈ Cs i, H c.1 = some c.2 ∧ F c.1 = none ∧ b.B c.1 = none ∧ b.fd ≠ some c.1) (s3 : ∀ i j, i ≠ j → ∀ c ∈ Cs i, ∀ c' ∈ Cs j, c.1 ≠ c'.1)
    {i : Nat} {p : Addr} {u o' : HO} (hp : (p, u) ∈ Cs i) {s : Option Sl} {C' : List Cell} (hs : ∀ z, s = some z → i < sl.length → SlOk K F b.fd σ[i]? C' z) (nd : (C'.map (·.1)).Nodup)
    (hC : ∀ c ∈ C', upd H p o' c.1 = some c.2 ∧ F c.1 = none ∧ b.B c.1 = none ∧ b.fd ≠ some c.1) (dis : ∀ j, j ≠ i → ∀ c ∈ Cs j, ∀ c' ∈ C', c.1 ≠ c'.1) : Rel K b (sl.set i s) F (upd H p o') σ := by
  obtain ⟨hpu, hpF, hpB, hpfd⟩ := (s2 i).2 _ hp
  have keep : ∀ a o, hid b.fd H a = some o → a ≠ p → hid b.fd (upd H p o') a = some o := fun a o e ne => by
    by_cases ha : b.fd = some a
    · unfold hid at e; rw [if_pos ha] at e; cases e
    · rw [hid_ne ha] at e ⊢; rw [upd_ne ne]; exact e
  refine ⟨by simp [R.len], fun a o e => keep a o (R.sub a o e) (fun z => by rw [z, hpF] at e; cases e), fun a o e => keep a o (R.base a o e) (fun z => ?_), R.fro, R.f0, R.fe.mono (Sub.refl _) (fun φ e => (R.fe φ e).1) fun φ e => upd_ne fun z => hpfd (by rw [e, z]), R.fb,
    fun j => if j = i then C' else Cs j, fun j z e => ?_, fun j => ?_, fun j l hjl c hc c' hc' => ?_⟩
  · rw [z] at e
    rw [hid_ne hpfd, hpB] at e; cases e
  · by_cases hj : j = i
    · subst hj
      dsimp only
      rw [if_pos rfl]
      have hl : j < sl.length := by
        have := (List.getElem?_eq_some_iff.mp e).1
        simpa using this
      rw [List.getElem?_set_self hl] at e
      exact hs z (Option.some.inj e) hl
    · dsimp only
      rw [if_neg hj]
      rw [List.getElem?_set_ne (Ne.symm hj)] at e
      exact s1 j z e
  · by_cases hj : j = i
    · dsimp only; rw [if_pos hj]; exact ⟨nd, hC⟩
    · dsimp only; rw [if_neg hj]
      refine ⟨(s2 j).1, fun c hc => ?_⟩
      obtain ⟨a1, a2, a3, a4⟩ := (s2 j).2 c hc
      exact ⟨by rw [upd_ne (s3 j i hj c hc _ hp)]; exact a1, a2, a3, a4⟩
  · dsimp only at hc hc'
    by_cases hj : j = i
    · rw [if_pos hj] at hc
      have hl : l ≠ i := fun z => hjl (hj.trans z.symm)
      rw [if_neg hl] at hc'
      exact (dis l hl c' hc' c hc).symm
    · rw [if_neg hj] at hc
      by_cases hl : l = i
      · rw [if_pos hl] at hc'; exact dis j hj c hc c' hc'
      · rw [if_neg hl] at hc'; exact s3 j l hjl c hc c' hc'
theorem Rel.app (R : Rel K b sl F H σ) {i n : Nat} {ds : List D} {v : V} {d : D} {Cn : List Cell} (e : sl[i]? = some (some (.o (n + 1) (.list ds)))) (S : Step K b.fd F H F1 H1) (o : Own K F1 n v d Cn) (hC : Holds Cn F1 H1 H) :
    ∃ p vs, σ[i]? = some (some (.ref p)) ∧ H p = some (.lst vs) ∧ b.fd ≠ some p ∧ H1 p = some (.lst vs) ∧ vs.length = ds.length ∧ (ds.length < sizeLine → Rel K b (sl.set i (some (.o (n + 1) (.list (ds ++ [d]))))) F1 (upd H1 p (.lst (vs ++ [v]))) σ) := by
  have R1 := R.step S
  obtain ⟨Cs, s1, s2, s3⟩ := R.slots
  obtain ⟨w, e1, r⟩ := s1 i _ e
  generalize hCi : Cs i = C at r
  cases r with
  | s a _ => cases a
  | lst oa l =>
    rename_i p vs C
    have hm : (p, HO.lst vs) ∈ Cs i := by rw [hCi]; exact List.mem_cons_self
    have at1 : ∀ j, ∀ c ∈ Cs j, H1 c.1 = some c.2 ∧ F1 c.1 = none ∧ b.B c.1 = none ∧ b.fd ≠ some c.1 := fun j c hc => by
      obtain ⟨h1, h2, h3, h4⟩ := (s2 j).2 c hc
      have := S.hh c.1 c.2 (by rw [hid_ne h4]; exact h1)
      rw [hid_ne h4] at this
      exact ⟨this, S.st c.1 (by rw [h1]; simp) h2, h3, h4⟩
    obtain ⟨hp, _, _, hfd⟩ := (s2 i).2 _ hm
    have new : ∀ c ∈ Cn, ∀ j, ∀ c' ∈ Cs j, c'.1 ≠ c.1 := fun c hc j c' hc' z => by
      have q := ((s2 j).2 c' hc').1
      rw [z, (hC.2 c hc).2.2] at q; cases q
    have nfd : ∀ c ∈ Cn, b.fd ≠ some c.1 := fun c hc z => by
      obtain ⟨u, q⟩ := R.fe.some z
      rw [(hC.2 c hc).2.2] at q; cases q
    have nB : ∀ c ∈ Cn, b.B c.1 = none := fun c hc => by
      cases q : b.B c.1 with
      | none => rfl
      | some u =>
        have := R.base c.1 u (by rw [hid_ne (nfd c hc)]; exact q)
        rw [hid_ne (nfd c hc), (hC.2 c hc).2.2] at this; cases this
    have nd := (s2 i).1
    rw [hCi, List.map_cons, List.nodup_cons] at nd
    refine ⟨p, vs, e1, hp, hfd, (at1 i _ hm).1, oa.length, fun hl => R1.core Cs (fun j s e => (s1 j s e).mono S.ff) (fun j => ⟨(s2 j).1, at1 j⟩) s3 hm (C' := (p, .lst (vs ++ [v])) :: (C ++ Cn)) (fun z hz _ => ?_) ?_ (fun c hc => ?_) fun j hj c hc c' hc' => ?_⟩
    · cases hz
      refine ⟨_, e1, .lst ?_ (by rw [List.length_append]; exact hl)⟩
      have o5 : OwnAll K F1 n [v] [d] Cn := by
        have := OwnAll.cons o .nil
        rwa [List.append_nil] at this
      exact (oa.mono S.ff).append o5
    · rw [List.map_cons, List.nodup_cons, List.map_append]
      refine ⟨fun hx => ?_, List.nodup_append.mpr ⟨nd.2, hC.1, fun a ha a' ha' z => ?_⟩⟩
      · rcases List.mem_append.mp hx with hx | hx
        · exact nd.1 hx
        · obtain ⟨c, hc, e⟩ := List.mem_map.mp hx
          exact new c hc i _ hm e.symm
      · obtain ⟨c, hc, rfl⟩ := List.mem_map.mp ha
        obtain ⟨c', hc', rfl⟩ := List.mem_map.mp ha'
        exact new c' hc' i c (by rw [hCi]; exact List.mem_cons_of_mem _ hc) z
    · rcases List.mem_cons.mp hc with rfl | hc
      · exact ⟨upd_same, (at1 i _ hm).2⟩
      · rcases List.mem_append.mp hc with hc | hc
        · have hc' : c ∈ Cs i := by rw [hCi]; exact List.mem_cons_of_mem _ hc
          refine ⟨?_, (at1 i c hc').2⟩
          rw [upd_ne fun z => nd.1 (by rw [← z]; exact List.mem_map.mpr ⟨c, hc, rfl⟩)]
          exact (at1 i c hc').1
        · refine ⟨?_, (hC.2 c hc).2.1, nB c hc, nfd c hc⟩
          rw [upd_ne fun z => new c hc i _ hm z.symm]
          exact (hC.2 c hc).1
    · rcases List.mem_cons.mp hc' with rfl | hc'
      · exact s3 j i hj c hc (p, .lst vs) hm
      · rcases List.mem_append.mp hc' with hc' | hc'
        · exact s3 j i hj c hc c' (by rw [hCi]; exact List.mem_cons_of_mem _ hc')
        · exact new c' hc' j c hc
/-- a list of things that stay, told anew -/
theorem Rel.put (R : Rel K b sl F H σ) {i : Nat} {ds : List D} (e : sl[i]? = some (some (.o 1 (.list ds)))) :
    ∃ p vs, σ[i]? = some (some (.ref p)) ∧ H p = some (.lst vs) ∧ b.fd ≠ some p ∧ RpAll K F vs ds ∧ ds.length ≤ sizeLine ∧ ∀ vs' ds', RpAll K F vs' ds' → ds'.length ≤ sizeLine → Rel K b (sl.set i (some (.o 1 (.list ds')))) F (upd H p (.lst vs')) σ := by
  obtain ⟨Cs, s1, s2, s3⟩ := R.slots
  obtain ⟨w, e1, r⟩ := s1 i _ e
  generalize hCi : Cs i = C at r
  cases r with
  | s a _ => cases a
  | lst oa l =>
    rename_i p vs C
    have hm : (p, HO.lst vs) ∈ Cs i := by rw [hCi]; exact List.mem_cons_self
    obtain ⟨hp, hF, hB, hfd⟩ := (s2 i).2 _ hm
    refine ⟨p, vs, e1, hp, hfd, oa.zero'.1, l, fun vs' ds' r' l' => R.core Cs s1 s2 s3 hm (C' := [(p, .lst vs')]) (fun z hz _ => ?_) (by simp) (fun c hc => ?_) fun j hj c hc c' hc' => ?_⟩
    · cases hz
      exact ⟨_, e1, .lst (OwnAll.zero r') l'⟩
    · have : c = (p, .lst vs') := by simpa using hc
      subst this
      exact ⟨upd_same, hF, hB, hfd⟩
    · have : c' = (p, .lst vs') := by simpa using hc'
      subst this
      exact s3 j i hj c hc (p, .lst vs) hm
/-- a list that is spoilt -/
theorem Rel.spoil (R : Rel K b sl F H σ) {i n : Nat} {ds : List D} (e : sl[i]? = some (some (.o (n + 1) (.list ds)))) :
    ∃ p vs, σ[i]? = some (some (.ref p)) ∧ H p = some (.lst vs) ∧ b.fd ≠ some p ∧ vs.length = ds.length ∧ ∀ o', Rel K b (sl.set i none) F (upd H p o') σ := by
  obtain ⟨Cs, s1, s2, s3⟩ := R.slots
  obtain ⟨w, e1, r⟩ := s1 i _ e
  generalize hCi : Cs i = C at r
  cases r with
  | s a _ => cases a
  | lst oa l =>
    rename_i p vs C
    have hm : (p, HO.lst vs) ∈ Cs i := by rw [hCi]; exact List.mem_cons_self
    obtain ⟨hp, hF, hB, hfd⟩ := (s2 i).2 _ hm
    exact ⟨p, vs, e1, hp, hfd, oa.length, fun o' => R.core Cs s1 s2 s3 hm (C' := []) (fun z hz => by cases hz) (by simp) (fun c hc => by cases hc) fun j hj c hc c' hc' => by cases hc'⟩
theorem OwnAll.get {n : Nat} {vs : List V} {ds : List D} {C : List Cell} (h : OwnAll K F n vs ds C) {k : Nat} {d : D} (e : ds[k]? = some d) : ∃ v C', vs[k]? = some v ∧ Own K F n v d C' ∧ ∀ c ∈ C', c ∈ C := by
  induction ds generalizing vs C k with
  | nil => simp at e
  | cons x ds ih =>
    cases h with
    | cons a t =>
      cases k with
      | zero => simp at e; subst e; exact ⟨_, _, rfl, a, fun c hc => List.mem_append_left _ hc⟩
      | succ k =>
        obtain ⟨v, C', e1, e2, e3⟩ := ih t (by simpa using e)
        exact ⟨v, C', by simpa using e1, e2, fun c hc => List.mem_append_right _ (e3 c hc)⟩
/-- a list in it is spoilt -/
theorem Rel.spoil2 (R : Rel K b sl F H σ) {i n k : Nat} {ds es : List D} (e : sl[i]? = some (some (.o (n + 2) (.list ds)))) (ek : ds[k]? = some (.list es)) :
    ∃ p vs q us, σ[i]? = some (some (.ref p)) ∧ hid b.fd H p = some (.lst vs) ∧ vs.length = ds.length ∧ vs[k]? = some (.ref q) ∧ H q = some (.lst us) ∧ b.fd ≠ some q ∧ us.length = es.length ∧ ∀ o', Rel K b (sl.set i none) F (upd H q o') σ := by
  obtain ⟨Cs, s1, s2, s3⟩ := R.slots
  obtain ⟨w, e1, r⟩ := s1 i _ e
  generalize hCi : Cs i = C at r
  cases r with
  | s a _ => cases a
  | lst oa l =>
    rename_i p vs C
    have hm : (p, HO.lst vs) ∈ Cs i := by rw [hCi]; exact List.mem_cons_self
    obtain ⟨hp, hF, hB, hfd⟩ := (s2 i).2 _ hm
    obtain ⟨v, C', ev, ov, sub⟩ := oa.get ek
    cases ov with
    | s a _ => cases a
    | lst ob l' =>
      rename_i q us C'
      have hq : (q, HO.lst us) ∈ Cs i := by rw [hCi]; exact List.mem_cons_of_mem _ (sub _ List.mem_cons_self)
      obtain ⟨kp, kF, kB, kfd⟩ := (s2 i).2 _ hq
      exact ⟨p, vs, q, us, e1, by rw [hid_ne hfd]; exact hp, oa.length, ev, kp, kfd, ob.length, fun o' => R.core Cs s1 s2 s3 hq (C' := []) (fun z hz => by cases hz) (by simp) (fun c hc => by cases hc) fun j hj c hc c' hc' => by cases hc'⟩
end
section
variable {m : Type → Type} [Run m] {α β γ : Type} {X : Cx} {b : Bs} {sl : Sls} {e e1 e2 : Expr} {md : Md} {g : α → D} {h : β → D} {K : PySem.W.Frag} {c : m α} {n : Nat} {pos apos cpos : Pos} {x : Str}
def lapp {α : Type} (xs : List α) (x : α) : Option (List α) := if xs.length < 16777216 then some (xs ++ [x]) else none
theorem ls_map {xs : List α} : eL g xs = .list (xs.map g) := rfl
theorem lapp_ok {xs : List α} {x : α} {z : List α} (h : lapp xs x = some z) : xs.length < 16777216 ∧ xs ++ [x] = z := some_if h
/-- xs.append(e): xs is ours -/
theorem ds_append (i : Nat) (xs : List α) (he : DM X b sl e (.ow n) c g) (hx : sl[i]? = some (some (.o (n + 1) (eL g xs))) := by rfl) (hN : X.N[i]? = some x := by rfl) (hv : Vis X.env.scope x := by first | exact Or.inl rfl | exact Or.inr (Or.inl rfl) | exact Or.inr (Or.inr rfl)) (hd : (x == ("__debug__" : Str)) = false := by decide)
    (hcd : (x == ("__classdict__" : Str)) = false := by decide) (hbase : attributeBase (.Name x pos) "append" X.env (eval (.Name x pos) X.env) = eval (.Name x pos) X.env := by rfl)
    (hfew : ((backTo cpos (starEach [e] X.env)).all (fun x => !x.1) && (backToKw cpos (keywordEach [] X.env)).all (fun x => x.1.isSome) && decide ([e].length + ([] : List Keyword).length + (if ([] : List Keyword).isEmpty then 0 else 1) < 30)) = true := by rfl)
    (hline : (apos.endLine == cpos.line) = true := by rfl) (hs : starEach [e] X.env = (false, eval e X.env) :: starEach [] X.env := by rfl) (hplain : (backTo cpos (starEach [] X.env)).any (·.1) = false := by rfl) {spos : Pos}
    (hsw : swapsWith (.Call (.Attribute (.Name x pos) "append" apos) [e] [] cpos) none spos.line X.env = pure false := by rfl) :
    DS1 X b sl (.Expr (.Call (.Attribute (.Name x pos) "append" apos) [e] [] cpos) spos) (c >>= fun y => Run.lift (lapp xs y)) (fun zs => .nx (sl.set i (some (.o (n + 1) (eL g zs))))) :=
  PS.imp (ps_expr (pe_bm PySem.F.plainAttrs_list PySem.F.slot_list_append PySem.F.type_list_append mt_append (pe_var hN hv hd hcd) (pa_cons he pa_nil hs) hbase hfew hline hs hplain) hsw) fun E σ H ⟨F, R, q⟩ => by
    obtain ⟨p, vs, e1, hp, _, _⟩ := R.spoil hx
    refine ⟨.ref p, e1, .inl ⟨rfl, vs, SqL.of hp⟩, F, R, rmono (rbind q) fun y q v F1 H1 C S1 o1 k1 => ?_⟩
    obtain ⟨z, ez, q⟩ := rlift q
    obtain ⟨hl, rfl⟩ := lapp_ok ez
    obtain ⟨p', vs', e2, _, hfd, hp', hlen, fin⟩ := R.app hx S1 o1 k1
    rw [e1] at e2
    cases e2
    refine ⟨p, vs', v, rfl, rfl, hp', by rw [hlen, List.length_map]; exact hl, q _ F1 _ S1.ff ?_⟩
    have := fin (by rw [List.length_map]; exact hl)
    rw [ls_map, List.map_append]
    exact this
/-- .. which is asked no more -/
theorem ds_spoil (i : Nat) {c : m β} {g' : β → D} (xs : List α) (he : DM X b sl e md c g') (hx : sl[i]? = some (some (.o (n + 1) (eL g xs))) := by rfl) (hN : X.N[i]? = some x := by rfl) (hv : Vis X.env.scope x := by first | exact Or.inl rfl | exact Or.inr (Or.inl rfl) | exact Or.inr (Or.inr rfl)) (hd : (x == ("__debug__" : Str)) = false := by decide)
    (hcd : (x == ("__classdict__" : Str)) = false := by decide) (hbase : attributeBase (.Name x pos) "append" X.env (eval (.Name x pos) X.env) = eval (.Name x pos) X.env := by rfl)
    (hfew : ((backTo cpos (starEach [e] X.env)).all (fun x => !x.1) && (backToKw cpos (keywordEach [] X.env)).all (fun x => x.1.isSome) && decide ([e].length + ([] : List Keyword).length + (if ([] : List Keyword).isEmpty then 0 else 1) < 30)) = true := by rfl)
    (hline : (apos.endLine == cpos.line) = true := by rfl) (hs : starEach [e] X.env = (false, eval e X.env) :: starEach [] X.env := by rfl) (hplain : (backTo cpos (starEach [] X.env)).any (·.1) = false := by rfl) {spos : Pos}
    (hsw : swapsWith (.Call (.Attribute (.Name x pos) "append" apos) [e] [] cpos) none spos.line X.env = pure false := by rfl) :
    DS1 X b sl (.Expr (.Call (.Attribute (.Name x pos) "append" apos) [e] [] cpos) spos) (c >>= fun _ => Run.lift (if xs.length < 16777216 then some () else none)) (fun _ => .nx (sl.set i none)) :=
  PS.imp (ps_expr (pe_bm PySem.F.plainAttrs_list PySem.F.slot_list_append PySem.F.type_list_append mt_append (pe_var hN hv hd hcd) (pa_cons he pa_nil hs) hbase hfew hline hs hplain) hsw) fun E σ H ⟨F, R, q⟩ => by
    obtain ⟨p, vs, e1, hp, _, _⟩ := R.spoil hx
    refine ⟨.ref p, e1, .inl ⟨rfl, vs, SqL.of hp⟩, F, R, rmono (rbind q) fun y q => ?_⟩
    obtain ⟨z, ez, q⟩ := rlift q
    obtain ⟨hl, _⟩ := some_if ez
    have go : ∀ (v : V) F1 H1, Step X.K b.fd F H F1 H1 → rAppend (.ref p) [v] H1 (fun _ H2 => E.nx σ H2) := fun v F1 H1 S1 => by
      obtain ⟨p', vs', e2, hp', hfd, hlen, fin⟩ := (R.step S1).spoil hx
      rw [e1] at e2
      cases e2
      exact ⟨p, vs', v, rfl, rfl, hp', by rw [hlen, List.length_map]; exact hl, q _ F1 _ S1.ff (fin _)⟩
    cases md with
    | pk => exact fun v F1 H1 S1 r => go v F1 H1 S1
    | ow n => exact fun v F1 H1 C S1 r k => go v F1 H1 S1
end
end DL
namespace DL
open PySem PySem.Spec PyProof.Rows L2
/-- the context of a def's body -/
abbrev XO (P : Program) (w : World) (K : PySem.W.Frag) (mg : Str → Option Value) (base : Heap) (N : List Str) (qual : Str) (st : Stmt) (f : Addr) (cdv : Value) (A : Around) (outer : List Env) (s : Shared) (H : Hp) (E : XK) : Cx :=
  (cxOf CX0 P w K mg base N qual (defScope st) f cdv A outer s H E).nox
def slD (k : Nat) (ds : List (Option D)) : Sls := ds.map (fun d => match d with | some d => some (.v d) | none => some .feed) ++ List.replicate (k - ds.length) none
section
variable {P : Program} {w : World} {K : PySem.W.Frag} {mg : Str → Option Value} {base : Heap} {α β : Type} {b : Bs}
theorem start_slots {F : Hp} {vs : List V} {ds : List (Option D)} {N : List Str} {fd : Option Addr} (h : ArgsOk K F fd vs ds) (hN : ds.length ≤ N.length) : (L2.start N vs).length = (slD N.length ds).length ∧ ∀ (i : Nat) (s : Sl), (slD N.length ds)[i]? = some (some s) → SlOk K F fd (L2.start N vs)[i]? [] s := by
  have hl := h.length
  refine ⟨by simp [L2.start, slD, hl], fun i s e => ?_⟩
  have gen : ∀ (k : Nat) (vs : List V) (ds : List (Option D)) (i : Nat), ArgsOk K F fd vs ds → (ds.map (fun d => match d with | some d => some (Sl.v d) | none => some Sl.feed) ++ List.replicate k none)[i]? = some (some s) → SlOk K F fd (vs.map some ++ List.replicate k none)[i]? [] s := by
    intro k vs ds i h
    induction h generalizing i with
    | nil =>
      intro e
      rw [List.map_nil, List.nil_append, List.getElem?_replicate] at e
      split at e <;> cases e
    | val r _ ih =>
      intro e
      cases i with
      | zero => cases e; exact ⟨_, rfl, r⟩
      | succ i => exact ih i e
    | feed r _ ih =>
      intro e
      cases i with
      | zero => cases e; exact ⟨_, rfl, r⟩
      | succ i => exact ih i e
  have := gen (N.length - ds.length) vs ds i h e
  unfold L2.start
  rw [hl]
  exact this
/-- a def's state at its start -/
theorem rel_start {F H : Hp} {vs : List V} {ds : List (Option D)} {N : List Str} {fd : Option Addr} (h : ArgsOk K F fd vs ds) (hN : ds.length ≤ N.length) (fh : Sub F (hid fd H)) (fe : FeedOk K fd F H) : Rel K ⟨H, F, fd⟩ (slD N.length ds) F H (L2.start N vs) := by
  obtain ⟨h1, h2⟩ := start_slots h hN
  refine ⟨h1, fh, Sub.refl _, fun p _ e => e, Sub.refl _, fe, fun φ e => ?_, fun _ => [], h2, fun i => ⟨List.nodup_nil, fun _ h => nomatch h⟩, fun i j _ c hc => nomatch hc⟩
  obtain ⟨q, l, ns, i, c, s, hq, _⟩ := fe φ e
  exact ⟨by show H φ ≠ none; rw [hq]; simp, q⟩
theorem RelB.step {F H F' H' : Hp} {fd : Option Addr} (fe : FeedOk K fd F H) (R : RelB K ⟨H, F, fd⟩ F' H') : Step K fd F H F' H' := ⟨R.f0, R.base, R.sub, R.fro, R.fe⟩
variable {x qual : Str} {st : Stmt} {f : Addr} {fd : FuncData} {N ps : List Str} {k n : Nat} {g : β → D}
theorem fn_D {gs : α → List D} {fM : α → Option β} {sl : α → Sls} (F : Fun K x qual st f fd) (S : FnScope N ps (defScope st)) (hlen : ∀ x, (gs x).length = ps.length) (hsl : ∀ x, slD N.length ((gs x).map some) = sl x)
    (body : ∀ (cdv : Value) (A : Around) (outer : List Env) (s : Shared) (H : Hp) (E : XK), Room k (A.deeper (envOfC qual (defScope st) s.heap.objs.size f cdv)) → ∀ (b : Bs) (x : α), DS (XO P w K mg base N qual st f cdv A outer s H E) b (sl x) (defBody st) (fM x) (fun r => .rt n (g r))) :
    FnOk P w K mg base CX0 (k + 1) f fd ps (spD K gs fM n g) := by
  have hNl : ps.length ≤ N.length := by
    have := congrArg List.length S.pre
    rw [List.length_take] at this
    omega
  refine F.ok S (fun vs H Q E h => ?_) fun cdv A outer s H vs Q E hr h => ?_
  · obtain ⟨F, x, _, a, _⟩ := h
    rw [a.length, List.length_map, hlen]
  · obtain ⟨F, x, fh, a, q⟩ := h
    refine ⟨_, body cdv A outer s H E hr ⟨H, F, none⟩ x, F, ?_, rmono q fun y p => ?_⟩
    · rw [← hsl]
      exact rel_start a (by rw [List.length_map, hlen]; exact hNl) (by rw [hid_none]; exact fh) FeedOk.no
    · intro v F' H' C ff RB o hc
      have S' : Step K none F H F' H' := RB.step FeedOk.no
      exact p v F' H' C S' o ⟨hc.1, hc.2⟩
theorem fn_F {gs : α → List (Option D)} {fM : α → W β} {sl : α → Sls} (F : Fun K x qual st f fd) (S : FnScope N ps (defScope st)) (hlen : ∀ x, (gs x).length = ps.length) (hsl : ∀ x, slD N.length (gs x) = sl x)
    (body : ∀ (cdv : Value) (A : Around) (outer : List Env) (s : Shared) (H : Hp) (E : XK), Room k (A.deeper (envOfC qual (defScope st) s.heap.objs.size f cdv)) → ∀ (b : Bs) (_ : b.fd ≠ none) (x : α), DS (XO P w K mg base N qual st f cdv A outer s H E) b (sl x) (defBody st) (fM x) (fun r => .rt n (g r))) :
    FnOk P w K mg base CX0 (k + 1) f fd ps (spF K gs fM n g) := by
  have hNl : ps.length ≤ N.length := by
    have := congrArg List.length S.pre
    rw [List.length_take] at this
    omega
  refine F.ok S (fun vs H Q E h => ?_) fun cdv A outer s H vs Q E hr h => ?_
  · obtain ⟨F, φ, x, _, _, a, _⟩ := h
    rw [a.length, hlen]
  · obtain ⟨F, φ, x, fh, fe, a, q⟩ := h
    refine ⟨_, body cdv A outer s H E hr ⟨H, F, some φ⟩ (by simp) x, F, ?_, rmono q fun y p => ?_⟩
    · rw [← hsl]
      exact rel_start a (by rw [hlen]; exact hNl) fh fe
    · intro v F' H' C ff RB o hc
      have S' : Step K (some φ) F H F' H' := RB.step fe
      exact p v F' H' C S' o ⟨hc.1, hc.2⟩
/-- the feed is made of the script -/
def spFeed (K : PySem.W.Frag) : Sp := fun vs H Q _ => ∃ (a : Addr) (ns : List Int), vs = [.ref a] ∧ SqL K H a (ns.map V.int) ∧
  ∀ φ l, H φ = none → H l = none → φ ≠ l → Q (.ref φ) (upd (upd H l (.lst (ns.map V.int))) φ (.lst [.ref l, .int 0, .int 0, .int 1]))
def spLaw (K : PySem.W.Frag) : Sp := fun vs H Q _ => ∃ (a : Addr) (ns : List Int), vs = [.ref a] ∧ SqL K H a (ns.map V.int) ∧ ns.length ≤ 63 ∧ ∀ H', Q (.bl true) H'
/-- the law: what follows the feed -/
theorem fn_law {fM : W Bool} {sl : Sls} {st1 : Stmt} {rest : List Stmt} {i : Nat} (F : Fun K x qual st f fd) (S : FnScope N ["script"] (defScope st)) (hbody : defBody st = st1 :: rest) (hi : 0 < i ∧ i < N.length) (hsl : (List.replicate N.length none).set i (some .feed) = sl)
    (first : ∀ (cdv : Value) (A : Around) (outer : List Env) (s : Shared) (H : Hp) (E : XK), Room k (A.deeper (envOfC qual (defScope st) s.heap.objs.size f cdv)) → PS (XO P w K mg base N qual st f cdv A outer s H E) st1 (tAsg (tCall (spFeed K) [] E0 (tCons (tVar 0) tNil)) (gName i)))
    (body : ∀ (cdv : Value) (A : Around) (outer : List Env) (s : Shared) (H : Hp) (E : XK), Room k (A.deeper (envOfC qual (defScope st) s.heap.objs.size f cdv)) → ∀ (b : Bs) (_ : b.fd ≠ none), DS (XO P w K mg base N qual st f cdv A outer s H E) b sl rest fM (fun r => .rt 0 (eB r)))
    (hM : fM.wp fun r => r = true) : FnOk P w K mg base CX0 (k + 1) f fd ["script"] (spLaw K) := by
  refine F.ok S (fun vs H Q E h => ?_) fun cdv A outer s H vs Q E hr h => ?_
  · obtain ⟨a, ns, rfl, _⟩ := h
    rfl
  · obtain ⟨a, ns, rfl, hS, hn, q⟩ := h
    refine ⟨tSeq _ _, hbody ▸ pss_cons (first cdv A outer s H E hr) (PSs.ex fun b : { b : Bs // b.fd ≠ none } => body cdv A outer s H E hr b.1 b.2), ?_⟩
    have h0 : (L2.start N [.ref a])[0]? = some (some (.ref a)) := rfl
    refine ⟨.ref a, h0, a, ns, rfl, hS, fun φ l nφ nl ne => ?_⟩
    let F1 : Hp := upd (fun _ => none) l (.lst (ns.map V.int))
    let H1 : Hp := upd (upd H l (.lst (ns.map V.int))) φ (.lst [.ref l, .int 0, .int 0, .int 1])
    have e1 : H1 φ = some (.lst [.ref l, .int 0, .int 0, .int 1]) := upd_same
    have f1 : F1 φ = none := upd_ne ne
    have fe : FeedOk K (some φ) F1 H1 := fun φ' e => by
      cases e
      exact ⟨f1, l, ns, 0, 0, 1, e1, SqL.of upd_same, hn, Int.le_refl _, Int.natCast_nonneg _, Int.le_refl _, by decide, by decide⟩
    have hlen : (L2.start N [.ref a]).length = N.length := by
      unfold L2.start
      simp
      omega
    have R : Rel K ⟨H1, F1, some φ⟩ sl F1 H1 ((L2.start N [.ref a]).set i (some (.ref φ))) := by
      refine ⟨by rw [← hsl]; simp [hlen], fun c o e => ?_, Sub.refl _, fun p _ e => e, Sub.refl _, fe, fun φ' e => ?_, fun _ => [], fun j z e => ?_, fun i => ⟨List.nodup_nil, fun _ h => nomatch h⟩, fun i j _ c hc => nomatch hc⟩
      · have hc : c ≠ φ := fun z => by rw [z, f1] at e; cases e
        rw [hid_ne (fun z => hc (Option.some.inj z).symm)]
        show upd (upd H l (.lst (ns.map V.int))) φ _ c = some o
        rw [upd_ne hc]
        have e : upd (fun _ => none) l (.lst (ns.map V.int)) c = some o := e
        unfold upd at e ⊢
        split at e
        · rename_i z; rw [if_pos z]; exact e
        · cases e
      · cases e
        exact ⟨by show H1 φ ≠ none; rw [e1]; simp, f1⟩
      · rw [← hsl] at e
        by_cases hj : i = j
        · subst hj
          rw [List.getElem?_set_self (by simp; exact hi.2)] at e
          cases e
          exact ⟨φ, List.getElem?_set_self (by rw [hlen]; exact hi.2), rfl⟩
        · rw [List.getElem?_set_ne hj, List.getElem?_replicate] at e
          split at e <;> cases e
    exact ⟨⟨⟨H1, F1, some φ⟩, by simp⟩, F1, R, W.mono fM _ _ (fun r e v F' H' C _ _ o _ => by
      subst e
      cases o with
      | z r => cases r; exact q _) hM⟩
end
end DL
namespace DL
open PySem PySem.Spec PyProof.Rows L2
section
variable {X : Cx}
/-- xs[i], by values -/
theorem pget_list : PGet X (rIxL X.K) := by
  intro pins s σ H o i ov iv Q I ro ri h
  obtain ⟨p, xs, k, z, rfl, rfl, hq, he, q⟩ := h
  cases ro
  obtain ⟨t, rfl⟩ := ri
  obtain ⟨its, r, pl, hz⟩ := I.list hq
  obtain ⟨j, h1, h2, h3, h4, h5⟩ := atI_get he
  obtain ⟨w, ew, rw'⟩ := r.get h2
  have hl := r.length
  have hn := line63
  have fin : EP X pins σ Q w s := ⟨z, H, I, rw', q⟩
  by_cases h0 : 0 ≤ k
  · have hj : k.toNat = j := by
      rw [seqIndex_of h0 h5] at h1
      exact Option.some.inj h1
    exact PySem.wpAny_getItem_list pl.isList h0 (by omega) (by rw [hj]; simpa using ew) fin
  · have hj : (k + (its.toArray.size : Int)).toNat = j := by
      rw [seqIndex_neg (by omega) h4] at h1
      rw [List.size_toArray, ← hl]
      exact Option.some.inj h1
    exact wpAny_getItem_list_neg pl.isList (by omega) (by rw [List.size_toArray] <;> omega) (by omega) (by rw [hj]; simpa using ew) fin
end
theorem bo_len : bootBuiltins "len" = some (.builtin "len") := by decide +kernel
theorem bo_abs : bootBuiltins "abs" = some (.builtin "abs") := by decide +kernel
theorem bo_sum : bootBuiltins "sum" = some (.builtin "sum") := by decide +kernel
theorem bo_sorted : bootBuiltins "sorted" = some (.builtin "sorted") := by decide +kernel
theorem bo_min : bootBuiltins "min" = some (.builtin "min") := by decide +kernel
theorem bo_max : bootBuiltins "max" = some (.builtin "max") := by decide +kernel
theorem bo_any : bootBuiltins "any" = some (.builtin "any") := by decide +kernel
theorem bo_all : bootBuiltins "all" = some (.builtin "all") := by decide +kernel
theorem bo_isinstance : bootBuiltins "isinstance" = some (.builtin "isinstance") := by decide +kernel
theorem bo_list : bootBuiltins "list" = some (.type "list") := by decide +kernel
theorem bo_int : bootBuiltins "int" = some (.type "int") := by decide +kernel
theorem bo_tuple : bootBuiltins "tuple" = some (.type "tuple") := by decide +kernel
theorem bo_str : bootBuiltins "str" = some (.type "str") := by decide +kernel
theorem bo_range : bootBuiltins "range" = some (.type "range") := by decide +kernel
theorem bo_enumerate : bootBuiltins "enumerate" = some (.type "enumerate") := by decide +kernel
theorem bo_zip : bootBuiltins "zip" = some (.type "zip") := by decide +kernel
theorem bo_bool : bootBuiltins "bool" = some (.type "bool") := by decide +kernel
theorem bo_repr : bootBuiltins "repr" = some (.builtin "repr") := by decide +kernel
theorem bo_reversed : bootBuiltins "reversed" = some (.type "reversed") := by decide +kernel
theorem bo_dict : bootBuiltins "dict" = some (.type "dict") := by decide +kernel
theorem bo_set : bootBuiltins "set" = some (.type "set") := by decide +kernel
end DL
namespace DL
open PySem PySem.Spec PyProof.Rows L2
section
variable (K : PySem.W.Frag)
abbrev dIx (k : Int) : TE := tOp (rIxL K) (tVar 0) (tC (.int k))
abbrev rPow : R2 := rI CPow fun i j => .int (i ^ j.toNat)
abbrev rGeI : R2 := rI0 fun i j => .bl (decide (j ≤ i))
abbrev rGtI : R2 := rI0 fun i j => .bl (decide (j < i))
abbrev rLtI : R2 := rI0 fun i j => .bl (decide (i < j))
abbrev rAddI : R2 := rI0 fun i j => .int (i + j)
abbrev rMulI : R2 := rI CMul fun i j => .int (i * j)
abbrev rModI : R2 := rI (fun _ j => 0 < j) fun i j => .int (i % j)
abbrev rDivI : R2 := rI CDiv fun i j => .int (i / j)
abbrev dInt (t : TE) : TE := tCB rInt1 (tCons t tNil)
abbrev dSet (k : Int) (t : TE) : TS := tAsg t (gSub (tVar 0) (tC (.int k)) rSetL)
def drT1 : TS := tIfS (tAnd (tTest (tOp rEq (dIx K 2) (tC (.int 0)))) (tTest (tOp rLtI (dIx K 1) (tCB (rLen K) (tCons (dIx K 0) tNil)))))
  (tSeq (tAsg (tCB rAbs (tCons (dInt (tOp (rIxL K) (dIx K 0) (dIx K 1))) tNil)) (gName 2))
  (tSeq (tAugS (tVar 0) (tC (.int 1)) (tC (.int 1)) (rIxL K) (ipI fun i j => i + j) rSetL)
  (tIfS (tTest (tOp rGeI (tVar 2) (tOp rPow (tC (.int 10)) (tC (.int 18))))) (dSet 2 (tVar 2))
    (dSet 3 (tOp rModI (dInt (tOp rAddI (tOp rAddI (tOp rMulI (dIx K 3) (tC (.int 48271))) (tOp rMulI (tVar 2) (tC (.int 69621)))) (dIx K 1))) (tC (.int 2147483647))))))) tNext
def drT2 : TS := tSeq (tIfS (tTest (tOp rGtI (dIx K 2) (tC (.int 0))))
    (tSeq (tAsg (tOp rModI (dInt (dIx K 2)) (tVar 1)) (gName 3)) (tSeq (dSet 2 (tOp rDivI (dIx K 2) (tVar 1))) (tRet (tVar 3)))) tNext)
  (tSeq (dSet 3 (tOp rModI (dInt (tOp rAddI (tOp rMulI (dIx K 3) (tC (.int 16807))) (tC (.int 12345)))) (tC (.int 2147483647))))
  (tSeq (tAsg (tOp rModI (dInt (tOp rAddI (tOp rMulI (dIx K 3) (dIx K 3)) (dIx K 3))) (tC (.int 2147483629))) (gName 4))
  (tRet (tOp rModI (tOp rDivI (tVar 4) (tC (.int 11))) (tVar 1)))))
def drT : TS := tSeq (drT1 K) (drT2 K)
end
section
variable {K : PySem.W.Frag} {F H0 H : Hp} {φ l : Addr} {ns : List Int} {i c s m : Int} {σ : L2.St} {D : Ends} {Q : VK}
/-- the feed behind some turns -/
structure FdI (K : PySem.W.Frag) (F H0 : Hp) (φ l : Addr) (ns : List Int) (i c s : Int) (H : Hp) : Prop where
  at_ : H φ = some (.lst [.ref l, .int i, .int c, .int s])
  els : ∀ a, a ≠ φ → H a = H0 a
  ls : SqL K F l (ns.map V.int)
  sub : Sub F (hid (some φ) H0)
  nf : F φ = none
  len : ns.length ≤ 63
  i0 : 0 ≤ i
  i1 : i ≤ ns.length
  c0 : 0 ≤ c
  s0 : 0 ≤ s
  s1 : s < 2147483647
theorem FdI.fsub (h : FdI K F H0 φ l ns i c s H) : Sub F H := fun a o e => by
  have ha : a ≠ φ := fun z => by rw [z, h.nf] at e; cases e
  rw [h.els a ha]
  exact hid_sub _ _ (h.sub a o e)
theorem FdI.seq (h : FdI K F H0 φ l ns i c s H) : SqL K H l (ns.map V.int) := h.fsub.sql h.ls
theorem FdI.set (h : FdI K F H0 φ l ns i c s H) {i' c' s' : Int} (hi : 0 ≤ i') (hi1 : i' ≤ ns.length) (hc : 0 ≤ c') (hs : 0 ≤ s') (hs1 : s' < 2147483647) : FdI K F H0 φ l ns i' c' s' (upd H φ (.lst [.ref l, .int i', .int c', .int s'])) :=
  ⟨upd_same, fun a ha => by rw [upd_ne ha]; exact h.els a ha, h.ls, h.sub, h.nf, h.len, hi, hi1, hc, hs, hs1⟩
theorem FdI.step (h : FdI K F H0 φ l ns i c s H) : Step K (some φ) F H0 F H := by
  have hh : Sub (hid (some φ) H0) (hid (some φ) H) := fun a o e => by
    by_cases ha : some φ = some a
    · unfold hid at e; rw [if_pos ha] at e; cases e
    · rw [hid_ne ha] at e ⊢
      rw [h.els a fun z => ha (by rw [z])]; exact e
  exact ⟨Sub.refl _, hh, h.sub.trans hh, fun _ _ e => e, fun φ' e => by
    cases e
    exact ⟨h.nf, l, ns, i, c, s, h.at_, h.ls, h.len, h.i0, h.i1, h.c0, h.s0, h.s1⟩⟩
theorem draw2 (hm0 : 0 < m) (hm1 : m < 1073741824) {x2 x3 x4 : Option V} (I : FdI K F H0 φ l ns i c s H) (q : ∀ H v, Step K (some φ) F H0 F H → 0 ≤ v → v < m → D.rt (.int v) H) : drT2 K D [some (.ref φ), some (.int m), x2, x3, x4] H := by
  have hd : CDiv c m := ⟨hm0, hm1⟩
  refine ⟨.ref φ, rfl, φ, _, 2, _, rfl, rfl, SqL.of I.at_, rfl, _, _, rfl, rfl, _, rfl, ite2 (fun e => ?_) fun e => ?_⟩
  · have hc : 0 < c := of_decide_eq_true e
    refine ⟨.ref φ, rfl, φ, _, 2, _, rfl, rfl, SqL.of I.at_, rfl, .inl ⟨_, rfl, .int m, rfl, _, _, rfl, rfl, hm0, ?_⟩⟩
    refine ⟨.ref φ, rfl, φ, _, 2, _, rfl, rfl, SqL.of I.at_, rfl, .int m, rfl, _, _, rfl, rfl, hd, .ref φ, rfl, φ, _, 2, 2, rfl, rfl, I.at_, rfl, ?_⟩
    have I2 := I.set (i' := i) (c' := c / m) (s' := s) I.i0 I.i1 (Int.ediv_nonneg I.c0 (Int.le_of_lt hm0)) I.s0 I.s1
    exact ⟨_, rfl, q _ _ I2.step (Int.emod_nonneg _ (by omega)) (Int.emod_lt_of_pos _ hm0)⟩
  · have M : (0 : Int) < 2147483647 := by decide
    have M2 : (0 : Int) < 2147483629 := by decide
    have s0 := I.s0
    have s1 := I.s1
    refine ⟨.ref φ, rfl, φ, _, 3, _, rfl, rfl, SqL.of I.at_, rfl, _, _, rfl, rfl, .inl ⟨by omega, by omega⟩, _, _, rfl, rfl, .inl ⟨_, rfl, _, _, rfl, rfl, M, .ref φ, rfl, φ, _, 3, 3, rfl, rfl, I.at_, rfl, ?_⟩⟩
    have I2 := I.set (i' := i) (c' := c) (s' := (s * 16807 + 12345) % 2147483647) I.i0 I.i1 I.c0 (Int.emod_nonneg _ (by decide)) (Int.emod_lt_of_pos _ M)
    have t0 := I2.s0
    have t1 := I2.s1
    refine ⟨.ref φ, rfl, φ, _, 3, _, rfl, rfl, SqL.of I2.at_, rfl, .ref φ, rfl, φ, _, 3, _, rfl, rfl, SqL.of I2.at_, rfl, _, _, rfl, rfl, .inl ⟨by omega, by omega⟩, .ref φ, rfl, φ, _, 3, _, rfl, rfl, SqL.of I2.at_, rfl, _, _, rfl, rfl, .inl ⟨_, rfl, _, _, rfl, rfl, M2, ?_⟩⟩
    refine ⟨_, rfl, _, _, rfl, rfl, ⟨by decide, by decide⟩, .int m, rfl, _, _, rfl, rfl, hm0, q _ _ I2.step (Int.emod_nonneg _ (by omega)) (Int.emod_lt_of_pos _ hm0)⟩
theorem draw1 (hm0 : 0 < m) (hm1 : m < 1073741824) (I : FdI K F H0 φ l ns i c s H) (q : ∀ H v, Step K (some φ) F H0 F H → 0 ≤ v → v < m → D.rt (.int v) H) : drT K D [some (.ref φ), some (.int m), none, none, none] H := by
  have tail : ∀ {H : Hp} {i c s : Int} {x2 : Option V}, FdI K F H0 φ l ns i c s H → drT2 K D [some (.ref φ), some (.int m), x2, none, none] H := fun I => draw2 hm0 hm1 I q
  refine ⟨.ref φ, rfl, φ, _, 2, _, rfl, rfl, SqL.of I.at_, rfl, rfl, _, rfl, ite2 (fun e => ?_) fun e => ?_⟩
  · refine ⟨.ref φ, rfl, φ, _, 1, _, rfl, rfl, SqL.of I.at_, rfl, .ref φ, rfl, φ, _, 0, _, rfl, rfl, SqL.of I.at_, rfl, l, _, rfl, .inl I.seq, _, _, rfl, rfl, _, rfl, ite2 (fun e2 => ?_) fun e2 => ?_⟩
    · have hi : i < (ns.map V.int).length := of_decide_eq_true e2
      rw [List.length_map] at hi
      have i0 := I.i0
      have hg : atI (ns.map V.int) i = some (.int (ns[i.toNat]'(by omega))) := by
        have h1 : i.toNat < ns.length := by omega
        have : atI (ns.map V.int) i = (ns.map V.int)[i.toNat]? := by
          unfold L2.atI ixN
          rw [if_pos i0, if_pos (by rw [List.length_map]; omega)]
          rfl
        rw [this, List.getElem?_map, List.getElem?_eq_getElem h1]
        rfl
      generalize ns[i.toNat]'(by omega) = z at hg
      refine ⟨.ref φ, rfl, φ, _, 0, _, rfl, rfl, SqL.of I.at_, rfl, .ref φ, rfl, φ, _, 1, _, rfl, rfl, SqL.of I.at_, rfl, l, _, i, _, rfl, rfl, I.seq, hg, .inl ⟨z, rfl, z, rfl, ?_⟩⟩
      refine ⟨.ref φ, rfl, φ, _, 1, _, rfl, rfl, SqL.of I.at_, rfl, i, 1, rfl, rfl, φ, _, 1, 1, rfl, rfl, I.at_, rfl, ?_⟩
      have I2 := I.set (i' := i + 1) (c' := c) (s' := s) (by omega) (by omega) I.c0 I.s0 I.s1
      have cell0 : 0 ≤ (if z < 0 then -z else z) := by split <;> omega
      generalize (if z < 0 then -z else z) = cell at cell0
      refine ⟨_, rfl, _, _, rfl, rfl, ⟨by decide, by decide, by decide⟩, _, _, rfl, rfl, _, rfl, ite2 (fun e3 => ?_) fun e3 => ?_⟩
      · refine ⟨_, rfl, .ref φ, rfl, φ, _, 2, 2, rfl, rfl, I2.at_, rfl, ?_⟩
        exact tail (I2.set (i' := i + 1) (c' := cell) (s' := s) I2.i0 I2.i1 cell0 I.s0 I.s1)
      · have s0 := I.s0
        have s1 := I.s1
        refine ⟨.ref φ, rfl, φ, _, 3, _, rfl, rfl, SqL.of I2.at_, rfl, _, _, rfl, rfl, .inl ⟨by omega, by omega⟩, _, rfl, _, _, rfl, rfl, .inr ⟨by decide, by decide⟩, _, _, rfl, rfl, .ref φ, rfl, φ, _, 1, _, rfl, rfl, SqL.of I2.at_, rfl, _, _, rfl, rfl, .inl ⟨_, rfl, _, _, rfl, rfl, (show (0 : Int) < 2147483647 by decide), .ref φ, rfl, φ, _, 3, 3, rfl, rfl, I2.at_, rfl, ?_⟩⟩
        exact tail (I2.set (i' := i + 1) (c' := c) (s' := (s * 48271 + cell * 69621 + (i + 1)) % 2147483647) I2.i0 I2.i1 I.c0 (Int.emod_nonneg _ (by decide)) (Int.emod_lt_of_pos _ (by decide)))
    · exact tail I
  · show (if false = true then _ else _)
    exact iteF (tail I)
end
end DL
namespace DL
open PySem PySem.Spec PyProof.Rows L2
/-- a def of the text keeps a promise, by at most level k -/
def HasDef (P : Program) (w : World) (K : PySem.W.Frag) (mg : Str → Option Value) (base : Heap) (x : Str) (k : Nat) (sp : Sp) : Prop :=
  ∃ (f : Addr) (fd : FuncData) (ps : List Str), FnOk P w K mg base CX0 k f fd ps sp ∧ mg x = some (.ref f) ∧ PySem.W.keepIn K (.ref f) = true ∧ Binds K fd ps []
/-- a def of the text as it stands -/
def TopFn (K : PySem.W.Frag) (mg : Str → Option Value) (x : Str) (st : Stmt) : Prop := ∃ (f : Addr) (fd : FuncData), Fun K x x st f fd ∧ mg x = some (.ref f)
/-- a constant of the module -/
def Glob (K : PySem.W.Frag) (mg : Str → Option Value) (x : Str) (d : D) : Prop := ∃ (u : Value) (v : V), mg x = some u ∧ RelV v u ∧ ∀ F, Rp K F v d
section
variable {m : Type → Type} [Run m] {α β γ : Type} {X : Cx} {b : Bs} {sl : Sls} {e e1 e2 : Expr} {es : List Expr} {md : Md} {c : m α} {g : α → D} {h : γ → D} {pos p : Pos} {x : Str} {kl n : Nat}
theorem dc_call {M : m γ} {T : List (Option D) → m γ → Prop} {gs : α → List D} {fM : α → Option γ} (F : HasDef X.prog X.w X.K X.mg X.base x kl (spD X.K gs fM n h)) (hr : Room kl X.A)
    (ha : PA X (e :: es) (tCA X.K b sl M T)) (hT : ∀ ds k, T ds k → ∃ x, ds = (gs x).map some ∧ k = Run.lift (fM x)) (hg : Gl X x := by rfl)
    (hs : starEach (e :: es) X.env = (false, eval e X.env) :: starEach es X.env := by rfl) (hpl : (backTo pos (starEach es X.env)).any (·.1) = false := by rfl) (hdb : (x == ("__debug__" : Str)) = false := by decide) :
    DM X b sl (.Call (.Name x p) (e :: es) [] pos) (.ow n) M h := by
  obtain ⟨f, fd, ps, F, hm, hk, hb⟩ := F
  exact dm_call F hr hm hk hb ha hT hg hs hpl hdb
theorem dc_call0 {fM : Unit → Option γ} (F : HasDef X.prog X.w X.K X.mg X.base x kl (spD X.K (fun _ => []) fM n h)) (hr : Room kl X.A) (hg : Gl X x := by rfl) (hdb : (x == ("__debug__" : Str)) = false := by decide) :
    DM X b sl (.Call (.Name x p) [] [] pos) (.ow n) (Run.lift (fM ()) : m γ) h := by
  obtain ⟨f, fd, ps, F, hm, hk, hb⟩ := F
  exact dm_call0 F hr hm hk hb hg hdb
theorem dc_callF {M : W γ} {T : List (Option D) → W γ → Prop} {gs : α → List (Option D)} {fM : α → W γ} (F : HasDef X.prog X.w X.K X.mg X.base x kl (spF X.K gs fM n h)) (hfd : b.fd ≠ none) (hr : Room kl X.A)
    (ha : PA X (e :: es) (tCA X.K b sl M T)) (hT : ∀ ds k, T ds k → ∃ x, ds = gs x ∧ k = fM x) (hg : Gl X x := by rfl)
    (hs : starEach (e :: es) X.env = (false, eval e X.env) :: starEach es X.env := by rfl) (hpl : (backTo pos (starEach es X.env)).any (·.1) = false := by rfl) (hdb : (x == ("__debug__" : Str)) = false := by decide) :
    DM X b sl (.Call (.Name x p) (e :: es) [] pos) (.ow n) M h := by
  obtain ⟨f, fd, ps, F, hm, hk, hb⟩ := F
  exact dm_callF F hfd hr hm hk hb ha hT hg hs hpl hdb
theorem dm_glob {a : α} (G : Glob X.K X.mg x (g a)) (hg : Gl X x := by rfl) (hd : (x == ("__debug__" : Str)) = false := by decide) : DM X b sl (.Name x pos) (.ow 0) (pure a : m α) g := by
  obtain ⟨u, v, hm, r, k⟩ := G
  exact PE.imp (pe_glob hg hm r hd) fun σ H Q ⟨F, R, q⟩ => by
    have q := rpure q
    exact Post.fr (.refl R.sub R.fe) q (k F)
end
section
variable {m : Type → Type} [Run m] {α β γ : Type} {X : Cx} {b : Bs} {sl : Sls} {e e1 e2 : Expr} {Z Z' S R : Type} {out : Z → Oc} {st : Stmt} {rest : List Stmt}
theorem ds_seq {c : m Z'} {sl' : Z' → Sls} {k : Z' → m Z} (h1 : DS1 X b sl st c (fun z => .nx (sl' z))) (h2 : ∀ z, DS X b (sl' z) rest (k z) out) : DS X b sl (st :: rest) (c >>= k) out := ds_cons h1 fun z => h2 z
/-- how a loop that may return ends -/
def Ct.go {Z : Type} (z : Ct S R) (k : S → m Z) (f : R → m Z) : m Z := match z with
  | .nx s => k s
  | .rt r => f r
  | .bk s => k s
theorem ds_seqC {c : m (Ct S R)} {Ef : S → Sls} {oR : R → Oc} {k : S → m Z} {f : R → Z} (h1 : DS1 X b sl st c (oE Ef oR)) (hR : ∀ r, ∃ n d, oR r = .rt n d) (hf : ∀ r, out (f r) = oR r) (h2 : ∀ s, DS X b (Ef s) rest (k s) out) :
    DS X b sl (st :: rest) (c >>= fun z => z.go k (fun r => pure (f r))) out := ds_cons h1 fun z => by
  cases z with
  | nx s =>
    have := h2 s
    exact this
  | bk s =>
    show Kont X b rest out (.nx (Ef s)) (k s)
    have := h2 s
    exact this
  | rt r =>
    obtain ⟨n, d, e⟩ := hR r
    have := hf r
    show Kont X b rest out (oR r) (pure (f r))
    rw [e] at this ⊢
    exact ⟨f r, rfl, this⟩
/-- an int as a test -/
theorem dt_int {c : m Int} (h : DM X b sl e .pk c eI) (he : ∀ whole, isTrue e X.env whole = (do let v ← whole; standAt e.pos; holding [v] (truthy v)) := by intro _; rfl) : DT X b sl e (c >>= fun i => pure (i != 0)) :=
  PT.imp (pt_truth h he) fun σ H Q ⟨F, R, q⟩ => ⟨F, R, rmono (rbind q) fun i p v F' H' S r => by
    have p := rpure p
    cases r
    exact ⟨_, rfl, p F' H' S⟩⟩
theorem dt_intT {i : Int} (h : DM X b sl e .pk (pure i : m Int) eI) (he : ∀ whole, isTrue e X.env whole = (do let v ← whole; standAt e.pos; holding [v] (truthy v)) := by intro _; rfl) : DT X b sl e (pure (i != 0) : m Bool) := by
  have := dt_int h he
  rw [Run.pure_b] at this
  exact this
end
section
variable {P : Program} {w : World} {K : PySem.W.Frag} {mg : Str → Option Value} {base : Heap} {α β : Type}
variable {x : Str} {st : Stmt} {N ps : List Str} {k n : Nat} {g : β → D}
theorem hd_D {gs : α → List D} {fM : α → Option β} {sl : α → Sls} (T : TopFn K mg x st) (S : FnScope N ps (defScope st))
    (hbd : ∀ (kV doc pm : Value) (an : Option Addr) (cdv ct : Value) (us : List Value), us.length = ps.length → bindArgs (PySem.W.fnOf x x (defArgs st) (defBody st) (defScope st) .none kV doc pm an cdv ct) ⟨us, []⟩ = pure (ps.zip us))
    (hlen : ∀ x, (gs x).length = ps.length) (hsl : ∀ x, slD N.length ((gs x).map some) = sl x)
    (body : ∀ (f : Addr) (cdv : Value) (A : Around) (outer : List Env) (s : Shared) (H : Hp) (E : XK), Room k (A.deeper (envOfC x (defScope st) s.heap.objs.size f cdv)) → ∀ (b : Bs) (a : α), DS (XO P w K mg base N x st f cdv A outer s H E) b (sl a) (defBody st) (fM a) (fun r => .rt n (g r))) :
    HasDef P w K mg base x (k + 1) (spD K gs fM n g) := by
  obtain ⟨f, fd, F, hm⟩ := T
  exact ⟨f, fd, ps, fn_D F S hlen hsl (body f), hm, F.kp, F.binds hbd⟩
theorem hd_F {gs : α → List (Option D)} {fM : α → W β} {sl : α → Sls} (T : TopFn K mg x st) (S : FnScope N ps (defScope st))
    (hbd : ∀ (kV doc pm : Value) (an : Option Addr) (cdv ct : Value) (us : List Value), us.length = ps.length → bindArgs (PySem.W.fnOf x x (defArgs st) (defBody st) (defScope st) .none kV doc pm an cdv ct) ⟨us, []⟩ = pure (ps.zip us))
    (hlen : ∀ x, (gs x).length = ps.length) (hsl : ∀ x, slD N.length (gs x) = sl x)
    (body : ∀ (f : Addr) (cdv : Value) (A : Around) (outer : List Env) (s : Shared) (H : Hp) (E : XK), Room k (A.deeper (envOfC x (defScope st) s.heap.objs.size f cdv)) → ∀ (b : Bs) (_ : b.fd ≠ none) (a : α), DS (XO P w K mg base N x st f cdv A outer s H E) b (sl a) (defBody st) (fM a) (fun r => .rt n (g r))) :
    HasDef P w K mg base x (k + 1) (spF K gs fM n g) := by
  obtain ⟨f, fd, F, hm⟩ := T
  exact ⟨f, fd, ps, fn_F F S hlen hsl (body f), hm, F.kp, F.binds hbd⟩
end
end DL
namespace DL
open PySem PySem.Spec PyProof.Rows L2
section
variable {m : Type → Type} [Run m] {α β γ : Type} {X : Cx} {b : Bs} {sl : Sls} {e e1 e2 : Expr} {es : List Expr} {md : Md} {c : m α} {g : α → D} {h : γ → D} {pos p : Pos} {x : Str} {kl n : Nat} {K : PySem.W.Frag} {fd : Option Addr} {Z : Type} {out : Z → Oc}
/-- return of a name that is ours -/
theorem ds_retN (i : Nat) (g : α → D) (a : α) {n : Nat} {rest : List Stmt} (z : Z) (ho : out z = .rt n (g a)) (e : sl[i]? = some (some (.o n (g a))) := by rfl) (hN : X.N[i]? = some x := by rfl) (hv : Vis X.env.scope x := by first | exact Or.inl rfl | exact Or.inr (Or.inl rfl) | exact Or.inr (Or.inr rfl)) (hd : (x == ("__debug__" : Str)) = false := by decide)
    (hcd : (x == ("__classdict__" : Str)) = false := by decide) : DS X b sl (.Return (some (.Name x p)) pos :: rest) (pure z : m Z) out :=
  PSs.imp (pss_cons (ps_ret (pe_var hN hv hd hcd)) pss_never) fun E σ H ⟨F, R, q⟩ => by
    have q := rpure q
    rw [ho] at q
    obtain ⟨Cs, s1, s2, s3⟩ := R.slots
    obtain ⟨v, e1, r⟩ := s1 i _ e
    exact ⟨v, e1, q v F H (Cs i) (Sub.refl _) R.relB r ⟨(s2 i).1, fun c hc => ⟨((s2 i).2 c hc).1, ((s2 i).2 c hc).2.1, ((s2 i).2 c hc).2.2.1⟩⟩⟩
/-- all but the list itself is let stand -/
theorem freeze1 {F H F0 H0 : Hp} {n : Nat} {v : V} {ds : List D} {C : List Cell} (fe0 : FeedOk K fd F0 H0) (S : Step K fd F0 H0 F H) (r : Own K F (n + 1) v (.list ds) C) (h : Holds C F H H0) : ∃ F' C', Step K fd F0 H0 F' H ∧ Own K F' 1 v (.list ds) C' ∧ Holds C' F' H H0 := by
  cases r with
  | s a _ => cases a
  | lst o l =>
    rename_i p vs C
    have nd := h.1
    rw [List.map_cons, List.nodup_cons] at nd
    have hp := h.2 (p, .lst vs) List.mem_cons_self
    have fdn : ∀ c ∈ C, fd ≠ some c.1 := fun c hc z => by
      obtain ⟨o, q⟩ := fe0.some z
      rw [(h.2 c (List.mem_cons_of_mem _ hc)).2.2] at q; cases q
    let F' : Hp := fun a => if a ∈ C.map (·.1) then H a else F a
    have fn : ∀ p, F' p = if p ∈ C.map (·.1) then H p else F p := fun _ => rfl
    have ff : Sub F F' := fun a o e => by
      rw [fn, if_neg]
      · exact e
      · intro hm
        obtain ⟨c, hc, rfl⟩ := List.mem_map.mp hm
        rw [(h.2 c (List.mem_cons_of_mem _ hc)).2.1] at e; cases e
    have fc : ∀ c ∈ C, F' c.1 = some c.2 := fun c hc => by
      rw [fn, if_pos (List.mem_map.mpr ⟨c, hc, rfl⟩)]
      exact (h.2 c (List.mem_cons_of_mem _ hc)).1
    refine ⟨F', [(p, .lst vs)], ⟨S.ff.trans ff, S.hh, fun a o e => ?_, fun q hq e => ?_, S.fe.mono ff (fun φ e => ?_) fun _ _ => rfl⟩, .lst (OwnAll.zero (o.rp ff fc)) l, by simp, fun c hc => ?_⟩
    · rw [fn] at e
      split at e
      · rename_i hm
        obtain ⟨c, hc, rfl⟩ := List.mem_map.mp hm
        rw [hid_ne (fdn c hc)]; exact e
      · exact S.fh a o e
    · rw [fn, if_neg]
      · exact S.st q hq e
      · intro hm
        obtain ⟨c, hc, rfl⟩ := List.mem_map.mp hm
        exact hq (h.2 c (List.mem_cons_of_mem _ hc)).2.2
    · rw [fn, if_neg]
      · exact (S.fe φ e).1
      · intro hm
        obtain ⟨c, hc, rfl⟩ := List.mem_map.mp hm
        exact fdn c hc e
    · have : c = (p, .lst vs) := by simpa using hc
      subst this
      refine ⟨hp.1, ?_, hp.2.2⟩
      rw [fn, if_neg nd.1]
      exact hp.2.1
theorem dm_fr1 {n : Nat} {c : m (List α)} (h : DM X b sl e (.ow (n + 1)) c (eL g)) : DM X b sl e (.ow 1) c (eL g) := PE.imp h fun σ H Q ⟨F, R, q⟩ => ⟨F, R, rmono q fun x p v F' H' C S r k => by
  obtain ⟨F2, C2, S2, r2, k2⟩ := freeze1 R.fe S r k
  exact p v F2 H' C2 S2 r2 k2⟩
/-- None, or not -/
theorem dm_isN {g : α → D} {c : m (Option α)} (hg : ∀ x, g x ≠ PyData.none) (h : DM X b sl e .pk c (eO g)) {j pos'} : DM X b sl (.Compare e [.Is] [.Constant .none j pos'] pos) md (c >>= fun x => pure x.isNone) eB := PE.imp (pe_cmp (pc_isN h) rfl) fun σ H Q ⟨F, R, q⟩ => ⟨F, R, rmono (rbind q) fun x p v F' H' S r => by
  have p := rpure p
  have e : decide (v = V.non) = x.isNone := by
    cases x with
    | none => cases r; rfl
    | some a =>
      have hn := hg a
      have r : Rp X.K (hid b.fd H') v (g a) := r
      generalize g a = d at hn r
      cases r with
      | non => exact absurd rfl hn
      | _ => rfl
  dsimp only
  rw [e]
  exact Post.sc S.fh S.fe (Post.back R.fe S p) rfl (.bl _)⟩
theorem dm_notN {g : α → D} {c : m (Option α)} (hg : ∀ x, g x ≠ PyData.none) (h : DM X b sl e .pk c (eO g)) {j pos'} : DM X b sl (.Compare e [.IsNot] [.Constant .none j pos'] pos) md (c >>= fun x => pure x.isSome) eB := PE.imp (pe_cmp (pc_notN h) rfl) fun σ H Q ⟨F, R, q⟩ => ⟨F, R, rmono (rbind q) fun x p v F' H' S r => by
  have p := rpure p
  have e : (!decide (v = V.non)) = x.isSome := by
    cases x with
    | none => cases r; rfl
    | some a =>
      have hn := hg a
      have r : Rp X.K (hid b.fd H') v (g a) := r
      generalize g a = d at hn r
      cases r with
      | non => exact absurd rfl hn
      | _ => rfl
  dsimp only
  rw [e]
  exact Post.sc S.fh S.fe (Post.back R.fe S p) rfl (.bl _)⟩
/-- .. as tests -/
theorem dt_cmpV {op : CmpOp} {t : TE} {c : m Bool} (h : PC X op e1 e2 t) (k : ∀ σ H Q, tD X.K b sl .pk c eB σ H Q → t σ H Q) (h1 : behindInMarks op e2 = false := by first | exact nobehind _ (by decide) (by decide) | rfl) : DT X b sl (.Compare e1 [op] [e2] pos) c := PT.imp (pt_cmp h h1) fun σ H Q ⟨F, R, q⟩ => k σ H _ ⟨F, R, rmono q fun t p v F' H' S r => by
  cases r
  exact ⟨_, rfl, p F' H' S⟩⟩
end
section
variable {K : PySem.W.Frag} {fd : Option Addr} {md : Md} {m : Type → Type} [Run m]
theorem os_any : OpS1 K fd (rAny K) .pk (eL eB) (fun x => (pure (x.any id) : m Bool)) md eB := fun F H v1 x Q fh fe r1 q => by
  have q := rpure q
  cases r1 with
  | lst h1 a1 l1 =>
    have e := RpAll.bools (ns := x) a1
    subst e
    exact ⟨_, x, rfl, SqL.of (hid_sub _ _ h1), Post.sc fh fe q rfl (.bl _)⟩
theorem os_all : OpS1 K fd (rAll K) .pk (eL eB) (fun x => (pure (x.all id) : m Bool)) md eB := fun F H v1 x Q fh fe r1 q => by
  have q := rpure q
  cases r1 with
  | lst h1 a1 l1 =>
    have e := RpAll.bools (ns := x) a1
    subst e
    exact ⟨_, x, rfl, SqL.of (hid_sub _ _ h1), Post.sc fh fe q rfl (.bl _)⟩
abbrev rMax2 : List V → Hp → VK → Prop := fun xs H Q => ∃ i j, xs = [.int i, .int j] ∧ Q (.int (if j > i then j else i)) H
abbrev rMin2 : List V → Hp → VK → Prop := fun xs H Q => ∃ i j, xs = [.int i, .int j] ∧ Q (.int (if j < i then j else i)) H
def imax (i j : Int) : Int := if j > i then j else i
def imin (i j : Int) : Int := if j < i then j else i
theorem os_max2 : OpS2 K fd rMax2 .pk .pk eI eI (fun x y => (pure (imax x y) : m Int)) md eI := fun F H v1 v2 x y Q fh fe r1 r2 q => by
  have q := rpure q
  cases r1
  cases r2
  exact ⟨x, y, rfl, Post.sc fh fe q rfl (.int _)⟩
theorem os_min2 : OpS2 K fd rMin2 .pk .pk eI eI (fun x y => (pure (imin x y) : m Int)) md eI := fun F H v1 v2 x y Q fh fe r1 r2 q => by
  have q := rpure q
  cases r1
  cases r2
  exact ⟨x, y, rfl, Post.sc fh fe q rfl (.int _)⟩
end
/-- never None -/
class NN {α : Type} (g : α → D) : Prop where
  nn : ∀ x, g x ≠ PyData.none
instance : NN eI := ⟨fun _ h => by cases h⟩
instance : NN eB := ⟨fun _ h => by cases h⟩
instance : NN eS := ⟨fun _ h => by cases h⟩
instance {α : Type} {g : α → D} : NN (eL g) := ⟨fun _ h => by cases h⟩
instance {α : Type} {g : α → D} : NN (eT g) := ⟨fun _ h => by cases h⟩
instance {α β : Type} {g : α → D} {h : β → D} : NN (eP g h) := ⟨fun _ h => by cases h⟩
theorem eqv_none_l {d : D} (h : d ≠ PyData.none) : PyData.eqv PyData.none d = false := by cases d <;> first | exact absurd rfl h | rfl
theorem eqv_none_r {d : D} (h : d ≠ PyData.none) : PyData.eqv d PyData.none = false := by cases d <;> first | exact absurd rfl h | rfl
instance {α : Type} [BEq α] {g : α → D} {k : Nat} [h : Eqv g k] [hn : NN g] : Eqv (eO g) (max k 1) := ⟨fun x => by
  cases x with
  | none => rfl
  | some a => exact h.plain a, fun x => by
  cases x with
  | none => simp [eO, PyData.depth]
  | some a => have := h.depth a; simp only [eO]; omega, fun x y => by
  cases x with
  | none =>
    cases y with
    | none => rfl
    | some c => exact eqv_none_l (hn.nn c)
  | some a =>
    cases y with
    | none => exact eqv_none_r (hn.nn a)
    | some c => exact h.eqv a c⟩
end DL
namespace DL
open PySem PySem.Spec PyProof.Rows L2
section
variable {m : Type → Type} [Run m] {α β γ : Type} {X : Cx} {b : Bs} {sl : Sls} {e e1 e2 : Expr} {es : List Expr} {md : Md} {c : m α} {g : α → D} {c1 : m β} {g1 : β → D} {h : γ → D} {pos p : Pos} {x : Str} {kl n : Nat} {K : PySem.W.Frag} {fd : Option Addr} {Z : Type} {out : Z → Oc} {a1 a2 : Am}
theorem dm_b3 {α1 α2 α3 γ' : Type} {h' : γ' → D} {x : α1} {y : α2} {z : α3} {k : α1 → α2 → α3 → m γ'} (q : DM X b sl e md ((pure x : m α1) >>= fun x => (pure y : m α2) >>= fun y => (pure z : m α3) >>= fun z => k x y z) h') : DM X b sl e md (k x y z) h' := dm_eq q (by rw [Run.pure_b, Run.pure_b, Run.pure_b])
/-! ### calls with what is ours, that hand back a scalar -/
def tCP (K : PySem.W.Frag) (b : Bs) (sl : Sls) (M : m γ) (T : List D → m γ → Prop) : TA := fun σ H Q => ∃ F, Rel K b sl F H σ ∧ ∃ R : γ → Prop, Run.run M R ∧ ∀ vs F' H' ds k, Step K b.fd F H F' H' → RpAll K (hid b.fd H') vs ds → T ds k → Run.run k R → Q vs H'
theorem cp_nil {M : m γ} : PA X [] (tCP X.K b sl M (fun ds k => ds = [] ∧ k = M)) := PA.imp pa_nil fun σ H Q ⟨F, R, P, r, q⟩ => q [] F H [] M (.refl R.sub R.fe) .nil ⟨rfl, rfl⟩ r
theorem cp_cons {M : α → m γ} {T : α → List D → m γ → Prop} (he : DA X b sl e .pk c g) (hr : ∀ x, PA X es (tCP X.K b sl (M x) (T x))) (hs : starEach (e :: es) X.env = (false, eval e X.env) :: starEach es X.env := by rfl) :
    PA X (e :: es) (tCP X.K b sl (c >>= M) (fun ds k => ∃ x ds', ds = g x :: ds' ∧ T x ds' k)) := PA.imp (pa_cons he (PA.ex hr) hs) fun σ H Q ⟨F, R, P, r, q⟩ => ⟨F, R, rmono (rbind r) fun x r v F1 H1 S1 o1 =>
  ⟨x, F1, R.step S1, P, r, fun vs F2 H2 ds k S2 o2 t r2 => q (v :: vs) F2 H2 (g x :: ds) k (S1.trans R.fe S2) (.cons (Rp.mono S2.hh o1) o2) ⟨x, ds, rfl, t⟩ r2⟩⟩
theorem cp_consT {M : m γ} {x : α} {T : List D → m γ → Prop} (he : DA X b sl e .pk (pure x : m α) g) (hr : PA X es (tCP X.K b sl M T)) (hs : starEach (e :: es) X.env = (false, eval e X.env) :: starEach es X.env := by rfl) :
    PA X (e :: es) (tCP X.K b sl M (fun ds k => ∃ ds', ds = g x :: ds' ∧ T ds' k)) := PA.imp (pa_cons he hr hs) fun σ H Q ⟨F, R, P, r, q⟩ => ⟨F, R, rpure' fun v F1 H1 S1 o1 =>
  ⟨F1, R.step S1, P, r, fun vs F2 H2 ds k S2 o2 t r2 => q (v :: vs) F2 H2 (g x :: ds) k (S1.trans R.fe S2) (.cons (Rp.mono S2.hh o1) o2) ⟨ds, rfl, t⟩ r2⟩⟩
theorem RpAll.args {F : Hp} : ∀ {ds : List D} {vs : List V}, RpAll K F vs ds → ArgsOk K F none vs (ds.map some)
  | [], _, h => by cases h; exact .nil
  | d :: ds, _, h => by
    cases h with
    | cons a t => exact .val a (RpAll.args t)
theorem dc_callP [hsc : Sca h] {M : m γ} {T : List D → m γ → Prop} {gs : α → List D} {fM : α → Option γ} (F : HasDef X.prog X.w X.K X.mg X.base x kl (spD X.K gs fM n h)) (hr : Room kl X.A)
    (ha : PA X (e :: es) (tCP X.K b sl M T)) (hT : ∀ ds k, T ds k → ∃ x, ds = gs x ∧ k = Run.lift (fM x)) (hg : Gl X x := by rfl)
    (hs : starEach (e :: es) X.env = (false, eval e X.env) :: starEach es X.env := by rfl) (hpl : (backTo pos (starEach es X.env)).any (·.1) = false := by rfl) (hdb : (x == ("__debug__" : Str)) = false := by decide) :
    DM X b sl (.Call (.Name x p) (e :: es) [] pos) md M h := by
  obtain ⟨f, fd, ps, F, hm, hk, hb⟩ := F
  exact PE.imp (pe_call F hr hg hm hk hb .nil pass0 ha hdb hs hpl) fun σ H Q ⟨F, R, q⟩ => ⟨F, R, _, q, fun vs F' H' ds k S o t r => by
    obtain ⟨x, rfl, rfl⟩ := hT ds k t
    refine ⟨hid b.fd H', x, hid_sub, by rw [List.append_nil]; exact o.args, ?_⟩
    obtain ⟨y, e, r⟩ := rlift r
    refine ⟨y, e, fun v F2 H2 C S2 o2 h2 => ?_⟩
    have hh : Sub H' H2 := by have := S2.hh; rwa [hid_none, hid_none] at this
    have S3 : Step X.K b.fd F' H' F' H2 := by
      have hh' : Sub (hid b.fd H') (hid b.fd H2) := fun a o e => by
        by_cases ha : b.fd = some a
        · unfold hid at e; rw [if_pos ha] at e; cases e
        · rw [hid_ne ha] at e ⊢; exact hh a o e
      exact ⟨Sub.refl _, hh', S.fh.trans hh', fun _ _ e => e, S.fe.mono (Sub.refl _) (fun φ e => (S.fe φ e).1) fun φ e => by
        obtain ⟨o, q⟩ := S.fe.some e
        rw [q, hh φ o q]⟩
    have rs : Rp X.K F' v (h y) := by
      have hs := hsc.sc y
      generalize h y = d at o2 hs
      cases o2 with
      | z r => exact r.scal hs
      | s _ r => exact r.scal hs
      | lst _ _ => cases hs
      | tup _ _ => cases hs
      | dic _ => cases hs
    exact Post.sc S3.fh S3.fe (Post.back R.fe (S.trans R.fe S3) r) (hsc.sc y) rs⟩
/-! ### an item at a written place -/
theorem dm_ixR {r : R2} {k : α → m γ} {y : β} (ho : IxR X r) (ha : DA X b sl e1 a1 c g) (hb : DA X b sl e2 a2 (pure y : m β) g1) (hr : OpS X.K b.fd r a1 a2 g g1 (fun _ z => z = y) (fun x _ => k x) md h) (hs : PlainIx e2) :
    DM X b sl (.Subscript e1 e2 pos) md (c >>= k) h := PE.imp (pe_ix ho ha hb hs) fun _ _ _ q => tD_opR hr q
theorem os_ixP0 : OpS K fd (rIxT K) .fr .pk (eP g g1) eI (fun _ y => y = 0) (fun x _ => (pure x.1 : m α)) (.ow 0) g := fun F H v1 v2 x y Q p fh fe r1 r2 q => by
  have q' := rpure q
  cases r2
  subst p
  cases r1 with
  | tup h1 a1 l1 =>
    cases a1 with
    | cons r a1 =>
      cases a1 with
      | cons r' a1 =>
        cases a1
        exact ⟨_, _, 0, _, rfl, rfl, (fh.trans hid_sub).sqt h1, rfl, Post.fr (.refl fh fe) q' r⟩
theorem os_ixP1 : OpS K fd (rIxT K) .fr .pk (eP g g1) eI (fun _ y => y = 1) (fun x _ => (pure x.2 : m β)) (.ow 0) g1 := fun F H v1 v2 x y Q p fh fe r1 r2 q => by
  have q' := rpure q
  cases r2
  subst p
  cases r1 with
  | tup h1 a1 l1 =>
    cases a1 with
    | cons r a1 =>
      cases a1 with
      | cons r' a1 =>
        cases a1
        exact ⟨_, _, 1, _, rfl, rfl, (fh.trans hid_sub).sqt h1, rfl, Post.fr (.refl fh fe) q' r'⟩
theorem dt_isN {g : α → D} {c : m (Option α)} [NN g] (h : DM X b sl e .pk c (eO g)) {j pos'} : DT X b sl (.Compare e [.Is] [.Constant .none j pos'] pos) (c >>= fun x => pure x.isNone) := PT.imp (pt_cmp (pc_isN h) rfl) fun σ H Q ⟨F, R, q⟩ => ⟨F, R, rmono (rbind q) fun x p v F' H' S r => by
  have p := rpure p
  have e : decide (v = V.non) = x.isNone := by
    cases x with
    | none => cases r; rfl
    | some a =>
      have hn := NN.nn (g := g) a
      have r : Rp X.K (hid b.fd H') v (g a) := r
      generalize g a = d at hn r
      cases r with
      | non => exact absurd rfl hn
      | _ => rfl
  exact ⟨_, rfl, by rw [e]; exact p F' H' S⟩⟩
theorem dt_notN {g : α → D} {c : m (Option α)} [NN g] (h : DM X b sl e .pk c (eO g)) {j pos'} : DT X b sl (.Compare e [.IsNot] [.Constant .none j pos'] pos) (c >>= fun x => pure x.isSome) := PT.imp (pt_cmp (pc_notN h) rfl) fun σ H Q ⟨F, R, q⟩ => ⟨F, R, rmono (rbind q) fun x p v F' H' S r => by
  have p := rpure p
  have e : (!decide (v = V.non)) = x.isSome := by
    cases x with
    | none => cases r; rfl
    | some a =>
      have hn := NN.nn (g := g) a
      have r : Rp X.K (hid b.fd H') v (g a) := r
      generalize g a = d at hn r
      cases r with
      | non => exact absurd rfl hn
      | _ => rfl
  exact ⟨_, rfl, by rw [e]; exact p F' H' S⟩⟩
theorem dt_b1 {x : α} {k : α → m Bool} (q : DT X b sl e ((pure x : m α) >>= k)) : DT X b sl e (k x) := by rw [Run.pure_b] at q; exact q
end
/-! ### strict sameness of data -/
mutual
def dsame : D → D → Bool
  | .none, .none => true
  | .bool a, .bool c => a == c
  | .int a, .int c => a == c
  | .str a, .str c => a == c
  | .list a, .list c => dsames a c
  | .tuple a, .tuple c => dsames a c
  | _, _ => false
def dsames : List D → List D → Bool
  | [], [] => true
  | a :: as, c :: cs => dsame a c && dsames as cs
  | _, _ => false
end
/-- a kind of which it tells what == tells -/
class Sam {α : Type} [BEq α] (g : α → D) (k : outParam Nat) : Prop where
  same : ∀ x y, dsame (g x) (g y) = (x == y)
  depth : ∀ x, (g x).depth ≤ k
  plain : ∀ x, (g x).plain = true
instance : Sam eI 1 := ⟨fun x y => by simp [eI, dsame], fun _ => by simp [eI, PyData.depth], fun _ => rfl⟩
instance : Sam eB 1 := ⟨fun x y => by simp [eB, dsame], fun _ => by simp [eB, PyData.depth], fun _ => rfl⟩
instance : Sam eS 1 := ⟨fun x y => by simp [eS, dsame], fun _ => by simp [eS, PyData.depth], fun _ => rfl⟩
instance : Sam eN 1 := ⟨fun x y => by simp [eN, dsame], fun _ => by simp [eN, PyData.depth], fun _ => rfl⟩
theorem dsames_map {α : Type} [BEq α] {g : α → D} (h : ∀ x y, dsame (g x) (g y) = (x == y)) : ∀ xs ys : List α, dsames (xs.map g) (ys.map g) = (xs == ys)
  | [], [] => by simp [dsames]
  | [], _ :: _ => by simp [dsames]
  | _ :: _, [] => by simp [dsames]
  | x :: xs, y :: ys => by simp [dsames, h x y, dsames_map h xs ys]
instance {α : Type} [BEq α] {g : α → D} {k : Nat} [h : Sam g k] : Sam (eL g) (k + 1) := ⟨fun xs ys => by simp only [eL, dsame]; exact dsames_map h.same xs ys, fun xs => by
  have := depthAll_map h.depth xs
  simp only [eL, PyData.depth]
  omega, fun xs => plainAll_map h.plain xs⟩
instance {α : Type} [BEq α] {g : α → D} {k : Nat} [h : Sam g k] : Sam (eT g) (k + 1) := ⟨fun xs ys => by simp only [eT, dsame]; exact dsames_map h.same xs ys, fun xs => by
  have := depthAll_map h.depth xs
  simp only [eT, PyData.depth]
  omega, fun xs => plainAll_map h.plain xs⟩
instance {α β : Type} [BEq α] [BEq β] {g : α → D} {h : β → D} {k l : Nat} [x : Sam g k] [y : Sam h l] : Sam (eP g h) (max k l + 1) := ⟨fun p q => by
  simp only [eP, dsame, dsames, x.same, y.same, Bool.and_true]
  rfl, fun p => by
  have := x.depth p.1
  have := y.depth p.2
  simp only [eP, PyData.depth, PyData.depthAll]
  omega, fun p => by simp [eP, PyData.plain, PyData.plainAll, x.plain, y.plain]⟩
theorem dsame_none_l {d : D} (h : d ≠ PyData.none) : dsame PyData.none d = false := by cases d <;> first | exact absurd rfl h | rfl
theorem dsame_none_r {d : D} (h : d ≠ PyData.none) : dsame d PyData.none = false := by cases d <;> first | exact absurd rfl h | rfl
instance {α : Type} [BEq α] {g : α → D} {k : Nat} [h : Sam g k] [hn : NN g] : Sam (eO g) (max k 1) := ⟨fun x y => by
  cases x with
  | none =>
    cases y with
    | none => rfl
    | some c => exact dsame_none_l (hn.nn c)
  | some a =>
    cases y with
    | none => exact dsame_none_r (hn.nn a)
    | some c => exact h.same a c, fun x => by
  cases x with
  | none => simp [eO, PyData.depth]
  | some a => have := h.depth a; simp only [eO]; omega, fun x => by
  cases x with
  | none => rfl
  | some a => exact h.plain a⟩
end DL
namespace DL
open PySem PySem.Spec PyProof.Rows L2
section
variable {m : Type → Type} [Run m] {α β γ : Type} {X : Cx} {b : Bs} {sl : Sls} {e e1 e2 e3 : Expr} {es : List Expr} {md : Md} {c : m α} {g : α → D} {c1 : m β} {g1 : β → D} {h : γ → D} {pos p : Pos} {x : Str} {kl n : Nat} {K : PySem.W.Frag} {fd : Option Addr} {Z : Type} {out : Z → Oc} {a1 a2 : Am}
theorem b01 {α β γ' : Type} {c : m α} {y : β} {k : α → β → m γ'} : (c >>= fun x => (pure y : m β) >>= fun y => k x y) = (c >>= fun x => k x y) := by congr 1; funext x; rw [Run.pure_b]
theorem dm_b01 {α1 α2 γ' : Type} {h' : γ' → D} {c : m α1} {y : α2} {k : α1 → α2 → m γ'} (q : DM X b sl e md (c >>= fun x => (pure y : m α2) >>= fun y => k x y) h') : DM X b sl e md (c >>= fun x => k x y) h' := dm_eq q b01
theorem dt_b01 {α1 α2 : Type} {c : m α1} {y : α2} {k : α1 → α2 → m Bool} (q : DT X b sl e (c >>= fun x => (pure y : m α2) >>= fun y => k x y)) : DT X b sl e (c >>= fun x => k x y) := by rw [b01] at q; exact q
theorem di_b01 {α1 α2 γ' : Type} {h' : γ' → D} {tg iter : Expr} {fz : Bool} {c : m α1} {y : α2} {k : α1 → α2 → m (List γ')} (q : DI X b sl tg iter fz (c >>= fun x => (pure y : m α2) >>= fun y => k x y) h') : DI X b sl tg iter fz (c >>= fun x => k x y) h' := by rw [b01] at q; exact q
theorem ds1_b {st : Stmt} {α1 : Type} {x : α1} {k : α1 → m Z} (q : DS1 X b sl st ((pure x : m α1) >>= k) out) : DS1 X b sl st (k x) out := by rw [Run.pure_b] at q; exact q
/-- -x -/
theorem dm_neg {c : m Int} (ha : DA X b sl e .pk c eI) : DM X b sl (.UnaryOp .USub e pos) md (c >>= fun x => pure (-x)) eI := PE.imp (pe_un un_neg ha) fun σ H Q ⟨F, R, q⟩ => ⟨F, R, rmono (rbind q) fun x p v F1 H1 S1 r1 => by
  have p := rpure p
  cases r1
  exact ⟨x, rfl, Post.sc S1.fh S1.fe (Post.back R.fe S1 p) rfl (.int _)⟩⟩
/-- a written row -/
theorem dm_tupL {n k x1 : Nat} {c : m (List α)} (h : PA X es (tLs X.K b sl n k c g)) (hk : decide (k ≤ 1000) = true := by rfl) : DM X b sl (.Tuple es x1 pos) (.ow (n + 1)) c (eT g) := PE.imp (pe_tup h) fun σ H Q ⟨F, R, q⟩ => ⟨F, R, rmono q fun xs p vs F1 H1 C1 S1 o1 h1 l => by
  have hk := of_decide_eq_true hk
  exact ⟨Nat.le_of_lt (small1000 (by omega)), fun p' np => Post.tup R.fe S1 p o1 h1 (by omega) np⟩⟩
/-- three -/
theorem dm_tup3 {n x1 : Nat} {δ : Type} {c2 : m δ} {g2 : δ → D} (h1 : DM X b sl e1 (.ow n) c g) (h2 : DM X b sl e2 (.ow n) c1 g1) (h3 : DM X b sl e3 (.ow n) c2 g2) (hs : starEach [e1, e2, e3] X.env = (false, eval e1 X.env) :: starEach [e2, e3] X.env := by rfl) (hs2 : starEach [e2, e3] X.env = (false, eval e2 X.env) :: starEach [e3] X.env := by rfl) (hs3 : starEach [e3] X.env = (false, eval e3 X.env) :: starEach [] X.env := by rfl) :
    DM X b sl (.Tuple [e1, e2, e3] x1 pos) (.ow (n + 1)) (c >>= fun x => c1 >>= fun y => c2 >>= fun z => pure (x, y, z)) (eP3 g g1 g2) := PE.imp (pe_tup (pa_cons h1 (pa_cons h2 (pa_cons h3 pa_nil hs3) hs2) hs)) fun σ H Q ⟨F, R, q⟩ => ⟨F, R, rmono (rbind q) fun x p v F1 H1 C1 S1 o1 k1 =>
  ⟨F1, R.step S1, rmono (rbind p) fun y p w F2 H2 C2 S2 o2 k2 => ⟨F2, (R.step S1).step S2, rmono (rbind p) fun z p u F3 H3 C3 S3 o3 k3 => by
    have p := rpure p
    have S12 := S1.trans R.fe S2
    refine ⟨by show 3 ≤ sizeLine; decide, fun p' np => Post.tup R.fe (S12.trans R.fe S3) p (C := C1 ++ (C2 ++ C3)) ?_ ?_ (by show 3 ≤ 1000; decide) np⟩
    · have t : OwnAll X.K F3 n [w, u] [g1 y, g2 z] (C2 ++ C3) := (o2.mono S3.ff).tup2 o3
      exact .cons ((o1.mono S2.ff).mono S3.ff) t
    · have := (k1.append R.fe S1 S2 k2).append R.fe S12 S3 k3
      rwa [List.append_assoc] at this⟩⟩⟩
theorem dm_tup3T {n x1 : Nat} {δ : Type} {x : α} {y : β} {z : δ} {g2 : δ → D} (h1 : DM X b sl e1 (.ow n) (pure x : m α) g) (h2 : DM X b sl e2 (.ow n) (pure y : m β) g1) (h3 : DM X b sl e3 (.ow n) (pure z : m δ) g2) (hs : starEach [e1, e2, e3] X.env = (false, eval e1 X.env) :: starEach [e2, e3] X.env := by rfl) (hs2 : starEach [e2, e3] X.env = (false, eval e2 X.env) :: starEach [e3] X.env := by rfl) (hs3 : starEach [e3] X.env = (false, eval e3 X.env) :: starEach [] X.env := by rfl) :
    DM X b sl (.Tuple [e1, e2, e3] x1 pos) (.ow (n + 1)) (pure (x, y, z) : m (α × β × δ)) (eP3 g g1 g2) := dm_b3 (k := fun x y z => pure (x, y, z)) (dm_tup3 h1 h2 h3 hs hs2 hs3)
theorem os_ixP30 {δ : Type} {g2 : δ → D} : OpS K fd (rIxT K) .fr .pk (eP3 g g1 g2) eI (fun _ y => y = 0) (fun x _ => (pure x.1 : m α)) (.ow 0) g := fun F H v1 v2 x y Q p fh fe r1 r2 q => by
  have q' := rpure q
  cases r2
  subst p
  cases r1 with
  | tup h1 a1 l1 =>
    cases a1 with
    | cons r a1 =>
      cases a1 with
      | cons r' a1 =>
        cases a1 with
        | cons r2 a1 =>
          cases a1
          exact ⟨_, _, 0, _, rfl, rfl, (fh.trans hid_sub).sqt h1, rfl, Post.fr (.refl fh fe) q' r⟩
theorem os_ixP31 {δ : Type} {g2 : δ → D} : OpS K fd (rIxT K) .fr .pk (eP3 g g1 g2) eI (fun _ y => y = 1) (fun x _ => (pure x.2.1 : m β)) (.ow 0) g1 := fun F H v1 v2 x y Q p fh fe r1 r2 q => by
  have q' := rpure q
  cases r2
  subst p
  cases r1 with
  | tup h1 a1 l1 =>
    cases a1 with
    | cons r a1 =>
      cases a1 with
      | cons r' a1 =>
        cases a1 with
        | cons r2 a1 =>
          cases a1
          exact ⟨_, _, 1, _, rfl, rfl, (fh.trans hid_sub).sqt h1, rfl, Post.fr (.refl fh fe) q' r'⟩
theorem os_ixP32 {δ : Type} {g2 : δ → D} : OpS K fd (rIxT K) .fr .pk (eP3 g g1 g2) eI (fun _ y => y = 2) (fun x _ => (pure x.2.2 : m δ)) (.ow 0) g2 := fun F H v1 v2 x y Q p fh fe r1 r2 q => by
  have q' := rpure q
  cases r2
  subst p
  cases r1 with
  | tup h1 a1 l1 =>
    cases a1 with
    | cons r a1 =>
      cases a1 with
      | cons r' a1 =>
        cases a1 with
        | cons r2 a1 =>
          cases a1
          exact ⟨_, _, 2, _, rfl, rfl, (fh.trans hid_sub).sqt h1, rfl, Post.fr (.refl fh fe) q' r2⟩
end
/-! ### isinstance -/
def tyD : D → String
  | .none => "NoneType" | .bool _ => "bool" | .int _ => "int" | .str _ => "str" | .list _ => "list" | .tuple _ => "tuple" | .dict _ => "dict"
theorem Rp.ty {K : PySem.W.Frag} {H : Hp} {v : V} {d : D} (r : Rp K H v d) : TyX K H v (.type (tyD d)) := by
  cases r with
  | non => exact .base .non
  | bl b => exact .base (.bl b)
  | int i => exact .base (.int i)
  | str x => exact .base (.str x)
  | lst a _ _ => exact .base (.lst a)
  | tup a _ _ =>
    rcases a with (a | ⟨o, a⟩) | ⟨o, its, n, h1, h2, _⟩
    · exact .base (.tup a)
    · exact .fTuple a
    · exact .kTuple h1 h2
  | dic a _ =>
    rcases a with a | ⟨o, a⟩
    · exact .base (.dK a)
    · exact .fDict a
def isT (t n : String) : Bool := t == n || (t == "bool" && n == "int")
def isD (n : String) (d : D) : Bool := isT (tyD d) n
def KB (n : String) : Prop := ∀ d : D, kitB (tyD d) n = some (isD n d)
theorem kb_of {n : String} (h : (["NoneType", "bool", "int", "str", "list", "tuple", "dict"].all fun t => kitB t n == some (isT t n)) = true) : KB n := fun d => by
  rw [List.all_eq_true] at h
  have : tyD d ∈ ["NoneType", "bool", "int", "str", "list", "tuple", "dict"] := by cases d <;> simp [tyD]
  have := h _ this
  simpa [isD] using this
theorem kb_int : KB "int" := kb_of (by decide +kernel)
theorem kb_bool : KB "bool" := kb_of (by decide +kernel)
theorem kb_str : KB "str" := kb_of (by decide +kernel)
theorem kb_list : KB "list" := kb_of (by decide +kernel)
theorem kb_tuple : KB "tuple" := kb_of (by decide +kernel)
theorem kb_dict : KB "dict" := kb_of (by decide +kernel)
def dnone : D → Bool
  | .none => true
  | _ => false
section
variable {m : Type → Type} [Run m] {α β γ : Type} {X : Cx} {b : Bs} {sl : Sls} {e e1 e2 e3 : Expr} {es : List Expr} {md : Md} {c : m α} {g : α → D} {c1 : m β} {g1 : β → D} {h : γ → D} {pos p : Pos} {x : Str} {kl n : Nat} {K : PySem.W.Frag} {fd : Option Addr} {Z : Type} {out : Z → Oc} {a1 a2 : Am}
theorem dm_isi {nm : Str} {T : String} {p2 : Pos} (hb : bootBuiltins nm = some (.type T)) (hk : KB T) (hmi : X.mg "isinstance" = none) (hmn : X.mg nm = none) (he : DM X b sl e .pk c g) (hg : Gl X "isinstance" := by rfl) (hg2 : Gl X nm := by rfl) (hn : nm ≠ "__name__" := by decide) (hd : (nm == ("__debug__" : Str)) = false := by decide)
    (hs : starEach [e, .Name nm p2] X.env = (false, eval e X.env) :: starEach [.Name nm p2] X.env := by rfl) (hs2 : starEach [.Name nm p2] X.env = (false, eval (.Name nm p2) X.env) :: starEach [] X.env := by rfl) (hpl : (backTo pos (starEach [.Name nm p2] X.env)).any (·.1) = false := by rfl) :
    DM X b sl (.Call (.Name "isinstance" p) [e, .Name nm p2] [] pos) md (c >>= fun x => pure (isD T (g x))) eB :=
  PE.imp (pe_callB call_isi hg hmi bo_isinstance (pa_cons he (pa_cons (pe_bltn (v := .ty T) hg2 hmn hb rfl hn hd) pa_nil hs2) hs) (by decide) (by decide) hs hpl) fun σ H Q ⟨F, R, q⟩ => ⟨F, R, rmono (rbind q) fun x p v F1 H1 S1 r1 => by
    have p := rpure p
    have hk' : kitB (tyD (g x)) T = some (isD T (g x)) := hk (g x)
    exact ⟨v, _, _, _, _, rfl, .ty T, Rp.ty (r1.mono hid_sub), kit_ty hk', Post.sc S1.fh S1.fe (Post.back R.fe S1 p) rfl (.bl _)⟩⟩
theorem dm_isiT {nm : Str} {T : String} {p2 : Pos} {x : α} (hb : bootBuiltins nm = some (.type T)) (hk : KB T) (hmi : X.mg "isinstance" = none) (hmn : X.mg nm = none) (he : DM X b sl e .pk (pure x : m α) g) (hg : Gl X "isinstance" := by rfl) (hg2 : Gl X nm := by rfl) (hn : nm ≠ "__name__" := by decide) (hd : (nm == ("__debug__" : Str)) = false := by decide)
    (hs : starEach [e, .Name nm p2] X.env = (false, eval e X.env) :: starEach [.Name nm p2] X.env := by rfl) (hs2 : starEach [.Name nm p2] X.env = (false, eval (.Name nm p2) X.env) :: starEach [] X.env := by rfl) (hpl : (backTo pos (starEach [.Name nm p2] X.env)).any (·.1) = false := by rfl) :
    DM X b sl (.Call (.Name "isinstance" p) [e, .Name nm p2] [] pos) md (pure (isD T (g x)) : m Bool) eB := dm_b1 (k := fun x => pure (isD T (g x))) (dm_isi hb hk hmi hmn he hg hg2 hn hd hs hs2 hpl)
/-! ### of any data -/
def dlen : D → Option Int
  | .list xs => some xs.length
  | .tuple xs => some xs.length
  | _ => none
theorem os_lenD : OpS1 K fd (rLen K) .pk eD (fun x => (Run.lift (dlen x) : m Int)) md eI := fun F H v1 x Q fh fe r1 q => by
  obtain ⟨z, e, q⟩ := rlift q
  have r1 : Rp K (hid fd H) v1 x := r1
  cases r1 with
  | lst h1 a1 l1 =>
    cases e
    refine ⟨_, _, rfl, .inl (SqL.of (hid_sub _ _ h1)), ?_⟩
    rw [a1.length]
    exact Post.sc fh fe q rfl (.int _)
  | tup h1 a1 l1 =>
    cases e
    refine ⟨_, _, rfl, .inr (hid_sub.sqt h1), ?_⟩
    rw [a1.length]
    exact Post.sc fh fe q rfl (.int _)
  | _ => cases e
def dix (d : D) (i : Int) : Option D := match d with
  | .list xs => atI xs i
  | .tuple xs => atI xs i
  | _ => none
theorem os_ixD : OpS K fd (rIx K) .fr .pk eD eI (fun _ _ => True) (fun x y => (Run.lift (dix x y) : m D)) (.ow 0) eD := fun F H v1 v2 x y Q _ fh fe r1 r2 q => by
  obtain ⟨z, e, q'⟩ := rlift (o := dix x y) q
  cases r2
  have r1 : Rp K F v1 x := r1
  cases r1 with
  | lst h1 a1 l1 =>
    obtain ⟨v, ev, rv⟩ := a1.atI e
    have q' : Post K fd (.ow 0) F H (eD z) Q := q'
    exact .inl ⟨_, _, y, v, rfl, rfl, SqL.of (fh.trans hid_sub _ _ h1), ev, Post.fr (.refl fh fe) q' rv⟩
  | tup h1 a1 l1 =>
    obtain ⟨v, ev, rv⟩ := a1.atI e
    have q' : Post K fd (.ow 0) F H (eD z) Q := q'
    exact .inr (.inl ⟨_, _, y, v, rfl, rfl, (fh.trans hid_sub).sqt h1, ev, Post.fr (.refl fh fe) q' rv⟩)
  | _ => cases e
theorem dm_isND {x : D} (h : DM X b sl e .pk (pure x : m D) eD) {j pos'} : DM X b sl (.Compare e [.Is] [.Constant .none j pos'] pos) md (pure (dnone x) : m Bool) eB := PE.imp (pe_cmp (pc_isN h) rfl) fun σ H Q ⟨F, R, q⟩ => ⟨F, R, rpure' fun v F' H' S r => by
  have p := rpure q
  have e : decide (v = V.non) = dnone x := by
    have r : Rp X.K (hid b.fd H') v x := r
    cases r <;> rfl
  dsimp only
  rw [e]
  exact Post.sc S.fh S.fe (Post.back R.fe S p) rfl (.bl _)⟩
theorem dt_isND {x : D} (h : DM X b sl e .pk (pure x : m D) eD) {j pos'} : DT X b sl (.Compare e [.Is] [.Constant .none j pos'] pos) (pure (dnone x) : m Bool) := PT.imp (pt_cmp (pc_isN h) rfl) fun σ H Q ⟨F, R, q⟩ => ⟨F, R, rpure' fun v F' H' S r => by
  have p := rpure q
  have e : decide (v = V.non) = dnone x := by
    have r : Rp X.K (hid b.fd H') v x := r
    cases r <;> rfl
  exact ⟨_, rfl, by rw [e]; exact p F' H' S⟩⟩
theorem ds_none {sts : List Stmt} : DS X b sl sts (none : Option Z) out := ⟨fun pins s σ H D I ⟨F, R, q⟩ => by
  obtain ⟨a, e, _⟩ := q
  cases e⟩
end
end DL
namespace DL
open PySem PySem.Spec PyProof.Rows L2
section
variable {m : Type → Type} [Run m] {α β γ : Type} {X : Cx} {b : Bs} {sl : Sls} {e e1 e2 e3 : Expr} {es : List Expr} {md : Md} {c : m α} {g : α → D} {c1 : m β} {g1 : β → D} {h : γ → D} {pos p p2 pos2 : Pos} {x : Str} {kl n : Nat} {K : PySem.W.Frag} {fd : Option Addr} {Z : Type} {out : Z → Oc} {a1 a2 : Am} {tg : Expr}
/-! ### range(len(xs)) -/
def tLen (K : PySem.W.Frag) (b : Bs) (sl : Sls) (c : m Int) : TE := fun σ H Q => ∃ F, Rel K b sl F H σ ∧ Run.run c (fun n => ∀ F' H', Step K b.fd F H F' H' → 0 ≤ n → n ≤ 16777216 → Q (.int n) H')
theorem pe_lenD {c : m α} {k : α → m Int} {f : α → Option Int} (hl : ∀ K fd F H v x Q, Sub F (hid fd H) → FeedOk K fd F H → Rp K (hid fd H) v (g x) → Run.run (k x) (fun n => 0 ≤ n → n ≤ 16777216 → Q (.int n) H) → rLen K [v] H Q) (hm : X.mg "len" = none) (he : DM X b sl e .pk c g) (hg : Gl X "len" := by rfl)
    (hs : starEach [e] X.env = (false, eval e X.env) :: starEach [] X.env := by rfl) : PE X (.Call (.Name "len" p) [e] [] pos) (tLen X.K b sl (c >>= k)) := PE.imp (pe_callB call_len_seq hg hm bo_len (pa_cons he pa_nil hs) (by decide) (by decide) hs) fun σ H Q ⟨F, R, q⟩ => ⟨F, R, rmono (rbind q) fun x p v F1 H1 S1 r1 =>
      hl X.K b.fd F1 H1 v x Q S1.fh S1.fe r1 (rmono p fun n q h1 h2 => q F1 H1 S1 h1 h2)⟩
theorem hlL (K : PySem.W.Frag) (fd : Option Addr) (F H : Hp) (v : V) (x : List α) (Q : VK) (fh : Sub F (hid fd H)) (fe : FeedOk K fd F H) (r : Rp K (hid fd H) v (eL g x)) (q : Run.run (pure (x.length : Int) : m Int) (fun n => 0 ≤ n → n ≤ 16777216 → Q (.int n) H)) : rLen K [v] H Q := by
  have q := rpure q
  cases r with
  | lst h1 a1 l1 =>
    refine ⟨_, _, rfl, .inl (SqL.of (hid_sub _ _ h1)), ?_⟩
    have l1' : x.length ≤ 16777216 := by rw [sl16] at l1; simpa using l1
    rw [a1.length, List.length_map]
    exact q (by omega) (by omega)
theorem hlT (K : PySem.W.Frag) (fd : Option Addr) (F H : Hp) (v : V) (x : List α) (Q : VK) (fh : Sub F (hid fd H)) (fe : FeedOk K fd F H) (r : Rp K (hid fd H) v (eT g x)) (q : Run.run (pure (x.length : Int) : m Int) (fun n => 0 ≤ n → n ≤ 16777216 → Q (.int n) H)) : rLen K [v] H Q := by
  have q := rpure q
  cases r with
  | tup h1 a1 l1 =>
    refine ⟨_, _, rfl, .inr (hid_sub.sqt h1), ?_⟩
    have l1' : x.length ≤ 16777216 := by rw [sl16] at l1; simpa using l1
    rw [a1.length, List.length_map]
    exact q (by omega) (by omega)
theorem hlD (K : PySem.W.Frag) (fd : Option Addr) (F H : Hp) (v : V) (x : D) (Q : VK) (fh : Sub F (hid fd H)) (fe : FeedOk K fd F H) (r : Rp K (hid fd H) v (eD x)) (q : Run.run (Run.lift (dlen x) : m Int) (fun n => 0 ≤ n → n ≤ 16777216 → Q (.int n) H)) : rLen K [v] H Q := by
  obtain ⟨z, e, q⟩ := rlift q
  have r1 : Rp K (hid fd H) v x := r
  cases r1 with
  | lst h1 a1 l1 =>
    cases e
    refine ⟨_, _, rfl, .inl (SqL.of (hid_sub _ _ h1)), ?_⟩
    rw [a1.length]
    have l1' : _ ≤ 16777216 := l1
    exact q (by omega) (by omega)
  | tup h1 a1 l1 =>
    cases e
    refine ⟨_, _, rfl, .inr (hid_sub.sqt h1), ?_⟩
    rw [a1.length]
    have l1' : _ ≤ 16777216 := l1
    exact q (by omega) (by omega)
  | _ => cases e
theorem di_rngN {c : m Int} (hm : X.mg "range" = none) (h : PE X e (tLen X.K b sl c)) (hg : Gl X "range" := by rfl) (hs : starEach [e] X.env = [(false, eval e X.env)] := by rfl) (hs2 : starEach [e] X.env = (false, eval e X.env) :: starEach [] X.env := by rfl) :
    DI X b sl tg (.Call (.Name "range" p) [e] [] pos) true (c >>= fun n => pure (rng 0 n)) eI := PI.imp (pi_range1 hg hm (pa_cons h pa_nil hs2) hs) fun σ H R ⟨F, Re, q⟩ => ⟨F, Re, rmono (rbind q) fun n p F1 H1 S1 h1 h2 => by
  have p := rpure p
  exact ⟨n, rfl, by omega, by omega, p _ F1 H1 _ S1 (it_rng (by omega)) trivial (fun _ _ _ _ _ _ _ _ => trivial) (by rw [rng_length, sl16]; omega)⟩⟩
theorem di_rngLen {xs : List α} (hm : X.mg "range" = none) (hl : X.mg "len" = none) (h : DM X b sl e .pk (pure xs : m (List α)) (eL g)) (hg : Gl X "len" := by rfl) (hs0 : starEach [e] X.env = (false, eval e X.env) :: starEach [] X.env := by rfl) (hg2 : Gl X "range" := by rfl)
    (hs : starEach [.Call (.Name "len" p2) [e] [] pos2] X.env = [(false, eval (.Call (.Name "len" p2) [e] [] pos2) X.env)] := by rfl) (hs2 : starEach [.Call (.Name "len" p2) [e] [] pos2] X.env = (false, eval (.Call (.Name "len" p2) [e] [] pos2) X.env) :: starEach [] X.env := by rfl) :
    DI X b sl tg (.Call (.Name "range" p) [.Call (.Name "len" p2) [e] [] pos2] [] pos) true (pure (rng 0 xs.length) : m (List Int)) eI := by
  have := di_rngN (tg := tg) (pos := pos) (p := p) hm (pe_lenD (p := p2) (pos := pos2) (k := fun x => (pure (x.length : Int) : m Int)) (f := fun _ => none) (hlL (m := m)) hl h hg hs0) hg2 hs hs2
  rwa [Run.pure_b, Run.pure_b] at this
theorem di_rngLenT {xs : List α} (hm : X.mg "range" = none) (hl : X.mg "len" = none) (h : DM X b sl e .pk (pure xs : m (List α)) (eT g)) (hg : Gl X "len" := by rfl) (hs0 : starEach [e] X.env = (false, eval e X.env) :: starEach [] X.env := by rfl) (hg2 : Gl X "range" := by rfl)
    (hs : starEach [.Call (.Name "len" p2) [e] [] pos2] X.env = [(false, eval (.Call (.Name "len" p2) [e] [] pos2) X.env)] := by rfl) (hs2 : starEach [.Call (.Name "len" p2) [e] [] pos2] X.env = (false, eval (.Call (.Name "len" p2) [e] [] pos2) X.env) :: starEach [] X.env := by rfl) :
    DI X b sl tg (.Call (.Name "range" p) [.Call (.Name "len" p2) [e] [] pos2] [] pos) true (pure (rng 0 xs.length) : m (List Int)) eI := by
  have := di_rngN (tg := tg) (pos := pos) (p := p) hm (pe_lenD (p := p2) (pos := pos2) (k := fun x => (pure (x.length : Int) : m Int)) (f := fun _ => none) (hlT (m := m)) hl h hg hs0) hg2 hs hs2
  rwa [Run.pure_b, Run.pure_b] at this
theorem di_rngLen' {c : m (List α)} (hm : X.mg "range" = none) (hl : X.mg "len" = none) (h : DM X b sl e .pk c (eL g)) (hg : Gl X "len" := by rfl) (hs0 : starEach [e] X.env = (false, eval e X.env) :: starEach [] X.env := by rfl) (hg2 : Gl X "range" := by rfl)
    (hs : starEach [.Call (.Name "len" p2) [e] [] pos2] X.env = [(false, eval (.Call (.Name "len" p2) [e] [] pos2) X.env)] := by rfl) (hs2 : starEach [.Call (.Name "len" p2) [e] [] pos2] X.env = (false, eval (.Call (.Name "len" p2) [e] [] pos2) X.env) :: starEach [] X.env := by rfl) :
    DI X b sl tg (.Call (.Name "range" p) [.Call (.Name "len" p2) [e] [] pos2] [] pos) true ((c >>= fun x => (pure (x.length : Int) : m Int)) >>= fun n => pure (rng 0 n)) eI :=
  di_rngN (tg := tg) (pos := pos) (p := p) hm (pe_lenD (p := p2) (pos := pos2) (k := fun x => (pure (x.length : Int) : m Int)) (f := fun _ => none) (hlL (m := m)) hl h hg hs0) hg2 hs hs2
theorem di_rngLenD {d : D} (hm : X.mg "range" = none) (hl : X.mg "len" = none) (h : DM X b sl e .pk (pure d : m D) eD) (hg : Gl X "len" := by rfl) (hs0 : starEach [e] X.env = (false, eval e X.env) :: starEach [] X.env := by rfl) (hg2 : Gl X "range" := by rfl)
    (hs : starEach [.Call (.Name "len" p2) [e] [] pos2] X.env = [(false, eval (.Call (.Name "len" p2) [e] [] pos2) X.env)] := by rfl) (hs2 : starEach [.Call (.Name "len" p2) [e] [] pos2] X.env = (false, eval (.Call (.Name "len" p2) [e] [] pos2) X.env) :: starEach [] X.env := by rfl) :
    DI X b sl tg (.Call (.Name "range" p) [.Call (.Name "len" p2) [e] [] pos2] [] pos) true ((Run.lift (dlen d) : m Int) >>= fun n => pure (rng 0 n)) eI := by
  have := di_rngN (tg := tg) (pos := pos) (p := p) hm (pe_lenD (p := p2) (pos := pos2) (k := fun x => (Run.lift (dlen x) : m Int)) (f := fun _ => none) (hlD (m := m)) hl h hg hs0) hg2 hs hs2
  rwa [Run.pure_b] at this
theorem dm_eqD {d e' : D} {md : Md} (hu : X.A.units + 64 < cLine) (ha : DA X b sl e1 .pk (pure d : m D) eD) (hb : DA X b sl e2 .pk (pure e' : m D) eD) : DM X b sl (.Compare e1 [.Eq] [e2] pos) md (Run.lift (deq d e') : m Bool) eB :=
  dm_b2 (k := fun x y => Run.lift (deq (eD x) (eD y))) (dm_cmp (op_eqP hu) ha hb os_eqD (nomark _))
end
/-! ### sameness, as the laws tell it -/
def sameK : Nat → D × D → Option Bool
  | 0, _ => none
  | n + 1, a =>
    (pure (isD "list" a.2 || isD "tuple" a.2) : Option Bool) >>= fun t => if t then
      (pure ((isD "list" a.1 != isD "list" a.2) || (isD "tuple" a.1 != isD "tuple" a.2)) : Option Bool) >>= fun t => if t then pure false else
        ((Run.lift (dlen a.1) : Option Int) >>= fun x => (Run.lift (dlen a.2) : Option Int) >>= fun y => pure (x == y)) >>= fun t => if t then
          ((Run.lift (dlen a.2) : Option Int) >>= fun k => pure (rng 0 k)) >>= lcM (fun _ => pure true) (fun k => (Run.lift (dix a.1 k) : Option D) >>= fun u => (Run.lift (dix a.2 k) : Option D) >>= fun v => Run.lift (sameK n (u, v))) >>= fun bs => pure (bs.all id)
        else pure false
    else (pure (dnone a.2 || isD "bool" a.2) : Option Bool) >>= fun t => if t then
      (if dnone a.2 then pure (dnone a.1) else (pure (isD "bool" a.1) : Option Bool) >>= fun t => if t then Run.lift (deq a.1 a.2) else pure false)
    else (pure (isD "str" a.2) : Option Bool) >>= fun t => if t then
      (pure (isD "str" a.1) : Option Bool) >>= fun t => if t then Run.lift (deq a.1 a.2) else pure false
    else (pure (isD "int" a.1) : Option Bool) >>= fun t => if t then (pure (!isD "bool" a.1) : Option Bool) >>= fun t => if t then Run.lift (deq a.1 a.2) else pure false else pure false
theorem lcM_some {α β : Type} {elt : α → Option β} {f : α → β} : ∀ {xs : List α}, (∀ x ∈ xs, elt x = some (f x)) → lcM (fun _ => (pure true : Option Bool)) elt xs = some (xs.map f)
  | [], _ => rfl
  | x :: xs, h => by
    show (elt x >>= fun y => lcM (fun _ => (pure true : Option Bool)) elt xs >>= fun ys => pure (y :: ys)) = _
    rw [h x (by simp), lcM_some (fun y hy => h y (by simp [hy]))]
    rfl
theorem atI_nat {α : Type} {xs : List α} {k : Nat} (h : k < xs.length) : atI xs (k : Int) = some xs[k] := by
  unfold L2.atI ixN
  rw [if_pos (by omega), if_pos (by omega)]
  show xs[(k : Int).toNat]? = _
  simp [List.getElem?_eq_getElem h]
theorem dsames_all : ∀ {xs ys : List D} (h : xs.length = ys.length), ((List.range ys.length).map fun k => dsame (xs[k]?.getD .none) (ys[k]?.getD .none)).all id = dsames xs ys
  | [], [], _ => rfl
  | [], _ :: _, h => by simp at h
  | _ :: _, [], h => by simp at h
  | x :: xs, y :: ys, h => by
    have ih := dsames_all (xs := xs) (ys := ys) (by simpa using h)
    rw [List.length_cons, List.range_succ_eq_map]
    simp only [List.map_cons, List.all_cons, List.map_map]
    rw [dsames, ← ih]
    rfl
theorem dsames_len : ∀ {xs ys : List D}, xs.length ≠ ys.length → dsames xs ys = false
  | [], [], h => absurd rfl h
  | [], _ :: _, _ => rfl
  | _ :: _, [], _ => rfl
  | x :: xs, y :: ys, h => by
    rw [dsames, dsames_len (by simpa using h), Bool.and_false]
theorem mem_plain : ∀ {ds : List D} {d : D}, d ∈ ds → PyData.plainAll ds = true → d.plain = true
  | c :: cs, _, h, p => by
    have p' : c.plain = true ∧ PyData.plainAll cs = true := by simpa [PyData.plainAll] using p
    rcases List.mem_cons.mp h with rfl | h
    · exact p'.1
    · exact mem_plain h p'.2
theorem mem_depth : ∀ {ds : List D} {d : D}, d ∈ ds → d.depth ≤ PyData.depthAll ds
  | _ :: _, _, h => by
    simp only [PyData.depthAll]
    rcases List.mem_cons.mp h with rfl | h
    · omega
    · have := mem_depth h; omega
theorem same_rows {n : Nat} {T : List D → D} {xs ys : List D} (hl : xs.length = ys.length) (dx : ∀ zs k, dix (T zs) k = atI zs k) (ih : ∀ a ∈ xs, ∀ d ∈ ys, sameK n (a, d) = some (dsame a d)) :
    lcM (fun _ => (pure true : Option Bool)) (fun k => (Run.lift (dix (T xs) k) : Option D) >>= fun u => (Run.lift (dix (T ys) k) : Option D) >>= fun v => Run.lift (sameK n (u, v))) (rng 0 (ys.length : Int)) = some ((List.range ys.length).map fun k => dsame (xs[k]?.getD .none) (ys[k]?.getD .none)) := by
  rw [lcM_some (f := fun k : Int => dsame (xs[k.toNat]?.getD .none) (ys[k.toNat]?.getD .none))]
  · unfold rng
    rw [List.map_map]
    have : ((ys.length : Int) - 0).toNat = ys.length := by omega
    rw [this]
    congr 1
    apply List.map_congr_left
    intro k hk
    show dsame (xs[((0 : Int) + (k : Int)).toNat]?.getD .none) _ = _
    have : ((0 : Int) + (k : Int)).toNat = k := by omega
    rw [this]
  · intro k hk
    unfold rng at hk
    obtain ⟨j, hj, rfl⟩ := List.mem_map.mp hk
    have hj : j < ys.length := by have := List.mem_range.mp hj; omega
    rw [dx, dx]
    have e : (0 : Int) + (j : Int) = ((j : Nat) : Int) := by omega
    rw [e, atI_nat (by omega : j < xs.length), atI_nat hj]
    show sameK n (xs[j], ys[j]) = _
    rw [ih _ (List.getElem_mem _) _ (List.getElem_mem _)]
    simp [List.getElem?_eq_getElem hj, List.getElem?_eq_getElem (by omega : j < xs.length)]
theorem sameK_ok : ∀ (n : Nat) (a d : D), a.plain = true → d.plain = true → d.depth < n → a.depth ≤ 62 → n ≤ 62 → sameK n (a, d) = some (dsame a d)
  | 0, a, d, _, _, h, _, _ => by omega
  | n + 1, a, d, pa, pd, h, ha, hn => by
    have de : ∀ (i j : D), i.plain = true → j.plain = true → i.depth ≤ 62 → deq i j = some (PyData.eqv i j) := fun i j h1 h2 h3 => by unfold deq; rw [if_pos ⟨h1, h2, h3⟩]
    cases d with
    | none => cases a <;> rfl
    | bool x =>
      cases a with
      | bool y =>
        show deq (.bool y) (.bool x) = _
        rw [de _ _ rfl rfl (by simp [PyData.depth])]
        simp [PyData.eqv, dsame]
      | _ => rfl
    | int x =>
      cases a with
      | int y =>
        show deq (.int y) (.int x) = _
        rw [de _ _ rfl rfl (by simp [PyData.depth])]
        simp [PyData.eqv, dsame]
      | _ => rfl
    | str x =>
      cases a with
      | str y =>
        show deq (.str y) (.str x) = _
        rw [de _ _ rfl rfl (by simp [PyData.depth])]
        simp [PyData.eqv, dsame]
      | _ => rfl
    | dict _ => cases pd
    | list ys =>
      cases a with
      | list xs =>
        by_cases hl : xs.length = ys.length
        · have hl' : ((xs.length : Int) == (ys.length : Int)) = true := by simp [hl]
          show (if ((xs.length : Int) == (ys.length : Int)) = true then lcM _ _ (rng 0 (ys.length : Int)) >>= fun bs => pure (bs.all id) else _) = _
          rw [if_pos hl']
          simp only [PyData.depth] at h ha
          rw [same_rows (T := .list) hl (fun _ _ => rfl) fun u hu v hv => sameK_ok n u v (mem_plain hu pa) (mem_plain hv pd) (by have := mem_depth hv; omega) (by have := mem_depth hu; omega) (by omega)]
          show some _ = _
          rw [dsames_all hl]
          rfl
        · have hl' : ¬((xs.length : Int) == (ys.length : Int)) = true := by simp; omega
          show (if ((xs.length : Int) == (ys.length : Int)) = true then _ else _) = _
          rw [if_neg hl']
          show some false = some (dsames xs ys)
          rw [dsames_len hl]
      | _ => rfl
    | tuple ys =>
      cases a with
      | tuple xs =>
        by_cases hl : xs.length = ys.length
        · have hl' : ((xs.length : Int) == (ys.length : Int)) = true := by simp [hl]
          show (if ((xs.length : Int) == (ys.length : Int)) = true then lcM _ _ (rng 0 (ys.length : Int)) >>= fun bs => pure (bs.all id) else _) = _
          rw [if_pos hl']
          simp only [PyData.depth] at h ha
          rw [same_rows (T := .tuple) hl (fun _ _ => rfl) fun u hu v hv => sameK_ok n u v (mem_plain hu pa) (mem_plain hv pd) (by have := mem_depth hv; omega) (by have := mem_depth hu; omega) (by omega)]
          show some _ = _
          rw [dsames_all hl]
          rfl
        · have hl' : ¬((xs.length : Int) == (ys.length : Int)) = true := by simp; omega
          show (if ((xs.length : Int) == (ys.length : Int)) = true then _ else _) = _
          rw [if_neg hl']
          show some false = some (dsames xs ys)
          rw [dsames_len hl]
      | _ => rfl
theorem same_ok {α : Type} [BEq α] {g : α → D} {k : Nat} [h : Sam g k] (x y : α) (hk : k ≤ 5 := by decide) : sameK 6 (g x, g y) = some (x == y) := by
  rw [sameK_ok 6 _ _ (h.plain x) (h.plain y) (by have := h.depth y; omega) (by have := h.depth x; omega) (by omega), h.same]
end DL
namespace DL
open PySem PySem.Spec PyProof.Rows L2
section
variable {α β γ S R : Type} {Q : α → Prop} {Q' : β → Prop}
theorem wp_bind (x : W α) (f : α → W β) (Q : β → Prop) : (x >>= f).wp Q = x.wp (fun a => (f a).wp Q) := rfl
theorem wp_pure (a : α) (Q : α → Prop) : (pure a : W α).wp Q = Q a := rfl
theorem wp_some (a : α) (Q : α → Prop) : (Run.lift (some a) : W α).wp Q = Q a := propext ⟨fun ⟨b, e, q⟩ => by cases e; exact q, fun q => ⟨a, rfl, q⟩⟩
theorem wp_lift {o : Option α} {a : α} (e : o = some a) (q : Q a) : (Run.lift o : W α).wp Q := ⟨a, e, q⟩
theorem wp_draw {m : Int} {Q : Int → Prop} (h0 : 0 < m) (h1 : m < 1073741824) (q : ∀ v, 0 ≤ v → v < m → Q v) : (drawW m).wp Q := ⟨⟨h0, h1⟩, q⟩
theorem wp_mono {x : W α} {Q' : α → Prop} (h : x.wp Q) (k : ∀ a, Q a → Q' a) : x.wp Q' := x.mono _ _ k h
theorem wl {o : Option α} {a : α} {f : α → W β} {Q : β → Prop} (e : o = some a) (h : (f a).wp Q) : ((Run.lift o : W α) >>= f).wp Q := ⟨a, e, h⟩
theorem wpu {a : α} {f : α → W β} {Q : β → Prop} (h : (f a).wp Q) : ((pure a : W α) >>= f).wp Q := h
theorem was {x : W α} {f : α → W β} {g : β → W γ} {Q : γ → Prop} (h : (x >>= fun a => f a >>= g).wp Q) : ((x >>= f) >>= g).wp Q := h
theorem wd {m : Int} {f : Int → W β} {Q : β → Prop} (h0 : 0 < m) (h1 : m < 1073741824) (q : ∀ v, 0 ≤ v → v < m → (f v).wp Q) : (drawW m >>= f).wp Q := ⟨⟨h0, h1⟩, q⟩
theorem wt {x y : W α} (h : x.wp Q) : (if (true : Bool) = true then x else y).wp Q := by rw [if_pos rfl]; exact h
theorem wf {x y : W α} (h : y.wp Q) : (if (false : Bool) = true then x else y).wp Q := by rw [if_neg Bool.false_ne_true]; exact h
/-- a loop with no state that never leaves -/
theorem forC_u {f : Unit → α → W (Ct Unit R)} : ∀ {xs : List α}, (∀ x ∈ xs, (f () x).wp (fun z => z = .nx ())) → (forC f () xs).wp (fun z => z = .nx ())
  | [], _ => rfl
  | x :: xs, h => W.mono (f () x) _ _ (fun z e => by subst e; exact forC_u fun y hy => h y (by simp [hy])) (h x (by simp))
/-- .. with one that keeps a promise -/
theorem forC_p {f : S → α → W (Ct S R)} {P : S → Prop} : ∀ {xs : List α} {s : S}, P s → (∀ x ∈ xs, ∀ s, P s → (f s x).wp (fun z => ∃ s', z = .nx s' ∧ P s')) → (forC f s xs).wp (fun z => ∃ s', z = .nx s' ∧ P s')
  | [], s, h0, _ => ⟨s, rfl, h0⟩
  | x :: xs, s, h0, h => W.mono (f s x) _ _ (fun z ⟨s', e, p⟩ => by subst e; exact forC_p p fun y hy => h y (by simp [hy])) (h x (by simp) s h0)
theorem forS_p {f : S → α → W S} {P : S → Prop} : ∀ {xs : List α} {s : S}, P s → (∀ x ∈ xs, ∀ s, P s → (f s x).wp P) → (forS f s xs).wp P
  | [], s, h0, _ => h0
  | x :: xs, s, h0, h => W.mono (f s x) _ _ (fun s' p => forS_p p fun y hy => h y (by simp [hy])) (h x (by simp) s h0)
/-- .. that walks over written things: a plain one -/
theorem forC_o {f : S → α → W (Ct S R)} {g : S → α → Option (Ct S R)} (h : ∀ s x z, g s x = some z → (f s x).wp (fun y => y = z)) : ∀ {xs : List α} {s : S} {z : Ct S R}, forC g s xs = some z → (forC f s xs).wp (fun y => y = z)
  | [], s, z, e => by
    have e : some (Ct.nx s) = some z := e
    cases e
    rfl
  | x :: xs, s, z, e => by
    have e : (g s x >>= fun w => match w with
      | .nx s' => forC g s' xs
      | .rt r => pure (.rt r)
      | .bk s' => pure (.nx s')) = some z := e
    cases hg : g s x with
    | none => rw [hg] at e; cases e
    | some w =>
      rw [hg] at e
      refine W.mono (f s x) _ _ (fun y ey => ?_) (h s x w hg)
      subst ey
      cases y with
      | nx s' => exact forC_o h e
      | rt r =>
        have e : some (Ct.rt r) = some z := e
        cases e
        rfl
      | bk s' =>
        have e : some (Ct.nx s') = some z := e
        cases e
        rfl
theorem goN {Z : Type} {s : S} {k : S → W Z} {f : R → W Z} {Q : Z → Prop} (h : (k s).wp Q) : ((Ct.nx s : Ct S R).go k f).wp Q := h
theorem wgo {Z : Type} {c : W (Ct S R)} {s : S} {k : S → W Z} {f : R → W Z} {Q : Z → Prop} (hc : c.wp (fun z => z = .nx s)) (h : (k s).wp Q) : (c >>= fun z => z.go k f).wp Q := W.mono c _ _ (fun z e => by subst e; exact h) hc
theorem wgoP {Z : Type} {c : W (Ct S R)} {P : S → Prop} {k : S → W Z} {f : R → W Z} {Q : Z → Prop} (hc : c.wp (fun z => ∃ s, z = .nx s ∧ P s)) (h : ∀ s, P s → (k s).wp Q) : (c >>= fun z => z.go k f).wp Q := W.mono c _ _ (fun z ⟨s, e, p⟩ => by subst e; exact h s p) hc
theorem wlc {t : α → W Bool} {e : α → W β} {t' : α → Option Bool} {e' : α → Option β} (ht : ∀ x b, t' x = some b → (t x).wp (fun y => y = b)) (he : ∀ x b, e' x = some b → (e x).wp (fun y => y = b)) : ∀ {xs : List α} {ys : List β}, lcM t' e' xs = some ys → (lcM t e xs).wp (fun z => z = ys)
  | [], ys, h => by
    have h : some [] = some ys := h
    cases h
    rfl
  | x :: xs, ys, h => by
    have h : (t' x >>= fun b => if b then e' x >>= fun y => lcM t' e' xs >>= fun zs => pure (y :: zs) else lcM t' e' xs) = some ys := h
    show ((t x) >>= fun b => if b then e x >>= fun y => lcM t e xs >>= fun zs => pure (y :: zs) else lcM t e xs).wp _
    cases hb : t' x with
    | none => rw [hb] at h; cases h
    | some b =>
      rw [hb] at h
      refine W.mono (t x) _ _ (fun c ec => ?_) (ht x b hb)
      subst ec
      cases c with
      | false => exact wlc ht he h
      | true =>
        have h : (e' x >>= fun y => lcM t' e' xs >>= fun zs => pure (y :: zs)) = some ys := h
        cases hy : e' x with
        | none => rw [hy] at h; cases h
        | some y =>
          rw [hy] at h
          have h : (lcM t' e' xs >>= fun zs => pure (y :: zs)) = some ys := h
          cases hz : lcM t' e' xs with
          | none => rw [hz] at h; cases h
          | some zs =>
            rw [hz] at h
            have h : some (y :: zs) = some ys := h
            cases h
            show ((e x) >>= fun y => lcM t e xs >>= fun zs => pure (y :: zs)).wp _
            refine W.mono (e x) _ _ (fun y' ey => ?_) (he x y hy)
            subst ey
            exact W.mono (lcM t e xs) _ _ (fun z' ez => by subst ez; rfl) (wlc ht he hz)
end
theorem atI_in {α : Type} {xs : List α} {v : Int} (h0 : 0 ≤ v) (h1 : v < (xs.length : Int)) : ∃ x, atI xs v = some x ∧ x ∈ xs := by
  obtain ⟨n, rfl⟩ : ∃ n : Nat, v = n := ⟨v.toNat, by omega⟩
  exact ⟨xs[n]'(by omega), atI_nat (by omega), List.getElem_mem _⟩
theorem rng_mem {lo hi v : Int} : v ∈ rng lo hi ↔ lo ≤ v ∧ v < hi := by
  unfold rng
  rw [List.mem_map]
  constructor
  · rintro ⟨k, hk, rfl⟩
    have := List.mem_range.mp hk
    omega
  · intro ⟨h1, h2⟩
    exact ⟨(v - lo).toNat, List.mem_range.mpr (by omega), by omega⟩
theorem in_rng {m v : Int} (h0 : 0 ≤ v) (h1 : v < m) : v ∈ rng 0 m := rng_mem.mpr ⟨h0, h1⟩
end DL
namespace K37
open PySem PySem.Spec PyProof.Rows L2 DL
def topS (i : Nat) : Stmt := PySem.Challenge.pw_twentyfours_k37_whole_hats_and_lost_word.main.body.getD i (.Pass ⟨0, 0, 0, 0⟩)
def c_LOST : Int := 0
/-- what stands in the module -/
structure Ev (K : PySem.W.Frag) (mg : Str → Option Value) : Prop where
  b_abs : mg "abs" = none
  b_all : mg "all" = none
  b_bool : mg "bool" = none
  b_enumerate : mg "enumerate" = none
  b_int : mg "int" = none
  b_isinstance : mg "isinstance" = none
  b_len : mg "len" = none
  b_list : mg "list" = none
  b_range : mg "range" = none
  b_str : mg "str" = none
  b_sum : mg "sum" = none
  b_tuple : mg "tuple" = none
  b_zip : mg "zip" = none
  g_LOST : Glob K mg "LOST" (eI c_LOST)
  t_seen_number : TopFn K mg "seen_number" (topS 2)
  t_guess : TopFn K mg "guess" (topS 3)
  t_guesses : TopFn K mg "guesses" (topS 4)
  t_are_won : TopFn K mg "are_won" (topS 5)
  t_count_won : TopFn K mg "count_won" (topS 6)
  t_best_share : TopFn K mg "best_share" (topS 7)
  t__law_feed : TopFn K mg "_law_feed" (topS 9)
  t__law_draw : TopFn K mg "_law_draw" (topS 10)
  t__law_all_words : TopFn K mg "_law_all_words" (topS 11)
  t__law_same : TopFn K mg "_law_same" (topS 12)
  t__law_checks : TopFn K mg "_law_checks" (topS 13)
  t__law_is_lost : TopFn K mg "_law_is_lost" (topS 14)
  t__law_said : TopFn K mg "_law_said" (topS 15)
  t__law_right : TopFn K mg "_law_right" (topS 16)
abbrev st__law_feed : Stmt := topS 9
abbrev st__law_draw : Stmt := topS 10
theorem sc__law_feed : FnScope ["script"] ["script"] (defScope st__law_feed) := ⟨rfl, rfl, rfl, by decide +kernel, rfl, by decide +kernel, by decide +kernel⟩
theorem sc__law_draw : FnScope ["feed", "many", "cell", "told", "mixed"] ["feed", "many"] (defScope st__law_draw) := ⟨rfl, rfl, rfl, by decide +kernel, rfl, by decide +kernel, by decide +kernel⟩
theorem ok__law_feed {P : Program} {w : World} {K : PySem.W.Frag} {mg : Str → Option Value} {base : Heap} {f : Addr} {fd : FuncData} (F : Fun K "_law_feed" "_law_feed" st__law_feed f fd) (ml : mg "list" = none) : FnOk P w K mg base CX0 1 f fd ["script"] (spFeed K) := by
  refine F.ok sc__law_feed (fun vs H Q E h => ?_) fun cdv A outer s H vs Q E hr h => ?_
  · obtain ⟨a, ns, rfl, _⟩ := h
    rfl
  · obtain ⟨a, ns, rfl, hS, q⟩ := h
    refine ⟨_, pss_one (ps_ret (pe_lst (pa_cons (pe_callTy call_list_of (by rfl) ml bo_list (pa_cons (pv 0) pa_nil)) (pa_cons pe_int (pa_cons pe_int (pa_cons pe_int pa_nil)))))), ?_⟩
    refine ⟨.ref a, rfl, a, ns.map V.int, rfl, .inl hS, fun l nl => ⟨by show 4 ≤ sizeLine; decide, fun φ nφ => ?_⟩⟩
    have ne : φ ≠ l := fun z => by rw [z, upd_same] at nφ; cases nφ
    rw [upd_ne ne] at nφ
    exact q φ l nφ nl ne
theorem ok__law_draw {P : Program} {w : World} {K : PySem.W.Frag} {mg : Str → Option Value} {base : Heap} {f : Addr} {fd : FuncData} (F : Fun K "_law_draw" "_law_draw" st__law_draw f fd) (ml : mg "len" = none) (ma : mg "abs" = none) (mi : mg "int" = none) : FnOk P w K mg base CX0 1 f fd ["feed", "many"] (spF K (fun m => [none, some (eI m)]) drawW 0 eI) := by
  refine F.ok sc__law_draw (fun vs H Q E h => ?_) fun cdv A outer s H vs Q E hr h => ?_
  · obtain ⟨F, φ, x, _, _, a, _⟩ := h
    rw [a.length]; rfl
  · obtain ⟨F, φ, m, fh, fe, a, ⟨hm0, hm1⟩, q⟩ := h
    obtain ⟨nf, l, ns, i, c, s', e, hl, hn, h1, h2, h3, h4, h5⟩ := fe φ rfl
    cases a with
    | feed e1 a =>
    cases e1
    cases a with
    | val r a =>
    cases a
    cases r
    refine ⟨drT K, pss_cons (ps_if (PW.pt (pw_and (pt_cmpR op_eq (pe_ix ix_list (pv 0) pe_int (fun _ _ => rfl)) pe_int (nomark _)) (pw_and1 (pt_cmpR op_lt (pe_ix ix_list (pv 0) pe_int (fun _ _ => rfl)) (pe_callB call_len_seq (by rfl) ml bo_len (pa_cons (pe_ix ix_list (pv 0) pe_int (fun _ _ => rfl)) pa_nil)) (nomark _)))))
        (pss_cons (ps_set (i := 2) sc__law_draw.nd rfl (.inl rfl) (pe_callB call_abs (by rfl) ma bo_abs (pa_cons (pe_callTy call_int1 (by rfl) mi bo_int (pa_cons (pe_ix ix_list (pe_ix ix_list (pv 0) pe_int (fun _ _ => rfl)) (pe_ix ix_list (pv 0) pe_int (fun _ _ => rfl)) (fun _ _ => rfl)) pa_nil)) pa_nil)))
        (pss_cons (ps_augS (pv 0) pe_int pget_list pe_int ip_add set_list)
        (pss_one (ps_if (pt_cmpR op_ge (pv 2) (pe_op op_pow pe_int pe_int) (nomark _))
          (pss_one (ps_asg (pv 2) (pg_sub (pv 0) pe_int set_list)))
          (pss_one (ps_asg (pe_op op_mod (pe_callTy call_int1 (by rfl) mi bo_int (pa_cons (pe_op op_add (pe_op op_add (pe_op op_mul (pe_ix ix_list (pv 0) pe_int (fun _ _ => rfl)) pe_int) (pe_op op_mul (pv 2) pe_int)) (pe_ix ix_list (pv 0) pe_int (fun _ _ => rfl))) pa_nil)) pe_int) (pg_sub (pv 0) pe_int set_list))))))) pss_nil)
      (pss_cons (ps_if (pt_cmpR op_gt (pe_ix ix_list (pv 0) pe_int (fun _ _ => rfl)) pe_int (nomark _))
        (pss_cons (ps_set (i := 3) sc__law_draw.nd rfl (.inl rfl) (pe_op op_mod (pe_callTy call_int1 (by rfl) mi bo_int (pa_cons (pe_ix ix_list (pv 0) pe_int (fun _ _ => rfl)) pa_nil)) (pv 1)))
        (pss_cons (ps_asg (pe_op op_fdiv (pe_ix ix_list (pv 0) pe_int (fun _ _ => rfl)) (pv 1)) (pg_sub (pv 0) pe_int set_list)) (pss_one (ps_ret (pv 3))))) pss_nil)
      (pss_cons (ps_asg (pe_op op_mod (pe_callTy call_int1 (by rfl) mi bo_int (pa_cons (pe_op op_add (pe_op op_mul (pe_ix ix_list (pv 0) pe_int (fun _ _ => rfl)) pe_int) pe_int) pa_nil)) pe_int) (pg_sub (pv 0) pe_int set_list))
      (pss_cons (ps_set (i := 4) sc__law_draw.nd rfl (.inl rfl) (pe_op op_mod (pe_callTy call_int1 (by rfl) mi bo_int (pa_cons (pe_op op_add (pe_op op_mul (pe_ix ix_list (pv 0) pe_int (fun _ _ => rfl)) (pe_ix ix_list (pv 0) pe_int (fun _ _ => rfl))) (pe_ix ix_list (pv 0) pe_int (fun _ _ => rfl))) pa_nil)) pe_int))
      (pss_one (ps_ret (pe_op op_mod (pe_op op_fdiv (pv 4) pe_int) (pv 1))))))), ?_⟩
    exact draw1 hm0 hm1 ⟨e, fun _ _ => rfl, hl, fh, nf, hn, h1, h2, h3, h4, h5⟩ fun H' v S v0 v1 => Post.sc (md := .ow 0) S.fh S.fe (Post.back fe S (q v v0 v1)) rfl (.int v)
theorem h__law_feed {P : Program} {w : World} {K : PySem.W.Frag} {mg : Str → Option Value} {base : Heap} (V : Ev K mg) : ∃ (f : Addr) (fd : FuncData), FnOk P w K mg base CX0 1 f fd ["script"] (spFeed K) ∧ mg "_law_feed" = some (.ref f) ∧ PySem.W.keepIn K (.ref f) = true ∧ Binds K fd ["script"] [] := by
  obtain ⟨f, fd, F, hm⟩ := V.t__law_feed
  exact ⟨f, fd, ok__law_feed F V.b_list, hm, F.kp, F.binds fun _ _ _ _ _ _ us hl => match us, hl with | [_], _ => rfl⟩
theorem h__law_draw {P : Program} {w : World} {K : PySem.W.Frag} {mg : Str → Option Value} {base : Heap} (V : Ev K mg) : HasDef P w K mg base "_law_draw" 1 (spF K (fun m => [none, some (eI m)]) drawW 0 eI) := by
  obtain ⟨f, fd, F, hm⟩ := V.t__law_draw
  exact ⟨f, fd, _, ok__law_draw F V.b_len V.b_abs V.b_int, hm, F.kp, F.binds fun _ _ _ _ _ _ us hl => match us, hl with | [_, _], _ => rfl⟩
abbrev st_seen_number : Stmt := topS 2
theorem sc_seen_number : FnScope ["hats", "number", "place", "colour"] ["hats"] (defScope st_seen_number) := ⟨rfl, rfl, rfl, by decide +kernel, rfl, by decide +kernel, by decide +kernel⟩
def f_seen_number (a : (List Int)) : Option Int :=
  ((pure (0) : Option Int) >>= fun (v1_number : Int) =>
    (((pure ((enumI a)) : Option (List (Int × Int))) >>= fun xs7 => forS (fun (s2 : Int) (x4 : (Int × Int)) => (((pure ((x4.2 == 1)) : Option Bool) >>= fun t5 => if t5 then ((pure ((Builtin.bitXor s2 (x4.1 + 1))) : Option Int) >>= fun (v6_number : Int) =>
    (pure v6_number : Option _)) else (pure s2 : Option _)) : Option Int)) v1_number xs7) >>= fun s3 =>
    (pure (s3) : Option Int)))
theorem h_seen_number {P : Program} {w : World} {K : PySem.W.Frag} {mg : Str → Option Value} {base : Heap} (V : Ev K mg) : HasDef P w K mg base "seen_number" 1 (spD K (fun (a : (List Int)) => [(eL eI) a]) f_seen_number 0 eI) :=
  hd_D (k := 0) (sl := fun (a : (List Int)) => [some (.v ((eL eI) (a))), none, none, none]) V.t_seen_number sc_seen_number (fun _ _ _ _ _ _ us hl => match us, hl with | [_], _ => rfl) (fun _ => rfl) (fun _ => rfl) (fun f cdv A outer s H E hr b (a : (List Int)) => ds_eq (
    (ds_seq (ds_setV 1 dm_int sc_seen_number.nd) fun v1_number =>
    (ds_seq (ds_for (Ef := (fun (s2 : Int) => [some (.v ((eL eI) (a))), some (.v (eI (s2))), none, none])) (s0 := v1_number) PassesOwn.never rfl (di_b1 (k := fun (kx : (List Int)) => (pure ((enumI kx)) : Option (List (Int × Int)))) (di_enumF V.b_enumerate (da_fr (n := 0) (dm_name 0 (eL eI) (a))))) (gt_tup2 2 3) (pg_tup rfl (pgs_cons (pg_name (i := 2) sc_seen_number.nd rfl (.inl rfl)) (pgs_cons (pg_name (i := 3) sc_seen_number.nd rfl (.inl rfl)) pgs_nil))) ⟨rfl, rfl, trivial⟩ (fun s2 x4 =>
    (ds_last (ds_if (dt_b2 (k := fun (kx : Int) (ky : Int) => (pure ((kx == ky)) : Option Bool)) (dt_cmp (op_eqP hr.units) (da_pk' (n := 0) (dm_name 3 eI (x4.2))) (da_pk dm_int) (os_eq (by decide)) (nomark _))) (ds_seq (ds_setV 1 (dm_b2 (k := fun (kx : Int) (ky : Int) => (pure ((Builtin.bitXor kx ky)) : Option Int)) (dm_op op_xor (da_pk' (n := 0) (dm_name 1 eI (s2))) (da_pk (dm_b2 (k := fun (kx : Int) (ky : Int) => (pure ((kx + ky)) : Option Int)) (dm_op op_add (da_pk' (n := 0) (dm_name 2 eI (x4.1))) (da_pk dm_int) os_II))) os_II)) sc_seen_number.nd) fun v6_number =>
    (ds_nil (z := v6_number) rfl ⟨rfl, rfl, trivial⟩))
    (ds_nil (z := s2) rfl ⟨rfl, rfl, trivial⟩))))) fun s3 =>
    (ds_ret0 (dm_name 1 eI (s3)))))) rfl)
abbrev st_guess : Stmt := topS 3
theorem sc_guess : FnScope ["hats", "place", "colour"] ["hats", "place"] (defScope st_guess) := ⟨rfl, rfl, rfl, by decide +kernel, rfl, by decide +kernel, by decide +kernel⟩
def f_guess (a : ((List Int) × Int)) : Option (Option Int) :=
  (((pure (([0, 1] : (List Int))) : Option (List Int)) >>= fun xs11 => forC (fun (s1 : Unit) (x3 : Int) => ((((((Run.lift (lcat (lcut a.1 (none : Option Int) (some a.2 : Option Int)) ([x3] : (List Int))) : Option (List Int)) >>= fun x4 => (Run.lift (lcat x4 (lcut a.1 (some (a.2 + 1) : Option Int) (none : Option Int))) : Option (List Int))) >>= fun a6 => (Run.lift (f_seen_number (a6)) : Option Int)) >>= fun x7 => (pure ((x7 == c_LOST)) : Option Bool)) >>= fun t9 => if t9 then (pure ((some (1 - x3))) : Option (Option Int)) >>= fun r10 => (pure (Ct.rt r10) : Option _) else
    (pure (Ct.nx ()) : Option _)) : Option (Ct Unit (Option Int)))) () xs11) >>= fun z12 => z12.go (fun s2 =>
    (pure ((none : (Option Int))) : Option (Option Int))) (fun r13 => (pure (r13) : Option _)))
theorem h_guess {P : Program} {w : World} {K : PySem.W.Frag} {mg : Str → Option Value} {base : Heap} (V : Ev K mg) : HasDef P w K mg base "guess" 2 (spD K (fun (a : ((List Int) × Int)) => [(eL eI) a.1, eI a.2]) f_guess 0 (eO eI)) :=
  hd_D (k := 1) (sl := fun (a : ((List Int) × Int)) => [some (.v ((eL eI) (a.1))), some (.v (eI (a.2))), none]) V.t_guess sc_guess (fun _ _ _ _ _ _ us hl => match us, hl with | [_, _], _ => rfl) (fun _ => rfl) (fun _ => rfl) (fun f cdv A outer s H E hr b (a : ((List Int) × Int)) => ds_eq (
    (ds_seqC (oR := (fun r => Oc.rt 0 ((eO eI) r))) (f := fun r => r) (ds_forC (Ef := (fun (s1 : Unit) => [some (.v ((eL eI) (a.1))), some (.v (eI (a.2))), none])) (s0 := ()) (oR := (fun r => Oc.rt 0 ((eO eI) r))) (fun _ => ⟨_, _, rfl⟩) PassesOwn.never rfl (di_tup (da_fr (n := 1) (dm_tupL (dl_consT dm_int (dl_consT dm_int (dl_nil (g := eI) (n := 0))))))) (gt_name 2) (pg_name (i := 2) sc_guess.nd rfl (.inl rfl)) ⟨rfl, rfl, trivial⟩ (fun s1 x3 =>
    (ds_ifR (oA := (fun r => Oc.rt 0 ((eO eI) r))) (f := Ct.rt) (dt_b01 (k := fun (kx : Int) (ky : Int) => (pure ((kx == ky)) : Option Bool)) (dt_cmp (op_eqP hr.units) (da_pk' (n := 0) (dc_call (h_seen_number V) (hr.mono (by decide)) (ca_cons (da_fr (n := 0) (dm_b01 (k := fun (kx : (List Int)) (ky : (List Int)) => (Run.lift (lcat kx ky) : Option (List Int))) (dm_op op_cat (da_sh (n := 1) (dm_b2 (k := fun (kx : (List Int)) (ky : (List Int)) => (Run.lift (lcat kx ky) : Option (List Int))) (dm_op op_cat (da_sh (n := 1) (dm_b3 (k := fun kx kl kh => (pure (lcut kx kl kh) : Option (List Int))) (dm_slice nl1 (da_sh (n := 0) (dm_name 0 (eL eI) (a.1))) po_no (po_yesT (da_pk' (n := 0) (dm_name 1 eI (a.2))))))) (da_sh (n := 1) (dm_list (dl_consT (dm_name 2 eI (x3)) (dl_nil (g := eI) (n := 0))))) (os_cat nl1)))) (da_sh (n := 1) (dm_b3 (k := fun kx kl kh => (pure (lcut kx kl kh) : Option (List Int))) (dm_slice nl1 (da_sh (n := 0) (dm_name 0 (eL eI) (a.1))) (po_yesT (da_pk (dm_b2 (k := fun (kx : Int) (ky : Int) => (pure ((kx + ky)) : Option Int)) (dm_op op_add (da_pk' (n := 0) (dm_name 1 eI (a.2))) (da_pk dm_int) os_II)))) po_no))) (os_cat nl0)))) (fun a6 => (ca_nil (M := (Run.lift (f_seen_number (a6)) : Option Int))))) (fun ds k h => by obtain ⟨a6, _, rfl, rfl, rfl⟩ := h; exact ⟨(a6), rfl, rfl⟩))) (da_pk' (n := 0) (dm_glob (g := eI) (a := c_LOST) V.g_LOST)) (os_eq (by decide)) (nomark _))) (ds_ret0 (dm_encP (g' := (eO eI)) (f := some) (dm_b2 (k := fun (kx : Int) (ky : Int) => (pure ((kx - ky)) : Option Int)) (dm_op op_sub (da_pk dm_int) (da_pk' (n := 0) (dm_name 2 eI (x3))) os_II)) rfl)) (fun _ => ⟨fun _ h => (by cases h), rfl⟩)
    (ds_nil (z := Ct.nx ()) rfl ⟨rfl, rfl, trivial⟩)))) (fun _ => ⟨_, _, rfl⟩) (fun _ => rfl) fun s2 =>
    (ds_ret0 (dm_encP (g := eN) (g' := (eO eI)) (f := fun _ => none) (x := ()) dm_none rfl)))) rfl)
abbrev st_guesses : Stmt := topS 4
theorem sc_guesses : FnScope ["r", "hats", "place"] ["r", "hats"] (defScope st_guesses) := ⟨rfl, rfl, rfl, by decide +kernel, rfl, by decide +kernel, by decide +kernel⟩
def f_guesses (a : (Int × (List Int))) : Option (List (Option Int)) :=
  (lcM (fun (x1 : Int) => (pure (true) : Option Bool)) (fun (x1 : Int) => ((Run.lift (f_guess (a.2, x1)) : Option (Option Int)))) (rng 0 (List.length a.2)))
theorem h_guesses {P : Program} {w : World} {K : PySem.W.Frag} {mg : Str → Option Value} {base : Heap} (V : Ev K mg) : HasDef P w K mg base "guesses" 3 (spD K (fun (a : (Int × (List Int))) => [eI a.1, (eL eI) a.2]) f_guesses 1 (eL (eO eI))) :=
  hd_D (k := 2) (sl := fun (a : (Int × (List Int))) => [some (.v (eI (a.1))), some (.v ((eL eI) (a.2))), none]) V.t_guesses sc_guesses (fun _ _ _ _ _ _ us hl => match us, hl with | [_, _], _ => rfl) (fun _ => rfl) (fun _ => rfl) (fun f cdv A outer s H E hr b (a : (Int × (List Int))) => ds_eq (
    (ds_ret0 (dm_b1 (dm_lc' rfl sc_guesses.nd (di_rngLen V.b_range V.b_len (dm_pk (n := 0) (dm_name 1 (eL eI) (a.2)))) (blkOk_by (own := [("place", 2)]) (by rfl)) (gt_name 2) (fun _ _ _ _ _ => (pg_name (i := 2) sc_guesses.nd rfl (.inl rfl))) lt_no (fun _ _ _ _ _ x1 => (dc_call (h_guess V) (hr.mono (by decide)) (ca_consT (da_fr (n := 0) (dm_name 1 (eL eI) (a.2))) (ca_consT (da_fr (n := 0) (dm_name 2 eI (x1))) (ca_nil (M := (Run.lift (f_guess (a.2, x1)) : Option (Option Int)))))) (fun ds k h => by obtain ⟨_, rfl, _, rfl, rfl, rfl⟩ := h; exact ⟨(a.2, x1), rfl, rfl⟩))))))) rfl)
abbrev st_are_won : Stmt := topS 5
theorem sc_are_won : FnScope ["r", "hats", "said", "colour", "hat"] ["r", "hats"] (defScope st_are_won) := ⟨rfl, rfl, rfl, by decide +kernel, rfl, by decide +kernel, by decide +kernel⟩
def f_are_won (a : (Int × (List Int))) : Option Bool :=
  (((((Run.lift (f_guesses (a.1, a.2)) : Option (List (Option Int)))) >>= fun x2 => (pure ((List.zip x2 a.2)) : Option (List ((Option Int) × Int)))) >>= fun xs5 => (pure ((List.map (fun (x4 : ((Option Int) × Int)) => (x4.1, x4.2)) (List.filter (fun (x4 : ((Option Int) × Int)) => (Option.isSome x4.1)) xs5))) : Option (List ((Option Int) × Int)))) >>= fun (v1_said : (List ((Option Int) × Int))) =>
    (pure (((decide (0 < (List.length v1_said : Int))) && (List.all (List.map (fun (x6 : ((Option Int) × Int)) => (x6.1 == (some x6.2))) v1_said) id))) : Option Bool))
theorem h_are_won {P : Program} {w : World} {K : PySem.W.Frag} {mg : Str → Option Value} {base : Heap} (V : Ev K mg) : HasDef P w K mg base "are_won" 4 (spD K (fun (a : (Int × (List Int))) => [eI a.1, (eL eI) a.2]) f_are_won 0 eB) :=
  hd_D (k := 3) (sl := fun (a : (Int × (List Int))) => [some (.v (eI (a.1))), some (.v ((eL eI) (a.2))), none, none, none]) V.t_are_won sc_are_won (fun _ _ _ _ _ _ us hl => match us, hl with | [_, _], _ => rfl) (fun _ => rfl) (fun _ => rfl) (fun f cdv A outer s H E hr b (a : (Int × (List Int))) => ds_eq (
    (ds_seq (ds1_lcF' (ds_lcV (n := 0) 2 rfl sc_are_won.nd (di_b01 (k := fun (kx : (List (Option Int))) (ky : (List Int)) => (pure ((List.zip kx ky)) : Option (List ((Option Int) × Int)))) (di_zip V.b_zip (da_sh (n := 1) (dc_call (h_guesses V) (hr.mono (by decide)) (ca_consT (da_fr (n := 0) (dm_name 0 eI (a.1))) (ca_consT (da_fr (n := 0) (dm_name 1 (eL eI) (a.2))) (ca_nil (M := (Run.lift (f_guesses (a.1, a.2)) : Option (List (Option Int))))))) (fun ds k h => by obtain ⟨_, rfl, _, rfl, rfl, rfl⟩ := h; exact ⟨(a.1, a.2), rfl, rfl⟩))) (da_sh (n := 0) (dm_name 1 (eL eI) (a.2))))) (blkOk_by (own := [("colour", 3), ("hat", 4)]) (by rfl)) (gt_tup2 3 4) (fun _ _ _ _ _ => (pg_tup rfl (pgs_cons (pg_name (i := 3) sc_are_won.nd rfl (.inl rfl)) (pgs_cons (pg_name (i := 4) sc_are_won.nd rfl (.inl rfl)) pgs_nil)))) (lt_if fun _ _ _ _ _ x4 => (dt_b1 (k := fun (kx : (Option Int)) => (pure ((Option.isSome kx)) : Option Bool)) (dt_notN (dm_sc (n := 0) (dm_name 3 (eO eI) (x4.1)))))) (fun _ _ _ _ _ x4 => (dm_fr (n := 1) (dm_tup2T (dm_name 3 (eO eI) (x4.1)) (dm_name 4 eI (x4.2))))))) fun v1_said =>
    (ds_ret0 (dm_scP (dv_andT (dm_b2 (k := fun (kx : Int) (ky : Int) => (pure ((decide (ky < kx))) : Option Bool)) (dm_cmp op_gt (da_pk (dm_b1 (k := fun (kx : (List ((Option Int) × Int))) => (pure ((List.length kx : Int)) : Option Int)) (dm_cB call_len_seq os_len V.b_len bo_len (da_pk' (n := 0) (dm_name 2 (eL (eP (eO eI) eI)) (v1_said)))))) (da_pk dm_int) os_IB (nomark _))) (dv_one (dm_b1 (k := fun (kx : (List Bool)) => (pure ((List.all kx id)) : Option Bool)) (dm_cB (cr_all rfl) os_all V.b_all bo_all (da_pk' (n := 1) (dm_lcT (dm_lc' rfl sc_are_won.nd (di_list (da_sh (n := 0) (dm_name 2 (eL (eP (eO eI) eI)) (v1_said)))) (blkOk_by (own := [("colour", 3), ("hat", 4)]) (by rfl)) (gt_tup2 3 4) (fun _ _ _ _ _ => (pg_tup rfl (pgs_cons (pg_name (i := 3) sc_are_won.nd rfl (.inl rfl)) (pgs_cons (pg_name (i := 4) sc_are_won.nd rfl (.inl rfl)) pgs_nil)))) lt_no (fun _ _ _ _ _ x6 => (dm_b2 (k := fun (kx : (Option Int)) (ky : (Option Int)) => (pure ((kx == ky)) : Option Bool)) (dm_cmp (op_eqP hr.units) (da_pk' (n := 0) (dm_name 3 (eO eI) (x6.1))) (da_pk' (n := 0) (dm_encP (g' := (eO eI)) (f := some) (dm_name 4 eI (x6.2)) rfl)) (os_eq (by decide)) (nomark _))))))))))))))) rfl)
abbrev st_count_won : Stmt := topS 6
theorem sc_count_won : FnScope ["r", "n"] ["r"] (defScope st_count_won) := ⟨rfl, rfl, rfl, by decide +kernel, rfl, by decide +kernel, by decide +kernel⟩
def f_count_won (a : Int) : Option Int :=
  (((Run.lift (ishl 1 a) : Option Int) >>= fun x2 => (pure ((x2 - 1)) : Option Int)) >>= fun (v1_n : Int) =>
    ((Run.lift (ishl 1 v1_n) : Option Int) >>= fun x4 => (Run.lift (ishl 1 (v1_n - a)) : Option Int) >>= fun y5 => (pure ((x4 - y5)) : Option Int)))
theorem h_count_won {P : Program} {w : World} {K : PySem.W.Frag} {mg : Str → Option Value} {base : Heap} (V : Ev K mg) : HasDef P w K mg base "count_won" 1 (spD K (fun (a : Int) => [eI a]) f_count_won 0 eI) :=
  hd_D (k := 0) (sl := fun (a : Int) => [some (.v (eI (a))), none]) V.t_count_won sc_count_won (fun _ _ _ _ _ _ us hl => match us, hl with | [_], _ => rfl) (fun _ => rfl) (fun _ => rfl) (fun f cdv A outer s H E hr b (a : Int) => ds_eq (
    (ds_seq (ds_setV 1 (dm_b01 (k := fun (kx : Int) (ky : Int) => (pure ((kx - ky)) : Option Int)) (dm_op op_sub (da_pk (dm_b2 (k := fun (kx : Int) (ky : Int) => (Run.lift (ishl kx ky) : Option Int)) (dm_op op_shl (da_pk dm_int) (da_pk' (n := 0) (dm_name 0 eI (a))) os_shl))) (da_pk dm_int) os_II)) sc_count_won.nd) fun v1_n =>
    (ds_ret0 (dm_op op_sub (da_pk (dm_b2 (k := fun (kx : Int) (ky : Int) => (Run.lift (ishl kx ky) : Option Int)) (dm_op op_shl (da_pk dm_int) (da_pk' (n := 0) (dm_name 1 eI (v1_n))) os_shl))) (da_pk (dm_b2 (k := fun (kx : Int) (ky : Int) => (Run.lift (ishl kx ky) : Option Int)) (dm_op op_shl (da_pk dm_int) (da_pk (dm_b2 (k := fun (kx : Int) (ky : Int) => (pure ((kx - ky)) : Option Int)) (dm_op op_sub (da_pk' (n := 0) (dm_name 1 eI (v1_n))) (da_pk' (n := 0) (dm_name 0 eI (a))) os_II))) os_shl))) os_II)))) rfl)
abbrev st_best_share : Stmt := topS 7
theorem sc_best_share : FnScope ["n"] ["n"] (defScope st_best_share) := ⟨rfl, rfl, rfl, by decide +kernel, rfl, by decide +kernel, by decide +kernel⟩
def f_best_share (a : Int) : Option (Int × Int) :=
  (pure ((a, (a + 1))) : Option (Int × Int))
theorem h_best_share {P : Program} {w : World} {K : PySem.W.Frag} {mg : Str → Option Value} {base : Heap} (V : Ev K mg) : HasDef P w K mg base "best_share" 1 (spD K (fun (a : Int) => [eI a]) f_best_share 0 (eP eI eI)) :=
  hd_D (k := 0) (sl := fun (a : Int) => [some (.v (eI (a)))]) V.t_best_share sc_best_share (fun _ _ _ _ _ _ us hl => match us, hl with | [_], _ => rfl) (fun _ => rfl) (fun _ => rfl) (fun f cdv A outer s H E hr b (a : Int) => ds_eq (
    (ds_ret0 (dm_fr (n := 1) (dm_tup2T (dm_name 0 eI (a)) (dm_b2 (k := fun (kx : Int) (ky : Int) => (pure ((kx + ky)) : Option Int)) (dm_op op_add (da_pk' (n := 0) (dm_name 0 eI (a))) (da_pk dm_int) os_II)))))) rfl)
abbrev st__law_all_words : Stmt := topS 11
theorem sc__law_all_words : FnScope ["q", "n", "words", "k", "longer", "word", "a"] ["q", "n"] (defScope st__law_all_words) := ⟨rfl, rfl, rfl, by decide +kernel, rfl, by decide +kernel, by decide +kernel⟩
def f__law_all_words (a : (Int × Int)) : Option (List (List Int)) :=
  ((pure (([([] : (List Int))] : (List (List Int)))) : Option (List (List Int))) >>= fun (v1_words : (List (List Int))) =>
    (((Run.lift (irng 0 a.2) : Option (List Int)) >>= fun xs15 => forS (fun (s2 : (List (List Int))) (x4 : Int) => (((pure (([] : (List (List Int)))) : Option (List (List Int))) >>= fun (v5_longer : (List (List Int))) =>
    (((pure (s2) : Option (List (List Int))) >>= fun xs13 => forS (fun (s6 : (List (List Int))) (x8 : (List Int)) => (((((Run.lift (irng 0 a.1) : Option (List Int)) >>= lcM (fun (x10 : Int) => (pure (true) : Option Bool)) (fun (x10 : Int) => (Run.lift (lcat x8 ([x10] : (List Int))) : Option (List Int)))) >>= fun y12 => (Run.lift (lcat s6 y12) : Option (List (List Int)))) >>= fun (v9_longer : (List (List Int))) =>
    (pure v9_longer : Option _)) : Option (List (List Int)))) v5_longer xs13) >>= fun s7 =>
    ((pure (s7) : Option (List (List Int))) >>= fun (v14_words : (List (List Int))) =>
    (pure v14_words : Option _)))) : Option (List (List Int)))) v1_words xs15) >>= fun s3 =>
    (pure (s3) : Option (List (List Int)))))
theorem h__law_all_words {P : Program} {w : World} {K : PySem.W.Frag} {mg : Str → Option Value} {base : Heap} (V : Ev K mg) : HasDef P w K mg base "_law_all_words" 1 (spD K (fun (a : (Int × Int)) => [eI a.1, eI a.2]) f__law_all_words 0 (eL (eL eI))) :=
  hd_D (k := 0) (sl := fun (a : (Int × Int)) => [some (.v (eI (a.1))), some (.v (eI (a.2))), none, none, none, none, none]) V.t__law_all_words sc__law_all_words (fun _ _ _ _ _ _ us hl => match us, hl with | [_, _], _ => rfl) (fun _ => rfl) (fun _ => rfl) (fun f cdv A outer s H E hr b (a : (Int × Int)) => ds_eq (
    (ds_seq (ds_setV 2 (dm_fr (n := 1) (dm_list (dl_consT (dm_fr (n := 1) (dm_list (dl_nil (g := eI) (n := 0)))) (dl_nil (g := (eL eI)) (n := 0))))) sc__law_all_words.nd) fun v1_words =>
    (ds_seq (ds_for (Ef := (fun (s2 : (List (List Int))) => [some (.v (eI (a.1))), some (.v (eI (a.2))), some (.v ((eL (eL eI)) (s2))), none, none, none, none])) (s0 := v1_words) PassesOwn.never rfl (di_b1 (k := fun (kx : Int) => (Run.lift (irng 0 kx) : Option (List Int))) (di_rng1 V.b_range (da_pk' (n := 0) (dm_name 1 eI (a.2))))) (gt_name 3) (pg_name (i := 3) sc__law_all_words.nd rfl (.inl rfl)) ⟨rfl, rfl, rfl, trivial⟩ (fun s2 x4 =>
    (ds_seq (ds_setV 4 (dm_fr (n := 1) (dm_list (dl_nil (g := (eL eI)) (n := 0)))) sc__law_all_words.nd) fun v5_longer =>
    (ds_seq (ds_for (Ef := (fun (s6 : (List (List Int))) => [some (.v (eI (a.1))), some (.v (eI (a.2))), some (.v ((eL (eL eI)) (s2))), some (.v (eI (x4))), some (.v ((eL (eL eI)) (s6))), none, none])) (s0 := v5_longer) PassesOwn.never rfl (di_listF (da_fr (n := 0) (dm_name 2 (eL (eL eI)) (s2)))) (gt_name 5) (pg_name (i := 5) sc__law_all_words.nd rfl (.inr rfl)) ⟨rfl, rfl, rfl, rfl, rfl, trivial⟩ (fun s6 x8 =>
    (ds_seq (ds_setV 4 (dm_b1 (k := fun (kx : (List (List Int))) => ((Run.lift (irng 0 a.1) : Option (List Int)) >>= lcM (fun (x10 : Int) => (pure (true) : Option Bool)) (fun (x10 : Int) => (Run.lift (lcat x8 ([x10] : (List Int))) : Option (List Int)))) >>= fun (ky : (List (List Int))) => (Run.lift (lcat kx ky) : Option (List (List Int)))) (dm_op op_cat (da_sh (n := 0) (dm_name 4 (eL (eL eI)) (s6))) (da_sh (n := 1) (dm_lc' rfl sc__law_all_words.nd (di_b1 (k := fun (kx : Int) => (Run.lift (irng 0 kx) : Option (List Int))) (di_rng1 V.b_range (da_pk' (n := 0) (dm_name 0 eI (a.1))))) (blkOk_by (own := [("a", 6)]) (by rfl)) (gt_name 6) (fun _ _ _ _ _ => (pg_name (i := 6) sc__law_all_words.nd rfl (.inl rfl))) lt_no (fun _ _ _ _ _ x10 => (dm_b2 (k := fun (kx : (List Int)) (ky : (List Int)) => (Run.lift (lcat kx ky) : Option (List Int))) (dm_op op_cat (da_sh (n := 0) (dm_name 5 (eL eI) (x8))) (da_sh (n := 1) (dm_list (dl_consT (dm_name 6 eI (x10)) (dl_nil (g := eI) (n := 0))))) (os_cat nl0)))))) (os_cat nl0))) sc__law_all_words.nd) fun v9_longer =>
    (ds_nil (z := v9_longer) rfl ⟨rfl, rfl, rfl, rfl, rfl, trivial⟩)))) fun s7 =>
    (ds_seq (ds_setV 2 (dm_name 4 (eL (eL eI)) (s7)) sc__law_all_words.nd) fun v14_words =>
    (ds_nil (z := v14_words) rfl ⟨rfl, rfl, rfl, trivial⟩)))))) fun s3 =>
    (ds_ret0 (dm_name 2 (eL (eL eI)) (s3)))))) rfl)
abbrev st__law_same : Stmt := topS 12
theorem sc__law_same : FnScope ["actual", "due", "k"] ["actual", "due"] (defScope st__law_same) := ⟨rfl, rfl, rfl, by decide +kernel, rfl, by decide +kernel, by decide +kernel⟩
theorem hk__law_same {P : Program} {w : World} {K : PySem.W.Frag} {mg : Str → Option Value} {base : Heap} (V : Ev K mg) : ∀ n : Nat, HasDef P w K mg base "_law_same" (n + 1) (spD K (fun (a : D × D) => [eD a.1, eD a.2]) (sameK n) 0 eB)
  | 0 => hd_D (k := 0) (sl := fun (a : D × D) => [some (.v (eD a.1)), some (.v (eD a.2)), none]) V.t__law_same sc__law_same (fun _ _ _ _ _ _ us hl => match us, hl with | [_, _], _ => rfl) (fun _ => rfl) (fun _ => rfl) (fun f cdv A outer s H E hr b (a : D × D) => ds_none)
  | n + 1 => hd_D (k := n + 1) (sl := fun (a : D × D) => [some (.v (eD a.1)), some (.v (eD a.2)), none]) V.t__law_same sc__law_same (fun _ _ _ _ _ _ us hl => match us, hl with | [_, _], _ => rfl) (fun _ => rfl) (fun _ => rfl) (fun f cdv A outer s H E hr b (a : D × D) => ds_eq (
    (ds_ifR0 (DW.dt (dw_orT (dt_val (dm_isiT bo_list kb_list V.b_isinstance V.b_list (dm_pk (dm_name 1 eD a.2)))) (dw_or1 (dt_val (dm_isiT bo_tuple kb_tuple V.b_isinstance V.b_tuple (dm_pk (dm_name 1 eD a.2)))))))
      (ds_ifR0 (DW.dt (dw_orT (dt_b2 (k := fun (x y : Bool) => (pure (x != y) : Option Bool)) (dt_cmp (op_neP hr.units) (da_pk (dm_isiT bo_list kb_list V.b_isinstance V.b_list (dm_pk (dm_name 0 eD a.1)))) (da_pk (dm_isiT bo_list kb_list V.b_isinstance V.b_list (dm_pk (dm_name 1 eD a.2)))) (os_ne (by decide)) (nomark _)))
          (dw_or1 (dt_b2 (k := fun (x y : Bool) => (pure (x != y) : Option Bool)) (dt_cmp (op_neP hr.units) (da_pk (dm_isiT bo_tuple kb_tuple V.b_isinstance V.b_tuple (dm_pk (dm_name 0 eD a.1)))) (da_pk (dm_isiT bo_tuple kb_tuple V.b_isinstance V.b_tuple (dm_pk (dm_name 1 eD a.2)))) (os_ne (by decide)) (nomark _))))))
        (ds_ret0 dm_bool) (fun _ _ h => by cases h)
        (ds_ret0 (dm_scP (dv_and (dm_cmp (op_eqP hr.units) (da_pk (dm_b1 (k := fun x => (Run.lift (dlen x) : Option Int)) (dm_cB call_len_seq os_lenD V.b_len bo_len (da_pk' (dm_name 0 eD a.1))))) (da_pk (dm_b1 (k := fun x => (Run.lift (dlen x) : Option Int)) (dm_cB call_len_seq os_lenD V.b_len bo_len (da_pk' (dm_name 1 eD a.2))))) (os_eq (by decide)) (nomark _))
          (dv_one (dm_cB (cr_all rfl) os_all V.b_all bo_all (da_pk' (n := 1) (dm_lc' rfl sc__law_same.nd (di_rngLenD V.b_range V.b_len (dm_pk (dm_name 1 eD a.2))) (blkOk_by (own := [("k", 2)]) (by rfl)) (gt_name 2) (fun _ _ _ _ _ => pg_name (i := 2) sc__law_same.nd rfl (.inl rfl)) lt_no (fun _ _ _ _ _ k =>
            (dc_call (hk__law_same V n) hr (ca_cons (da_fr (n := 0) (dm_b2 (k := fun d i => (Run.lift (dix d i) : Option D)) (dm_ix ix_seq (da_fr (dm_name 0 eD a.1)) (da_pk' (dm_name 2 eI k)) os_ixD (fun _ _ => rfl)))) (fun u => (ca_cons (da_fr (n := 0) (dm_b2 (k := fun d i => (Run.lift (dix d i) : Option D)) (dm_ix ix_seq (da_fr (dm_name 1 eD a.2)) (da_pk' (dm_name 2 eI k)) os_ixD (fun _ _ => rfl)))) (fun v => (ca_nil (M := Run.lift (sameK n (u, v)))))))) (fun ds k h => by obtain ⟨u, _, rfl, v, _, rfl, rfl, rfl⟩ := h; exact ⟨(u, v), rfl, rfl⟩))))))))))) (fun _ _ h => by cases h)
    (ds_ifR0 (DW.dt (dw_orT (dt_isND (dm_pk (dm_name 1 eD a.2))) (dw_or1 (dt_val (dm_isiT bo_bool kb_bool V.b_isinstance V.b_bool (dm_pk (dm_name 1 eD a.2)))))))
      (ds_ret0 (dm_scP (dm_b1 (dm_if (dt_isND (dm_pk (dm_name 1 eD a.2))) (dm_isND (dm_pk (dm_name 0 eD a.1))) (dv_and (dm_isiT bo_bool kb_bool V.b_isinstance V.b_bool (dm_pk (dm_name 0 eD a.1))) (dv_one (dm_eqD hr.units (da_pk' (dm_name 0 eD a.1)) (da_pk' (dm_name 1 eD a.2))))))))) (fun _ _ h => by cases h)
    (ds_ifR0 (dt_val (dm_isiT bo_str kb_str V.b_isinstance V.b_str (dm_pk (dm_name 1 eD a.2))))
      (ds_ret0 (dm_scP (dv_and (dm_isiT bo_str kb_str V.b_isinstance V.b_str (dm_pk (dm_name 0 eD a.1))) (dv_one (dm_eqD hr.units (da_pk' (dm_name 0 eD a.1)) (da_pk' (dm_name 1 eD a.2))))))) (fun _ _ h => by cases h)
      (ds_ret0 (dm_scP (dv_and (dm_isiT bo_int kb_int V.b_isinstance V.b_int (dm_pk (dm_name 0 eD a.1))) (dv_and (dv_notT (dm_isiT bo_bool kb_bool V.b_isinstance V.b_bool (dm_pk (dm_name 0 eD a.1)))) (dv_one (dm_eqD hr.units (da_pk' (dm_name 0 eD a.1)) (da_pk' (dm_name 1 eD a.2)))))))))))) rfl)
abbrev f__law_same : D × D → Option Bool := sameK 6
theorem h__law_same {P : Program} {w : World} {K : PySem.W.Frag} {mg : Str → Option Value} {base : Heap} (V : Ev K mg) : HasDef P w K mg base "_law_same" 7 (spD K (fun (a : D × D) => [eD a.1, eD a.2]) f__law_same 0 eB) := hk__law_same V 6
abbrev st__law_checks : Stmt := topS 13
theorem sc__law_checks : FnScope ["r", "columns", "column", "k"] ["r"] (defScope st__law_checks) := ⟨rfl, rfl, rfl, by decide +kernel, rfl, by decide +kernel, by decide +kernel⟩
def f__law_checks (a : Int) : Option (List (List Int)) :=
  ((((Run.lift (f__law_all_words (2, a)) : Option (List (List Int)))) >>= fun xs3 => (pure ((List.map (fun (x2 : (List Int)) => x2) (List.filter (fun (x2 : (List Int)) => (decide (0 < (List.sum x2)))) xs3))) : Option (List (List Int)))) >>= fun (v1_columns : (List (List Int))) =>
    ((Run.lift (irng 0 a) : Option (List Int)) >>= lcM (fun (x4 : Int) => (pure (true) : Option Bool)) (fun (x4 : Int) => (lcM (fun (x5 : (List Int)) => (pure (true) : Option Bool)) (fun (x5 : (List Int)) => (Run.lift (atI x5 x4) : Option Int)) v1_columns))))
theorem h__law_checks {P : Program} {w : World} {K : PySem.W.Frag} {mg : Str → Option Value} {base : Heap} (V : Ev K mg) : HasDef P w K mg base "_law_checks" 2 (spD K (fun (a : Int) => [eI a]) f__law_checks 1 (eL (eL eI))) :=
  hd_D (k := 1) (sl := fun (a : Int) => [some (.v (eI (a))), none, none, none]) V.t__law_checks sc__law_checks (fun _ _ _ _ _ _ us hl => match us, hl with | [_], _ => rfl) (fun _ => rfl) (fun _ => rfl) (fun f cdv A outer s H E hr b (a : Int) => ds_eq (
    (ds_seq (ds_setV 1 (dm_fr (n := 1) (dm_lcF' (dm_lc' rfl sc__law_checks.nd (di_list (da_sh (n := 0) (dc_call (h__law_all_words V) (hr.mono (by decide)) (ca_consT (da_fr (n := 0) dm_int) (ca_consT (da_fr (n := 0) (dm_name 0 eI (a))) (ca_nil (M := (Run.lift (f__law_all_words (2, a)) : Option (List (List Int))))))) (fun ds k h => by obtain ⟨_, rfl, _, rfl, rfl, rfl⟩ := h; exact ⟨(2, a), rfl, rfl⟩)))) (blkOk_by (own := [("column", 2)]) (by rfl)) (gt_name 2) (fun _ _ _ _ _ => (pg_name (i := 2) sc__law_checks.nd rfl (.inl rfl))) (lt_if fun _ _ _ _ _ x2 => (dt_b2 (k := fun (kx : Int) (ky : Int) => (pure ((decide (ky < kx))) : Option Bool)) (dt_cmp op_gt (da_pk (dm_b1 (k := fun (kx : (List Int)) => (pure ((List.sum kx)) : Option Int)) (dm_cB (cr_sum rfl) os_sum V.b_sum bo_sum (da_pk' (n := 0) (dm_name 2 (eL eI) (x2)))))) (da_pk dm_int) os_IB (nomark _)))) (fun _ _ _ _ _ x2 => (dm_name 2 (eL eI) (x2)))))) sc__law_checks.nd) fun v1_columns =>
    (ds_ret0 (dm_lc' rfl sc__law_checks.nd (di_b1 (k := fun (kx : Int) => (Run.lift (irng 0 kx) : Option (List Int))) (di_rng1 V.b_range (da_pk' (n := 0) (dm_name 0 eI (a))))) (blkOk_by (own := [("k", 3)]) (by rfl)) (gt_name 3) (fun _ _ _ _ _ => (pg_name (i := 3) sc__law_checks.nd rfl (.inr rfl))) lt_no (fun _ _ _ _ _ x4 => (dm_fr (n := 1) (dm_b1 (dm_lc' rfl sc__law_checks.nd (di_list (da_sh (n := 0) (dm_name 1 (eL (eL eI)) (v1_columns)))) (blkOk_by (own := [("column", 2)]) (by rfl)) (gt_name 2) (fun _ _ _ _ _ => (pg_name (i := 2) sc__law_checks.nd rfl (.inl rfl))) lt_no (fun _ _ _ _ _ x5 => (dm_b2 (k := fun (kx : (List Int)) (ky : Int) => (Run.lift (atI kx ky) : Option Int)) (dm_ix ix_list (da_sh (n := 0) (dm_name 2 (eL eI) (x5))) (da_pk' (n := 0) (dm_name 3 eI (x4))) os_ixL (fun _ _ => rfl)))))))))))) rfl)
abbrev st__law_is_lost : Stmt := topS 14
theorem sc__law_is_lost : FnScope ["checks", "hats", "line", "k"] ["checks", "hats"] (defScope st__law_is_lost) := ⟨rfl, rfl, rfl, by decide +kernel, rfl, by decide +kernel, by decide +kernel⟩
def f__law_is_lost (a : ((List (List Int)) × (List Int))) : Option Bool :=
  (((lcM (fun (x1 : (List Int)) => (((((lcM (fun (x2 : Int) => (pure (true) : Option Bool)) (fun (x2 : Int) => ((Run.lift (atI x1 x2) : Option Int) >>= fun x3 => (Run.lift (atI a.2 x2) : Option Int) >>= fun y4 => (Run.lift (imul x3 y4) : Option Int))) (rng 0 (List.length a.2))) >>= fun x5 => (pure ((List.sum x5)) : Option Int)) >>= fun x6 => (pure (x6) : Option Int)) >>= fun x7 => (pure ((x7 % 2)) : Option Int)) >>= fun x8 => (pure ((x8 == 1)) : Option Bool))) (fun (x1 : (List Int)) => (pure (x1) : Option (List Int))) a.1) >>= fun x10 => (pure ((List.length x10 : Int)) : Option Int)) >>= fun x11 => (pure ((x11 == 0)) : Option Bool))
theorem h__law_is_lost {P : Program} {w : World} {K : PySem.W.Frag} {mg : Str → Option Value} {base : Heap} (V : Ev K mg) : HasDef P w K mg base "_law_is_lost" 1 (spD K (fun (a : ((List (List Int)) × (List Int))) => [(eL (eL eI)) a.1, (eL eI) a.2]) f__law_is_lost 0 eB) :=
  hd_D (k := 0) (sl := fun (a : ((List (List Int)) × (List Int))) => [some (.v ((eL (eL eI)) (a.1))), some (.v ((eL eI) (a.2))), none, none]) V.t__law_is_lost sc__law_is_lost (fun _ _ _ _ _ _ us hl => match us, hl with | [_, _], _ => rfl) (fun _ => rfl) (fun _ => rfl) (fun f cdv A outer s H E hr b (a : ((List (List Int)) × (List Int))) => ds_eq (
    (ds_ret0 (dm_b01 (k := fun (kx : Int) (ky : Int) => (pure ((kx == ky)) : Option Bool)) (dm_cmp (op_eqP hr.units) (da_pk (dm_cB call_len_seq os_len V.b_len bo_len (da_pk' (n := 1) (dm_b1 (dm_lc' rfl sc__law_is_lost.nd (di_list (da_sh (n := 0) (dm_name 0 (eL (eL eI)) (a.1)))) (blkOk_by (own := [("line", 2)]) (by rfl)) (gt_name 2) (fun _ _ _ _ _ => (pg_name (i := 2) sc__law_is_lost.nd rfl (.inr rfl))) (lt_if fun _ _ _ _ _ x1 => (dt_b01 (k := fun (kx : Int) (ky : Int) => (pure ((kx == ky)) : Option Bool)) (dt_cmp (op_eqP hr.units) (da_pk (dm_opR op_mod (da_pk (dm_cT call_int1 os_int V.b_int bo_int (da_pk (dm_cB (cr_sum rfl) os_sum V.b_sum bo_sum (da_pk' (n := 1) (dm_b1 (dm_lc' rfl sc__law_is_lost.nd (di_rngLen V.b_range V.b_len (dm_pk (n := 0) (dm_name 1 (eL eI) (a.2)))) (blkOk_by (own := [("k", 3)]) (by rfl)) (gt_name 3) (fun _ _ _ _ _ => (pg_name (i := 3) sc__law_is_lost.nd rfl (.inl rfl))) lt_no (fun _ _ _ _ _ x2 => (dm_op op_mul (da_pk' (n := 0) (dm_b2 (k := fun (kx : (List Int)) (ky : Int) => (Run.lift (atI kx ky) : Option Int)) (dm_ix ix_list (da_sh (n := 0) (dm_name 2 (eL eI) (x1))) (da_pk' (n := 0) (dm_name 3 eI (x2))) os_ixL (fun _ _ => rfl)))) (da_pk' (n := 0) (dm_b2 (k := fun (kx : (List Int)) (ky : Int) => (Run.lift (atI kx ky) : Option Int)) (dm_ix ix_list (da_sh (n := 0) (dm_name 1 (eL eI) (a.2))) (da_pk' (n := 0) (dm_name 3 eI (x2))) os_ixL (fun _ _ => rfl)))) os_mul))))))))) (da_pk dm_int) (os_modK (n := 2) (by decide)))) (da_pk dm_int) (os_eq (by decide)) (nomark _)))) (fun _ _ _ _ _ x1 => (dm_name 2 (eL eI) (x1)))))))) (da_pk dm_int) (os_eq (by decide)) (nomark _))))) rfl)
abbrev st__law_said : Stmt := topS 15
theorem sc__law_said : FnScope ["checks", "hats", "said", "k", "lost", "colour"] ["checks", "hats"] (defScope st__law_said) := ⟨rfl, rfl, rfl, by decide +kernel, rfl, by decide +kernel, by decide +kernel⟩
def f__law_said (a : ((List (List Int)) × (List Int))) : Option (List (Option Int)) :=
  ((pure (([] : (List (Option Int)))) : Option (List (Option Int))) >>= fun (v1_said : (List (Option Int))) =>
    (((pure ((rng 0 (List.length a.2))) : Option (List Int)) >>= fun xs17 => forS (fun (s2 : (List (Option Int))) (x4 : Int) => (((lcM (fun (x6 : Int) => (((Run.lift (lcat (lcut a.2 (none : Option Int) (some x4 : Option Int)) ([x6] : (List Int))) : Option (List Int)) >>= fun x7 => (Run.lift (lcat x7 (lcut a.2 (some (x4 + 1) : Option Int) (none : Option Int))) : Option (List Int))) >>= fun a9 => (Run.lift (f__law_is_lost (a.1, a9)) : Option Bool))) (fun (x6 : Int) => (pure (x6) : Option Int)) ([0, 1] : (List Int))) >>= fun (v5_lost : (List Int)) =>
    ((pure (((List.length v5_lost : Int) == 1)) : Option Bool) >>= fun t10 => if t10 then (((((Run.lift (atI v5_lost 0) : Option Int) >>= fun y12 => (pure ((1 - y12)) : Option Int)) >>= fun x => (pure (some x) : Option (Option Int))) >>= fun y14 => (Run.lift (lapp s2 y14) : Option (List (Option Int)))) >>= fun (v13_said : (List (Option Int))) =>
    (pure v13_said : Option _)) else (((pure ((none : (Option Int))) : Option (Option Int)) >>= fun y16 => (Run.lift (lapp s2 y16) : Option (List (Option Int)))) >>= fun (v15_said : (List (Option Int))) =>
    (pure v15_said : Option _)))) : Option (List (Option Int)))) v1_said xs17) >>= fun s3 =>
    (pure s3 : Option _)))
theorem h__law_said {P : Program} {w : World} {K : PySem.W.Frag} {mg : Str → Option Value} {base : Heap} (V : Ev K mg) : HasDef P w K mg base "_law_said" 2 (spD K (fun (a : ((List (List Int)) × (List Int))) => [(eL (eL eI)) a.1, (eL eI) a.2]) f__law_said 1 (eL (eO eI))) :=
  hd_D (k := 1) (sl := fun (a : ((List (List Int)) × (List Int))) => [some (.v ((eL (eL eI)) (a.1))), some (.v ((eL eI) (a.2))), none, none, none, none]) V.t__law_said sc__law_said (fun _ _ _ _ _ _ us hl => match us, hl with | [_, _], _ => rfl) (fun _ => rfl) (fun _ => rfl) (fun f cdv A outer s H E hr b (a : ((List (List Int)) × (List Int))) => ds_eq (
    (ds_seq (ds_setO 2 (n := 1) (dm_list (dl_nil (g := (eO eI)) (n := 0))) sc__law_said.nd) fun v1_said =>
    (ds_seq (ds_for (Ef := (fun (s2 : (List (Option Int))) => [some (.v ((eL (eL eI)) (a.1))), some (.v ((eL eI) (a.2))), some (.o 1 ((eL (eO eI)) (s2))), none, none, none])) (s0 := v1_said) PassesOwn.never rfl (di_rngLen V.b_range V.b_len (dm_pk (n := 0) (dm_name 1 (eL eI) (a.2)))) (gt_name 3) (pg_name (i := 3) sc__law_said.nd rfl (.inr rfl)) ⟨rfl, rfl, rfl, trivial⟩ (fun s2 x4 =>
    (ds_seq (ds1_b (ds_lcV (n := 0) 4 rfl sc__law_said.nd (di_list (da_sh (n := 1) (dm_list (dl_consT dm_int (dl_consT dm_int (dl_nil (g := eI) (n := 0))))))) (blkOk_by (own := [("colour", 5)]) (by rfl)) (gt_name 5) (fun _ _ _ _ _ => (pg_name (i := 5) sc__law_said.nd rfl (.inl rfl))) (lt_if fun _ _ _ _ _ x6 => (dt_val (dm_sc (n := 0) (dc_call (h__law_is_lost V) (hr.mono (by decide)) (ca_consT (da_fr (n := 0) (dm_name 0 (eL (eL eI)) (a.1))) (ca_cons (da_fr (n := 0) (dm_b01 (k := fun (kx : (List Int)) (ky : (List Int)) => (Run.lift (lcat kx ky) : Option (List Int))) (dm_op op_cat (da_sh (n := 1) (dm_b2 (k := fun (kx : (List Int)) (ky : (List Int)) => (Run.lift (lcat kx ky) : Option (List Int))) (dm_op op_cat (da_sh (n := 1) (dm_b3 (k := fun kx kl kh => (pure (lcut kx kl kh) : Option (List Int))) (dm_slice nl1 (da_sh (n := 0) (dm_name 1 (eL eI) (a.2))) po_no (po_yesT (da_pk' (n := 0) (dm_name 3 eI (x4))))))) (da_sh (n := 1) (dm_list (dl_consT (dm_name 5 eI (x6)) (dl_nil (g := eI) (n := 0))))) (os_cat nl1)))) (da_sh (n := 1) (dm_b3 (k := fun kx kl kh => (pure (lcut kx kl kh) : Option (List Int))) (dm_slice nl1 (da_sh (n := 0) (dm_name 1 (eL eI) (a.2))) (po_yesT (da_pk (dm_b2 (k := fun (kx : Int) (ky : Int) => (pure ((kx + ky)) : Option Int)) (dm_op op_add (da_pk' (n := 0) (dm_name 3 eI (x4))) (da_pk dm_int) os_II)))) po_no))) (os_cat nl0)))) (fun a9 => (ca_nil (M := (Run.lift (f__law_is_lost (a.1, a9)) : Option Bool)))))) (fun ds k h => by obtain ⟨_, rfl, a9, _, rfl, rfl, rfl⟩ := h; exact ⟨(a.1, a9), rfl, rfl⟩))))) (fun _ _ _ _ _ x6 => (dm_name 5 eI (x6))))) fun v5_lost =>
    (ds_last (ds_if (dt_b2 (k := fun (kx : Int) (ky : Int) => (pure ((kx == ky)) : Option Bool)) (dt_cmp (op_eqP hr.units) (da_pk (dm_b1 (k := fun (kx : (List Int)) => (pure ((List.length kx : Int)) : Option Int)) (dm_cB call_len_seq os_len V.b_len bo_len (da_pk' (n := 0) (dm_name 4 (eL eI) (v5_lost)))))) (da_pk dm_int) (os_eq (by decide)) (nomark _))) (ds_seq (ds_append 2 (s2) (dm_enc (g' := (eO eI)) (f := some) (dm_b1 (k := fun (kx : Int) => (Run.lift (atI v5_lost 0) : Option Int) >>= fun (ky : Int) => (pure ((kx - ky)) : Option Int)) (dm_op op_sub (da_pk dm_int) (da_pk' (n := 0) (dm_b2 (k := fun (kx : (List Int)) (ky : Int) => (Run.lift (atI kx ky) : Option Int)) (dm_ix ix_list (da_sh (n := 0) (dm_name 4 (eL eI) (v5_lost))) (da_pk dm_int) os_ixL (fun _ _ => rfl)))) os_II)) (fun _ => rfl))) fun v13_said =>
    (ds_nil (z := v13_said) rfl ⟨rfl, rfl, rfl, trivial⟩))
    (ds_seq (ds_append 2 (s2) (dm_encP (g := eN) (g' := (eO eI)) (f := fun _ => none) (x := ()) dm_none rfl)) fun v15_said =>
    (ds_nil (z := v15_said) rfl ⟨rfl, rfl, rfl, trivial⟩))))))) fun s3 =>
    (ds_retN 2 (eL (eO eI)) (s3) (s3) rfl)))) rfl)
abbrev st__law_right : Stmt := topS 16
theorem sc__law_right : FnScope ["r", "checks", "hats", "handed", "due", "turn", "told", "right", "wrong", "won", "k"] ["r", "checks", "hats"] (defScope st__law_right) := ⟨rfl, rfl, rfl, by decide +kernel, rfl, by decide +kernel, by decide +kernel⟩
def f__law_right (a : (Int × (List (List Int)) × (List Int))) : Option Bool :=
  ((pure (a.2.2) : Option (List Int)) >>= fun (v1_handed : (List Int)) =>
    (((Run.lift (f__law_said (a.2.1, a.2.2)) : Option (List (Option Int)))) >>= fun (v2_due : (List (Option Int))) =>
    (((pure ((rng 0 2)) : Option (List Int)) >>= fun xs11 => forC (fun (s3 : Unit) (x5 : Int) => ((((Run.lift (f_guesses (a.1, v1_handed)) : Option (List (Option Int)))) >>= fun (v6_told : (List (Option Int))) =>
    (((((Run.lift (f__law_same ((eL (eO eI)) v6_told, (eL (eO eI)) v2_due)) : Option Bool)) >>= fun t => (pure (!t) : Option Bool)) >>= fun t => if t then (pure (true) : Option Bool) else (pure ((v1_handed != a.2.2)) : Option Bool)) >>= fun t7 => if t7 then (pure (false) : Option Bool) >>= fun r10 => (pure (Ct.rt r10) : Option _) else
    (((pure ((some 0)) : Option (Option Int)) >>= fun y9 => (Run.lift (lapp v6_told y9) : Option (List (Option Int)))) >>= fun (v8_told : (List (Option Int))) =>
    (pure (Ct.nx ()) : Option _)))) : Option (Ct Unit Bool))) () xs11) >>= fun z26 => z26.go (fun s4 =>
    ((lcM (fun (x13 : Int) => ((Run.lift (atI v2_due x13) : Option (Option Int)) >>= fun x14 => ((Run.lift (atI a.2.2 x13) : Option Int) >>= fun x => (pure (some x) : Option (Option Int))) >>= fun y15 => (pure ((x14 == y15)) : Option Bool))) (fun (x13 : Int) => (pure (x13) : Option Int)) (rng 0 (List.length a.2.2))) >>= fun (v12_right : (List Int)) =>
    ((lcM (fun (x17 : Int) => (((Run.lift (atI v2_due x17) : Option (Option Int)) >>= fun x18 => (pure ((Option.isSome x18)) : Option Bool)) >>= fun t => if t then ((Run.lift (atI v2_due x17) : Option (Option Int)) >>= fun x19 => ((Run.lift (atI a.2.2 x17) : Option Int) >>= fun x => (pure (some x) : Option (Option Int))) >>= fun y20 => (pure ((x19 != y20)) : Option Bool)) else (pure (false) : Option Bool))) (fun (x17 : Int) => (pure (x17) : Option Int)) (rng 0 (List.length a.2.2))) >>= fun (v16_wrong : (List Int)) =>
    ((pure (((decide (0 < (List.length v12_right : Int))) && ((List.length v16_wrong : Int) == 0))) : Option Bool) >>= fun (v21_won : Bool) =>
    ((((Run.lift (f__law_is_lost (a.2.1, a.2.2)) : Option Bool)) >>= fun y23 => (pure ((v21_won == y23)) : Option Bool)) >>= fun t24 => if t24 then (pure (false) : Option Bool) else
    ((((Run.lift (f_are_won (a.1, v1_handed)) : Option Bool)) >>= fun a25 => (Run.lift (f__law_same (eB a25, eB v21_won)) : Option Bool)) >>= fun t => if t then (pure ((v1_handed == a.2.2)) : Option Bool) else (pure (false) : Option Bool))))))) (fun r27 => (pure (r27) : Option _)))))
theorem h__law_right {P : Program} {w : World} {K : PySem.W.Frag} {mg : Str → Option Value} {base : Heap} (V : Ev K mg) : HasDef P w K mg base "_law_right" 8 (spD K (fun (a : (Int × (List (List Int)) × (List Int))) => [eI a.1, (eL (eL eI)) a.2.1, (eL eI) a.2.2]) f__law_right 0 eB) :=
  hd_D (k := 7) (sl := fun (a : (Int × (List (List Int)) × (List Int))) => [some (.v (eI (a.1))), some (.v ((eL (eL eI)) (a.2.1))), some (.v ((eL eI) (a.2.2))), none, none, none, none, none, none, none, none]) V.t__law_right sc__law_right (fun _ _ _ _ _ _ us hl => match us, hl with | [_, _, _], _ => rfl) (fun _ => rfl) (fun _ => rfl) (fun f cdv A outer s H E hr b (a : (Int × (List (List Int)) × (List Int))) => ds_eq (
    (ds_seq (ds_setV 3 (dm_b1 (k := fun (kx : (List Int)) => (pure (kx) : Option (List Int))) (dm_cT call_list_of (os_listOf nl0) V.b_list bo_list (da_sh (n := 0) (dm_name 2 (eL eI) (a.2.2))))) sc__law_right.nd) fun v1_handed =>
    (ds_seq (ds_setV 4 (dm_fr (n := 1) (dc_call (h__law_said V) (hr.mono (by decide)) (ca_consT (da_fr (n := 0) (dm_name 1 (eL (eL eI)) (a.2.1))) (ca_consT (da_fr (n := 0) (dm_name 2 (eL eI) (a.2.2))) (ca_nil (M := (Run.lift (f__law_said (a.2.1, a.2.2)) : Option (List (Option Int))))))) (fun ds k h => by obtain ⟨_, rfl, _, rfl, rfl, rfl⟩ := h; exact ⟨(a.2.1, a.2.2), rfl, rfl⟩))) sc__law_right.nd) fun v2_due =>
    (ds_seqC (oR := (fun r => Oc.rt 0 (eB r))) (f := fun r => r) (ds_forC (Ef := (fun (s3 : Unit) => [some (.v (eI (a.1))), some (.v ((eL (eL eI)) (a.2.1))), some (.v ((eL eI) (a.2.2))), some (.v ((eL eI) (v1_handed))), some (.v ((eL (eO eI)) (v2_due))), none, none, none, none, none, none])) (s0 := ()) (oR := (fun r => Oc.rt 0 (eB r))) (fun _ => ⟨_, _, rfl⟩) PassesOwn.never rfl (di_rngK V.b_range (da_pk dm_int)) (gt_name 5) (pg_name (i := 5) sc__law_right.nd rfl (.inl rfl)) ⟨rfl, rfl, rfl, rfl, rfl, trivial⟩ (fun s3 x5 =>
    (ds_seq (ds_setO 6 (n := 1) (dc_call (h_guesses V) (hr.mono (by decide)) (ca_consT (da_fr (n := 0) (dm_name 0 eI (a.1))) (ca_consT (da_fr (n := 0) (dm_name 3 (eL eI) (v1_handed))) (ca_nil (M := (Run.lift (f_guesses (a.1, v1_handed)) : Option (List (Option Int))))))) (fun ds k h => by obtain ⟨_, rfl, _, rfl, rfl, rfl⟩ := h; exact ⟨(a.1, v1_handed), rfl, rfl⟩)) sc__law_right.nd) fun v6_told =>
    (ds_ifR (oA := (fun r => Oc.rt 0 (eB r))) (f := Ct.rt) (DW.dt (dw_or (dt_not (dt_val (dc_callP (h__law_same V) (hr.mono (by decide)) (cp_consT (da_pk (dm_nameO 6 (eL (eO eI)) (v6_told))) (cp_consT (da_pk' (n := 0) (dm_name 4 (eL (eO eI)) (v2_due))) (cp_nil (M := (Run.lift (f__law_same ((eL (eO eI)) v6_told, (eL (eO eI)) v2_due)) : Option Bool))))) (fun ds k h => by obtain ⟨_, rfl, _, rfl, rfl, rfl⟩ := h; exact ⟨((eL (eO eI)) v6_told, (eL (eO eI)) v2_due), rfl, rfl⟩)))) (dw_or1 (dt_b2 (k := fun (kx : (List Int)) (ky : (List Int)) => (pure ((kx != ky)) : Option Bool)) (dt_cmp (op_neP hr.units) (da_pk' (n := 0) (dm_name 3 (eL eI) (v1_handed))) (da_pk' (n := 0) (dm_name 2 (eL eI) (a.2.2))) (os_ne (by decide)) (nomark _)))))) (ds_ret0 dm_bool) (fun _ => ⟨fun _ h => (by cases h), rfl⟩)
    (ds_seq (ds_append 6 (v6_told) (dm_encP (g' := (eO eI)) (f := some) dm_int rfl)) fun v8_told =>
    (ds_nil (z := Ct.nx ()) rfl ⟨rfl, rfl, rfl, rfl, rfl, trivial⟩)))))) (fun _ => ⟨_, _, rfl⟩) (fun _ => rfl) fun s4 =>
    (ds_seq (ds1_b (ds_lcV (n := 0) 7 rfl sc__law_right.nd (di_rngLen V.b_range V.b_len (dm_pk (n := 0) (dm_name 2 (eL eI) (a.2.2)))) (blkOk_by (own := [("k", 10)]) (by rfl)) (gt_name 10) (fun _ _ _ _ _ => (pg_name (i := 10) sc__law_right.nd rfl (.inl rfl))) (lt_if fun _ _ _ _ _ x13 => (dt_cmp (op_eqP hr.units) (da_pk' (n := 0) (dm_b2 (k := fun (kx : (List (Option Int))) (ky : Int) => (Run.lift (atI kx ky) : Option (Option Int))) (dm_ix ix_list (da_sh (n := 0) (dm_name 4 (eL (eO eI)) (v2_due))) (da_pk' (n := 0) (dm_name 10 eI (x13))) os_ixL (fun _ _ => rfl)))) (da_pk' (n := 0) (dm_enc (g' := (eO eI)) (f := some) (dm_b2 (k := fun (kx : (List Int)) (ky : Int) => (Run.lift (atI kx ky) : Option Int)) (dm_ix ix_list (da_sh (n := 0) (dm_name 2 (eL eI) (a.2.2))) (da_pk' (n := 0) (dm_name 10 eI (x13))) os_ixL (fun _ _ => rfl))) (fun _ => rfl))) (os_eq (by decide)) (nomark _))) (fun _ _ _ _ _ x13 => (dm_name 10 eI (x13))))) fun v12_right =>
    (ds_seq (ds1_b (ds_lcV (n := 0) 8 rfl sc__law_right.nd (di_rngLen V.b_range V.b_len (dm_pk (n := 0) (dm_name 2 (eL eI) (a.2.2)))) (blkOk_by (own := [("k", 10)]) (by rfl)) (gt_name 10) (fun _ _ _ _ _ => (pg_name (i := 10) sc__law_right.nd rfl (.inl rfl))) (lt_if fun _ _ _ _ _ x17 => (DW.dt (dw_and (dt_notN (dm_sc (n := 0) (dm_b2 (k := fun (kx : (List (Option Int))) (ky : Int) => (Run.lift (atI kx ky) : Option (Option Int))) (dm_ix ix_list (da_sh (n := 0) (dm_name 4 (eL (eO eI)) (v2_due))) (da_pk' (n := 0) (dm_name 10 eI (x17))) os_ixL (fun _ _ => rfl))))) (dw_and1 (dt_cmp (op_neP hr.units) (da_pk' (n := 0) (dm_b2 (k := fun (kx : (List (Option Int))) (ky : Int) => (Run.lift (atI kx ky) : Option (Option Int))) (dm_ix ix_list (da_sh (n := 0) (dm_name 4 (eL (eO eI)) (v2_due))) (da_pk' (n := 0) (dm_name 10 eI (x17))) os_ixL (fun _ _ => rfl)))) (da_pk' (n := 0) (dm_enc (g' := (eO eI)) (f := some) (dm_b2 (k := fun (kx : (List Int)) (ky : Int) => (Run.lift (atI kx ky) : Option Int)) (dm_ix ix_list (da_sh (n := 0) (dm_name 2 (eL eI) (a.2.2))) (da_pk' (n := 0) (dm_name 10 eI (x17))) os_ixL (fun _ _ => rfl))) (fun _ => rfl))) (os_ne (by decide)) (nomark _)))))) (fun _ _ _ _ _ x17 => (dm_name 10 eI (x17))))) fun v16_wrong =>
    (ds_seq (ds_setV 9 (dm_scP (dv_andT (dm_b2 (k := fun (kx : Int) (ky : Int) => (pure ((decide (ky < kx))) : Option Bool)) (dm_cmp op_gt (da_pk (dm_b1 (k := fun (kx : (List Int)) => (pure ((List.length kx : Int)) : Option Int)) (dm_cB call_len_seq os_len V.b_len bo_len (da_pk' (n := 0) (dm_name 7 (eL eI) (v12_right)))))) (da_pk dm_int) os_IB (nomark _))) (dv_one (dm_b2 (k := fun (kx : Int) (ky : Int) => (pure ((kx == ky)) : Option Bool)) (dm_cmp (op_eqP hr.units) (da_pk (dm_b1 (k := fun (kx : (List Int)) => (pure ((List.length kx : Int)) : Option Int)) (dm_cB call_len_seq os_len V.b_len bo_len (da_pk' (n := 0) (dm_name 8 (eL eI) (v16_wrong)))))) (da_pk dm_int) (os_eq (by decide)) (nomark _)))))) sc__law_right.nd) fun v21_won =>
    (ds_ifR0 (dt_b1 (k := fun (kx : Bool) => ((Run.lift (f__law_is_lost (a.2.1, a.2.2)) : Option Bool)) >>= fun (ky : Bool) => (pure ((kx == ky)) : Option Bool)) (dt_cmp (op_eqP hr.units) (da_pk' (n := 0) (dm_name 9 eB (v21_won))) (da_pk' (n := 0) (dc_call (h__law_is_lost V) (hr.mono (by decide)) (ca_consT (da_fr (n := 0) (dm_name 1 (eL (eL eI)) (a.2.1))) (ca_consT (da_fr (n := 0) (dm_name 2 (eL eI) (a.2.2))) (ca_nil (M := (Run.lift (f__law_is_lost (a.2.1, a.2.2)) : Option Bool))))) (fun ds k h => by obtain ⟨_, rfl, _, rfl, rfl, rfl⟩ := h; exact ⟨(a.2.1, a.2.2), rfl, rfl⟩))) (os_eq (by decide)) (nomark _))) (ds_ret0 dm_bool) (fun _ _ h => by cases h)
    (ds_ret0 (dm_scP (dv_and (dm_sc (n := 0) (dc_call (h__law_same V) (hr.mono (by decide)) (ca_cons (da_fr (n := 0) (dc_call (h_are_won V) (hr.mono (by decide)) (ca_consT (da_fr (n := 0) (dm_name 0 eI (a.1))) (ca_consT (da_fr (n := 0) (dm_name 3 (eL eI) (v1_handed))) (ca_nil (M := (Run.lift (f_are_won (a.1, v1_handed)) : Option Bool))))) (fun ds k h => by obtain ⟨_, rfl, _, rfl, rfl, rfl⟩ := h; exact ⟨(a.1, v1_handed), rfl, rfl⟩))) (fun a25 => (ca_consT (da_fr (n := 0) (dm_name 9 eB (v21_won))) (ca_nil (M := (Run.lift (f__law_same (eB a25, eB v21_won)) : Option Bool)))))) (fun ds k h => by obtain ⟨a25, _, rfl, _, rfl, rfl, rfl⟩ := h; exact ⟨(eB a25, eB v21_won), rfl, rfl⟩))) (dv_one (dm_b2 (k := fun (kx : (List Int)) (ky : (List Int)) => (pure ((kx == ky)) : Option Bool)) (dm_cmp (op_eqP hr.units) (da_pk' (n := 0) (dm_name 3 (eL eI) (v1_handed))) (da_pk' (n := 0) (dm_name 2 (eL eI) (a.2.2))) (os_eq (by decide)) (nomark _))))))))))))))) rfl)
abbrev st_law : Stmt := topS 17
theorem sc_law : FnScope ["script", "feed", "few", "won", "hats", "checks", "every", "lost", "turn", "own", "at", "one", "n"] ["script"] (defScope st_law) := ⟨rfl, rfl, rfl, by decide +kernel, rfl, by decide +kernel, by decide +kernel⟩
def f_law : W Bool :=
  (((Run.lift (f__law_checks (2)) : W (List (List Int)))) >>= fun (v1_few : (List (List Int))) =>
    ((pure (0) : W Int) >>= fun (v2_won : Int) =>
    ((((Run.lift (f__law_all_words (2, 3)) : W (List (List Int)))) >>= fun xs11 => forC (fun (s3 : Int) (x5 : (List Int)) => (((((Run.lift (f__law_right (2, v1_few, x5)) : W Bool)) >>= fun t => (pure (!t) : W Bool)) >>= fun t6 => if t6 then (pure (false) : W Bool) >>= fun r10 => (pure (Ct.rt r10) : W _) else
    (((((Run.lift (f_are_won (2, x5)) : W Bool)) >>= fun x7 => (pure ((b2n x7)) : W Int)) >>= fun y8 => (pure ((s3 + y8)) : W Int)) >>= fun (v9_won : Int) =>
    (pure (Ct.nx v9_won) : W _))) : W (Ct Int Bool))) v2_won xs11) >>= fun z76 => z76.go (fun s4 =>
    ((((((((Run.lift (f_count_won (2)) : W Int)) >>= fun x => (pure (eI x) : W D)) >>= fun x14 => ((((Run.lift (f_best_share (3)) : W (Int × Int))) >>= fun x => (pure ((eP eI eI) x) : W D)) >>= fun x12 => (pure ([]) : W (List D)) >>= fun xs13 => (pure (x12 :: xs13) : W (List D))) >>= fun xs15 => (pure (x14 :: xs15) : W (List D))) >>= fun a16 => (Run.lift (f__law_same ((eL eD) a16, (eL eD) ([(eI s4), ((eP eI eI) (3, 4))] : (List D)))) : W Bool)) >>= fun t => (pure (!t) : W Bool)) >>= fun t => if t then (pure (true) : W Bool) else (pure (((s4 * 4) != (3 * 8))) : W Bool)) >>= fun t17 => if t17 then (pure (false) : W Bool) else
    (((Run.lift (f__law_checks (3)) : W (List (List Int)))) >>= fun (v18_checks : (List (List Int))) =>
    (((Run.lift (f__law_all_words (2, 7)) : W (List (List Int)))) >>= fun (v19_every : (List (List Int))) =>
    ((lcM (fun (x21 : (List Int)) => ((Run.lift (f__law_is_lost (v18_checks, x21)) : W Bool))) (fun (x21 : (List Int)) => (pure (x21) : W (List Int))) v19_every) >>= fun (v20_lost : (List (List Int))) =>
    ((((((((Run.lift (f_count_won (3)) : W Int)) >>= fun x => (pure (eI x) : W D)) >>= fun x24 => ((((Run.lift (f_best_share (7)) : W (Int × Int))) >>= fun x => (pure ((eP eI eI) x) : W D)) >>= fun x22 => (pure ([]) : W (List D)) >>= fun xs23 => (pure (x22 :: xs23) : W (List D))) >>= fun xs25 => (pure (x24 :: xs25) : W (List D))) >>= fun a26 => (Run.lift (f__law_same ((eL eD) a26, (eL eD) ([(eI ((List.length v19_every : Int) - (List.length v20_lost : Int))), ((eP eI eI) (7, 8))] : (List D)))) : W Bool)) >>= fun t => (pure (!t) : W Bool)) >>= fun t => if t then (pure (true) : W Bool) else (pure ((((List.length v20_lost : Int) * 8) != (List.length v19_every : Int))) : W Bool)) >>= fun t27 => if t27 then (pure (false) : W Bool) else
    (((pure ((rng 0 4)) : W (List Int)) >>= fun xs60 => forC (fun (s28 : Unit) (x30 : Int) => ((((drawW ((List.length v19_every : Int))) >>= fun y33 => (Run.lift (atI v19_every y33) : W (List Int))) >>= fun (v31_hats : (List Int)) =>
    (((drawW ((List.length v20_lost : Int))) >>= fun y36 => (Run.lift (atI v20_lost y36) : W (List Int))) >>= fun (v34_own : (List Int)) =>
    ((drawW (7)) >>= fun (v37_at : Int) =>
    ((((pure (v31_hats) : W (List Int)) >>= fun x52 => ((pure (v34_own) : W (List Int)) >>= fun x50 => ((((((Run.lift (atI v34_own v37_at) : W Int) >>= fun y41 => (pure ((1 - y41)) : W Int)) >>= fun x42 => (pure ([]) : W (List Int)) >>= fun xs43 => (pure (x42 :: xs43) : W (List Int))) >>= fun y45 => (Run.lift (lcat (lcut v34_own (none : Option Int) (some v37_at : Option Int)) y45) : W (List Int))) >>= fun x46 => (Run.lift (lcat x46 (lcut v34_own (some (v37_at + 1) : Option Int) (none : Option Int))) : W (List Int))) >>= fun x48 => (pure ([]) : W (List (List Int))) >>= fun xs49 => (pure (x48 :: xs49) : W (List (List Int)))) >>= fun xs51 => (pure (x50 :: xs51) : W (List (List Int)))) >>= fun xs53 => (pure (x52 :: xs53) : W (List (List Int)))) >>= fun xs57 => forC (fun (s38 : Unit) (x54 : (List Int)) => (((((Run.lift (f__law_right (3, v18_checks, x54)) : W Bool)) >>= fun t => (pure (!t) : W Bool)) >>= fun t55 => if t55 then (pure (false) : W Bool) >>= fun r56 => (pure (Ct.rt r56) : W _) else
    (pure (Ct.nx ()) : W _)) : W (Ct Unit Bool))) () xs57) >>= fun z58 => z58.go (fun s39 =>
    (pure (Ct.nx ()) : W _)) (fun r59 => (pure (Ct.rt r59) : W _)))))) : W (Ct Unit Bool))) () xs60) >>= fun z74 => z74.go (fun s29 =>
    (((drawW (30)) >>= fun y63 => (pure ((1 + y63)) : W Int)) >>= fun (v61_n : Int) =>
    ((((((Run.lift (f_best_share (v61_n)) : W (Int × Int))) >>= fun a64 => (Run.lift (f__law_same ((eP eI eI) a64, (eP eI eI) (v61_n, (v61_n + 1)))) : W Bool)) >>= fun t => (pure (!t) : W Bool)) >>= fun t => if t then (pure (true) : W Bool) else ((((Run.lift (f_guesses (2, ([0, 0, 0] : (List Int)))) : W (List (Option Int)))) >>= fun a65 => (Run.lift (f__law_same ((eL (eO eI)) a65, (eL (eO eI)) ([(some 1), (some 1), (some 1)] : (List (Option Int))))) : W Bool)) >>= fun t => (pure (!t) : W Bool))) >>= fun t66 => if t66 then (pure (false) : W Bool) else
    (((((Run.lift (f_guesses (2, ([1, 0, 0] : (List Int)))) : W (List (Option Int)))) >>= fun a67 => (Run.lift (f__law_same ((eL (eO eI)) a67, (eL (eO eI)) ([(some 1), (none : (Option Int)), (none : (Option Int))] : (List (Option Int))))) : W Bool)) >>= fun t => (pure (!t) : W Bool)) >>= fun t68 => if t68 then (pure (false) : W Bool) else
    ((((Run.lift (f_are_won (2, ([1, 0, 0] : (List Int)))) : W Bool)) >>= fun x71 => (((Run.lift (f_are_won (2, ([1, 1, 1] : (List Int)))) : W Bool)) >>= fun x69 => (pure ([]) : W (List Bool)) >>= fun xs70 => (pure (x69 :: xs70) : W (List Bool))) >>= fun xs72 => (pure (x71 :: xs72) : W (List Bool))) >>= fun a73 => (Run.lift (f__law_same ((eL eB) a73, (eL eB) ([true, false] : (List Bool)))) : W Bool)))))) (fun r75 => (pure (r75) : W _))))))))) (fun r77 => (pure (r77) : W _)))))
theorem h_law {P : Program} {w : World} {K : PySem.W.Frag} {mg : Str → Option Value} {base : Heap} (V : Ev K mg) (f : Addr) (fd : FuncData) (F : Fun K "law" "law" st_law f fd) (hM : f_law.wp fun r => r = true) : FnOk P w K mg base CX0 9 f fd ["script"] (spLaw K) :=
  fn_law (k := 8) (i := 1) (fM := f_law) (sl := [none, some .feed, none, none, none, none, none, none, none, none, none, none, none]) F sc_law rfl (by decide) rfl (fun cdv A outer s H E hr => by obtain ⟨f, fd, F1, hm, hk, hb⟩ := (h__law_feed (P := P) (w := w) (base := base) V); exact ps_set (i := 1) sc_law.nd rfl (.inl rfl) (pe_call F1 (hr.mono (by decide)) rfl hm hk hb .nil pass0 (pa_cons (pv 0) pa_nil))) (fun cdv A outer s H E hr b hfd => ds_eq (
    (ds_seq (ds_setV 2 (dm_fr (n := 1) (dc_call (h__law_checks V) (hr.mono (by decide)) (ca_consT (da_fr (n := 0) dm_int) (ca_nil (M := (Run.lift (f__law_checks (2)) : W (List (List Int)))))) (fun ds k h => by obtain ⟨_, rfl, rfl, rfl⟩ := h; exact ⟨(2), rfl, rfl⟩))) sc_law.nd) fun v1_few =>
    (ds_seq (ds_setV 3 dm_int sc_law.nd) fun v2_won =>
    (ds_seqC (oR := (fun r => Oc.rt 0 (eB r))) (f := fun r => r) (ds_forC (Ef := (fun (s3 : Int) => [none, some .feed, some (.v ((eL (eL eI)) (v1_few))), some (.v (eI (s3))), none, none, none, none, none, none, none, none, none])) (s0 := v2_won) (oR := (fun r => Oc.rt 0 (eB r))) (fun _ => ⟨_, _, rfl⟩) PassesOwn.never rfl (di_listF (da_fr (n := 0) (dc_call (h__law_all_words V) (hr.mono (by decide)) (ca_consT (da_fr (n := 0) dm_int) (ca_consT (da_fr (n := 0) dm_int) (ca_nil (M := (Run.lift (f__law_all_words (2, 3)) : W (List (List Int))))))) (fun ds k h => by obtain ⟨_, rfl, _, rfl, rfl, rfl⟩ := h; exact ⟨(2, 3), rfl, rfl⟩)))) (gt_name 4) (pg_name (i := 4) sc_law.nd rfl (.inl rfl)) ⟨rfl, rfl, rfl, trivial⟩ (fun s3 x5 =>
    (ds_ifR (oA := (fun r => Oc.rt 0 (eB r))) (f := Ct.rt) (dt_not (dt_val (dm_sc (n := 0) (dc_call (h__law_right V) (hr.mono (by decide)) (ca_consT (da_fr (n := 0) dm_int) (ca_consT (da_fr (n := 0) (dm_name 2 (eL (eL eI)) (v1_few))) (ca_consT (da_fr (n := 0) (dm_name 4 (eL eI) (x5))) (ca_nil (M := (Run.lift (f__law_right (2, v1_few, x5)) : W Bool)))))) (fun ds k h => by obtain ⟨_, rfl, _, rfl, _, rfl, rfl, rfl⟩ := h; exact ⟨(2, v1_few, x5), rfl, rfl⟩))))) (ds_ret0 dm_bool) (fun _ => ⟨fun _ h => (by cases h), rfl⟩)
    (ds_seq (ds_aug (g := eI) (a := s3) 3 iop_add (da_pk (dm_cT call_int1 os_intB V.b_int bo_int (da_pk' (n := 0) (dc_call (h_are_won V) (hr.mono (by decide)) (ca_consT (da_fr (n := 0) dm_int) (ca_consT (da_fr (n := 0) (dm_name 4 (eL eI) (x5))) (ca_nil (M := (Run.lift (f_are_won (2, x5)) : W Bool))))) (fun ds k h => by obtain ⟨_, rfl, _, rfl, rfl, rfl⟩ := h; exact ⟨(2, x5), rfl, rfl⟩))))) os_II rfl sc_law.nd) fun v9_won =>
    (ds_nil (z := Ct.nx v9_won) rfl ⟨rfl, rfl, rfl, trivial⟩))))) (fun _ => ⟨_, _, rfl⟩) (fun _ => rfl) fun s4 =>
    (ds_ifR0 (DW.dt (dw_or (dt_not (dt_val (dm_sc (n := 0) (dc_call (h__law_same V) (hr.mono (by decide)) (ca_cons (da_fr (n := 1) (dm_list (dl_cons (dm_enc (g' := eD) (f := eI) (dc_call (h_count_won V) (hr.mono (by decide)) (ca_consT (da_fr (n := 0) dm_int) (ca_nil (M := (Run.lift (f_count_won (2)) : W Int)))) (fun ds k h => by obtain ⟨_, rfl, rfl, rfl⟩ := h; exact ⟨(2), rfl, rfl⟩)) (fun _ => rfl)) (dl_cons (dm_enc (g' := eD) (f := (eP eI eI)) (dc_call (h_best_share V) (hr.mono (by decide)) (ca_consT (da_fr (n := 0) dm_int) (ca_nil (M := (Run.lift (f_best_share (3)) : W (Int × Int))))) (fun ds k h => by obtain ⟨_, rfl, rfl, rfl⟩ := h; exact ⟨(3), rfl, rfl⟩)) (fun _ => rfl)) (dl_nil (g := eD) (n := 0)))))) (fun a16 => (ca_consT (da_fr (n := 1) (dm_list (dl_consT (dm_encP (g' := eD) (f := eI) (dm_name 3 eI (s4)) rfl) (dl_consT (dm_fr (n := 1) (dm_encP (g' := eD) (f := (eP eI eI)) (dm_tup2T dm_int dm_int) rfl)) (dl_nil (g := eD) (n := 0)))))) (ca_nil (M := (Run.lift (f__law_same ((eL eD) a16, (eL eD) ([(eI s4), ((eP eI eI) (3, 4))] : (List D)))) : W Bool)))))) (fun ds k h => by obtain ⟨a16, _, rfl, _, rfl, rfl, rfl⟩ := h; exact ⟨((eL eD) a16, (eL eD) ([(eI s4), ((eP eI eI) (3, 4))] : (List D))), rfl, rfl⟩))))) (dw_or1 (dt_b2 (k := fun (kx : Int) (ky : Int) => (pure ((kx != ky)) : W Bool)) (dt_cmp (op_neP hr.units) (da_pk (dm_b1 (k := fun (kx : Int) => (pure ((kx * 4)) : W Int)) (dm_opR op_mul (da_pk' (n := 0) (dm_name 3 eI (s4))) (da_pk dm_int) (os_mulR (n := 4) (by decide))))) (da_pk (dm_b1 (k := fun (kx : Int) => (pure ((kx * 8)) : W Int)) (dm_opR op_mul (da_pk dm_int) (da_pk dm_int) (os_mulR (n := 8) (by decide))))) (os_ne (by decide)) (nomark _)))))) (ds_ret0 dm_bool) (fun _ _ h => by cases h)
    (ds_seq (ds_setV 5 (dm_fr (n := 1) (dc_call (h__law_checks V) (hr.mono (by decide)) (ca_consT (da_fr (n := 0) dm_int) (ca_nil (M := (Run.lift (f__law_checks (3)) : W (List (List Int)))))) (fun ds k h => by obtain ⟨_, rfl, rfl, rfl⟩ := h; exact ⟨(3), rfl, rfl⟩))) sc_law.nd) fun v18_checks =>
    (ds_seq (ds_setV 6 (dc_call (h__law_all_words V) (hr.mono (by decide)) (ca_consT (da_fr (n := 0) dm_int) (ca_consT (da_fr (n := 0) dm_int) (ca_nil (M := (Run.lift (f__law_all_words (2, 7)) : W (List (List Int))))))) (fun ds k h => by obtain ⟨_, rfl, _, rfl, rfl, rfl⟩ := h; exact ⟨(2, 7), rfl, rfl⟩)) sc_law.nd) fun v19_every =>
    (ds_seq (ds1_b (ds_lcV (n := 0) 7 rfl sc_law.nd (di_list (da_sh (n := 0) (dm_name 6 (eL (eL eI)) (v19_every)))) (blkOk_by (own := [("hats", 4)]) (by rfl)) (gt_name 4) (fun _ _ _ _ _ => (pg_name (i := 4) sc_law.nd rfl (.inl rfl))) (lt_if fun _ _ _ _ _ x21 => (dt_val (dm_sc (n := 0) (dc_call (h__law_is_lost V) (hr.mono (by decide)) (ca_consT (da_fr (n := 0) (dm_name 5 (eL (eL eI)) (v18_checks))) (ca_consT (da_fr (n := 0) (dm_name 4 (eL eI) (x21))) (ca_nil (M := (Run.lift (f__law_is_lost (v18_checks, x21)) : W Bool))))) (fun ds k h => by obtain ⟨_, rfl, _, rfl, rfl, rfl⟩ := h; exact ⟨(v18_checks, x21), rfl, rfl⟩))))) (fun _ _ _ _ _ x21 => (dm_name 4 (eL eI) (x21))))) fun v20_lost =>
    (ds_ifR0 (DW.dt (dw_or (dt_not (dt_val (dm_sc (n := 0) (dc_call (h__law_same V) (hr.mono (by decide)) (ca_cons (da_fr (n := 1) (dm_list (dl_cons (dm_enc (g' := eD) (f := eI) (dc_call (h_count_won V) (hr.mono (by decide)) (ca_consT (da_fr (n := 0) dm_int) (ca_nil (M := (Run.lift (f_count_won (3)) : W Int)))) (fun ds k h => by obtain ⟨_, rfl, rfl, rfl⟩ := h; exact ⟨(3), rfl, rfl⟩)) (fun _ => rfl)) (dl_cons (dm_enc (g' := eD) (f := (eP eI eI)) (dc_call (h_best_share V) (hr.mono (by decide)) (ca_consT (da_fr (n := 0) dm_int) (ca_nil (M := (Run.lift (f_best_share (7)) : W (Int × Int))))) (fun ds k h => by obtain ⟨_, rfl, rfl, rfl⟩ := h; exact ⟨(7), rfl, rfl⟩)) (fun _ => rfl)) (dl_nil (g := eD) (n := 0)))))) (fun a26 => (ca_consT (da_fr (n := 1) (dm_list (dl_consT (dm_encP (g' := eD) (f := eI) (dm_b2 (k := fun (kx : Int) (ky : Int) => (pure ((kx - ky)) : W Int)) (dm_op op_sub (da_pk (dm_b1 (k := fun (kx : (List (List Int))) => (pure ((List.length kx : Int)) : W Int)) (dm_cB call_len_seq os_len V.b_len bo_len (da_pk' (n := 0) (dm_name 6 (eL (eL eI)) (v19_every)))))) (da_pk (dm_b1 (k := fun (kx : (List (List Int))) => (pure ((List.length kx : Int)) : W Int)) (dm_cB call_len_seq os_len V.b_len bo_len (da_pk' (n := 0) (dm_name 7 (eL (eL eI)) (v20_lost)))))) os_II)) rfl) (dl_consT (dm_fr (n := 1) (dm_encP (g' := eD) (f := (eP eI eI)) (dm_tup2T dm_int dm_int) rfl)) (dl_nil (g := eD) (n := 0)))))) (ca_nil (M := (Run.lift (f__law_same ((eL eD) a26, (eL eD) ([(eI ((List.length v19_every : Int) - (List.length v20_lost : Int))), ((eP eI eI) (7, 8))] : (List D)))) : W Bool)))))) (fun ds k h => by obtain ⟨a26, _, rfl, _, rfl, rfl, rfl⟩ := h; exact ⟨((eL eD) a26, (eL eD) ([(eI ((List.length v19_every : Int) - (List.length v20_lost : Int))), ((eP eI eI) (7, 8))] : (List D))), rfl, rfl⟩))))) (dw_or1 (dt_b2 (k := fun (kx : Int) (ky : Int) => (pure ((kx != ky)) : W Bool)) (dt_cmp (op_neP hr.units) (da_pk (dm_b1 (k := fun (kx : Int) => (pure ((kx * 8)) : W Int)) (dm_opR op_mul (da_pk (dm_b1 (k := fun (kx : (List (List Int))) => (pure ((List.length kx : Int)) : W Int)) (dm_cB call_len_seq os_len V.b_len bo_len (da_pk' (n := 0) (dm_name 7 (eL (eL eI)) (v20_lost)))))) (da_pk dm_int) (os_mulR (n := 8) (by decide))))) (da_pk (dm_b1 (k := fun (kx : (List (List Int))) => (pure ((List.length kx : Int)) : W Int)) (dm_cB call_len_seq os_len V.b_len bo_len (da_pk' (n := 0) (dm_name 6 (eL (eL eI)) (v19_every)))))) (os_ne (by decide)) (nomark _)))))) (ds_ret0 dm_bool) (fun _ _ h => by cases h)
    (ds_seqC (oR := (fun r => Oc.rt 0 (eB r))) (f := fun r => r) (ds_forC (Ef := (fun (s28 : Unit) => [none, some .feed, some (.v ((eL (eL eI)) (v1_few))), some (.v (eI (s4))), none, some (.v ((eL (eL eI)) (v18_checks))), some (.v ((eL (eL eI)) (v19_every))), some (.v ((eL (eL eI)) (v20_lost))), none, none, none, none, none])) (s0 := ()) (oR := (fun r => Oc.rt 0 (eB r))) (fun _ => ⟨_, _, rfl⟩) PassesOwn.never rfl (di_rngK V.b_range (da_pk dm_int)) (gt_name 8) (pg_name (i := 8) sc_law.nd rfl (.inl rfl)) ⟨rfl, rfl, rfl, rfl, rfl, rfl, trivial⟩ (fun s28 x30 =>
    (ds_seq (ds_setV 4 (dm_b1 (k := fun (kx : (List (List Int))) => (drawW ((List.length v19_every : Int))) >>= fun (ky : Int) => (Run.lift (atI kx ky) : W (List Int))) (dm_ix ix_list (da_sh (n := 0) (dm_name 6 (eL (eL eI)) (v19_every))) (da_pk' (n := 0) (dc_callF (h__law_draw V) hfd (hr.mono (by decide)) (ca_feed 1 (ca_consT (da_fr (n := 0) (dm_b1 (k := fun (kx : (List (List Int))) => (pure ((List.length kx : Int)) : W Int)) (dm_cB call_len_seq os_len V.b_len bo_len (da_pk' (n := 0) (dm_name 6 (eL (eL eI)) (v19_every)))))) (ca_nil (M := drawW ((List.length v19_every : Int)))))) (fun ds k h => by obtain ⟨_, rfl, _, rfl, rfl, rfl⟩ := h; exact ⟨((List.length v19_every : Int)), rfl, rfl⟩))) os_ixL (fun _ _ => rfl))) sc_law.nd) fun v31_hats =>
    (ds_seq (ds_setV 9 (dm_b1 (k := fun (kx : (List (List Int))) => (drawW ((List.length v20_lost : Int))) >>= fun (ky : Int) => (Run.lift (atI kx ky) : W (List Int))) (dm_ix ix_list (da_sh (n := 0) (dm_name 7 (eL (eL eI)) (v20_lost))) (da_pk' (n := 0) (dc_callF (h__law_draw V) hfd (hr.mono (by decide)) (ca_feed 1 (ca_consT (da_fr (n := 0) (dm_b1 (k := fun (kx : (List (List Int))) => (pure ((List.length kx : Int)) : W Int)) (dm_cB call_len_seq os_len V.b_len bo_len (da_pk' (n := 0) (dm_name 7 (eL (eL eI)) (v20_lost)))))) (ca_nil (M := drawW ((List.length v20_lost : Int)))))) (fun ds k h => by obtain ⟨_, rfl, _, rfl, rfl, rfl⟩ := h; exact ⟨((List.length v20_lost : Int)), rfl, rfl⟩))) os_ixL (fun _ _ => rfl))) sc_law.nd) fun v34_own =>
    (ds_seq (ds_setV 10 (dc_callF (h__law_draw V) hfd (hr.mono (by decide)) (ca_feed 1 (ca_consT (da_fr (n := 0) dm_int) (ca_nil (M := drawW (7))))) (fun ds k h => by obtain ⟨_, rfl, _, rfl, rfl, rfl⟩ := h; exact ⟨(7), rfl, rfl⟩)) sc_law.nd) fun v37_at =>
    (ds_seqC (oR := (fun r => Oc.rt 0 (eB r))) (f := Ct.rt) (ds_forC (Ef := (fun (s38 : Unit) => [none, some .feed, some (.v ((eL (eL eI)) (v1_few))), some (.v (eI (s4))), some (.v ((eL eI) (v31_hats))), some (.v ((eL (eL eI)) (v18_checks))), some (.v ((eL (eL eI)) (v19_every))), some (.v ((eL (eL eI)) (v20_lost))), some (.v (eI (x30))), some (.v ((eL eI) (v34_own))), some (.v (eI (v37_at))), none, none])) (s0 := ()) (oR := (fun r => Oc.rt 0 (eB r))) (fun _ => ⟨_, _, rfl⟩) PassesOwn.never rfl (di_listF (da_fr (n := 1) (dm_list (dl_cons (dm_name 4 (eL eI) (v31_hats)) (dl_cons (dm_name 9 (eL eI) (v34_own)) (dl_cons (dm_b01 (k := fun (kx : (List Int)) (ky : (List Int)) => (Run.lift (lcat kx ky) : W (List Int))) (dm_op op_cat (da_sh (n := 1) (dm_b1 (k := fun (kx : (List Int)) => (((Run.lift (atI v34_own v37_at) : W Int) >>= fun y41 => (pure ((1 - y41)) : W Int)) >>= fun x42 => (pure ([]) : W (List Int)) >>= fun xs43 => (pure (x42 :: xs43) : W (List Int))) >>= fun (ky : (List Int)) => (Run.lift (lcat kx ky) : W (List Int))) (dm_op op_cat (da_sh (n := 1) (dm_b3 (k := fun kx kl kh => (pure (lcut kx kl kh) : W (List Int))) (dm_slice nl1 (da_sh (n := 0) (dm_name 9 (eL eI) (v34_own))) po_no (po_yesT (da_pk' (n := 0) (dm_name 10 eI (v37_at))))))) (da_sh (n := 1) (dm_list (dl_cons (dm_b1 (k := fun (kx : Int) => (Run.lift (atI v34_own v37_at) : W Int) >>= fun (ky : Int) => (pure ((kx - ky)) : W Int)) (dm_op op_sub (da_pk dm_int) (da_pk' (n := 0) (dm_b2 (k := fun (kx : (List Int)) (ky : Int) => (Run.lift (atI kx ky) : W Int)) (dm_ix ix_list (da_sh (n := 0) (dm_name 9 (eL eI) (v34_own))) (da_pk' (n := 0) (dm_name 10 eI (v37_at))) os_ixL (fun _ _ => rfl)))) os_II)) (dl_nil (g := eI) (n := 0))))) (os_cat nl1)))) (da_sh (n := 1) (dm_b3 (k := fun kx kl kh => (pure (lcut kx kl kh) : W (List Int))) (dm_slice nl1 (da_sh (n := 0) (dm_name 9 (eL eI) (v34_own))) (po_yesT (da_pk (dm_b2 (k := fun (kx : Int) (ky : Int) => (pure ((kx + ky)) : W Int)) (dm_op op_add (da_pk' (n := 0) (dm_name 10 eI (v37_at))) (da_pk dm_int) os_II)))) po_no))) (os_cat nl0))) (dl_nil (g := (eL eI)) (n := 0)))))))) (gt_name 11) (pg_name (i := 11) sc_law.nd rfl (.inl rfl)) ⟨rfl, rfl, rfl, rfl, rfl, rfl, rfl, rfl, rfl, rfl, trivial⟩ (fun s38 x54 =>
    (ds_ifR (oA := (fun r => Oc.rt 0 (eB r))) (f := Ct.rt) (dt_not (dt_val (dm_sc (n := 0) (dc_call (h__law_right V) (hr.mono (by decide)) (ca_consT (da_fr (n := 0) dm_int) (ca_consT (da_fr (n := 0) (dm_name 5 (eL (eL eI)) (v18_checks))) (ca_consT (da_fr (n := 0) (dm_name 11 (eL eI) (x54))) (ca_nil (M := (Run.lift (f__law_right (3, v18_checks, x54)) : W Bool)))))) (fun ds k h => by obtain ⟨_, rfl, _, rfl, _, rfl, rfl, rfl⟩ := h; exact ⟨(3, v18_checks, x54), rfl, rfl⟩))))) (ds_ret0 dm_bool) (fun _ => ⟨fun _ h => (by cases h), rfl⟩)
    (ds_nil (z := Ct.nx ()) rfl ⟨rfl, rfl, rfl, rfl, rfl, rfl, rfl, rfl, rfl, rfl, trivial⟩)))) (fun _ => ⟨_, _, rfl⟩) (fun _ => rfl) fun s39 =>
    (ds_nil (z := Ct.nx ()) rfl ⟨rfl, rfl, rfl, rfl, rfl, rfl, trivial⟩))))))) (fun _ => ⟨_, _, rfl⟩) (fun _ => rfl) fun s29 =>
    (ds_seq (ds_setV 12 (dm_b1 (k := fun (kx : Int) => (drawW (30)) >>= fun (ky : Int) => (pure ((kx + ky)) : W Int)) (dm_op op_add (da_pk dm_int) (da_pk' (n := 0) (dc_callF (h__law_draw V) hfd (hr.mono (by decide)) (ca_feed 1 (ca_consT (da_fr (n := 0) dm_int) (ca_nil (M := drawW (30))))) (fun ds k h => by obtain ⟨_, rfl, _, rfl, rfl, rfl⟩ := h; exact ⟨(30), rfl, rfl⟩))) os_II)) sc_law.nd) fun v61_n =>
    (ds_ifR0 (DW.dt (dw_or (dt_not (dt_val (dm_sc (n := 0) (dc_call (h__law_same V) (hr.mono (by decide)) (ca_cons (da_fr (n := 0) (dc_call (h_best_share V) (hr.mono (by decide)) (ca_consT (da_fr (n := 0) (dm_name 12 eI (v61_n))) (ca_nil (M := (Run.lift (f_best_share (v61_n)) : W (Int × Int))))) (fun ds k h => by obtain ⟨_, rfl, rfl, rfl⟩ := h; exact ⟨(v61_n), rfl, rfl⟩))) (fun a64 => (ca_consT (da_fr (n := 1) (dm_tup2T (dm_name 12 eI (v61_n)) (dm_b2 (k := fun (kx : Int) (ky : Int) => (pure ((kx + ky)) : W Int)) (dm_op op_add (da_pk' (n := 0) (dm_name 12 eI (v61_n))) (da_pk dm_int) os_II)))) (ca_nil (M := (Run.lift (f__law_same ((eP eI eI) a64, (eP eI eI) (v61_n, (v61_n + 1)))) : W Bool)))))) (fun ds k h => by obtain ⟨a64, _, rfl, _, rfl, rfl, rfl⟩ := h; exact ⟨((eP eI eI) a64, (eP eI eI) (v61_n, (v61_n + 1))), rfl, rfl⟩))))) (dw_or1 (dt_not (dt_val (dm_sc (n := 0) (dc_call (h__law_same V) (hr.mono (by decide)) (ca_cons (da_fr (n := 1) (dc_call (h_guesses V) (hr.mono (by decide)) (ca_consT (da_fr (n := 0) dm_int) (ca_consT (da_fr (n := 1) (dm_list (dl_consT dm_int (dl_consT dm_int (dl_consT dm_int (dl_nil (g := eI) (n := 0))))))) (ca_nil (M := (Run.lift (f_guesses (2, ([0, 0, 0] : (List Int)))) : W (List (Option Int))))))) (fun ds k h => by obtain ⟨_, rfl, _, rfl, rfl, rfl⟩ := h; exact ⟨(2, ([0, 0, 0] : (List Int))), rfl, rfl⟩))) (fun a65 => (ca_consT (da_fr (n := 1) (dm_list (dl_consT (dm_encP (g' := (eO eI)) (f := some) dm_int rfl) (dl_consT (dm_encP (g' := (eO eI)) (f := some) dm_int rfl) (dl_consT (dm_encP (g' := (eO eI)) (f := some) dm_int rfl) (dl_nil (g := (eO eI)) (n := 0))))))) (ca_nil (M := (Run.lift (f__law_same ((eL (eO eI)) a65, (eL (eO eI)) ([(some 1), (some 1), (some 1)] : (List (Option Int))))) : W Bool)))))) (fun ds k h => by obtain ⟨a65, _, rfl, _, rfl, rfl, rfl⟩ := h; exact ⟨((eL (eO eI)) a65, (eL (eO eI)) ([(some 1), (some 1), (some 1)] : (List (Option Int)))), rfl, rfl⟩)))))))) (ds_ret0 dm_bool) (fun _ _ h => by cases h)
    (ds_ifR0 (dt_not (dt_val (dm_sc (n := 0) (dc_call (h__law_same V) (hr.mono (by decide)) (ca_cons (da_fr (n := 1) (dc_call (h_guesses V) (hr.mono (by decide)) (ca_consT (da_fr (n := 0) dm_int) (ca_consT (da_fr (n := 1) (dm_list (dl_consT dm_int (dl_consT dm_int (dl_consT dm_int (dl_nil (g := eI) (n := 0))))))) (ca_nil (M := (Run.lift (f_guesses (2, ([1, 0, 0] : (List Int)))) : W (List (Option Int))))))) (fun ds k h => by obtain ⟨_, rfl, _, rfl, rfl, rfl⟩ := h; exact ⟨(2, ([1, 0, 0] : (List Int))), rfl, rfl⟩))) (fun a67 => (ca_consT (da_fr (n := 1) (dm_list (dl_consT (dm_encP (g' := (eO eI)) (f := some) dm_int rfl) (dl_consT (dm_encP (g := eN) (g' := (eO eI)) (f := fun _ => none) (x := ()) dm_none rfl) (dl_consT (dm_encP (g := eN) (g' := (eO eI)) (f := fun _ => none) (x := ()) dm_none rfl) (dl_nil (g := (eO eI)) (n := 0))))))) (ca_nil (M := (Run.lift (f__law_same ((eL (eO eI)) a67, (eL (eO eI)) ([(some 1), (none : (Option Int)), (none : (Option Int))] : (List (Option Int))))) : W Bool)))))) (fun ds k h => by obtain ⟨a67, _, rfl, _, rfl, rfl, rfl⟩ := h; exact ⟨((eL (eO eI)) a67, (eL (eO eI)) ([(some 1), (none : (Option Int)), (none : (Option Int))] : (List (Option Int)))), rfl, rfl⟩))))) (ds_ret0 dm_bool) (fun _ _ h => by cases h)
    (ds_ret0 (dc_call (h__law_same V) (hr.mono (by decide)) (ca_cons (da_fr (n := 1) (dm_list (dl_cons (dc_call (h_are_won V) (hr.mono (by decide)) (ca_consT (da_fr (n := 0) dm_int) (ca_consT (da_fr (n := 1) (dm_list (dl_consT dm_int (dl_consT dm_int (dl_consT dm_int (dl_nil (g := eI) (n := 0))))))) (ca_nil (M := (Run.lift (f_are_won (2, ([1, 0, 0] : (List Int)))) : W Bool))))) (fun ds k h => by obtain ⟨_, rfl, _, rfl, rfl, rfl⟩ := h; exact ⟨(2, ([1, 0, 0] : (List Int))), rfl, rfl⟩)) (dl_cons (dc_call (h_are_won V) (hr.mono (by decide)) (ca_consT (da_fr (n := 0) dm_int) (ca_consT (da_fr (n := 1) (dm_list (dl_consT dm_int (dl_consT dm_int (dl_consT dm_int (dl_nil (g := eI) (n := 0))))))) (ca_nil (M := (Run.lift (f_are_won (2, ([1, 1, 1] : (List Int)))) : W Bool))))) (fun ds k h => by obtain ⟨_, rfl, _, rfl, rfl, rfl⟩ := h; exact ⟨(2, ([1, 1, 1] : (List Int))), rfl, rfl⟩)) (dl_nil (g := eB) (n := 0)))))) (fun a73 => (ca_consT (da_fr (n := 1) (dm_list (dl_consT dm_bool (dl_consT dm_bool (dl_nil (g := eB) (n := 0)))))) (ca_nil (M := (Run.lift (f__law_same ((eL eB) a73, (eL eB) ([true, false] : (List Bool)))) : W Bool)))))) (fun ds k h => by obtain ⟨a73, _, rfl, _, rfl, rfl, rfl⟩ := h; exact ⟨((eL eB) a73, (eL eB) ([true, false] : (List Bool))), rfl, rfl⟩)))))))))))))))) rfl) hM
def EV : List (List Int) := (f__law_all_words (2, 7)).getD []
def WS : List (List Int) := (f__law_all_words (2, 3)).getD []
def C2 : List (List Int) := (f__law_checks 2).getD []
def C3 : List (List Int) := (f__law_checks 3).getD []
theorem e_ev : f__law_all_words (2, 7) = some EV := by decide +kernel
theorem e_ws : f__law_all_words (2, 3) = some WS := by decide +kernel
theorem e_c2 : f__law_checks 2 = some C2 := by decide +kernel
theorem e_c3 : f__law_checks 3 = some C3 := by decide +kernel
def LS : List (List Int) := (lcM (fun x21 => f__law_is_lost (C3, x21)) (fun x21 => (pure x21 : Option _)) EV).getD []
theorem e_ls : lcM (fun x21 => f__law_is_lost (C3, x21)) (fun x21 => (pure x21 : Option _)) EV = some LS := by decide +kernel
theorem evl : (EV.length : Int) = 128 := by decide +kernel
theorem lsl : (LS.length : Int) = 16 := by decide +kernel
theorem all3 : (EV.all fun x => f__law_right (3, C3, x) == some true) = true := by decide +kernel
def bent (own : List Int) (at_ : Int) : Option (List Int) := atI own at_ >>= fun y => lcat (lcut own none (some at_)) [1 - y] >>= fun a => lcat a (lcut own (some (at_ + 1)) none)
theorem bents : (LS.all fun o => EV.elem o && (rng 0 7).all fun k => match bent o k with | some b => EV.elem b | none => false) = true := by decide +kernel
theorem right3 {x : List Int} (h : x ∈ EV) : f__law_right (3, C3, x) = some true := by
  have := List.all_eq_true.mp all3 x h
  simpa using this
theorem loop1 : forC (fun (s : Int) x => f__law_right (2, C2, x) >>= fun t => if !t then some (Ct.rt false) else f_are_won (2, x) >>= fun w => some (Ct.nx (s + b2n w) : Ct Int Bool)) 0 WS = some (.nx 6) := by decide +kernel
theorem s1 : f__law_same (eL eD [eI 6, eP eI eI (3, 4)], eL eD [eI 6, eP eI eI (3, 4)]) = some true := by decide +kernel
theorem s2 : f__law_same (eL eD [eI 112, eP eI eI (7, 8)], eL eD [eI 112, eP eI eI (7, 8)]) = some true := by decide +kernel
theorem law_ok : f_law.wp fun r => r = true := by
  simp only [f_law, wp_bind, wp_pure, e_c2, e_ws, e_ev, e_c3, wp_some]
  refine wp_mono (Q := fun z => z = Ct.nx 6) ?_ ?_
  · refine forC_o (g := fun s x => f__law_right (2, C2, x) >>= fun t => if !t then some (Ct.rt false) else f_are_won (2, x) >>= fun w => some (Ct.nx (s + b2n w))) ?_ loop1
    intro s x z h
    cases h1 : f__law_right (2, C2, x) with
    | none => rw [h1] at h; cases h
    | some t =>
      rw [h1] at h
      simp only [wp_bind, wp_some, wp_pure]
      cases t with
      | false => cases h; rfl
      | true =>
        cases h2 : f_are_won (2, x) with
        | none => rw [h2] at h; cases h
        | some w =>
          rw [h2] at h
          cases h
          refine wf ?_
          simp only [wp_bind, wp_some, wp_pure]
  · intro a e
    subst e
    have c1 : f_count_won 2 = some 6 := by decide +kernel
    have c2 : f_best_share 3 = some (3, 4) := by decide +kernel
    have c3 : f_count_won 3 = some 112 := by decide +kernel
    have c4 : f_best_share 7 = some (7, 8) := by decide +kernel
    simp only [Ct.go, wp_bind, wp_pure, c1, c2, wp_some, s1]
    have z1 : ((6 : Int) * 4 != 3 * 8) = false := by decide
    have z2 : ((LS.length : Int) * 8 != (EV.length : Int)) = false := by decide +kernel
    refine wf ?_
    simp only [wp_pure, z1]
    refine wf ?_
    simp only [wp_bind, wp_pure, wp_some]
    refine wp_mono (wlc (t' := fun x21 => f__law_is_lost (C3, x21)) (e' := fun x => pure x) (fun x b h => by rw [h, wp_some]) (fun x b h => by cases h; rfl) e_ls) ?_
    intro a e
    subst e
    have e1 : (EV.length : Int) - (LS.length : Int) = 112 := by decide +kernel
    simp only [wp_bind, wp_pure, c3, c4, wp_some, e1, s2]
    refine wf ?_
    simp only [wp_pure, z2]
    refine wf ?_
    simp only [wp_bind, wp_pure]
    refine wp_mono (forC_u fun x hx => ?_) ?_
    · simp only [wp_bind, wp_pure, evl, lsl]
      refine wp_draw (by decide) (by decide) fun v h0 h1 => ?_
      obtain ⟨hats, e1, m1⟩ := atI_in (xs := EV) h0 (by rw [evl]; exact h1)
      simp only [e1, wp_some]
      refine wp_draw (by decide) (by decide) fun v h0 h1 => ?_
      obtain ⟨own, e1, m2⟩ := atI_in (xs := LS) h0 (by rw [lsl]; exact h1)
      simp only [e1, wp_some]
      refine wp_draw (by decide) (by decide) fun k h0 h1 => ?_
      have hb := List.all_eq_true.mp bents own m2
      rw [Bool.and_eq_true, List.all_eq_true] at hb
      have m3 : own ∈ EV := by simpa using hb.1
      have hb := hb.2 k (in_rng h0 h1)
      cases hk : bent own k with
      | none => rw [hk] at hb; cases hb
      | some b =>
        rw [hk] at hb
        have m4 : b ∈ EV := by simpa using hb
        unfold bent at hk
        cases ha : atI own k with
        | none => rw [ha] at hk; cases hk
        | some y =>
          rw [ha] at hk
          have hk : (lcat (lcut own none (some k)) [1 - y] >>= fun a => lcat a (lcut own (some (k + 1)) none)) = some b := hk
          cases hc : lcat (lcut own none (some k)) [1 - y] with
          | none => rw [hc] at hk; cases hk
          | some c =>
            rw [hc] at hk
            have hk : lcat c (lcut own (some (k + 1)) none) = some b := hk
            simp only [wp_some, hc, hk]
            refine wp_mono (forC_u fun x hx => ?_) ?_
            · have hm : x ∈ EV := by
                simp only [List.mem_cons, List.not_mem_nil, or_false] at hx
                rcases hx with rfl | rfl | rfl
                · exact m1
                · exact m3
                · exact m4
              simp only [wp_bind, wp_pure, right3 hm, wp_some]
              exact wf rfl
            · intro a e
              subst e
              rfl
    · intro a e
      subst e
      simp only [Ct.go, wp_bind, wp_pure]
      refine wp_draw (by decide) (by decide) fun v h0 h1 => ?_
      have c5 : f_best_share (1 + v) = some (1 + v, 1 + v + 1) := rfl
      have c6 : f_guesses (2, [0, 0, 0]) = some [some 1, some 1, some 1] := by decide +kernel
      have c7 : f_guesses (2, [1, 0, 0]) = some [some 1, none, none] := by decide +kernel
      have c8 : f_are_won (2, [1, 0, 0]) = some true := by decide +kernel
      have c9 : f_are_won (2, [1, 1, 1]) = some false := by decide +kernel
      have s3 : f__law_same (eP eI eI (1 + v, 1 + v + 1), eP eI eI (1 + v, 1 + v + 1)) = some true := (same_ok (g := eP eI eI) _ _).trans (by rw [beq_self_eq_true])
      have s4 : f__law_same (eL (eO eI) [some 1, some 1, some 1], eL (eO eI) [some 1, some 1, some 1]) = some true := by decide +kernel
      have s5 : f__law_same (eL (eO eI) [some 1, none, none], eL (eO eI) [some 1, none, none]) = some true := by decide +kernel
      have s6 : f__law_same (eL eB [true, false], eL eB [true, false]) = some true := by decide +kernel
      simp only [c5, wp_some, c6, c7, c8, c9, wp_bind, wp_pure, s3, Bool.not_true]
      refine wf ?_
      simp only [wp_bind, wp_pure, wp_some, s4, Bool.not_true]
      refine wf ?_
      simp only [wp_bind, wp_pure, wp_some, s5, Bool.not_true]
      refine wf ?_
      simp only [wp_bind, wp_pure, wp_some, s6]
theorem all_mk {l : PySem.W.OpenLaw} {w : World} {K : PySem.W.Frag} {h : Heap} {mg : Str → Option Value} {fa f1 f2 f3 f4 f5 f6 f7 f8 f9 f10 f11 f12 f13 f14 f15 : Addr} (X : K.In h) (G : h.Ns mainGlobals mg) (hfa : mg "law" = some (.ref fa))
    {od1 an1 od2 an2 od3 an3 od4 an4 od5 an5 od6 an6 od7 an7 od8 an8 od9 an9 od10 an10 od11 an11 od12 an12 od13 an13 od14 an14 od15 an15 : Option Addr} {sl1 sl2 sl3 sl4 sl5 sl6 sl7 sl8 sl9 sl10 sl11 sl12 sl13 sl14 sl15 : Array (Option Value)} {oc1 kV1 dc1 pm1 cd1 ct1 oc2 kV2 dc2 pm2 cd2 ct2 oc3 kV3 dc3 pm3 cd3 ct3 oc4 kV4 dc4 pm4 cd4 ct4 oc5 kV5 dc5 pm5 cd5 ct5 oc6 kV6 dc6 pm6 cd6 ct6 oc7 kV7 dc7 pm7 cd7 ct7 oc8 kV8 dc8 pm8 cd8 ct8 oc9 kV9 dc9 pm9 cd9 ct9 oc10 kV10 dc10 pm10 cd10 ct10 oc11 kV11 dc11 pm11 cd11 ct11 oc12 kV12 dc12 pm12 cd12 ct12 oc13 kV13 dc13 pm13 cd13 ct13 oc14 kV14 dc14 pm14 cd14 ct14 oc15 kV15 dc15 pm15 cd15 ct15 : Value}
    (a1 : PySem.W.nsIn K mainGlobals "seen_number" = some (some (.ref f1))) (l1 : K.lookup f1 = some ⟨oc1, od1, .func (PySem.W.fnOf "seen_number" "seen_number" (defArgs st_seen_number) (defBody st_seen_number) (defScope st_seen_number) .none kV1 dc1 pm1 an1 cd1 ct1), sl1⟩) (c1 : PySem.W.codeIn K cd1 "seen_number" = true) (k1 : PySem.W.keepIn K (.ref f1) = true)
    (a2 : PySem.W.nsIn K mainGlobals "guess" = some (some (.ref f2))) (l2 : K.lookup f2 = some ⟨oc2, od2, .func (PySem.W.fnOf "guess" "guess" (defArgs st_guess) (defBody st_guess) (defScope st_guess) .none kV2 dc2 pm2 an2 cd2 ct2), sl2⟩) (c2 : PySem.W.codeIn K cd2 "guess" = true) (k2 : PySem.W.keepIn K (.ref f2) = true)
    (a3 : PySem.W.nsIn K mainGlobals "guesses" = some (some (.ref f3))) (l3 : K.lookup f3 = some ⟨oc3, od3, .func (PySem.W.fnOf "guesses" "guesses" (defArgs st_guesses) (defBody st_guesses) (defScope st_guesses) .none kV3 dc3 pm3 an3 cd3 ct3), sl3⟩) (c3 : PySem.W.codeIn K cd3 "guesses" = true) (k3 : PySem.W.keepIn K (.ref f3) = true)
    (a4 : PySem.W.nsIn K mainGlobals "are_won" = some (some (.ref f4))) (l4 : K.lookup f4 = some ⟨oc4, od4, .func (PySem.W.fnOf "are_won" "are_won" (defArgs st_are_won) (defBody st_are_won) (defScope st_are_won) .none kV4 dc4 pm4 an4 cd4 ct4), sl4⟩) (c4 : PySem.W.codeIn K cd4 "are_won" = true) (k4 : PySem.W.keepIn K (.ref f4) = true)
    (a5 : PySem.W.nsIn K mainGlobals "count_won" = some (some (.ref f5))) (l5 : K.lookup f5 = some ⟨oc5, od5, .func (PySem.W.fnOf "count_won" "count_won" (defArgs st_count_won) (defBody st_count_won) (defScope st_count_won) .none kV5 dc5 pm5 an5 cd5 ct5), sl5⟩) (c5 : PySem.W.codeIn K cd5 "count_won" = true) (k5 : PySem.W.keepIn K (.ref f5) = true)
    (a6 : PySem.W.nsIn K mainGlobals "best_share" = some (some (.ref f6))) (l6 : K.lookup f6 = some ⟨oc6, od6, .func (PySem.W.fnOf "best_share" "best_share" (defArgs st_best_share) (defBody st_best_share) (defScope st_best_share) .none kV6 dc6 pm6 an6 cd6 ct6), sl6⟩) (c6 : PySem.W.codeIn K cd6 "best_share" = true) (k6 : PySem.W.keepIn K (.ref f6) = true)
    (a7 : PySem.W.nsIn K mainGlobals "_law_feed" = some (some (.ref f7))) (l7 : K.lookup f7 = some ⟨oc7, od7, .func (PySem.W.fnOf "_law_feed" "_law_feed" (defArgs st__law_feed) (defBody st__law_feed) (defScope st__law_feed) .none kV7 dc7 pm7 an7 cd7 ct7), sl7⟩) (c7 : PySem.W.codeIn K cd7 "_law_feed" = true) (k7 : PySem.W.keepIn K (.ref f7) = true)
    (a8 : PySem.W.nsIn K mainGlobals "_law_draw" = some (some (.ref f8))) (l8 : K.lookup f8 = some ⟨oc8, od8, .func (PySem.W.fnOf "_law_draw" "_law_draw" (defArgs st__law_draw) (defBody st__law_draw) (defScope st__law_draw) .none kV8 dc8 pm8 an8 cd8 ct8), sl8⟩) (c8 : PySem.W.codeIn K cd8 "_law_draw" = true) (k8 : PySem.W.keepIn K (.ref f8) = true)
    (a9 : PySem.W.nsIn K mainGlobals "_law_all_words" = some (some (.ref f9))) (l9 : K.lookup f9 = some ⟨oc9, od9, .func (PySem.W.fnOf "_law_all_words" "_law_all_words" (defArgs st__law_all_words) (defBody st__law_all_words) (defScope st__law_all_words) .none kV9 dc9 pm9 an9 cd9 ct9), sl9⟩) (c9 : PySem.W.codeIn K cd9 "_law_all_words" = true) (k9 : PySem.W.keepIn K (.ref f9) = true)
    (a10 : PySem.W.nsIn K mainGlobals "_law_same" = some (some (.ref f10))) (l10 : K.lookup f10 = some ⟨oc10, od10, .func (PySem.W.fnOf "_law_same" "_law_same" (defArgs st__law_same) (defBody st__law_same) (defScope st__law_same) .none kV10 dc10 pm10 an10 cd10 ct10), sl10⟩) (c10 : PySem.W.codeIn K cd10 "_law_same" = true) (k10 : PySem.W.keepIn K (.ref f10) = true)
    (a11 : PySem.W.nsIn K mainGlobals "_law_checks" = some (some (.ref f11))) (l11 : K.lookup f11 = some ⟨oc11, od11, .func (PySem.W.fnOf "_law_checks" "_law_checks" (defArgs st__law_checks) (defBody st__law_checks) (defScope st__law_checks) .none kV11 dc11 pm11 an11 cd11 ct11), sl11⟩) (c11 : PySem.W.codeIn K cd11 "_law_checks" = true) (k11 : PySem.W.keepIn K (.ref f11) = true)
    (a12 : PySem.W.nsIn K mainGlobals "_law_is_lost" = some (some (.ref f12))) (l12 : K.lookup f12 = some ⟨oc12, od12, .func (PySem.W.fnOf "_law_is_lost" "_law_is_lost" (defArgs st__law_is_lost) (defBody st__law_is_lost) (defScope st__law_is_lost) .none kV12 dc12 pm12 an12 cd12 ct12), sl12⟩) (c12 : PySem.W.codeIn K cd12 "_law_is_lost" = true) (k12 : PySem.W.keepIn K (.ref f12) = true)
    (a13 : PySem.W.nsIn K mainGlobals "_law_said" = some (some (.ref f13))) (l13 : K.lookup f13 = some ⟨oc13, od13, .func (PySem.W.fnOf "_law_said" "_law_said" (defArgs st__law_said) (defBody st__law_said) (defScope st__law_said) .none kV13 dc13 pm13 an13 cd13 ct13), sl13⟩) (c13 : PySem.W.codeIn K cd13 "_law_said" = true) (k13 : PySem.W.keepIn K (.ref f13) = true)
    (a14 : PySem.W.nsIn K mainGlobals "_law_right" = some (some (.ref f14))) (l14 : K.lookup f14 = some ⟨oc14, od14, .func (PySem.W.fnOf "_law_right" "_law_right" (defArgs st__law_right) (defBody st__law_right) (defScope st__law_right) .none kV14 dc14 pm14 an14 cd14 ct14), sl14⟩) (c14 : PySem.W.codeIn K cd14 "_law_right" = true) (k14 : PySem.W.keepIn K (.ref f14) = true)
    (a15 : PySem.W.nsIn K mainGlobals "law" = some (some (.ref f15))) (l15 : K.lookup f15 = some ⟨oc15, od15, .func (PySem.W.fnOf "law" "law" (defArgs st_law) (defBody st_law) (defScope st_law) .none kV15 dc15 pm15 an15 cd15 ct15), sl15⟩) (c15 : PySem.W.codeIn K cd15 "law" = true) (k15 : PySem.W.keepIn K (.ref f15) = true)
    (zabs : PySem.W.nsIn K mainGlobals "abs" = some none) (zall : PySem.W.nsIn K mainGlobals "all" = some none) (zbool : PySem.W.nsIn K mainGlobals "bool" = some none) (zenumerate : PySem.W.nsIn K mainGlobals "enumerate" = some none) (zint : PySem.W.nsIn K mainGlobals "int" = some none) (zisinstance : PySem.W.nsIn K mainGlobals "isinstance" = some none) (zlen : PySem.W.nsIn K mainGlobals "len" = some none) (zlist : PySem.W.nsIn K mainGlobals "list" = some none) (zrange : PySem.W.nsIn K mainGlobals "range" = some none) (zstr : PySem.W.nsIn K mainGlobals "str" = some none) (zsum : PySem.W.nsIn K mainGlobals "sum" = some none) (ztuple : PySem.W.nsIn K mainGlobals "tuple" = some none) (zzip : PySem.W.nsIn K mainGlobals "zip" = some none)
    {tkLOST : Tok} (gLOST : PySem.W.nsIn K mainGlobals "LOST" = some (some (.int 0 tkLOST)))
    : ∃ fd : FuncData, (∀ (s : Shared) (v : Value), BindsTo s fd ⟨[v], []⟩ [("script", v)]) ∧ ∀ base : Heap, K.In base → base.Ns mainGlobals mg → FnOk l.prog w K mg base CX0 9 fa fd ["script"] (spLaw K) := by
  have e := hfa.symm.trans (PySem.W.mg_of X G a15)
  cases e
  have V : Ev K mg := ⟨PySem.W.mg_none_of X G zabs,
    PySem.W.mg_none_of X G zall,
    PySem.W.mg_none_of X G zbool,
    PySem.W.mg_none_of X G zenumerate,
    PySem.W.mg_none_of X G zint,
    PySem.W.mg_none_of X G zisinstance,
    PySem.W.mg_none_of X G zlen,
    PySem.W.mg_none_of X G zlist,
    PySem.W.mg_none_of X G zrange,
    PySem.W.mg_none_of X G zstr,
    PySem.W.mg_none_of X G zsum,
    PySem.W.mg_none_of X G ztuple,
    PySem.W.mg_none_of X G zzip,
    ⟨_, .int 0, PySem.W.mg_of X G gLOST, ⟨_, rfl⟩, fun F => .int _⟩,
    ⟨f1, _, fun_mk l1 c1 k1, PySem.W.mg_of X G a1⟩,
    ⟨f2, _, fun_mk l2 c2 k2, PySem.W.mg_of X G a2⟩,
    ⟨f3, _, fun_mk l3 c3 k3, PySem.W.mg_of X G a3⟩,
    ⟨f4, _, fun_mk l4 c4 k4, PySem.W.mg_of X G a4⟩,
    ⟨f5, _, fun_mk l5 c5 k5, PySem.W.mg_of X G a5⟩,
    ⟨f6, _, fun_mk l6 c6 k6, PySem.W.mg_of X G a6⟩,
    ⟨f7, _, fun_mk l7 c7 k7, PySem.W.mg_of X G a7⟩,
    ⟨f8, _, fun_mk l8 c8 k8, PySem.W.mg_of X G a8⟩,
    ⟨f9, _, fun_mk l9 c9 k9, PySem.W.mg_of X G a9⟩,
    ⟨f10, _, fun_mk l10 c10 k10, PySem.W.mg_of X G a10⟩,
    ⟨f11, _, fun_mk l11 c11 k11, PySem.W.mg_of X G a11⟩,
    ⟨f12, _, fun_mk l12 c12 k12, PySem.W.mg_of X G a12⟩,
    ⟨f13, _, fun_mk l13 c13 k13, PySem.W.mg_of X G a13⟩,
    ⟨f14, _, fun_mk l14 c14 k14, PySem.W.mg_of X G a14⟩⟩
  exact ⟨PySem.W.fnOf "law" "law" (defArgs st_law) (defBody st_law) (defScope st_law) .none kV15 dc15 pm15 an15 cd15 ct15, fun s v => .of_eq rfl, fun base _ _ => h_law V _ _ (fun_mk l15 c15 k15) law_ok⟩
end K37
open PySem PySem.W PyProof.Rows
set_option maxHeartbeats 0 in
theorem PySem.Challenge.cw_twentyfours_k37_whole_hats_and_lost_word_holds : PySem.Challenge.rw_twentyfours_k37_whole_hats_and_lost_word.Holds := by
  w_on; o_law; k_head; (case hw => w_witness2)
  k_fill
  refine L2.walk_of (l := PySem.Challenge.rw_twentyfours_k37_whole_hats_and_lost_word) (n := 63) (k := 9) (x := "script") (CX := fun _ => L2.CX0) (sp := fun w => DL.spLaw _) rfl (by decide) rfl ⟨rfl, by decide, by decide⟩ (fun w h Y => PySem.W.kIn_of Y) ?F (fun _ _ a ns hl _ hS => ⟨a, ns, rfl, hS, hl, fun _ => rfl⟩) (fun _ _ _ _ _ h => h)
  case F =>
    intro w mg fa h KX G hmg
    refine' K37.all_mk KX G hmg ?a1 ?l1 ?c1 ?k1 ?a2 ?l2 ?c2 ?k2 ?a3 ?l3 ?c3 ?k3 ?a4 ?l4 ?c4 ?k4 ?a5 ?l5 ?c5 ?k5 ?a6 ?l6 ?c6 ?k6 ?a7 ?l7 ?c7 ?k7 ?a8 ?l8 ?c8 ?k8 ?a9 ?l9 ?c9 ?k9 ?a10 ?l10 ?c10 ?k10 ?a11 ?l11 ?c11 ?k11 ?a12 ?l12 ?c12 ?k12 ?a13 ?l13 ?c13 ?k13 ?a14 ?l14 ?c14 ?k14 ?a15 ?l15 ?c15 ?k15 ?zabs ?zall ?zbool ?zenumerate ?zint ?zisinstance ?zlen ?zlist ?zrange ?zstr ?zsum ?ztuple ?zzip ?gLOST
    (case a1 => k_is); (case l1 => k_is); (case c1 => k_is); (case k1 => k_is); (case a2 => k_is); (case l2 => k_is); (case c2 => k_is); (case k2 => k_is); (case a3 => k_is); (case l3 => k_is); (case c3 => k_is); (case k3 => k_is); (case a4 => k_is); (case l4 => k_is); (case c4 => k_is); (case k4 => k_is); (case a5 => k_is); (case l5 => k_is); (case c5 => k_is); (case k5 => k_is); (case a6 => k_is); (case l6 => k_is); (case c6 => k_is); (case k6 => k_is); (case a7 => k_is); (case l7 => k_is); (case c7 => k_is); (case k7 => k_is); (case a8 => k_is); (case l8 => k_is); (case c8 => k_is); (case k8 => k_is); (case a9 => k_is); (case l9 => k_is); (case c9 => k_is); (case k9 => k_is); (case a10 => k_is); (case l10 => k_is); (case c10 => k_is); (case k10 => k_is); (case a11 => k_is); (case l11 => k_is); (case c11 => k_is); (case k11 => k_is); (case a12 => k_is); (case l12 => k_is); (case c12 => k_is); (case k12 => k_is); (case a13 => k_is); (case l13 => k_is); (case c13 => k_is); (case k13 => k_is); (case a14 => k_is); (case l14 => k_is); (case c14 => k_is); (case k14 => k_is); (case a15 => k_is); (case l15 => k_is); (case c15 => k_is); (case k15 => k_is); (case zabs => k_is); (case zall => k_is); (case zbool => k_is); (case zenumerate => k_is); (case zint => k_is); (case zisinstance => k_is); (case zlen => k_is); (case zlist => k_is); (case zrange => k_is); (case zstr => k_is); (case zsum => k_is); (case ztuple => k_is); (case zzip => k_is); (case gLOST => k_is)
