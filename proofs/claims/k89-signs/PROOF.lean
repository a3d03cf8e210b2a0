import PyProof.Rows.All
import Wide.All
import OpenK.AllK
import Wide.FinOn
import KE.DataEq
import HandS.ForMost
import HandS.Style
import HandS.SortInts
import HandS.Conv
import HandS.SetFor
import HandS.IsInst
import KE.SortData
import HandS.Dict
import HandS.Small
import HandS.Text
import HandS.Replace
import HandS.SortKw
import HandS.Gcd
import KE.KMathGC
import HandS.Zip
import KE.GoesMore
import HandS.Flow
import KE.DataFind
import KE.KIndexOf
import HandS.TryOnly
import HandS.Codes
import KE.DataMinMax
import HandS.Wide
import HandS.SetBool
import HandS.Strs
import KE.BitLaws
import PySem.Challenge.RW_twentyfours_k89_whole_squares_of_signs
set_option Elab.async false
set_option linter.all false
set_option maxRecDepth 100000
set_option maxHeartbeats 4000000
set_option autoImplicit false
namespace DL
open PySem PySem.Spec PyProof.Rows L2
abbrev D := PyData
abbrev Cell := Addr × HO
/-! ### computations -/
class Run (m : Type → Type) extends Monad m where
  run : {α : Type} → m α → (α → Prop) → Prop
  run_pure : ∀ {α : Type} (a : α) (Q : α → Prop), run (pure a) Q → Q a
  run_pure' : ∀ {α : Type} (a : α) (Q : α → Prop), Q a → run (pure a) Q
  run_bind : ∀ {α β : Type} (x : m α) (f : α → m β) (Q : β → Prop), run (x >>= f) Q → run x (fun a => run (f a) Q)
  run_mono : ∀ {α : Type} (x : m α) (Q Q' : α → Prop), (∀ a, Q a → Q' a) → run x Q → run x Q'
  pure_b : ∀ {α β : Type} (a : α) (f : α → m β), (pure a >>= f) = f a
  lift : {α : Type} → Option α → m α
  run_lift : ∀ {α : Type} (o : Option α) (Q : α → Prop), run (lift o) Q → ∃ a, o = some a ∧ Q a
instance : Run Option where
  run := fun o Q => ∃ a, o = some a ∧ Q a
  run_pure := fun a Q h => by
    obtain ⟨b, e, q⟩ := h
    cases e
    exact q
  run_pure' := fun a Q h => ⟨a, rfl, h⟩
  run_bind := fun x f Q h => by
    cases x with
    | none =>
      obtain ⟨b, e, q⟩ := h
      cases e
    | some a => exact ⟨a, rfl, h⟩
  run_mono := fun x Q Q' k h => by
    obtain ⟨b, e, q⟩ := h
    exact ⟨b, e, k b q⟩
  pure_b := fun _ _ => rfl
  lift := fun o => o
  run_lift := fun _ _ h => h
/-- what holds whatever is drawn -/
structure W (α : Type) where
  wp : (α → Prop) → Prop
  mono : ∀ (Q Q' : α → Prop), (∀ a, Q a → Q' a) → wp Q → wp Q'
instance : Monad W where
  pure := fun a => ⟨fun Q => Q a, fun _ _ k h => k a h⟩
  bind := fun x f => ⟨fun Q => x.wp fun a => (f a).wp Q, fun _ _ k h => x.mono _ _ (fun a q => (f a).mono _ _ k q) h⟩
def up {α : Type} (o : Option α) : W α := ⟨fun Q => ∃ a, o = some a ∧ Q a, fun _ _ k ⟨a, e, q⟩ => ⟨a, e, k a q⟩⟩
instance : Run W where
  run := fun x Q => x.wp Q
  run_pure := fun _ _ h => h
  run_pure' := fun _ _ h => h
  run_bind := fun _ _ _ h => h
  run_mono := fun x Q Q' k h => x.mono Q Q' k h
  pure_b := fun _ _ => rfl
  lift := up
  run_lift := fun _ _ h => h
theorem rpure {m : Type → Type} [Run m] {α : Type} {a : α} {Q : α → Prop} (q : Run.run (pure a : m α) Q) : Q a := Run.run_pure a Q q
theorem rpure' {m : Type → Type} [Run m] {α : Type} {a : α} {Q : α → Prop} (q : Q a) : Run.run (pure a : m α) Q := Run.run_pure' a Q q
theorem rbind {m : Type → Type} [Run m] {α β : Type} {x : m α} {f : α → m β} {Q : β → Prop} (q : Run.run (x >>= f) Q) : Run.run x fun a => Run.run (f a) Q := Run.run_bind x f Q q
theorem rmono {m : Type → Type} [Run m] {α : Type} {x : m α} {Q Q' : α → Prop} (q : Run.run x Q) (k : ∀ a, Q a → Q' a) : Run.run x Q' := Run.run_mono x Q Q' k q
theorem rlift {m : Type → Type} [Run m] {α : Type} {o : Option α} {Q : α → Prop} (q : Run.run (Run.lift o : m α) Q) : ∃ a, o = some a ∧ Q a := Run.run_lift o Q q
/-- a number drawn: any from 0 to m less 1 -/
def drawW (m : Int) : W Int := ⟨fun Q => (0 < m ∧ m < 1073741824) ∧ ∀ v, 0 ≤ v → v < m → Q v, fun _ _ k h => ⟨h.1, fun v a b => k v (h.2 v a b)⟩⟩
/-! ### what stands for data -/
def Sub (F H : Hp) : Prop := ∀ a o, F a = some o → H a = some o
theorem Sub.refl (F : Hp) : Sub F F := fun _ _ h => h
theorem Sub.trans {F G H : Hp} (h : Sub F G) (k : Sub G H) : Sub F H := fun a o e => k a o (h a o e)
theorem Sub.none {F H : Hp} (h : Sub F H) {a : Addr} (e : H a = none) : F a = none := by
  cases q : F a with
  | none => rfl
  | some o => rw [h a o q] at e; cases e
/-- without the feed -/
def hid (fd : Option Addr) (H : Hp) : Hp := fun a => if fd = some a then none else H a
theorem hid_sub {fd : Option Addr} {H : Hp} : Sub (hid fd H) H := fun a o e => by
  unfold hid at e
  split at e
  · cases e
  · exact e
theorem hid_ne {fd : Option Addr} {H : Hp} {a : Addr} (h : fd ≠ some a) : hid fd H a = H a := by unfold hid; rw [if_neg h]
theorem hid_none (H : Hp) : hid none H = H := by funext a; unfold hid; simp
theorem hid_eq {φ : Addr} {H : Hp} : hid (some φ) H φ = none := by unfold hid; simp
def kD : Key → D
  | .inl i => .int i
  | .inr x => .str x
mutual
inductive Rp (K : PySem.W.Frag) (F : Hp) : V → D → Prop
  | non : Rp K F .non .none
  | bl (b : Bool) : Rp K F (.bl b) (.bool b)
  | int (i : Int) : Rp K F (.int i) (.int i)
  | str (x : Str) : Rp K F (.str x) (.str x)
  | lst {a : Addr} {xs : List V} {ds : List D} : F a = some (.lst xs) → RpAll K F xs ds → ds.length ≤ sizeLine → Rp K F (.ref a) (.list ds)
  | tup {a : Addr} {xs : List V} {ds : List D} : SqT K F a xs → RpAll K F xs ds → ds.length ≤ sizeLine → Rp K F (.ref a) (.tuple ds)
  | dic {a : Addr} {kvs : List (Key × V)} {ds : List (D × D)} : Rd F a (.dK kvs) → RpKV K F kvs ds → Rp K F (.ref a) (.dict ds)
  | lck {a : Addr} {o : Obj} {kvs : List (Key × V)} {ds : List (D × D)} : F a = some (.frz o (.dK kvs)) → RpKV K F kvs ds → ds.length ≤ sizeLine → Rp K F (.ref a) (.dict ((.none, .none) :: ds))
inductive RpAll (K : PySem.W.Frag) (F : Hp) : List V → List D → Prop
  | nil : RpAll K F [] []
  | cons {v : V} {vs : List V} {d : D} {ds : List D} : Rp K F v d → RpAll K F vs ds → RpAll K F (v :: vs) (d :: ds)
inductive RpKV (K : PySem.W.Frag) (F : Hp) : List (Key × V) → List (D × D) → Prop
  | nil : RpKV K F [] []
  | cons {k : Key} {v : V} {vs : List (Key × V)} {d : D} {ds : List (D × D)} : Rp K F v d → RpKV K F vs ds → RpKV K F ((k, v) :: vs) ((kD k, d) :: ds)
end
section
variable {K : PySem.W.Frag} {F F' G : Hp}
theorem Sub.rd (h : Sub F F') {a : Addr} {u : HO} (r : Rd F a u) : Rd F' a u := by
  rcases r with r | ⟨o, r⟩
  · exact .inl (h _ _ r)
  · exact .inr ⟨o, h _ _ r⟩
theorem Sub.sql (h : Sub F F') {a : Addr} {xs : List V} (r : SqL K F a xs) : SqL K F' a xs := by
  rcases r with r | r
  · exact .inl (h.rd r)
  · exact .inr r
theorem Sub.sqt (h : Sub F F') {a : Addr} {xs : List V} (r : SqT K F a xs) : SqT K F' a xs := by
  rcases r with r | r
  · exact .inl (h.rd r)
  · exact .inr r
theorem Rp.mono {v : V} {d : D} (h : Sub F F') (r : Rp K F v d) : Rp K F' v d :=
  Rp.rec (motive_1 := fun v d _ => Rp K F' v d) (motive_2 := fun vs ds _ => RpAll K F' vs ds) (motive_3 := fun vs ds _ => RpKV K F' vs ds)
    .non .bl .int .str (fun a _ z q => .lst (h _ _ a) q z) (fun a _ z q => .tup (h.sqt a) q z) (fun a _ q => .dic (h.rd a) q) (fun a _ z q => .lck (h _ _ a) q z) .nil (fun _ _ a b => .cons a b) .nil (fun _ _ a b => .cons a b) r
theorem RpAll.mono {v : List V} {d : List D} (h : Sub F F') (r : RpAll K F v d) : RpAll K F' v d :=
  RpAll.rec (motive_1 := fun v d _ => Rp K F' v d) (motive_2 := fun vs ds _ => RpAll K F' vs ds) (motive_3 := fun vs ds _ => RpKV K F' vs ds)
    .non .bl .int .str (fun a _ z q => .lst (h _ _ a) q z) (fun a _ z q => .tup (h.sqt a) q z) (fun a _ q => .dic (h.rd a) q) (fun a _ z q => .lck (h _ _ a) q z) .nil (fun _ _ a b => .cons a b) .nil (fun _ _ a b => .cons a b) r
theorem RpKV.mono {v : List (Key × V)} {d : List (D × D)} (h : Sub F F') (r : RpKV K F v d) : RpKV K F' v d :=
  RpKV.rec (motive_1 := fun v d _ => Rp K F' v d) (motive_2 := fun vs ds _ => RpAll K F' vs ds) (motive_3 := fun vs ds _ => RpKV K F' vs ds)
    .non .bl .int .str (fun a _ z q => .lst (h _ _ a) q z) (fun a _ z q => .tup (h.sqt a) q z) (fun a _ q => .dic (h.rd a) q) (fun a _ z q => .lck (h _ _ a) q z) .nil (fun _ _ a b => .cons a b) .nil (fun _ _ a b => .cons a b) r
theorem RpAll.length {vs : List V} {ds : List D} (h : RpAll K F vs ds) : vs.length = ds.length := by
  induction ds generalizing vs with
  | nil => cases h; rfl
  | cons d ds ih =>
    cases h with
    | cons _ t => rw [List.length_cons, List.length_cons, ih t]
theorem RpAll.get {vs : List V} {ds : List D} (h : RpAll K F vs ds) {i : Nat} {d : D} (e : ds[i]? = some d) : ∃ v, vs[i]? = some v ∧ Rp K F v d := by
  induction ds generalizing vs i with
  | nil => simp at e
  | cons x ds ih =>
    cases h with
    | cons a t =>
      cases i with
      | zero => simp at e; subst e; exact ⟨_, rfl, a⟩
      | succ i => obtain ⟨v, e1, e2⟩ := ih t (by simpa using e); exact ⟨v, by simpa using e1, e2⟩
theorem RpAll.getV {vs : List V} {ds : List D} (h : RpAll K F vs ds) {i : Nat} {v : V} (e : vs[i]? = some v) : ∃ d, ds[i]? = some d ∧ Rp K F v d := by
  induction ds generalizing vs i with
  | nil => cases h; simp at e
  | cons x ds ih =>
    cases h with
    | cons a t =>
      cases i with
      | zero => simp at e; subst e; exact ⟨_, rfl, a⟩
      | succ i => obtain ⟨d, e1, e2⟩ := ih t (by simpa using e); exact ⟨d, by simpa using e1, e2⟩
theorem RpAll.append {vs ws : List V} {ds es : List D} (h : RpAll K F vs ds) (k : RpAll K F ws es) : RpAll K F (vs ++ ws) (ds ++ es) := by
  induction ds generalizing vs with
  | nil => cases h; exact k
  | cons x ds ih =>
    cases h with
    | cons a t => exact .cons a (ih t)
theorem RpAll.one {v : V} {d : D} (h : Rp K F v d) : RpAll K F [v] [d] := .cons h .nil
theorem RpAll.set {vs : List V} {ds : List D} {v : V} {d : D} (h : RpAll K F vs ds) (k : Rp K F v d) (i : Nat) : RpAll K F (vs.set i v) (ds.set i d) := by
  induction ds generalizing vs i with
  | nil => cases h; exact .nil
  | cons x ds ih =>
    cases h with
    | cons a t =>
      cases i with
      | zero => exact .cons k t
      | succ i => exact .cons a (ih t i)
theorem RpAll.take {vs : List V} {ds : List D} (h : RpAll K F vs ds) (n : Nat) : RpAll K F (vs.take n) (ds.take n) := by
  induction ds generalizing vs n with
  | nil => cases h; simp; exact .nil
  | cons x ds ih =>
    cases h with
    | cons a t =>
      cases n with
      | zero => exact .nil
      | succ n => exact .cons a (ih t n)
theorem RpAll.drop {vs : List V} {ds : List D} (h : RpAll K F vs ds) (n : Nat) : RpAll K F (vs.drop n) (ds.drop n) := by
  induction ds generalizing vs n with
  | nil => cases h; simp; exact .nil
  | cons x ds ih =>
    cases h with
    | cons a t =>
      cases n with
      | zero => exact .cons a t
      | succ n => exact ih t n
theorem RpAll.reverse {vs : List V} {ds : List D} (h : RpAll K F vs ds) : RpAll K F vs.reverse ds.reverse := by
  induction ds generalizing vs with
  | nil => cases h; exact .nil
  | cons x ds ih =>
    cases h with
    | cons a t => rw [List.reverse_cons, List.reverse_cons]; exact (ih t).append (.one a)
theorem RpAll.eraseIdx {vs : List V} {ds : List D} (h : RpAll K F vs ds) (i : Nat) : RpAll K F (vs.eraseIdx i) (ds.eraseIdx i) := by
  induction ds generalizing vs i with
  | nil => cases h; exact .nil
  | cons x ds ih =>
    cases h with
    | cons a t =>
      cases i with
      | zero => exact t
      | succ i => exact .cons a (ih t i)
theorem RpAll.ints {vs : List V} {ns : List Int} (h : RpAll K F vs (ns.map PyData.int)) : vs = ns.map V.int := by
  induction ns generalizing vs with
  | nil => cases h; rfl
  | cons x ns ih =>
    cases h with
    | cons a t => cases a; rw [ih t]; rfl
theorem RpAll.bools {vs : List V} {ns : List Bool} (h : RpAll K F vs (ns.map PyData.bool)) : vs = ns.map V.bl := by
  induction ns generalizing vs with
  | nil => cases h; rfl
  | cons x ns ih =>
    cases h with
    | cons a t => cases a; rw [ih t]; rfl
theorem RpAll.strs {vs : List V} {ns : List Str} (h : RpAll K F vs (ns.map PyData.str)) : vs = ns.map V.str := by
  induction ns generalizing vs with
  | nil => cases h; rfl
  | cons x ns ih =>
    cases h with
    | cons a t => cases a; rw [ih t]; rfl
theorem RpAll.ofInts (ns : List Int) : RpAll K F (ns.map V.int) (ns.map PyData.int) := by
  induction ns with
  | nil => exact .nil
  | cons x ns ih => exact .cons (.int x) ih
theorem RpAll.ofStrs (ns : List Str) : RpAll K F (ns.map V.str) (ns.map PyData.str) := by
  induction ns with
  | nil => exact .nil
  | cons x ns ih => exact .cons (.str x) ih
end
/-! ### what is ours to change -/
def scalD : D → Bool
  | .none | .bool _ | .int _ | .str _ => true
  | _ => false
theorem Rp.scal {K : PySem.W.Frag} {F G : Hp} {v : V} {d : D} (h : scalD d = true) (r : Rp K F v d) : Rp K G v d := by
  cases r with
  | non => exact .non
  | bl b => exact .bl b
  | int b => exact .int b
  | str b => exact .str b
  | lst => cases h
  | tup => cases h
  | dic => cases h
  | lck => cases h
theorem RpAll.scal' {K : PySem.W.Frag} {G F : Hp} : ∀ {ds : List D} {vs : List V}, (∀ d ∈ ds, scalD d = true) → RpAll K G vs ds → RpAll K F vs ds
  | [], _, _, h => by cases h; exact .nil
  | d :: ds, _, k, h => by
    cases h with
    | cons a t => exact .cons (a.scal (k d (by simp))) (RpAll.scal' (fun x hx => k x (by simp [hx])) t)
mutual
inductive Own (K : PySem.W.Frag) (F : Hp) : Nat → V → D → List Cell → Prop
  | z {v : V} {d : D} : Rp K F v d → Own K F 0 v d []
  | s {n : Nat} {v : V} {d : D} : scalD d = true → Rp K F v d → Own K F (n + 1) v d []
  | lst {n : Nat} {p : Addr} {vs : List V} {ds : List D} {C : List Cell} : OwnAll K F n vs ds C → ds.length ≤ sizeLine → Own K F (n + 1) (.ref p) (.list ds) ((p, .lst vs) :: C)
  | tup {n : Nat} {p : Addr} {vs : List V} {ds : List D} {C : List Cell} : OwnAll K F n vs ds C → ds.length ≤ sizeLine → Own K F (n + 1) (.ref p) (.tuple ds) ((p, .tup vs) :: C)
  | dic {n : Nat} {p : Addr} {vs : List (Key × V)} {ds : List (D × D)} : RpKV K F vs ds → Own K F (n + 1) (.ref p) (.dict ds) [(p, .dK vs)]
inductive OwnAll (K : PySem.W.Frag) (F : Hp) : Nat → List V → List D → List Cell → Prop
  | nil {n : Nat} : OwnAll K F n [] [] []
  | cons {n : Nat} {v : V} {vs : List V} {d : D} {ds : List D} {C1 C2 : List Cell} : Own K F n v d C1 → OwnAll K F n vs ds C2 → OwnAll K F n (v :: vs) (d :: ds) (C1 ++ C2)
end
section
variable {K : PySem.W.Frag} {F F' G H : Hp}
theorem Own.mono {n : Nat} {v : V} {d : D} {C : List Cell} (h : Sub F F') (r : Own K F n v d C) : Own K F' n v d C :=
  Own.rec (motive_1 := fun n v d C _ => Own K F' n v d C) (motive_2 := fun n vs ds C _ => OwnAll K F' n vs ds C)
    (fun a => .z (a.mono h)) (fun a b => .s a (b.mono h)) (fun _ z q => .lst q z) (fun _ z q => .tup q z) (fun q => .dic (q.mono h)) .nil (fun _ _ a b => .cons a b) r
theorem OwnAll.mono {n : Nat} {v : List V} {d : List D} {C : List Cell} (h : Sub F F') (r : OwnAll K F n v d C) : OwnAll K F' n v d C :=
  OwnAll.rec (motive_1 := fun n v d C _ => Own K F' n v d C) (motive_2 := fun n vs ds C _ => OwnAll K F' n vs ds C)
    (fun a => .z (a.mono h)) (fun a b => .s a (b.mono h)) (fun _ z q => .lst q z) (fun _ z q => .tup q z) (fun q => .dic (q.mono h)) .nil (fun _ _ a b => .cons a b) r
/-- what is ours, read where it stands -/
theorem Own.rp {n : Nat} {v : V} {d : D} {C : List Cell} (h : Sub F G) (r : Own K F n v d C) : (∀ c ∈ C, G c.1 = some c.2) → Rp K G v d :=
  Own.rec (motive_1 := fun n v d C _ => (∀ c ∈ C, G c.1 = some c.2) → Rp K G v d) (motive_2 := fun n vs ds C _ => (∀ c ∈ C, G c.1 = some c.2) → RpAll K G vs ds)
    (fun a _ => a.mono h) (fun a b _ => b.mono h) (fun _ z q k => .lst (k _ (List.mem_cons_self)) (q fun c hc => k c (List.mem_cons_of_mem _ hc)) z)
    (fun _ z q k => .tup (.inl (.inl (k _ (List.mem_cons_self)))) (q fun c hc => k c (List.mem_cons_of_mem _ hc)) z)
    (fun q k => .dic (.inl (k _ (List.mem_cons_self))) (q.mono h)) (fun _ => .nil)
    (fun _ _ a b k => .cons (a fun c hc => k c (List.mem_append_left _ hc)) (b fun c hc => k c (List.mem_append_right _ hc))) r
theorem OwnAll.rp {n : Nat} {v : List V} {d : List D} {C : List Cell} (h : Sub F G) (r : OwnAll K F n v d C) : (∀ c ∈ C, G c.1 = some c.2) → RpAll K G v d :=
  OwnAll.rec (motive_1 := fun n v d C _ => (∀ c ∈ C, G c.1 = some c.2) → Rp K G v d) (motive_2 := fun n vs ds C _ => (∀ c ∈ C, G c.1 = some c.2) → RpAll K G vs ds)
    (fun a _ => a.mono h) (fun a b _ => b.mono h) (fun _ z q k => .lst (k _ (List.mem_cons_self)) (q fun c hc => k c (List.mem_cons_of_mem _ hc)) z)
    (fun _ z q k => .tup (.inl (.inl (k _ (List.mem_cons_self)))) (q fun c hc => k c (List.mem_cons_of_mem _ hc)) z)
    (fun q k => .dic (.inl (k _ (List.mem_cons_self))) (q.mono h)) (fun _ => .nil)
    (fun _ _ a b k => .cons (a fun c hc => k c (List.mem_append_left _ hc)) (b fun c hc => k c (List.mem_append_right _ hc))) r
theorem Own.sc {n : Nat} {v : V} {d : D} (h : scalD d = true) (r : Rp K F v d) : Own K F n v d [] := by
  cases n with
  | zero => exact .z r
  | succ n => exact .s h r
theorem OwnAll.zero {vs : List V} {ds : List D} (r : RpAll K F vs ds) : OwnAll K F 0 vs ds [] := by
  induction ds generalizing vs with
  | nil => cases r; exact .nil
  | cons d ds ih =>
    cases r with
    | cons a t => exact .cons (C1 := []) (.z a) (ih t)
theorem OwnAll.zero' {vs : List V} {ds : List D} {C : List Cell} (r : OwnAll K F 0 vs ds C) : RpAll K F vs ds ∧ C = [] := by
  induction ds generalizing vs C with
  | nil => cases r; exact ⟨.nil, rfl⟩
  | cons d ds ih =>
    cases r with
    | cons a t =>
      obtain ⟨h1, h2⟩ := ih t
      cases a with
      | z a => subst h2; exact ⟨.cons a h1, rfl⟩
theorem OwnAll.append {n : Nat} {vs ws : List V} {ds es : List D} {C C' : List Cell} (h : OwnAll K F n vs ds C) (k : OwnAll K F n ws es C') : OwnAll K F n (vs ++ ws) (ds ++ es) (C ++ C') := by
  induction ds generalizing vs C with
  | nil => cases h; exact k
  | cons x ds ih =>
    cases h with
    | cons a t => rw [List.append_assoc]; exact .cons a (ih t)
theorem OwnAll.length {n : Nat} {vs : List V} {ds : List D} {C : List Cell} (h : OwnAll K F n vs ds C) : vs.length = ds.length := by
  induction ds generalizing vs C with
  | nil => cases h; rfl
  | cons d ds ih =>
    cases h with
    | cons _ t => rw [List.length_cons, List.length_cons, ih t]
end
end DL
namespace DL
open PySem PySem.Spec PyProof.Rows L2
/-- the feed: the script's copy, how far it is read, what is left of a great cell, the state -/
def FeedOk (K : PySem.W.Frag) (fd : Option Addr) (F H : Hp) : Prop :=
  ∀ φ, fd = some φ → F φ = none ∧ ∃ (l : Addr) (ns : List Int) (i c s : Int), H φ = some (.lst [.ref l, .int i, .int c, .int s]) ∧ SqL K F l (ns.map V.int) ∧ ns.length ≤ 63 ∧
    0 ≤ i ∧ i ≤ ns.length ∧ 0 ≤ c ∧ 0 ≤ s ∧ s < 2147483647
structure Step (K : PySem.W.Frag) (fd : Option Addr) (F H F' H' : Hp) : Prop where
  ff : Sub F F'
  hh : Sub (hid fd H) (hid fd H')
  fh : Sub F' (hid fd H')
  st : ∀ p, H p ≠ none → F p = none → F' p = none
  fe : FeedOk K fd F' H'
section
variable {K : PySem.W.Frag} {fd : Option Addr} {F H F' H' F2 H2 : Hp}
theorem Step.refl (fh : Sub F (hid fd H)) (fe : FeedOk K fd F H) : Step K fd F H F H := ⟨Sub.refl _, Sub.refl _, fh, fun _ _ h => h, fe⟩
/-- what was there is there -/
theorem Step.there (S : Step K fd F H F' H') (fe : FeedOk K fd F H) {p : Addr} (h : H p ≠ none) : H' p ≠ none := by
  intro e
  by_cases hp : fd = some p
  · obtain ⟨_, l, ns, i, c, s, q, _⟩ := S.fe p hp
    rw [q] at e; cases e
  · cases q : H p with
    | none => exact h q
    | some o =>
      have := S.hh p o (by rw [hid_ne hp]; exact q)
      rw [hid_ne hp, e] at this; cases this
theorem Step.fresh (S : Step K fd F H F' H') (fe : FeedOk K fd F H) {p : Addr} (h : H' p = none) : H p = none := by
  cases q : H p with
  | none => rfl
  | some o => exact absurd h (S.there fe (by rw [q]; simp))
theorem Step.trans (fe : FeedOk K fd F H) (a : Step K fd F H F' H') (b : Step K fd F' H' F2 H2) : Step K fd F H F2 H2 :=
  ⟨a.ff.trans b.ff, a.hh.trans b.hh, b.fh, fun p h n => b.st p (a.there fe h) (a.st p h n), b.fe⟩
theorem FeedOk.mono (h : FeedOk K fd F H) (ff : Sub F F') (k : ∀ φ, fd = some φ → F' φ = none) (hh : ∀ φ, fd = some φ → H' φ = H φ) : FeedOk K fd F' H' := fun φ e => by
  obtain ⟨_, l, ns, i, c, s, q, r⟩ := h φ e
  exact ⟨k φ e, l, ns, i, c, s, (hh φ e).trans q, ff.sql r.1, r.2⟩
theorem FeedOk.some (h : FeedOk K fd F H) {φ : Addr} (e : fd = some φ) : ∃ o, H φ = some o := by
  obtain ⟨_, l, ns, i, c, s, q, _⟩ := h φ e
  exact ⟨_, q⟩
/-- a new object, nobody's -/
theorem Step.alloc {p : Addr} {o : HO} (fh : Sub F (hid fd H)) (fe : FeedOk K fd F H) (n : H p = none) : Step K fd F H F (upd H p o) := by
  have hp : fd ≠ Option.some p := fun e => by
    obtain ⟨o, q⟩ := fe.some e
    rw [n] at q; cases q
  have hh : Sub (hid fd H) (hid fd (upd H p o)) := fun a u e => by
    by_cases ha : fd = Option.some a
    · unfold hid at e; rw [if_pos ha] at e; cases e
    · rw [hid_ne ha] at e ⊢
      rw [upd_ne (ne_of_none e n)]; exact e
  refine ⟨Sub.refl _, hh, fh.trans hh, fun _ _ h => h, fe.mono (Sub.refl _) (fun φ e => (fe φ e).1) fun φ e => ?_⟩
  obtain ⟨u, q⟩ := fe.some e
  exact upd_ne (ne_of_none q n)
/-- a new object that stays -/
theorem Step.allocF {p : Addr} {o : HO} (fh : Sub F (hid fd H)) (fe : FeedOk K fd F H) (n : H p = none) : Step K fd F H (upd F p o) (upd H p o) := by
  have A := Step.alloc (o := o) fh fe n
  have hp : fd ≠ Option.some p := fun e => by
    obtain ⟨o, q⟩ := fe.some e
    rw [n] at q; cases q
  have nF : F p = none := (fh.trans hid_sub).none n
  have ff : Sub F (upd F p o) := fun a u e => by rw [upd_ne (ne_of_none e nF)]; exact e
  refine ⟨ff, A.hh, fun a u e => ?_, fun q h e => ?_, A.fe.mono ff (fun φ e => ?_) fun _ _ => rfl⟩
  · by_cases ha : a = p
    · subst ha; rw [upd_same] at e; rw [hid_ne hp, upd_same]; exact e
    · rw [upd_ne ha] at e; exact A.fh a u e
  · rw [upd_ne (fun z => h (by rw [z]; exact n))]; exact e
  · rw [upd_ne (fun z => hp (by rw [e, z]))]; exact (fe φ e).1
end
/-- new cells that hold -/
def Holds (C : List Cell) (F' H' H : Hp) : Prop := (C.map (·.1)).Nodup ∧ ∀ c ∈ C, H' c.1 = some c.2 ∧ F' c.1 = none ∧ H c.1 = none
theorem Holds.nil {F' H' H : Hp} : Holds [] F' H' H := ⟨List.nodup_nil, fun _ h => nomatch h⟩
inductive Md where
  /-- to be looked at -/
  | pk
  /-- new to depth n; 0: it stays -/
  | ow (n : Nat)
def Post (K : PySem.W.Frag) (fd : Option Addr) (md : Md) (F H : Hp) (d : D) (Q : VK) : Prop := match md with
  | .pk => ∀ v F' H', Step K fd F H F' H' → Rp K (hid fd H') v d → Q v H'
  | .ow n => ∀ v F' H' C, Step K fd F H F' H' → Own K F' n v d C → Holds C F' H' H → Q v H'
section
variable {K : PySem.W.Frag} {fd : Option Addr} {F H F' H' F2 H2 : Hp} {md : Md} {d : D} {Q Q' : VK}
theorem Post.back (fe : FeedOk K fd F H) (S : Step K fd F H F' H') (h : Post K fd md F H d Q) : Post K fd md F' H' d Q := by
  cases md with
  | pk => exact fun v F2 H2 S2 r => h v F2 H2 (S.trans fe S2) r
  | ow n => exact fun v F2 H2 C S2 r k => h v F2 H2 C (S.trans fe S2) r ⟨k.1, fun c hc => ⟨(k.2 c hc).1, (k.2 c hc).2.1, S.fresh fe (k.2 c hc).2.2⟩⟩
theorem Post.imp (h : Post K fd md F H d Q) (k : ∀ v H', Q v H' → Q' v H') : Post K fd md F H d Q' := by
  cases md with
  | pk => exact fun v F2 H2 S2 r => k _ _ (h v F2 H2 S2 r)
  | ow n => exact fun v F2 H2 C S2 r c => k _ _ (h v F2 H2 C S2 r c)
/-- a scalar, the heap as it is -/
theorem Post.sc {v : V} (fh : Sub F (hid fd H)) (fe : FeedOk K fd F H) (h : Post K fd md F H d Q) (hs : scalD d = true) (r : Rp K F v d) : Q v H := by
  cases md with
  | pk => exact h v F H (.refl fh fe) (r.mono fh)
  | ow n => exact h v F H [] (.refl fh fe) (Own.sc hs r) .nil
/-- what stays is handed on -/
theorem Post.fr {v : V} (S : Step K fd F H F' H') (h : Post K fd (.ow 0) F H d Q) (r : Rp K F' v d) : Q v H' := h v F' H' [] S (.z r) .nil
end
/-! ### the state -/
structure Bs where
  B : Hp
  F0 : Hp
  fd : Option Addr
inductive Sl where
  | v (d : D) | o (n : Nat) (d : D) | feed | rg (lo hi : Int) | at (p : Addr)
abbrev Sls := List (Option Sl)
def SlOk (K : PySem.W.Frag) (F : Hp) (fd : Option Addr) (x : Option (Option V)) (C : List Cell) : Sl → Prop
  | .v d => ∃ v, x = some (some v) ∧ Rp K F v d
  | .o n d => ∃ v, x = some (some v) ∧ Own K F n v d C
  | .feed => ∃ φ, x = some (some (.ref φ)) ∧ fd = some φ
  | .rg lo hi => ∃ p, x = some (some (.ref p)) ∧ F p = some (.rng lo hi)
  | .at p => x = some (some (.ref p))
structure Rel (K : PySem.W.Frag) (b : Bs) (sl : Sls) (F H : Hp) (σ : L2.St) : Prop where
  len : σ.length = sl.length
  sub : Sub F (hid b.fd H)
  base : Sub (hid b.fd b.B) (hid b.fd H)
  fro : ∀ p, b.B p ≠ none → b.F0 p = none → F p = none
  f0 : Sub b.F0 F
  fe : FeedOk K b.fd F H
  fb : ∀ φ, b.fd = some φ → b.B φ ≠ none ∧ b.F0 φ = none
  slots : ∃ Cs : Nat → List Cell, (∀ i s, sl[i]? = some (some s) → SlOk K F b.fd σ[i]? (Cs i) s) ∧
    (∀ i, ((Cs i).map (·.1)).Nodup ∧ ∀ c ∈ Cs i, H c.1 = some c.2 ∧ F c.1 = none ∧ b.B c.1 = none ∧ b.fd ≠ some c.1) ∧ ∀ i j, i ≠ j → ∀ c ∈ Cs i, ∀ c' ∈ Cs j, c.1 ≠ c'.1
section
variable {K : PySem.W.Frag} {b : Bs} {sl sl' : Sls} {F H F' H' : Hp} {σ σ' : L2.St}
theorem Rel.bstep (R : Rel K b sl F H σ) (S : Step K b.fd F H F' H') : Sub (hid b.fd b.B) (hid b.fd H') ∧ (∀ p, b.B p ≠ none → b.F0 p = none → F' p = none) := by
  refine ⟨R.base.trans S.hh, fun p h e => ?_⟩
  by_cases hp : b.fd = some p
  · exact (S.fe p hp).1
  · refine S.st p (fun z => ?_) (R.fro p h e)
    cases q : b.B p with
    | none => exact h q
    | some o =>
      have := R.base p o (by rw [hid_ne hp]; exact q)
      rw [hid_ne hp, z] at this; cases this
theorem SlOk.mono {x : Option (Option V)} {C : List Cell} {s : Sl} {fd : Option Addr} (h : Sub F F') (k : SlOk K F fd x C s) : SlOk K F' fd x C s := by
  cases s with
  | v d => obtain ⟨v, e, r⟩ := k; exact ⟨v, e, r.mono h⟩
  | o n d => obtain ⟨v, e, r⟩ := k; exact ⟨v, e, r.mono h⟩
  | feed => exact k
  | rg lo hi => obtain ⟨p, e, r⟩ := k; exact ⟨p, e, h _ _ r⟩
  | «at» p => exact k
theorem Rel.step (R : Rel K b sl F H σ) (S : Step K b.fd F H F' H') : Rel K b sl F' H' σ := by
  obtain ⟨Cs, s1, s2, s3⟩ := R.slots
  refine ⟨R.len, S.fh, (R.bstep S).1, (R.bstep S).2, R.f0.trans S.ff, S.fe, R.fb, Cs, fun i s e => (s1 i s e).mono S.ff, fun i => ⟨(s2 i).1, fun c hc => ?_⟩, s3⟩
  obtain ⟨h1, h2, h3, h4⟩ := (s2 i).2 c hc
  have := S.hh c.1 c.2 (by rw [hid_ne h4]; exact h1)
  rw [hid_ne h4] at this
  exact ⟨this, S.st c.1 (by rw [h1]; simp) h2, h3, h4⟩
/-- slots forgotten -/
theorem Rel.weak (R : Rel K b sl F H σ) (hl : σ'.length = sl'.length) (k : ∀ (i : Nat) (s : Sl), sl'[i]? = some (some s) → sl[i]? = some (some s) ∧ σ'[i]? = σ[i]?) : Rel K b sl' F H σ' := by
  obtain ⟨Cs, s1, s2, s3⟩ := R.slots
  refine ⟨hl, R.sub, R.base, R.fro, R.f0, R.fe, R.fb, Cs, fun i s e => ?_, s2, s3⟩
  rw [(k i s e).2]
  exact s1 i s (k i s e).1
/-- a name stored: what stays -/
theorem Rel.setV (R : Rel K b sl F H σ) {i : Nat} {v : V} {d : D} (r : Rp K F v d) : Rel K b (sl.set i (some (.v d))) F H (σ.set i (some v)) := by
  obtain ⟨Cs, s1, s2, s3⟩ := R.slots
  refine ⟨by simp [R.len], R.sub, R.base, R.fro, R.f0, R.fe, R.fb, Cs, fun j s e => ?_, s2, s3⟩
  by_cases hj : i = j
  · subst hj
    by_cases hi : i < sl.length
    · rw [List.getElem?_set_self hi] at e
      cases e
      exact ⟨v, List.getElem?_set_self (by rw [R.len]; exact hi), r⟩
    · rw [List.getElem?_eq_none (by simpa using hi)] at e; cases e
  · rw [List.getElem?_set_ne hj] at e
    rw [List.getElem?_set_ne hj]
    exact s1 j s e
theorem Rel.setN (R : Rel K b sl F H σ) {i : Nat} {v : Option V} : Rel K b (sl.set i none) F H (σ.set i v) := by
  obtain ⟨Cs, s1, s2, s3⟩ := R.slots
  refine ⟨by simp [R.len], R.sub, R.base, R.fro, R.f0, R.fe, R.fb, Cs, fun j s e => ?_, s2, s3⟩
  by_cases hj : i = j
  · subst hj
    by_cases hi : i < sl.length
    · rw [List.getElem?_set_self hi] at e; cases e
    · rw [List.getElem?_eq_none (by simpa using hi)] at e; cases e
  · rw [List.getElem?_set_ne hj] at e
    rw [List.getElem?_set_ne hj]
    exact s1 j s e
/-- a name stored: what is ours -/
theorem Rel.setO (R : Rel K b sl F H σ) {i n : Nat} {v : V} {d : D} {C : List Cell} (r : Own K F n v d C) (nd : (C.map (·.1)).Nodup) (h : ∀ c ∈ C, H c.1 = some c.2 ∧ F c.1 = none ∧ b.B c.1 = none ∧ b.fd ≠ some c.1)
    (dis : ∃ Cs : Nat → List Cell, (∀ j s, j ≠ i → sl[j]? = some (some s) → SlOk K F b.fd σ[j]? (Cs j) s) ∧ (∀ j, j ≠ i → ((Cs j).map (·.1)).Nodup ∧ ∀ c ∈ Cs j, H c.1 = some c.2 ∧ F c.1 = none ∧ b.B c.1 = none ∧ b.fd ≠ some c.1) ∧
      (∀ j l, j ≠ l → j ≠ i → l ≠ i → ∀ c ∈ Cs j, ∀ c' ∈ Cs l, c.1 ≠ c'.1) ∧ ∀ j, j ≠ i → ∀ c ∈ Cs j, ∀ c' ∈ C, c.1 ≠ c'.1) : Rel K b (sl.set i (some (.o n d))) F H (σ.set i (some v)) := by
  obtain ⟨Cs, s1, s2, s3, s4⟩ := dis
  refine ⟨by simp [R.len], R.sub, R.base, R.fro, R.f0, R.fe, R.fb, fun j => if j = i then C else Cs j, fun j s e => ?_, fun j => ?_, fun j l hjl c hc c' hc' => ?_⟩
  · by_cases hj : j = i
    · subst hj
      dsimp only
      rw [if_pos rfl]
      by_cases hi : j < sl.length
      · rw [List.getElem?_set_self hi] at e
        cases e
        exact ⟨v, List.getElem?_set_self (by rw [R.len]; exact hi), r⟩
      · rw [List.getElem?_eq_none (by simpa using hi)] at e; cases e
    · dsimp only
      rw [if_neg hj]
      rw [List.getElem?_set_ne (Ne.symm hj)] at e
      rw [List.getElem?_set_ne (Ne.symm hj)]
      exact s1 j s hj e
  · by_cases hj : j = i
    · dsimp only; rw [if_pos hj]; exact ⟨nd, h⟩
    · dsimp only; rw [if_neg hj]; exact s2 j hj
  · dsimp only at hc hc'
    by_cases hj : j = i
    · rw [if_pos hj] at hc
      have hl : l ≠ i := fun z => hjl (hj.trans z.symm)
      rw [if_neg hl] at hc'
      exact (s4 l hl c' hc' c hc).symm
    · rw [if_neg hj] at hc
      by_cases hl : l = i
      · rw [if_pos hl] at hc'
        exact s4 j hj c hc c' hc'
      · rw [if_neg hl] at hc'
        exact s3 j l hjl hj hl c hc c' hc'
/-- .. new since H0 -/
theorem Rel.setNew (R : Rel K b sl F H σ) {i n : Nat} {v : V} {d : D} {C : List Cell} {F' H' : Hp} (S : Step K b.fd F H F' H') (r : Own K F' n v d C) (h : Holds C F' H' H) : Rel K b (sl.set i (some (.o n d))) F' H' (σ.set i (some v)) := by
  have R' := R.step S
  obtain ⟨Cs, s1, s2, s3⟩ := R.slots
  have fdn : ∀ c ∈ C, b.fd ≠ some c.1 := fun c hc z => by
    obtain ⟨o, q⟩ := R.fe.some z
    rw [(h.2 c hc).2.2] at q; cases q
  have bn : ∀ c ∈ C, b.B c.1 = none := fun c hc => by
    cases q : b.B c.1 with
    | none => rfl
    | some o =>
      have := R.base c.1 o (by rw [hid_ne (fdn c hc)]; exact q)
      rw [hid_ne (fdn c hc), (h.2 c hc).2.2] at this; cases this
  refine R'.setO r h.1 (fun c hc => ⟨(h.2 c hc).1, (h.2 c hc).2.1, bn c hc, fdn c hc⟩) (dis := ⟨Cs, fun j s _ e => (s1 j s e).mono S.ff, fun j _ => ⟨(s2 j).1, fun c hc => ?_⟩, fun j l h1 _ _ => s3 j l h1, fun j _ c hc c' hc' z => ?_⟩)
  · obtain ⟨h1, h2, h3, h4⟩ := (s2 j).2 c hc
    have := S.hh c.1 c.2 (by rw [hid_ne h4]; exact h1)
    rw [hid_ne h4] at this
    exact ⟨this, S.st c.1 (by rw [h1]; simp) h2, h3, h4⟩
  · have e1 := ((s2 j).2 c hc).1
    rw [z, (h.2 c' hc').2.2] at e1; cases e1
theorem Rel.getV (R : Rel K b sl F H σ) {i : Nat} {d : D} (e : sl[i]? = some (some (.v d))) : ∃ v, σ[i]? = some (some v) ∧ Rp K F v d := by
  obtain ⟨Cs, s1, s2, s3⟩ := R.slots
  exact s1 i _ e
theorem Rel.getO (R : Rel K b sl F H σ) {i n : Nat} {d : D} (e : sl[i]? = some (some (.o n d))) : ∃ v, σ[i]? = some (some v) ∧ Rp K (hid b.fd H) v d := by
  obtain ⟨Cs, s1, s2, s3⟩ := R.slots
  obtain ⟨v, e1, r⟩ := s1 i _ e
  exact ⟨v, e1, r.rp R.sub fun c hc => by rw [hid_ne ((s2 i).2 c hc).2.2.2]; exact ((s2 i).2 c hc).1⟩
/-- it is let stand -/
theorem freeze {fd : Option Addr} {n : Nat} {v : V} {d : D} {C : List Cell} {H0 F0 : Hp} (fe0 : FeedOk K fd F0 H0) (S : Step K fd F0 H0 F H) (r : Own K F n v d C) (h : Holds C F H H0) : ∃ F', Step K fd F0 H0 F' H ∧ Rp K F' v d ∧ Sub F F' := by
  have fdn : ∀ c ∈ C, fd ≠ some c.1 := fun c hc z => by
    obtain ⟨o, q⟩ := fe0.some z
    rw [(h.2 c hc).2.2] at q; cases q
  let F' : Hp := fun a => if a ∈ C.map (·.1) then H a else F a
  have ff : Sub F F' := fun a o e => by
    show (if a ∈ C.map (·.1) then H a else F a) = some o
    rw [if_neg]
    · exact e
    · intro hm
      obtain ⟨c, hc, rfl⟩ := List.mem_map.mp hm
      rw [(h.2 c hc).2.1] at e; cases e
  have fc : ∀ c ∈ C, F' c.1 = some c.2 := fun c hc => by
    show (if c.1 ∈ C.map (·.1) then H c.1 else F c.1) = some c.2
    rw [if_pos (List.mem_map.mpr ⟨c, hc, rfl⟩)]
    exact (h.2 c hc).1
  refine ⟨F', ⟨S.ff.trans ff, S.hh, fun a o e => ?_, fun p hp e => ?_, S.fe.mono ff (fun φ e => ?_) fun _ _ => rfl⟩, r.rp ff fc, ff⟩
  · have e : (if a ∈ C.map (·.1) then H a else F a) = some o := e
    split at e
    · rename_i hm
      obtain ⟨c, hc, rfl⟩ := List.mem_map.mp hm
      rw [hid_ne (fdn c hc)]; exact e
    · exact S.fh a o e
  · show (if p ∈ C.map (·.1) then H p else F p) = none
    rw [if_neg]
    · exact S.st p hp e
    · intro hm
      obtain ⟨c, hc, rfl⟩ := List.mem_map.mp hm
      exact hp (h.2 c hc).2.2
  · show (if φ ∈ C.map (·.1) then H φ else F φ) = none
    rw [if_neg]
    · exact (S.fe φ e).1
    · intro hm
      obtain ⟨c, hc, rfl⟩ := List.mem_map.mp hm
      exact fdn c hc e
end
/-! ### expressions -/
section
variable {m : Type → Type} [Run m] {α β γ : Type}
def tD (K : PySem.W.Frag) (b : Bs) (sl : Sls) (md : Md) (c : m α) (g : α → D) : TE := fun σ H Q => ∃ F, Rel K b sl F H σ ∧ Run.run c (fun x => Post K b.fd md F H (g x) Q)
abbrev DM (X : Cx) (b : Bs) (sl : Sls) (e : Expr) (md : Md) (c : m α) (g : α → D) : Prop := PE X e (tD X.K b sl md c g)
end
theorem PE.imp {X : Cx} {e : Expr} {t t' : TE} (h : PE X e t) (k : ∀ σ H Q, t' σ H Q → t σ H Q) : PE X e t' := ⟨fun pins s σ H Q I q => h.run pins s σ H Q I (k σ H Q q)⟩
theorem PT.imp {X : Cx} {e : Expr} {t t' : TT} (h : PT X e t) (k : ∀ σ H Q, t' σ H Q → t σ H Q) : PT X e t' := ⟨fun pins s σ H Q I q => h.run pins s σ H Q I (k σ H Q q)⟩
theorem PSs.imp {X : Cx} {e : List Stmt} {t t' : TS} (h : PSs X e t) (k : ∀ D σ H, t' D σ H → t D σ H) : PSs X e t' := ⟨fun pins s σ H D I q => h.run pins s σ H D I (k D σ H q)⟩
theorem PS.imp {X : Cx} {e : Stmt} {t t' : TS} (h : PS X e t) (k : ∀ D σ H, t' D σ H → t D σ H) : PS X e t' := ⟨fun pins s σ H D I q => h.run pins s σ H D I (k D σ H q)⟩
section
variable {m : Type → Type} [Run m] {α β γ : Type} {X : Cx} {b : Bs} {sl : Sls} {e e1 e2 : Expr} {md : Md} {c : m α} {g : α → D} {c1 : m β} {g1 : β → D} {pos : Pos}
/-- what is ours is let stand -/
theorem dm_fr {n : Nat} (h : DM X b sl e (.ow n) c g) : DM X b sl e (.ow 0) c g := PE.imp h fun σ H Q ⟨F, R, q⟩ => ⟨F, R, Run.run_mono _ _ _ (fun x p v F' H' C S r k => by
  obtain ⟨F2, S2, r2, _⟩ := freeze R.fe S r k
  exact Post.fr S2 p r2) q⟩
/-- .. is looked at -/
theorem dm_pk {n : Nat} (h : DM X b sl e (.ow n) c g) : DM X b sl e .pk c g := PE.imp h fun σ H Q ⟨F, R, q⟩ => ⟨F, R, Run.run_mono _ _ _ (fun x p v F' H' C S r k => by
  obtain ⟨F2, S2, r2, _⟩ := freeze R.fe S r k
  exact p v F2 H' S2 (r2.mono S2.fh)) q⟩
theorem dm_up {c : Option α} (h : DM X b sl e md c g) : DM X b sl e md (up c) g := PE.imp h fun σ H Q ⟨F, R, q⟩ => ⟨F, R, q⟩
/-- another way to say it -/
theorem dm_to {c' : m α} (h : DM X b sl e md c g) (k : ∀ Q, Run.run c' Q → Run.run c Q) : DM X b sl e md c' g := PE.imp h fun σ H Q ⟨F, R, q⟩ => ⟨F, R, k _ q⟩
theorem dm_eq {c' : m α} (h : DM X b sl e md c g) (k : c = c') : DM X b sl e md c' g := k ▸ h
theorem dm_name (i : Nat) (g : α → D) (a : α) {x : Str} (e : sl[i]? = some (some (.v (g a))) := by rfl) (hN : X.N[i]? = some x := by rfl) (hv : Vis X.env.scope x := by first | exact Or.inl rfl | exact Or.inr (Or.inl rfl) | exact Or.inr (Or.inr rfl)) (hd : (x == ("__debug__" : Str)) = false := by decide)
    (hcd : (x == ("__classdict__" : Str)) = false := by decide) : DM X b sl (.Name x pos) (.ow 0) (pure a : m α) g := PE.imp (pe_var hN hv hd hcd) fun σ H Q ⟨F, R, q⟩ => by
  obtain ⟨v, e1, r⟩ := R.getV e
  exact ⟨v, e1, Post.fr (.refl R.sub R.fe) (Run.run_pure a _ q) r⟩
theorem dm_nameO (i : Nat) (g : α → D) (a : α) {n : Nat} {x : Str} (e : sl[i]? = some (some (.o n (g a))) := by rfl) (hN : X.N[i]? = some x := by rfl) (hv : Vis X.env.scope x := by first | exact Or.inl rfl | exact Or.inr (Or.inl rfl) | exact Or.inr (Or.inr rfl)) (hd : (x == ("__debug__" : Str)) = false := by decide)
    (hcd : (x == ("__classdict__" : Str)) = false := by decide) : DM X b sl (.Name x pos) .pk (pure a : m α) g := PE.imp (pe_var hN hv hd hcd) fun σ H Q ⟨F, R, q⟩ => by
  obtain ⟨v, e1, r⟩ := R.getO e
  exact ⟨v, e1, (Run.run_pure a _ q) v F H (.refl R.sub R.fe) r⟩
end
end DL
namespace DL
open PySem PySem.Spec PyProof.Rows L2
/-! ### kinds of data -/
def eI : Int → D := PyData.int
def eB : Bool → D := PyData.bool
def eS : Str → D := PyData.str
def eN : Unit → D := fun _ => PyData.none
def eD (d : D) : D := d
section
variable {α β γ : Type}
def eL (g : α → D) (xs : List α) : D := .list (xs.map g)
def eT (g : α → D) (xs : List α) : D := .tuple (xs.map g)
def eP (g : α → D) (h : β → D) (p : α × β) : D := .tuple [g p.1, h p.2]
def eP3 (g : α → D) (h : β → D) (k : γ → D) (p : α × β × γ) : D := .tuple [g p.1, h p.2.1, k p.2.2]
def eO (g : α → D) : Option α → D
  | none => .none
  | some a => g a
/-- scalars -/
class Sca (g : α → D) : Prop where
  sc : ∀ x, scalD (g x) = true
instance : Sca eI := ⟨fun _ => rfl⟩
instance : Sca eB := ⟨fun _ => rfl⟩
instance : Sca eS := ⟨fun _ => rfl⟩
instance : Sca eN := ⟨fun _ => rfl⟩
instance {g : α → D} [h : Sca g] : Sca (eO g) := ⟨fun x => by
  cases x with
  | none => rfl
  | some a => exact h.sc a⟩
/-- == says what it says -/
class Eqv [BEq α] (g : α → D) (k : outParam Nat) : Prop where
  plain : ∀ x, (g x).plain = true
  depth : ∀ x, (g x).depth ≤ k
  eqv : ∀ x y, PyData.eqv (g x) (g y) = (x == y)
instance : Eqv eI 1 := ⟨fun _ => rfl, fun _ => by simp [eI, PyData.depth], fun x y => by simp [eI, PyData.eqv]⟩
instance : Eqv eB 1 := ⟨fun _ => rfl, fun _ => by simp [eB, PyData.depth], fun x y => by simp [eB, PyData.eqv]⟩
instance : Eqv eS 1 := ⟨fun _ => rfl, fun _ => by simp [eS, PyData.depth], fun x y => by simp [eS, PyData.eqv]⟩
instance : Eqv eN 1 := ⟨fun _ => rfl, fun _ => by simp [eN, PyData.depth], fun x y => by simp [eN, PyData.eqv]⟩
theorem plainAll_map {g : α → D} (h : ∀ x, (g x).plain = true) : ∀ xs : List α, PyData.plainAll (xs.map g) = true
  | [] => rfl
  | x :: xs => by simp [PyData.plainAll, h x, plainAll_map h xs]
theorem depthAll_map {g : α → D} {k : Nat} (h : ∀ x, (g x).depth ≤ k) : ∀ xs : List α, PyData.depthAll (xs.map g) ≤ k
  | [] => by simp [PyData.depthAll]
  | x :: xs => by
    have := h x
    have := depthAll_map h xs
    simp only [List.map_cons, PyData.depthAll]
    omega
theorem eqvAll_map [BEq α] {g : α → D} (h : ∀ x y, PyData.eqv (g x) (g y) = (x == y)) : ∀ xs ys : List α, PyData.eqvAll (xs.map g) (ys.map g) = (xs == ys)
  | [], [] => by simp [PyData.eqvAll]
  | [], _ :: _ => by simp [PyData.eqvAll]
  | _ :: _, [] => by simp [PyData.eqvAll]
  | x :: xs, y :: ys => by simp [PyData.eqvAll, h x y, eqvAll_map h xs ys]
instance [BEq α] {g : α → D} {k : Nat} [h : Eqv g k] : Eqv (eL g) (k + 1) := ⟨fun xs => plainAll_map h.plain xs, fun xs => by
  have := depthAll_map h.depth xs
  simp only [eL, PyData.depth]
  omega, fun xs ys => by simp only [eL, PyData.eqv]; exact eqvAll_map h.eqv xs ys⟩
instance [BEq α] {g : α → D} {k : Nat} [h : Eqv g k] : Eqv (eT g) (k + 1) := ⟨fun xs => plainAll_map h.plain xs, fun xs => by
  have := depthAll_map h.depth xs
  simp only [eT, PyData.depth]
  omega, fun xs ys => by simp only [eT, PyData.eqv]; exact eqvAll_map h.eqv xs ys⟩
instance [BEq α] [BEq β] {g : α → D} {h : β → D} {k l : Nat} [x : Eqv g k] [y : Eqv h l] : Eqv (eP g h) (max k l + 1) := ⟨fun p => by simp [eP, PyData.plain, PyData.plainAll, x.plain, y.plain], fun p => by
  have := x.depth p.1
  have := y.depth p.2
  simp only [eP, PyData.depth, PyData.depthAll]
  omega, fun p q => by
  simp only [eP, PyData.eqv, PyData.eqvAll, x.eqv, y.eqv, Bool.and_true]
  rfl⟩
end
/-! ### what reads as data is read by the library -/
section
variable {X : Cx} {pins : List (Addr × Obj)} {σ : L2.St} {H : Hp} {s : Shared}
mutual
theorem Rp.reads (I : Inv X pins σ H s) : ∀ (d : D) (v : V) (u : Value), d.plain = true → Rp X.K H v d → RelV v u → ∃ as, Reads s.heap u d as
  | .none, _, _, _, h, r => by
    cases h
    cases r
    exact ⟨_, Reads.none⟩
  | .bool b, _, _, _, h, r => by
    cases h
    cases r
    exact ⟨_, Reads.bool b⟩
  | .int i, _, _, _, h, r => by
    cases h
    obtain ⟨t, rfl⟩ := r
    exact ⟨_, Reads.int i t⟩
  | .str x, _, _, _, h, r => by
    cases h
    obtain ⟨t, rfl⟩ := r
    exact ⟨_, Reads.str x t⟩
  | .list ds, _, _, p, h, r => by
    cases h with
    | lst hs ha =>
      cases r
      obtain ⟨its, rv, ⟨o, n, ho, hc, _, hd⟩, _⟩ := I.list (SqL.of hs)
      obtain ⟨as, hr⟩ := Rp.readsAll I ds _ its p ha rv
      exact ⟨_, Reads.list ho hc hd hr⟩
  | .tuple ds, _, _, p, h, r => by
    cases h with
    | tup hs ha =>
      cases r
      obtain ⟨its, rv, ⟨o, ho, hc, n, hd⟩, _⟩ := I.tuple hs
      obtain ⟨as, hr⟩ := Rp.readsAll I ds _ its p ha rv
      exact ⟨_, Reads.tuple ho hc hd hr⟩
  | .dict _, _, _, p, _, _ => by cases p
theorem Rp.readsAll (I : Inv X pins σ H s) : ∀ (ds : List D) (vs : List V) (us : List Value), PyData.plainAll ds = true → RpAll X.K H vs ds → Vals vs us → ∃ as, ReadsAll s.heap us ds as
  | [], _, _, _, h, r => by
    cases h
    cases r
    exact ⟨_, ReadsAll.nil⟩
  | d :: ds, _, _, p, h, r => by
    have p' : d.plain = true ∧ PyData.plainAll ds = true := by simpa [PyData.plainAll] using p
    cases h with
    | cons h1 h2 =>
      cases r with
      | cons r1 r2 =>
        obtain ⟨as, q1⟩ := Rp.reads I d _ _ p'.1 h1 r1
        obtain ⟨bs, q2⟩ := Rp.readsAll I ds _ _ p'.2 h2 r2
        exact ⟨_, ReadsAll.cons q1 q2⟩
end
def rEqP (K : PySem.W.Frag) (neg : Bool) : R2 := fun x y H Q => ∃ d e, Rp K H x d ∧ Rp K H y e ∧ d.plain = true ∧ e.plain = true ∧ min d.depth e.depth ≤ 64 ∧ Q (.bl (if neg then !PyData.eqv d e else PyData.eqv d e)) H
theorem op_eqP (hu : X.A.units + 64 < cLine) : OpR X (compareOp .Eq) (rEqP X.K false) := by
  intro pins s σ H x y v u Q I rx ry h
  obtain ⟨d, e, hd, he, sd, se, dd, q⟩ := h
  obtain ⟨as, r1⟩ := Rp.reads I d x v sd hd rx
  obtain ⟨bs, r2⟩ := Rp.reads I e y u se he ry
  exact SeqAt.eq_plain r1 r2 sd se (by omega) ⟨.bl _, H, I, rfl, q⟩
theorem op_neP (hu : X.A.units + 64 < cLine) : OpR X (compareOp .NotEq) (rEqP X.K true) := by
  intro pins s σ H x y v u Q I rx ry h
  obtain ⟨d, e, hd, he, sd, se, dd, q⟩ := h
  obtain ⟨as, r1⟩ := Rp.reads I d x v sd hd rx
  obtain ⟨bs, r2⟩ := Rp.reads I e y u se he ry
  exact SeqAt.ne_plain r1 r2 sd se (by omega) ⟨.bl _, H, I, rfl, q⟩
/-- x in xs, xs a list or a tuple -/
def rInP (K : PySem.W.Frag) (neg : Bool) : R2 := fun x y H Q => ∃ d ds, Rp K H x d ∧ (Rp K H y (.list ds) ∨ Rp K H y (.tuple ds)) ∧ d.plain = true ∧ PyData.plainAll ds = true ∧ PyData.depthAll ds ≤ 62 ∧ d.depth ≤ 62 ∧
  Q (.bl (if neg then !(ds.any fun e => PyData.eqv e d) else ds.any fun e => PyData.eqv e d)) H
end
end DL
namespace DL
open PySem PySem.Spec PyProof.Rows L2
section
variable {m : Type → Type} [Run m] {α β γ : Type} {X : Cx} {b : Bs} {sl : Sls} {e e1 e2 : Expr} {md : Md} {c : m α} {g : α → D} {c1 : m β} {g1 : β → D} {pos : Pos}
/-! ### constants -/
theorem dm_pure {t : TE} {x : α} {v : V} (h : PE X e (tC v)) (hs : scalD (g x) = true) (r : ∀ K F, Rp K F v (g x)) : DM X b sl e md (pure x : m α) g := PE.imp h fun σ H Q ⟨F, R, q⟩ => by
  have q := rpure q
  exact Post.sc R.sub R.fe q hs (r _ _)
theorem dm_int {i : Int} {j} : DM X b sl (.Constant (.int i) j pos) md (pure i : m Int) eI := dm_pure (t := tC (.int i)) pe_int rfl fun _ _ => .int i
theorem dm_bool {i : Bool} {j} : DM X b sl (.Constant (.bool i) j pos) md (pure i : m Bool) eB := dm_pure (t := tC (.bl i)) pe_bl rfl fun _ _ => .bl i
theorem dm_str {i : Str} {j} : DM X b sl (.Constant (.str i) j pos) md (pure i : m Str) eS := dm_pure (t := tC (.str i)) pe_str rfl fun _ _ => .str i
theorem dm_none {j} : DM X b sl (.Constant .none j pos) md (pure () : m Unit) eN := dm_pure (t := tC .non) pe_non rfl fun _ _ => .non
/-- a scalar, in any way -/
theorem dm_sc [Sca g] {n : Nat} {md' : Md} (h : DM X b sl e (.ow n) c g) : DM X b sl e md' c g := PE.imp h fun σ H Q ⟨F, R, q⟩ => ⟨F, R, Run.run_mono _ _ _ (fun x p v F' H' C S r k => by
  obtain ⟨F2, S2, r2, _⟩ := freeze R.fe S r k
  exact Post.sc (md := md') S2.fh S2.fe (Post.back R.fe S2 p) (Sca.sc x) r2) q⟩
theorem dm_scP [Sca g] {md' : Md} (h : DM X b sl e .pk c g) : DM X b sl e md' c g := PE.imp h fun σ H Q ⟨F, R, q⟩ => ⟨F, R, Run.run_mono _ _ _ (fun x p v F' H' S r =>
  Post.sc (md := md') S.fh S.fe (Post.back R.fe S p) (Sca.sc x) (r.scal (Sca.sc x))) q⟩
/-- told by another kind -/
theorem dm_enc {g' : β → D} {f : α → β} (h : DM X b sl e md c g) (k : ∀ x, g' (f x) = g x) : DM X b sl e md (c >>= fun x => pure (f x)) g' := PE.imp h fun σ H Q ⟨F, R, q⟩ => ⟨F, R, rmono (rbind q) fun x p => by
  have := rpure p
  rw [k x] at this
  exact this⟩
theorem dm_encP {g' : β → D} {f : α → β} {x : α} (h : DM X b sl e md (pure x : m α) g) (k : g' (f x) = g x) : DM X b sl e md (pure (f x) : m β) g' := PE.imp h fun σ H Q ⟨F, R, q⟩ => ⟨F, R, by
  have q := rpure q
  rw [k] at q
  exact rpure' q⟩
end
end DL
namespace DL
open PySem PySem.Spec PyProof.Rows L2
section
variable {m : Type → Type} [Run m] {α β γ : Type} {X : Cx} {b : Bs} {sl : Sls} {e e1 e2 : Expr} {md : Md} {c : m α} {g : α → D} {c1 : m β} {g1 : β → D} {pos : Pos} {K : PySem.W.Frag} {fd : Option Addr}
/-! ### operands -/
inductive Am where
  /-- where it stands -/
  | pk
  /-- it stays -/
  | fr
  /-- a list where it stands, its items stay -/
  | sh
def ArgOk (K : PySem.W.Frag) (fd : Option Addr) (F H : Hp) (am : Am) (v : V) (d : D) : Prop := match am with
  | .pk => Rp K (hid fd H) v d
  | .fr => Rp K F v d
  | .sh => ∃ p vs ds, v = .ref p ∧ d = .list ds ∧ hid fd H p = some (.lst vs) ∧ RpAll K F vs ds ∧ ds.length ≤ sizeLine
theorem ArgOk.step {F H F' H' : Hp} {am : Am} {v : V} {d : D} (h : ArgOk K fd F H am v d) (S : Step K fd F H F' H') : ArgOk K fd F' H' am v d := by
  cases am with
  | pk => exact Rp.mono S.hh h
  | fr => exact Rp.mono S.ff h
  | sh =>
    obtain ⟨p, vs, ds, e1, e2, e3, e4, e5⟩ := h
    exact ⟨p, vs, ds, e1, e2, S.hh _ _ e3, e4.mono S.ff, e5⟩
def PostA (K : PySem.W.Frag) (fd : Option Addr) (am : Am) (F H : Hp) (d : D) (Q : VK) : Prop := ∀ v F' H', Step K fd F H F' H' → ArgOk K fd F' H' am v d → Q v H'
def tA (K : PySem.W.Frag) (b : Bs) (sl : Sls) (am : Am) (c : m α) (g : α → D) : TE := fun σ H Q => ∃ F, Rel K b sl F H σ ∧ Run.run c (fun x => PostA K b.fd am F H (g x) Q)
abbrev DA (X : Cx) (b : Bs) (sl : Sls) (e : Expr) (am : Am) (c : m α) (g : α → D) : Prop := PE X e (tA X.K b sl am c g)
theorem da_pk (h : DM X b sl e .pk c g) : DA X b sl e .pk c g := h
theorem da_fr {n : Nat} (h : DM X b sl e (.ow n) c g) : DA X b sl e .fr c g := PE.imp h fun σ H Q ⟨F, R, q⟩ => ⟨F, R, rmono q fun x p v F' H' C S r k => by
  obtain ⟨F2, S2, r2, _⟩ := freeze R.fe S r k
  exact p v F2 H' S2 r2⟩
theorem da_pk' {n : Nat} (h : DM X b sl e (.ow n) c g) : DA X b sl e .pk c g := da_pk (dm_pk h)
theorem da_sh {g : α → D} {c : m (List α)} {n : Nat} (h : DM X b sl e (.ow n) c (eL g)) : DA X b sl e .sh c (eL g) := PE.imp h fun σ H Q ⟨F, R, q⟩ => ⟨F, R, rmono q fun x p v F' H' C S r k => by
  obtain ⟨F2, S2, r2, _⟩ := freeze R.fe S r k
  refine p v F2 H' S2 ?_
  cases r2 with
  | lst a q l => exact ⟨_, _, _, rfl, rfl, S2.fh _ _ a, q, l⟩⟩
/-- a list of scalars -/
theorem da_shS {g : α → D} {c : m (List α)} [hs : Sca g] (h : DM X b sl e .pk c (eL g)) : DA X b sl e .sh c (eL g) := PE.imp h fun σ H Q ⟨F, R, q⟩ => ⟨F, R, rmono q fun x p v F' H' S r => by
  refine p v F' H' S ?_
  cases r with
  | lst a q l =>
    refine ⟨_, _, _, rfl, rfl, a, RpAll.scal' (fun d hd => ?_) q, l⟩
    obtain ⟨y, _, rfl⟩ := List.mem_map.mp hd
    exact hs.sc y⟩
/-- a name of ours, one deep -/
theorem da_nameO (i : Nat) (g : α → D) (a : List α) {x : Str} (e : sl[i]? = some (some (.o 1 (eL g a))) := by rfl) (hN : X.N[i]? = some x := by rfl) (hv : Vis X.env.scope x := by first | exact Or.inl rfl | exact Or.inr (Or.inl rfl) | exact Or.inr (Or.inr rfl)) (hd : (x == ("__debug__" : Str)) = false := by decide)
    (hcd : (x == ("__classdict__" : Str)) = false := by decide) : DA X b sl (.Name x pos) .sh (pure a : m (List α)) (eL g) := PE.imp (pe_var hN hv hd hcd) fun σ H Q ⟨F, R, q⟩ => by
  have q := rpure q
  obtain ⟨Cs, s1, s2, s3⟩ := R.slots
  obtain ⟨v, e1, r⟩ := s1 i _ e
  refine ⟨v, e1, q v F H (.refl R.sub R.fe) ?_⟩
  generalize hC : Cs i = C at r
  have hc := (s2 i).2
  rw [hC] at hc
  cases r with
  | s a _ => cases a
  | lst o l =>
    obtain ⟨h1, _, _, h4⟩ := hc _ List.mem_cons_self
    exact ⟨_, _, _, rfl, rfl, by rw [hid_ne h4]; exact h1, (OwnAll.zero' o).1, l⟩
/-! ### two operands -/
def OpS (K : PySem.W.Frag) (fd : Option Addr) (r : R2) (a1 a2 : Am) (ga : α → D) (gb : β → D) (P : α → β → Prop) (k : α → β → m γ) (md : Md) (g : γ → D) : Prop :=
  ∀ F H v1 v2 x y Q, P x y → Sub F (hid fd H) → FeedOk K fd F H → ArgOk K fd F H a1 v1 (ga x) → ArgOk K fd F H a2 v2 (gb y) → Run.run (k x y) (fun z => Post K fd md F H (g z) Q) → r v1 v2 H Q
variable {a1 a2 : Am}
theorem tD_op {r : R2} {k : α → β → m γ} {h : γ → D} (hr : OpS X.K b.fd r a1 a2 g g1 (fun _ _ => True) k md h) {σ : L2.St} {H : Hp} {Q : VK} (q : tD X.K b sl md (c >>= fun x => c1 >>= fun y => k x y) h σ H Q) :
    tOp r (tA X.K b sl a1 c g) (tA X.K b sl a2 c1 g1) σ H Q := by
  obtain ⟨F, R, q⟩ := q
  refine ⟨F, R, rmono (rbind q) fun x q v1 F1 H1 S1 r1 => ?_⟩
  have R1 := R.step S1
  refine ⟨F1, R1, rmono (rbind q) fun y q v2 F2 H2 S2 r2 => ?_⟩
  have R2 := R1.step S2
  exact hr F2 H2 v1 v2 x y Q trivial R2.sub R2.fe (r1.step S2) r2 (rmono q fun z p => p.back R.fe (S1.trans R.fe S2))
theorem tD_opR {r : R2} {k : α → m γ} {h : γ → D} {y : β} (hr : OpS X.K b.fd r a1 a2 g g1 (fun _ z => z = y) (fun x _ => k x) md h) {σ : L2.St} {H : Hp} {Q : VK} (q : tD X.K b sl md (c >>= k) h σ H Q) :
    tOp r (tA X.K b sl a1 c g) (tA X.K b sl a2 (pure y : m β) g1) σ H Q := by
  obtain ⟨F, R, q⟩ := q
  refine ⟨F, R, rmono (rbind q) fun x q v1 F1 H1 S1 r1 => ?_⟩
  have R1 := R.step S1
  refine ⟨F1, R1, rpure' fun v2 F2 H2 S2 r2 => ?_⟩
  have R2 := R1.step S2
  exact hr F2 H2 v1 v2 x y Q rfl R2.sub R2.fe (r1.step S2) r2 (rmono q fun z p => p.back R.fe (S1.trans R.fe S2))
theorem tD_opL {r : R2} {k : β → m γ} {h : γ → D} {x : α} (hr : OpS X.K b.fd r a1 a2 g g1 (fun z _ => z = x) (fun _ y => k y) md h) {σ : L2.St} {H : Hp} {Q : VK} (q : tD X.K b sl md (c1 >>= k) h σ H Q) :
    tOp r (tA X.K b sl a1 (pure x : m α) g) (tA X.K b sl a2 c1 g1) σ H Q := by
  obtain ⟨F, R, q⟩ := q
  refine ⟨F, R, rpure' fun v1 F1 H1 S1 r1 => ?_⟩
  have R1 := R.step S1
  refine ⟨F1, R1, rmono (rbind q) fun y q v2 F2 H2 S2 r2 => ?_⟩
  have R2 := R1.step S2
  exact hr F2 H2 v1 v2 x y Q rfl R2.sub R2.fe (r1.step S2) r2 (rmono q fun z p => p.back R.fe (S1.trans R.fe S2))
theorem dm_op {op : Operator} {r : R2} {k : α → β → m γ} {h : γ → D} (ho : OpR X (binaryOp op) r) (ha : DA X b sl e1 a1 c g) (hb : DA X b sl e2 a2 c1 g1) (hr : OpS X.K b.fd r a1 a2 g g1 (fun _ _ => True) k md h) :
    DM X b sl (.BinOp e1 op e2 pos) md (c >>= fun x => c1 >>= fun y => k x y) h := PE.imp (pe_op ho ha hb) fun _ _ _ q => tD_op hr q
theorem dm_opR {op : Operator} {r : R2} {k : α → m γ} {h : γ → D} {y : β} (ho : OpR X (binaryOp op) r) (ha : DA X b sl e1 a1 c g) (hb : DA X b sl e2 a2 (pure y : m β) g1) (hr : OpS X.K b.fd r a1 a2 g g1 (fun _ z => z = y) (fun x _ => k x) md h) :
    DM X b sl (.BinOp e1 op e2 pos) md (c >>= k) h := PE.imp (pe_op ho ha hb) fun _ _ _ q => tD_opR hr q
theorem dm_opL {op : Operator} {r : R2} {k : β → m γ} {h : γ → D} {x : α} (ho : OpR X (binaryOp op) r) (ha : DA X b sl e1 a1 (pure x : m α) g) (hb : DA X b sl e2 a2 c1 g1) (hr : OpS X.K b.fd r a1 a2 g g1 (fun z _ => z = x) (fun _ y => k y) md h) :
    DM X b sl (.BinOp e1 op e2 pos) md (c1 >>= k) h := PE.imp (pe_op ho ha hb) fun _ _ _ q => tD_opL hr q
theorem dm_cmp {op : CmpOp} {r : R2} {k : α → β → m γ} {h : γ → D} (ho : OpR X (compareOp op) r) (ha : DA X b sl e1 a1 c g) (hb : DA X b sl e2 a2 c1 g1) (hr : OpS X.K b.fd r a1 a2 g g1 (fun _ _ => True) k md h) (hm : behindInMarks op e2 = false) :
    DM X b sl (.Compare e1 [op] [e2] pos) md (c >>= fun x => c1 >>= fun y => k x y) h := PE.imp (pe_cmpR ho ha hb hm) fun _ _ _ q => tD_op hr q
/-- a[i] -/
theorem dm_ix {r : R2} {k : α → β → m γ} {h : γ → D} (ho : IxR X r) (ha : DA X b sl e1 a1 c g) (hb : DA X b sl e2 a2 c1 g1) (hr : OpS X.K b.fd r a1 a2 g g1 (fun _ _ => True) k md h) (hs : PlainIx e2) :
    DM X b sl (.Subscript e1 e2 pos) md (c >>= fun x => c1 >>= fun y => k x y) h := PE.imp (pe_ix ho ha hb hs) fun _ _ _ q => tD_op hr q
/-! ### tests -/
def tTT (K : PySem.W.Frag) (b : Bs) (sl : Sls) (c : m Bool) : TT := fun σ H Q => ∃ F, Rel K b sl F H σ ∧ Run.run c (fun t => ∀ F' H', Step K b.fd F H F' H' → Q t H')
abbrev DT (X : Cx) (b : Bs) (sl : Sls) (e : Expr) (c : m Bool) : Prop := PT X e (tTT X.K b sl c)
theorem dt_cmp {op : CmpOp} {r : R2} {k : α → β → m Bool} (ho : OpR X (compareOp op) r) (ha : DA X b sl e1 a1 c g) (hb : DA X b sl e2 a2 c1 g1) (hr : OpS X.K b.fd r a1 a2 g g1 (fun _ _ => True) k .pk eB) (hm : behindInMarks op e2 = false) :
    DT X b sl (.Compare e1 [op] [e2] pos) (c >>= fun x => c1 >>= fun y => k x y) := PT.imp (pt_cmpR ho ha hb hm) fun σ H Q ⟨F, R, q⟩ => tD_op (md := .pk) (h := eB) hr ⟨F, R, rmono q fun t p v F' H' S r => by
    cases r
    exact ⟨_, rfl, p F' H' S⟩⟩
theorem dt_val {c : m Bool} (h : DM X b sl e .pk c eB) (he : ∀ whole, isTrue e X.env whole = (do let v ← whole; standAt e.pos; holding [v] (truthy v)) := by intro _; rfl) : DT X b sl e c := PT.imp (pt_val h he) fun σ H Q ⟨F, R, q⟩ =>
  ⟨F, R, rmono q fun t p v F' H' S r => by
    cases r
    exact ⟨_, rfl, p F' H' S⟩⟩
theorem dt_to {c c' : m Bool} (h : DT X b sl e c) (k : ∀ Q, Run.run c' Q → Run.run c Q) : DT X b sl e c' := PT.imp h fun σ H Q ⟨F, R, q⟩ => ⟨F, R, k _ q⟩
theorem dt_not {c : m Bool} (h : DT X b sl e c) : DT X b sl (.UnaryOp .Not e pos) (c >>= fun t => pure (!t)) := PT.imp (pt_not h) fun σ H Q ⟨F, R, q⟩ => ⟨F, R, rmono (rbind q) fun t p F' H' S => by
  have p := rpure p
  exact p F' H' S⟩
/-- .. where nothing can fail -/
theorem dt_notT {t : Bool} (h : DT X b sl e (pure t : m Bool)) : DT X b sl (.UnaryOp .Not e pos) (pure (!t) : m Bool) := PT.imp (pt_not h) fun σ H Q ⟨F, R, q⟩ => ⟨F, R, by
  have q := rpure q
  exact rpure' fun F' H' S => q F' H' S⟩
/-- and, or: a chain -/
abbrev DW (X : Cx) (b : Bs) (sl : Sls) (e : Expr) (c : m Bool) : Prop := PW X e (tTT X.K b sl c)
theorem DW.dt {c : m Bool} (h : DW X b sl e c) : DT X b sl e c := PW.pt h
theorem PW.imp {e : Expr} {t t' : TT} (h : PW X e t) (k : ∀ σ H Q, t' σ H Q → t σ H Q) : PW X e t' := ⟨fun w pins s σ H Q I q => h.run w pins s σ H Q I (k σ H Q q)⟩
theorem dw_and1 {c : m Bool} (h : DT X b sl e c) : DW X b sl (.BoolOp .And [e] pos) c := pw_and1 h
theorem dw_or1 {c : m Bool} (h : DT X b sl e c) : DW X b sl (.BoolOp .Or [e] pos) c := pw_or1 h
theorem dw_and {c c1 : m Bool} {rest : List Expr} (h : DT X b sl e c) (h1 : DW X b sl (.BoolOp .And (e1 :: rest) pos) c1) : DW X b sl (.BoolOp .And (e :: e1 :: rest) pos) (c >>= fun t => if t then c1 else pure false) :=
  PW.imp (pw_and h h1) fun σ H Q ⟨F, R, q⟩ => ⟨F, R, rmono (rbind q) fun t p F' H' S => by
    cases t with
    | true => exact ⟨F', R.step S, rmono p fun t p F2 H2 S2 => p F2 H2 (S.trans R.fe S2)⟩
    | false =>
      have p := rpure p
      exact p F' H' S⟩
theorem dw_or {c c1 : m Bool} {rest : List Expr} (h : DT X b sl e c) (h1 : DW X b sl (.BoolOp .Or (e1 :: rest) pos) c1) : DW X b sl (.BoolOp .Or (e :: e1 :: rest) pos) (c >>= fun t => if t then pure true else c1) :=
  PW.imp (pw_or h h1) fun σ H Q ⟨F, R, q⟩ => ⟨F, R, rmono (rbind q) fun t p F' H' S => by
    cases t with
    | false => exact ⟨F', R.step S, rmono p fun t p F2 H2 S2 => p F2 H2 (S.trans R.fe S2)⟩
    | true =>
      have p := rpure p
      exact p F' H' S⟩
theorem dw_andT {t u : Bool} {rest : List Expr} (h : DT X b sl e (pure t : m Bool)) (h1 : DW X b sl (.BoolOp .And (e1 :: rest) pos) (pure u : m Bool)) : DW X b sl (.BoolOp .And (e :: e1 :: rest) pos) (pure (t && u) : m Bool) :=
  PW.imp (dw_and h h1) fun σ H Q ⟨F, R, q⟩ => ⟨F, R, by
    have q := rpure q
    show Run.run ((pure t : m Bool) >>= fun t => if t then (pure u : m Bool) else pure false) _
    rw [Run.pure_b]
    cases t <;> exact rpure' q⟩
theorem dw_orT {t u : Bool} {rest : List Expr} (h : DT X b sl e (pure t : m Bool)) (h1 : DW X b sl (.BoolOp .Or (e1 :: rest) pos) (pure u : m Bool)) : DW X b sl (.BoolOp .Or (e :: e1 :: rest) pos) (pure (t || u) : m Bool) :=
  PW.imp (dw_or h h1) fun σ H Q ⟨F, R, q⟩ => ⟨F, R, by
    have q := rpure q
    show Run.run ((pure t : m Bool) >>= fun t => if t then pure true else (pure u : m Bool)) _
    rw [Run.pure_b]
    cases t <;> exact rpure' q⟩
/-- .. as values: all bools -/
abbrev DV (X : Cx) (b : Bs) (sl : Sls) (e : Expr) (c : m Bool) : Prop := DM X b sl e .pk c eB
theorem dv_one {op : BoolOp} {c : m Bool} (h : DV X b sl e c) : DV X b sl (.BoolOp op [e] pos) c := pe_one h
theorem dv_and {c c1 : m Bool} {rest : List Expr} (h : DV X b sl e c) (h1 : DV X b sl (.BoolOp .And (e1 :: rest) pos) c1) : DV X b sl (.BoolOp .And (e :: e1 :: rest) pos) (c >>= fun t => if t then c1 else pure false) :=
  PE.imp (pe_and h h1) fun σ H Q ⟨F, R, q⟩ => ⟨F, R, rmono (rbind q) fun t p v F' H' S r => by
    cases r
    refine ⟨_, rfl, ?_⟩
    cases t with
    | true => exact ⟨F', R.step S, rmono p fun t p v F2 H2 S2 r => p v F2 H2 (S.trans R.fe S2) r⟩
    | false =>
      have p := rpure p
      exact p _ F' H' S (.bl false)⟩
theorem dv_or {c c1 : m Bool} {rest : List Expr} (h : DV X b sl e c) (h1 : DV X b sl (.BoolOp .Or (e1 :: rest) pos) c1) : DV X b sl (.BoolOp .Or (e :: e1 :: rest) pos) (c >>= fun t => if t then pure true else c1) :=
  PE.imp (pe_or h h1) fun σ H Q ⟨F, R, q⟩ => ⟨F, R, rmono (rbind q) fun t p v F' H' S r => by
    cases r
    refine ⟨_, rfl, ?_⟩
    cases t with
    | false => exact ⟨F', R.step S, rmono p fun t p v F2 H2 S2 r => p v F2 H2 (S.trans R.fe S2) r⟩
    | true =>
      have p := rpure p
      exact p _ F' H' S (.bl true)⟩
theorem dv_andT {t u : Bool} {rest : List Expr} (h : DV X b sl e (pure t : m Bool)) (h1 : DV X b sl (.BoolOp .And (e1 :: rest) pos) (pure u : m Bool)) : DV X b sl (.BoolOp .And (e :: e1 :: rest) pos) (pure (t && u) : m Bool) :=
  PE.imp (dv_and h h1) fun σ H Q ⟨F, R, q⟩ => ⟨F, R, by
    have q := rpure q
    rw [Run.pure_b]
    cases t <;> exact rpure' q⟩
theorem dv_orT {t u : Bool} {rest : List Expr} (h : DV X b sl e (pure t : m Bool)) (h1 : DV X b sl (.BoolOp .Or (e1 :: rest) pos) (pure u : m Bool)) : DV X b sl (.BoolOp .Or (e :: e1 :: rest) pos) (pure (t || u) : m Bool) :=
  PE.imp (dv_or h h1) fun σ H Q ⟨F, R, q⟩ => ⟨F, R, by
    have q := rpure q
    rw [Run.pure_b]
    cases t <;> exact rpure' q⟩
theorem dv_not {c : m Bool} (h : DV X b sl e c) : DV X b sl (.UnaryOp .Not e pos) (c >>= fun t => pure (!t)) := PE.imp (pe_not h) fun σ H Q ⟨F, R, q⟩ => ⟨F, R, rmono (rbind q) fun t p v F' H' S r => by
    have p := rpure p
    cases r
    exact ⟨_, rfl, p _ F' H' S (.bl _)⟩⟩
theorem dv_notT {t : Bool} (h : DV X b sl e (pure t : m Bool)) : DV X b sl (.UnaryOp .Not e pos) (pure (!t) : m Bool) := PE.imp (pe_not h) fun σ H Q ⟨F, R, q⟩ => ⟨F, R, by
    have q := rpure q
    refine rpure' fun v F' H' S r => ?_
    cases r
    exact ⟨_, rfl, q _ F' H' S (.bl _)⟩⟩
/-- a if t else b -/
theorem dm_if {t : m Bool} {c c' : m α} (ht : DT X b sl e t) (h1 : DM X b sl e1 md c g) (h2 : DM X b sl e2 md c' g) : DM X b sl (.IfExp e e1 e2 pos) md (t >>= fun k => if k then c else c') g :=
  PE.imp (pe_ifExp ht h1 h2) fun σ H Q ⟨F, R, q⟩ => ⟨F, R, rmono (rbind q) fun k p F' H' S => by
    cases k with
    | true => exact ⟨F', R.step S, rmono p fun x p => p.back R.fe S⟩
    | false => exact ⟨F', R.step S, rmono p fun x p => p.back R.fe S⟩⟩
theorem dm_ifT {t : Bool} {x y : α} (ht : DT X b sl e (pure t : m Bool)) (h1 : DM X b sl e1 md (pure x : m α) g) (h2 : DM X b sl e2 md (pure y : m α) g) : DM X b sl (.IfExp e e1 e2 pos) md (pure (if t then x else y) : m α) g :=
  PE.imp (dm_if ht h1 h2) fun σ H Q ⟨F, R, q⟩ => ⟨F, R, by
    have q := rpure q
    rw [Run.pure_b]
    cases t <;> exact rpure' q⟩
end
end DL
namespace DL
open PySem PySem.Spec PyProof.Rows L2
section
variable {m : Type → Type} [Run m] {α β γ : Type} {K : PySem.W.Frag} {fd : Option Addr} {md : Md} {P : Int → Int → Prop}
/-! ### ints -/
theorem os_II {f : Int → Int → Int} : OpS K fd (rI0 fun i j => .int (f i j)) .pk .pk eI eI P (fun x y => (pure (f x y) : m Int)) md eI := fun F H v1 v2 x y Q _ fh fe r1 r2 q => by
  cases r1
  cases r2
  have q := rpure q
  exact ⟨x, y, rfl, rfl, Post.sc fh fe q rfl (.int _)⟩
theorem os_IB {f : Int → Int → Bool} : OpS K fd (rI0 fun i j => .bl (f i j)) .pk .pk eI eI P (fun x y => (pure (f x y) : m Bool)) md eB := fun F H v1 v2 x y Q _ fh fe r1 r2 q => by
  cases r1
  cases r2
  have q := rpure q
  exact ⟨x, y, rfl, rfl, Post.sc fh fe q rfl (.bl _)⟩
theorem os_IC {C : Int → Int → Prop} {f : Int → Int → Int} (h : ∀ x y, P x y → C x y) : OpS K fd (rI C fun i j => .int (f i j)) .pk .pk eI eI P (fun x y => (pure (f x y) : m Int)) md eI := fun F H v1 v2 x y Q p fh fe r1 r2 q => by
  cases r1
  cases r2
  have q := rpure q
  exact ⟨x, y, rfl, rfl, h x y p, Post.sc fh fe q rfl (.int _)⟩
theorem os_IP {C : Int → Int → Prop} {f : Int → Int → Int} {o : Int → Int → Option Int} (h : ∀ x y z, o x y = some z → C x y ∧ f x y = z) : OpS K fd (rI C fun i j => .int (f i j)) .pk .pk eI eI P (fun x y => (Run.lift (o x y) : m Int)) md eI := fun F H v1 v2 x y Q p fh fe r1 r2 q => by
  cases r1
  cases r2
  obtain ⟨z, e, q⟩ := rlift q
  obtain ⟨hc, rfl⟩ := h x y z e
  exact ⟨x, y, rfl, rfl, hc, Post.sc fh fe q rfl (.int _)⟩
def imul (x y : Int) : Option Int := if x.natAbs < 18446744073709551616 ∨ y.natAbs < 18446744073709551616 then some (x * y) else none
def idiv (x y : Int) : Option Int := if 0 < y ∧ y < 1073741824 then some (x / y) else none
def imod (x y : Int) : Option Int := if 0 < y then some (x % y) else none
def ipow (x y : Int) : Option Int := if 0 ≤ y ∧ y ≤ 1000000 ∧ x.natAbs < 18446744073709551616 then some (x ^ y.toNat) else none
def ishl (x y : Int) : Option Int := if 0 ≤ y ∧ y ≤ 1000000 ∧ x.natAbs < 18446744073709551616 then some (x * 2 ^ y.toNat) else none
def ishr (x y : Int) : Option Int := if 0 ≤ y then some (x / 2 ^ y.toNat) else none
theorem some_if {α : Type} {c : Prop} [Decidable c] {x z : α} (h : (if c then some x else none) = some z) : c ∧ x = z := by
  by_cases hc : c
  · rw [if_pos hc] at h; exact ⟨hc, Option.some.inj h⟩
  · rw [if_neg hc] at h; cases h
theorem os_mul : OpS K fd (rI CMul fun i j => .int (i * j)) .pk .pk eI eI P (fun x y => (Run.lift (imul x y) : m Int)) md eI := os_IP fun x y z h => by
  obtain ⟨h1, h2⟩ := some_if h
  refine ⟨?_, h2⟩
  rcases h1 with h1 | h1
  · exact .inl ⟨by omega, by omega⟩
  · exact .inr ⟨by omega, by omega⟩
/-- times a written number -/
theorem os_mulR {n : Int} (h : decide (n.natAbs < 18446744073709551616) = true) : OpS K fd (rI CMul fun i j => .int (i * j)) .pk .pk eI eI (fun _ y => y = n) (fun x _ => (pure (x * n) : m Int)) md eI := fun F H v1 v2 x y Q p fh fe r1 r2 q => by
  subst p
  have h' := of_decide_eq_true h
  exact os_IC (m := m) (P := fun _ z => z = y) (C := CMul) (f := fun i j => i * j) (fun x z hz => .inr (by subst hz; exact ⟨by omega, by omega⟩)) F H v1 v2 x y Q rfl fh fe r1 r2 q
theorem os_mulL {n : Int} (h : decide (n.natAbs < 18446744073709551616) = true) : OpS K fd (rI CMul fun i j => .int (i * j)) .pk .pk eI eI (fun x _ => x = n) (fun _ y => (pure (n * y) : m Int)) md eI := fun F H v1 v2 x y Q p fh fe r1 r2 q => by
  subst p
  have h' := of_decide_eq_true h
  exact os_IC (m := m) (P := fun z _ => z = x) (C := CMul) (f := fun i j => i * j) (fun z y hz => .inl (by subst hz; exact ⟨by omega, by omega⟩)) F H v1 v2 x y Q rfl fh fe r1 r2 q
theorem os_div : OpS K fd (rI CDiv fun i j => .int (i / j)) .pk .pk eI eI P (fun x y => (Run.lift (idiv x y) : m Int)) md eI := os_IP fun x y z h => by
  obtain ⟨h1, h2⟩ := some_if h
  exact ⟨h1, h2⟩
theorem os_mod : OpS K fd (rI (fun _ j => 0 < j) fun i j => .int (i % j)) .pk .pk eI eI P (fun x y => (Run.lift (imod x y) : m Int)) md eI := os_IP fun x y z h => some_if h
theorem os_divK {n : Int} (h : decide (0 < n ∧ n < 1073741824) = true) : OpS K fd (rI CDiv fun i j => .int (i / j)) .pk .pk eI eI (fun _ y => y = n) (fun x _ => (pure (x / n) : m Int)) md eI := fun F H v1 v2 x y Q p fh fe r1 r2 q => by
  subst p
  exact os_IC (m := m) (P := fun _ z => z = y) (C := CDiv) (f := fun i j => i / j) (fun x z hz => by subst hz; have h' := of_decide_eq_true h; exact h') F H v1 v2 x y Q rfl fh fe r1 r2 q
theorem os_modK {n : Int} (h : decide (0 < n) = true) : OpS K fd (rI (fun _ j => 0 < j) fun i j => .int (i % j)) .pk .pk eI eI (fun _ y => y = n) (fun x _ => (pure (x % n) : m Int)) md eI := fun F H v1 v2 x y Q p fh fe r1 r2 q => by
  subst p
  exact os_IC (m := m) (P := fun _ z => z = y) (C := fun _ j => 0 < j) (f := fun i j => i % j) (fun x z hz => by subst hz; exact of_decide_eq_true h) F H v1 v2 x y Q rfl fh fe r1 r2 q
theorem os_pow : OpS K fd (rI CPow fun i j => .int (i ^ j.toNat)) .pk .pk eI eI P (fun x y => (Run.lift (ipow x y) : m Int)) md eI := os_IP fun x y z h => by
  obtain ⟨h1, h2⟩ := some_if h
  exact ⟨⟨h1.1, h1.2.1, by omega⟩, h2⟩
theorem os_shl : OpS K fd (rI CPow fun i j => .int (i * 2 ^ j.toNat)) .pk .pk eI eI P (fun x y => (Run.lift (ishl x y) : m Int)) md eI := os_IP fun x y z h => by
  obtain ⟨h1, h2⟩ := some_if h
  exact ⟨⟨h1.1, h1.2.1, by omega⟩, h2⟩
theorem os_shr : OpS K fd (rI (fun _ j => 0 ≤ j) fun i j => .int (i / 2 ^ j.toNat)) .pk .pk eI eI P (fun x y => (Run.lift (ishr x y) : m Int)) md eI := os_IP fun x y z h => some_if h
theorem os_shrK {n : Int} (h : decide (0 ≤ n) = true) : OpS K fd (rI (fun _ j => 0 ≤ j) fun i j => .int (i / 2 ^ j.toNat)) .pk .pk eI eI (fun _ y => y = n) (fun x _ => (pure (x / 2 ^ n.toNat) : m Int)) md eI := fun F H v1 v2 x y Q p fh fe r1 r2 q => by
  subst p
  exact os_IC (m := m) (P := fun _ z => z = y) (C := fun _ j => 0 ≤ j) (f := fun i j => i / 2 ^ j.toNat) (fun x z hz => by subst hz; exact of_decide_eq_true h) F H v1 v2 x y Q rfl fh fe r1 r2 q
/-! ### ==, in -/
section
variable {P : α → β → Prop}
theorem os_eq [BEq α] {g : α → D} {k : Nat} [h : Eqv g k] (hk : decide (k ≤ 62) = true) : OpS K fd (rEqP K false) .pk .pk g g (fun _ _ => True) (fun x y => (pure (x == y) : m Bool)) md eB := fun F H v1 v2 x y Q _ fh fe r1 r2 q => by
  have hk := of_decide_eq_true hk
  have := h.depth x
  refine ⟨g x, g y, Rp.mono hid_sub r1, Rp.mono hid_sub r2, h.plain x, h.plain y, by omega, ?_⟩
  show Q (.bl (PyData.eqv (g x) (g y))) H
  rw [h.eqv]
  have q := rpure q
  exact Post.sc fh fe q rfl (.bl _)
theorem os_ne [BEq α] {g : α → D} {k : Nat} [h : Eqv g k] (hk : decide (k ≤ 62) = true) : OpS K fd (rEqP K true) .pk .pk g g (fun _ _ => True) (fun x y => (pure (x != y) : m Bool)) md eB := fun F H v1 v2 x y Q _ fh fe r1 r2 q => by
  have hk := of_decide_eq_true hk
  have := h.depth x
  refine ⟨g x, g y, Rp.mono hid_sub r1, Rp.mono hid_sub r2, h.plain x, h.plain y, by omega, ?_⟩
  show Q (.bl (!PyData.eqv (g x) (g y))) H
  rw [h.eqv]
  have q := rpure q
  exact Post.sc fh fe q rfl (.bl _)
/-- of any plain data, looked at where it stands -/
def deq (d e : D) : Option Bool := if d.plain = true ∧ e.plain = true ∧ d.depth ≤ 62 then some (PyData.eqv d e) else none
theorem os_eqD {g : α → D} {h : β → D} : OpS K fd (rEqP K false) .pk .pk g h P (fun x y => (Run.lift (deq (g x) (h y)) : m Bool)) md eB := fun F H v1 v2 x y Q _ fh fe r1 r2 q => by
  obtain ⟨z, e, q⟩ := rlift q
  obtain ⟨⟨h1, h2, h3⟩, rfl⟩ := some_if e
  exact ⟨g x, h y, Rp.mono hid_sub r1, Rp.mono hid_sub r2, h1, h2, by omega, Post.sc fh fe q rfl (.bl _)⟩
theorem os_neD {g : α → D} {h : β → D} : OpS K fd (rEqP K true) .pk .pk g h P (fun x y => (Run.lift ((deq (g x) (h y)).map (!·)) : m Bool)) md eB := fun F H v1 v2 x y Q _ fh fe r1 r2 q => by
  obtain ⟨z, e, q⟩ := rlift q
  obtain ⟨w, e2, rfl⟩ := Option.map_eq_some_iff.mp e
  obtain ⟨⟨h1, h2, h3⟩, rfl⟩ := some_if e2
  exact ⟨g x, h y, Rp.mono hid_sub r1, Rp.mono hid_sub r2, h1, h2, by omega, Post.sc fh fe q rfl (.bl _)⟩
end
section
variable {X : Cx}
theorem op_inP (hu : X.A.units + 64 < cLine) : OpR X (compareOp .In) (rInP X.K false) := by
  intro pins s σ H x y v u Q I rx ry h
  obtain ⟨d, ds, hd, he, sd, se, d1, d2, q⟩ := h
  obtain ⟨as, r1⟩ := Rp.reads I d x v sd hd rx
  rcases he with he | he
  · obtain ⟨bs, r2⟩ := Rp.reads I (.list ds) y u se he ry
    exact SeqAt.in_list_data r2 r1 se sd (by omega) ⟨.bl _, H, I, rfl, q⟩
  · obtain ⟨bs, r2⟩ := Rp.reads I (.tuple ds) y u se he ry
    exact SeqAt.in_tuple_data r2 r1 se sd (by omega) ⟨.bl _, H, I, rfl, q⟩
theorem op_notInP (hu : X.A.units + 64 < cLine) : OpR X (compareOp .NotIn) (rInP X.K true) := by
  intro pins s σ H x y v u Q I rx ry h
  obtain ⟨d, ds, hd, he, sd, se, d1, d2, q⟩ := h
  obtain ⟨as, r1⟩ := Rp.reads I d x v sd hd rx
  rcases he with he | he
  · obtain ⟨bs, r2⟩ := Rp.reads I (.list ds) y u se he ry
    exact SeqAt.notIn_list_data r2 r1 se sd (by omega) ⟨.bl _, H, I, rfl, q⟩
  · obtain ⟨bs, r2⟩ := Rp.reads I (.tuple ds) y u se he ry
    exact SeqAt.notIn_tuple_data r2 r1 se sd (by omega) ⟨.bl _, H, I, rfl, q⟩
end
theorem any_eqv [BEq α] {g : α → D} {k : Nat} [h : Eqv g k] (x : α) : ∀ xs : List α, (xs.map g).any (fun e => PyData.eqv e (g x)) = xs.any (fun y => y == x)
  | [] => rfl
  | y :: ys => by rw [List.map_cons, List.any_cons, List.any_cons, h.eqv, any_eqv x ys]
/-- x in xs -/
def lin [BEq α] (x : α) (xs : List α) : Bool := xs.any fun y => y == x
theorem os_in [BEq α] {g : α → D} {k : Nat} [h : Eqv g k] (hk : decide (k ≤ 62) = true) : OpS K fd (rInP K false) .pk .pk g (eL g) (fun _ _ => True) (fun x y => (pure (lin x y) : m Bool)) md eB := fun F H v1 v2 x y Q _ fh fe r1 r2 q => by
  have hk := of_decide_eq_true hk
  have h1 := h.depth x
  have h2 := depthAll_map h.depth y
  refine ⟨g x, y.map g, Rp.mono hid_sub r1, .inl (Rp.mono hid_sub r2), h.plain x, plainAll_map h.plain y, by omega, by omega, ?_⟩
  show Q (.bl ((y.map g).any fun e => PyData.eqv e (g x))) H
  rw [any_eqv]
  have q := rpure q
  exact Post.sc fh fe q rfl (.bl _)
theorem os_notin [BEq α] {g : α → D} {k : Nat} [h : Eqv g k] (hk : decide (k ≤ 62) = true) : OpS K fd (rInP K true) .pk .pk g (eL g) (fun _ _ => True) (fun x y => (pure (!lin x y) : m Bool)) md eB := fun F H v1 v2 x y Q _ fh fe r1 r2 q => by
  have hk := of_decide_eq_true hk
  have h1 := h.depth x
  have h2 := depthAll_map h.depth y
  refine ⟨g x, y.map g, Rp.mono hid_sub r1, .inl (Rp.mono hid_sub r2), h.plain x, plainAll_map h.plain y, by omega, by omega, ?_⟩
  show Q (.bl (!(y.map g).any fun e => PyData.eqv e (g x))) H
  rw [any_eqv]
  have q := rpure q
  exact Post.sc fh fe q rfl (.bl _)
theorem os_inT [BEq α] {g : α → D} {k : Nat} [h : Eqv g k] (hk : decide (k ≤ 62) = true) : OpS K fd (rInP K false) .pk .pk g (eT g) (fun _ _ => True) (fun x y => (pure (lin x y) : m Bool)) md eB := fun F H v1 v2 x y Q _ fh fe r1 r2 q => by
  have hk := of_decide_eq_true hk
  have h1 := h.depth x
  have h2 := depthAll_map h.depth y
  refine ⟨g x, y.map g, Rp.mono hid_sub r1, .inr (Rp.mono hid_sub r2), h.plain x, plainAll_map h.plain y, by omega, by omega, ?_⟩
  show Q (.bl ((y.map g).any fun e => PyData.eqv e (g x))) H
  rw [any_eqv]
  have q := rpure q
  exact Post.sc fh fe q rfl (.bl _)
theorem os_notinT [BEq α] {g : α → D} {k : Nat} [h : Eqv g k] (hk : decide (k ≤ 62) = true) : OpS K fd (rInP K true) .pk .pk g (eT g) (fun _ _ => True) (fun x y => (pure (!lin x y) : m Bool)) md eB := fun F H v1 v2 x y Q _ fh fe r1 r2 q => by
  have hk := of_decide_eq_true hk
  have h1 := h.depth x
  have h2 := depthAll_map h.depth y
  refine ⟨g x, y.map g, Rp.mono hid_sub r1, .inr (Rp.mono hid_sub r2), h.plain x, plainAll_map h.plain y, by omega, by omega, ?_⟩
  show Q (.bl (!(y.map g).any fun e => PyData.eqv e (g x))) H
  rw [any_eqv]
  have q := rpure q
  exact Post.sc fh fe q rfl (.bl _)
/-! ### lists -/
/-- what is new: a list of things that stay, at a new place -/
theorem Post.newL {F H : Hp} {d : List D} {vs : List V} {Q : VK} {p : Addr} (hm : md = .pk ∨ md = .ow 0 ∨ md = .ow 1) (fh : Sub F (hid fd H)) (fe : FeedOk K fd F H) (h : Post K fd md F H (.list d) Q) (r : RpAll K F vs d) (hl : d.length ≤ sizeLine) (np : H p = none) :
    Q (.ref p) (upd H p (.lst vs)) := by
  have A := Step.allocF (K := K) (o := .lst vs) fh fe np
  rcases hm with rfl | rfl | rfl
  · exact h _ _ _ A ((Rp.lst (by exact upd_same) (r.mono A.ff) hl).mono A.fh)
  · exact h _ _ _ [] A (.z (.lst upd_same (r.mono A.ff) hl)) .nil
  · exact h _ F _ [(p, .lst vs)] (Step.alloc fh fe np) (.lst (OwnAll.zero r) hl) ⟨by simp, fun c hc => by
      have : c = (p, .lst vs) := by simpa using hc
      subst this
      exact ⟨upd_same, (fh.trans hid_sub).none np, np⟩⟩
end
end DL
namespace DL
open PySem PySem.Spec PyProof.Rows L2
def NewL (md : Md) : Prop := md = .pk ∨ md = .ow 0 ∨ md = .ow 1
theorem nlP : NewL .pk := .inl rfl
theorem nl0 : NewL (.ow 0) := .inr (.inl rfl)
theorem nl1 : NewL (.ow 1) := .inr (.inr rfl)
def lcat {α : Type} (xs ys : List α) : Option (List α) := if xs.length + ys.length ≤ 16777216 then some (xs ++ ys) else none
def lrep {α : Type} (xs : List α) (k : Int) : Option (List α) := if -9223372036854775808 ≤ k ∧ k < 9223372036854775808 ∧ xs.length * k.toNat ≤ 16777216 then some (List.replicate k.toNat xs).flatten else none
def lcut {α : Type} (xs : List α) (lo hi : Option Int) : List α := (xs.drop (HT.sIx xs.length 0 lo)).take (HT.sIx xs.length xs.length hi - HT.sIx xs.length 0 lo)
section
variable {m : Type → Type} [Run m] {α β γ : Type} {K : PySem.W.Frag} {fd : Option Addr} {md : Md} {g : α → D}
theorem sl16 : sizeLine = 16777216 := rfl
theorem map_rep {g : α → D} (xs : List α) (n : Nat) : ((List.replicate n xs).flatten).map g = (List.replicate n (xs.map g)).flatten := by
  induction n with
  | zero => rfl
  | succ n ih => rw [List.replicate_succ, List.replicate_succ, List.flatten_cons, List.flatten_cons, List.map_append, ih]
theorem RpAll.rep {F : Hp} {vs : List V} {ds : List D} (h : RpAll K F vs ds) (n : Nat) : RpAll K F (List.replicate n vs).flatten (List.replicate n ds).flatten := by
  induction n with
  | zero => exact .nil
  | succ n ih => rw [List.replicate_succ, List.replicate_succ, List.flatten_cons, List.flatten_cons]; exact h.append ih
theorem os_cat (hm : NewL md) : OpS K fd rCat .sh .sh (eL g) (eL g) (fun _ _ => True) (fun x y => (Run.lift (lcat x y) : m (List α))) md (eL g) := fun F H v1 v2 x y Q _ fh fe r1 r2 q => by
  obtain ⟨z, e, q⟩ := rlift q
  obtain ⟨hz, rfl⟩ := some_if e
  obtain ⟨p1, w1, d1, rfl, e1, h1, a1, l1⟩ := r1
  obtain ⟨p2, w2, d2, rfl, e2, h2, a2, l2⟩ := r2
  injection e1 with e1
  injection e2 with e2
  subst e1 e2
  refine ⟨p1, p2, w1, w2, rfl, rfl, hid_sub _ _ h1, hid_sub _ _ h2, ?_, fun p np => ?_⟩
  · rw [a1.length, a2.length, List.length_map, List.length_map]; exact hz
  · have q : Post K fd md F H (.list ((x ++ y).map g)) Q := q
    rw [List.map_append] at q
    exact Post.newL hm fh fe q (a1.append a2) (by rw [List.length_append, List.length_map, List.length_map]; exact hz) np
theorem os_rep (hm : NewL md) : OpS K fd rRep .sh .pk (eL g) eI (fun _ _ => True) (fun x y => (Run.lift (lrep x y) : m (List α))) md (eL g) := fun F H v1 v2 x y Q _ fh fe r1 r2 q => by
  obtain ⟨z, e, q⟩ := rlift q
  obtain ⟨⟨hz1, hz2, hz⟩, rfl⟩ := some_if e
  obtain ⟨p1, w1, d1, rfl, e1, h1, a1, l1⟩ := r1
  cases r2
  injection e1 with e1
  subst e1
  refine ⟨p1, y, w1, rfl, rfl, hid_sub _ _ h1, hz1, hz2, ?_, fun p np => ?_⟩
  · rw [a1.length, List.length_map]; exact hz
  · have q : Post K fd md F H (.list (((List.replicate y.toNat x).flatten).map g)) Q := q
    rw [map_rep] at q
    refine Post.newL hm fh fe q (a1.rep _) ?_ np
    rw [PyProof.Rows.lm_len_rep_flat, List.length_map, Nat.mul_comm]; exact hz
theorem atI_map {α β : Type} {f : α → β} {xs : List α} {i : Int} : atI (xs.map f) i = (atI xs i).map f := by
  unfold atI
  rw [List.length_map]
  cases ixN xs.length i with
  | none => rfl
  | some j => show (xs.map f)[j]? = (xs[j]?).map f; rw [List.getElem?_map]
theorem RpAll.atI {F : Hp} {vs : List V} {ds : List D} (h : RpAll K F vs ds) {i : Int} {d : D} (e : atI ds i = some d) : ∃ v, atI vs i = some v ∧ Rp K F v d := by
  unfold L2.atI at e ⊢
  rw [h.length]
  cases hq : ixN ds.length i with
  | none => rw [hq] at e; cases e
  | some j => rw [hq] at e; exact h.get e
/-- an item of a list: it stays -/
theorem os_ixL : OpS K fd (rIxL K) .sh .pk (eL g) eI (fun _ _ => True) (fun x y => (Run.lift (atI x y) : m α)) (.ow 0) g := fun F H v1 v2 x y Q _ fh fe r1 r2 q => by
  obtain ⟨z, e, q⟩ := rlift q
  obtain ⟨p1, w1, d1, rfl, e1, h1, a1, l1⟩ := r1
  cases r2
  injection e1 with e1
  subst e1
  obtain ⟨v, ev, rv⟩ := a1.atI (d := g z) (by rw [atI_map, e]; rfl)
  exact ⟨p1, w1, y, v, rfl, rfl, SqL.of (hid_sub _ _ h1), ev, Post.fr (.refl fh fe) q rv⟩
/-- .. looked at -/
theorem os_ixLP : OpS K fd (rIxL K) .pk .pk (eL g) eI (fun _ _ => True) (fun x y => (Run.lift (atI x y) : m α)) .pk g := fun F H v1 v2 x y Q _ fh fe r1 r2 q => by
  obtain ⟨z, e, q⟩ := rlift q
  cases r2
  cases r1 with
  | lst h1 a1 l1 =>
    obtain ⟨v, ev, rv⟩ := a1.atI (d := g z) (by rw [atI_map, e]; rfl)
    exact ⟨_, _, y, v, rfl, rfl, SqL.of (hid_sub _ _ h1), ev, q v F H (.refl fh fe) rv⟩
theorem os_ixT : OpS K fd (rIxT K) .fr .pk (eT g) eI (fun _ _ => True) (fun x y => (Run.lift (atI x y) : m α)) (.ow 0) g := fun F H v1 v2 x y Q _ fh fe r1 r2 q => by
  obtain ⟨z, e, q⟩ := rlift q
  cases r2
  cases r1 with
  | tup h1 a1 l1 =>
    obtain ⟨v, ev, rv⟩ := a1.atI (d := g z) (by rw [atI_map, e]; rfl)
    exact ⟨_, _, y, v, rfl, rfl, (fh.trans hid_sub).sqt h1, ev, Post.fr (.refl fh fe) q rv⟩
end
section
variable {m : Type → Type} [Run m] {α β γ : Type} {X : Cx} {b : Bs} {sl : Sls} {e e1 e2 : Expr} {md : Md} {c : m α} {g : α → D} {c1 : m β} {g1 : β → D} {pos : Pos} {am am2 : Am} {h : γ → D}
/-! ### slices -/
def tAO (K : PySem.W.Frag) (b : Bs) (sl : Sls) (c : m (Option Int)) : TO := fun σ H Q => ∃ F, Rel K b sl F H σ ∧ Run.run c (fun x => ∀ F' H', Step K b.fd F H F' H' → Q x H')
theorem PO.imp {e : Option Expr} {t t' : TO} (h : PO X e t) (k : ∀ σ H Q, t' σ H Q → t σ H Q) : PO X e t' := ⟨fun pins s σ H Q I q => h.run pins s σ H Q I (k σ H Q q)⟩
theorem po_no : PO X none (tAO X.K b sl (pure none : m (Option Int))) := PO.imp po_none fun σ H Q ⟨F, R, q⟩ => by
  have q := rpure q
  exact q F H (.refl R.sub R.fe)
theorem po_yes {c : m Int} (h : DA X b sl e .pk c eI) : PO X (some e) (tAO X.K b sl (c >>= fun i => pure (some i))) := PO.imp (po_some h) fun σ H Q ⟨F, R, q⟩ => ⟨F, R, rmono (rbind q) fun x p v F' H' S r => by
  have p := rpure p
  cases r
  exact ⟨x, rfl, p F' H' S⟩⟩
theorem po_yesT {i : Int} (h : DA X b sl e .pk (pure i : m Int) eI) : PO X (some e) (tAO X.K b sl (pure (some i) : m (Option Int))) := PO.imp (po_some h) fun σ H Q ⟨F, R, q⟩ => ⟨F, R, by
  have q := rpure q
  refine rpure' fun v F' H' S r => ?_
  cases r
  exact ⟨i, rfl, q F' H' S⟩⟩
theorem map_cut {xs : List α} {lo hi : Option Int} : (lcut xs lo hi).map g = lcut (xs.map g) lo hi := by unfold lcut; rw [List.map_take, List.map_drop, List.length_map]
theorem RpAll.cut {K : PySem.W.Frag} {F : Hp} {vs : List V} {ds : List D} (h : RpAll K F vs ds) (lo hi : Option Int) : RpAll K F (cutV vs lo hi) (lcut ds lo hi) := by
  unfold cutV lcut
  rw [h.length]
  exact (h.drop _).take _
theorem lcut_le {xs : List α} {lo hi : Option Int} : (lcut xs lo hi).length ≤ xs.length := by unfold lcut; rw [List.length_take, List.length_drop]; omega
theorem dm_slice {lo hi : Option Expr} {c : m (List α)} {cl ch : m (Option Int)} {p2 : Pos} (hm : NewL md) (he : DA X b sl e .sh c (eL g)) (hl : PO X lo (tAO X.K b sl cl)) (hh : PO X hi (tAO X.K b sl ch)) :
    DM X b sl (.Subscript e (.Slice lo hi none p2) pos) md (c >>= fun x => cl >>= fun l => ch >>= fun h => pure (lcut x l h)) (eL g) := PE.imp (pe_slice sl_list he hl hh) fun σ H Q ⟨F, R, q⟩ => ⟨F, R, rmono (rbind q) fun x p v F1 H1 S1 r1 =>
  ⟨F1, R.step S1, rmono (rbind p) fun l p F2 H2 S2 => ⟨F2, (R.step S1).step S2, rmono (rbind p) fun h p F3 H3 S3 => by
    have p := rpure p
    have S23 := S2.trans (R.step S1).fe S3
    have R3 := (R.step S1).step S23
    obtain ⟨p1, w1, d1, rfl, e1, h1, a1, l1⟩ := r1.step S23
    injection e1 with e1
    subst e1
    refine ⟨p1, w1, rfl, SqL.of (hid_sub _ _ h1), fun p' np => ?_⟩
    have p : Post X.K b.fd md F H (.list ((lcut x l h).map g)) Q := p
    rw [map_cut] at p
    exact Post.newL hm R3.sub R3.fe (p.back R.fe (S1.trans R.fe S23)) (a1.cut l h) (Nat.le_trans lcut_le l1) np⟩⟩⟩
theorem dm_rev {c : m (List α)} {k : Nat} {p1 p2 p3 : Pos} (hm : NewL md) (he : DA X b sl e .sh c (eL g)) : DM X b sl (.Subscript e (.Slice none none (some (.UnaryOp .USub (.Constant (.int 1) k p1) p2)) p3) pos) md (c >>= fun x => pure x.reverse) (eL g) :=
  PE.imp (pe_revL he) fun σ H Q ⟨F, R, q⟩ => ⟨F, R, rmono (rbind q) fun x p v F1 H1 S1 r1 => by
    have p := rpure p
    have R1 := R.step S1
    obtain ⟨p1, w1, d1, rfl, e1, h1, a1, l1⟩ := r1
    injection e1 with e1
    subst e1
    refine ⟨p1, w1, rfl, SqL.of (hid_sub _ _ h1), fun p' np => ?_⟩
    have p : Post X.K b.fd md F H (.list (x.reverse.map g)) Q := p
    rw [List.map_reverse] at p
    exact Post.newL hm R1.sub R1.fe (p.back R.fe S1) a1.reverse (by rw [List.length_reverse]; exact l1) np⟩
/-! ### calls of built-ins -/
def OpS1 (K : PySem.W.Frag) (fd : Option Addr) (r : List V → Hp → VK → Prop) (a1 : Am) (ga : α → D) (k : α → m γ) (md : Md) (h : γ → D) : Prop :=
  ∀ F H v1 x Q, Sub F (hid fd H) → FeedOk K fd F H → ArgOk K fd F H a1 v1 (ga x) → Run.run (k x) (fun z => Post K fd md F H (h z) Q) → r [v1] H Q
def OpS2 (K : PySem.W.Frag) (fd : Option Addr) (r : List V → Hp → VK → Prop) (a1 a2 : Am) (ga : α → D) (gb : β → D) (k : α → β → m γ) (md : Md) (h : γ → D) : Prop :=
  ∀ F H v1 v2 x y Q, Sub F (hid fd H) → FeedOk K fd F H → ArgOk K fd F H a1 v1 (ga x) → ArgOk K fd F H a2 v2 (gb y) → Run.run (k x y) (fun z => Post K fd md F H (h z) Q) → r [v1, v2] H Q
theorem tD_c1 {r : List V → Hp → VK → Prop} {k : α → m γ} (hr : OpS1 X.K b.fd r am g k md h) {σ : L2.St} {H : Hp} {Q : VK} (q : tD X.K b sl md (c >>= k) h σ H Q) : tCB r (tCons (tA X.K b sl am c g) tNil) σ H Q := by
  obtain ⟨F, R, q⟩ := q
  refine ⟨F, R, rmono (rbind q) fun x q v1 F1 H1 S1 r1 => ?_⟩
  have R1 := R.step S1
  exact hr F1 H1 v1 x Q R1.sub R1.fe r1 (rmono q fun z p => p.back R.fe S1)
theorem tD_c2 {r : List V → Hp → VK → Prop} {k : α → β → m γ} (hr : OpS2 X.K b.fd r am am2 g g1 k md h) {σ : L2.St} {H : Hp} {Q : VK} (q : tD X.K b sl md (c >>= fun x => c1 >>= fun y => k x y) h σ H Q) : tCB r (tCons (tA X.K b sl am c g) (tCons (tA X.K b sl am2 c1 g1) tNil)) σ H Q := by
  obtain ⟨F, R, q⟩ := q
  refine ⟨F, R, rmono (rbind q) fun x q v1 F1 H1 S1 r1 => ?_⟩
  have R1 := R.step S1
  refine ⟨F1, R1, rmono (rbind q) fun y q v2 F2 H2 S2 r2 => ?_⟩
  have R2 := R1.step S2
  exact hr F2 H2 v1 v2 x y Q R2.sub R2.fe (r1.step S2) r2 (rmono q fun z p => p.back R.fe (S1.trans R.fe S2))
variable {x : Str} {p : Pos} {id T : String} {r : List V → Hp → VK → Prop}
theorem dm_cB {k : α → m γ} (hc : CallR X (.builtin id) r) (hr : OpS1 X.K b.fd r am g k md h) (hm : X.mg x = none) (hv : bootBuiltins x = some (.builtin id)) (ha : DA X b sl e am c g) (hg : Gl X x := by rfl) (hn : x ≠ "__name__" := by decide) (hdb : (x == ("__debug__" : Str)) = false := by decide)
    (hs : starEach [e] X.env = (false, eval e X.env) :: starEach [] X.env := by rfl) :
    DM X b sl (.Call (.Name x p) [e] [] pos) md (c >>= k) h := PE.imp (pe_callB hc hg hm hv (pa_cons ha pa_nil hs) hn hdb hs) fun _ _ _ q => tD_c1 hr q
theorem dm_cT {k : α → m γ} (hc : CallR X (.type T) r) (hr : OpS1 X.K b.fd r am g k md h) (hm : X.mg x = none) (hv : bootBuiltins x = some (.type T)) (ha : DA X b sl e am c g) (hg : Gl X x := by rfl) (hn : x ≠ "__name__" := by decide) (hdb : (x == ("__debug__" : Str)) = false := by decide)
    (hs : starEach [e] X.env = (false, eval e X.env) :: starEach [] X.env := by rfl) :
    DM X b sl (.Call (.Name x p) [e] [] pos) md (c >>= k) h := PE.imp (pe_callTy hc hg hm hv (pa_cons ha pa_nil hs) hn hdb hs) fun _ _ _ q => tD_c1 hr q
theorem dm_cB2 {k : α → β → m γ} (hc : CallR X (.builtin id) r) (hr : OpS2 X.K b.fd r am am2 g g1 k md h) (hm : X.mg x = none) (hv : bootBuiltins x = some (.builtin id)) (ha : DA X b sl e1 am c g) (hb : DA X b sl e2 am2 c1 g1) (hg : Gl X x := by rfl) (hn : x ≠ "__name__" := by decide) (hdb : (x == ("__debug__" : Str)) = false := by decide)
    (hs : starEach [e1, e2] X.env = (false, eval e1 X.env) :: starEach [e2] X.env := by rfl) (hs2 : starEach [e2] X.env = (false, eval e2 X.env) :: starEach [] X.env := by rfl) (hpl : (backTo pos (starEach [e2] X.env)).any (·.1) = false := by rfl) :
    DM X b sl (.Call (.Name x p) [e1, e2] [] pos) md (c >>= fun x => c1 >>= fun y => k x y) h := PE.imp (pe_callB hc hg hm hv (pa_cons ha (pa_cons hb pa_nil hs2) hs) hn hdb hs hpl) fun _ _ _ q => tD_c2 hr q
end
section
variable {m : Type → Type} [Run m] {α β γ : Type} {K : PySem.W.Frag} {fd : Option Addr} {md : Md} {g : α → D}
abbrev rLen (K : PySem.W.Frag) : List V → Hp → VK → Prop := fun xs H Q => ∃ p ys, xs = [.ref p] ∧ (SqL K H p ys ∨ SqT K H p ys) ∧ Q (.int ys.length) H
theorem os_len : OpS1 K fd (rLen K) .pk (eL g) (fun x => (pure (x.length : Int) : m Int)) md eI := fun F H v1 x Q fh fe r1 q => by
  have q := rpure q
  cases r1 with
  | lst h1 a1 l1 =>
    refine ⟨_, _, rfl, .inl (SqL.of (hid_sub _ _ h1)), ?_⟩
    rw [a1.length, List.length_map]
    exact Post.sc fh fe q rfl (.int _)
theorem os_lenT : OpS1 K fd (rLen K) .pk (eT g) (fun x => (pure (x.length : Int) : m Int)) md eI := fun F H v1 x Q fh fe r1 q => by
  have q := rpure q
  cases r1 with
  | tup h1 a1 l1 =>
    refine ⟨_, _, rfl, .inr (hid_sub.sqt h1), ?_⟩
    rw [a1.length, List.length_map]
    exact Post.sc fh fe q rfl (.int _)
abbrev rLenS : List V → Hp → VK → Prop := fun xs H Q => ∃ z, xs = [.str z] ∧ z.length ≤ sizeLine ∧ Q (.int z.length) H
def slen (z : Str) : Option Int := if z.length ≤ 16777216 then some z.length else none
theorem os_lenS : OpS1 K fd rLenS .pk eS (fun x => (Run.lift (slen x) : m Int)) md eI := fun F H v1 x Q fh fe r1 q => by
  obtain ⟨z, e, q⟩ := rlift q
  obtain ⟨hz, rfl⟩ := some_if e
  cases r1
  exact ⟨x, rfl, hz, Post.sc fh fe q rfl (.int _)⟩
abbrev rListOf (K : PySem.W.Frag) : List V → Hp → VK → Prop := fun xs H Q => ∃ p ys, xs = [.ref p] ∧ (SqL K H p ys ∨ SqT K H p ys) ∧ ∀ l, H l = none → Q (.ref l) (upd H l (.lst ys))
theorem os_listOf (hm : NewL md) : OpS1 K fd (rListOf K) .sh (eL g) (fun x => (pure x : m (List α))) md (eL g) := fun F H v1 x Q fh fe r1 q => by
  have q := rpure q
  obtain ⟨p1, w1, d1, rfl, e1, h1, a1, l1⟩ := r1
  injection e1 with e1
  subst e1
  exact ⟨p1, w1, rfl, .inl (SqL.of (hid_sub _ _ h1)), fun p np => Post.newL hm fh fe q a1 l1 np⟩
theorem os_listOfT (hm : NewL md) : OpS1 K fd (rListOf K) .fr (eT g) (fun x => (pure x : m (List α))) md (eL g) := fun F H v1 x Q fh fe r1 q => by
  have q := rpure q
  cases r1 with
  | tup h1 a1 l1 => exact ⟨_, _, rfl, .inr ((fh.trans hid_sub).sqt h1), fun p np => Post.newL hm fh fe q a1 l1 np⟩
theorem os_sum : OpS1 K fd (rSum K) .pk (eL eI) (fun x => (pure x.sum : m Int)) md eI := fun F H v1 x Q fh fe r1 q => by
  have q := rpure q
  cases r1 with
  | lst h1 a1 l1 =>
    have e := RpAll.ints (ns := x) a1
    subst e
    exact ⟨_, x, rfl, SqL.of (hid_sub _ _ h1), Post.sc fh fe q rfl (.int _)⟩
def lmax : List Int → Option Int
  | [] => none
  | x :: xs => some (xs.foldl (fun a c => if a < c then c else a) x)
def lmin : List Int → Option Int
  | [] => none
  | x :: xs => some (xs.foldl (fun a c => if c < a then c else a) x)
theorem foldl_max : ∀ (xs : List Int) (x : Int), x ≤ xs.foldl (fun a c => if a < c then c else a) x ∧ (∀ y ∈ xs, y ≤ xs.foldl (fun a c => if a < c then c else a) x) ∧ (xs.foldl (fun a c => if a < c then c else a) x = x ∨ xs.foldl (fun a c => if a < c then c else a) x ∈ xs)
  | [], x => ⟨Int.le_refl _, (fun _ h => nomatch h), .inl rfl⟩
  | y :: xs, x => by
    obtain ⟨h1, h2, h3⟩ := foldl_max xs (if x < y then y else x)
    rw [List.foldl_cons]
    generalize xs.foldl (fun a c => if a < c then c else a) (if x < y then y else x) = M at h1 h2 h3 ⊢
    refine ⟨?_, fun z hz => ?_, ?_⟩
    · split at h1 <;> omega
    · rcases List.mem_cons.mp hz with rfl | hz
      · split at h1 <;> omega
      · exact h2 z hz
    · rcases h3 with h3 | h3
      · rw [h3]; split
        · exact .inr (by simp)
        · exact .inl rfl
      · exact .inr (List.mem_cons_of_mem _ h3)
theorem foldl_min : ∀ (xs : List Int) (x : Int), xs.foldl (fun a c => if c < a then c else a) x ≤ x ∧ (∀ y ∈ xs, xs.foldl (fun a c => if c < a then c else a) x ≤ y) ∧ (xs.foldl (fun a c => if c < a then c else a) x = x ∨ xs.foldl (fun a c => if c < a then c else a) x ∈ xs)
  | [], x => ⟨Int.le_refl _, (fun _ h => nomatch h), .inl rfl⟩
  | y :: xs, x => by
    obtain ⟨h1, h2, h3⟩ := foldl_min xs (if y < x then y else x)
    rw [List.foldl_cons]
    generalize xs.foldl (fun a c => if c < a then c else a) (if y < x then y else x) = M at h1 h2 h3 ⊢
    refine ⟨?_, fun z hz => ?_, ?_⟩
    · split at h1 <;> omega
    · rcases List.mem_cons.mp hz with rfl | hz
      · split at h1 <;> omega
      · exact h2 z hz
    · rcases h3 with h3 | h3
      · rw [h3]; split
        · exact .inr (by simp)
        · exact .inl rfl
      · exact .inr (List.mem_cons_of_mem _ h3)
theorem os_max : OpS1 K fd (rMax K) .pk (eL eI) (fun x => (Run.lift (lmax x) : m Int)) md eI := fun F H v1 x Q fh fe r1 q => by
  obtain ⟨z, e, q⟩ := rlift q
  cases x with
  | nil => cases e
  | cons y ys =>
    cases e
    obtain ⟨k1, k2, k3⟩ := foldl_max ys y
    cases r1 with
    | lst h1 a1 l1 =>
      have e := RpAll.ints (ns := y :: ys) a1
      subst e
      refine ⟨_, y :: ys, rfl, SqL.of (hid_sub _ _ h1), by simp, fun z hz hle => ?_⟩
      have : z = ys.foldl (fun a c => if a < c then c else a) y := by
        have g1 : ys.foldl (fun a c => if a < c then c else a) y ≤ z := by
          rcases k3 with k3 | k3
          · rw [k3]; exact hle y (by simp)
          · exact hle _ (List.mem_cons_of_mem _ k3)
        have g2 : z ≤ ys.foldl (fun a c => if a < c then c else a) y := by
          rcases List.mem_cons.mp hz with rfl | hz
          · exact k1
          · exact k2 z hz
        omega
      subst this
      exact Post.sc fh fe q rfl (.int _)
theorem os_min : OpS1 K fd (rMin K) .pk (eL eI) (fun x => (Run.lift (lmin x) : m Int)) md eI := fun F H v1 x Q fh fe r1 q => by
  obtain ⟨z, e, q⟩ := rlift q
  cases x with
  | nil => cases e
  | cons y ys =>
    cases e
    obtain ⟨k1, k2, k3⟩ := foldl_min ys y
    cases r1 with
    | lst h1 a1 l1 =>
      have e := RpAll.ints (ns := y :: ys) a1
      subst e
      refine ⟨_, y :: ys, rfl, SqL.of (hid_sub _ _ h1), by simp, fun z hz hle => ?_⟩
      have : z = ys.foldl (fun a c => if c < a then c else a) y := by
        have g1 : z ≤ ys.foldl (fun a c => if c < a then c else a) y := by
          rcases k3 with k3 | k3
          · rw [k3]; exact hle y (by simp)
          · exact hle _ (List.mem_cons_of_mem _ k3)
        have g2 : ys.foldl (fun a c => if c < a then c else a) y ≤ z := by
          rcases List.mem_cons.mp hz with rfl | hz
          · exact k1
          · exact k2 z hz
        omega
      subst this
      exact Post.sc fh fe q rfl (.int _)
abbrev rAbs : List V → Hp → VK → Prop := fun xs H Q => ∃ i, xs = [.int i] ∧ Q (.int (if i < 0 then -i else i)) H
def iabs (i : Int) : Int := if i < 0 then -i else i
theorem os_abs : OpS1 K fd rAbs .pk eI (fun x => (pure (iabs x) : m Int)) md eI := fun F H v1 x Q fh fe r1 q => by
  have q := rpure q
  cases r1
  exact ⟨x, rfl, Post.sc fh fe q rfl (.int _)⟩
abbrev rInt1 : List V → Hp → VK → Prop := fun xs H Q => (∃ i, xs = [.int i] ∧ Q (.int i) H) ∨ ∃ k, xs = [.bl k] ∧ Q (.int (if k then 1 else 0)) H
theorem os_int : OpS1 K fd rInt1 .pk eI (fun x => (pure x : m Int)) md eI := fun F H v1 x Q fh fe r1 q => by
  have q := rpure q
  cases r1
  exact .inl ⟨x, rfl, Post.sc fh fe q rfl (.int _)⟩
def b2n (k : Bool) : Int := if k then 1 else 0
theorem os_intB : OpS1 K fd rInt1 .pk eB (fun x => (pure (b2n x) : m Int)) md eI := fun F H v1 x Q fh fe r1 q => by
  have q := rpure q
  cases r1
  exact .inr ⟨x, rfl, Post.sc fh fe q rfl (.int _)⟩
def lsort (xs : List Int) : List Int := xs.mergeSort (fun a c => decide (a ≤ c))
theorem lsort_eq {xs ys : List Int} (h1 : ys.Perm xs) (h2 : ys.Pairwise (· ≤ ·)) : ys = lsort xs := by
  have k1 : (lsort xs).Perm xs := List.mergeSort_perm _ _
  have k2 : (lsort xs).Pairwise (fun a c => decide (a ≤ c) = true) := List.pairwise_mergeSort (fun a c d h k => by
    have := of_decide_eq_true h
    have := of_decide_eq_true k
    exact decide_eq_true (by omega)) (fun a c => by
    by_cases h : a ≤ c
    · simp [h]
    · have : c ≤ a := by omega
      simp [this]) _
  have k2' : (lsort xs).Pairwise (· ≤ ·) := k2.imp fun h => of_decide_eq_true h
  exact (h1.trans k1.symm).eq_of_pairwise (fun a c _ _ h k => Int.le_antisymm h k) h2 k2'
theorem os_sorted (hm : NewL md) : OpS1 K fd (rSortedI K) .pk (eL eI) (fun x => (pure (lsort x) : m (List Int))) md (eL eI) := fun F H v1 x Q fh fe r1 q => by
  have q := rpure q
  cases r1 with
  | lst h1 a1 l1 =>
    have e := RpAll.ints (ns := x) a1
    subst e
    refine ⟨_, x, rfl, SqL.of (hid_sub _ _ h1), fun ns' p pm pw np => ?_⟩
    have e := lsort_eq pm pw
    subst e
    refine Post.newL hm fh fe q (RpAll.ofInts (lsort x)) ?_ np
    rw [List.length_map, pm.length_eq, ← List.length_map (f := PyData.int)]; exact l1
end
end DL
namespace DL
open PySem PySem.Spec PyProof.Rows L2
theorem PA.imp {X : Cx} {e : List Expr} {t t' : TA} (h : PA X e t) (k : ∀ σ H Q, t' σ H Q → t σ H Q) : PA X e t' := ⟨fun p pins s σ H Q I q => h.run p pins s σ H Q I (k σ H Q q)⟩
theorem PA.ex {X : Cx} {e : List Expr} {α : Type} {t : α → TA} (h : ∀ x, PA X e (t x)) : PA X e (fun σ H Q => ∃ x, t x σ H Q) := ⟨fun p pins s σ H Q I ⟨x, q⟩ => (h x).run p pins s σ H Q I q⟩
section
variable {K : PySem.W.Frag} {fd : Option Addr}
theorem Holds.step {C : List Cell} {F H F1 H1 F2 H2 : Hp} (fe : FeedOk K fd F H) (S1 : Step K fd F H F1 H1) (h : Holds C F1 H1 H) (S : Step K fd F1 H1 F2 H2) : Holds C F2 H2 H := ⟨h.1, fun c hc => by
  obtain ⟨h1, h2, h3⟩ := h.2 c hc
  have nf : fd ≠ some c.1 := fun z => by
    obtain ⟨o, q⟩ := fe.some z
    rw [h3] at q; cases q
  have := S.hh c.1 c.2 (by rw [hid_ne nf]; exact h1)
  rw [hid_ne nf] at this
  exact ⟨this, S.st c.1 (by rw [h1]; simp) h2, h3⟩⟩
theorem Holds.append {C1 C2 : List Cell} {F H F1 H1 F2 H2 : Hp} (fe : FeedOk K fd F H) (S1 : Step K fd F H F1 H1) (h1 : Holds C1 F1 H1 H) (S : Step K fd F1 H1 F2 H2) (h2 : Holds C2 F2 H2 H1) : Holds (C1 ++ C2) F2 H2 H := by
  have k1 := h1.step fe S1 S
  refine ⟨?_, fun c hc => ?_⟩
  · rw [List.map_append, List.nodup_append]
    refine ⟨h1.1, h2.1, fun a ha b hb e => ?_⟩
    obtain ⟨c, hc, rfl⟩ := List.mem_map.mp ha
    obtain ⟨c', hc', rfl⟩ := List.mem_map.mp hb
    have q1 := (h1.2 c hc).1
    have q2 := (h2.2 c' hc').2.2
    rw [e] at q1
    rw [q1] at q2; cases q2
  · rcases List.mem_append.mp hc with hc | hc
    · exact k1.2 c hc
    · obtain ⟨a1, a2, a3⟩ := h2.2 c hc
      exact ⟨a1, a2, S1.fresh fe a3⟩
end
section
variable {m : Type → Type} [Run m] {α β γ : Type} {X : Cx} {b : Bs} {sl : Sls} {e e1 e2 e3 : Expr} {es : List Expr} {md : Md} {c : m α} {g : α → D} {c1 : m β} {g1 : β → D} {pos : Pos} {am am2 : Am} {h : γ → D}
/-! ### displays -/
def tLs (K : PySem.W.Frag) (b : Bs) (sl : Sls) (n k : Nat) (c : m (List α)) (g : α → D) : TA := fun σ H Q => ∃ F, Rel K b sl F H σ ∧ Run.run c (fun xs => ∀ vs F' H' C, Step K b.fd F H F' H' → OwnAll K F' n vs (xs.map g) C → Holds C F' H' H → vs.length = k → Q vs H')
theorem dl_nil {n : Nat} : PA X [] (tLs X.K b sl n 0 (pure [] : m (List α)) g) := PA.imp pa_nil fun σ H Q ⟨F, R, q⟩ => by
  have q := rpure q
  exact q [] F H [] (.refl R.sub R.fe) .nil .nil rfl
theorem dl_cons {n k : Nat} {c1 : m (List α)} (he : DM X b sl e (.ow n) c g) (hr : PA X es (tLs X.K b sl n k c1 g)) (hs : starEach (e :: es) X.env = (false, eval e X.env) :: starEach es X.env := by rfl) :
    PA X (e :: es) (tLs X.K b sl n (k + 1) (c >>= fun x => c1 >>= fun xs => pure (x :: xs)) g) := PA.imp (pa_cons he hr hs) fun σ H Q ⟨F, R, q⟩ => ⟨F, R, rmono (rbind q) fun x p v F1 H1 C1 S1 o1 h1 =>
  ⟨F1, R.step S1, rmono (rbind p) fun xs p vs F2 H2 C2 S2 o2 h2 l => by
    have p := rpure p
    exact p (v :: vs) F2 H2 (C1 ++ C2) (S1.trans R.fe S2) (.cons (o1.mono S2.ff) o2) (h1.append R.fe S1 S2 h2) (by simp [l])⟩⟩
/-- .. where nothing can fail -/
theorem dl_consT {n k : Nat} {x : α} {xs : List α} (he : DM X b sl e (.ow n) (pure x : m α) g) (hr : PA X es (tLs X.K b sl n k (pure xs : m (List α)) g)) (hs : starEach (e :: es) X.env = (false, eval e X.env) :: starEach es X.env := by rfl) :
    PA X (e :: es) (tLs X.K b sl n (k + 1) (pure (x :: xs) : m (List α)) g) := PA.imp (dl_cons he hr hs) fun σ H Q ⟨F, R, q⟩ => ⟨F, R, by
      rw [Run.pure_b, Run.pure_b]; exact q⟩
theorem dm_list {n k : Nat} {c : m (List α)} (h : PA X es (tLs X.K b sl n k c g)) (hk : decide (k ≤ 1000) = true := by rfl) : DM X b sl (.List es pos) (.ow (n + 1)) c (eL g) := PE.imp (pe_lst h) fun σ H Q ⟨F, R, q⟩ => ⟨F, R, rmono q fun xs p vs F1 H1 C1 S1 o1 h1 l => by
  have hk := of_decide_eq_true hk
  refine ⟨Nat.le_of_lt (small1000 (by omega)), fun p' np => ?_⟩
  have R1 := R.step S1
  have A := Step.alloc (K := X.K) (o := .lst vs) R1.sub R1.fe np
  refine p (.ref p') F1 _ ((p', .lst vs) :: C1) (S1.trans R.fe A) (.lst o1 (by rw [← o1.length]; exact Nat.le_of_lt (small1000 (by omega)))) ?_
  have k1 := h1.step R.fe S1 A
  refine ⟨?_, fun c hc => ?_⟩
  · rw [List.map_cons, List.nodup_cons]
    refine ⟨fun hm => ?_, h1.1⟩
    obtain ⟨c, hc, e⟩ := List.mem_map.mp hm
    have q := (h1.2 c hc).1
    rw [e, np] at q; cases q
  · rcases List.mem_cons.mp hc with rfl | hc
    · exact ⟨upd_same, (R1.sub.trans hid_sub).none np, S1.fresh R.fe np⟩
    · exact k1.2 c hc⟩
/-- a pair -/
theorem Own.tup2 {K : PySem.W.Frag} {F : Hp} {n : Nat} {v w : V} {d d' : D} {C C' : List Cell} (h1 : Own K F n v d C) (h2 : Own K F n w d' C') : OwnAll K F n [v, w] [d, d'] (C ++ C') := by
  have := OwnAll.cons h1 (.cons h2 .nil)
  rwa [List.append_nil] at this
theorem Post.tup {K : PySem.W.Frag} {fd : Option Addr} {F0 H0 F H : Hp} {n : Nat} {vs : List V} {ds : List D} {C : List Cell} {Q : VK} {p : Addr} (fe0 : FeedOk K fd F0 H0) (S1 : Step K fd F0 H0 F H) (q : Post K fd (.ow (n + 1)) F0 H0 (.tuple ds) Q) (o1 : OwnAll K F n vs ds C) (h1 : Holds C F H H0) (hl : vs.length ≤ 1000) (np : H p = none) : Q (.ref p) (upd H p (.tup vs)) := by
  have A := Step.alloc (K := K) (o := .tup vs) S1.fh S1.fe np
  refine q (.ref p) F _ ((p, .tup vs) :: C) (S1.trans fe0 A) (.tup o1 (by rw [← o1.length]; exact Nat.le_of_lt (small1000 hl))) ?_
  have k1 := h1.step fe0 S1 A
  refine ⟨?_, fun c hc => ?_⟩
  · rw [List.map_cons, List.nodup_cons]
    refine ⟨fun hm => ?_, h1.1⟩
    obtain ⟨c, hc, e⟩ := List.mem_map.mp hm
    have q := (h1.2 c hc).1
    rw [e, np] at q; cases q
  · rcases List.mem_cons.mp hc with rfl | hc
    · exact ⟨upd_same, (S1.fh.trans hid_sub).none np, S1.fresh fe0 np⟩
    · exact k1.2 c hc
theorem dm_tup2 {n : Nat} {x1} (h1 : DM X b sl e1 (.ow n) c g) (h2 : DM X b sl e2 (.ow n) c1 g1) (hs : starEach [e1, e2] X.env = (false, eval e1 X.env) :: starEach [e2] X.env := by rfl) (hs2 : starEach [e2] X.env = (false, eval e2 X.env) :: starEach [] X.env := by rfl) :
    DM X b sl (.Tuple [e1, e2] x1 pos) (.ow (n + 1)) (c >>= fun x => c1 >>= fun y => pure (x, y)) (eP g g1) := PE.imp (pe_tup (pa_cons h1 (pa_cons h2 pa_nil hs2) hs)) fun σ H Q ⟨F, R, q⟩ => ⟨F, R, rmono (rbind q) fun x p v F1 H1 C1 S1 o1 k1 =>
  ⟨F1, R.step S1, rmono (rbind p) fun y p w F2 H2 C2 S2 o2 k2 => by
    have p := rpure p
    exact ⟨by show 2 ≤ sizeLine; decide, fun p' np => Post.tup R.fe (S1.trans R.fe S2) p ((o1.mono S2.ff).tup2 o2) (k1.append R.fe S1 S2 k2) (by show 2 ≤ 1000; decide) np⟩⟩⟩
theorem dm_tup2T {n : Nat} {x1} {x : α} {y : β} (h1 : DM X b sl e1 (.ow n) (pure x : m α) g) (h2 : DM X b sl e2 (.ow n) (pure y : m β) g1) (hs : starEach [e1, e2] X.env = (false, eval e1 X.env) :: starEach [e2] X.env := by rfl) (hs2 : starEach [e2] X.env = (false, eval e2 X.env) :: starEach [] X.env := by rfl) :
    DM X b sl (.Tuple [e1, e2] x1 pos) (.ow (n + 1)) (pure (x, y) : m (α × β)) (eP g g1) := PE.imp (dm_tup2 h1 h2 hs hs2) fun σ H Q ⟨F, R, q⟩ => ⟨F, R, by rw [Run.pure_b, Run.pure_b]; exact q⟩
/-! ### calls of defs -/
inductive ArgsOk (K : PySem.W.Frag) (F : Hp) (fd : Option Addr) : List V → List (Option D) → Prop
  | nil : ArgsOk K F fd [] []
  | val {v : V} {d : D} {vs : List V} {ds : List (Option D)} : Rp K F v d → ArgsOk K F fd vs ds → ArgsOk K F fd (v :: vs) (some d :: ds)
  | feed {φ : Addr} {vs : List V} {ds : List (Option D)} : fd = some φ → ArgsOk K F fd vs ds → ArgsOk K F fd (.ref φ :: vs) (none :: ds)
theorem ArgsOk.length {K : PySem.W.Frag} {F : Hp} {fd : Option Addr} {vs : List V} {ds : List (Option D)} (h : ArgsOk K F fd vs ds) : vs.length = ds.length := by
  induction h with
  | nil => rfl
  | val _ _ ih => rw [List.length_cons, List.length_cons, ih]
  | feed _ _ ih => rw [List.length_cons, List.length_cons, ih]
theorem ArgsOk.no {K : PySem.W.Frag} {F : Hp} {fd : Option Addr} {vs : List V} {ds : List D} (h : ArgsOk K F fd vs (ds.map some)) : ArgsOk K F none vs (ds.map some) := by
  induction ds generalizing vs with
  | nil => cases h; exact .nil
  | cons d ds ih =>
    cases h with
    | val r t => exact .val r (ih t)
def tCA (K : PySem.W.Frag) (b : Bs) (sl : Sls) (M : m γ) (T : List (Option D) → m γ → Prop) : TA := fun σ H Q => ∃ F, Rel K b sl F H σ ∧ ∃ R : γ → Prop, Run.run M R ∧ ∀ vs F' H' ds k, Step K b.fd F H F' H' → ArgsOk K F' b.fd vs ds → T ds k → Run.run k R → Q vs H'
theorem ca_nil {M : m γ} : PA X [] (tCA X.K b sl M (fun ds k => ds = [] ∧ k = M)) := PA.imp pa_nil fun σ H Q ⟨F, R, P, r, q⟩ => q [] F H [] M (.refl R.sub R.fe) .nil ⟨rfl, rfl⟩ r
theorem ca_cons {M : α → m γ} {T : α → List (Option D) → m γ → Prop} (he : DA X b sl e .fr c g) (hr : ∀ x, PA X es (tCA X.K b sl (M x) (T x))) (hs : starEach (e :: es) X.env = (false, eval e X.env) :: starEach es X.env := by rfl) :
    PA X (e :: es) (tCA X.K b sl (c >>= M) (fun ds k => ∃ x ds', ds = some (g x) :: ds' ∧ T x ds' k)) := PA.imp (pa_cons he (PA.ex hr) hs) fun σ H Q ⟨F, R, P, r, q⟩ => ⟨F, R, rmono (rbind r) fun x r v F1 H1 S1 o1 =>
  ⟨x, F1, R.step S1, P, r, fun vs F2 H2 ds k S2 o2 t r2 => q (v :: vs) F2 H2 (some (g x) :: ds) k (S1.trans R.fe S2) (.val (Rp.mono S2.ff o1) o2) ⟨x, ds, rfl, t⟩ r2⟩⟩
theorem ca_consT {M : m γ} {x : α} {T : List (Option D) → m γ → Prop} (he : DA X b sl e .fr (pure x : m α) g) (hr : PA X es (tCA X.K b sl M T)) (hs : starEach (e :: es) X.env = (false, eval e X.env) :: starEach es X.env := by rfl) :
    PA X (e :: es) (tCA X.K b sl M (fun ds k => ∃ ds', ds = some (g x) :: ds' ∧ T ds' k)) := PA.imp (pa_cons he hr hs) fun σ H Q ⟨F, R, P, r, q⟩ => ⟨F, R, rpure' fun v F1 H1 S1 o1 =>
  ⟨F1, R.step S1, P, r, fun vs F2 H2 ds k S2 o2 t r2 => q (v :: vs) F2 H2 (some (g x) :: ds) k (S1.trans R.fe S2) (.val (Rp.mono S2.ff o1) o2) ⟨ds, rfl, t⟩ r2⟩⟩
theorem ca_feed {M : m γ} {T : List (Option D) → m γ → Prop} (i : Nat) {x : Str} (hr : PA X es (tCA X.K b sl M T)) (he : sl[i]? = some (some .feed) := by rfl) (hN : X.N[i]? = some x := by rfl) (hv : Vis X.env.scope x := by first | exact Or.inl rfl | exact Or.inr (Or.inl rfl) | exact Or.inr (Or.inr rfl)) (hd : (x == ("__debug__" : Str)) = false := by decide)
    (hcd : (x == ("__classdict__" : Str)) = false := by decide) (hs : starEach (Expr.Name x pos :: es) X.env = (false, eval (Expr.Name x pos) X.env) :: starEach es X.env := by rfl) :
    PA X (.Name x pos :: es) (tCA X.K b sl M (fun ds k => ∃ ds', ds = none :: ds' ∧ T ds' k)) := PA.imp (pa_cons (pe_var hN hv hd hcd) hr hs) fun σ H Q ⟨F, R, P, r, q⟩ => by
  obtain ⟨Cs, s1, s2, s3⟩ := R.slots
  obtain ⟨φ, e1, e2⟩ := s1 i _ he
  exact ⟨.ref φ, e1, F, R, P, r, fun vs F2 H2 ds k S2 o2 t r2 => q _ F2 H2 (none :: ds) k S2 (.feed e2 o2) ⟨ds, rfl, t⟩ r2⟩
/-- what a def without the feed promises -/
def spD (K : PySem.W.Frag) (gs : α → List D) (f : α → Option β) (n : Nat) (g : β → D) : Sp := fun vs H Q _ => ∃ F x, Sub F H ∧ ArgsOk K F none vs ((gs x).map some) ∧ Run.run (f x) (fun y => Post K none (.ow n) F H (g y) Q)
/-- .. with it -/
def spF (K : PySem.W.Frag) (gs : α → List (Option D)) (f : α → W β) (n : Nat) (g : β → D) : Sp := fun vs H Q _ => ∃ F φ x, Sub F (hid (some φ) H) ∧ FeedOk K (some φ) F H ∧ ArgsOk K F (some φ) vs (gs x) ∧ Run.run (f x) (fun y => Post K (some φ) (.ow n) F H (g y) Q)
theorem FeedOk.no {K : PySem.W.Frag} {F H : Hp} : FeedOk K none F H := fun _ e => nomatch e
theorem Step.wide {K : PySem.W.Frag} {fd : Option Addr} {F H F' H' : Hp} (fh : Sub F (hid fd H)) (fe : FeedOk K fd F H) (S : Step K none F H F' H') : Step K fd F H F' H' := by
  have hh : Sub H H' := by have := S.hh; rwa [hid_none, hid_none] at this
  have hf : Sub F' H' := by have := S.fh; rwa [hid_none] at this
  have fn : ∀ φ, fd = some φ → F' φ = none := fun φ e => by
    obtain ⟨o, q⟩ := fe.some e
    exact S.st φ (by rw [q]; simp) (fe φ e).1
  refine ⟨S.ff, fun a o e => ?_, fun a o e => ?_, S.st, fe.mono S.ff fn fun φ e => ?_⟩
  · by_cases ha : fd = some a
    · unfold hid at e; rw [if_pos ha] at e; cases e
    · rw [hid_ne ha] at e ⊢; exact hh a o e
  · by_cases ha : fd = some a
    · rw [fn a ha] at e; cases e
    · rw [hid_ne ha]; exact hf a o e
  · obtain ⟨o, q⟩ := fe.some e
    rw [q, hh φ o q]
variable {f : Addr} {fd : FuncData} {ps : List Str} {kl : Nat} {x : Str} {p : Pos} {n : Nat}
theorem dm_call {M : m γ} {T : List (Option D) → m γ → Prop} {gs : α → List D} {fM : α → Option γ} (F : FnOk X.prog X.w X.K X.mg X.base CX0 kl f fd ps (spD X.K gs fM n h)) (hr : Room kl X.A) (hm : X.mg x = some (.ref f)) (hk : PySem.W.keepIn X.K (.ref f) = true) (hb : Binds X.K fd ps [])
    (ha : PA X (e :: es) (tCA X.K b sl M T)) (hT : ∀ ds k, T ds k → ∃ x, ds = (gs x).map some ∧ k = Run.lift (fM x)) (hg : Gl X x := by rfl)
    (hs : starEach (e :: es) X.env = (false, eval e X.env) :: starEach es X.env := by rfl) (hpl : (backTo pos (starEach es X.env)).any (·.1) = false := by rfl) (hdb : (x == ("__debug__" : Str)) = false := by decide) :
    DM X b sl (.Call (.Name x p) (e :: es) [] pos) (.ow n) M h := PE.imp (pe_call F hr hg hm hk hb .nil pass0 ha hdb hs hpl) fun σ H Q ⟨F, R, q⟩ => ⟨F, R, _, q, fun vs F' H' ds k S o t r => by
  obtain ⟨x, rfl, rfl⟩ := hT ds k t
  refine ⟨F', x, S.fh.trans hid_sub, by rw [List.append_nil]; exact o.no, ?_⟩
  obtain ⟨y, e, r⟩ := rlift r
  refine ⟨y, e, fun v F2 H2 C S2 o2 h2 => ?_⟩
  have S2' := S2.wide S.fh S.fe
  exact r v F2 H2 C (S.trans R.fe S2') o2 ⟨h2.1, fun c hc => ⟨(h2.2 c hc).1, (h2.2 c hc).2.1, S.fresh R.fe (h2.2 c hc).2.2⟩⟩⟩
theorem dm_call0 {fM : Unit → Option γ} (F : FnOk X.prog X.w X.K X.mg X.base CX0 kl f fd ps (spD X.K (fun _ => []) fM n h)) (hr : Room kl X.A) (hm : X.mg x = some (.ref f)) (hk : PySem.W.keepIn X.K (.ref f) = true) (hb : Binds X.K fd ps []) (hg : Gl X x := by rfl) (hdb : (x == ("__debug__" : Str)) = false := by decide) :
    DM X b sl (.Call (.Name x p) [] [] pos) (.ow n) (Run.lift (fM ()) : m γ) h := PE.imp (pe_call0 F hr hg hm hk hb .nil pass0 hdb) fun σ H Q ⟨F, R, q⟩ => by
  refine ⟨F, (), R.sub.trans hid_sub, .nil, ?_⟩
  obtain ⟨y, e, r⟩ := rlift q
  exact ⟨y, e, fun v F2 H2 C S2 o2 h2 => r v F2 H2 C (S2.wide R.sub R.fe) o2 h2⟩
theorem dm_callF {M : W γ} {T : List (Option D) → W γ → Prop} {gs : α → List (Option D)} {fM : α → W γ} (F : FnOk X.prog X.w X.K X.mg X.base CX0 kl f fd ps (spF X.K gs fM n h)) (hfd : b.fd ≠ none) (hr : Room kl X.A) (hm : X.mg x = some (.ref f)) (hk : PySem.W.keepIn X.K (.ref f) = true) (hb : Binds X.K fd ps [])
    (ha : PA X (e :: es) (tCA X.K b sl M T)) (hT : ∀ ds k, T ds k → ∃ x, ds = gs x ∧ k = fM x) (hg : Gl X x := by rfl)
    (hs : starEach (e :: es) X.env = (false, eval e X.env) :: starEach es X.env := by rfl) (hpl : (backTo pos (starEach es X.env)).any (·.1) = false := by rfl) (hdb : (x == ("__debug__" : Str)) = false := by decide) :
    DM X b sl (.Call (.Name x p) (e :: es) [] pos) (.ow n) M h := PE.imp (pe_call F hr hg hm hk hb .nil pass0 ha hdb hs hpl) fun σ H Q ⟨F, R, q⟩ => ⟨F, R, _, q, fun vs F' H' ds k S o t r => by
  obtain ⟨x, rfl, rfl⟩ := hT ds k t
  cases hb : b.fd with
  | none => exact absurd hb hfd
  | some φ =>
    have fe := S.fe
    have sub := S.fh
    rw [hb] at fe sub o
    refine ⟨F', φ, x, sub, fe, by rw [List.append_nil]; exact o, rmono r fun y p v F2 H2 C S2 o2 h2 => ?_⟩
    rw [← hb] at S2
    exact p v F2 H2 C (S.trans R.fe S2) o2 ⟨h2.1, fun c hc => ⟨(h2.2 c hc).1, (h2.2 c hc).2.1, S.fresh R.fe (h2.2 c hc).2.2⟩⟩⟩
end
end DL
namespace DL
open PySem PySem.Spec PyProof.Rows L2
/-! ### what is walked -/
structure ItOk (K : PySem.W.Frag) (fd : Option Addr) (J : It) (ds : List D) (ok : Hp → Hp → Prop) : Prop where
  go : ∀ F H i, ok F H → Sub F (hid fd H) → FeedOk K fd F H → i < ds.length → J.go i H
  yld : ∀ F H i x H' d, ok F H → Sub F (hid fd H) → FeedOk K fd F H → ds[i]? = some d → J.yld i H x H' → ∃ F', Step K fd F H F' H' ∧ Rp K F' x d
  stop : ∀ F H, ok F H → Sub F (hid fd H) → FeedOk K fd F H → J.stop ds.length H
  st : ∀ F H F' H', ok F H → Step K fd F H F' H' → ok F' H'
def Fz (fd : Option Addr) (ok : Hp → Hp → Prop) : Prop := ∀ F H F' H', ok F H → Sub F F' → Sub F' (hid fd H') → ok F' H'
section
variable {m : Type → Type} [Run m] {α β γ : Type} {X : Cx} {b : Bs} {sl : Sls} {e e1 e2 : Expr} {tg iter : Expr} {c : m (List α)} {g : α → D} {K : PySem.W.Frag} {fd : Option Addr}
def tI (K : PySem.W.Frag) (b : Bs) (sl : Sls) (fz : Bool) (c : m (List α)) (g : α → D) : TI := fun σ H R => ∃ F, Rel K b sl F H σ ∧ Run.run c (fun xs => ∀ J F' H' ok, Step K b.fd F H F' H' → ItOk K b.fd J (xs.map g) ok → ok F' H' → (fz = true → Fz b.fd ok) → xs.length ≤ sizeLine → R J H')
abbrev DI (X : Cx) (b : Bs) (sl : Sls) (tg iter : Expr) (fz : Bool) (c : m (List α)) (g : α → D) : Prop := PI X tg iter (tI X.K b sl fz c g)
theorem PI.imp {t t' : TI} (h : PI X tg iter t) (k : ∀ σ H R, t' σ H R → t σ H R) : PI X tg iter t' := ⟨fun pins s σ H R I q => h.run pins s σ H R I (k σ H R q)⟩
/-- a list where it stands -/
def okL (K : PySem.W.Frag) (fd : Option Addr) (a : Addr) (ds : List D) (F H : Hp) : Prop := ∃ vs, hid fd H a = some (.lst vs) ∧ RpAll K F vs ds
def okF (K : PySem.W.Frag) (fd : Option Addr) (a : Addr) (ds : List D) (F H : Hp) : Prop := ∃ vs, F a = some (.lst vs) ∧ RpAll K F vs ds
def okT (K : PySem.W.Frag) (fd : Option Addr) (a : Addr) (ds : List D) (F H : Hp) : Prop := ∃ vs, SqT K F a vs ∧ RpAll K F vs ds
theorem it_list {a : Addr} {ds : List D} {ok : Hp → Hp → Prop} (h : ∀ F H, ok F H → Sub F (hid fd H) → okL K fd a ds F H) (st : ∀ F H F' H', ok F H → Step K fd F H F' H' → ok F' H') : ItOk K fd (Itl K a) ds ok where
  go := fun F H i o fh fe hi => by
    obtain ⟨vs, h1, h2⟩ := h F H o fh
    obtain ⟨v, e, _⟩ := h2.get (List.getElem?_eq_getElem hi)
    exact ⟨vs, v, SqL.of (hid_sub _ _ h1), e⟩
  yld := fun F H i x H' d o fh fe hd y => by
    obtain ⟨vs, h1, h2⟩ := h F H o fh
    obtain ⟨e, y⟩ := y
    subst e
    obtain ⟨v, e, r⟩ := h2.get hd
    have := y vs (SqL.of (hid_sub _ _ h1))
    rw [e] at this; cases this
    exact ⟨F, .refl fh fe, r⟩
  stop := fun F H o fh fe => by
    obtain ⟨vs, h1, h2⟩ := h F H o fh
    exact ⟨vs, SqL.of (hid_sub _ _ h1), by rw [h2.length]; exact Nat.le_refl _⟩
  st := st
theorem di_list (h : DA X b sl iter .sh c (eL g)) : DI X b sl tg iter false c g := PI.imp (pi_list h) fun σ H R ⟨F, Re, q⟩ => ⟨F, Re, rmono q fun xs p v F1 H1 S1 r1 => by
  obtain ⟨a, vs, ds, rfl, e, h1, h2, h3⟩ := r1
  injection e with e
  subst e
  exact ⟨a, rfl, ⟨vs, SqL.of (hid_sub _ _ h1)⟩, p _ F1 H1 (okL X.K b.fd a (xs.map g)) S1 (it_list (fun F H o _ => o) fun F H F' H' ⟨vs, o1, o2⟩ S => ⟨vs, S.hh _ _ o1, o2.mono S.ff⟩) ⟨vs, h1, h2⟩ (fun z => by cases z) (by simpa using h3)⟩⟩
theorem di_listF (h : DA X b sl iter .fr c (eL g)) : DI X b sl tg iter true c g := PI.imp (pi_list h) fun σ H R ⟨F, Re, q⟩ => ⟨F, Re, rmono q fun xs p v F1 H1 S1 r1 => by
  cases r1 with
  | lst h1 h2 h3 =>
    exact ⟨_, rfl, ⟨_, SqL.of (hid_sub _ _ (S1.fh _ _ h1))⟩, p _ F1 H1 (okF X.K b.fd _ (xs.map g)) S1 (it_list (fun F H ⟨vs, o1, o2⟩ s => ⟨vs, s _ _ o1, o2⟩) fun F H F' H' ⟨vs, o1, o2⟩ S => ⟨vs, S.ff _ _ o1, o2.mono S.ff⟩) ⟨_, h1, h2⟩
      (fun _ F H F' H' ⟨vs, o1, o2⟩ ff _ => ⟨vs, ff _ _ o1, o2.mono ff⟩) (by simpa using h3)⟩⟩
theorem di_tup (h : DA X b sl iter .fr c (eT g)) : DI X b sl tg iter true c g := PI.imp (pi_tup h) fun σ H R ⟨F, Re, q⟩ => ⟨F, Re, rmono q fun xs p v F1 H1 S1 r1 => by
  cases r1 with
  | tup h1 h2 h3 =>
    refine ⟨_, rfl, ⟨_, (S1.fh.trans hid_sub).sqt h1⟩, p _ F1 H1 (okT X.K b.fd _ (xs.map g)) S1 ⟨fun F H i o fh fe hi => ?_, fun F H i x H' d o fh fe hd y => ?_, fun F H o fh fe => ?_, fun F H F' H' ⟨vs, o1, o2⟩ S => ⟨vs, S.ff.sqt o1, o2.mono S.ff⟩⟩ ⟨_, h1, h2⟩
      (fun _ F H F' H' ⟨vs, o1, o2⟩ ff _ => ⟨vs, ff.sqt o1, o2.mono ff⟩) (by simpa using h3)⟩
    · obtain ⟨vs, h1, h2⟩ := o
      obtain ⟨v, e, _⟩ := h2.get (List.getElem?_eq_getElem hi)
      exact ⟨vs, v, (fh.trans hid_sub).sqt h1, e⟩
    · obtain ⟨vs, h1, h2⟩ := o
      obtain ⟨e, y⟩ := y
      subst e
      obtain ⟨v, e, r⟩ := h2.get hd
      have := y vs ((fh.trans hid_sub).sqt h1)
      rw [e] at this; cases this
      exact ⟨F, .refl fh fe, r⟩
    · obtain ⟨vs, h1, h2⟩ := o
      exact ⟨vs, (fh.trans hid_sub).sqt h1, by rw [h2.length]; exact Nat.le_refl _⟩⟩
/-- lo, lo + 1, .. below hi -/
def rng (lo hi : Int) : List Int := (List.range (hi - lo).toNat).map fun k : Nat => lo + (k : Int)
theorem rng_length (lo hi : Int) : (rng lo hi).length = (hi - lo).toNat := by unfold rng; simp
theorem rng_get {lo hi : Int} {i : Nat} (h : i < (hi - lo).toNat) : (rng lo hi)[i]? = some (lo + (i : Int)) := by unfold rng; rw [List.getElem?_map, List.getElem?_range h]; rfl
def irng (lo hi : Int) : Option (List Int) := if -4611686018427387904 ≤ lo ∧ lo < 4611686018427387904 ∧ -4611686018427387904 ≤ hi ∧ hi < 4611686018427387904 ∧ (hi - lo).toNat ≤ 16777216 then some (rng lo hi) else none
theorem it_rng {lo : Int} {n : Nat} {hi : Int} (e : (hi - lo).toNat = n) : ItOk K fd (Itr lo n) ((rng lo hi).map eI) (fun _ _ => True) where
  go := fun F H i _ _ _ h => by
    rw [List.length_map, rng_length] at h
    show i < n
    omega
  yld := fun F H i x H' d _ fh fe hd y => by
    obtain ⟨e1, e2⟩ := y
    subst e1 e2
    have hi : i < (hi - lo).toNat := by
      have := (List.getElem?_eq_some_iff.mp hd).1
      rw [List.length_map, rng_length] at this
      exact this
    rw [List.getElem?_map, rng_get hi] at hd
    cases hd
    exact ⟨F, .refl fh fe, .int _⟩
  stop := fun F H _ _ _ => by
    rw [List.length_map, rng_length]
    show n ≤ _
    omega
  st := fun _ _ _ _ _ _ => trivial
variable {p pos : Pos}
theorem di_rng1 {c : m Int} (hm : X.mg "range" = none) (h : DA X b sl e .pk c eI) (hg : Gl X "range" := by rfl) (hs : starEach [e] X.env = [(false, eval e X.env)] := by rfl) (hs2 : starEach [e] X.env = (false, eval e X.env) :: starEach [] X.env := by rfl) :
    DI X b sl tg (.Call (.Name "range" p) [e] [] pos) true (c >>= fun n => Run.lift (irng 0 n)) eI := PI.imp (pi_range1 hg hm (pa_cons h pa_nil hs2) hs) fun σ H R ⟨F, Re, q⟩ => ⟨F, Re, rmono (rbind q) fun n p v F1 H1 S1 r1 => by
  obtain ⟨z, e, p⟩ := rlift p
  obtain ⟨⟨h1, h2, h3, h4, h5⟩, rfl⟩ := some_if e
  cases r1
  exact ⟨n, rfl, by omega, by omega, p _ F1 H1 _ S1 (it_rng (by omega)) trivial (fun _ _ _ _ _ _ _ _ => trivial) (by rw [rng_length]; exact h5)⟩⟩
theorem di_rng2 {c c1 : m Int} (hm : X.mg "range" = none) (h : DA X b sl e1 .pk c eI) (h' : DA X b sl e2 .pk c1 eI) (hg : Gl X "range" := by rfl) (hs : starEach [e1, e2] X.env = [(false, eval e1 X.env), (false, eval e2 X.env)] := by rfl) (hs2 : starEach [e2] X.env = [(false, eval e2 X.env)] := by rfl)
    (hs3 : starEach [e1, e2] X.env = (false, eval e1 X.env) :: starEach [e2] X.env := by rfl) (hs4 : starEach [e2] X.env = (false, eval e2 X.env) :: starEach [] X.env := by rfl) :
    DI X b sl tg (.Call (.Name "range" p) [e1, e2] [] pos) true (c >>= fun lo => c1 >>= fun hi => Run.lift (irng lo hi)) eI := PI.imp (pi_range2 hg hm (pa_cons h (pa_cons h' pa_nil hs4) hs3) hs hs2) fun σ H R ⟨F, Re, q⟩ => ⟨F, Re, rmono (rbind q) fun lo p v F1 H1 S1 r1 =>
  ⟨F1, Re.step S1, rmono (rbind p) fun hi p v2 F2 H2 S2 r2 => by
    obtain ⟨z, e, p⟩ := rlift p
    obtain ⟨⟨h1, h2, h3, h4, h5⟩, rfl⟩ := some_if e
    cases r1
    cases r2
    exact ⟨lo, hi, rfl, ⟨by omega, by omega, by omega, by omega⟩, p _ F2 H2 _ (S1.trans Re.fe S2) (it_rng rfl) trivial (fun _ _ _ _ _ _ _ _ => trivial) (by rw [rng_length]; exact h5)⟩⟩⟩
/-- .. written ends -/
theorem di_rngK {n : Int} (hm : X.mg "range" = none) (h : DA X b sl e .pk (pure n : m Int) eI) (hk : decide (0 ≤ n ∧ n ≤ 16777216) = true := by rfl) (hg : Gl X "range" := by rfl) (hs : starEach [e] X.env = [(false, eval e X.env)] := by rfl) (hs2 : starEach [e] X.env = (false, eval e X.env) :: starEach [] X.env := by rfl) :
    DI X b sl tg (.Call (.Name "range" p) [e] [] pos) true (pure (rng 0 n) : m (List Int)) eI := PI.imp (pi_range1 hg hm (pa_cons h pa_nil hs2) hs) fun σ H R ⟨F, Re, q⟩ => ⟨F, Re, by
  have q := rpure q
  have hk := of_decide_eq_true hk
  refine rpure' fun v F1 H1 S1 r1 => ?_
  cases r1
  exact ⟨n, rfl, by omega, by omega, q _ F1 H1 _ S1 (it_rng (by omega)) trivial (fun _ _ _ _ _ _ _ _ => trivial) (by rw [rng_length, sl16]; omega)⟩⟩
theorem di_rngK2 {lo n : Int} (hm : X.mg "range" = none) (h : DA X b sl e1 .pk (pure lo : m Int) eI) (h' : DA X b sl e2 .pk (pure n : m Int) eI) (hk : decide (0 ≤ lo ∧ lo ≤ 16777216 ∧ 0 ≤ n ∧ n ≤ 16777216) = true := by rfl) (hg : Gl X "range" := by rfl) (hs : starEach [e1, e2] X.env = [(false, eval e1 X.env), (false, eval e2 X.env)] := by rfl) (hs2 : starEach [e2] X.env = [(false, eval e2 X.env)] := by rfl)
    (hs3 : starEach [e1, e2] X.env = (false, eval e1 X.env) :: starEach [e2] X.env := by rfl) (hs4 : starEach [e2] X.env = (false, eval e2 X.env) :: starEach [] X.env := by rfl) :
    DI X b sl tg (.Call (.Name "range" p) [e1, e2] [] pos) true (pure (rng lo n) : m (List Int)) eI := PI.imp (pi_range2 hg hm (pa_cons h (pa_cons h' pa_nil hs4) hs3) hs hs2) fun σ H R ⟨F, Re, q⟩ => ⟨F, Re, by
  have q := rpure q
  have hk := of_decide_eq_true hk
  refine rpure' fun v F1 H1 S1 r1 => ⟨F1, Re.step S1, rpure' fun v2 F2 H2 S2 r2 => ?_⟩
  cases r1
  cases r2
  exact ⟨lo, n, rfl, ⟨by omega, by omega, by omega, by omega⟩, q _ F2 H2 _ (S1.trans Re.fe S2) (it_rng rfl) trivial (fun _ _ _ _ _ _ _ _ => trivial) (by rw [rng_length, sl16]; omega)⟩⟩
/-- enumerate(xs) -/
def enumI : List α → List (Int × α) := fun xs => (List.range xs.length).zip xs |>.map fun p => ((p.1 : Int), p.2)
theorem enumI_get {xs : List α} {i : Nat} {x : α} (h : xs[i]? = some x) : (enumI xs)[i]? = some ((i : Int), x) := by
  have hi := (List.getElem?_eq_some_iff.mp h).1
  unfold enumI
  have e : ((List.range xs.length).zip xs)[i]? = some (i, x) := List.getElem?_zip_eq_some.mpr ⟨List.getElem?_range hi, h⟩
  rw [List.getElem?_map, e]
  rfl
theorem enumI_length (xs : List α) : (enumI xs).length = xs.length := by unfold enumI; simp
theorem it_enum {a : Addr} {xs : List α} {ok : Hp → Hp → Prop} (h : ∀ F H, ok F H → Sub F (hid fd H) → okL K fd a (xs.map g) F H) (st : ∀ F H F' H', ok F H → Step K fd F H F' H' → ok F' H') : ItOk K fd (Ite K a) ((enumI xs).map (eP eI g)) ok where
  go := fun F H i o fh fe hi => by
    obtain ⟨vs, h1, h2⟩ := h F H o fh
    rw [List.length_map, enumI_length, ← List.length_map (f := g)] at hi
    obtain ⟨v, e, _⟩ := h2.get (List.getElem?_eq_getElem hi)
    exact ⟨vs, v, SqL.of (hid_sub _ _ h1), e⟩
  yld := fun F H i x H' d o fh fe hd y => by
    obtain ⟨vs, h1, h2⟩ := h F H o fh
    obtain ⟨T, v, rfl, nT, rfl, y⟩ := y
    have hi : i < xs.length := by
      have := (List.getElem?_eq_some_iff.mp hd).1
      rw [List.length_map, enumI_length] at this
      exact this
    rw [List.getElem?_map, enumI_get (List.getElem?_eq_getElem hi)] at hd
    cases hd
    obtain ⟨v', e, r⟩ := h2.get (d := g xs[i]) (by rw [List.getElem?_map, List.getElem?_eq_getElem hi]; rfl)
    have := y vs (SqL.of (hid_sub _ _ h1))
    rw [e] at this; cases this
    have A := Step.allocF (K := K) (o := .tup [.int (i : Nat), v]) fh fe nT
    exact ⟨_, A, .tup (SqT.of upd_same) (.cons (.int _) (.cons (r.mono A.ff) .nil)) (by show 2 ≤ sizeLine; decide)⟩
  stop := fun F H o fh fe => by
    obtain ⟨vs, h1, h2⟩ := h F H o fh
    exact ⟨vs, SqL.of (hid_sub _ _ h1), by rw [h2.length, List.length_map, List.length_map, enumI_length]; exact Nat.le_refl _⟩
  st := st
variable {elts : List Expr} {kk : Nat} {tpos : Pos}
theorem di_enum (hm : X.mg "enumerate" = none) (h : DA X b sl e .sh c (eL g)) (hg : Gl X "enumerate" := by rfl) (hs : starEach [e] X.env = [(false, eval e X.env)] := by rfl) (hs2 : starEach [e] X.env = (false, eval e X.env) :: starEach [] X.env := by rfl) :
    DI X b sl (.Tuple elts kk tpos) (.Call (.Name "enumerate" p) [e] [] pos) false (c >>= fun xs => pure (enumI xs)) (eP eI g) := PI.imp (pi_enum hg hm (pa_cons h pa_nil hs2) hs) fun σ H R ⟨F, Re, q⟩ => ⟨F, Re, rmono (rbind q) fun xs p v F1 H1 S1 r1 => by
  have p := rpure p
  obtain ⟨a, vs, ds, rfl, e, h1, h2, h3⟩ := r1
  injection e with e
  subst e
  exact ⟨a, vs, rfl, SqL.of (hid_sub _ _ h1), p _ F1 H1 (okL X.K b.fd a (xs.map g)) S1 (it_enum (fun F H o _ => o) fun F H F' H' ⟨vs, o1, o2⟩ S => ⟨vs, S.hh _ _ o1, o2.mono S.ff⟩) ⟨vs, h1, h2⟩ (fun z => by cases z) (by rw [enumI_length]; simpa using h3)⟩⟩
theorem di_enumF (hm : X.mg "enumerate" = none) (h : DA X b sl e .fr c (eL g)) (hg : Gl X "enumerate" := by rfl) (hs : starEach [e] X.env = [(false, eval e X.env)] := by rfl) (hs2 : starEach [e] X.env = (false, eval e X.env) :: starEach [] X.env := by rfl) :
    DI X b sl (.Tuple elts kk tpos) (.Call (.Name "enumerate" p) [e] [] pos) true (c >>= fun xs => pure (enumI xs)) (eP eI g) := PI.imp (pi_enum hg hm (pa_cons h pa_nil hs2) hs) fun σ H R ⟨F, Re, q⟩ => ⟨F, Re, rmono (rbind q) fun xs p v F1 H1 S1 r1 => by
  have p := rpure p
  cases r1 with
  | lst h1 h2 h3 =>
    exact ⟨_, _, rfl, SqL.of (hid_sub _ _ (S1.fh _ _ h1)), p _ F1 H1 (okF X.K b.fd _ (xs.map g)) S1 (it_enum (fun F H ⟨vs, o1, o2⟩ s => ⟨vs, s _ _ o1, o2⟩) fun F H F' H' ⟨vs, o1, o2⟩ S => ⟨vs, S.ff _ _ o1, o2.mono S.ff⟩) ⟨_, h1, h2⟩
      (fun _ F H F' H' ⟨vs, o1, o2⟩ ff _ => ⟨vs, ff _ _ o1, o2.mono ff⟩) (by rw [enumI_length]; simpa using h3)⟩⟩
/-- zip(xs, ys) -/
theorem it_zip {δ : Type} {h' : δ → D} {a a' : Addr} {xs : List α} {ys : List δ} {ok : Hp → Hp → Prop} (h : ∀ F H, ok F H → Sub F (hid fd H) → okL K fd a (xs.map g) F H ∧ okL K fd a' (ys.map h') F H) (st : ∀ F H F' H', ok F H → Step K fd F H F' H' → ok F' H') :
    ItOk K fd (Itz K a a') ((xs.zip ys).map (eP g h')) ok where
  go := fun F H i o fh fe hi => by
    obtain ⟨⟨vs, h1, h2⟩, ws, k1, k2⟩ := h F H o fh
    rw [List.length_map, List.length_zip] at hi
    obtain ⟨v, e, _⟩ := h2.get (List.getElem?_eq_getElem (i := i) (by rw [List.length_map]; omega))
    obtain ⟨w, e', _⟩ := k2.get (List.getElem?_eq_getElem (i := i) (by rw [List.length_map]; omega))
    exact ⟨vs, ws, v, w, SqL.of (hid_sub _ _ h1), SqL.of (hid_sub _ _ k1), e, e'⟩
  yld := fun F H i x H' d o fh fe hd y => by
    obtain ⟨⟨vs, h1, h2⟩, ws, k1, k2⟩ := h F H o fh
    obtain ⟨T, v, w, rfl, nT, rfl, y, y'⟩ := y
    rw [List.getElem?_map] at hd
    obtain ⟨⟨z1, z2⟩, hz, rfl⟩ := Option.map_eq_some_iff.mp hd
    obtain ⟨e1, e2⟩ := List.getElem?_zip_eq_some.mp hz
    obtain ⟨v', e, r⟩ := h2.get (d := g z1) (by rw [List.getElem?_map, e1]; rfl)
    obtain ⟨w', e', r'⟩ := k2.get (d := h' z2) (by rw [List.getElem?_map, e2]; rfl)
    have q1 := y vs (SqL.of (hid_sub _ _ h1))
    rw [e] at q1; cases q1
    have q2 := y' ws (SqL.of (hid_sub _ _ k1))
    rw [e'] at q2; cases q2
    have A := Step.allocF (K := K) (o := .tup [v, w]) fh fe nT
    exact ⟨_, A, .tup (SqT.of upd_same) (.cons (r.mono A.ff) (.cons (r'.mono A.ff) .nil)) (by show 2 ≤ sizeLine; decide)⟩
  stop := fun F H o fh fe => by
    obtain ⟨⟨vs, h1, h2⟩, ws, k1, k2⟩ := h F H o fh
    refine ⟨vs, ws, SqL.of (hid_sub _ _ h1), SqL.of (hid_sub _ _ k1), ?_⟩
    have l1 := h2.length
    have l2 := k2.length
    rw [List.length_map] at l1 l2
    rw [List.length_map, List.length_zip]
    omega
  st := st
theorem di_zip {δ : Type} {h' : δ → D} {c1 : m (List δ)} (hm : X.mg "zip" = none) (h1 : DA X b sl e1 .sh c (eL g)) (h2 : DA X b sl e2 .sh c1 (eL h')) (hg : Gl X "zip" := by rfl) (hs : starEach [e1, e2] X.env = (false, eval e1 X.env) :: starEach [e2] X.env := by rfl) (hpl : (backTo pos (starEach [e2] X.env)).any (·.1) = false := by rfl)
    (hs2 : starEach [e2] X.env = (false, eval e2 X.env) :: starEach [] X.env := by rfl) :
    DI X b sl (.Tuple elts kk tpos) (.Call (.Name "zip" p) [e1, e2] [] pos) false (c >>= fun xs => c1 >>= fun ys => pure (xs.zip ys)) (eP g h') := PI.imp (pi_zip hg hm (pa_cons h1 (pa_cons h2 pa_nil hs2) hs) hs hpl) fun σ H R ⟨F, Re, q⟩ => ⟨F, Re, rmono (rbind q) fun xs p v F1 H1 S1 r1 =>
  ⟨F1, Re.step S1, rmono (rbind p) fun ys p w F2 H2 S2 r2 => by
    have p := rpure p
    obtain ⟨a, vs, ds, rfl, e, h1, h2, h3⟩ := r1.step S2
    injection e with e
    subst e
    obtain ⟨a', ws, ds', rfl, e, k1, k2, k3⟩ := r2
    injection e with e
    subst e
    refine ⟨a, a', vs, ws, rfl, SqL.of (hid_sub _ _ h1), SqL.of (hid_sub _ _ k1), p _ F2 H2 (fun F H => okL X.K b.fd a (xs.map g) F H ∧ okL X.K b.fd a' (ys.map h') F H) (S1.trans Re.fe S2) (it_zip (fun F H o _ => o) fun F H F' H' ⟨⟨vs, o1, o2⟩, ws, o3, o4⟩ S => ⟨⟨vs, S.hh _ _ o1, o2.mono S.ff⟩, ws, S.hh _ _ o3, o4.mono S.ff⟩) ⟨⟨vs, h1, h2⟩, ws, k1, k2⟩ (fun z => by cases z) ?_⟩
    rw [List.length_zip]
    rw [List.length_map] at h3
    omega⟩⟩
theorem di_zipF {δ : Type} {h' : δ → D} {c1 : m (List δ)} (hm : X.mg "zip" = none) (h1 : DA X b sl e1 .fr c (eL g)) (h2 : DA X b sl e2 .fr c1 (eL h')) (hg : Gl X "zip" := by rfl) (hs : starEach [e1, e2] X.env = (false, eval e1 X.env) :: starEach [e2] X.env := by rfl) (hpl : (backTo pos (starEach [e2] X.env)).any (·.1) = false := by rfl)
    (hs2 : starEach [e2] X.env = (false, eval e2 X.env) :: starEach [] X.env := by rfl) :
    DI X b sl (.Tuple elts kk tpos) (.Call (.Name "zip" p) [e1, e2] [] pos) true (c >>= fun xs => c1 >>= fun ys => pure (xs.zip ys)) (eP g h') := PI.imp (pi_zip hg hm (pa_cons h1 (pa_cons h2 pa_nil hs2) hs) hs hpl) fun σ H R ⟨F, Re, q⟩ => ⟨F, Re, rmono (rbind q) fun xs p v F1 H1 S1 r1 =>
  ⟨F1, Re.step S1, rmono (rbind p) fun ys p w F2 H2 S2 r2 => by
    have p := rpure p
    cases r1.step S2 with
    | lst h1 h2 h3 =>
      cases r2 with
      | lst k1 k2 k3 =>
        refine ⟨_, _, _, _, rfl, SqL.of (hid_sub _ _ (S2.fh _ _ h1)), SqL.of (hid_sub _ _ (S2.fh _ _ k1)), p _ F2 H2 (fun F H => okF X.K b.fd _ (xs.map g) F H ∧ okF X.K b.fd _ (ys.map h') F H) (S1.trans Re.fe S2)
          (it_zip (fun F H ⟨⟨vs, o1, o2⟩, ws, o3, o4⟩ s => ⟨⟨vs, s _ _ o1, o2⟩, ws, s _ _ o3, o4⟩) fun F H F' H' ⟨⟨vs, o1, o2⟩, ws, o3, o4⟩ S => ⟨⟨vs, S.ff _ _ o1, o2.mono S.ff⟩, ws, S.ff _ _ o3, o4.mono S.ff⟩) ⟨⟨_, h1, h2⟩, _, k1, k2⟩
          (fun _ F H F' H' ⟨⟨vs, o1, o2⟩, ws, o3, o4⟩ ff _ => ⟨⟨vs, ff _ _ o1, o2.mono ff⟩, ws, ff _ _ o3, o4.mono ff⟩) ?_⟩
        rw [List.length_zip]
        rw [List.length_map] at h3
        omega⟩⟩
end
end DL
namespace DL
open PySem PySem.Spec PyProof.Rows L2
/-! ### targets -/
theorem wipe_comm : ∀ {ws : List Nat} {σ : L2.St} {v : Nat} {x : Option V}, v ∉ ws → wipe (σ.set v x) ws = (wipe σ ws).set v x
  | [], _, _, _, _ => rfl
  | w :: ws, σ, v, x, h => by
    show (wipe (σ.set v x) ws).set w none = ((wipe σ ws).set w none).set v x
    rw [wipe_comm fun z => h (List.mem_cons_of_mem _ z), List.set_comm _ _ (fun z => h (by rw [z]; simp))]
theorem wipe_set : ∀ {vs : List Nat} {σ : L2.St} {i : Nat} {x : Option V}, i ∈ vs → wipe (σ.set i x) vs = wipe σ vs
  | v :: vs, σ, i, x, h => by
    show (wipe (σ.set i x) vs).set v none = (wipe σ vs).set v none
    by_cases hi : i ∈ vs
    · rw [wipe_set hi]
    · have e : v = i := by
        rcases List.mem_cons.mp h with e | e
        · exact e.symm
        · exact absurd e hi
      subst e
      rw [wipe_comm hi, List.set_set]
theorem wipe_wipe : ∀ (ws : List Nat) {vs : List Nat} {σ : L2.St}, (∀ v ∈ ws, v ∈ vs) → wipe (wipe σ ws) vs = wipe σ vs
  | [], _, _, _ => rfl
  | w :: ws, vs, σ, h => by
    show wipe ((wipe σ ws).set w none) vs = wipe σ vs
    rw [wipe_set (h w (by simp)), wipe_wipe ws fun v hv => h v (List.mem_cons_of_mem _ hv)]
def wipeS (sl : Sls) : List Nat → Sls
  | [] => sl
  | v :: vs => (wipeS sl vs).set v none
theorem Rel.wipe {K : PySem.W.Frag} {b : Bs} {sl : Sls} {F H : Hp} {σ : L2.St} (R : Rel K b sl F H σ) : ∀ vs : List Nat, Rel K b (wipeS sl vs) F H (L2.wipe σ vs)
  | [] => R
  | v :: vs => (R.wipe vs).setN
/-- a target: where it stores, what is known behind it -/
structure GT (K : PySem.W.Frag) {α : Type} (t : TG) (vs : List Nat) (g : α → D) (set : α → Sls → Sls) : Prop where
  run : ∀ (b : Bs) (sl : Sls) (F H : Hp) (σ : L2.St) (v : V) (x : α) (Q : L2.St → Hp → Prop), Rel K b sl F H σ → Rp K F v (g x) → (∀ σ', Rel K b (set x sl) F H σ' → (∀ ws, (∀ i ∈ vs, i ∈ ws) → L2.wipe σ' ws = L2.wipe σ ws) → Q σ' H) → t v σ H Q
section
variable {K : PySem.W.Frag} {α β γ δ : Type} {g : α → D} {g' : β → D} {h : δ → D}
theorem gt_name (i : Nat) : GT K (gName i) [i] g (fun x sl => sl.set i (some (.v (g x)))) := ⟨fun b sl F H σ v x Q R r q => q _ (R.setV r) fun ws hw => wipe_set (hw i (by simp))⟩
theorem gt_tup2 (i j : Nat) : GT K (gTup K 2 (gCons (gName i) (gCons (gName j) gNil))) [i, j] (eP g g') (fun x sl => (sl.set i (some (.v (g x.1)))).set j (some (.v (g' x.2)))) := ⟨fun b sl F H σ v x Q R r q => by
  cases r with
  | tup hs ha hl =>
    cases ha with
    | cons a1 t =>
      cases t with
      | cons a2 t =>
        cases t
        exact ⟨_, _, rfl, (R.sub.trans hid_sub).sqt hs, rfl, _, _, rfl, _, _, rfl, rfl, q _ ((R.setV a1).setV a2) fun ws hw => by rw [wipe_set (hw j (by simp)), wipe_set (hw i (by simp))]⟩⟩
/-- (i, (j, k)) -/
theorem gt_tup2r {t : TG} {vs : List Nat} {set : β → Sls → Sls} (i : Nat) (ht : GT K t vs g' set) : GT K (gTup K 2 (gCons (gName i) (gCons t gNil))) (i :: vs) (eP g g') (fun x sl => set x.2 (sl.set i (some (.v (g x.1))))) := ⟨fun b sl F H σ v x Q R r q => by
  cases r with
  | tup hs ha hl =>
    cases ha with
    | cons a1 t =>
      cases t with
      | cons a2 t =>
        cases t
        refine ⟨_, _, rfl, (R.sub.trans hid_sub).sqt hs, rfl, _, _, rfl, _, _, rfl, ht.run b _ F H _ _ x.2 _ (R.setV a1) a2 fun σ' R' hw' => ⟨rfl, q σ' R' fun ws hw => ?_⟩⟩
        rw [hw' ws fun z hz => hw z (List.mem_cons_of_mem _ hz), wipe_set (hw i (by simp))]⟩
theorem gt_tup3 (i j k : Nat) : GT K (gTup K 3 (gCons (gName i) (gCons (gName j) (gCons (gName k) gNil)))) [i, j, k] (eP3 g g' h) (fun x sl => ((sl.set i (some (.v (g x.1)))).set j (some (.v (g' x.2.1)))).set k (some (.v (h x.2.2)))) := ⟨fun b sl F H σ v x Q R r q => by
  cases r with
  | tup hs ha hl =>
    cases ha with
    | cons a1 t =>
      cases t with
      | cons a2 t =>
        cases t with
        | cons a3 t =>
          cases t
          exact ⟨_, _, rfl, (R.sub.trans hid_sub).sqt hs, rfl, _, _, rfl, _, _, rfl, _, _, rfl, rfl, q _ (((R.setV a1).setV a2).setV a3) fun ws hw => by rw [wipe_set (hw k (by simp)), wipe_set (hw j (by simp)), wipe_set (hw i (by simp))]⟩⟩
end
/-! ### comprehensions -/
def lcM {m : Type → Type} [Monad m] {α β : Type} (tst : α → m Bool) (elt : α → m β) : List α → m (List β)
  | [] => pure []
  | x :: xs => tst x >>= fun t => if t then elt x >>= fun y => lcM tst elt xs >>= fun ys => pure (y :: ys) else lcM tst elt xs
section
variable {m : Type → Type} [Run m] {α β γ : Type} {X : Cx} {b : Bs} {sl : Sls} {e : Expr} {g : α → D} {h : β → D} {K : PySem.W.Frag} {fd : Option Addr} {c : m (List α)} {vs ws : List Nat} {n : Nat} {tst : α → m Bool} {elt : α → m β} {set : α → Sls → Sls} {gt : TG} {fz : Bool} {tt : TT}
/-- tests: what they ask -/
def TsOk (K : PySem.W.Frag) (b : Bs) (sl : Sls) (set : α → Sls → Sls) (tst : α → m Bool) (tt : TT) : Prop := ∀ x σ F H Q, Rel K b (set x sl) F H σ → Run.run (tst x) (fun t => ∀ F' H', Step K b.fd F H F' H' → Q t H') → tt σ H Q
theorem ts_yes : TsOk K b sl set (fun _ => (pure true : m Bool)) tYes := fun x σ F H Q R q => by
  have q := rpure q
  exact q F H (.refl R.sub R.fe)
def tEx (t : α → TT) : TT := fun σ H Q => ∃ x, t x σ H Q
def tExE (t : α → TE) : TE := fun σ H Q => ∃ x, t x σ H Q
theorem ts_one : TsOk K b sl set tst (tEx fun x => tTT K b (set x sl) (tst x)) := fun x σ F H Q R q => ⟨x, F, R, q⟩
theorem PT.ex {X : Cx} {e : Expr} {t : α → TT} (h : ∀ x, PT X e (t x)) : PT X e (tEx t) := ⟨fun pins s σ H Q I ⟨x, q⟩ => (h x).run pins s σ H Q I q⟩
theorem PE.ex {X : Cx} {e : Expr} {t : α → TE} (h : ∀ x, PE X e (t x)) : PE X e (tExE t) := ⟨fun pins s σ H Q I ⟨x, q⟩ => (h x).run pins s σ H Q I q⟩
/-- the reading of a comprehension -/
theorem lc_to (hg : GT K gt ws g set) (hw : ∀ i ∈ ws, i ∈ vs) (ht : TsOk K b (wipeS sl vs) set tst tt) {σ : L2.St} {H : Hp} {Q : VK}
    (q : tD K b sl (.ow (n + 1)) (c >>= lcM tst elt) (eL h) σ H Q) : tLc (tI K b sl fz c g) gt tt (tExE fun x => tD K b (set x (wipeS sl vs)) (.ow n) (elt x) h) vs σ H Q := by
  obtain ⟨F, R, q⟩ := q
  refine ⟨F, R, rmono (rbind q) fun xs q J F1 H1 ok S1 it o1 _ hl D nD => ?_⟩
  have R1 := R.step S1
  -- behind i items
  let Inv : Nat → Hp → Prop := fun i H2 => ∃ (F2 : Hp) (done : List β) (us : List V) (C : List Cell), Step K b.fd F1 H1 F2 H2 ∧ ok F2 H2 ∧ H2 D = some (.lst us) ∧ F2 D = none ∧ OwnAll K F2 n us (done.map h) C ∧ Holds C F2 H2 H1 ∧ (∀ c ∈ C, c.1 ≠ D) ∧ done.length ≤ i ∧
    i ≤ xs.length ∧ Run.run (lcM tst elt (xs.drop i)) (fun ys => Post K b.fd (.ow (n + 1)) F1 H1 (eL h (done ++ ys)) Q)
  have nF : F1 D = none := (S1.fh.trans hid_sub).none nD
  have fdD : b.fd ≠ some D := fun z => by
    obtain ⟨o, q⟩ := R1.fe.some z
    rw [nD] at q; cases q
  refine ⟨fun i k H2 => k = xs.length - i ∧ Inv i H2, ⟨xs.length, by simp, F1, [], [], [], Step.alloc S1.fh S1.fe nD, it.st _ _ _ _ o1 (Step.alloc S1.fh S1.fe nD), upd_same, nF, .nil, ⟨List.nodup_nil, fun _ h => nomatch h⟩, (fun _ h => nomatch h), Nat.zero_le _, Nat.zero_le _, rmono q fun ys p => p.back R.fe S1⟩, ?_⟩
  rintro i k H2 ⟨rfl, F2, done, us, C, S2, o2, hD, fD, ow, hc, hcD, dl, il, run⟩
  have R2 := R1.step S2
  by_cases hi : i < xs.length
  · refine .inr ⟨it.go F2 H2 i o2 R2.sub R2.fe (by rw [List.length_map]; exact hi), fun H' => Inv (i + 1) H', fun H' p => ⟨xs.length - (i + 1), by omega, rfl, p⟩, fun v H3 y => ?_⟩
    rw [List.drop_eq_getElem_cons hi] at run
    obtain ⟨F3, S3, r3⟩ := it.yld F2 H2 i v H3 (g xs[i]) o2 R2.sub R2.fe (by rw [List.getElem?_map, List.getElem?_eq_getElem hi]; rfl) y
    have S23 := S2.trans R1.fe S3
    have R3 := (R1.step S23).wipe vs
    refine hg.run b _ F3 H3 _ v xs[i] _ R3 r3 fun σ' R' hw' => ⟨by rw [hw' vs hw, wipe_wipe vs fun _ h => h], ht xs[i] σ' F3 H3 _ R' (rmono (rbind run) fun t p F4 H4 S4 => ?_)⟩
    have S24 := S23.trans R1.fe S4
    have k2 : H2 D ≠ none := by rw [hD]; simp
    have stay : ∀ {F' H'}, Step K b.fd F2 H2 F' H' → H' D = some (.lst us) ∧ F' D = none := fun {F' H'} S => ⟨by
      have := S.hh D _ (by rw [hid_ne fdD]; exact hD)
      rw [hid_ne fdD] at this
      exact this, S.st D k2 fD⟩
    cases t with
    | false =>
      rw [if_neg Bool.false_ne_true]
      have S34 := S3.trans R2.fe S4
      refine ⟨F4, done, us, C, S24, it.st _ _ _ _ o2 S34, (stay S34).1, (stay S34).2, ow.mono S34.ff, hc.step R1.fe S2 S34, hcD, by omega, hi, p⟩
    | true =>
      rw [if_pos rfl]
      refine ⟨xs[i], F4, R'.step S4, rmono (rbind p) fun z p w F5 H5 C5 S5 o5 k5 => ?_⟩
      have S35 := S3.trans R2.fe (S4.trans R'.fe S5)
      have S25 := S2.trans R1.fe S35
      obtain ⟨e1, e2⟩ := stay S35
      have hl' : us.length < sizeLine := by
        have := ow.length
        rw [List.length_map] at this
        omega
      -- the list with the new item
      have neD : ∀ a o, hid b.fd H5 a = some o → a ≠ D → hid b.fd (upd H5 D (.lst (us ++ [w]))) a = some o := fun a o e ne => by
        by_cases ha : b.fd = some a
        · unfold hid at e; rw [if_pos ha] at e; cases e
        · rw [hid_ne ha] at e ⊢
          rw [upd_ne ne]; exact e
      have fh' : Sub F5 (hid b.fd (upd H5 D (.lst (us ++ [w])))) := fun a o e => neD a o (S35.fh a o e) (fun z => by rw [z, e2] at e; cases e)
      have SU : Step K b.fd F1 H1 F5 (upd H5 D (.lst (us ++ [w]))) := by
        refine ⟨S25.ff, fun a o e => neD a o (S25.hh a o e) (fun z => ?_), fh', S25.st, S25.fe.mono (Sub.refl _) (fun φ e => (S25.fe φ e).1) fun φ e => upd_ne (fun z => fdD (by rw [e, z]))⟩
        rw [z] at e
        rw [hid_ne fdD, nD] at e; cases e
      have okU : ok F5 (upd H5 D (.lst (us ++ [w]))) := it.st F1 H1 _ _ o1 SU
      have c5 : ∀ c ∈ C5, c.1 ≠ D := fun c hc z => by
        have h1 := (k5.2 c hc).2.2
        have h2 : H4 D = some (.lst us) := (stay (S3.trans R2.fe S4)).1
        rw [z] at h1
        rw [h1] at h2; cases h2
      have kk := hc.append (C2 := C5) R1.fe S2 (F2 := F5) (H2 := H5) S35 ⟨k5.1, fun c hc => ⟨(k5.2 c hc).1, (k5.2 c hc).2.1, (S3.trans R2.fe S4).fresh R2.fe (k5.2 c hc).2.2⟩⟩
      refine ⟨us, e1, hl', F5, done ++ [z], us ++ [w], C ++ C5, SU, okU, upd_same, e2, ?_, ⟨kk.1, fun c hc => ?_⟩, fun c hc => ?_, by simp; omega, hi, ?_⟩
      · rw [List.map_append]
        have o5' : OwnAll K F5 n [w] [h z] C5 := by
          have := OwnAll.cons o5 .nil
          rwa [List.append_nil] at this
        exact (ow.mono S35.ff).append o5'
      · obtain ⟨a1, a2, a3⟩ := kk.2 c hc
        refine ⟨?_, a2, a3⟩
        rw [upd_ne ?_]
        · exact a1
        · rcases List.mem_append.mp hc with hc | hc
          · exact hcD c hc
          · exact c5 c hc
      · rcases List.mem_append.mp hc with hc | hc
        · exact hcD c hc
        · exact c5 c hc
      · refine rmono (rbind p) fun ys p => ?_
        have p := rpure p
        rw [List.append_assoc]
        exact p
  · have e : i = xs.length := by omega
    subst e
    refine .inl ⟨by have := it.stop F2 H2 o2 R2.sub R2.fe; rwa [List.length_map] at this, ?_⟩
    rw [List.drop_length] at run
    have run := rpure run
    rw [List.append_nil] at run
    refine run (.ref D) F2 H2 ((D, .lst us) :: C) S2 (.lst ow ?_) ⟨?_, fun c hc' => ?_⟩
    · rw [List.length_map]
      exact Nat.le_trans dl hl
    · rw [List.map_cons, List.nodup_cons]
      refine ⟨fun hm => ?_, hc.1⟩
      obtain ⟨c, h1, e⟩ := List.mem_map.mp hm
      exact hcD c h1 e
    · rcases List.mem_cons.mp hc' with rfl | hc'
      · exact ⟨hD, fD, nD⟩
      · exact hc.2 c hc'
end
end DL
namespace DL
open PySem PySem.Spec PyProof.Rows L2
section
variable {m : Type → Type} [Run m] {α β γ : Type} {X : Cx} {b : Bs} {sl : Sls} {e e1 e2 : Expr} {md : Md} {g : α → D} {h : β → D} {K : PySem.W.Frag} {fd : Option Addr} {c : m (List α)} {vs ws : List Nat} {n : Nat} {tst : α → m Bool} {elt : α → m β} {set : α → Sls → Sls} {gt : TG} {fz : Bool} {tt : TT} {pos : Pos}
theorem lcM_map (f : α → β) : ∀ xs : List α, lcM (fun _ => (pure true : m Bool)) (fun x => (pure (f x) : m β)) xs = pure (xs.map f)
  | [] => rfl
  | x :: xs => by
    show ((pure true : m Bool) >>= fun t => if t then _ else _) = _
    rw [Run.pure_b, if_pos rfl, Run.pure_b, lcM_map f xs, Run.pure_b]
    rfl
theorem lcM_filter (p : α → Bool) (f : α → β) : ∀ xs : List α, lcM (fun x => (pure (p x) : m Bool)) (fun x => (pure (f x) : m β)) xs = pure ((xs.filter p).map f)
  | [] => rfl
  | x :: xs => by
    show ((pure (p x) : m Bool) >>= fun t => if t then _ else _) = _
    rw [Run.pure_b, List.filter_cons]
    cases p x with
    | true => rw [if_pos rfl, if_pos rfl, Run.pure_b, lcM_filter p f xs, Run.pure_b]; rfl
    | false => rw [if_neg Bool.false_ne_true, if_neg Bool.false_ne_true, lcM_filter p f xs]
variable {elx tg iter : Expr} {ifs : List Expr} {scope : Scope} {own : List (Str × Nat)}
theorem dm_lc (hc : X.calm = true) (hN : X.N.Nodup) (hi : DI X b sl tg iter fz c g) (ok : BlkOk X.N X.env.scope scope own) (hgt : GT X.K gt ws g set)
    (hg : ∀ (s : Shared) (H : Hp) (C : Addr) (cl : List (Str × Addr)) (fp : List Addr), PG (X.blk s H scope (compEnvC scope cl C X.env) fp) tg gt)
    (ht : ∀ (s : Shared) (H : Hp) (C : Addr) (cl : List (Str × Addr)) (fp : List Addr), PTs (X.blk s H scope (compEnvC scope cl C X.env) fp) ifs tt) (hto : TsOk X.K b (wipeS sl (own.map (·.2))) set tst tt)
    (he : ∀ (s : Shared) (H : Hp) (C : Addr) (cl : List (Str × Addr)) (fp : List Addr) (x : α), DM (X.blk s H scope (compEnvC scope cl C X.env) fp) b (set x (wipeS sl (own.map (·.2)))) elx (.ow n) (elt x) h)
    (hw : ∀ i ∈ ws, i ∈ own.map (·.2) := by decide) (hs : ∀ x, foldedSetIterable iter X.env x = pure x := by intro _; rfl) : DM X b sl (.ListComp elx [⟨tg, iter, ifs, 0⟩] scope pos) (.ow (n + 1)) (c >>= lcM tst elt) (eL h) :=
  PE.imp (pe_lc hc hN hi ok hg ht (fun s H C cl fp => PE.ex (he s H C cl fp)) hs) fun _ _ _ q => lc_to hgt hw hto q
/-- tests of a comprehension -/
structure LT (X : Cx) (b : Bs) (sl : Sls) (set : α → Sls → Sls) (scope : Scope) (ifs : List Expr) (tst : α → m Bool) (tt : TT) : Prop where
  pts : ∀ (s : Shared) (H : Hp) (C : Addr) (cl : List (Str × Addr)) (fp : List Addr), PTs (X.blk s H scope (compEnvC scope cl C X.env) fp) ifs tt
  ok : TsOk X.K b sl set tst tt
theorem lt_no : LT X b sl set scope [] (fun _ => (pure true : m Bool)) tYes := ⟨fun _ _ _ _ _ => pts_nil, ts_yes⟩
theorem lt_if (h : ∀ (s : Shared) (H : Hp) (C : Addr) (cl : List (Str × Addr)) (fp : List Addr) (x : α), DT (X.blk s H scope (compEnvC scope cl C X.env) fp) b (set x sl) e (tst x)) : LT X b sl set scope [e] tst (tEx fun x => tTT X.K b (set x sl) (tst x)) :=
  ⟨fun s H C cl fp => pts_one (PT.ex (h s H C cl fp)), ts_one⟩
/-- a comprehension with a test or none -/
theorem dm_lc' (hc : X.calm = true) (hN : X.N.Nodup) (hi : DI X b sl tg iter fz c g) (ok : BlkOk X.N X.env.scope scope own) (hgt : GT X.K gt ws g set)
    (hg : ∀ (s : Shared) (H : Hp) (C : Addr) (cl : List (Str × Addr)) (fp : List Addr), PG (X.blk s H scope (compEnvC scope cl C X.env) fp) tg gt)
    (ht : LT X b (wipeS sl (own.map (·.2))) set scope ifs tst tt)
    (he : ∀ (s : Shared) (H : Hp) (C : Addr) (cl : List (Str × Addr)) (fp : List Addr) (x : α), DM (X.blk s H scope (compEnvC scope cl C X.env) fp) b (set x (wipeS sl (own.map (·.2)))) elx (.ow n) (elt x) h)
    (hw : ∀ i ∈ ws, i ∈ own.map (·.2) := by decide) (hs : ∀ x, foldedSetIterable iter X.env x = pure x := by intro _; rfl) : DM X b sl (.ListComp elx [⟨tg, iter, ifs, 0⟩] scope pos) (.ow (n + 1)) (c >>= lcM tst elt) (eL h) :=
  dm_lc hc hN hi ok hgt hg ht.pts ht.ok he hw hs
/-! ### where nothing can fail -/
theorem dm_lcT {xs : List α} {f : α → β} (q : DM X b sl e md ((pure xs : m (List α)) >>= lcM (fun _ => pure true) (fun x => pure (f x))) (eL h)) : DM X b sl e md (pure (xs.map f) : m (List β)) (eL h) := dm_eq q (by rw [Run.pure_b, lcM_map])
theorem dm_lcF {xs : List α} {p : α → Bool} {f : α → β} (q : DM X b sl e md ((pure xs : m (List α)) >>= lcM (fun x => pure (p x)) (fun x => pure (f x))) (eL h)) : DM X b sl e md (pure ((xs.filter p).map f) : m (List β)) (eL h) := dm_eq q (by rw [Run.pure_b, lcM_filter])
theorem dm_lcT' {f : α → β} (q : DM X b sl e md (c >>= lcM (fun _ => pure true) (fun x => pure (f x))) (eL h)) : DM X b sl e md (c >>= fun xs => pure (xs.map f)) (eL h) := dm_eq q (by congr 1; funext xs; exact lcM_map f xs)
theorem dm_lcF' {p : α → Bool} {f : α → β} (q : DM X b sl e md (c >>= lcM (fun x => pure (p x)) (fun x => pure (f x))) (eL h)) : DM X b sl e md (c >>= fun xs => pure ((xs.filter p).map f)) (eL h) := dm_eq q (by congr 1; funext xs; exact lcM_filter p f xs)
theorem dm_b1 {γ' : Type} {h' : γ' → D} {x : α} {k : α → m γ'} (q : DM X b sl e md ((pure x : m α) >>= k) h') : DM X b sl e md (k x) h' := dm_eq q (Run.pure_b _ _)
theorem dm_b2 {γ' : Type} {h' : γ' → D} {x : α} {y : β} {k : α → β → m γ'} (q : DM X b sl e md ((pure x : m α) >>= fun x => (pure y : m β) >>= fun y => k x y) h') : DM X b sl e md (k x y) h' := dm_eq q (by rw [Run.pure_b, Run.pure_b])
theorem dt_b2 {x : α} {y : β} {k : α → β → m Bool} (q : DT X b sl e ((pure x : m α) >>= fun x => (pure y : m β) >>= fun y => k x y)) : DT X b sl e (k x y) := by rw [Run.pure_b, Run.pure_b] at q; exact q
theorem di_b1 {γ' : Type} {h' : γ' → D} {x : α} {k : α → m (List γ')} (q : DI X b sl tg iter fz ((pure x : m α) >>= k) h') : DI X b sl tg iter fz (k x) h' := by rw [Run.pure_b] at q; exact q
theorem di_b2 {γ' : Type} {h' : γ' → D} {x : α} {y : β} {k : α → β → m (List γ')} (q : DI X b sl tg iter fz ((pure x : m α) >>= fun x => (pure y : m β) >>= fun y => k x y) h') : DI X b sl tg iter fz (k x y) h' := by rw [Run.pure_b, Run.pure_b] at q; exact q
/-! ### statements -/
inductive Oc where
  | nx (sl : Sls) | rt (n : Nat) (d : D) | bk (sl : Sls) | ct (sl : Sls)
structure RelB (K : PySem.W.Frag) (b : Bs) (F H : Hp) : Prop where
  sub : Sub F (hid b.fd H)
  base : Sub (hid b.fd b.B) (hid b.fd H)
  fro : ∀ p, b.B p ≠ none → b.F0 p = none → F p = none
  f0 : Sub b.F0 F
  fe : FeedOk K b.fd F H
def HoldsB (C : List Cell) (b : Bs) (F H : Hp) : Prop := (C.map (·.1)).Nodup ∧ ∀ c ∈ C, H c.1 = some c.2 ∧ F c.1 = none ∧ b.B c.1 = none
def OcOk (K : PySem.W.Frag) (b : Bs) (F : Hp) (E : Ends) : Oc → Prop
  | .nx sl => ∀ σ' F' H', Sub F F' → Rel K b sl F' H' σ' → E.nx σ' H'
  | .bk sl => ∀ σ' F' H', Sub F F' → Rel K b sl F' H' σ' → E.bk σ' H'
  | .ct sl => ∀ σ' F' H', Sub F F' → Rel K b sl F' H' σ' → E.ct σ' H'
  | .rt n d => ∀ v F' H' C, Sub F F' → RelB K b F' H' → Own K F' n v d C → HoldsB C b F' H' → E.rt v H'
theorem Rel.relB {F H : Hp} {σ : L2.St} (R : Rel K b sl F H σ) : RelB K b F H := ⟨R.sub, R.base, R.fro, R.f0, R.fe⟩
theorem OcOk.mono {F F' : Hp} {E : Ends} {o : Oc} (h : OcOk K b F E o) (s : Sub F F') : OcOk K b F' E o := by
  cases o with
  | nx sl => exact fun σ' F2 H2 s2 R => h σ' F2 H2 (s.trans s2) R
  | bk sl => exact fun σ' F2 H2 s2 R => h σ' F2 H2 (s.trans s2) R
  | ct sl => exact fun σ' F2 H2 s2 R => h σ' F2 H2 (s.trans s2) R
  | rt n d => exact fun v F2 H2 C s2 R => h v F2 H2 C (s.trans s2) R
variable {Z Z' S R : Type}
def tB (K : PySem.W.Frag) (b : Bs) (sl : Sls) (c : m Z) (out : Z → Oc) : TS := fun E σ H => ∃ F, Rel K b sl F H σ ∧ Run.run c (fun z => OcOk K b F E (out z))
abbrev DS1 (X : Cx) (b : Bs) (sl : Sls) (st : Stmt) (c : m Z) (out : Z → Oc) : Prop := PS X st (tB X.K b sl c out)
abbrev DS (X : Cx) (b : Bs) (sl : Sls) (sts : List Stmt) (c : m Z) (out : Z → Oc) : Prop := PSs X sts (tB X.K b sl c out)
theorem PSs.ex {sts : List Stmt} {t : α → TS} (h : ∀ x, PSs X sts (t x)) : PSs X sts (fun E σ H => ∃ x, t x E σ H) := ⟨fun pins s σ H D I ⟨x, q⟩ => (h x).run pins s σ H D I q⟩
/-- known less -/
def Wk : Sls → Sls → Prop
  | [], [] => True
  | none :: r, _ :: r' => Wk r r'
  | some x :: r, some y :: r' => x = y ∧ Wk r r'
  | _, _ => False
theorem Wk.get : ∀ {s s' : Sls}, Wk s s' → s.length = s'.length ∧ ∀ (i : Nat) (x : Sl), s[i]? = some (some x) → s'[i]? = some (some x)
  | [], [], _ => ⟨rfl, fun i x h => by simp at h⟩
  | none :: r, y :: r', h => by
    obtain ⟨h1, h2⟩ := Wk.get (s := r) (s' := r') h
    refine ⟨by simp [h1], fun i x e => ?_⟩
    cases i with
    | zero => simp at e
    | succ i => exact h2 i x e
  | some x :: r, some y :: r', h => by
    obtain ⟨rfl, h⟩ := h
    obtain ⟨h1, h2⟩ := Wk.get h
    refine ⟨by simp [h1], fun i z e => ?_⟩
    cases i with
    | zero => exact e
    | succ i => exact h2 i z e
theorem Rel.wk {s s' : Sls} {F H : Hp} {σ : L2.St} (R : Rel K b s' F H σ) (w : Wk s s') : Rel K b s F H σ := R.weak (by rw [R.len, w.get.1]) fun i x e => ⟨w.get.2 i x e, rfl⟩
theorem ds_nil {z : Z} {out : Z → Oc} {sl' : Sls} (ho : out z = .nx sl') (w : Wk sl' sl) : DS X b sl [] (pure z : m Z) out := PSs.imp pss_nil fun E σ H ⟨F, R, q⟩ => by
  have q := rpure q
  rw [ho] at q
  exact q σ F H (Sub.refl _) (R.wk w)
/-- how what follows goes on -/
def Kont (X : Cx) (b : Bs) (rest : List Stmt) (out : Z → Oc) (o : Oc) (k : m Z) : Prop := match o with
  | .nx sl' => DS X b sl' rest k out
  | o => ∃ z, k = pure z ∧ out z = o
theorem ds_cons {st : Stmt} {rest : List Stmt} {c : m Z'} {o1 : Z' → Oc} {k : Z' → m Z} {out : Z → Oc} (h1 : DS1 X b sl st c o1) (h2 : ∀ z, Kont X b rest out (o1 z) (k z)) : DS X b sl (st :: rest) (c >>= k) out := by
  have hk : ∀ z : { p : Z' × Sls // o1 p.1 = .nx p.2 }, DS X b z.1.2 rest (k z.1.1) out := fun z => by
    have := h2 z.1.1
    rw [z.2] at this
    exact this
  refine PSs.imp (pss_cons h1 (PSs.ex hk)) fun E σ H ⟨F, R, q⟩ => ⟨F, R, rmono (rbind q) fun z q => ?_⟩
  cases ho : o1 z with
  | nx sl' => exact fun σ' F' H' s R' => ⟨⟨(z, sl'), ho⟩, F', R', rmono q fun z' q => q.mono s⟩
  | rt n d =>
    have := h2 z
    rw [ho] at this
    obtain ⟨z', e, e2⟩ := this
    rw [e] at q
    have q := rpure q
    rw [e2] at q
    exact q
  | bk sl' =>
    have := h2 z
    rw [ho] at this
    obtain ⟨z', e, e2⟩ := this
    rw [e] at q
    have q := rpure q
    rw [e2] at q
    exact q
  | ct sl' =>
    have := h2 z
    rw [ho] at this
    obtain ⟨z', e, e2⟩ := this
    rw [e] at q
    have q := rpure q
    rw [e2] at q
    exact q
theorem ds_b {x : α} {sts : List Stmt} {k : α → m Z} {out : Z → Oc} (q : DS X b sl sts ((pure x : m α) >>= k) out) : DS X b sl sts (k x) out := by rw [Run.pure_b] at q; exact q
theorem ds_eq {sts : List Stmt} {c c' : m Z} {out : Z → Oc} (q : DS X b sl sts c out) (e : c = c') : DS X b sl sts c' out := e ▸ q
theorem ds_last {st : Stmt} {c : m Z} {out : Z → Oc} (h : DS1 X b sl st c out) : DS X b sl [st] c out := pss_one h
end
end DL
namespace DL
open PySem PySem.Spec PyProof.Rows L2
section
variable {m : Type → Type} [Run m] {α β γ : Type} {X : Cx} {b : Bs} {sl : Sls} {e e1 e2 : Expr} {md : Md} {g : α → D} {h : β → D} {K : PySem.W.Frag} {fd : Option Addr} {c : m α} {vs ws : List Nat} {n : Nat} {pos : Pos} {Z Z' S R : Type} {out : Z → Oc} {x : Str} {pos' : Pos}
theorem Rel.hb {F H F' H' : Hp} {σ : L2.St} {C : List Cell} (R : Rel K b sl F H σ) (S : Step K b.fd F H F' H') (h : Holds C F' H' H) : HoldsB C b F' H' := ⟨h.1, fun c hc => ⟨(h.2 c hc).1, (h.2 c hc).2.1, by
  cases q : b.B c.1 with
  | none => rfl
  | some o =>
    have nf : b.fd ≠ some c.1 := fun z => by
      obtain ⟨o, e⟩ := R.fe.some z
      rw [(h.2 c hc).2.2] at e; cases e
    have := R.base c.1 o (by rw [hid_ne nf]; exact q)
    rw [hid_ne nf, (h.2 c hc).2.2] at this; cases this⟩⟩
/-! ### assignments -/
theorem asgV {i : Nat} {E : Ends} {σ : L2.St} {H : Hp} (q : tB K b sl c (fun x => .nx (sl.set i (some (.v (g x))))) E σ H) : tAsg (tD K b sl (.ow 0) c g) (gName i) E σ H := by
  obtain ⟨F, R, q⟩ := q
  refine ⟨F, R, rmono q fun x p v F' H' C S r k => ?_⟩
  cases r with
  | z r => exact p _ F' H' S.ff ((R.step S).setV r)
theorem asgO {n : Nat} {i : Nat} {E : Ends} {σ : L2.St} {H : Hp} (q : tB K b sl c (fun x => .nx (sl.set i (some (.o n (g x))))) E σ H) : tAsg (tD K b sl (.ow n) c g) (gName i) E σ H := by
  obtain ⟨F, R, q⟩ := q
  exact ⟨F, R, rmono q fun x p v F' H' C S r k => p _ F' H' S.ff (R.setNew S r k)⟩
theorem ds_setV (i : Nat) (he : DM X b sl e (.ow 0) c g) (hN : X.N.Nodup) (hi : X.N[i]? = some x := by rfl) (hx : Loc X.env.scope x := by first | exact Or.inl rfl | exact Or.inr rfl) (hs : swapsWith e (some (.Name x pos')) pos.line X.env = pure false := by rfl) (hf : X.fn x = true ∨ X.env.scope.names.lookup x = some .local := by first | exact .inl rfl | exact .inr rfl) :
    DS1 X b sl (.Assign [.Name x pos'] e pos) c (fun x => .nx (sl.set i (some (.v (g x))))) := PS.imp (ps_set hN hi hx he hs hf) fun E σ H q => asgV q
theorem ds_setO (i : Nat) {n : Nat} (he : DM X b sl e (.ow n) c g) (hN : X.N.Nodup) (hi : X.N[i]? = some x := by rfl) (hx : Loc X.env.scope x := by first | exact Or.inl rfl | exact Or.inr rfl) (hs : swapsWith e (some (.Name x pos')) pos.line X.env = pure false := by rfl) (hf : X.fn x = true ∨ X.env.scope.names.lookup x = some .local := by first | exact .inl rfl | exact .inr rfl) :
    DS1 X b sl (.Assign [.Name x pos'] e pos) c (fun x => .nx (sl.set i (some (.o n (g x))))) := PS.imp (ps_set hN hi hx he hs hf) fun E σ H q => asgO q
theorem asgF {n : Nat} {i : Nat} {E : Ends} {σ : L2.St} {H : Hp} (q : tB K b sl c (fun x => .nx (sl.set i (some (.v (g x))))) E σ H) : tAsg (tD K b sl (.ow n) c g) (gName i) E σ H := by
  obtain ⟨F, R, q⟩ := q
  refine ⟨F, R, rmono q fun x p v F' H' C S r k => ?_⟩
  obtain ⟨F2, S2, r2, _⟩ := freeze R.fe S r k
  exact p _ F2 H' S2.ff ((R.step S2).setV r2)
theorem tAsg_imp {te te' : TE} {t : TG} {E : Ends} {σ : L2.St} {H : Hp} (k : ∀ Q, te' σ H Q → te σ H Q) (q : tAsg te' t E σ H) : tAsg te t E σ H := k _ q
theorem tB_eq {c c' : m Z} {E : Ends} {σ : L2.St} {H : Hp} (e : c = c') (q : tB K b sl c' out E σ H) : tB K b sl c out E σ H := e ▸ q
theorem ds1_eq {st : Stmt} {c c' : m Z} (q : DS1 X b sl st c out) (e : c = c') : DS1 X b sl st c' out := e ▸ q
section
variable {δ ε : Type} {elx tg iter : Expr} {ifs : List Expr} {scope : Scope} {own : List (Str × Nat)} {c : m (List δ)} {g : δ → D} {h : ε → D} {tst : δ → m Bool} {elt : δ → m ε} {set : δ → Sls → Sls} {gt : TG} {fz : Bool} {tt : TT}
theorem ds_lcO (i : Nat) {n : Nat} {y : Str} {py spos : Pos} (hc : X.calm = true) (hN : X.N.Nodup) (hi : DI X b sl tg iter fz c g) (ok : BlkOk X.N X.env.scope scope own) (hgt : GT X.K gt ws g set)
    (hg : ∀ (s : Shared) (H : Hp) (C : Addr) (cl : List (Str × Addr)) (fp : List Addr), PG (X.blk s H scope (compEnvC scope cl C X.env) fp) tg gt) (ht : LT X b (wipeS sl (own.map (·.2))) set scope ifs tst tt)
    (he : ∀ (s : Shared) (H : Hp) (C : Addr) (cl : List (Str × Addr)) (fp : List Addr) (x : δ), DM (X.blk s H scope (compEnvC scope cl C X.env) fp) b (set x (wipeS sl (own.map (·.2)))) elx (.ow n) (elt x) h)
    (hsw : swapsWith (.ListComp elx [⟨tg, iter, ifs, 0⟩] scope pos) (some (.Name y py)) spos.line X.env = pure true := by exact sw_true rfl rfl rfl (by decide +kernel))
    (hy : X.N[i]? = some y := by rfl) (hyl : X.env.scope.names.lookup y = some .local := by rfl)
    (hw : ∀ i ∈ ws, i ∈ own.map (·.2) := by decide) (hs : ∀ x, foldedSetIterable iter X.env x = pure x := by intro _; rfl) :
    DS1 X b sl (.Assign [.Name y py] (.ListComp elx [⟨tg, iter, ifs, 0⟩] scope pos) spos) (c >>= lcM tst elt) (fun ys => .nx (sl.set i (some (.o (n + 1) (eL h ys))))) :=
  PS.imp (ps_setLc hc hN hy hyl hsw hi ok hg ht.pts (fun s H C cl fp => PE.ex (he s H C cl fp)) hs) fun E σ H q => tAsg_imp (fun Q q => lc_to hgt hw ht.ok q) (asgO q)
theorem ds_lcV (i : Nat) {n : Nat} {y : Str} {py spos : Pos} (hc : X.calm = true) (hN : X.N.Nodup) (hi : DI X b sl tg iter fz c g) (ok : BlkOk X.N X.env.scope scope own) (hgt : GT X.K gt ws g set)
    (hg : ∀ (s : Shared) (H : Hp) (C : Addr) (cl : List (Str × Addr)) (fp : List Addr), PG (X.blk s H scope (compEnvC scope cl C X.env) fp) tg gt) (ht : LT X b (wipeS sl (own.map (·.2))) set scope ifs tst tt)
    (he : ∀ (s : Shared) (H : Hp) (C : Addr) (cl : List (Str × Addr)) (fp : List Addr) (x : δ), DM (X.blk s H scope (compEnvC scope cl C X.env) fp) b (set x (wipeS sl (own.map (·.2)))) elx (.ow n) (elt x) h)
    (hsw : swapsWith (.ListComp elx [⟨tg, iter, ifs, 0⟩] scope pos) (some (.Name y py)) spos.line X.env = pure true := by exact sw_true rfl rfl rfl (by decide +kernel))
    (hy : X.N[i]? = some y := by rfl) (hyl : X.env.scope.names.lookup y = some .local := by rfl)
    (hw : ∀ i ∈ ws, i ∈ own.map (·.2) := by decide) (hs : ∀ x, foldedSetIterable iter X.env x = pure x := by intro _; rfl) :
    DS1 X b sl (.Assign [.Name y py] (.ListComp elx [⟨tg, iter, ifs, 0⟩] scope pos) spos) (c >>= lcM tst elt) (fun ys => .nx (sl.set i (some (.v (eL h ys))))) :=
  PS.imp (ps_setLc hc hN hy hyl hsw hi ok hg ht.pts (fun s H C cl fp => PE.ex (he s H C cl fp)) hs) fun E σ H q => tAsg_imp (fun Q q => lc_to hgt hw ht.ok q) (asgF q)
theorem ds1_lcT {st : Stmt} {xs : List δ} {f : δ → ε} {out : List ε → Oc} (q : DS1 X b sl st ((pure xs : m (List δ)) >>= lcM (fun _ => pure true) (fun x => pure (f x))) out) : DS1 X b sl st (pure (xs.map f) : m (List ε)) out := ds1_eq q (by rw [Run.pure_b, lcM_map])
theorem ds1_lcF {st : Stmt} {xs : List δ} {p : δ → Bool} {f : δ → ε} {out : List ε → Oc} (q : DS1 X b sl st ((pure xs : m (List δ)) >>= lcM (fun x => pure (p x)) (fun x => pure (f x))) out) : DS1 X b sl st (pure ((xs.filter p).map f) : m (List ε)) out := ds1_eq q (by rw [Run.pure_b, lcM_filter])
theorem ds1_lcT' {st : Stmt} {f : δ → ε} {out : List ε → Oc} (q : DS1 X b sl st (c >>= lcM (fun _ => pure true) (fun x => pure (f x))) out) : DS1 X b sl st (c >>= fun xs => pure (xs.map f)) out := ds1_eq q (by congr 1; funext xs; exact lcM_map f xs)
theorem ds1_lcF' {st : Stmt} {p : δ → Bool} {f : δ → ε} {out : List ε → Oc} (q : DS1 X b sl st (c >>= lcM (fun x => pure (p x)) (fun x => pure (f x))) out) : DS1 X b sl st (c >>= fun xs => pure ((xs.filter p).map f)) out := ds1_eq q (by congr 1; funext xs; exact lcM_filter p f xs)
end
/-- x, y = e -/
theorem ds_asg {tg : Expr} {t : TG} {set : α → Sls → Sls} (he : DA X b sl e .fr c g) (hgt : GT X.K t ws g set) (hg : PG X tg t) (hs : swapsWithSole [tg] e pos.line X.env = pure false := by rfl) (hw : swappedStores [tg] e X.env = pure none := by rfl) (h1 : (assignEach [tg] X.env).map (·.2) = [assign tg X.env] := by rfl) :
    DS1 X b sl (.Assign [tg] e pos) c (fun x => .nx (set x sl)) := PS.imp (ps_asg he hg hs hw h1) fun E σ H ⟨F, R, q⟩ => ⟨F, R, rmono q fun x p v F' H' S r =>
  hgt.run b sl F' H' σ v x _ (R.step S) r fun σ' R' _ => p σ' F' H' S.ff R'⟩
/-- x, y = e1, e2: both sides written -/
theorem ds_par {i j : Nat} {x y : Str} {px py pt : Pos} {kt k2 pt2} {c1 : m β} {g1 : β → D} (hc : X.calm = true) (hN : X.N.Nodup) (h1 : DA X b sl e1 .fr c g) (h2 : DA X b sl e2 .fr c1 g1) (hi : X.N[i]? = some x) (hj : X.N[j]? = some y) (hij : i ≠ j)
    (hx : X.env.scope.names.lookup x = some .local) (hy : X.env.scope.names.lookup y = some .local)
    (hw : swappedStores [.Tuple [.Name x px, .Name y py] kt pt] (.Tuple [e1, e2] k2 pt2) X.env = pure (some [x, y]) := by rfl)
    (hs : swapsWithSole [.Tuple [.Name x px, .Name y py] kt pt] (.Tuple [e1, e2] k2 pt2) pos.line X.env = pure false := by rfl) (hs1 : starEach [e1, e2] X.env = (false, eval e1 X.env) :: starEach [e2] X.env := by rfl) (hs2 : starEach [e2] X.env = (false, eval e2 X.env) :: starEach [] X.env := by rfl) :
    DS1 X b sl (.Assign [.Tuple [.Name x px, .Name y py] kt pt] (.Tuple [e1, e2] k2 pt2) pos) (c >>= fun x => c1 >>= fun y => pure (x, y)) (fun p => .nx ((sl.set i (some (.v (g p.1)))).set j (some (.v (g1 p.2))))) :=
  PS.imp (ps_par hc hN hi hj hij hx hy (pa_cons h1 (pa_cons h2 pa_nil hs2) hs1) hw hs) fun E σ H ⟨F, R, q⟩ => ⟨F, R, rmono (rbind q) fun x q v F1 H1 S1 r1 =>
  ⟨F1, R.step S1, rmono (rbind q) fun y q w F2 H2 S2 r2 => by
    have q := rpure q
    exact ⟨v, w, rfl, q _ F2 H2 (S1.ff.trans S2.ff) ((((R.step S1).step S2).setV (Rp.mono S2.ff r1)).setV r2)⟩⟩⟩
/-- x op= e, ints -/
theorem ds_aug {op : Operator} {r : R2} {c1 : m β} {g1 : β → D} {a : α} {k : α → β → m γ} {h' : γ → D} (i : Nat) (ho : OpR X (inplaceOp op) r) (he : DA X b sl e .pk c1 g1) (hr : OpS X.K b.fd r .pk .pk g g1 (fun _ _ => True) k (.ow 0) h') (hv : sl[i]? = some (some (.v (g a)))) (hN : X.N.Nodup) (hi : X.N[i]? = some x := by rfl) (hx : Loc X.env.scope x := by first | exact Or.inl rfl | exact Or.inr rfl)
    (hf : X.fn x = true ∨ X.env.scope.names.lookup x = some .local := by first | exact .inl rfl | exact .inr rfl) :
    DS1 X b sl (.AugAssign (.Name x pos') op e pos) (c1 >>= fun y => k a y) (fun z => .nx (sl.set i (some (.v (h' z))))) := PS.imp (ps_aug (ti := r) hN hi hx he ho hf) fun E σ H ⟨F, R, q⟩ => by
  obtain ⟨v, e1, r1⟩ := R.getV hv
  refine ⟨v, e1, F, R, rmono (rbind q) fun y q w F1 H1 S1 r2 => ?_⟩
  have R1 := R.step S1
  exact hr F1 H1 v w a y _ trivial R1.sub R1.fe (Rp.mono (S1.ff.trans S1.fh) r1) r2 (rmono q fun z p v2 F2 H2 C S2 r3 k3 => by
    cases r3 with
    | z r3 => exact p _ F2 H2 (S1.ff.trans S2.ff) ((R1.step S2).setV r3))
/-- return e -/
theorem ds_ret {f : α → Z} {rest : List Stmt} (he : DM X b sl e (.ow n) c g) (ho : ∀ r, out (f r) = .rt n (g r)) : DS X b sl (.Return (some e) pos :: rest) (c >>= fun r => pure (f r)) out :=
  PSs.imp (pss_cons (ps_ret he) (pss_never)) fun E σ H ⟨F, R, q⟩ => ⟨F, R, rmono (rbind q) fun r p v F' H' C S o k => by
    have p := rpure p
    rw [ho] at p
    exact p v F' H' C S.ff (R.step S).relB o (R.hb S k)⟩
theorem ds_ret0 {rest : List Stmt} (he : DM X b sl e (.ow n) c g) : DS X b sl (.Return (some e) pos :: rest) c (fun r => .rt n (g r)) :=
  PSs.imp (pss_cons (ps_ret he) (pss_never)) fun E σ H ⟨F, R, q⟩ => ⟨F, R, rmono q fun r p v F' H' C S o k => p v F' H' C S.ff (R.step S).relB o (R.hb S k)⟩
/-- an expression whose value is dropped -/
theorem ds_expr (he : DM X b sl e md c g) (hs : swapsWith e none pos.line X.env = pure false := by rfl) : DS1 X b sl (.Expr e pos) c (fun _ => .nx sl) := PS.imp (ps_expr he hs) fun E σ H ⟨F, R, q⟩ => ⟨F, R, rmono q fun x p => by
  cases md with
  | pk => exact fun v F' H' S r => p σ F' H' S.ff (R.step S)
  | ow n => exact fun v F' H' C S r k => p σ F' H' S.ff (R.step S)⟩
theorem ds_pass : DS1 X b sl (.Pass pos) (pure () : m Unit) (fun _ => .nx sl) := PS.imp ps_pass fun E σ H ⟨F, R, q⟩ => by
  have q := rpure q
  exact q σ F H (Sub.refl _) R
theorem ds_break {z : Z} (h : out z = .bk sl) : DS1 X b sl (.Break pos) (pure z : m Z) out := PS.imp ps_break fun E σ H ⟨F, R, q⟩ => by
  have q := rpure q
  rw [h] at q
  exact q σ F H (Sub.refl _) R
/-! ### if -/
theorem ds_if {tst : Expr} {A B : List Stmt} {cc : m Bool} {cA cB : m Z} (ht : DT X b sl tst cc) (hA : DS X b sl A cA out) (hB : DS X b sl B cB out) : DS1 X b sl (.If tst A B pos) (cc >>= fun t => if t then cA else cB) out :=
  PS.imp (ps_if ht hA hB) fun E σ H ⟨F, R, q⟩ => ⟨F, R, rmono (rbind q) fun t q F' H' S => by
    cases t with
    | true => exact ⟨F', R.step S, rmono q fun z q => q.mono S.ff⟩
    | false => exact ⟨F', R.step S, rmono q fun z q => q.mono S.ff⟩⟩
/-- an if that leaves, then the rest -/
theorem ds_ifR {tst : Expr} {A rest : List Stmt} {cc : m Bool} {cA : m Z'} {oA : Z' → Oc} {f : Z' → Z} {cR : m Z} (ht : DT X b sl tst cc) (hA : DS X b sl A cA oA) (hl : ∀ z, (∀ s, oA z ≠ .nx s) ∧ out (f z) = oA z) (hR : DS X b sl rest cR out) :
    DS X b sl (.If tst A [] pos :: rest) (cc >>= fun t => if t then cA >>= fun z => pure (f z) else cR) out :=
  PSs.imp (pss_cons (ps_if ht hA pss_nil) hR) fun E σ H ⟨F, R, q⟩ => ⟨F, R, rmono (rbind q) fun t q F' H' S => by
    cases t with
    | true =>
      refine ⟨F', R.step S, rmono (rbind q) fun z q => ?_⟩
      have q := rpure q
      rw [(hl z).2] at q
      have n := (hl z).1
      have q := q.mono S.ff
      generalize oA z = o at n q
      cases o with
      | nx s => exact absurd rfl (n s)
      | rt n d => exact q
      | bk s => exact q
      | ct s => exact q
    | false => exact ⟨F', R.step S, rmono q fun z q => q.mono S.ff⟩⟩
theorem ds_ifR0 {tst : Expr} {A rest : List Stmt} {cc : m Bool} {cA cR : m Z} (ht : DT X b sl tst cc) (hA : DS X b sl A cA out) (hl : ∀ z s, out z ≠ .nx s) (hR : DS X b sl rest cR out) :
    DS X b sl (.If tst A [] pos :: rest) (cc >>= fun t => if t then cA else cR) out :=
  PSs.imp (pss_cons (ps_if ht hA pss_nil) hR) fun E σ H ⟨F, R, q⟩ => ⟨F, R, rmono (rbind q) fun t q F' H' S => by
    cases t with
    | true =>
      refine ⟨F', R.step S, rmono q fun z q => ?_⟩
      have q := q.mono S.ff
      have n := hl z
      generalize out z = o at n q
      cases o with
      | nx s => exact absurd rfl (n s)
      | rt n d => exact q
      | bk s => exact q
      | ct s => exact q
    | false => exact ⟨F', R.step S, rmono q fun z q => q.mono S.ff⟩⟩
/-- what is ours is let stand -/
theorem Rel.frz {F H : Hp} {σ : L2.St} {i n : Nat} {d : D} (R : Rel K b sl F H σ) (e : sl[i]? = some (some (.o n d))) : ∃ F', Sub F F' ∧ Rel K b (sl.set i (some (.v d))) F' H σ := by
  obtain ⟨Cs, s1, s2, s3⟩ := R.slots
  obtain ⟨v, e1, r⟩ := s1 i _ e
  let F' : Hp := fun a => if a ∈ (Cs i).map (·.1) then H a else F a
  have ff : Sub F F' := fun a o e => by
    show (if a ∈ (Cs i).map (·.1) then H a else F a) = some o
    rw [if_neg]
    · exact e
    · intro hm
      obtain ⟨c, hc, rfl⟩ := List.mem_map.mp hm
      rw [((s2 i).2 c hc).2.1] at e; cases e
  have fc : ∀ c ∈ Cs i, F' c.1 = some c.2 := fun c hc => by
    show (if c.1 ∈ (Cs i).map (·.1) then H c.1 else F c.1) = some c.2
    rw [if_pos (List.mem_map.mpr ⟨c, hc, rfl⟩)]
    exact ((s2 i).2 c hc).1
  have fn : ∀ p, F' p = if p ∈ (Cs i).map (·.1) then H p else F p := fun _ => rfl
  refine ⟨F', ff, ⟨by simp [R.len], fun a o e => ?_, R.base, fun p hp e => ?_, R.f0.trans ff, R.fe.mono ff (fun φ e => ?_) fun _ _ => rfl, R.fb, fun j => if j = i then [] else Cs j, fun j s ej => ?_, fun j => ?_, fun j l hjl c hc c' hc' => ?_⟩⟩
  · rw [fn] at e
    split at e
    · rename_i hm
      obtain ⟨c, hc, rfl⟩ := List.mem_map.mp hm
      rw [hid_ne ((s2 i).2 c hc).2.2.2]; exact e
    · exact R.sub a o e
  · rw [fn, if_neg]
    · exact R.fro p hp e
    · intro hm
      obtain ⟨c, hc, rfl⟩ := List.mem_map.mp hm
      exact hp ((s2 i).2 c hc).2.2.1
  · rw [fn, if_neg]
    · exact (R.fe φ e).1
    · intro hm
      obtain ⟨c, hc, rfl⟩ := List.mem_map.mp hm
      exact ((s2 i).2 c hc).2.2.2 e
  · by_cases hj : j = i
    · subst hj
      have hi : j < sl.length := by
        cases q : sl[j]? with
        | none => rw [q] at e; cases e
        | some z => exact (List.getElem?_eq_some_iff.mp q).1
      rw [List.getElem?_set_self hi] at ej
      cases ej
      exact ⟨v, e1, r.rp ff fc⟩
    · rw [List.getElem?_set_ne (Ne.symm hj)] at ej
      dsimp only
      rw [if_neg hj]
      exact (s1 j s ej).mono ff
  · by_cases hj : j = i
    · dsimp only; rw [if_pos hj]; exact ⟨List.nodup_nil, fun _ h => nomatch h⟩
    · dsimp only; rw [if_neg hj]
      refine ⟨(s2 j).1, fun c hc => ?_⟩
      obtain ⟨a1, a2, a3, a4⟩ := (s2 j).2 c hc
      refine ⟨a1, ?_, a3, a4⟩
      rw [fn, if_neg]
      · exact a2
      · intro hm
        obtain ⟨c', hc', e⟩ := List.mem_map.mp hm
        exact s3 j i hj c hc c' hc' e.symm
  · dsimp only at hc hc'
    by_cases hj : j = i
    · rw [if_pos hj] at hc; cases hc
    · by_cases hl : l = i
      · rw [if_pos hl] at hc'; cases hc'
      · rw [if_neg hj] at hc; rw [if_neg hl] at hc'
        exact s3 j l hjl c hc c' hc'
theorem ds_frz (i : Nat) {n : Nat} {d : D} {sts : List Stmt} {c : m Z} (e : sl[i]? = some (some (.o n d))) (h : DS X b (sl.set i (some (.v d))) sts c out) : DS X b sl sts c out := PSs.imp h fun E σ H ⟨F, R, q⟩ => by
  obtain ⟨F', ff, R'⟩ := R.frz e
  exact ⟨F', R', rmono q fun z q => q.mono ff⟩
/-- slots forgotten ahead of a block -/
theorem ds_wk {sl' : Sls} {sts : List Stmt} {c : m Z} (w : Wk sl' sl) (h : DS X b sl' sts c out) : DS X b sl sts c out := PSs.imp h fun E σ H ⟨F, R, q⟩ => ⟨F, R.wk w, q⟩
end
end DL
namespace DL
open PySem PySem.Spec PyProof.Rows L2
inductive Ct (S R : Type) where
  | nx (s : S) | rt (r : R) | bk (s : S)
deriving DecidableEq
section
variable {m : Type → Type} [Monad m] {α S R : Type}
def forS (f : S → α → m S) : S → List α → m S
  | s, [] => pure s
  | s, x :: xs => f s x >>= fun s' => forS f s' xs
def forC (f : S → α → m (Ct S R)) : S → List α → m (Ct S R)
  | s, [] => pure (.nx s)
  | s, x :: xs => f s x >>= fun z => match z with
    | .nx s' => forC f s' xs
    | .rt r => pure (.rt r)
    | .bk s' => pure (.nx s')
end
section
variable {m : Type → Type} [Run m] {S R : Type}
def whileS (c : S → m Bool) (f : S → m S) : Nat → S → m S
  | 0, _ => Run.lift none
  | k + 1, s => c s >>= fun t => if t then f s >>= fun s' => whileS c f k s' else pure s
def whileC (c : S → m Bool) (f : S → m (Ct S R)) : Nat → S → m (Ct S R)
  | 0, _ => Run.lift none
  | k + 1, s => c s >>= fun t => if t then f s >>= fun z => match z with
    | .nx s' => whileC c f k s'
    | .rt r => pure (.rt r)
    | .bk s' => pure (.nx s') else pure (.nx s)
end
section
variable {m : Type → Type} [Run m] {α β γ : Type} {X : Cx} {b : Bs} {sl : Sls} {e e1 e2 : Expr} {md : Md} {g : α → D} {h : β → D} {K : PySem.W.Frag} {fd : Option Addr} {vs ws : List Nat} {n : Nat} {pos : Pos} {Z Z' S R : Type} {out : Z → Oc} {x : Str} {pos' : Pos}
/-! ### for -/
def oC (Ef : S → Sls) (oR : R → Oc) : Ct S R → Oc
  | .nx s => .nx (Ef s)
  | .rt r => oR r
  | .bk s => .bk (Ef s)
/-- how a loop ends -/
def oE (Ef : S → Sls) (oR : R → Oc) : Ct S R → Oc
  | .nx s => .nx (Ef s)
  | .rt r => oR r
  | .bk s => .nx (Ef s)
theorem ds_forC {tg iter : Expr} {body : List Stmt} {t : TG} {set : α → Sls → Sls} {c : m (List α)} {Ef : S → Sls} {s0 : S} {f : S → α → m (Ct S R)} {oR : R → Oc} (hR : ∀ r, ∃ n d, oR r = .rt n d) (hp : PassesOwn (model X.prog X.w) X.A X.env X.xe) (hc : X.calm = true) (hi : DI X b sl tg iter true c g) (hgt : GT X.K t ws g set) (hg : PG X tg t)
    (h0 : Wk (Ef s0) sl) (hb : ∀ s x, DS X b (set x (Ef s)) body (f s x) (oC Ef oR)) (hs : ∀ x, foldedSetIterable iter X.env x = pure x := by intro _; rfl) :
    DS1 X b sl (.For tg iter body [] pos) (c >>= fun xs => forC f s0 xs) (oE Ef oR) := by
  have hb' : PSs X body (fun E σ H => ∃ p : S × α, tB X.K b (set p.2 (Ef p.1)) (f p.1 p.2) (oC Ef oR) E σ H) := PSs.ex fun p => hb p.1 p.2
  refine PS.imp (ps_for hp hc hi hg hb' hs) fun E σ H ⟨F, R0, q⟩ => ⟨F, R0, rmono (rbind q) fun xs q J F1 H1 ok S1 it o1 fz hl => ?_⟩
  have fz := fz rfl
  have q := rmono q fun z p => OcOk.mono p S1.ff
  refine ⟨fun i k σ H => k = xs.length - i ∧ i ≤ xs.length ∧ ∃ F2 s, Sub F1 F2 ∧ ok F2 H ∧ Rel X.K b (Ef s) F2 H σ ∧ Run.run (forC f s (xs.drop i)) (fun z => OcOk X.K b F1 E (oE Ef oR z)), ⟨_, rfl, Nat.zero_le _, F1, s0, Sub.refl _, o1, (R0.step S1).wk h0, q⟩, ?_⟩
  rintro i k σ2 H2 ⟨rfl, il, F2, s, ff, o2, R2, run⟩
  by_cases hi : i < xs.length
  · refine .inr ⟨it.go F2 H2 i o2 R2.sub R2.fe (by rw [List.length_map]; exact hi), fun σ' H' => ∃ F3 s', Sub F1 F3 ∧ ok F3 H' ∧ Rel X.K b (Ef s') F3 H' σ' ∧ Run.run (forC f s' (xs.drop (i + 1))) (fun z => OcOk X.K b F1 E (oE Ef oR z)), fun σ' H' ⟨F3, s', p⟩ => ⟨xs.length - (i + 1), by omega, rfl, by omega, F3, s', p⟩, fun v H3 y => ?_⟩
    rw [List.drop_eq_getElem_cons hi] at run
    obtain ⟨F3, S3, r3⟩ := it.yld F2 H2 i v H3 (g xs[i]) o2 R2.sub R2.fe (by rw [List.getElem?_map, List.getElem?_eq_getElem hi]; rfl) y
    refine hgt.run b _ F3 H3 σ2 v xs[i] _ (R2.step S3) r3 fun σ' R' _ => ⟨(s, xs[i]), F3, R', rmono (rbind run) fun z run => ?_⟩
    have o3 := it.st _ _ _ _ o2 S3
    have f13 : Sub F1 F3 := ff.trans S3.ff
    cases z with
    | nx s' => exact fun σ4 F4 H4 f4 R4 => ⟨F4, s', f13.trans f4, fz _ _ _ _ o3 f4 R4.sub, R4, run⟩
    | rt r =>
      have run : Run.run (pure (Ct.rt r) : m (Ct S R)) (fun z => OcOk X.K b F1 E (oE Ef oR z)) := run
      have run := rpure run
      have run : OcOk X.K b F1 E (oR r) := run
      have run := OcOk.mono run f13
      show OcOk X.K b F3 _ (oR r)
      obtain ⟨n, d, e⟩ := hR r
      rw [e] at run ⊢
      exact run
    | bk s' =>
      have run : Run.run (pure (Ct.nx s') : m (Ct S R)) (fun z => OcOk X.K b F1 E (oE Ef oR z)) := run
      have run := rpure run
      have run : OcOk X.K b F1 E (.nx (Ef s')) := run
      exact OcOk.mono run f13
  · have e : i = xs.length := by omega
    subst e
    rw [List.drop_length] at run
    have run := rpure run
    exact .inl ⟨by have := it.stop F2 H2 o2 R2.sub R2.fe; rwa [List.length_map] at this, run σ2 F2 H2 ff R2⟩
theorem ds_for {tg iter : Expr} {body : List Stmt} {t : TG} {set : α → Sls → Sls} {c : m (List α)} {Ef : S → Sls} {s0 : S} {f : S → α → m S} (hp : PassesOwn (model X.prog X.w) X.A X.env X.xe) (hc : X.calm = true) (hi : DI X b sl tg iter true c g) (hgt : GT X.K t ws g set) (hg : PG X tg t)
    (h0 : Wk (Ef s0) sl) (hb : ∀ s x, DS X b (set x (Ef s)) body (f s x) (fun s => .nx (Ef s))) (hs : ∀ x, foldedSetIterable iter X.env x = pure x := by intro _; rfl) :
    DS1 X b sl (.For tg iter body [] pos) (c >>= fun xs => forS f s0 xs) (fun s => .nx (Ef s)) := by
  have hb' : PSs X body (fun E σ H => ∃ p : S × α, tB X.K b (set p.2 (Ef p.1)) (f p.1 p.2) (fun s => .nx (Ef s)) E σ H) := PSs.ex fun p => hb p.1 p.2
  refine PS.imp (ps_for hp hc hi hg hb' hs) fun E σ H ⟨F, R0, q⟩ => ⟨F, R0, rmono (rbind q) fun xs q J F1 H1 ok S1 it o1 fz hl => ?_⟩
  have fz := fz rfl
  have q := rmono q fun z p => OcOk.mono p S1.ff
  refine ⟨fun i k σ H => k = xs.length - i ∧ i ≤ xs.length ∧ ∃ F2 s, Sub F1 F2 ∧ ok F2 H ∧ Rel X.K b (Ef s) F2 H σ ∧ Run.run (forS f s (xs.drop i)) (fun z => OcOk X.K b F1 E (.nx (Ef z))), ⟨_, rfl, Nat.zero_le _, F1, s0, Sub.refl _, o1, (R0.step S1).wk h0, q⟩, ?_⟩
  rintro i k σ2 H2 ⟨rfl, il, F2, s, ff, o2, R2, run⟩
  by_cases hi : i < xs.length
  · refine .inr ⟨it.go F2 H2 i o2 R2.sub R2.fe (by rw [List.length_map]; exact hi), fun σ' H' => ∃ F3 s', Sub F1 F3 ∧ ok F3 H' ∧ Rel X.K b (Ef s') F3 H' σ' ∧ Run.run (forS f s' (xs.drop (i + 1))) (fun z => OcOk X.K b F1 E (.nx (Ef z))), fun σ' H' ⟨F3, s', p⟩ => ⟨xs.length - (i + 1), by omega, rfl, by omega, F3, s', p⟩, fun v H3 y => ?_⟩
    rw [List.drop_eq_getElem_cons hi] at run
    obtain ⟨F3, S3, r3⟩ := it.yld F2 H2 i v H3 (g xs[i]) o2 R2.sub R2.fe (by rw [List.getElem?_map, List.getElem?_eq_getElem hi]; rfl) y
    refine hgt.run b _ F3 H3 σ2 v xs[i] _ (R2.step S3) r3 fun σ' R' _ => ⟨(s, xs[i]), F3, R', rmono (rbind run) fun z run => ?_⟩
    have o3 := it.st _ _ _ _ o2 S3
    have f13 : Sub F1 F3 := ff.trans S3.ff
    exact fun σ4 F4 H4 f4 R4 => ⟨F4, z, f13.trans f4, fz _ _ _ _ o3 f4 R4.sub, R4, run⟩
  · have e : i = xs.length := by omega
    subst e
    rw [List.drop_length] at run
    have run := rpure run
    exact .inl ⟨by have := it.stop F2 H2 o2 R2.sub R2.fe; rwa [List.length_map] at this, run σ2 F2 H2 ff R2⟩
/-! ### while -/
theorem ds_while {tst : Expr} {body : List Stmt} {cc : S → m Bool} {f : S → m S} {Ef : S → Sls} {s0 : S} (N : Nat) (hp : PassesOwn (model X.prog X.w) X.A X.env X.xe) (ht : ∀ s, DT X b (Ef s) tst (cc s)) (h0 : Wk (Ef s0) sl) (hb : ∀ s, DS X b (Ef s) body (f s) (fun s => .nx (Ef s))) :
    DS1 X b sl (.While tst body [] pos) (whileS cc f N s0) (fun s => .nx (Ef s)) := by
  have hb' : PSs X body (fun E σ H => ∃ s : S, tB X.K b (Ef s) (f s) (fun s => .nx (Ef s)) E σ H) := PSs.ex hb
  have ht' : PT X tst (tEx fun s => tTT X.K b (Ef s) (cc s)) := PT.ex ht
  refine PS.imp (ps_while hp ht' hb') fun E σ H ⟨F, R0, q⟩ => ?_
  refine ⟨fun k σ H => ∃ F2 s, Sub F F2 ∧ Rel X.K b (Ef s) F2 H σ ∧ Run.run (whileS cc f k s) (fun z => OcOk X.K b F E (.nx (Ef z))), ⟨N, F, s0, Sub.refl _, R0.wk h0, q⟩, ?_⟩
  rintro k σ2 H2 ⟨F2, s, ff, R2, run⟩
  cases k with
  | zero =>
    obtain ⟨_, e, _⟩ := rlift run
    cases e
  | succ k =>
    refine ⟨s, F2, R2, rmono (rbind run) fun t run F3 H3 S3 => ?_⟩
    have R3 := R2.step S3
    cases t with
    | false =>
      dsimp only
      rw [if_neg Bool.false_ne_true] at run ⊢
      have run := rpure run
      exact run σ2 F3 H3 (ff.trans S3.ff) R3
    | true =>
      dsimp only
      rw [if_pos rfl] at run ⊢
      refine ⟨fun σ' H' => ∃ F4 s', Sub F F4 ∧ Rel X.K b (Ef s') F4 H' σ' ∧ Run.run (whileS cc f k s') (fun z => OcOk X.K b F E (.nx (Ef z))), fun σ' H' ⟨F4, s', p⟩ => ⟨k, Nat.lt_succ_self _, F4, s', p⟩, s, F3, R3, rmono (rbind run) fun s' run => ?_⟩
      exact fun σ4 F4 H4 f4 R4 => ⟨F4, s', (ff.trans S3.ff).trans f4, R4, run⟩
theorem ds_whileC {tst : Expr} {body : List Stmt} {cc : S → m Bool} {f : S → m (Ct S R)} {Ef : S → Sls} {s0 : S} {oR : R → Oc} (hR : ∀ r, ∃ n d, oR r = .rt n d) (N : Nat) (hp : PassesOwn (model X.prog X.w) X.A X.env X.xe) (ht : ∀ s, DT X b (Ef s) tst (cc s)) (h0 : Wk (Ef s0) sl) (hb : ∀ s, DS X b (Ef s) body (f s) (oC Ef oR)) :
    DS1 X b sl (.While tst body [] pos) (whileC cc f N s0) (oE Ef oR) := by
  have hb' : PSs X body (fun E σ H => ∃ s : S, tB X.K b (Ef s) (f s) (oC Ef oR) E σ H) := PSs.ex hb
  have ht' : PT X tst (tEx fun s => tTT X.K b (Ef s) (cc s)) := PT.ex ht
  refine PS.imp (ps_while hp ht' hb') fun E σ H ⟨F, R0, q⟩ => ?_
  refine ⟨fun k σ H => ∃ F2 s, Sub F F2 ∧ Rel X.K b (Ef s) F2 H σ ∧ Run.run (whileC cc f k s) (fun z => OcOk X.K b F E (oE Ef oR z)), ⟨N, F, s0, Sub.refl _, R0.wk h0, q⟩, ?_⟩
  rintro k σ2 H2 ⟨F2, s, ff, R2, run⟩
  cases k with
  | zero =>
    obtain ⟨_, e, _⟩ := rlift run
    cases e
  | succ k =>
    refine ⟨s, F2, R2, rmono (rbind run) fun t run F3 H3 S3 => ?_⟩
    have R3 := R2.step S3
    cases t with
    | false =>
      dsimp only
      rw [if_neg Bool.false_ne_true] at run ⊢
      have run := rpure run
      exact run σ2 F3 H3 (ff.trans S3.ff) R3
    | true =>
      dsimp only
      rw [if_pos rfl] at run ⊢
      refine ⟨fun σ' H' => ∃ F4 s', Sub F F4 ∧ Rel X.K b (Ef s') F4 H' σ' ∧ Run.run (whileC cc f k s') (fun z => OcOk X.K b F E (oE Ef oR z)), fun σ' H' ⟨F4, s', p⟩ => ⟨k, Nat.lt_succ_self _, F4, s', p⟩, s, F3, R3, rmono (rbind run) fun z run => ?_⟩
      have f13 := ff.trans S3.ff
      cases z with
      | nx s' => exact fun σ4 F4 H4 f4 R4 => ⟨F4, s', f13.trans f4, R4, run⟩
      | rt r =>
        have run : Run.run (pure (Ct.rt r) : m (Ct S R)) (fun z => OcOk X.K b F E (oE Ef oR z)) := run
        have run := rpure run
        have run : OcOk X.K b F E (oR r) := run
        have run := OcOk.mono run f13
        show OcOk X.K b F3 _ (oR r)
        obtain ⟨n, d, e⟩ := hR r
        rw [e] at run ⊢
        exact run
      | bk s' =>
        have run : Run.run (pure (Ct.nx s') : m (Ct S R)) (fun z => OcOk X.K b F E (oE Ef oR z)) := run
        have run := rpure run
        have run : OcOk X.K b F E (.nx (Ef s')) := run
        exact OcOk.mono run f13
end
end DL
namespace DL
open PySem PySem.Spec PyProof.Rows L2
section
variable {K : PySem.W.Frag} {b : Bs} {sl : Sls} {F H F1 H1 : Hp} {σ : L2.St}
/-- a cell of slot i changes, what is known of slot i changes -/
theorem Rel.core (R : Rel K b sl F H σ) (Cs : Nat → List Cell) (s1 : ∀ i s, sl[i]? = some (some s) → SlOk K F b.fd σ[i]? (Cs i) s)
    (s2 : ∀ i, ((Cs i).map (·.1)).Nodup ∧ ∀ c ∈ Cs i, H c.1 = some c.2 ∧ F c.1 = none ∧ b.B c.1 = none ∧ b.fd ≠ some c.1) (s3 : ∀ i j, i ≠ j → ∀ c ∈ Cs i, ∀ c' ∈ Cs j, c.1 ≠ c'.1)
    {i : Nat} {p : Addr} {u o' : HO} (hp : (p, u) ∈ Cs i) {s : Option Sl} {C' : List Cell} (hs : ∀ z, s = some z → i < sl.length → SlOk K F b.fd σ[i]? C' z) (nd : (C'.map (·.1)).Nodup)
    (hC : ∀ c ∈ C', upd H p o' c.1 = some c.2 ∧ F c.1 = none ∧ b.B c.1 = none ∧ b.fd ≠ some c.1) (dis : ∀ j, j ≠ i → ∀ c ∈ Cs j, ∀ c' ∈ C', c.1 ≠ c'.1) : Rel K b (sl.set i s) F (upd H p o') σ := by
  obtain ⟨hpu, hpF, hpB, hpfd⟩ := (s2 i).2 _ hp
  have keep : ∀ a o, hid b.fd H a = some o → a ≠ p → hid b.fd (upd H p o') a = some o := fun a o e ne => by
    by_cases ha : b.fd = some a
    · unfold hid at e; rw [if_pos ha] at e; cases e
    · rw [hid_ne ha] at e ⊢; rw [upd_ne ne]; exact e
  refine ⟨by simp [R.len], fun a o e => keep a o (R.sub a o e) (fun z => by rw [z, hpF] at e; cases e), fun a o e => keep a o (R.base a o e) (fun z => ?_), R.fro, R.f0, R.fe.mono (Sub.refl _) (fun φ e => (R.fe φ e).1) fun φ e => upd_ne fun z => hpfd (by rw [e, z]), R.fb,
    fun j => if j = i then C' else Cs j, fun j z e => ?_, fun j => ?_, fun j l hjl c hc c' hc' => ?_⟩
  · rw [z] at e
    rw [hid_ne hpfd, hpB] at e; cases e
  · by_cases hj : j = i
    · subst hj
      dsimp only
      rw [if_pos rfl]
      have hl : j < sl.length := by
        have := (List.getElem?_eq_some_iff.mp e).1
        simpa using this
      rw [List.getElem?_set_self hl] at e
      exact hs z (Option.some.inj e) hl
    · dsimp only
      rw [if_neg hj]
      rw [List.getElem?_set_ne (Ne.symm hj)] at e
      exact s1 j z e
  · by_cases hj : j = i
    · dsimp only; rw [if_pos hj]; exact ⟨nd, hC⟩
    · dsimp only; rw [if_neg hj]
      refine ⟨(s2 j).1, fun c hc => ?_⟩
      obtain ⟨a1, a2, a3, a4⟩ := (s2 j).2 c hc
      exact ⟨by rw [upd_ne (s3 j i hj c hc _ hp)]; exact a1, a2, a3, a4⟩
  · dsimp only at hc hc'
    by_cases hj : j = i
    · rw [if_pos hj] at hc
      have hl : l ≠ i := fun z => hjl (hj.trans z.symm)
      rw [if_neg hl] at hc'
      exact (dis l hl c' hc' c hc).symm
    · rw [if_neg hj] at hc
      by_cases hl : l = i
      · rw [if_pos hl] at hc'; exact dis j hj c hc c' hc'
      · rw [if_neg hl] at hc'; exact s3 j l hjl c hc c' hc'
theorem Rel.app (R : Rel K b sl F H σ) {i n : Nat} {ds : List D} {v : V} {d : D} {Cn : List Cell} (e : sl[i]? = some (some (.o (n + 1) (.list ds)))) (S : Step K b.fd F H F1 H1) (o : Own K F1 n v d Cn) (hC : Holds Cn F1 H1 H) :
    ∃ p vs, σ[i]? = some (some (.ref p)) ∧ H p = some (.lst vs) ∧ b.fd ≠ some p ∧ H1 p = some (.lst vs) ∧ vs.length = ds.length ∧ (ds.length < sizeLine → Rel K b (sl.set i (some (.o (n + 1) (.list (ds ++ [d]))))) F1 (upd H1 p (.lst (vs ++ [v]))) σ) := by
  have R1 := R.step S
  obtain ⟨Cs, s1, s2, s3⟩ := R.slots
  obtain ⟨w, e1, r⟩ := s1 i _ e
  generalize hCi : Cs i = C at r
  cases r with
  | s a _ => cases a
  | lst oa l =>
    rename_i p vs C
    have hm : (p, HO.lst vs) ∈ Cs i := by rw [hCi]; exact List.mem_cons_self
    have at1 : ∀ j, ∀ c ∈ Cs j, H1 c.1 = some c.2 ∧ F1 c.1 = none ∧ b.B c.1 = none ∧ b.fd ≠ some c.1 := fun j c hc => by
      obtain ⟨h1, h2, h3, h4⟩ := (s2 j).2 c hc
      have := S.hh c.1 c.2 (by rw [hid_ne h4]; exact h1)
      rw [hid_ne h4] at this
      exact ⟨this, S.st c.1 (by rw [h1]; simp) h2, h3, h4⟩
    obtain ⟨hp, _, _, hfd⟩ := (s2 i).2 _ hm
    have new : ∀ c ∈ Cn, ∀ j, ∀ c' ∈ Cs j, c'.1 ≠ c.1 := fun c hc j c' hc' z => by
      have q := ((s2 j).2 c' hc').1
      rw [z, (hC.2 c hc).2.2] at q; cases q
    have nfd : ∀ c ∈ Cn, b.fd ≠ some c.1 := fun c hc z => by
      obtain ⟨u, q⟩ := R.fe.some z
      rw [(hC.2 c hc).2.2] at q; cases q
    have nB : ∀ c ∈ Cn, b.B c.1 = none := fun c hc => by
      cases q : b.B c.1 with
      | none => rfl
      | some u =>
        have := R.base c.1 u (by rw [hid_ne (nfd c hc)]; exact q)
        rw [hid_ne (nfd c hc), (hC.2 c hc).2.2] at this; cases this
    have nd := (s2 i).1
    rw [hCi, List.map_cons, List.nodup_cons] at nd
    refine ⟨p, vs, e1, hp, hfd, (at1 i _ hm).1, oa.length, fun hl => R1.core Cs (fun j s e => (s1 j s e).mono S.ff) (fun j => ⟨(s2 j).1, at1 j⟩) s3 hm (C' := (p, .lst (vs ++ [v])) :: (C ++ Cn)) (fun z hz _ => ?_) ?_ (fun c hc => ?_) fun j hj c hc c' hc' => ?_⟩
    · cases hz
      refine ⟨_, e1, .lst ?_ (by rw [List.length_append]; exact hl)⟩
      have o5 : OwnAll K F1 n [v] [d] Cn := by
        have := OwnAll.cons o .nil
        rwa [List.append_nil] at this
      exact (oa.mono S.ff).append o5
    · rw [List.map_cons, List.nodup_cons, List.map_append]
      refine ⟨fun hx => ?_, List.nodup_append.mpr ⟨nd.2, hC.1, fun a ha a' ha' z => ?_⟩⟩
      · rcases List.mem_append.mp hx with hx | hx
        · exact nd.1 hx
        · obtain ⟨c, hc, e⟩ := List.mem_map.mp hx
          exact new c hc i _ hm e.symm
      · obtain ⟨c, hc, rfl⟩ := List.mem_map.mp ha
        obtain ⟨c', hc', rfl⟩ := List.mem_map.mp ha'
        exact new c' hc' i c (by rw [hCi]; exact List.mem_cons_of_mem _ hc) z
    · rcases List.mem_cons.mp hc with rfl | hc
      · exact ⟨upd_same, (at1 i _ hm).2⟩
      · rcases List.mem_append.mp hc with hc | hc
        · have hc' : c ∈ Cs i := by rw [hCi]; exact List.mem_cons_of_mem _ hc
          refine ⟨?_, (at1 i c hc').2⟩
          rw [upd_ne fun z => nd.1 (by rw [← z]; exact List.mem_map.mpr ⟨c, hc, rfl⟩)]
          exact (at1 i c hc').1
        · refine ⟨?_, (hC.2 c hc).2.1, nB c hc, nfd c hc⟩
          rw [upd_ne fun z => new c hc i _ hm z.symm]
          exact (hC.2 c hc).1
    · rcases List.mem_cons.mp hc' with rfl | hc'
      · exact s3 j i hj c hc (p, .lst vs) hm
      · rcases List.mem_append.mp hc' with hc' | hc'
        · exact s3 j i hj c hc c' (by rw [hCi]; exact List.mem_cons_of_mem _ hc')
        · exact new c' hc' j c hc
/-- a list of things that stay, told anew -/
theorem Rel.put (R : Rel K b sl F H σ) {i : Nat} {ds : List D} (e : sl[i]? = some (some (.o 1 (.list ds)))) :
    ∃ p vs, σ[i]? = some (some (.ref p)) ∧ H p = some (.lst vs) ∧ b.fd ≠ some p ∧ RpAll K F vs ds ∧ ds.length ≤ sizeLine ∧ ∀ vs' ds', RpAll K F vs' ds' → ds'.length ≤ sizeLine → Rel K b (sl.set i (some (.o 1 (.list ds')))) F (upd H p (.lst vs')) σ := by
  obtain ⟨Cs, s1, s2, s3⟩ := R.slots
  obtain ⟨w, e1, r⟩ := s1 i _ e
  generalize hCi : Cs i = C at r
  cases r with
  | s a _ => cases a
  | lst oa l =>
    rename_i p vs C
    have hm : (p, HO.lst vs) ∈ Cs i := by rw [hCi]; exact List.mem_cons_self
    obtain ⟨hp, hF, hB, hfd⟩ := (s2 i).2 _ hm
    refine ⟨p, vs, e1, hp, hfd, oa.zero'.1, l, fun vs' ds' r' l' => R.core Cs s1 s2 s3 hm (C' := [(p, .lst vs')]) (fun z hz _ => ?_) (by simp) (fun c hc => ?_) fun j hj c hc c' hc' => ?_⟩
    · cases hz
      exact ⟨_, e1, .lst (OwnAll.zero r') l'⟩
    · have : c = (p, .lst vs') := by simpa using hc
      subst this
      exact ⟨upd_same, hF, hB, hfd⟩
    · have : c' = (p, .lst vs') := by simpa using hc'
      subst this
      exact s3 j i hj c hc (p, .lst vs) hm
/-- a list that is spoilt -/
theorem Rel.spoil (R : Rel K b sl F H σ) {i n : Nat} {ds : List D} (e : sl[i]? = some (some (.o (n + 1) (.list ds)))) :
    ∃ p vs, σ[i]? = some (some (.ref p)) ∧ H p = some (.lst vs) ∧ b.fd ≠ some p ∧ vs.length = ds.length ∧ ∀ o', Rel K b (sl.set i none) F (upd H p o') σ := by
  obtain ⟨Cs, s1, s2, s3⟩ := R.slots
  obtain ⟨w, e1, r⟩ := s1 i _ e
  generalize hCi : Cs i = C at r
  cases r with
  | s a _ => cases a
  | lst oa l =>
    rename_i p vs C
    have hm : (p, HO.lst vs) ∈ Cs i := by rw [hCi]; exact List.mem_cons_self
    obtain ⟨hp, hF, hB, hfd⟩ := (s2 i).2 _ hm
    exact ⟨p, vs, e1, hp, hfd, oa.length, fun o' => R.core Cs s1 s2 s3 hm (C' := []) (fun z hz => by cases hz) (by simp) (fun c hc => by cases hc) fun j hj c hc c' hc' => by cases hc'⟩
theorem OwnAll.get {n : Nat} {vs : List V} {ds : List D} {C : List Cell} (h : OwnAll K F n vs ds C) {k : Nat} {d : D} (e : ds[k]? = some d) : ∃ v C', vs[k]? = some v ∧ Own K F n v d C' ∧ ∀ c ∈ C', c ∈ C := by
  induction ds generalizing vs C k with
  | nil => simp at e
  | cons x ds ih =>
    cases h with
    | cons a t =>
      cases k with
      | zero => simp at e; subst e; exact ⟨_, _, rfl, a, fun c hc => List.mem_append_left _ hc⟩
      | succ k =>
        obtain ⟨v, C', e1, e2, e3⟩ := ih t (by simpa using e)
        exact ⟨v, C', by simpa using e1, e2, fun c hc => List.mem_append_right _ (e3 c hc)⟩
/-- a list in it is spoilt -/
theorem Rel.spoil2 (R : Rel K b sl F H σ) {i n k : Nat} {ds es : List D} (e : sl[i]? = some (some (.o (n + 2) (.list ds)))) (ek : ds[k]? = some (.list es)) :
    ∃ p vs q us, σ[i]? = some (some (.ref p)) ∧ hid b.fd H p = some (.lst vs) ∧ vs.length = ds.length ∧ vs[k]? = some (.ref q) ∧ H q = some (.lst us) ∧ b.fd ≠ some q ∧ us.length = es.length ∧ ∀ o', Rel K b (sl.set i none) F (upd H q o') σ := by
  obtain ⟨Cs, s1, s2, s3⟩ := R.slots
  obtain ⟨w, e1, r⟩ := s1 i _ e
  generalize hCi : Cs i = C at r
  cases r with
  | s a _ => cases a
  | lst oa l =>
    rename_i p vs C
    have hm : (p, HO.lst vs) ∈ Cs i := by rw [hCi]; exact List.mem_cons_self
    obtain ⟨hp, hF, hB, hfd⟩ := (s2 i).2 _ hm
    obtain ⟨v, C', ev, ov, sub⟩ := oa.get ek
    cases ov with
    | s a _ => cases a
    | lst ob l' =>
      rename_i q us C'
      have hq : (q, HO.lst us) ∈ Cs i := by rw [hCi]; exact List.mem_cons_of_mem _ (sub _ List.mem_cons_self)
      obtain ⟨kp, kF, kB, kfd⟩ := (s2 i).2 _ hq
      exact ⟨p, vs, q, us, e1, by rw [hid_ne hfd]; exact hp, oa.length, ev, kp, kfd, ob.length, fun o' => R.core Cs s1 s2 s3 hq (C' := []) (fun z hz => by cases hz) (by simp) (fun c hc => by cases hc) fun j hj c hc c' hc' => by cases hc'⟩
end
section
variable {m : Type → Type} [Run m] {α β γ : Type} {X : Cx} {b : Bs} {sl : Sls} {e e1 e2 : Expr} {md : Md} {g : α → D} {h : β → D} {K : PySem.W.Frag} {c : m α} {n : Nat} {pos apos cpos : Pos} {x : Str}
def lapp {α : Type} (xs : List α) (x : α) : Option (List α) := if xs.length < 16777216 then some (xs ++ [x]) else none
theorem ls_map {xs : List α} : eL g xs = .list (xs.map g) := rfl
theorem lapp_ok {xs : List α} {x : α} {z : List α} (h : lapp xs x = some z) : xs.length < 16777216 ∧ xs ++ [x] = z := some_if h
/-- xs.append(e): xs is ours -/
theorem ds_append (i : Nat) (xs : List α) (he : DM X b sl e (.ow n) c g) (hx : sl[i]? = some (some (.o (n + 1) (eL g xs))) := by rfl) (hN : X.N[i]? = some x := by rfl) (hv : Vis X.env.scope x := by first | exact Or.inl rfl | exact Or.inr (Or.inl rfl) | exact Or.inr (Or.inr rfl)) (hd : (x == ("__debug__" : Str)) = false := by decide)
    (hcd : (x == ("__classdict__" : Str)) = false := by decide) (hbase : attributeBase (.Name x pos) "append" X.env (eval (.Name x pos) X.env) = eval (.Name x pos) X.env := by rfl)
    (hfew : ((backTo cpos (starEach [e] X.env)).all (fun x => !x.1) && (backToKw cpos (keywordEach [] X.env)).all (fun x => x.1.isSome) && decide ([e].length + ([] : List Keyword).length + (if ([] : List Keyword).isEmpty then 0 else 1) < 30)) = true := by rfl)
    (hline : (apos.endLine == cpos.line) = true := by rfl) (hs : starEach [e] X.env = (false, eval e X.env) :: starEach [] X.env := by rfl) (hplain : (backTo cpos (starEach [] X.env)).any (·.1) = false := by rfl) {spos : Pos}
    (hsw : swapsWith (.Call (.Attribute (.Name x pos) "append" apos) [e] [] cpos) none spos.line X.env = pure false := by rfl) :
    DS1 X b sl (.Expr (.Call (.Attribute (.Name x pos) "append" apos) [e] [] cpos) spos) (c >>= fun y => Run.lift (lapp xs y)) (fun zs => .nx (sl.set i (some (.o (n + 1) (eL g zs))))) :=
  PS.imp (ps_expr (pe_bm PySem.F.plainAttrs_list PySem.F.slot_list_append PySem.F.type_list_append mt_append (pe_var hN hv hd hcd) (pa_cons he pa_nil hs) hbase hfew hline hs hplain) hsw) fun E σ H ⟨F, R, q⟩ => by
    obtain ⟨p, vs, e1, hp, _, _⟩ := R.spoil hx
    refine ⟨.ref p, e1, .inl ⟨rfl, vs, SqL.of hp⟩, F, R, rmono (rbind q) fun y q v F1 H1 C S1 o1 k1 => ?_⟩
    obtain ⟨z, ez, q⟩ := rlift q
    obtain ⟨hl, rfl⟩ := lapp_ok ez
    obtain ⟨p', vs', e2, _, hfd, hp', hlen, fin⟩ := R.app hx S1 o1 k1
    rw [e1] at e2
    cases e2
    refine ⟨p, vs', v, rfl, rfl, hp', by rw [hlen, List.length_map]; exact hl, q _ F1 _ S1.ff ?_⟩
    have := fin (by rw [List.length_map]; exact hl)
    rw [ls_map, List.map_append]
    exact this
/-- .. which is asked no more -/
theorem ds_spoil (i : Nat) {c : m β} {g' : β → D} (xs : List α) (he : DM X b sl e md c g') (hx : sl[i]? = some (some (.o (n + 1) (eL g xs))) := by rfl) (hN : X.N[i]? = some x := by rfl) (hv : Vis X.env.scope x := by first | exact Or.inl rfl | exact Or.inr (Or.inl rfl) | exact Or.inr (Or.inr rfl)) (hd : (x == ("__debug__" : Str)) = false := by decide)
    (hcd : (x == ("__classdict__" : Str)) = false := by decide) (hbase : attributeBase (.Name x pos) "append" X.env (eval (.Name x pos) X.env) = eval (.Name x pos) X.env := by rfl)
    (hfew : ((backTo cpos (starEach [e] X.env)).all (fun x => !x.1) && (backToKw cpos (keywordEach [] X.env)).all (fun x => x.1.isSome) && decide ([e].length + ([] : List Keyword).length + (if ([] : List Keyword).isEmpty then 0 else 1) < 30)) = true := by rfl)
    (hline : (apos.endLine == cpos.line) = true := by rfl) (hs : starEach [e] X.env = (false, eval e X.env) :: starEach [] X.env := by rfl) (hplain : (backTo cpos (starEach [] X.env)).any (·.1) = false := by rfl) {spos : Pos}
    (hsw : swapsWith (.Call (.Attribute (.Name x pos) "append" apos) [e] [] cpos) none spos.line X.env = pure false := by rfl) :
    DS1 X b sl (.Expr (.Call (.Attribute (.Name x pos) "append" apos) [e] [] cpos) spos) (c >>= fun _ => Run.lift (if xs.length < 16777216 then some () else none)) (fun _ => .nx (sl.set i none)) :=
  PS.imp (ps_expr (pe_bm PySem.F.plainAttrs_list PySem.F.slot_list_append PySem.F.type_list_append mt_append (pe_var hN hv hd hcd) (pa_cons he pa_nil hs) hbase hfew hline hs hplain) hsw) fun E σ H ⟨F, R, q⟩ => by
    obtain ⟨p, vs, e1, hp, _, _⟩ := R.spoil hx
    refine ⟨.ref p, e1, .inl ⟨rfl, vs, SqL.of hp⟩, F, R, rmono (rbind q) fun y q => ?_⟩
    obtain ⟨z, ez, q⟩ := rlift q
    obtain ⟨hl, _⟩ := some_if ez
    have go : ∀ (v : V) F1 H1, Step X.K b.fd F H F1 H1 → rAppend (.ref p) [v] H1 (fun _ H2 => E.nx σ H2) := fun v F1 H1 S1 => by
      obtain ⟨p', vs', e2, hp', hfd, hlen, fin⟩ := (R.step S1).spoil hx
      rw [e1] at e2
      cases e2
      exact ⟨p, vs', v, rfl, rfl, hp', by rw [hlen, List.length_map]; exact hl, q _ F1 _ S1.ff (fin _)⟩
    cases md with
    | pk => exact fun v F1 H1 S1 r => go v F1 H1 S1
    | ow n => exact fun v F1 H1 C S1 r k => go v F1 H1 S1
end
end DL
namespace DL
open PySem PySem.Spec PyProof.Rows L2
/-- the context of a def's body -/
abbrev XO (P : Program) (w : World) (K : PySem.W.Frag) (mg : Str → Option Value) (base : Heap) (N : List Str) (qual : Str) (st : Stmt) (f : Addr) (cdv : Value) (A : Around) (outer : List Env) (s : Shared) (H : Hp) (E : XK) : Cx :=
  (cxOf CX0 P w K mg base N qual (defScope st) f cdv A outer s H E).nox
def slD (k : Nat) (ds : List (Option D)) : Sls := ds.map (fun d => match d with | some d => some (.v d) | none => some .feed) ++ List.replicate (k - ds.length) none
section
variable {P : Program} {w : World} {K : PySem.W.Frag} {mg : Str → Option Value} {base : Heap} {α β : Type} {b : Bs}
theorem start_slots {F : Hp} {vs : List V} {ds : List (Option D)} {N : List Str} {fd : Option Addr} (h : ArgsOk K F fd vs ds) (hN : ds.length ≤ N.length) : (L2.start N vs).length = (slD N.length ds).length ∧ ∀ (i : Nat) (s : Sl), (slD N.length ds)[i]? = some (some s) → SlOk K F fd (L2.start N vs)[i]? [] s := by
  have hl := h.length
  refine ⟨by simp [L2.start, slD, hl], fun i s e => ?_⟩
  have gen : ∀ (k : Nat) (vs : List V) (ds : List (Option D)) (i : Nat), ArgsOk K F fd vs ds → (ds.map (fun d => match d with | some d => some (Sl.v d) | none => some Sl.feed) ++ List.replicate k none)[i]? = some (some s) → SlOk K F fd (vs.map some ++ List.replicate k none)[i]? [] s := by
    intro k vs ds i h
    induction h generalizing i with
    | nil =>
      intro e
      rw [List.map_nil, List.nil_append, List.getElem?_replicate] at e
      split at e <;> cases e
    | val r _ ih =>
      intro e
      cases i with
      | zero => cases e; exact ⟨_, rfl, r⟩
      | succ i => exact ih i e
    | feed r _ ih =>
      intro e
      cases i with
      | zero => cases e; exact ⟨_, rfl, r⟩
      | succ i => exact ih i e
  have := gen (N.length - ds.length) vs ds i h e
  unfold L2.start
  rw [hl]
  exact this
/-- a def's state at its start -/
theorem rel_start {F H : Hp} {vs : List V} {ds : List (Option D)} {N : List Str} {fd : Option Addr} (h : ArgsOk K F fd vs ds) (hN : ds.length ≤ N.length) (fh : Sub F (hid fd H)) (fe : FeedOk K fd F H) : Rel K ⟨H, F, fd⟩ (slD N.length ds) F H (L2.start N vs) := by
  obtain ⟨h1, h2⟩ := start_slots h hN
  refine ⟨h1, fh, Sub.refl _, fun p _ e => e, Sub.refl _, fe, fun φ e => ?_, fun _ => [], h2, fun i => ⟨List.nodup_nil, fun _ h => nomatch h⟩, fun i j _ c hc => nomatch hc⟩
  obtain ⟨q, l, ns, i, c, s, hq, _⟩ := fe φ e
  exact ⟨by show H φ ≠ none; rw [hq]; simp, q⟩
theorem RelB.step {F H F' H' : Hp} {fd : Option Addr} (fe : FeedOk K fd F H) (R : RelB K ⟨H, F, fd⟩ F' H') : Step K fd F H F' H' := ⟨R.f0, R.base, R.sub, R.fro, R.fe⟩
variable {x qual : Str} {st : Stmt} {f : Addr} {fd : FuncData} {N ps : List Str} {k n : Nat} {g : β → D}
theorem fn_D {gs : α → List D} {fM : α → Option β} {sl : α → Sls} (F : Fun K x qual st f fd) (S : FnScope N ps (defScope st)) (hlen : ∀ x, (gs x).length = ps.length) (hsl : ∀ x, slD N.length ((gs x).map some) = sl x)
    (body : ∀ (cdv : Value) (A : Around) (outer : List Env) (s : Shared) (H : Hp) (E : XK), Room k (A.deeper (envOfC qual (defScope st) s.heap.objs.size f cdv)) → ∀ (b : Bs) (x : α), DS (XO P w K mg base N qual st f cdv A outer s H E) b (sl x) (defBody st) (fM x) (fun r => .rt n (g r))) :
    FnOk P w K mg base CX0 (k + 1) f fd ps (spD K gs fM n g) := by
  have hNl : ps.length ≤ N.length := by
    have := congrArg List.length S.pre
    rw [List.length_take] at this
    omega
  refine F.ok S (fun vs H Q E h => ?_) fun cdv A outer s H vs Q E hr h => ?_
  · obtain ⟨F, x, _, a, _⟩ := h
    rw [a.length, List.length_map, hlen]
  · obtain ⟨F, x, fh, a, q⟩ := h
    refine ⟨_, body cdv A outer s H E hr ⟨H, F, none⟩ x, F, ?_, rmono q fun y p => ?_⟩
    · rw [← hsl]
      exact rel_start a (by rw [List.length_map, hlen]; exact hNl) (by rw [hid_none]; exact fh) FeedOk.no
    · intro v F' H' C ff RB o hc
      have S' : Step K none F H F' H' := RB.step FeedOk.no
      exact p v F' H' C S' o ⟨hc.1, hc.2⟩
theorem fn_F {gs : α → List (Option D)} {fM : α → W β} {sl : α → Sls} (F : Fun K x qual st f fd) (S : FnScope N ps (defScope st)) (hlen : ∀ x, (gs x).length = ps.length) (hsl : ∀ x, slD N.length (gs x) = sl x)
    (body : ∀ (cdv : Value) (A : Around) (outer : List Env) (s : Shared) (H : Hp) (E : XK), Room k (A.deeper (envOfC qual (defScope st) s.heap.objs.size f cdv)) → ∀ (b : Bs) (_ : b.fd ≠ none) (x : α), DS (XO P w K mg base N qual st f cdv A outer s H E) b (sl x) (defBody st) (fM x) (fun r => .rt n (g r))) :
    FnOk P w K mg base CX0 (k + 1) f fd ps (spF K gs fM n g) := by
  have hNl : ps.length ≤ N.length := by
    have := congrArg List.length S.pre
    rw [List.length_take] at this
    omega
  refine F.ok S (fun vs H Q E h => ?_) fun cdv A outer s H vs Q E hr h => ?_
  · obtain ⟨F, φ, x, _, _, a, _⟩ := h
    rw [a.length, hlen]
  · obtain ⟨F, φ, x, fh, fe, a, q⟩ := h
    refine ⟨_, body cdv A outer s H E hr ⟨H, F, some φ⟩ (by simp) x, F, ?_, rmono q fun y p => ?_⟩
    · rw [← hsl]
      exact rel_start a (by rw [hlen]; exact hNl) fh fe
    · intro v F' H' C ff RB o hc
      have S' : Step K (some φ) F H F' H' := RB.step fe
      exact p v F' H' C S' o ⟨hc.1, hc.2⟩
/-- the feed is made of the script -/
def spFeed (K : PySem.W.Frag) : Sp := fun vs H Q _ => ∃ (a : Addr) (ns : List Int), vs = [.ref a] ∧ SqL K H a (ns.map V.int) ∧
  ∀ φ l, H φ = none → H l = none → φ ≠ l → Q (.ref φ) (upd (upd H l (.lst (ns.map V.int))) φ (.lst [.ref l, .int 0, .int 0, .int 1]))
def spLaw (K : PySem.W.Frag) : Sp := fun vs H Q _ => ∃ (a : Addr) (ns : List Int), vs = [.ref a] ∧ SqL K H a (ns.map V.int) ∧ ns.length ≤ 63 ∧ ∀ H', Q (.bl true) H'
/-- the law: what follows the feed -/
theorem fn_law {fM : W Bool} {sl : Sls} {st1 : Stmt} {rest : List Stmt} {i : Nat} (F : Fun K x qual st f fd) (S : FnScope N ["script"] (defScope st)) (hbody : defBody st = st1 :: rest) (hi : 0 < i ∧ i < N.length) (hsl : (List.replicate N.length none).set i (some .feed) = sl)
    (first : ∀ (cdv : Value) (A : Around) (outer : List Env) (s : Shared) (H : Hp) (E : XK), Room k (A.deeper (envOfC qual (defScope st) s.heap.objs.size f cdv)) → PS (XO P w K mg base N qual st f cdv A outer s H E) st1 (tAsg (tCall (spFeed K) [] E0 (tCons (tVar 0) tNil)) (gName i)))
    (body : ∀ (cdv : Value) (A : Around) (outer : List Env) (s : Shared) (H : Hp) (E : XK), Room k (A.deeper (envOfC qual (defScope st) s.heap.objs.size f cdv)) → ∀ (b : Bs) (_ : b.fd ≠ none), DS (XO P w K mg base N qual st f cdv A outer s H E) b sl rest fM (fun r => .rt 0 (eB r)))
    (hM : fM.wp fun r => r = true) : FnOk P w K mg base CX0 (k + 1) f fd ["script"] (spLaw K) := by
  refine F.ok S (fun vs H Q E h => ?_) fun cdv A outer s H vs Q E hr h => ?_
  · obtain ⟨a, ns, rfl, _⟩ := h
    rfl
  · obtain ⟨a, ns, rfl, hS, hn, q⟩ := h
    refine ⟨tSeq _ _, hbody ▸ pss_cons (first cdv A outer s H E hr) (PSs.ex fun b : { b : Bs // b.fd ≠ none } => body cdv A outer s H E hr b.1 b.2), ?_⟩
    have h0 : (L2.start N [.ref a])[0]? = some (some (.ref a)) := rfl
    refine ⟨.ref a, h0, a, ns, rfl, hS, fun φ l nφ nl ne => ?_⟩
    let F1 : Hp := upd (fun _ => none) l (.lst (ns.map V.int))
    let H1 : Hp := upd (upd H l (.lst (ns.map V.int))) φ (.lst [.ref l, .int 0, .int 0, .int 1])
    have e1 : H1 φ = some (.lst [.ref l, .int 0, .int 0, .int 1]) := upd_same
    have f1 : F1 φ = none := upd_ne ne
    have fe : FeedOk K (some φ) F1 H1 := fun φ' e => by
      cases e
      exact ⟨f1, l, ns, 0, 0, 1, e1, SqL.of upd_same, hn, Int.le_refl _, Int.natCast_nonneg _, Int.le_refl _, by decide, by decide⟩
    have hlen : (L2.start N [.ref a]).length = N.length := by
      unfold L2.start
      simp
      omega
    have R : Rel K ⟨H1, F1, some φ⟩ sl F1 H1 ((L2.start N [.ref a]).set i (some (.ref φ))) := by
      refine ⟨by rw [← hsl]; simp [hlen], fun c o e => ?_, Sub.refl _, fun p _ e => e, Sub.refl _, fe, fun φ' e => ?_, fun _ => [], fun j z e => ?_, fun i => ⟨List.nodup_nil, fun _ h => nomatch h⟩, fun i j _ c hc => nomatch hc⟩
      · have hc : c ≠ φ := fun z => by rw [z, f1] at e; cases e
        rw [hid_ne (fun z => hc (Option.some.inj z).symm)]
        show upd (upd H l (.lst (ns.map V.int))) φ _ c = some o
        rw [upd_ne hc]
        have e : upd (fun _ => none) l (.lst (ns.map V.int)) c = some o := e
        unfold upd at e ⊢
        split at e
        · rename_i z; rw [if_pos z]; exact e
        · cases e
      · cases e
        exact ⟨by show H1 φ ≠ none; rw [e1]; simp, f1⟩
      · rw [← hsl] at e
        by_cases hj : i = j
        · subst hj
          rw [List.getElem?_set_self (by simp; exact hi.2)] at e
          cases e
          exact ⟨φ, List.getElem?_set_self (by rw [hlen]; exact hi.2), rfl⟩
        · rw [List.getElem?_set_ne hj, List.getElem?_replicate] at e
          split at e <;> cases e
    exact ⟨⟨⟨H1, F1, some φ⟩, by simp⟩, F1, R, W.mono fM _ _ (fun r e v F' H' C _ _ o _ => by
      subst e
      cases o with
      | z r => cases r; exact q _) hM⟩
end
end DL
namespace DL
open PySem PySem.Spec PyProof.Rows L2
section
variable {X : Cx}
/-- xs[i], by values -/
theorem pget_list : PGet X (rIxL X.K) := by
  intro pins s σ H o i ov iv Q I ro ri h
  obtain ⟨p, xs, k, z, rfl, rfl, hq, he, q⟩ := h
  cases ro
  obtain ⟨t, rfl⟩ := ri
  obtain ⟨its, r, pl, hz⟩ := I.list hq
  obtain ⟨j, h1, h2, h3, h4, h5⟩ := atI_get he
  obtain ⟨w, ew, rw'⟩ := r.get h2
  have hl := r.length
  have hn := line63
  have fin : EP X pins σ Q w s := ⟨z, H, I, rw', q⟩
  by_cases h0 : 0 ≤ k
  · have hj : k.toNat = j := by
      rw [seqIndex_of h0 h5] at h1
      exact Option.some.inj h1
    exact PySem.wpAny_getItem_list pl.isList h0 (by omega) (by rw [hj]; simpa using ew) fin
  · have hj : (k + (its.toArray.size : Int)).toNat = j := by
      rw [seqIndex_neg (by omega) h4] at h1
      rw [List.size_toArray, ← hl]
      exact Option.some.inj h1
    exact wpAny_getItem_list_neg pl.isList (by omega) (by rw [List.size_toArray] <;> omega) (by omega) (by rw [hj]; simpa using ew) fin
end
theorem bo_len : bootBuiltins "len" = some (.builtin "len") := by decide +kernel
theorem bo_abs : bootBuiltins "abs" = some (.builtin "abs") := by decide +kernel
theorem bo_sum : bootBuiltins "sum" = some (.builtin "sum") := by decide +kernel
theorem bo_sorted : bootBuiltins "sorted" = some (.builtin "sorted") := by decide +kernel
theorem bo_min : bootBuiltins "min" = some (.builtin "min") := by decide +kernel
theorem bo_max : bootBuiltins "max" = some (.builtin "max") := by decide +kernel
theorem bo_any : bootBuiltins "any" = some (.builtin "any") := by decide +kernel
theorem bo_all : bootBuiltins "all" = some (.builtin "all") := by decide +kernel
theorem bo_isinstance : bootBuiltins "isinstance" = some (.builtin "isinstance") := by decide +kernel
theorem bo_list : bootBuiltins "list" = some (.type "list") := by decide +kernel
theorem bo_int : bootBuiltins "int" = some (.type "int") := by decide +kernel
theorem bo_tuple : bootBuiltins "tuple" = some (.type "tuple") := by decide +kernel
theorem bo_str : bootBuiltins "str" = some (.type "str") := by decide +kernel
theorem bo_range : bootBuiltins "range" = some (.type "range") := by decide +kernel
theorem bo_enumerate : bootBuiltins "enumerate" = some (.type "enumerate") := by decide +kernel
theorem bo_zip : bootBuiltins "zip" = some (.type "zip") := by decide +kernel
theorem bo_bool : bootBuiltins "bool" = some (.type "bool") := by decide +kernel
theorem bo_repr : bootBuiltins "repr" = some (.builtin "repr") := by decide +kernel
theorem bo_reversed : bootBuiltins "reversed" = some (.type "reversed") := by decide +kernel
theorem bo_dict : bootBuiltins "dict" = some (.type "dict") := by decide +kernel
theorem bo_set : bootBuiltins "set" = some (.type "set") := by decide +kernel
end DL
namespace DL
open PySem PySem.Spec PyProof.Rows L2
section
variable (K : PySem.W.Frag)
abbrev dIx (k : Int) : TE := tOp (rIxL K) (tVar 0) (tC (.int k))
abbrev rPow : R2 := rI CPow fun i j => .int (i ^ j.toNat)
abbrev rGeI : R2 := rI0 fun i j => .bl (decide (j ≤ i))
abbrev rGtI : R2 := rI0 fun i j => .bl (decide (j < i))
abbrev rLtI : R2 := rI0 fun i j => .bl (decide (i < j))
abbrev rAddI : R2 := rI0 fun i j => .int (i + j)
abbrev rMulI : R2 := rI CMul fun i j => .int (i * j)
abbrev rModI : R2 := rI (fun _ j => 0 < j) fun i j => .int (i % j)
abbrev rDivI : R2 := rI CDiv fun i j => .int (i / j)
abbrev dInt (t : TE) : TE := tCB rInt1 (tCons t tNil)
abbrev dSet (k : Int) (t : TE) : TS := tAsg t (gSub (tVar 0) (tC (.int k)) rSetL)
def drT1 : TS := tIfS (tAnd (tTest (tOp rEq (dIx K 2) (tC (.int 0)))) (tTest (tOp rLtI (dIx K 1) (tCB (rLen K) (tCons (dIx K 0) tNil)))))
  (tSeq (tAsg (tCB rAbs (tCons (dInt (tOp (rIxL K) (dIx K 0) (dIx K 1))) tNil)) (gName 2))
  (tSeq (tAugS (tVar 0) (tC (.int 1)) (tC (.int 1)) (rIxL K) (ipI fun i j => i + j) rSetL)
  (tIfS (tTest (tOp rGeI (tVar 2) (tOp rPow (tC (.int 10)) (tC (.int 18))))) (dSet 2 (tVar 2))
    (dSet 3 (tOp rModI (dInt (tOp rAddI (tOp rAddI (tOp rMulI (dIx K 3) (tC (.int 48271))) (tOp rMulI (tVar 2) (tC (.int 69621)))) (dIx K 1))) (tC (.int 2147483647))))))) tNext
def drT2 : TS := tSeq (tIfS (tTest (tOp rGtI (dIx K 2) (tC (.int 0))))
    (tSeq (tAsg (tOp rModI (dInt (dIx K 2)) (tVar 1)) (gName 3)) (tSeq (dSet 2 (tOp rDivI (dIx K 2) (tVar 1))) (tRet (tVar 3)))) tNext)
  (tSeq (dSet 3 (tOp rModI (dInt (tOp rAddI (tOp rMulI (dIx K 3) (tC (.int 16807))) (tC (.int 12345)))) (tC (.int 2147483647))))
  (tSeq (tAsg (tOp rModI (dInt (tOp rAddI (tOp rMulI (dIx K 3) (dIx K 3)) (dIx K 3))) (tC (.int 2147483629))) (gName 4))
  (tRet (tOp rModI (tOp rDivI (tVar 4) (tC (.int 11))) (tVar 1)))))
def drT : TS := tSeq (drT1 K) (drT2 K)
end
section
variable {K : PySem.W.Frag} {F H0 H : Hp} {φ l : Addr} {ns : List Int} {i c s m : Int} {σ : L2.St} {D : Ends} {Q : VK}
/-- the feed behind some turns -/
structure FdI (K : PySem.W.Frag) (F H0 : Hp) (φ l : Addr) (ns : List Int) (i c s : Int) (H : Hp) : Prop where
  at_ : H φ = some (.lst [.ref l, .int i, .int c, .int s])
  els : ∀ a, a ≠ φ → H a = H0 a
  ls : SqL K F l (ns.map V.int)
  sub : Sub F (hid (some φ) H0)
  nf : F φ = none
  len : ns.length ≤ 63
  i0 : 0 ≤ i
  i1 : i ≤ ns.length
  c0 : 0 ≤ c
  s0 : 0 ≤ s
  s1 : s < 2147483647
theorem FdI.fsub (h : FdI K F H0 φ l ns i c s H) : Sub F H := fun a o e => by
  have ha : a ≠ φ := fun z => by rw [z, h.nf] at e; cases e
  rw [h.els a ha]
  exact hid_sub _ _ (h.sub a o e)
theorem FdI.seq (h : FdI K F H0 φ l ns i c s H) : SqL K H l (ns.map V.int) := h.fsub.sql h.ls
theorem FdI.set (h : FdI K F H0 φ l ns i c s H) {i' c' s' : Int} (hi : 0 ≤ i') (hi1 : i' ≤ ns.length) (hc : 0 ≤ c') (hs : 0 ≤ s') (hs1 : s' < 2147483647) : FdI K F H0 φ l ns i' c' s' (upd H φ (.lst [.ref l, .int i', .int c', .int s'])) :=
  ⟨upd_same, fun a ha => by rw [upd_ne ha]; exact h.els a ha, h.ls, h.sub, h.nf, h.len, hi, hi1, hc, hs, hs1⟩
theorem FdI.step (h : FdI K F H0 φ l ns i c s H) : Step K (some φ) F H0 F H := by
  have hh : Sub (hid (some φ) H0) (hid (some φ) H) := fun a o e => by
    by_cases ha : some φ = some a
    · unfold hid at e; rw [if_pos ha] at e; cases e
    · rw [hid_ne ha] at e ⊢
      rw [h.els a fun z => ha (by rw [z])]; exact e
  exact ⟨Sub.refl _, hh, h.sub.trans hh, fun _ _ e => e, fun φ' e => by
    cases e
    exact ⟨h.nf, l, ns, i, c, s, h.at_, h.ls, h.len, h.i0, h.i1, h.c0, h.s0, h.s1⟩⟩
theorem draw2 (hm0 : 0 < m) (hm1 : m < 1073741824) {x2 x3 x4 : Option V} (I : FdI K F H0 φ l ns i c s H) (q : ∀ H v, Step K (some φ) F H0 F H → 0 ≤ v → v < m → D.rt (.int v) H) : drT2 K D [some (.ref φ), some (.int m), x2, x3, x4] H := by
  have hd : CDiv c m := ⟨hm0, hm1⟩
  refine ⟨.ref φ, rfl, φ, _, 2, _, rfl, rfl, SqL.of I.at_, rfl, _, _, rfl, rfl, _, rfl, ite2 (fun e => ?_) fun e => ?_⟩
  · have hc : 0 < c := of_decide_eq_true e
    refine ⟨.ref φ, rfl, φ, _, 2, _, rfl, rfl, SqL.of I.at_, rfl, .inl ⟨_, rfl, .int m, rfl, _, _, rfl, rfl, hm0, ?_⟩⟩
    refine ⟨.ref φ, rfl, φ, _, 2, _, rfl, rfl, SqL.of I.at_, rfl, .int m, rfl, _, _, rfl, rfl, hd, .ref φ, rfl, φ, _, 2, 2, rfl, rfl, I.at_, rfl, ?_⟩
    have I2 := I.set (i' := i) (c' := c / m) (s' := s) I.i0 I.i1 (Int.ediv_nonneg I.c0 (Int.le_of_lt hm0)) I.s0 I.s1
    exact ⟨_, rfl, q _ _ I2.step (Int.emod_nonneg _ (by omega)) (Int.emod_lt_of_pos _ hm0)⟩
  · have M : (0 : Int) < 2147483647 := by decide
    have M2 : (0 : Int) < 2147483629 := by decide
    have s0 := I.s0
    have s1 := I.s1
    refine ⟨.ref φ, rfl, φ, _, 3, _, rfl, rfl, SqL.of I.at_, rfl, _, _, rfl, rfl, .inl ⟨by omega, by omega⟩, _, _, rfl, rfl, .inl ⟨_, rfl, _, _, rfl, rfl, M, .ref φ, rfl, φ, _, 3, 3, rfl, rfl, I.at_, rfl, ?_⟩⟩
    have I2 := I.set (i' := i) (c' := c) (s' := (s * 16807 + 12345) % 2147483647) I.i0 I.i1 I.c0 (Int.emod_nonneg _ (by decide)) (Int.emod_lt_of_pos _ M)
    have t0 := I2.s0
    have t1 := I2.s1
    refine ⟨.ref φ, rfl, φ, _, 3, _, rfl, rfl, SqL.of I2.at_, rfl, .ref φ, rfl, φ, _, 3, _, rfl, rfl, SqL.of I2.at_, rfl, _, _, rfl, rfl, .inl ⟨by omega, by omega⟩, .ref φ, rfl, φ, _, 3, _, rfl, rfl, SqL.of I2.at_, rfl, _, _, rfl, rfl, .inl ⟨_, rfl, _, _, rfl, rfl, M2, ?_⟩⟩
    refine ⟨_, rfl, _, _, rfl, rfl, ⟨by decide, by decide⟩, .int m, rfl, _, _, rfl, rfl, hm0, q _ _ I2.step (Int.emod_nonneg _ (by omega)) (Int.emod_lt_of_pos _ hm0)⟩
theorem draw1 (hm0 : 0 < m) (hm1 : m < 1073741824) (I : FdI K F H0 φ l ns i c s H) (q : ∀ H v, Step K (some φ) F H0 F H → 0 ≤ v → v < m → D.rt (.int v) H) : drT K D [some (.ref φ), some (.int m), none, none, none] H := by
  have tail : ∀ {H : Hp} {i c s : Int} {x2 : Option V}, FdI K F H0 φ l ns i c s H → drT2 K D [some (.ref φ), some (.int m), x2, none, none] H := fun I => draw2 hm0 hm1 I q
  refine ⟨.ref φ, rfl, φ, _, 2, _, rfl, rfl, SqL.of I.at_, rfl, rfl, _, rfl, ite2 (fun e => ?_) fun e => ?_⟩
  · refine ⟨.ref φ, rfl, φ, _, 1, _, rfl, rfl, SqL.of I.at_, rfl, .ref φ, rfl, φ, _, 0, _, rfl, rfl, SqL.of I.at_, rfl, l, _, rfl, .inl I.seq, _, _, rfl, rfl, _, rfl, ite2 (fun e2 => ?_) fun e2 => ?_⟩
    · have hi : i < (ns.map V.int).length := of_decide_eq_true e2
      rw [List.length_map] at hi
      have i0 := I.i0
      have hg : atI (ns.map V.int) i = some (.int (ns[i.toNat]'(by omega))) := by
        have h1 : i.toNat < ns.length := by omega
        have : atI (ns.map V.int) i = (ns.map V.int)[i.toNat]? := by
          unfold L2.atI ixN
          rw [if_pos i0, if_pos (by rw [List.length_map]; omega)]
          rfl
        rw [this, List.getElem?_map, List.getElem?_eq_getElem h1]
        rfl
      generalize ns[i.toNat]'(by omega) = z at hg
      refine ⟨.ref φ, rfl, φ, _, 0, _, rfl, rfl, SqL.of I.at_, rfl, .ref φ, rfl, φ, _, 1, _, rfl, rfl, SqL.of I.at_, rfl, l, _, i, _, rfl, rfl, I.seq, hg, .inl ⟨z, rfl, z, rfl, ?_⟩⟩
      refine ⟨.ref φ, rfl, φ, _, 1, _, rfl, rfl, SqL.of I.at_, rfl, i, 1, rfl, rfl, φ, _, 1, 1, rfl, rfl, I.at_, rfl, ?_⟩
      have I2 := I.set (i' := i + 1) (c' := c) (s' := s) (by omega) (by omega) I.c0 I.s0 I.s1
      have cell0 : 0 ≤ (if z < 0 then -z else z) := by split <;> omega
      generalize (if z < 0 then -z else z) = cell at cell0
      refine ⟨_, rfl, _, _, rfl, rfl, ⟨by decide, by decide, by decide⟩, _, _, rfl, rfl, _, rfl, ite2 (fun e3 => ?_) fun e3 => ?_⟩
      · refine ⟨_, rfl, .ref φ, rfl, φ, _, 2, 2, rfl, rfl, I2.at_, rfl, ?_⟩
        exact tail (I2.set (i' := i + 1) (c' := cell) (s' := s) I2.i0 I2.i1 cell0 I.s0 I.s1)
      · have s0 := I.s0
        have s1 := I.s1
        refine ⟨.ref φ, rfl, φ, _, 3, _, rfl, rfl, SqL.of I2.at_, rfl, _, _, rfl, rfl, .inl ⟨by omega, by omega⟩, _, rfl, _, _, rfl, rfl, .inr ⟨by decide, by decide⟩, _, _, rfl, rfl, .ref φ, rfl, φ, _, 1, _, rfl, rfl, SqL.of I2.at_, rfl, _, _, rfl, rfl, .inl ⟨_, rfl, _, _, rfl, rfl, (show (0 : Int) < 2147483647 by decide), .ref φ, rfl, φ, _, 3, 3, rfl, rfl, I2.at_, rfl, ?_⟩⟩
        exact tail (I2.set (i' := i + 1) (c' := c) (s' := (s * 48271 + cell * 69621 + (i + 1)) % 2147483647) I2.i0 I2.i1 I.c0 (Int.emod_nonneg _ (by decide)) (Int.emod_lt_of_pos _ (by decide)))
    · exact tail I
  · show (if false = true then _ else _)
    exact iteF (tail I)
end
end DL
namespace DL
open PySem PySem.Spec PyProof.Rows L2
/-- a def of the text keeps a promise, by at most level k -/
def HasDef (P : Program) (w : World) (K : PySem.W.Frag) (mg : Str → Option Value) (base : Heap) (x : Str) (k : Nat) (sp : Sp) : Prop :=
  ∃ (f : Addr) (fd : FuncData) (ps : List Str), FnOk P w K mg base CX0 k f fd ps sp ∧ mg x = some (.ref f) ∧ PySem.W.keepIn K (.ref f) = true ∧ Binds K fd ps []
/-- a def of the text as it stands -/
def TopFn (K : PySem.W.Frag) (mg : Str → Option Value) (x : Str) (st : Stmt) : Prop := ∃ (f : Addr) (fd : FuncData), Fun K x x st f fd ∧ mg x = some (.ref f)
/-- a constant of the module -/
def Glob (K : PySem.W.Frag) (mg : Str → Option Value) (x : Str) (d : D) : Prop := ∃ (u : Value) (v : V), mg x = some u ∧ RelV v u ∧ ∀ F, Rp K F v d
section
variable {m : Type → Type} [Run m] {α β γ : Type} {X : Cx} {b : Bs} {sl : Sls} {e e1 e2 : Expr} {es : List Expr} {md : Md} {c : m α} {g : α → D} {h : γ → D} {pos p : Pos} {x : Str} {kl n : Nat}
theorem dc_call {M : m γ} {T : List (Option D) → m γ → Prop} {gs : α → List D} {fM : α → Option γ} (F : HasDef X.prog X.w X.K X.mg X.base x kl (spD X.K gs fM n h)) (hr : Room kl X.A)
    (ha : PA X (e :: es) (tCA X.K b sl M T)) (hT : ∀ ds k, T ds k → ∃ x, ds = (gs x).map some ∧ k = Run.lift (fM x)) (hg : Gl X x := by rfl)
    (hs : starEach (e :: es) X.env = (false, eval e X.env) :: starEach es X.env := by rfl) (hpl : (backTo pos (starEach es X.env)).any (·.1) = false := by rfl) (hdb : (x == ("__debug__" : Str)) = false := by decide) :
    DM X b sl (.Call (.Name x p) (e :: es) [] pos) (.ow n) M h := by
  obtain ⟨f, fd, ps, F, hm, hk, hb⟩ := F
  exact dm_call F hr hm hk hb ha hT hg hs hpl hdb
theorem dc_call0 {fM : Unit → Option γ} (F : HasDef X.prog X.w X.K X.mg X.base x kl (spD X.K (fun _ => []) fM n h)) (hr : Room kl X.A) (hg : Gl X x := by rfl) (hdb : (x == ("__debug__" : Str)) = false := by decide) :
    DM X b sl (.Call (.Name x p) [] [] pos) (.ow n) (Run.lift (fM ()) : m γ) h := by
  obtain ⟨f, fd, ps, F, hm, hk, hb⟩ := F
  exact dm_call0 F hr hm hk hb hg hdb
theorem dc_callF {M : W γ} {T : List (Option D) → W γ → Prop} {gs : α → List (Option D)} {fM : α → W γ} (F : HasDef X.prog X.w X.K X.mg X.base x kl (spF X.K gs fM n h)) (hfd : b.fd ≠ none) (hr : Room kl X.A)
    (ha : PA X (e :: es) (tCA X.K b sl M T)) (hT : ∀ ds k, T ds k → ∃ x, ds = gs x ∧ k = fM x) (hg : Gl X x := by rfl)
    (hs : starEach (e :: es) X.env = (false, eval e X.env) :: starEach es X.env := by rfl) (hpl : (backTo pos (starEach es X.env)).any (·.1) = false := by rfl) (hdb : (x == ("__debug__" : Str)) = false := by decide) :
    DM X b sl (.Call (.Name x p) (e :: es) [] pos) (.ow n) M h := by
  obtain ⟨f, fd, ps, F, hm, hk, hb⟩ := F
  exact dm_callF F hfd hr hm hk hb ha hT hg hs hpl hdb
theorem dm_glob {a : α} (G : Glob X.K X.mg x (g a)) (hg : Gl X x := by rfl) (hd : (x == ("__debug__" : Str)) = false := by decide) : DM X b sl (.Name x pos) (.ow 0) (pure a : m α) g := by
  obtain ⟨u, v, hm, r, k⟩ := G
  exact PE.imp (pe_glob hg hm r hd) fun σ H Q ⟨F, R, q⟩ => by
    have q := rpure q
    exact Post.fr (.refl R.sub R.fe) q (k F)
end
section
variable {m : Type → Type} [Run m] {α β γ : Type} {X : Cx} {b : Bs} {sl : Sls} {e e1 e2 : Expr} {Z Z' S R : Type} {out : Z → Oc} {st : Stmt} {rest : List Stmt}
theorem ds_seq {c : m Z'} {sl' : Z' → Sls} {k : Z' → m Z} (h1 : DS1 X b sl st c (fun z => .nx (sl' z))) (h2 : ∀ z, DS X b (sl' z) rest (k z) out) : DS X b sl (st :: rest) (c >>= k) out := ds_cons h1 fun z => h2 z
/-- how a loop that may return ends -/
def Ct.go {Z : Type} (z : Ct S R) (k : S → m Z) (f : R → m Z) : m Z := match z with
  | .nx s => k s
  | .rt r => f r
  | .bk s => k s
theorem ds_seqC {c : m (Ct S R)} {Ef : S → Sls} {oR : R → Oc} {k : S → m Z} {f : R → Z} (h1 : DS1 X b sl st c (oE Ef oR)) (hR : ∀ r, ∃ n d, oR r = .rt n d) (hf : ∀ r, out (f r) = oR r) (h2 : ∀ s, DS X b (Ef s) rest (k s) out) :
    DS X b sl (st :: rest) (c >>= fun z => z.go k (fun r => pure (f r))) out := ds_cons h1 fun z => by
  cases z with
  | nx s =>
    have := h2 s
    exact this
  | bk s =>
    show Kont X b rest out (.nx (Ef s)) (k s)
    have := h2 s
    exact this
  | rt r =>
    obtain ⟨n, d, e⟩ := hR r
    have := hf r
    show Kont X b rest out (oR r) (pure (f r))
    rw [e] at this ⊢
    exact ⟨f r, rfl, this⟩
/-- an int as a test -/
theorem dt_int {c : m Int} (h : DM X b sl e .pk c eI) (he : ∀ whole, isTrue e X.env whole = (do let v ← whole; standAt e.pos; holding [v] (truthy v)) := by intro _; rfl) : DT X b sl e (c >>= fun i => pure (i != 0)) :=
  PT.imp (pt_truth h he) fun σ H Q ⟨F, R, q⟩ => ⟨F, R, rmono (rbind q) fun i p v F' H' S r => by
    have p := rpure p
    cases r
    exact ⟨_, rfl, p F' H' S⟩⟩
theorem dt_intT {i : Int} (h : DM X b sl e .pk (pure i : m Int) eI) (he : ∀ whole, isTrue e X.env whole = (do let v ← whole; standAt e.pos; holding [v] (truthy v)) := by intro _; rfl) : DT X b sl e (pure (i != 0) : m Bool) := by
  have := dt_int h he
  rw [Run.pure_b] at this
  exact this
end
section
variable {P : Program} {w : World} {K : PySem.W.Frag} {mg : Str → Option Value} {base : Heap} {α β : Type}
variable {x : Str} {st : Stmt} {N ps : List Str} {k n : Nat} {g : β → D}
theorem hd_D {gs : α → List D} {fM : α → Option β} {sl : α → Sls} (T : TopFn K mg x st) (S : FnScope N ps (defScope st))
    (hbd : ∀ (kV doc pm : Value) (an : Option Addr) (cdv ct : Value) (us : List Value), us.length = ps.length → bindArgs (PySem.W.fnOf x x (defArgs st) (defBody st) (defScope st) .none kV doc pm an cdv ct) ⟨us, []⟩ = pure (ps.zip us))
    (hlen : ∀ x, (gs x).length = ps.length) (hsl : ∀ x, slD N.length ((gs x).map some) = sl x)
    (body : ∀ (f : Addr) (cdv : Value) (A : Around) (outer : List Env) (s : Shared) (H : Hp) (E : XK), Room k (A.deeper (envOfC x (defScope st) s.heap.objs.size f cdv)) → ∀ (b : Bs) (a : α), DS (XO P w K mg base N x st f cdv A outer s H E) b (sl a) (defBody st) (fM a) (fun r => .rt n (g r))) :
    HasDef P w K mg base x (k + 1) (spD K gs fM n g) := by
  obtain ⟨f, fd, F, hm⟩ := T
  exact ⟨f, fd, ps, fn_D F S hlen hsl (body f), hm, F.kp, F.binds hbd⟩
theorem hd_F {gs : α → List (Option D)} {fM : α → W β} {sl : α → Sls} (T : TopFn K mg x st) (S : FnScope N ps (defScope st))
    (hbd : ∀ (kV doc pm : Value) (an : Option Addr) (cdv ct : Value) (us : List Value), us.length = ps.length → bindArgs (PySem.W.fnOf x x (defArgs st) (defBody st) (defScope st) .none kV doc pm an cdv ct) ⟨us, []⟩ = pure (ps.zip us))
    (hlen : ∀ x, (gs x).length = ps.length) (hsl : ∀ x, slD N.length (gs x) = sl x)
    (body : ∀ (f : Addr) (cdv : Value) (A : Around) (outer : List Env) (s : Shared) (H : Hp) (E : XK), Room k (A.deeper (envOfC x (defScope st) s.heap.objs.size f cdv)) → ∀ (b : Bs) (_ : b.fd ≠ none) (a : α), DS (XO P w K mg base N x st f cdv A outer s H E) b (sl a) (defBody st) (fM a) (fun r => .rt n (g r))) :
    HasDef P w K mg base x (k + 1) (spF K gs fM n g) := by
  obtain ⟨f, fd, F, hm⟩ := T
  exact ⟨f, fd, ps, fn_F F S hlen hsl (body f), hm, F.kp, F.binds hbd⟩
end
end DL
namespace DL
open PySem PySem.Spec PyProof.Rows L2
section
variable {m : Type → Type} [Run m] {α β γ : Type} {X : Cx} {b : Bs} {sl : Sls} {e e1 e2 : Expr} {es : List Expr} {md : Md} {c : m α} {g : α → D} {h : γ → D} {pos p : Pos} {x : Str} {kl n : Nat} {K : PySem.W.Frag} {fd : Option Addr} {Z : Type} {out : Z → Oc}
/-- return of a name that is ours -/
theorem ds_retN (i : Nat) (g : α → D) (a : α) {n : Nat} {rest : List Stmt} (z : Z) (ho : out z = .rt n (g a)) (e : sl[i]? = some (some (.o n (g a))) := by rfl) (hN : X.N[i]? = some x := by rfl) (hv : Vis X.env.scope x := by first | exact Or.inl rfl | exact Or.inr (Or.inl rfl) | exact Or.inr (Or.inr rfl)) (hd : (x == ("__debug__" : Str)) = false := by decide)
    (hcd : (x == ("__classdict__" : Str)) = false := by decide) : DS X b sl (.Return (some (.Name x p)) pos :: rest) (pure z : m Z) out :=
  PSs.imp (pss_cons (ps_ret (pe_var hN hv hd hcd)) pss_never) fun E σ H ⟨F, R, q⟩ => by
    have q := rpure q
    rw [ho] at q
    obtain ⟨Cs, s1, s2, s3⟩ := R.slots
    obtain ⟨v, e1, r⟩ := s1 i _ e
    exact ⟨v, e1, q v F H (Cs i) (Sub.refl _) R.relB r ⟨(s2 i).1, fun c hc => ⟨((s2 i).2 c hc).1, ((s2 i).2 c hc).2.1, ((s2 i).2 c hc).2.2.1⟩⟩⟩
/-- all but the list itself is let stand -/
theorem freeze1 {F H F0 H0 : Hp} {n : Nat} {v : V} {ds : List D} {C : List Cell} (fe0 : FeedOk K fd F0 H0) (S : Step K fd F0 H0 F H) (r : Own K F (n + 1) v (.list ds) C) (h : Holds C F H H0) : ∃ F' C', Step K fd F0 H0 F' H ∧ Own K F' 1 v (.list ds) C' ∧ Holds C' F' H H0 := by
  cases r with
  | s a _ => cases a
  | lst o l =>
    rename_i p vs C
    have nd := h.1
    rw [List.map_cons, List.nodup_cons] at nd
    have hp := h.2 (p, .lst vs) List.mem_cons_self
    have fdn : ∀ c ∈ C, fd ≠ some c.1 := fun c hc z => by
      obtain ⟨o, q⟩ := fe0.some z
      rw [(h.2 c (List.mem_cons_of_mem _ hc)).2.2] at q; cases q
    let F' : Hp := fun a => if a ∈ C.map (·.1) then H a else F a
    have fn : ∀ p, F' p = if p ∈ C.map (·.1) then H p else F p := fun _ => rfl
    have ff : Sub F F' := fun a o e => by
      rw [fn, if_neg]
      · exact e
      · intro hm
        obtain ⟨c, hc, rfl⟩ := List.mem_map.mp hm
        rw [(h.2 c (List.mem_cons_of_mem _ hc)).2.1] at e; cases e
    have fc : ∀ c ∈ C, F' c.1 = some c.2 := fun c hc => by
      rw [fn, if_pos (List.mem_map.mpr ⟨c, hc, rfl⟩)]
      exact (h.2 c (List.mem_cons_of_mem _ hc)).1
    refine ⟨F', [(p, .lst vs)], ⟨S.ff.trans ff, S.hh, fun a o e => ?_, fun q hq e => ?_, S.fe.mono ff (fun φ e => ?_) fun _ _ => rfl⟩, .lst (OwnAll.zero (o.rp ff fc)) l, by simp, fun c hc => ?_⟩
    · rw [fn] at e
      split at e
      · rename_i hm
        obtain ⟨c, hc, rfl⟩ := List.mem_map.mp hm
        rw [hid_ne (fdn c hc)]; exact e
      · exact S.fh a o e
    · rw [fn, if_neg]
      · exact S.st q hq e
      · intro hm
        obtain ⟨c, hc, rfl⟩ := List.mem_map.mp hm
        exact hq (h.2 c (List.mem_cons_of_mem _ hc)).2.2
    · rw [fn, if_neg]
      · exact (S.fe φ e).1
      · intro hm
        obtain ⟨c, hc, rfl⟩ := List.mem_map.mp hm
        exact fdn c hc e
    · have : c = (p, .lst vs) := by simpa using hc
      subst this
      refine ⟨hp.1, ?_, hp.2.2⟩
      rw [fn, if_neg nd.1]
      exact hp.2.1
theorem dm_fr1 {n : Nat} {c : m (List α)} (h : DM X b sl e (.ow (n + 1)) c (eL g)) : DM X b sl e (.ow 1) c (eL g) := PE.imp h fun σ H Q ⟨F, R, q⟩ => ⟨F, R, rmono q fun x p v F' H' C S r k => by
  obtain ⟨F2, C2, S2, r2, k2⟩ := freeze1 R.fe S r k
  exact p v F2 H' C2 S2 r2 k2⟩
/-- None, or not -/
theorem dm_isN {g : α → D} {c : m (Option α)} (hg : ∀ x, g x ≠ PyData.none) (h : DM X b sl e .pk c (eO g)) {j pos'} : DM X b sl (.Compare e [.Is] [.Constant .none j pos'] pos) md (c >>= fun x => pure x.isNone) eB := PE.imp (pe_cmp (pc_isN h) rfl) fun σ H Q ⟨F, R, q⟩ => ⟨F, R, rmono (rbind q) fun x p v F' H' S r => by
  have p := rpure p
  have e : decide (v = V.non) = x.isNone := by
    cases x with
    | none => cases r; rfl
    | some a =>
      have hn := hg a
      have r : Rp X.K (hid b.fd H') v (g a) := r
      generalize g a = d at hn r
      cases r with
      | non => exact absurd rfl hn
      | _ => rfl
  dsimp only
  rw [e]
  exact Post.sc S.fh S.fe (Post.back R.fe S p) rfl (.bl _)⟩
theorem dm_notN {g : α → D} {c : m (Option α)} (hg : ∀ x, g x ≠ PyData.none) (h : DM X b sl e .pk c (eO g)) {j pos'} : DM X b sl (.Compare e [.IsNot] [.Constant .none j pos'] pos) md (c >>= fun x => pure x.isSome) eB := PE.imp (pe_cmp (pc_notN h) rfl) fun σ H Q ⟨F, R, q⟩ => ⟨F, R, rmono (rbind q) fun x p v F' H' S r => by
  have p := rpure p
  have e : (!decide (v = V.non)) = x.isSome := by
    cases x with
    | none => cases r; rfl
    | some a =>
      have hn := hg a
      have r : Rp X.K (hid b.fd H') v (g a) := r
      generalize g a = d at hn r
      cases r with
      | non => exact absurd rfl hn
      | _ => rfl
  dsimp only
  rw [e]
  exact Post.sc S.fh S.fe (Post.back R.fe S p) rfl (.bl _)⟩
/-- .. as tests -/
theorem dt_cmpV {op : CmpOp} {t : TE} {c : m Bool} (h : PC X op e1 e2 t) (k : ∀ σ H Q, tD X.K b sl .pk c eB σ H Q → t σ H Q) (h1 : behindInMarks op e2 = false := by first | exact nobehind _ (by decide) (by decide) | rfl) : DT X b sl (.Compare e1 [op] [e2] pos) c := PT.imp (pt_cmp h h1) fun σ H Q ⟨F, R, q⟩ => k σ H _ ⟨F, R, rmono q fun t p v F' H' S r => by
  cases r
  exact ⟨_, rfl, p F' H' S⟩⟩
end
section
variable {K : PySem.W.Frag} {fd : Option Addr} {md : Md} {m : Type → Type} [Run m]
theorem os_any : OpS1 K fd (rAny K) .pk (eL eB) (fun x => (pure (x.any id) : m Bool)) md eB := fun F H v1 x Q fh fe r1 q => by
  have q := rpure q
  cases r1 with
  | lst h1 a1 l1 =>
    have e := RpAll.bools (ns := x) a1
    subst e
    exact ⟨_, x, rfl, SqL.of (hid_sub _ _ h1), Post.sc fh fe q rfl (.bl _)⟩
theorem os_all : OpS1 K fd (rAll K) .pk (eL eB) (fun x => (pure (x.all id) : m Bool)) md eB := fun F H v1 x Q fh fe r1 q => by
  have q := rpure q
  cases r1 with
  | lst h1 a1 l1 =>
    have e := RpAll.bools (ns := x) a1
    subst e
    exact ⟨_, x, rfl, SqL.of (hid_sub _ _ h1), Post.sc fh fe q rfl (.bl _)⟩
abbrev rMax2 : List V → Hp → VK → Prop := fun xs H Q => ∃ i j, xs = [.int i, .int j] ∧ Q (.int (if j > i then j else i)) H
abbrev rMin2 : List V → Hp → VK → Prop := fun xs H Q => ∃ i j, xs = [.int i, .int j] ∧ Q (.int (if j < i then j else i)) H
def imax (i j : Int) : Int := if j > i then j else i
def imin (i j : Int) : Int := if j < i then j else i
theorem os_max2 : OpS2 K fd rMax2 .pk .pk eI eI (fun x y => (pure (imax x y) : m Int)) md eI := fun F H v1 v2 x y Q fh fe r1 r2 q => by
  have q := rpure q
  cases r1
  cases r2
  exact ⟨x, y, rfl, Post.sc fh fe q rfl (.int _)⟩
theorem os_min2 : OpS2 K fd rMin2 .pk .pk eI eI (fun x y => (pure (imin x y) : m Int)) md eI := fun F H v1 v2 x y Q fh fe r1 r2 q => by
  have q := rpure q
  cases r1
  cases r2
  exact ⟨x, y, rfl, Post.sc fh fe q rfl (.int _)⟩
end
/-- never None -/
class NN {α : Type} (g : α → D) : Prop where
  nn : ∀ x, g x ≠ PyData.none
instance : NN eI := ⟨fun _ h => by cases h⟩
instance : NN eB := ⟨fun _ h => by cases h⟩
instance : NN eS := ⟨fun _ h => by cases h⟩
instance {α : Type} {g : α → D} : NN (eL g) := ⟨fun _ h => by cases h⟩
instance {α : Type} {g : α → D} : NN (eT g) := ⟨fun _ h => by cases h⟩
instance {α β : Type} {g : α → D} {h : β → D} : NN (eP g h) := ⟨fun _ h => by cases h⟩
theorem eqv_none_l {d : D} (h : d ≠ PyData.none) : PyData.eqv PyData.none d = false := by cases d <;> first | exact absurd rfl h | rfl
theorem eqv_none_r {d : D} (h : d ≠ PyData.none) : PyData.eqv d PyData.none = false := by cases d <;> first | exact absurd rfl h | rfl
instance {α : Type} [BEq α] {g : α → D} {k : Nat} [h : Eqv g k] [hn : NN g] : Eqv (eO g) (max k 1) := ⟨fun x => by
  cases x with
  | none => rfl
  | some a => exact h.plain a, fun x => by
  cases x with
  | none => simp [eO, PyData.depth]
  | some a => have := h.depth a; simp only [eO]; omega, fun x y => by
  cases x with
  | none =>
    cases y with
    | none => rfl
    | some c => exact eqv_none_l (hn.nn c)
  | some a =>
    cases y with
    | none => exact eqv_none_r (hn.nn a)
    | some c => exact h.eqv a c⟩
end DL
namespace DL
open PySem PySem.Spec PyProof.Rows L2
section
variable {m : Type → Type} [Run m] {α β γ : Type} {X : Cx} {b : Bs} {sl : Sls} {e e1 e2 : Expr} {es : List Expr} {md : Md} {c : m α} {g : α → D} {c1 : m β} {g1 : β → D} {h : γ → D} {pos p : Pos} {x : Str} {kl n : Nat} {K : PySem.W.Frag} {fd : Option Addr} {Z : Type} {out : Z → Oc} {a1 a2 : Am}
theorem dm_b3 {α1 α2 α3 γ' : Type} {h' : γ' → D} {x : α1} {y : α2} {z : α3} {k : α1 → α2 → α3 → m γ'} (q : DM X b sl e md ((pure x : m α1) >>= fun x => (pure y : m α2) >>= fun y => (pure z : m α3) >>= fun z => k x y z) h') : DM X b sl e md (k x y z) h' := dm_eq q (by rw [Run.pure_b, Run.pure_b, Run.pure_b])
/-! ### calls with what is ours, that hand back a scalar -/
def tCP (K : PySem.W.Frag) (b : Bs) (sl : Sls) (M : m γ) (T : List D → m γ → Prop) : TA := fun σ H Q => ∃ F, Rel K b sl F H σ ∧ ∃ R : γ → Prop, Run.run M R ∧ ∀ vs F' H' ds k, Step K b.fd F H F' H' → RpAll K (hid b.fd H') vs ds → T ds k → Run.run k R → Q vs H'
theorem cp_nil {M : m γ} : PA X [] (tCP X.K b sl M (fun ds k => ds = [] ∧ k = M)) := PA.imp pa_nil fun σ H Q ⟨F, R, P, r, q⟩ => q [] F H [] M (.refl R.sub R.fe) .nil ⟨rfl, rfl⟩ r
theorem cp_cons {M : α → m γ} {T : α → List D → m γ → Prop} (he : DA X b sl e .pk c g) (hr : ∀ x, PA X es (tCP X.K b sl (M x) (T x))) (hs : starEach (e :: es) X.env = (false, eval e X.env) :: starEach es X.env := by rfl) :
    PA X (e :: es) (tCP X.K b sl (c >>= M) (fun ds k => ∃ x ds', ds = g x :: ds' ∧ T x ds' k)) := PA.imp (pa_cons he (PA.ex hr) hs) fun σ H Q ⟨F, R, P, r, q⟩ => ⟨F, R, rmono (rbind r) fun x r v F1 H1 S1 o1 =>
  ⟨x, F1, R.step S1, P, r, fun vs F2 H2 ds k S2 o2 t r2 => q (v :: vs) F2 H2 (g x :: ds) k (S1.trans R.fe S2) (.cons (Rp.mono S2.hh o1) o2) ⟨x, ds, rfl, t⟩ r2⟩⟩
theorem cp_consT {M : m γ} {x : α} {T : List D → m γ → Prop} (he : DA X b sl e .pk (pure x : m α) g) (hr : PA X es (tCP X.K b sl M T)) (hs : starEach (e :: es) X.env = (false, eval e X.env) :: starEach es X.env := by rfl) :
    PA X (e :: es) (tCP X.K b sl M (fun ds k => ∃ ds', ds = g x :: ds' ∧ T ds' k)) := PA.imp (pa_cons he hr hs) fun σ H Q ⟨F, R, P, r, q⟩ => ⟨F, R, rpure' fun v F1 H1 S1 o1 =>
  ⟨F1, R.step S1, P, r, fun vs F2 H2 ds k S2 o2 t r2 => q (v :: vs) F2 H2 (g x :: ds) k (S1.trans R.fe S2) (.cons (Rp.mono S2.hh o1) o2) ⟨ds, rfl, t⟩ r2⟩⟩
theorem RpAll.args {F : Hp} : ∀ {ds : List D} {vs : List V}, RpAll K F vs ds → ArgsOk K F none vs (ds.map some)
  | [], _, h => by cases h; exact .nil
  | d :: ds, _, h => by
    cases h with
    | cons a t => exact .val a (RpAll.args t)
theorem dc_callP [hsc : Sca h] {M : m γ} {T : List D → m γ → Prop} {gs : α → List D} {fM : α → Option γ} (F : HasDef X.prog X.w X.K X.mg X.base x kl (spD X.K gs fM n h)) (hr : Room kl X.A)
    (ha : PA X (e :: es) (tCP X.K b sl M T)) (hT : ∀ ds k, T ds k → ∃ x, ds = gs x ∧ k = Run.lift (fM x)) (hg : Gl X x := by rfl)
    (hs : starEach (e :: es) X.env = (false, eval e X.env) :: starEach es X.env := by rfl) (hpl : (backTo pos (starEach es X.env)).any (·.1) = false := by rfl) (hdb : (x == ("__debug__" : Str)) = false := by decide) :
    DM X b sl (.Call (.Name x p) (e :: es) [] pos) md M h := by
  obtain ⟨f, fd, ps, F, hm, hk, hb⟩ := F
  exact PE.imp (pe_call F hr hg hm hk hb .nil pass0 ha hdb hs hpl) fun σ H Q ⟨F, R, q⟩ => ⟨F, R, _, q, fun vs F' H' ds k S o t r => by
    obtain ⟨x, rfl, rfl⟩ := hT ds k t
    refine ⟨hid b.fd H', x, hid_sub, by rw [List.append_nil]; exact o.args, ?_⟩
    obtain ⟨y, e, r⟩ := rlift r
    refine ⟨y, e, fun v F2 H2 C S2 o2 h2 => ?_⟩
    have hh : Sub H' H2 := by have := S2.hh; rwa [hid_none, hid_none] at this
    have S3 : Step X.K b.fd F' H' F' H2 := by
      have hh' : Sub (hid b.fd H') (hid b.fd H2) := fun a o e => by
        by_cases ha : b.fd = some a
        · unfold hid at e; rw [if_pos ha] at e; cases e
        · rw [hid_ne ha] at e ⊢; exact hh a o e
      exact ⟨Sub.refl _, hh', S.fh.trans hh', fun _ _ e => e, S.fe.mono (Sub.refl _) (fun φ e => (S.fe φ e).1) fun φ e => by
        obtain ⟨o, q⟩ := S.fe.some e
        rw [q, hh φ o q]⟩
    have rs : Rp X.K F' v (h y) := by
      have hs := hsc.sc y
      generalize h y = d at o2 hs
      cases o2 with
      | z r => exact r.scal hs
      | s _ r => exact r.scal hs
      | lst _ _ => cases hs
      | tup _ _ => cases hs
      | dic _ => cases hs
    exact Post.sc S3.fh S3.fe (Post.back R.fe (S.trans R.fe S3) r) (hsc.sc y) rs⟩
/-! ### an item at a written place -/
theorem dm_ixR {r : R2} {k : α → m γ} {y : β} (ho : IxR X r) (ha : DA X b sl e1 a1 c g) (hb : DA X b sl e2 a2 (pure y : m β) g1) (hr : OpS X.K b.fd r a1 a2 g g1 (fun _ z => z = y) (fun x _ => k x) md h) (hs : PlainIx e2) :
    DM X b sl (.Subscript e1 e2 pos) md (c >>= k) h := PE.imp (pe_ix ho ha hb hs) fun _ _ _ q => tD_opR hr q
theorem os_ixP0 : OpS K fd (rIxT K) .fr .pk (eP g g1) eI (fun _ y => y = 0) (fun x _ => (pure x.1 : m α)) (.ow 0) g := fun F H v1 v2 x y Q p fh fe r1 r2 q => by
  have q' := rpure q
  cases r2
  subst p
  cases r1 with
  | tup h1 a1 l1 =>
    cases a1 with
    | cons r a1 =>
      cases a1 with
      | cons r' a1 =>
        cases a1
        exact ⟨_, _, 0, _, rfl, rfl, (fh.trans hid_sub).sqt h1, rfl, Post.fr (.refl fh fe) q' r⟩
theorem os_ixP1 : OpS K fd (rIxT K) .fr .pk (eP g g1) eI (fun _ y => y = 1) (fun x _ => (pure x.2 : m β)) (.ow 0) g1 := fun F H v1 v2 x y Q p fh fe r1 r2 q => by
  have q' := rpure q
  cases r2
  subst p
  cases r1 with
  | tup h1 a1 l1 =>
    cases a1 with
    | cons r a1 =>
      cases a1 with
      | cons r' a1 =>
        cases a1
        exact ⟨_, _, 1, _, rfl, rfl, (fh.trans hid_sub).sqt h1, rfl, Post.fr (.refl fh fe) q' r'⟩
theorem dt_isN {g : α → D} {c : m (Option α)} [NN g] (h : DM X b sl e .pk c (eO g)) {j pos'} : DT X b sl (.Compare e [.Is] [.Constant .none j pos'] pos) (c >>= fun x => pure x.isNone) := PT.imp (pt_cmp (pc_isN h) rfl) fun σ H Q ⟨F, R, q⟩ => ⟨F, R, rmono (rbind q) fun x p v F' H' S r => by
  have p := rpure p
  have e : decide (v = V.non) = x.isNone := by
    cases x with
    | none => cases r; rfl
    | some a =>
      have hn := NN.nn (g := g) a
      have r : Rp X.K (hid b.fd H') v (g a) := r
      generalize g a = d at hn r
      cases r with
      | non => exact absurd rfl hn
      | _ => rfl
  exact ⟨_, rfl, by rw [e]; exact p F' H' S⟩⟩
theorem dt_notN {g : α → D} {c : m (Option α)} [NN g] (h : DM X b sl e .pk c (eO g)) {j pos'} : DT X b sl (.Compare e [.IsNot] [.Constant .none j pos'] pos) (c >>= fun x => pure x.isSome) := PT.imp (pt_cmp (pc_notN h) rfl) fun σ H Q ⟨F, R, q⟩ => ⟨F, R, rmono (rbind q) fun x p v F' H' S r => by
  have p := rpure p
  have e : (!decide (v = V.non)) = x.isSome := by
    cases x with
    | none => cases r; rfl
    | some a =>
      have hn := NN.nn (g := g) a
      have r : Rp X.K (hid b.fd H') v (g a) := r
      generalize g a = d at hn r
      cases r with
      | non => exact absurd rfl hn
      | _ => rfl
  exact ⟨_, rfl, by rw [e]; exact p F' H' S⟩⟩
theorem dt_b1 {x : α} {k : α → m Bool} (q : DT X b sl e ((pure x : m α) >>= k)) : DT X b sl e (k x) := by rw [Run.pure_b] at q; exact q
end
/-! ### strict sameness of data -/
mutual
def dsame : D → D → Bool
  | .none, .none => true
  | .bool a, .bool c => a == c
  | .int a, .int c => a == c
  | .str a, .str c => a == c
  | .list a, .list c => dsames a c
  | .tuple a, .tuple c => dsames a c
  | _, _ => false
def dsames : List D → List D → Bool
  | [], [] => true
  | a :: as, c :: cs => dsame a c && dsames as cs
  | _, _ => false
end
/-- a kind of which it tells what == tells -/
class Sam {α : Type} [BEq α] (g : α → D) (k : outParam Nat) : Prop where
  same : ∀ x y, dsame (g x) (g y) = (x == y)
  depth : ∀ x, (g x).depth ≤ k
  plain : ∀ x, (g x).plain = true
instance : Sam eI 1 := ⟨fun x y => by simp [eI, dsame], fun _ => by simp [eI, PyData.depth], fun _ => rfl⟩
instance : Sam eB 1 := ⟨fun x y => by simp [eB, dsame], fun _ => by simp [eB, PyData.depth], fun _ => rfl⟩
instance : Sam eS 1 := ⟨fun x y => by simp [eS, dsame], fun _ => by simp [eS, PyData.depth], fun _ => rfl⟩
instance : Sam eN 1 := ⟨fun x y => by simp [eN, dsame], fun _ => by simp [eN, PyData.depth], fun _ => rfl⟩
theorem dsames_map {α : Type} [BEq α] {g : α → D} (h : ∀ x y, dsame (g x) (g y) = (x == y)) : ∀ xs ys : List α, dsames (xs.map g) (ys.map g) = (xs == ys)
  | [], [] => by simp [dsames]
  | [], _ :: _ => by simp [dsames]
  | _ :: _, [] => by simp [dsames]
  | x :: xs, y :: ys => by simp [dsames, h x y, dsames_map h xs ys]
instance {α : Type} [BEq α] {g : α → D} {k : Nat} [h : Sam g k] : Sam (eL g) (k + 1) := ⟨fun xs ys => by simp only [eL, dsame]; exact dsames_map h.same xs ys, fun xs => by
  have := depthAll_map h.depth xs
  simp only [eL, PyData.depth]
  omega, fun xs => plainAll_map h.plain xs⟩
instance {α : Type} [BEq α] {g : α → D} {k : Nat} [h : Sam g k] : Sam (eT g) (k + 1) := ⟨fun xs ys => by simp only [eT, dsame]; exact dsames_map h.same xs ys, fun xs => by
  have := depthAll_map h.depth xs
  simp only [eT, PyData.depth]
  omega, fun xs => plainAll_map h.plain xs⟩
instance {α β : Type} [BEq α] [BEq β] {g : α → D} {h : β → D} {k l : Nat} [x : Sam g k] [y : Sam h l] : Sam (eP g h) (max k l + 1) := ⟨fun p q => by
  simp only [eP, dsame, dsames, x.same, y.same, Bool.and_true]
  rfl, fun p => by
  have := x.depth p.1
  have := y.depth p.2
  simp only [eP, PyData.depth, PyData.depthAll]
  omega, fun p => by simp [eP, PyData.plain, PyData.plainAll, x.plain, y.plain]⟩
theorem dsame_none_l {d : D} (h : d ≠ PyData.none) : dsame PyData.none d = false := by cases d <;> first | exact absurd rfl h | rfl
theorem dsame_none_r {d : D} (h : d ≠ PyData.none) : dsame d PyData.none = false := by cases d <;> first | exact absurd rfl h | rfl
instance {α : Type} [BEq α] {g : α → D} {k : Nat} [h : Sam g k] [hn : NN g] : Sam (eO g) (max k 1) := ⟨fun x y => by
  cases x with
  | none =>
    cases y with
    | none => rfl
    | some c => exact dsame_none_l (hn.nn c)
  | some a =>
    cases y with
    | none => exact dsame_none_r (hn.nn a)
    | some c => exact h.same a c, fun x => by
  cases x with
  | none => simp [eO, PyData.depth]
  | some a => have := h.depth a; simp only [eO]; omega, fun x => by
  cases x with
  | none => rfl
  | some a => exact h.plain a⟩
end DL
namespace DL
open PySem PySem.Spec PyProof.Rows L2
section
variable {m : Type → Type} [Run m] {α β γ : Type} {X : Cx} {b : Bs} {sl : Sls} {e e1 e2 e3 : Expr} {es : List Expr} {md : Md} {c : m α} {g : α → D} {c1 : m β} {g1 : β → D} {h : γ → D} {pos p : Pos} {x : Str} {kl n : Nat} {K : PySem.W.Frag} {fd : Option Addr} {Z : Type} {out : Z → Oc} {a1 a2 : Am}
theorem b01 {α β γ' : Type} {c : m α} {y : β} {k : α → β → m γ'} : (c >>= fun x => (pure y : m β) >>= fun y => k x y) = (c >>= fun x => k x y) := by congr 1; funext x; rw [Run.pure_b]
theorem dm_b01 {α1 α2 γ' : Type} {h' : γ' → D} {c : m α1} {y : α2} {k : α1 → α2 → m γ'} (q : DM X b sl e md (c >>= fun x => (pure y : m α2) >>= fun y => k x y) h') : DM X b sl e md (c >>= fun x => k x y) h' := dm_eq q b01
theorem dt_b01 {α1 α2 : Type} {c : m α1} {y : α2} {k : α1 → α2 → m Bool} (q : DT X b sl e (c >>= fun x => (pure y : m α2) >>= fun y => k x y)) : DT X b sl e (c >>= fun x => k x y) := by rw [b01] at q; exact q
theorem di_b01 {α1 α2 γ' : Type} {h' : γ' → D} {tg iter : Expr} {fz : Bool} {c : m α1} {y : α2} {k : α1 → α2 → m (List γ')} (q : DI X b sl tg iter fz (c >>= fun x => (pure y : m α2) >>= fun y => k x y) h') : DI X b sl tg iter fz (c >>= fun x => k x y) h' := by rw [b01] at q; exact q
theorem ds1_b {st : Stmt} {α1 : Type} {x : α1} {k : α1 → m Z} (q : DS1 X b sl st ((pure x : m α1) >>= k) out) : DS1 X b sl st (k x) out := by rw [Run.pure_b] at q; exact q
/-- -x -/
theorem dm_neg {c : m Int} (ha : DA X b sl e .pk c eI) : DM X b sl (.UnaryOp .USub e pos) md (c >>= fun x => pure (-x)) eI := PE.imp (pe_un un_neg ha) fun σ H Q ⟨F, R, q⟩ => ⟨F, R, rmono (rbind q) fun x p v F1 H1 S1 r1 => by
  have p := rpure p
  cases r1
  exact ⟨x, rfl, Post.sc S1.fh S1.fe (Post.back R.fe S1 p) rfl (.int _)⟩⟩
/-- a written row -/
theorem dm_tupL {n k x1 : Nat} {c : m (List α)} (h : PA X es (tLs X.K b sl n k c g)) (hk : decide (k ≤ 1000) = true := by rfl) : DM X b sl (.Tuple es x1 pos) (.ow (n + 1)) c (eT g) := PE.imp (pe_tup h) fun σ H Q ⟨F, R, q⟩ => ⟨F, R, rmono q fun xs p vs F1 H1 C1 S1 o1 h1 l => by
  have hk := of_decide_eq_true hk
  exact ⟨Nat.le_of_lt (small1000 (by omega)), fun p' np => Post.tup R.fe S1 p o1 h1 (by omega) np⟩⟩
/-- three -/
theorem dm_tup3 {n x1 : Nat} {δ : Type} {c2 : m δ} {g2 : δ → D} (h1 : DM X b sl e1 (.ow n) c g) (h2 : DM X b sl e2 (.ow n) c1 g1) (h3 : DM X b sl e3 (.ow n) c2 g2) (hs : starEach [e1, e2, e3] X.env = (false, eval e1 X.env) :: starEach [e2, e3] X.env := by rfl) (hs2 : starEach [e2, e3] X.env = (false, eval e2 X.env) :: starEach [e3] X.env := by rfl) (hs3 : starEach [e3] X.env = (false, eval e3 X.env) :: starEach [] X.env := by rfl) :
    DM X b sl (.Tuple [e1, e2, e3] x1 pos) (.ow (n + 1)) (c >>= fun x => c1 >>= fun y => c2 >>= fun z => pure (x, y, z)) (eP3 g g1 g2) := PE.imp (pe_tup (pa_cons h1 (pa_cons h2 (pa_cons h3 pa_nil hs3) hs2) hs)) fun σ H Q ⟨F, R, q⟩ => ⟨F, R, rmono (rbind q) fun x p v F1 H1 C1 S1 o1 k1 =>
  ⟨F1, R.step S1, rmono (rbind p) fun y p w F2 H2 C2 S2 o2 k2 => ⟨F2, (R.step S1).step S2, rmono (rbind p) fun z p u F3 H3 C3 S3 o3 k3 => by
    have p := rpure p
    have S12 := S1.trans R.fe S2
    refine ⟨by show 3 ≤ sizeLine; decide, fun p' np => Post.tup R.fe (S12.trans R.fe S3) p (C := C1 ++ (C2 ++ C3)) ?_ ?_ (by show 3 ≤ 1000; decide) np⟩
    · have t : OwnAll X.K F3 n [w, u] [g1 y, g2 z] (C2 ++ C3) := (o2.mono S3.ff).tup2 o3
      exact .cons ((o1.mono S2.ff).mono S3.ff) t
    · have := (k1.append R.fe S1 S2 k2).append R.fe S12 S3 k3
      rwa [List.append_assoc] at this⟩⟩⟩
theorem dm_tup3T {n x1 : Nat} {δ : Type} {x : α} {y : β} {z : δ} {g2 : δ → D} (h1 : DM X b sl e1 (.ow n) (pure x : m α) g) (h2 : DM X b sl e2 (.ow n) (pure y : m β) g1) (h3 : DM X b sl e3 (.ow n) (pure z : m δ) g2) (hs : starEach [e1, e2, e3] X.env = (false, eval e1 X.env) :: starEach [e2, e3] X.env := by rfl) (hs2 : starEach [e2, e3] X.env = (false, eval e2 X.env) :: starEach [e3] X.env := by rfl) (hs3 : starEach [e3] X.env = (false, eval e3 X.env) :: starEach [] X.env := by rfl) :
    DM X b sl (.Tuple [e1, e2, e3] x1 pos) (.ow (n + 1)) (pure (x, y, z) : m (α × β × δ)) (eP3 g g1 g2) := dm_b3 (k := fun x y z => pure (x, y, z)) (dm_tup3 h1 h2 h3 hs hs2 hs3)
theorem os_ixP30 {δ : Type} {g2 : δ → D} : OpS K fd (rIxT K) .fr .pk (eP3 g g1 g2) eI (fun _ y => y = 0) (fun x _ => (pure x.1 : m α)) (.ow 0) g := fun F H v1 v2 x y Q p fh fe r1 r2 q => by
  have q' := rpure q
  cases r2
  subst p
  cases r1 with
  | tup h1 a1 l1 =>
    cases a1 with
    | cons r a1 =>
      cases a1 with
      | cons r' a1 =>
        cases a1 with
        | cons r2 a1 =>
          cases a1
          exact ⟨_, _, 0, _, rfl, rfl, (fh.trans hid_sub).sqt h1, rfl, Post.fr (.refl fh fe) q' r⟩
theorem os_ixP31 {δ : Type} {g2 : δ → D} : OpS K fd (rIxT K) .fr .pk (eP3 g g1 g2) eI (fun _ y => y = 1) (fun x _ => (pure x.2.1 : m β)) (.ow 0) g1 := fun F H v1 v2 x y Q p fh fe r1 r2 q => by
  have q' := rpure q
  cases r2
  subst p
  cases r1 with
  | tup h1 a1 l1 =>
    cases a1 with
    | cons r a1 =>
      cases a1 with
      | cons r' a1 =>
        cases a1 with
        | cons r2 a1 =>
          cases a1
          exact ⟨_, _, 1, _, rfl, rfl, (fh.trans hid_sub).sqt h1, rfl, Post.fr (.refl fh fe) q' r'⟩
theorem os_ixP32 {δ : Type} {g2 : δ → D} : OpS K fd (rIxT K) .fr .pk (eP3 g g1 g2) eI (fun _ y => y = 2) (fun x _ => (pure x.2.2 : m δ)) (.ow 0) g2 := fun F H v1 v2 x y Q p fh fe r1 r2 q => by
  have q' := rpure q
  cases r2
  subst p
  cases r1 with
  | tup h1 a1 l1 =>
    cases a1 with
    | cons r a1 =>
      cases a1 with
      | cons r' a1 =>
        cases a1 with
        | cons r2 a1 =>
          cases a1
          exact ⟨_, _, 2, _, rfl, rfl, (fh.trans hid_sub).sqt h1, rfl, Post.fr (.refl fh fe) q' r2⟩
end
/-! ### isinstance -/
def tyD : D → String
  | .none => "NoneType" | .bool _ => "bool" | .int _ => "int" | .str _ => "str" | .list _ => "list" | .tuple _ => "tuple" | .dict _ => "dict"
theorem Rp.ty {K : PySem.W.Frag} {H : Hp} {v : V} {d : D} (r : Rp K H v d) : TyX K H v (.type (tyD d)) := by
  cases r with
  | non => exact .base .non
  | bl b => exact .base (.bl b)
  | int i => exact .base (.int i)
  | str x => exact .base (.str x)
  | lst a _ _ => exact .base (.lst a)
  | tup a _ _ =>
    rcases a with (a | ⟨o, a⟩) | ⟨o, its, n, h1, h2, _⟩
    · exact .base (.tup a)
    · exact .fTuple a
    · exact .kTuple h1 h2
  | dic a _ =>
    rcases a with a | ⟨o, a⟩
    · exact .base (.dK a)
    · exact .fDict a
  | lck a _ _ => exact .fDict a
def isT (t n : String) : Bool := t == n || (t == "bool" && n == "int")
def isD (n : String) (d : D) : Bool := isT (tyD d) n
def KB (n : String) : Prop := ∀ d : D, kitB (tyD d) n = some (isD n d)
theorem kb_of {n : String} (h : (["NoneType", "bool", "int", "str", "list", "tuple", "dict"].all fun t => kitB t n == some (isT t n)) = true) : KB n := fun d => by
  rw [List.all_eq_true] at h
  have : tyD d ∈ ["NoneType", "bool", "int", "str", "list", "tuple", "dict"] := by cases d <;> simp [tyD]
  have := h _ this
  simpa [isD] using this
theorem kb_int : KB "int" := kb_of (by decide +kernel)
theorem kb_bool : KB "bool" := kb_of (by decide +kernel)
theorem kb_str : KB "str" := kb_of (by decide +kernel)
theorem kb_list : KB "list" := kb_of (by decide +kernel)
theorem kb_tuple : KB "tuple" := kb_of (by decide +kernel)
theorem kb_dict : KB "dict" := kb_of (by decide +kernel)
def dnone : D → Bool
  | .none => true
  | _ => false
section
variable {m : Type → Type} [Run m] {α β γ : Type} {X : Cx} {b : Bs} {sl : Sls} {e e1 e2 e3 : Expr} {es : List Expr} {md : Md} {c : m α} {g : α → D} {c1 : m β} {g1 : β → D} {h : γ → D} {pos p : Pos} {x : Str} {kl n : Nat} {K : PySem.W.Frag} {fd : Option Addr} {Z : Type} {out : Z → Oc} {a1 a2 : Am}
theorem dm_isi {nm : Str} {T : String} {p2 : Pos} (hb : bootBuiltins nm = some (.type T)) (hk : KB T) (hmi : X.mg "isinstance" = none) (hmn : X.mg nm = none) (he : DM X b sl e .pk c g) (hg : Gl X "isinstance" := by rfl) (hg2 : Gl X nm := by rfl) (hn : nm ≠ "__name__" := by decide) (hd : (nm == ("__debug__" : Str)) = false := by decide)
    (hs : starEach [e, .Name nm p2] X.env = (false, eval e X.env) :: starEach [.Name nm p2] X.env := by rfl) (hs2 : starEach [.Name nm p2] X.env = (false, eval (.Name nm p2) X.env) :: starEach [] X.env := by rfl) (hpl : (backTo pos (starEach [.Name nm p2] X.env)).any (·.1) = false := by rfl) :
    DM X b sl (.Call (.Name "isinstance" p) [e, .Name nm p2] [] pos) md (c >>= fun x => pure (isD T (g x))) eB :=
  PE.imp (pe_callB call_isi hg hmi bo_isinstance (pa_cons he (pa_cons (pe_bltn (v := .ty T) hg2 hmn hb rfl hn hd) pa_nil hs2) hs) (by decide) (by decide) hs hpl) fun σ H Q ⟨F, R, q⟩ => ⟨F, R, rmono (rbind q) fun x p v F1 H1 S1 r1 => by
    have p := rpure p
    have hk' : kitB (tyD (g x)) T = some (isD T (g x)) := hk (g x)
    exact ⟨v, _, _, _, _, rfl, .ty T, Rp.ty (r1.mono hid_sub), kit_ty hk', Post.sc S1.fh S1.fe (Post.back R.fe S1 p) rfl (.bl _)⟩⟩
theorem dm_isiT {nm : Str} {T : String} {p2 : Pos} {x : α} (hb : bootBuiltins nm = some (.type T)) (hk : KB T) (hmi : X.mg "isinstance" = none) (hmn : X.mg nm = none) (he : DM X b sl e .pk (pure x : m α) g) (hg : Gl X "isinstance" := by rfl) (hg2 : Gl X nm := by rfl) (hn : nm ≠ "__name__" := by decide) (hd : (nm == ("__debug__" : Str)) = false := by decide)
    (hs : starEach [e, .Name nm p2] X.env = (false, eval e X.env) :: starEach [.Name nm p2] X.env := by rfl) (hs2 : starEach [.Name nm p2] X.env = (false, eval (.Name nm p2) X.env) :: starEach [] X.env := by rfl) (hpl : (backTo pos (starEach [.Name nm p2] X.env)).any (·.1) = false := by rfl) :
    DM X b sl (.Call (.Name "isinstance" p) [e, .Name nm p2] [] pos) md (pure (isD T (g x)) : m Bool) eB := dm_b1 (k := fun x => pure (isD T (g x))) (dm_isi hb hk hmi hmn he hg hg2 hn hd hs hs2 hpl)
/-! ### of any data -/
def dlen : D → Option Int
  | .list xs => some xs.length
  | .tuple xs => some xs.length
  | _ => none
theorem os_lenD : OpS1 K fd (rLen K) .pk eD (fun x => (Run.lift (dlen x) : m Int)) md eI := fun F H v1 x Q fh fe r1 q => by
  obtain ⟨z, e, q⟩ := rlift q
  have r1 : Rp K (hid fd H) v1 x := r1
  cases r1 with
  | lst h1 a1 l1 =>
    cases e
    refine ⟨_, _, rfl, .inl (SqL.of (hid_sub _ _ h1)), ?_⟩
    rw [a1.length]
    exact Post.sc fh fe q rfl (.int _)
  | tup h1 a1 l1 =>
    cases e
    refine ⟨_, _, rfl, .inr (hid_sub.sqt h1), ?_⟩
    rw [a1.length]
    exact Post.sc fh fe q rfl (.int _)
  | _ => cases e
def dix (d : D) (i : Int) : Option D := match d with
  | .list xs => atI xs i
  | .tuple xs => atI xs i
  | _ => none
theorem os_ixD : OpS K fd (rIx K) .fr .pk eD eI (fun _ _ => True) (fun x y => (Run.lift (dix x y) : m D)) (.ow 0) eD := fun F H v1 v2 x y Q _ fh fe r1 r2 q => by
  obtain ⟨z, e, q'⟩ := rlift (o := dix x y) q
  cases r2
  have r1 : Rp K F v1 x := r1
  cases r1 with
  | lst h1 a1 l1 =>
    obtain ⟨v, ev, rv⟩ := a1.atI e
    have q' : Post K fd (.ow 0) F H (eD z) Q := q'
    exact .inl ⟨_, _, y, v, rfl, rfl, SqL.of (fh.trans hid_sub _ _ h1), ev, Post.fr (.refl fh fe) q' rv⟩
  | tup h1 a1 l1 =>
    obtain ⟨v, ev, rv⟩ := a1.atI e
    have q' : Post K fd (.ow 0) F H (eD z) Q := q'
    exact .inr (.inl ⟨_, _, y, v, rfl, rfl, (fh.trans hid_sub).sqt h1, ev, Post.fr (.refl fh fe) q' rv⟩)
  | _ => cases e
theorem dm_isND {x : D} (h : DM X b sl e .pk (pure x : m D) eD) {j pos'} : DM X b sl (.Compare e [.Is] [.Constant .none j pos'] pos) md (pure (dnone x) : m Bool) eB := PE.imp (pe_cmp (pc_isN h) rfl) fun σ H Q ⟨F, R, q⟩ => ⟨F, R, rpure' fun v F' H' S r => by
  have p := rpure q
  have e : decide (v = V.non) = dnone x := by
    have r : Rp X.K (hid b.fd H') v x := r
    cases r <;> rfl
  dsimp only
  rw [e]
  exact Post.sc S.fh S.fe (Post.back R.fe S p) rfl (.bl _)⟩
theorem dt_isND {x : D} (h : DM X b sl e .pk (pure x : m D) eD) {j pos'} : DT X b sl (.Compare e [.Is] [.Constant .none j pos'] pos) (pure (dnone x) : m Bool) := PT.imp (pt_cmp (pc_isN h) rfl) fun σ H Q ⟨F, R, q⟩ => ⟨F, R, rpure' fun v F' H' S r => by
  have p := rpure q
  have e : decide (v = V.non) = dnone x := by
    have r : Rp X.K (hid b.fd H') v x := r
    cases r <;> rfl
  exact ⟨_, rfl, by rw [e]; exact p F' H' S⟩⟩
theorem ds_none {sts : List Stmt} : DS X b sl sts (none : Option Z) out := ⟨fun pins s σ H D I ⟨F, R, q⟩ => by
  obtain ⟨a, e, _⟩ := q
  cases e⟩
end
end DL
namespace DL
open PySem PySem.Spec PyProof.Rows L2
section
variable {m : Type → Type} [Run m] {α β γ : Type} {X : Cx} {b : Bs} {sl : Sls} {e e1 e2 e3 : Expr} {es : List Expr} {md : Md} {c : m α} {g : α → D} {c1 : m β} {g1 : β → D} {h : γ → D} {pos p p2 pos2 : Pos} {x : Str} {kl n : Nat} {K : PySem.W.Frag} {fd : Option Addr} {Z : Type} {out : Z → Oc} {a1 a2 : Am} {tg : Expr}
/-! ### range(len(xs)) -/
def tLen (K : PySem.W.Frag) (b : Bs) (sl : Sls) (c : m Int) : TE := fun σ H Q => ∃ F, Rel K b sl F H σ ∧ Run.run c (fun n => ∀ F' H', Step K b.fd F H F' H' → 0 ≤ n → n ≤ 16777216 → Q (.int n) H')
theorem pe_lenD {c : m α} {k : α → m Int} {f : α → Option Int} (hl : ∀ K fd F H v x Q, Sub F (hid fd H) → FeedOk K fd F H → Rp K (hid fd H) v (g x) → Run.run (k x) (fun n => 0 ≤ n → n ≤ 16777216 → Q (.int n) H) → rLen K [v] H Q) (hm : X.mg "len" = none) (he : DM X b sl e .pk c g) (hg : Gl X "len" := by rfl)
    (hs : starEach [e] X.env = (false, eval e X.env) :: starEach [] X.env := by rfl) : PE X (.Call (.Name "len" p) [e] [] pos) (tLen X.K b sl (c >>= k)) := PE.imp (pe_callB call_len_seq hg hm bo_len (pa_cons he pa_nil hs) (by decide) (by decide) hs) fun σ H Q ⟨F, R, q⟩ => ⟨F, R, rmono (rbind q) fun x p v F1 H1 S1 r1 =>
      hl X.K b.fd F1 H1 v x Q S1.fh S1.fe r1 (rmono p fun n q h1 h2 => q F1 H1 S1 h1 h2)⟩
theorem hlL (K : PySem.W.Frag) (fd : Option Addr) (F H : Hp) (v : V) (x : List α) (Q : VK) (fh : Sub F (hid fd H)) (fe : FeedOk K fd F H) (r : Rp K (hid fd H) v (eL g x)) (q : Run.run (pure (x.length : Int) : m Int) (fun n => 0 ≤ n → n ≤ 16777216 → Q (.int n) H)) : rLen K [v] H Q := by
  have q := rpure q
  cases r with
  | lst h1 a1 l1 =>
    refine ⟨_, _, rfl, .inl (SqL.of (hid_sub _ _ h1)), ?_⟩
    have l1' : x.length ≤ 16777216 := by rw [sl16] at l1; simpa using l1
    rw [a1.length, List.length_map]
    exact q (by omega) (by omega)
theorem hlT (K : PySem.W.Frag) (fd : Option Addr) (F H : Hp) (v : V) (x : List α) (Q : VK) (fh : Sub F (hid fd H)) (fe : FeedOk K fd F H) (r : Rp K (hid fd H) v (eT g x)) (q : Run.run (pure (x.length : Int) : m Int) (fun n => 0 ≤ n → n ≤ 16777216 → Q (.int n) H)) : rLen K [v] H Q := by
  have q := rpure q
  cases r with
  | tup h1 a1 l1 =>
    refine ⟨_, _, rfl, .inr (hid_sub.sqt h1), ?_⟩
    have l1' : x.length ≤ 16777216 := by rw [sl16] at l1; simpa using l1
    rw [a1.length, List.length_map]
    exact q (by omega) (by omega)
theorem hlD (K : PySem.W.Frag) (fd : Option Addr) (F H : Hp) (v : V) (x : D) (Q : VK) (fh : Sub F (hid fd H)) (fe : FeedOk K fd F H) (r : Rp K (hid fd H) v (eD x)) (q : Run.run (Run.lift (dlen x) : m Int) (fun n => 0 ≤ n → n ≤ 16777216 → Q (.int n) H)) : rLen K [v] H Q := by
  obtain ⟨z, e, q⟩ := rlift q
  have r1 : Rp K (hid fd H) v x := r
  cases r1 with
  | lst h1 a1 l1 =>
    cases e
    refine ⟨_, _, rfl, .inl (SqL.of (hid_sub _ _ h1)), ?_⟩
    rw [a1.length]
    have l1' : _ ≤ 16777216 := l1
    exact q (by omega) (by omega)
  | tup h1 a1 l1 =>
    cases e
    refine ⟨_, _, rfl, .inr (hid_sub.sqt h1), ?_⟩
    rw [a1.length]
    have l1' : _ ≤ 16777216 := l1
    exact q (by omega) (by omega)
  | _ => cases e
theorem di_rngN {c : m Int} (hm : X.mg "range" = none) (h : PE X e (tLen X.K b sl c)) (hg : Gl X "range" := by rfl) (hs : starEach [e] X.env = [(false, eval e X.env)] := by rfl) (hs2 : starEach [e] X.env = (false, eval e X.env) :: starEach [] X.env := by rfl) :
    DI X b sl tg (.Call (.Name "range" p) [e] [] pos) true (c >>= fun n => pure (rng 0 n)) eI := PI.imp (pi_range1 hg hm (pa_cons h pa_nil hs2) hs) fun σ H R ⟨F, Re, q⟩ => ⟨F, Re, rmono (rbind q) fun n p F1 H1 S1 h1 h2 => by
  have p := rpure p
  exact ⟨n, rfl, by omega, by omega, p _ F1 H1 _ S1 (it_rng (by omega)) trivial (fun _ _ _ _ _ _ _ _ => trivial) (by rw [rng_length, sl16]; omega)⟩⟩
theorem di_rngLen {xs : List α} (hm : X.mg "range" = none) (hl : X.mg "len" = none) (h : DM X b sl e .pk (pure xs : m (List α)) (eL g)) (hg : Gl X "len" := by rfl) (hs0 : starEach [e] X.env = (false, eval e X.env) :: starEach [] X.env := by rfl) (hg2 : Gl X "range" := by rfl)
    (hs : starEach [.Call (.Name "len" p2) [e] [] pos2] X.env = [(false, eval (.Call (.Name "len" p2) [e] [] pos2) X.env)] := by rfl) (hs2 : starEach [.Call (.Name "len" p2) [e] [] pos2] X.env = (false, eval (.Call (.Name "len" p2) [e] [] pos2) X.env) :: starEach [] X.env := by rfl) :
    DI X b sl tg (.Call (.Name "range" p) [.Call (.Name "len" p2) [e] [] pos2] [] pos) true (pure (rng 0 xs.length) : m (List Int)) eI := by
  have := di_rngN (tg := tg) (pos := pos) (p := p) hm (pe_lenD (p := p2) (pos := pos2) (k := fun x => (pure (x.length : Int) : m Int)) (f := fun _ => none) (hlL (m := m)) hl h hg hs0) hg2 hs hs2
  rwa [Run.pure_b, Run.pure_b] at this
theorem di_rngLenT {xs : List α} (hm : X.mg "range" = none) (hl : X.mg "len" = none) (h : DM X b sl e .pk (pure xs : m (List α)) (eT g)) (hg : Gl X "len" := by rfl) (hs0 : starEach [e] X.env = (false, eval e X.env) :: starEach [] X.env := by rfl) (hg2 : Gl X "range" := by rfl)
    (hs : starEach [.Call (.Name "len" p2) [e] [] pos2] X.env = [(false, eval (.Call (.Name "len" p2) [e] [] pos2) X.env)] := by rfl) (hs2 : starEach [.Call (.Name "len" p2) [e] [] pos2] X.env = (false, eval (.Call (.Name "len" p2) [e] [] pos2) X.env) :: starEach [] X.env := by rfl) :
    DI X b sl tg (.Call (.Name "range" p) [.Call (.Name "len" p2) [e] [] pos2] [] pos) true (pure (rng 0 xs.length) : m (List Int)) eI := by
  have := di_rngN (tg := tg) (pos := pos) (p := p) hm (pe_lenD (p := p2) (pos := pos2) (k := fun x => (pure (x.length : Int) : m Int)) (f := fun _ => none) (hlT (m := m)) hl h hg hs0) hg2 hs hs2
  rwa [Run.pure_b, Run.pure_b] at this
theorem di_rngLen' {c : m (List α)} (hm : X.mg "range" = none) (hl : X.mg "len" = none) (h : DM X b sl e .pk c (eL g)) (hg : Gl X "len" := by rfl) (hs0 : starEach [e] X.env = (false, eval e X.env) :: starEach [] X.env := by rfl) (hg2 : Gl X "range" := by rfl)
    (hs : starEach [.Call (.Name "len" p2) [e] [] pos2] X.env = [(false, eval (.Call (.Name "len" p2) [e] [] pos2) X.env)] := by rfl) (hs2 : starEach [.Call (.Name "len" p2) [e] [] pos2] X.env = (false, eval (.Call (.Name "len" p2) [e] [] pos2) X.env) :: starEach [] X.env := by rfl) :
    DI X b sl tg (.Call (.Name "range" p) [.Call (.Name "len" p2) [e] [] pos2] [] pos) true ((c >>= fun x => (pure (x.length : Int) : m Int)) >>= fun n => pure (rng 0 n)) eI :=
  di_rngN (tg := tg) (pos := pos) (p := p) hm (pe_lenD (p := p2) (pos := pos2) (k := fun x => (pure (x.length : Int) : m Int)) (f := fun _ => none) (hlL (m := m)) hl h hg hs0) hg2 hs hs2
theorem di_rngLenD {d : D} (hm : X.mg "range" = none) (hl : X.mg "len" = none) (h : DM X b sl e .pk (pure d : m D) eD) (hg : Gl X "len" := by rfl) (hs0 : starEach [e] X.env = (false, eval e X.env) :: starEach [] X.env := by rfl) (hg2 : Gl X "range" := by rfl)
    (hs : starEach [.Call (.Name "len" p2) [e] [] pos2] X.env = [(false, eval (.Call (.Name "len" p2) [e] [] pos2) X.env)] := by rfl) (hs2 : starEach [.Call (.Name "len" p2) [e] [] pos2] X.env = (false, eval (.Call (.Name "len" p2) [e] [] pos2) X.env) :: starEach [] X.env := by rfl) :
    DI X b sl tg (.Call (.Name "range" p) [.Call (.Name "len" p2) [e] [] pos2] [] pos) true ((Run.lift (dlen d) : m Int) >>= fun n => pure (rng 0 n)) eI := by
  have := di_rngN (tg := tg) (pos := pos) (p := p) hm (pe_lenD (p := p2) (pos := pos2) (k := fun x => (Run.lift (dlen x) : m Int)) (f := fun _ => none) (hlD (m := m)) hl h hg hs0) hg2 hs hs2
  rwa [Run.pure_b] at this
theorem dm_eqD {d e' : D} {md : Md} (hu : X.A.units + 64 < cLine) (ha : DA X b sl e1 .pk (pure d : m D) eD) (hb : DA X b sl e2 .pk (pure e' : m D) eD) : DM X b sl (.Compare e1 [.Eq] [e2] pos) md (Run.lift (deq d e') : m Bool) eB :=
  dm_b2 (k := fun x y => Run.lift (deq (eD x) (eD y))) (dm_cmp (op_eqP hu) ha hb os_eqD (nomark _))
end
/-! ### sameness, as the laws tell it -/
def sameK : Nat → D × D → Option Bool
  | 0, _ => none
  | n + 1, a =>
    (pure (isD "list" a.2 || isD "tuple" a.2) : Option Bool) >>= fun t => if t then
      (pure ((isD "list" a.1 != isD "list" a.2) || (isD "tuple" a.1 != isD "tuple" a.2)) : Option Bool) >>= fun t => if t then pure false else
        ((Run.lift (dlen a.1) : Option Int) >>= fun x => (Run.lift (dlen a.2) : Option Int) >>= fun y => pure (x == y)) >>= fun t => if t then
          ((Run.lift (dlen a.2) : Option Int) >>= fun k => pure (rng 0 k)) >>= lcM (fun _ => pure true) (fun k => (Run.lift (dix a.1 k) : Option D) >>= fun u => (Run.lift (dix a.2 k) : Option D) >>= fun v => Run.lift (sameK n (u, v))) >>= fun bs => pure (bs.all id)
        else pure false
    else (pure (dnone a.2 || isD "bool" a.2) : Option Bool) >>= fun t => if t then
      (if dnone a.2 then pure (dnone a.1) else (pure (isD "bool" a.1) : Option Bool) >>= fun t => if t then Run.lift (deq a.1 a.2) else pure false)
    else (pure (isD "str" a.2) : Option Bool) >>= fun t => if t then
      (pure (isD "str" a.1) : Option Bool) >>= fun t => if t then Run.lift (deq a.1 a.2) else pure false
    else (pure (isD "int" a.1) : Option Bool) >>= fun t => if t then (pure (!isD "bool" a.1) : Option Bool) >>= fun t => if t then Run.lift (deq a.1 a.2) else pure false else pure false
theorem lcM_some {α β : Type} {elt : α → Option β} {f : α → β} : ∀ {xs : List α}, (∀ x ∈ xs, elt x = some (f x)) → lcM (fun _ => (pure true : Option Bool)) elt xs = some (xs.map f)
  | [], _ => rfl
  | x :: xs, h => by
    show (elt x >>= fun y => lcM (fun _ => (pure true : Option Bool)) elt xs >>= fun ys => pure (y :: ys)) = _
    rw [h x (by simp), lcM_some (fun y hy => h y (by simp [hy]))]
    rfl
theorem atI_nat {α : Type} {xs : List α} {k : Nat} (h : k < xs.length) : atI xs (k : Int) = some xs[k] := by
  unfold L2.atI ixN
  rw [if_pos (by omega), if_pos (by omega)]
  show xs[(k : Int).toNat]? = _
  simp [List.getElem?_eq_getElem h]
theorem dsames_all : ∀ {xs ys : List D} (h : xs.length = ys.length), ((List.range ys.length).map fun k => dsame (xs[k]?.getD .none) (ys[k]?.getD .none)).all id = dsames xs ys
  | [], [], _ => rfl
  | [], _ :: _, h => by simp at h
  | _ :: _, [], h => by simp at h
  | x :: xs, y :: ys, h => by
    have ih := dsames_all (xs := xs) (ys := ys) (by simpa using h)
    rw [List.length_cons, List.range_succ_eq_map]
    simp only [List.map_cons, List.all_cons, List.map_map]
    rw [dsames, ← ih]
    rfl
theorem dsames_len : ∀ {xs ys : List D}, xs.length ≠ ys.length → dsames xs ys = false
  | [], [], h => absurd rfl h
  | [], _ :: _, _ => rfl
  | _ :: _, [], _ => rfl
  | x :: xs, y :: ys, h => by
    rw [dsames, dsames_len (by simpa using h), Bool.and_false]
theorem mem_plain : ∀ {ds : List D} {d : D}, d ∈ ds → PyData.plainAll ds = true → d.plain = true
  | c :: cs, _, h, p => by
    have p' : c.plain = true ∧ PyData.plainAll cs = true := by simpa [PyData.plainAll] using p
    rcases List.mem_cons.mp h with rfl | h
    · exact p'.1
    · exact mem_plain h p'.2
theorem mem_depth : ∀ {ds : List D} {d : D}, d ∈ ds → d.depth ≤ PyData.depthAll ds
  | _ :: _, _, h => by
    simp only [PyData.depthAll]
    rcases List.mem_cons.mp h with rfl | h
    · omega
    · have := mem_depth h; omega
theorem same_rows {n : Nat} {T : List D → D} {xs ys : List D} (hl : xs.length = ys.length) (dx : ∀ zs k, dix (T zs) k = atI zs k) (ih : ∀ a ∈ xs, ∀ d ∈ ys, sameK n (a, d) = some (dsame a d)) :
    lcM (fun _ => (pure true : Option Bool)) (fun k => (Run.lift (dix (T xs) k) : Option D) >>= fun u => (Run.lift (dix (T ys) k) : Option D) >>= fun v => Run.lift (sameK n (u, v))) (rng 0 (ys.length : Int)) = some ((List.range ys.length).map fun k => dsame (xs[k]?.getD .none) (ys[k]?.getD .none)) := by
  rw [lcM_some (f := fun k : Int => dsame (xs[k.toNat]?.getD .none) (ys[k.toNat]?.getD .none))]
  · unfold rng
    rw [List.map_map]
    have : ((ys.length : Int) - 0).toNat = ys.length := by omega
    rw [this]
    congr 1
    apply List.map_congr_left
    intro k hk
    show dsame (xs[((0 : Int) + (k : Int)).toNat]?.getD .none) _ = _
    have : ((0 : Int) + (k : Int)).toNat = k := by omega
    rw [this]
  · intro k hk
    unfold rng at hk
    obtain ⟨j, hj, rfl⟩ := List.mem_map.mp hk
    have hj : j < ys.length := by have := List.mem_range.mp hj; omega
    rw [dx, dx]
    have e : (0 : Int) + (j : Int) = ((j : Nat) : Int) := by omega
    rw [e, atI_nat (by omega : j < xs.length), atI_nat hj]
    show sameK n (xs[j], ys[j]) = _
    rw [ih _ (List.getElem_mem _) _ (List.getElem_mem _)]
    simp [List.getElem?_eq_getElem hj, List.getElem?_eq_getElem (by omega : j < xs.length)]
theorem sameK_ok : ∀ (n : Nat) (a d : D), a.plain = true → d.plain = true → d.depth < n → a.depth ≤ 62 → n ≤ 62 → sameK n (a, d) = some (dsame a d)
  | 0, a, d, _, _, h, _, _ => by omega
  | n + 1, a, d, pa, pd, h, ha, hn => by
    have de : ∀ (i j : D), i.plain = true → j.plain = true → i.depth ≤ 62 → deq i j = some (PyData.eqv i j) := fun i j h1 h2 h3 => by unfold deq; rw [if_pos ⟨h1, h2, h3⟩]
    cases d with
    | none => cases a <;> rfl
    | bool x =>
      cases a with
      | bool y =>
        show deq (.bool y) (.bool x) = _
        rw [de _ _ rfl rfl (by simp [PyData.depth])]
        simp [PyData.eqv, dsame]
      | _ => rfl
    | int x =>
      cases a with
      | int y =>
        show deq (.int y) (.int x) = _
        rw [de _ _ rfl rfl (by simp [PyData.depth])]
        simp [PyData.eqv, dsame]
      | _ => rfl
    | str x =>
      cases a with
      | str y =>
        show deq (.str y) (.str x) = _
        rw [de _ _ rfl rfl (by simp [PyData.depth])]
        simp [PyData.eqv, dsame]
      | _ => rfl
    | dict _ => cases pd
    | list ys =>
      cases a with
      | list xs =>
        by_cases hl : xs.length = ys.length
        · have hl' : ((xs.length : Int) == (ys.length : Int)) = true := by simp [hl]
          show (if ((xs.length : Int) == (ys.length : Int)) = true then lcM _ _ (rng 0 (ys.length : Int)) >>= fun bs => pure (bs.all id) else _) = _
          rw [if_pos hl']
          simp only [PyData.depth] at h ha
          rw [same_rows (T := .list) hl (fun _ _ => rfl) fun u hu v hv => sameK_ok n u v (mem_plain hu pa) (mem_plain hv pd) (by have := mem_depth hv; omega) (by have := mem_depth hu; omega) (by omega)]
          show some _ = _
          rw [dsames_all hl]
          rfl
        · have hl' : ¬((xs.length : Int) == (ys.length : Int)) = true := by simp; omega
          show (if ((xs.length : Int) == (ys.length : Int)) = true then _ else _) = _
          rw [if_neg hl']
          show some false = some (dsames xs ys)
          rw [dsames_len hl]
      | _ => rfl
    | tuple ys =>
      cases a with
      | tuple xs =>
        by_cases hl : xs.length = ys.length
        · have hl' : ((xs.length : Int) == (ys.length : Int)) = true := by simp [hl]
          show (if ((xs.length : Int) == (ys.length : Int)) = true then lcM _ _ (rng 0 (ys.length : Int)) >>= fun bs => pure (bs.all id) else _) = _
          rw [if_pos hl']
          simp only [PyData.depth] at h ha
          rw [same_rows (T := .tuple) hl (fun _ _ => rfl) fun u hu v hv => sameK_ok n u v (mem_plain hu pa) (mem_plain hv pd) (by have := mem_depth hv; omega) (by have := mem_depth hu; omega) (by omega)]
          show some _ = _
          rw [dsames_all hl]
          rfl
        · have hl' : ¬((xs.length : Int) == (ys.length : Int)) = true := by simp; omega
          show (if ((xs.length : Int) == (ys.length : Int)) = true then _ else _) = _
          rw [if_neg hl']
          show some false = some (dsames xs ys)
          rw [dsames_len hl]
      | _ => rfl
theorem same_ok {α : Type} [BEq α] {g : α → D} {k : Nat} [h : Sam g k] (x y : α) (hk : k ≤ 5 := by decide) : sameK 6 (g x, g y) = some (x == y) := by
  rw [sameK_ok 6 _ _ (h.plain x) (h.plain y) (by have := h.depth y; omega) (by have := h.depth x; omega) (by omega), h.same]
end DL
namespace DL
open PySem PySem.Spec PyProof.Rows L2
section
variable {α β γ S R : Type} {Q : α → Prop} {Q' : β → Prop}
theorem wp_bind (x : W α) (f : α → W β) (Q : β → Prop) : (x >>= f).wp Q = x.wp (fun a => (f a).wp Q) := rfl
theorem wp_pure (a : α) (Q : α → Prop) : (pure a : W α).wp Q = Q a := rfl
theorem wp_some (a : α) (Q : α → Prop) : (Run.lift (some a) : W α).wp Q = Q a := propext ⟨fun ⟨b, e, q⟩ => by cases e; exact q, fun q => ⟨a, rfl, q⟩⟩
theorem wp_lift {o : Option α} {a : α} (e : o = some a) (q : Q a) : (Run.lift o : W α).wp Q := ⟨a, e, q⟩
theorem wp_draw {m : Int} {Q : Int → Prop} (h0 : 0 < m) (h1 : m < 1073741824) (q : ∀ v, 0 ≤ v → v < m → Q v) : (drawW m).wp Q := ⟨⟨h0, h1⟩, q⟩
theorem wp_mono {x : W α} {Q' : α → Prop} (h : x.wp Q) (k : ∀ a, Q a → Q' a) : x.wp Q' := x.mono _ _ k h
theorem wl {o : Option α} {a : α} {f : α → W β} {Q : β → Prop} (e : o = some a) (h : (f a).wp Q) : ((Run.lift o : W α) >>= f).wp Q := ⟨a, e, h⟩
theorem wpu {a : α} {f : α → W β} {Q : β → Prop} (h : (f a).wp Q) : ((pure a : W α) >>= f).wp Q := h
theorem was {x : W α} {f : α → W β} {g : β → W γ} {Q : γ → Prop} (h : (x >>= fun a => f a >>= g).wp Q) : ((x >>= f) >>= g).wp Q := h
theorem wd {m : Int} {f : Int → W β} {Q : β → Prop} (h0 : 0 < m) (h1 : m < 1073741824) (q : ∀ v, 0 ≤ v → v < m → (f v).wp Q) : (drawW m >>= f).wp Q := ⟨⟨h0, h1⟩, q⟩
theorem wt {x y : W α} (h : x.wp Q) : (if (true : Bool) = true then x else y).wp Q := by rw [if_pos rfl]; exact h
theorem wf {x y : W α} (h : y.wp Q) : (if (false : Bool) = true then x else y).wp Q := by rw [if_neg Bool.false_ne_true]; exact h
/-- a loop with no state that never leaves -/
theorem forC_u {f : Unit → α → W (Ct Unit R)} : ∀ {xs : List α}, (∀ x ∈ xs, (f () x).wp (fun z => z = .nx ())) → (forC f () xs).wp (fun z => z = .nx ())
  | [], _ => rfl
  | x :: xs, h => W.mono (f () x) _ _ (fun z e => by subst e; exact forC_u fun y hy => h y (by simp [hy])) (h x (by simp))
/-- .. with one that keeps a promise -/
theorem forC_p {f : S → α → W (Ct S R)} {P : S → Prop} : ∀ {xs : List α} {s : S}, P s → (∀ x ∈ xs, ∀ s, P s → (f s x).wp (fun z => ∃ s', z = .nx s' ∧ P s')) → (forC f s xs).wp (fun z => ∃ s', z = .nx s' ∧ P s')
  | [], s, h0, _ => ⟨s, rfl, h0⟩
  | x :: xs, s, h0, h => W.mono (f s x) _ _ (fun z ⟨s', e, p⟩ => by subst e; exact forC_p p fun y hy => h y (by simp [hy])) (h x (by simp) s h0)
theorem forS_p {f : S → α → W S} {P : S → Prop} : ∀ {xs : List α} {s : S}, P s → (∀ x ∈ xs, ∀ s, P s → (f s x).wp P) → (forS f s xs).wp P
  | [], s, h0, _ => h0
  | x :: xs, s, h0, h => W.mono (f s x) _ _ (fun s' p => forS_p p fun y hy => h y (by simp [hy])) (h x (by simp) s h0)
/-- .. that walks over written things: a plain one -/
theorem forC_o {f : S → α → W (Ct S R)} {g : S → α → Option (Ct S R)} (h : ∀ s x z, g s x = some z → (f s x).wp (fun y => y = z)) : ∀ {xs : List α} {s : S} {z : Ct S R}, forC g s xs = some z → (forC f s xs).wp (fun y => y = z)
  | [], s, z, e => by
    have e : some (Ct.nx s) = some z := e
    cases e
    rfl
  | x :: xs, s, z, e => by
    have e : (g s x >>= fun w => match w with
      | .nx s' => forC g s' xs
      | .rt r => pure (.rt r)
      | .bk s' => pure (.nx s')) = some z := e
    cases hg : g s x with
    | none => rw [hg] at e; cases e
    | some w =>
      rw [hg] at e
      refine W.mono (f s x) _ _ (fun y ey => ?_) (h s x w hg)
      subst ey
      cases y with
      | nx s' => exact forC_o h e
      | rt r =>
        have e : some (Ct.rt r) = some z := e
        cases e
        rfl
      | bk s' =>
        have e : some (Ct.nx s') = some z := e
        cases e
        rfl
theorem goN {Z : Type} {s : S} {k : S → W Z} {f : R → W Z} {Q : Z → Prop} (h : (k s).wp Q) : ((Ct.nx s : Ct S R).go k f).wp Q := h
theorem wgo {Z : Type} {c : W (Ct S R)} {s : S} {k : S → W Z} {f : R → W Z} {Q : Z → Prop} (hc : c.wp (fun z => z = .nx s)) (h : (k s).wp Q) : (c >>= fun z => z.go k f).wp Q := W.mono c _ _ (fun z e => by subst e; exact h) hc
theorem wgoP {Z : Type} {c : W (Ct S R)} {P : S → Prop} {k : S → W Z} {f : R → W Z} {Q : Z → Prop} (hc : c.wp (fun z => ∃ s, z = .nx s ∧ P s)) (h : ∀ s, P s → (k s).wp Q) : (c >>= fun z => z.go k f).wp Q := W.mono c _ _ (fun z ⟨s, e, p⟩ => by subst e; exact h s p) hc
theorem wlc {t : α → W Bool} {e : α → W β} {t' : α → Option Bool} {e' : α → Option β} (ht : ∀ x b, t' x = some b → (t x).wp (fun y => y = b)) (he : ∀ x b, e' x = some b → (e x).wp (fun y => y = b)) : ∀ {xs : List α} {ys : List β}, lcM t' e' xs = some ys → (lcM t e xs).wp (fun z => z = ys)
  | [], ys, h => by
    have h : some [] = some ys := h
    cases h
    rfl
  | x :: xs, ys, h => by
    have h : (t' x >>= fun b => if b then e' x >>= fun y => lcM t' e' xs >>= fun zs => pure (y :: zs) else lcM t' e' xs) = some ys := h
    show ((t x) >>= fun b => if b then e x >>= fun y => lcM t e xs >>= fun zs => pure (y :: zs) else lcM t e xs).wp _
    cases hb : t' x with
    | none => rw [hb] at h; cases h
    | some b =>
      rw [hb] at h
      refine W.mono (t x) _ _ (fun c ec => ?_) (ht x b hb)
      subst ec
      cases c with
      | false => exact wlc ht he h
      | true =>
        have h : (e' x >>= fun y => lcM t' e' xs >>= fun zs => pure (y :: zs)) = some ys := h
        cases hy : e' x with
        | none => rw [hy] at h; cases h
        | some y =>
          rw [hy] at h
          have h : (lcM t' e' xs >>= fun zs => pure (y :: zs)) = some ys := h
          cases hz : lcM t' e' xs with
          | none => rw [hz] at h; cases h
          | some zs =>
            rw [hz] at h
            have h : some (y :: zs) = some ys := h
            cases h
            show ((e x) >>= fun y => lcM t e xs >>= fun zs => pure (y :: zs)).wp _
            refine W.mono (e x) _ _ (fun y' ey => ?_) (he x y hy)
            subst ey
            exact W.mono (lcM t e xs) _ _ (fun z' ez => by subst ez; rfl) (wlc ht he hz)
end
theorem atI_in {α : Type} {xs : List α} {v : Int} (h0 : 0 ≤ v) (h1 : v < (xs.length : Int)) : ∃ x, atI xs v = some x ∧ x ∈ xs := by
  obtain ⟨n, rfl⟩ : ∃ n : Nat, v = n := ⟨v.toNat, by omega⟩
  exact ⟨xs[n]'(by omega), atI_nat (by omega), List.getElem_mem _⟩
theorem rng_mem {lo hi v : Int} : v ∈ rng lo hi ↔ lo ≤ v ∧ v < hi := by
  unfold rng
  rw [List.mem_map]
  constructor
  · rintro ⟨k, hk, rfl⟩
    have := List.mem_range.mp hk
    omega
  · intro ⟨h1, h2⟩
    exact ⟨(v - lo).toNat, List.mem_range.mpr (by omega), by omega⟩
theorem in_rng {m v : Int} (h0 : 0 ≤ v) (h1 : v < m) : v ∈ rng 0 m := rng_mem.mpr ⟨h0, h1⟩
end DL
namespace DL
open PySem PySem.Spec PyProof.Rows L2
def lset {α : Type} (xs : List α) (i : Int) (v : α) : Option (List α) := (ixN xs.length i).map fun j => xs.set j v
def lpop {α : Type} (xs : List α) (i : Int) : Option (α × List α) := if 0 ≤ i ∧ i < 1073741824 then (xs[i.toNat]?).map fun a => (a, xs.eraseIdx i.toNat) else none
theorem map_eraseIdx {α β : Type} (f : α → β) : ∀ (xs : List α) (i : Nat), (xs.eraseIdx i).map f = (xs.map f).eraseIdx i
  | [], _ => rfl
  | _ :: _, 0 => rfl
  | x :: xs, i + 1 => by simp [map_eraseIdx f xs i]
section
variable {m : Type → Type} [Run m] {α β γ : Type} {X : Cx} {b : Bs} {sl : Sls} {e e1 e2 : Expr} {md : Md} {g : α → D} {h : β → D} {K : PySem.W.Frag} {n : Nat} {pos apos cpos spos tpos apos2 cpos2 pos2 px : Pos} {x y : Str} {Z : Type} {out : Z → Oc}
/-- x[i] = e -/
theorem ds_setL (i : Nat) (xs : List α) {c : m α} {ck : m Int} {kt : Pos} (he : DA X b sl e .fr c g) (hk : DA X b sl e1 .pk ck eI) (hx : sl[i]? = some (some (.o 1 (eL g xs))) := by rfl) (hN : X.N[i]? = some x := by rfl) (hv : Vis X.env.scope x := by first | exact Or.inl rfl | exact Or.inr (Or.inl rfl) | exact Or.inr (Or.inr rfl)) (hd : (x == ("__debug__" : Str)) = false := by decide)
    (hcd : (x == ("__classdict__" : Str)) = false := by decide) (hs : swapsWithSole [.Subscript (.Name x px) e1 kt] e pos.line X.env = pure false := by rfl) (hw : swappedStores [.Subscript (.Name x px) e1 kt] e X.env = pure none := by rfl) (h1 : (assignEach [.Subscript (.Name x px) e1 kt] X.env).map (·.2) = [assign (.Subscript (.Name x px) e1 kt) X.env] := by rfl)
    (pg : ∀ {to ti : TE}, PE X (.Name x px) to → PE X e1 ti → PG X (.Subscript (.Name x px) e1 kt) (gSub to ti rSetL)) :
    DS1 X b sl (.Assign [.Subscript (.Name x px) e1 kt] e pos) (c >>= fun v => ck >>= fun k => Run.lift (lset xs k v)) (fun ys => .nx (sl.set i (some (.o 1 (eL g ys))))) :=
  PS.imp (ps_asg he (pg (pe_var hN hv hd hcd) hk) hs hw h1) fun E σ H ⟨F, R, q⟩ => ⟨F, R, rmono (rbind q) fun a q v F1 H1 S1 r1 => by
    have R1 := R.step S1
    obtain ⟨p, vs, e1', hp, hfd, ra, hl, fin⟩ := R1.put hx
    refine ⟨.ref p, e1', F1, R1, rmono (rbind q) fun k q v2 F2 H2 S2 r2 => ?_⟩
    have R2 := R1.step S2
    obtain ⟨z, ez, q⟩ := rlift q
    obtain ⟨j, ej, rfl⟩ := Option.map_eq_some_iff.mp ez
    obtain ⟨p', vs', e2', hp', hfd', ra', hl', fin'⟩ := R2.put hx
    rw [e1'] at e2'
    cases e2'
    cases r2
    have r1 : Rp X.K F2 v (g a) := Rp.mono S2.ff r1
    refine ⟨p, vs', k, j, rfl, rfl, hp', by rw [ra'.length, List.length_map]; exact ej, q σ F2 _ (S1.ff.trans S2.ff) ?_⟩
    have := fin' (vs'.set j v) ((xs.set j a).map g) (by rw [List.map_set]; exact ra'.set r1 j) (by rw [List.length_map, List.length_set]; simpa using hl')
    exact this⟩
/-- x[i] op= e, ints -/
theorem ds_augL (i : Nat) (xs : List Int) {c ck : m Int} {kt : Pos} {f : Int → Int → Int} {op : Operator} (ho : PIp X op (ipI f)) (hk : DA X b sl e1 .pk ck eI) (he : DA X b sl e .pk c eI) (hx : sl[i]? = some (some (.o 1 (eL eI xs))) := by rfl) (hN : X.N[i]? = some x := by rfl) (hv : Vis X.env.scope x := by first | exact Or.inl rfl | exact Or.inr (Or.inl rfl) | exact Or.inr (Or.inr rfl)) (hd : (x == ("__debug__" : Str)) = false := by decide)
    (hcd : (x == ("__classdict__" : Str)) = false := by decide) (ha : ∀ ov iv new, augStore e1 ov iv new = (do holding [new, ov, iv] (setItem ov iv new); release [new, ov, iv] []; pure .next) := by intros; rfl) :
    DS1 X b sl (.AugAssign (.Subscript (.Name x px) e1 kt) op e pos) (ck >>= fun k => (Run.lift (atI xs k) : m Int) >>= fun a => c >>= fun y => Run.lift (lset xs k (f a y))) (fun ys => .nx (sl.set i (some (.o 1 (eL eI ys))))) :=
  PS.imp (ps_augS (pe_var hN hv hd hcd) hk pget_list he ho set_list ha) fun E σ H ⟨F, R, q⟩ => by
    obtain ⟨p, vs, e1', hp, hfd, ra, hl, fin⟩ := R.put hx
    refine ⟨.ref p, e1', F, R, rmono (rbind q) fun k q v F1 H1 S1 r1 => ?_⟩
    have R1 := R.step S1
    obtain ⟨a, ea, q⟩ := rlift (rbind q)
    obtain ⟨p1, vs1, e2', hp1, hfd1, ra1, hl1, fin1⟩ := R1.put hx
    rw [e1'] at e2'
    cases e2'
    cases r1
    have ev := RpAll.ints (ns := xs) ra1
    refine ⟨p, vs1, k, .int a, rfl, rfl, SqL.of hp1, by rw [ev, atI_map, ea]; rfl, F1, R1, rmono (rbind q) fun y q v2 F2 H2 S2 r2 => ?_⟩
    have R2 := R1.step S2
    obtain ⟨z, ez, q⟩ := rlift q
    obtain ⟨j, ej, rfl⟩ := Option.map_eq_some_iff.mp ez
    obtain ⟨p2, vs2, e3', hp2, hfd2, ra2, hl2, fin2⟩ := R2.put hx
    rw [e1'] at e3'
    cases e3'
    cases r2
    refine ⟨a, y, rfl, rfl, p, vs2, k, j, rfl, rfl, hp2, by rw [ra2.length, List.length_map]; exact ej, q σ F2 _ (S1.ff.trans S2.ff) ?_⟩
    have := fin2 (vs2.set j (.int (f a y))) ((xs.set j (f a y)).map eI) (by rw [List.map_set]; exact ra2.set (.int _) j) (by rw [List.length_map, List.length_set]; simpa using hl2)
    exact this
/-- a list of ours without one thing -/
theorem Rel.pop {b : Bs} {sl : Sls} {F H : Hp} {σ : L2.St} (R : Rel K b sl F H σ) {i : Nat} {xs : List α} {a : α} {j : Nat} (e : sl[i]? = some (some (.o 1 (eL g xs)))) (ha : xs[j]? = some a) :
    ∃ p vs v, σ[i]? = some (some (.ref p)) ∧ H p = some (.lst vs) ∧ vs.length = xs.length ∧ vs[j]? = some v ∧ Rp K F v (g a) ∧ Rel K b (sl.set i (some (.o 1 (eL g (xs.eraseIdx j))))) F (upd H p (.lst (vs.eraseIdx j))) σ := by
  obtain ⟨p, vs, e1, hp, hfd, ra, hl, fin⟩ := R.put e
  obtain ⟨v, ev, rv⟩ := ra.get (i := j) (d := g a) (by rw [List.getElem?_map, ha]; rfl)
  refine ⟨p, vs, v, e1, hp, by rw [ra.length, List.length_map], ev, rv, ?_⟩
  have := fin (vs.eraseIdx j) ((xs.eraseIdx j).map g) (by rw [map_eraseIdx]; exact ra.eraseIdx j) (by rw [List.length_map]; rw [List.length_map] at hl; exact Nat.le_trans (List.length_eraseIdx_le _ _) hl)
  exact this
theorem lpop_ok {xs : List α} {k : Int} {z : α × List α} (h : lpop xs k = some z) : ∃ j : Nat, k = (j : Int) ∧ k < 1073741824 ∧ xs[j]? = some z.1 ∧ z.2 = xs.eraseIdx j := by
  unfold lpop at h
  split at h
  · rename_i hk
    obtain ⟨a, ea, rfl⟩ := Option.map_eq_some_iff.mp h
    exact ⟨k.toNat, by omega, hk.2, ea, rfl⟩
  · cases h
theorem popAt {xs : List V} {j : Nat} {v : V} (h : xs[j]? = some v) : seqIndex? ((j : Nat) : Int) xs.length = some j := by
  have hj := (List.getElem?_eq_some_iff.mp h).1
  unfold seqIndex?
  simp
  omega
/-- x = ys.pop(e) -/
theorem ds_setPop (i j : Nat) (ys : List α) {c : m Int} (he : DA X b sl e .pk c eI) (hy : sl[j]? = some (some (.o 1 (eL g ys)))) (hN : X.N.Nodup) (hi : X.N[i]? = some x := by rfl) (hx : Loc X.env.scope x := by first | exact Or.inl rfl | exact Or.inr rfl) (hj : X.N[j]? = some y := by rfl) (hv : Vis X.env.scope y := by first | exact Or.inl rfl | exact Or.inr (Or.inl rfl) | exact Or.inr (Or.inr rfl)) (hd : (y == ("__debug__" : Str)) = false := by decide)
    (hcd : (y == ("__classdict__" : Str)) = false := by decide) (hs : swapsWith (.Call (.Attribute (.Name y px) "pop" apos) [e] [] cpos) (some (.Name x pos2)) pos.line X.env = pure false := by rfl) (hf : X.fn x = true ∨ X.env.scope.names.lookup x = some .local := by first | exact .inl rfl | exact .inr rfl)
    (hbase : attributeBase (.Name y px) "pop" X.env (eval (.Name y px) X.env) = eval (.Name y px) X.env := by rfl)
    (hfew : ((backTo cpos (starEach [e] X.env)).all (fun x => !x.1) && (backToKw cpos (keywordEach [] X.env)).all (fun x => x.1.isSome) && decide ([e].length + ([] : List Keyword).length + (if ([] : List Keyword).isEmpty then 0 else 1) < 30)) = true := by rfl)
    (hline : (apos.endLine == cpos.line) = true := by rfl) (hst : starEach [e] X.env = (false, eval e X.env) :: starEach [] X.env := by rfl) (hplain : (backTo cpos (starEach [] X.env)).any (·.1) = false := by rfl) :
    DS1 X b sl (.Assign [.Name x pos2] (.Call (.Attribute (.Name y px) "pop" apos) [e] [] cpos) pos) (c >>= fun k => Run.lift (lpop ys k)) (fun z => .nx ((sl.set j (some (.o 1 (eL g z.2)))).set i (some (.v (g z.1))))) :=
  PS.imp (ps_set hN hi hx (pe_bm PySem.F.plainAttrs_list PySem.F.slot_list_pop PySem.F.type_list_pop mt_popAt (pe_var hj hv hd hcd) (pa_cons he pa_nil hst) hbase hfew hline hst hplain) hs hf) fun E σ H ⟨F, R, q⟩ => by
    obtain ⟨p, vs, e1', hp, _⟩ := R.put hy
    refine ⟨.ref p, e1', .inl ⟨rfl, vs, SqL.of hp⟩, F, R, rmono (rbind q) fun k q v F1 H1 S1 r1 => ?_⟩
    have R1 := R.step S1
    obtain ⟨z, ez, q3⟩ := rlift q
    obtain ⟨jj, rfl, hk, ea, ez2⟩ := lpop_ok ez
    obtain ⟨p', vs', w, e2', hp', hlen, ew, rw_, R2⟩ := R1.pop hy ea
    rw [e1'] at e2'
    cases e2'
    cases r1
    refine ⟨p, vs', jj, jj, w, rfl, rfl, hp', by omega, by omega, popAt ew, ew, ?_⟩
    rw [← ez2] at R2
    exact q3 _ F1 _ S1.ff (R2.setV rw_)
/-- xs.append(ys.pop(e)) -/
theorem ds_appPop (i j : Nat) (xs ys : List α) {c : m Int} (hij : i ≠ j) (he : DA X b sl e .pk c eI) (hx : sl[i]? = some (some (.o 1 (eL g xs)))) (hy : sl[j]? = some (some (.o 1 (eL g ys)))) (hi : X.N[i]? = some x := by rfl) (hvx : Vis X.env.scope x := by first | exact Or.inl rfl | exact Or.inr (Or.inl rfl) | exact Or.inr (Or.inr rfl)) (hdx : (x == ("__debug__" : Str)) = false := by decide)
    (hcdx : (x == ("__classdict__" : Str)) = false := by decide) (hj : X.N[j]? = some y := by rfl) (hv : Vis X.env.scope y := by first | exact Or.inl rfl | exact Or.inr (Or.inl rfl) | exact Or.inr (Or.inr rfl)) (hd : (y == ("__debug__" : Str)) = false := by decide)
    (hcd : (y == ("__classdict__" : Str)) = false := by decide)
    (hbase : attributeBase (.Name y px) "pop" X.env (eval (.Name y px) X.env) = eval (.Name y px) X.env := by rfl)
    (hfew : ((backTo cpos (starEach [e] X.env)).all (fun x => !x.1) && (backToKw cpos (keywordEach [] X.env)).all (fun x => x.1.isSome) && decide ([e].length + ([] : List Keyword).length + (if ([] : List Keyword).isEmpty then 0 else 1) < 30)) = true := by rfl)
    (hline : (apos.endLine == cpos.line) = true := by rfl) (hst : starEach [e] X.env = (false, eval e X.env) :: starEach [] X.env := by rfl) (hplain : (backTo cpos (starEach [] X.env)).any (·.1) = false := by rfl)
    (hbase2 : attributeBase (.Name x pos2) "append" X.env (eval (.Name x pos2) X.env) = eval (.Name x pos2) X.env := by rfl)
    (hfew2 : ((backTo cpos2 (starEach [.Call (.Attribute (.Name y px) "pop" apos) [e] [] cpos] X.env)).all (fun x => !x.1) && (backToKw cpos2 (keywordEach [] X.env)).all (fun x => x.1.isSome) && decide ([Expr.Call (.Attribute (.Name y px) "pop" apos) [e] [] cpos].length + ([] : List Keyword).length + (if ([] : List Keyword).isEmpty then 0 else 1) < 30)) = true := by rfl)
    (hline2 : (apos2.endLine == cpos2.line) = true := by rfl) (hst2 : starEach [.Call (.Attribute (.Name y px) "pop" apos) [e] [] cpos] X.env = (false, eval (.Call (.Attribute (.Name y px) "pop" apos) [e] [] cpos) X.env) :: starEach [] X.env := by rfl) (hplain2 : (backTo cpos2 (starEach [] X.env)).any (·.1) = false := by rfl)
    (hsw : swapsWith (.Call (.Attribute (.Name x pos2) "append" apos2) [.Call (.Attribute (.Name y px) "pop" apos) [e] [] cpos] [] cpos2) none spos.line X.env = pure false := by rfl) :
    DS1 X b sl (.Expr (.Call (.Attribute (.Name x pos2) "append" apos2) [.Call (.Attribute (.Name y px) "pop" apos) [e] [] cpos] [] cpos2) spos) (c >>= fun k => (Run.lift (lpop ys k) : m (α × List α)) >>= fun z => (Run.lift (lapp xs z.1) : m (List α)) >>= fun zs => pure (zs, z.2))
      (fun z => .nx ((sl.set j (some (.o 1 (eL g z.2)))).set i (some (.o 1 (eL g z.1))))) :=
  PS.imp (ps_expr (pe_bm PySem.F.plainAttrs_list PySem.F.slot_list_append PySem.F.type_list_append mt_append (pe_var hi hvx hdx hcdx) (pa_cons (pe_bm PySem.F.plainAttrs_list PySem.F.slot_list_pop PySem.F.type_list_pop mt_popAt (pe_var hj hv hd hcd) (pa_cons he pa_nil hst) hbase hfew hline hst hplain) pa_nil hst2) hbase2 hfew2 hline2 hst2 hplain2) hsw) fun E σ H ⟨F, R, q⟩ => by
    obtain ⟨px', vx, ex, hpx, _⟩ := R.put hx
    obtain ⟨p, vs, e1', hp, _⟩ := R.put hy
    refine ⟨.ref px', ex, .inl ⟨rfl, vx, SqL.of hpx⟩, .ref p, e1', .inl ⟨rfl, vs, SqL.of hp⟩, F, R, rmono (rbind q) fun k q v F1 H1 S1 r1 => ?_⟩
    have R1 := R.step S1
    obtain ⟨z, ez, q3⟩ := rlift (rbind q)
    obtain ⟨jj, rfl, hk, ea, ez2⟩ := lpop_ok ez
    obtain ⟨p', vs', w, e2', hp', hlen, ew, rw_, R2⟩ := R1.pop hy ea
    rw [e1'] at e2'
    cases e2'
    cases r1
    refine ⟨p, vs', jj, jj, w, rfl, rfl, hp', by omega, by omega, popAt ew, ew, ?_⟩
    rw [← ez2] at R2
    obtain ⟨zs, ezs, q4⟩ := rlift (rbind q3)
    have q5 := rpure q4
    obtain ⟨hl, rfl⟩ := lapp_ok ezs
    have hx2 : (sl.set j (some (.o 1 (eL g z.2))))[i]? = some (some (.o 1 (eL g xs))) := by rw [List.getElem?_set_ne (Ne.symm hij)]; exact hx
    obtain ⟨px2, vx2, ex2, hpx2, hfdx, rax, hlx, finx⟩ := R2.put hx2
    rw [ex] at ex2
    cases ex2
    refine ⟨px', vx2, w, rfl, rfl, hpx2, by rw [rax.length, List.length_map]; exact hl, q5 _ F1 _ S1.ff ?_⟩
    have := finx (vx2 ++ [w]) ((xs ++ [z.1]).map g) (by rw [List.map_append]; exact rax.append (.one rw_)) (by rw [List.length_map, List.length_append]; exact hl)
    exact this
/-- xs[k].append(e): a list within xs is spoilt, xs is asked no more -/
theorem ds_spoilI (i : Nat) {h' : γ → D} {c : m γ} {ck : m Int} (xs : List (List α)) (hk : DA X b sl e1 .pk ck eI) (hsx : PlainIx e1) (he : DA X b sl e .pk c h') (hx : sl[i]? = some (some (.o (n + 2) (eL (eL g) xs)))) (hN : X.N[i]? = some x := by rfl) (hv : Vis X.env.scope x := by first | exact Or.inl rfl | exact Or.inr (Or.inl rfl) | exact Or.inr (Or.inr rfl)) (hd : (x == ("__debug__" : Str)) = false := by decide)
    (hcd : (x == ("__classdict__" : Str)) = false := by decide) (hbase : attributeBase (.Subscript (.Name x px) e1 pos) "append" X.env (eval (.Subscript (.Name x px) e1 pos) X.env) = eval (.Subscript (.Name x px) e1 pos) X.env := by rfl)
    (hfew : ((backTo cpos (starEach [e] X.env)).all (fun x => !x.1) && (backToKw cpos (keywordEach [] X.env)).all (fun x => x.1.isSome) && decide ([e].length + ([] : List Keyword).length + (if ([] : List Keyword).isEmpty then 0 else 1) < 30)) = true := by rfl)
    (hline : (apos.endLine == cpos.line) = true := by rfl) (hs : starEach [e] X.env = (false, eval e X.env) :: starEach [] X.env := by rfl) (hplain : (backTo cpos (starEach [] X.env)).any (·.1) = false := by rfl)
    (hsw : swapsWith (.Call (.Attribute (.Subscript (.Name x px) e1 pos) "append" apos) [e] [] cpos) none spos.line X.env = pure false := by rfl) :
    DS1 X b sl (.Expr (.Call (.Attribute (.Subscript (.Name x px) e1 pos) "append" apos) [e] [] cpos) spos) (ck >>= fun k => (Run.lift (atI xs k) : m (List α)) >>= fun row => c >>= fun _ => Run.lift (if row.length < 16777216 then some () else none)) (fun _ => .nx (sl.set i none)) :=
  PS.imp (ps_expr (pe_bm PySem.F.plainAttrs_list PySem.F.slot_list_append PySem.F.type_list_append mt_append (pe_ix ix_list (pe_var hN hv hd hcd) hk hsx) (pa_cons he pa_nil hs) hbase hfew hline hs hplain) hsw) fun E σ H ⟨F, R, q⟩ => by
    obtain ⟨p, vs, e1', hp, hfd, hlen, _⟩ := R.spoil hx
    refine ⟨.ref p, e1', F, R, rmono (rbind q) fun k q v F1 H1 S1 r1 => ?_⟩
    have R1 := R.step S1
    cases r1
    obtain ⟨row, er, q⟩ := rlift (rbind q)
    unfold L2.atI at er
    obtain ⟨j, ej, er⟩ := Option.bind_eq_some_iff.mp er
    obtain ⟨p1, vs1, qq, us, e2', hp1, hl1, ev, hq, hfq, hlu, fin⟩ := R1.spoil2 (k := j) (es := row.map g) hx (by rw [List.getElem?_map, er]; rfl)
    rw [e1'] at e2'
    cases e2'
    have hl2 : vs1.length = xs.length := by rw [hl1, List.length_map]
    refine ⟨p, vs1, k, .ref qq, rfl, rfl, SqL.of (hid_sub _ _ hp1), by unfold L2.atI; rw [hl2, ej]; exact ev, .inl ⟨rfl, us, SqL.of hq⟩, F1, R1, rmono (rbind q) fun y q v F2 H2 S2 r2 => ?_⟩
    have R2 := R1.step S2
    obtain ⟨p2, vs2, q2, us2, e3', hp2, hl3, ev2, hq2, hfq2, hlu2, fin2⟩ := R2.spoil2 (k := j) (es := row.map g) hx (by rw [List.getElem?_map, er]; rfl)
    rw [e1'] at e3'
    cases e3'
    have hps := S2.hh _ _ hp1
    rw [hps] at hp2
    cases hp2
    rw [ev] at ev2
    cases ev2
    obtain ⟨z, ez, q⟩ := rlift q
    obtain ⟨hz, _⟩ := some_if ez
    exact ⟨qq, us2, v, rfl, rfl, hq2, by rw [hlu2, List.length_map]; exact hz, q σ F2 _ (S1.ff.trans S2.ff) (fin2 _)⟩
end
end DL
namespace DL
open PySem PySem.Spec PyProof.Rows L2
/-! ### sorted, of data -/
/-- what stands behind sorted -/
def rSrtD {α : Type} (K : PySem.W.Frag) (g : α → D) : List V → Hp → VK → Prop := fun vs H Q => ∃ (a : Addr) (bs : List (V × α)), vs = [.ref a] ∧ SqL K H a (bs.map (·.1)) ∧ (∀ b ∈ bs, Rp K H b.1 (g b.2) ∧ (g b.2).plain = true ∧ (g b.2).depth ≤ 50) ∧ PySem.W.AllAlike (bs.map fun b => g b.2) ∧ PySem.W.Sortable (bs.map fun b => g b.2) ∧
  ∀ p, H p = none → Q (.ref p) (upd H p (.lst ((bs.mergeSort (PySem.W.dataLe false fun b => g b.2)).map (·.1))))
theorem vals_each {α : Type} {R : V → α → Prop} : ∀ {bs : List (V × α)} {us : List Value}, Vals (bs.map (·.1)) us → PySem.W.EachIs (fun (u : Value) (b : V × α) => RelV b.1 u) us bs
  | [], [], _ => .nil
  | [], _ :: _, h => by cases h
  | _ :: _, [], h => by cases h
  | b :: bs, u :: us, h => by
    cases h with
    | cons r t => exact .cons r (vals_each (R := R) t)
theorem each_vals {α : Type} : ∀ {bs : List (V × α)} {us : List Value}, PySem.W.EachIs (fun (u : Value) (b : V × α) => RelV b.1 u) us bs → Vals (bs.map (·.1)) us
  | [], [], _ => .nil
  | [], _ :: _, h => by cases h
  | _ :: _, [], h => by cases h
  | b :: bs, u :: us, h => by
    cases h with
    | cons r t => exact .cons r (each_vals t)
theorem each_reads {α : Type} {g : α → D} {X : Cx} {pins : List (Addr × Obj)} {σ : L2.St} {H : Hp} {s : Shared} (I : Inv X pins σ H s) : ∀ {bs : List (V × α)} {us : List Value}, PySem.W.EachIs (fun (u : Value) (b : V × α) => RelV b.1 u) us bs → (∀ b ∈ bs, Rp X.K H b.1 (g b.2) ∧ (g b.2).plain = true ∧ (g b.2).depth ≤ 50) → PySem.W.EachIs (fun v b => ∃ as, Reads s.heap v (g b.2) as) us bs
  | [], [], _, _ => .nil
  | [], _ :: _, h, _ => by cases h
  | _ :: _, [], h, _ => by cases h
  | b :: bs, u :: us, h, k => by
    cases h with
    | cons r t =>
      obtain ⟨k1, k2, k3⟩ := k b (by simp)
      exact .cons (Rp.reads I _ _ _ k2 k1 r) (each_reads I t fun c hc => k c (by simp [hc]))
theorem call_sortedD {α : Type} {g : α → D} {X : Cx} (hu : X.A.units + 64 < cLine) : CallR X (.builtin "sorted") (rSrtD X.K g) := by
  intro pins s σ H vs us Q I r h
  obtain ⟨a, bs, rfl, hs, hb, hal, hk, q⟩ := h
  obtain ⟨its, rv, hl, hz⟩ := I.list hs
  rw [Vals.ref1 r]
  have e := vals_each (R := fun _ _ => True) rv
  refine PySem.W.sorted_data (enc := fun b : V × α => g b.2) hl.isList e (each_reads I e hb) hal hk (by simpa using hz) (fun b m => by have := (hb b m).2.2; omega) fun out h1 h2 => ?_
  obtain ⟨ep, he'⟩ := PyProof.Rows.sortedAll_at s.heap its out.toArray
  have hv := each_vals h2
  have hlen : ((bs.mergeSort (PySem.W.dataLe false fun b => g b.2)).map (·.1)).length ≤ sizeLine := by
    rw [List.length_map, List.length_mergeSort]
    simpa using hz
  exact ⟨.ref _, upd H (s.heap.objs.size + 1) (.lst ((bs.mergeSort (PySem.W.dataLe false fun b => g b.2)).map (·.1))), I.laid (t' := s.toks) (fun _ _ => PyProof.Rows.sortedAll_old) (Nat.le_succ _) ⟨hlen, out, ep, hv, he'⟩, rfl, q _ (I.hok.fresh (Nat.le_succ _))⟩
/-- a kind whose things are told apart by < -/
class Srt {α : Type} (g : α → D) : Prop where
  plain : ∀ x, (g x).plain = true
  depth : ∀ x, (g x).depth ≤ 50
  alike : ∀ x y, PySem.W.alike (g x) (g y) = true
  sortable : (∀ x, ∃ a r, g x = .tuple (a :: r)) ∨ ∀ x, g x ≠ .none ∧ ∀ xs, g x ≠ .tuple xs
theorem plain_ints : ∀ xs : List Int, PyData.plainAll (xs.map eI) = true
  | [] => rfl
  | x :: xs => by
    show (true && PyData.plainAll (xs.map eI)) = true
    rw [plain_ints xs]
    rfl
instance : Srt (eL eI) := ⟨fun x => plain_ints x, fun x => by
  have := PySem.W.depth_ints x
  simp only [eL, PyData.depth]
  have e : PyData.depthAll (x.map eI) = 0 := this
  omega, fun x y => PySem.W.alike_ints x y, .inr fun x => ⟨(fun h => by cases h), (fun xs h => by cases h)⟩⟩
end DL
namespace DL
open PySem PySem.Spec PyProof.Rows L2
instance : Srt (eP eI eI) := ⟨fun x => rfl, fun x => by simp [eP, eI, PyData.depth, PyData.depthAll], fun x y => rfl, .inl fun x => ⟨_, _, rfl⟩⟩
instance : Srt (eP eI (eL eI)) := ⟨fun x => by simp [eP, eI, PyData.plain, PyData.plainAll, eL]; exact plain_ints x.2, fun x => by
  have := PySem.W.depth_ints x.2
  have e : PyData.depthAll (x.2.map eI) = 0 := this
  simp only [eP, eI, eL, PyData.depth, PyData.depthAll, e]
  omega, fun x y => by
  have := PySem.W.alike_ints x.2 y.2
  show (true && (PySem.W.alikeAll (x.2.map eI) (y.2.map eI) && true)) = true
  rw [show PySem.W.alikeAll (x.2.map eI) (y.2.map eI) = true from this]
  rfl, .inl fun x => ⟨_, _, rfl⟩⟩
/-- sorted -/
def lsortD {α : Type} (g : α → D) (xs : List α) : List α := xs.mergeSort (PySem.W.dataLe false g)
section
variable {α : Type} {K : PySem.W.Frag} {F : Hp} {g : α → D}
theorem RpAll.zip : ∀ {vs : List V} {xs : List α}, RpAll K F vs (xs.map g) → (vs.zip xs).map (·.1) = vs ∧ (vs.zip xs).map (·.2) = xs ∧ ∀ b ∈ vs.zip xs, Rp K F b.1 (g b.2)
  | [], [], _ => ⟨rfl, rfl, fun _ h => nomatch h⟩
  | [], _ :: _, h => by cases h
  | _ :: _, [], h => by cases h
  | v :: vs, x :: xs, h => by
    cases h with
    | cons a t =>
      obtain ⟨h1, h2, h3⟩ := RpAll.zip t
      refine ⟨by simp [h1], by simp [h2], fun b hb => ?_⟩
      rcases List.mem_cons.mp hb with rfl | hb
      · exact a
      · exact h3 b hb
theorem RpAll.unzip : ∀ {bs : List (V × α)}, (∀ b ∈ bs, Rp K F b.1 (g b.2)) → RpAll K F (bs.map (·.1)) ((bs.map (·.2)).map g)
  | [], _ => .nil
  | b :: bs, h => .cons (h b (by simp)) (RpAll.unzip fun c hc => h c (by simp [hc]))
theorem srt_zip {bs : List (V × α)} : (bs.mergeSort (PySem.W.dataLe false fun b => g b.2)).map (·.2) = lsortD g (bs.map (·.2)) := List.map_mergeSort fun a _ b _ => rfl
end
section
variable {m : Type → Type} [Run m] {α β γ : Type} {K : PySem.W.Frag} {fd : Option Addr} {md : Md} {g : α → D}
theorem os_sortedD [S : Srt g] (hm : NewL md) : OpS1 K fd (rSrtD K g) .sh (eL g) (fun x => (pure (lsortD g x) : m (List α))) md (eL g) := fun F H v1 x Q fh fe r1 q => by
  have q := rpure q
  obtain ⟨p1, w1, d1, rfl, e1, h1, a1, l1⟩ := r1
  injection e1 with e1
  subst e1
  obtain ⟨z1, z2, z3⟩ := a1.zip
  have sub := fh.trans hid_sub
  refine ⟨p1, w1.zip x, rfl, by rw [z1]; exact SqL.of (hid_sub _ _ h1), fun b hb => ⟨(z3 b hb).mono sub, S.plain _, S.depth _⟩, PySem.W.AllAlike.of (fun b b' => S.alike _ _), ?_, fun p np => ?_⟩
  · rcases S.sortable with h | h
    · exact PySem.W.Sortable.tuples fun b => h b.2
    · exact PySem.W.Sortable.others fun b => h b.2
  · have r : RpAll K F (((w1.zip x).mergeSort (PySem.W.dataLe false fun b => g b.2)).map (·.1)) ((lsortD g x).map g) := by
      have := RpAll.unzip (K := K) (F := F) (g := g) (bs := (w1.zip x).mergeSort (PySem.W.dataLe false fun b => g b.2)) fun b hb => z3 b ((List.mergeSort_perm _ _).mem_iff.mp hb)
      rwa [srt_zip, z2] at this
    exact Post.newL hm fh fe q r (by
      have : (lsortD g x).length = x.length := List.length_mergeSort _
      rw [List.length_map, this]; simpa using l1) np
end
end DL
namespace DL
open PySem PySem.Spec PyProof.Rows L2
/-! ### dicts with ints as keys -/
def eM {α : Type} (g : α → D) (ps : List (Int × α)) : D := .dict (ps.map fun p => (PyData.int p.1, g p.2))
def dget {α : Type} (ps : List (Int × α)) (k : Int) : Option α := (ps.find? fun p => p.1 == k).map (·.2)
def dput {α : Type} (ps : List (Int × α)) (k : Int) (a : α) : List (Int × α) := if ps.any (fun p => p.1 == k) then ps.map (fun p => if p.1 == k then (p.1, a) else p) else ps ++ [(k, a)]
def dputL {α : Type} (ps : List (Int × α)) (k : Int) (a : α) : Option (List (Int × α)) := if ps.length < 16777216 then some (dput ps k a) else none
def dmk {α : Type} (ps : List (Int × α)) : List (Int × α) := ps.foldl (fun acc p => dput acc p.1 p.2) []
instance {α : Type} {g : α → D} : NN (eM g) := ⟨fun _ h => by cases h⟩
section
variable {α : Type} {K : PySem.W.Frag} {F : Hp} {g : α → D}
abbrev mD (g : α → D) (ps : List (Int × α)) : List (D × D) := ps.map fun p => (PyData.int p.1, g p.2)
theorem kD_int {k : Key} {i : Int} (h : kD k = .int i) : k = .inl i := by
  cases k with
  | inl j => cases h; rfl
  | inr x => cases h
theorem RpKV.cons' {kvs : List (Key × V)} {p : Int × α} {ps : List (Int × α)} (h : RpKV K F kvs (mD g (p :: ps))) : ∃ v vs, kvs = (.inl p.1, v) :: vs ∧ Rp K F v (g p.2) ∧ RpKV K F vs (mD g ps) := by
  have gen : ∀ {kvs : List (Key × V)} {k : D} {d : D} {r : List (D × D)}, RpKV K F kvs ((k, d) :: r) → ∃ k' v vs, kvs = (k', v) :: vs ∧ kD k' = k ∧ Rp K F v d ∧ RpKV K F vs r := by
    intro kvs k d r h
    cases h with
    | cons a t => exact ⟨_, _, _, rfl, rfl, a, t⟩
  obtain ⟨k', v, vs, e, ek, a, t⟩ := gen h
  have := kD_int ek
  subst this
  exact ⟨v, vs, e, a, t⟩
theorem RpKV.nil' {kvs : List (Key × V)} (h : RpKV K F kvs (mD g [])) : kvs = [] := by cases h; rfl
theorem RpKV.val : ∀ {ps : List (Int × α)} {kvs : List (Key × V)} (k : Int), RpKV K F kvs (mD g ps) → (∀ a, dget ps k = some a → ∃ v, valV kvs (.inl k) = some v ∧ Rp K F v (g a)) ∧ (dget ps k = none → valV kvs (.inl k) = none)
  | [], _, k, h => by
    cases h.nil'
    exact ⟨(fun a e => by cases e), fun _ => rfl⟩
  | p :: ps, kvs, k, h => by
    obtain ⟨v, vs, rfl, a, t⟩ := h.cons'
    by_cases hk : p.1 = k
    · have e : dget (p :: ps) k = some p.2 := by unfold dget; rw [List.find?_cons_of_pos (by simpa using hk)]; rfl
      rw [e]
      refine ⟨fun b e => ?_, (fun e => by cases e)⟩
      cases e
      exact ⟨v, valV_pos (by rw [hk]), a⟩
    · have e : dget (p :: ps) k = dget ps k := by unfold dget; rw [List.find?_cons_of_neg (by simpa using hk)]
      rw [e, valV_neg (by intro z; exact hk (Sum.inl.inj z))]
      exact RpKV.val k t
theorem RpKV.append : ∀ {ps qs : List (Int × α)} {kvs ls : List (Key × V)}, RpKV K F kvs (mD g ps) → RpKV K F ls (mD g qs) → RpKV K F (kvs ++ ls) (mD g (ps ++ qs))
  | [], qs, kvs, ls, h, k => by cases h.nil'; exact k
  | p :: ps, qs, kvs, ls, h, k => by
    obtain ⟨v, vs, rfl, a, t⟩ := h.cons'
    exact RpKV.cons (k := .inl p.1) a (RpKV.append t k)
theorem RpKV.any : ∀ {ps : List (Int × α)} {kvs : List (Key × V)} (k : Int), RpKV K F kvs (mD g ps) → (kvs.any fun kv => decide (kv.1 = .inl k)) = ps.any fun p => p.1 == k
  | [], _, k, h => by cases h.nil'; rfl
  | p :: ps, kvs, k, h => by
    obtain ⟨v, vs, rfl, a, t⟩ := h.cons'
    rw [List.any_cons, List.any_cons, RpKV.any k t]
    congr 1
    by_cases hk : p.1 = k
    · simp [hk]
    · have : ¬((Sum.inl p.1 : Key) = .inl k) := fun z => hk (Sum.inl.inj z)
      simp [hk, this]
theorem RpKV.upd : ∀ {ps : List (Int × α)} {kvs : List (Key × V)} {k : Int} {w : V} {a : α}, RpKV K F kvs (mD g ps) → Rp K F w (g a) → RpKV K F (kvs.map fun kv => if kv.1 = .inl k then (kv.1, w) else kv) (mD g (ps.map fun p => if p.1 == k then (p.1, a) else p))
  | [], _, k, w, a, h, r => by cases h.nil'; exact .nil
  | p :: ps, kvs, k, w, a, h, r => by
    obtain ⟨v, vs, rfl, b, t⟩ := h.cons'
    have ih := RpKV.upd (k := k) t r
    by_cases hk : p.1 = k
    · subst hk
      have e1 : (if (Sum.inl p.1 : Key) = .inl p.1 then ((Sum.inl p.1 : Key), w) else ((Sum.inl p.1 : Key), v)) = (.inl p.1, w) := if_pos rfl
      have e2 : (if (p.1 == p.1) = true then (p.1, a) else p) = (p.1, a) := if_pos (by simp)
      rw [List.map_cons, List.map_cons]
      dsimp only
      rw [e1, e2]
      exact RpKV.cons (k := .inl p.1) r ih
    · have : ¬((Sum.inl p.1 : Key) = .inl k) := fun z => hk (Sum.inl.inj z)
      have e1 : (if (Sum.inl p.1 : Key) = .inl k then ((Sum.inl p.1 : Key), w) else ((Sum.inl p.1 : Key), v)) = (.inl p.1, v) := if_neg this
      have e2 : (if (p.1 == k) = true then (p.1, a) else p) = p := if_neg (by simpa using hk)
      rw [List.map_cons, List.map_cons]
      dsimp only
      rw [e1, e2]
      exact RpKV.cons (k := .inl p.1) b ih
theorem RpKV.put {ps : List (Int × α)} {kvs : List (Key × V)} {k : Int} {w : V} {a : α} (h : RpKV K F kvs (mD g ps)) (r : Rp K F w (g a)) : RpKV K F (putK kvs (.inl k) w) (mD g (dput ps k a)) := by
  unfold putK dput
  rw [h.any k]
  by_cases hk : (ps.any fun p => p.1 == k) = true
  · rw [if_pos hk, if_pos hk]
    exact h.upd r
  · rw [if_neg hk, if_neg hk]
    exact h.append (RpKV.cons (k := .inl k) r .nil)
theorem RpKV.length : ∀ {ps : List (Int × α)} {kvs : List (Key × V)}, RpKV K F kvs (mD g ps) → kvs.length = ps.length
  | [], _, h => by cases h.nil'; rfl
  | p :: ps, kvs, h => by
    obtain ⟨v, vs, rfl, b, t⟩ := h.cons'
    rw [List.length_cons, List.length_cons, RpKV.length t]
theorem RpKV.merge : ∀ {qs ps : List (Int × α)} {ls kvs : List (Key × V)}, RpKV K F kvs (mD g ps) → RpKV K F ls (mD g qs) → RpKV K F (mergeK kvs ls) (mD g (qs.foldl (fun acc p => dput acc p.1 p.2) ps))
  | [], ps, ls, kvs, h, k => by cases k.nil'; exact h
  | q :: qs, ps, ls, kvs, h, k => by
    obtain ⟨v, vs, rfl, b, t⟩ := k.cons'
    exact RpKV.merge (qs := qs) (ps := dput ps q.1 q.2) (kvs := putK kvs (.inl q.1) v) (h.put b) t
/-- a dict that reads -/
theorem Rp.dict {v : V} {ps : List (Int × α)} (r : Rp K F v (eM g ps)) : ∃ a kvs, v = .ref a ∧ Rd F a (.dK kvs) ∧ RpKV K F kvs (mD g ps) := by
  have gen : ∀ {v : V} {ds : List (D × D)}, (∀ ds', ds ≠ (.none, .none) :: ds') → Rp K F v (.dict ds) → ∃ a kvs, v = .ref a ∧ Rd F a (.dK kvs) ∧ RpKV K F kvs ds := by
    intro v ds hn r
    cases r with
    | dic a b => exact ⟨_, _, rfl, a, b⟩
    | lck a b _ => exact absurd rfl (hn _)
  refine gen (fun ds' e => ?_) r
  cases ps with
  | nil => cases e
  | cons p ps => cases e
end
section
variable {m : Type → Type} [Run m] {α β γ : Type} {X : Cx} {b : Bs} {sl : Sls} {e e1 e2 e3 : Expr} {md : Md} {c : m α} {g : α → D} {K : PySem.W.Frag} {fd : Option Addr} {n : Nat} {pos px : Pos} {x : Str} {Z : Type} {out : Z → Oc}
/-- a new dict -/
theorem Post.newD {F H : Hp} {ps : List (Int × α)} {kvs : List (Key × V)} {Q : VK} {p : Addr} (fh : Sub F (hid fd H)) (fe : FeedOk K fd F H) (h : Post K fd (.ow 1) F H (eM g ps) Q) (r : RpKV K F kvs (mD g ps)) (np : H p = none) : Q (.ref p) (upd H p (.dK kvs)) :=
  h _ F _ [(p, .dK kvs)] (Step.alloc fh fe np) (.dic r) ⟨by simp, fun c hc => by
    have : c = (p, .dK kvs) := by simpa using hc
    subst this
    exact ⟨upd_same, (fh.trans hid_sub).none np, np⟩⟩
theorem dm_dict0 : DM X b sl (.Dict [] [] pos) (.ow 1) (pure [] : m (List (Int × α))) (eM g) := PE.imp pe_dnewK fun σ H Q ⟨F, R, q⟩ p np => by
  have q := rpure q
  exact Post.newD R.sub R.fe q .nil np
/-- pairs of a display -/
def tPD (K : PySem.W.Frag) (b : Bs) (sl : Sls) (k : Nat) (c : m (List (Int × α))) (g : α → D) (trs : List (TE × TE)) : Prop := ∀ (σ : L2.St) (H : Hp) (Q : List (V × V) → Hp → Prop), (∃ F, Rel K b sl F H σ ∧ Run.run c (fun ps => ∀ kvs F' H', Step K b.fd F H F' H' → RpKV K F' kvs (mD g ps) → ps.length = k → Q (kvs.map fun kv => (kV kv.1, kv.2)) H')) → tPairs trs σ H Q
structure DPs (X : Cx) (b : Bs) (sl : Sls) (pos : Pos) (keys : List (Option Expr)) (values : List Expr) (k : Nat) (c : m (List (Int × α))) (g : α → D) : Prop where
  ok : ∃ trs, PPs X pos keys values trs ∧ tPD X.K b sl k c g trs
theorem dp_nil : DPs X b sl pos [] [] 0 (pure [] : m (List (Int × α))) g := ⟨⟨[], pps_nil, fun σ H Q ⟨F, R, q⟩ => by
  have q := rpure q
  exact q [] F H (.refl R.sub R.fe) .nil rfl⟩⟩
theorem dp_cons {ks : List (Option Expr)} {vs : List Expr} {k : Nat} {ck : m Int} {cr : m (List (Int × α))} (hk : DA X b sl e1 .pk ck eI) (hv : DA X b sl e2 .fr c g) (hr : DPs X b sl pos ks vs k cr g) :
    DPs X b sl pos (some e1 :: ks) (e2 :: vs) (k + 1) (ck >>= fun i => c >>= fun a => cr >>= fun r => pure ((i, a) :: r)) g := by
  obtain ⟨trs, h1, h2⟩ := hr.ok
  refine ⟨⟨_, pps_cons hk hv h1, fun σ H Q ⟨F, R, q⟩ => ⟨F, R, rmono (rbind q) fun i q v F1 H1 S1 r1 => ⟨F1, R.step S1, rmono (rbind q) fun a q w F2 H2 S2 r2 => h2 σ H2 _ ⟨F2, (R.step S1).step S2, rmono (rbind q) fun r q kvs F3 H3 S3 r3 hl => ?_⟩⟩⟩⟩⟩
  have q := rpure q
  cases r1
  exact q ((.inl i, w) :: kvs) F3 H3 ((S1.trans R.fe S2).trans R.fe S3) (RpKV.cons (k := .inl i) (Rp.mono S3.ff r2) r3) (by simp [hl])
theorem dp_consT {ks : List (Option Expr)} {vs : List Expr} {k : Nat} {i : Int} {a : α} {r : List (Int × α)} (hk : DA X b sl e1 .pk (pure i : m Int) eI) (hv : DA X b sl e2 .fr (pure a : m α) g) (hr : DPs X b sl pos ks vs k (pure r : m (List (Int × α))) g) :
    DPs X b sl pos (some e1 :: ks) (e2 :: vs) (k + 1) (pure ((i, a) :: r) : m (List (Int × α))) g := by
  have := dp_cons hk hv hr
  rwa [Run.pure_b, Run.pure_b, Run.pure_b] at this
theorem dm_dict {keys : List (Option Expr)} {values : List Expr} {k : Nat} {c : m (List (Int × α))} (h : DPs X b sl pos keys values k c g) (hall : keys.all (·.isSome) = true := by rfl) (hl : keys.length = values.length := by rfl) (h0 : keys ≠ [] := by exact fun h => nomatch h) (h15 : keys.length ≤ 15 := by decide) (hk : k ≤ 15 := by decide) :
    DM X b sl (.Dict keys values pos) (.ow 1) (c >>= fun ps => pure (dmk ps)) (eM g) := by
  obtain ⟨trs, h1, h2⟩ := h.ok
  refine PE.imp (pe_disp h1 hall hl h0 h15) fun σ H Q ⟨F, R, q⟩ p np => ?_
  have A := Step.alloc (K := X.K) (o := .dK []) R.sub R.fe np
  have R1 := R.step A
  refine h2 σ _ _ ⟨F, R1, rmono (rbind q) fun ps q kvs F2 H2 S2 r2 hn => ?_⟩
  have q := rpure q
  have pf : b.fd ≠ some p := fun z => by
    obtain ⟨o, e⟩ := R.fe.some z
    rw [np] at e; cases e
  have hp : H2 p = some (.dK []) := by
    have := S2.hh p (.dK []) (by rw [hid_ne pf]; exact upd_same)
    rwa [hid_ne pf] at this
  have fp : F2 p = none := S2.st p (by rw [upd_same]; simp) ((R.sub.trans hid_sub).none np)
  refine ⟨hp, kvs, rfl, by rw [r2.length, hn]; exact hk, ?_⟩
  have hm : RpKV X.K F2 (mergeK [] kvs) (mD g (dmk ps)) := RpKV.merge (ps := []) .nil r2
  -- the heap behind
  have keep : ∀ a o, hid b.fd H2 a = some o → a ≠ p → hid b.fd (upd H2 p (.dK (mergeK [] kvs))) a = some o := fun a o e ne => by
    by_cases ha : b.fd = some a
    · unfold hid at e; rw [if_pos ha] at e; cases e
    · rw [hid_ne ha] at e ⊢; rw [upd_ne ne]; exact e
  have S3 : Step X.K b.fd F H F2 (upd H2 p (.dK (mergeK [] kvs))) := by
    refine ⟨S2.ff, fun a o e => keep a o (S2.hh a o (A.hh a o e)) (fun z => ?_), fun a o e => keep a o (S2.fh a o e) (fun z => by rw [z, fp] at e; cases e), fun q hq e => ?_, S2.fe.mono (Sub.refl _) (fun φ e => (S2.fe φ e).1) fun φ e => upd_ne (fun z => pf (by rw [e, z]))⟩
    · rw [z, hid_ne pf, np] at e; cases e
    · by_cases hqp : q = p
      · rw [hqp]; exact fp
      · exact S2.st q (by rw [upd_ne hqp]; exact hq) e
  exact q (.ref p) F2 _ [(p, .dK (mergeK [] kvs))] S3 (.dic hm) ⟨by simp, fun c hc => by
    have : c = (p, .dK (mergeK [] kvs)) := by simpa using hc
    subst this
    exact ⟨upd_same, fp, np⟩⟩
/-- k in d -/
theorem dm_inD {ck : m Int} {cd : m (List (Int × α))} (hu : X.A.units + 64 < cLine) (hk : DA X b sl e1 .pk ck eI) (hd : DA X b sl e2 .pk cd (eM g)) (hb : behindInMarks .In e2 = false := by rfl) : DM X b sl (.Compare e1 [.In] [e2] pos) md (ck >>= fun k => cd >>= fun ps => pure (dget ps k).isSome) eB :=
  PE.imp (pe_cmp (pc_din (by omega) hk hd) hb) fun σ H Q ⟨F, R, q⟩ => ⟨F, R, rmono (rbind q) fun k q v F1 H1 S1 r1 => ⟨F1, R.step S1, rmono (rbind q) fun ps q w F2 H2 S2 r2 => by
    have q := rpure q
    cases r1
    obtain ⟨a, kvs, rfl, hr, hv⟩ := Rp.dict r2
    have hr' : Rd H2 a (.dK kvs) := hid_sub.rd hr
    refine ⟨a, valV kvs (.inl k), rfl, .inl ⟨kvs, .inl k, hr', rfl, rfl⟩, ?_⟩
    have e : (valV kvs (.inl k)).isSome = (dget ps k).isSome := by
      obtain ⟨h1, h2⟩ := hv.val k
      cases hq : dget ps k with
      | none => rw [h2 hq]; rfl
      | some a => obtain ⟨v, ev, _⟩ := h1 a hq; rw [ev]; rfl
    rw [e]
    have S12 := S1.trans R.fe S2
    exact Post.sc S12.fh S12.fe (Post.back R.fe S12 q) rfl (.bl _)⟩⟩
theorem dm_notinD {ck : m Int} {cd : m (List (Int × α))} (hu : X.A.units + 64 < cLine) (hk : DA X b sl e1 .pk ck eI) (hd : DA X b sl e2 .pk cd (eM g)) (hb : behindInMarks .NotIn e2 = false := by rfl) : DM X b sl (.Compare e1 [.NotIn] [e2] pos) md (ck >>= fun k => cd >>= fun ps => pure (!(dget ps k).isSome)) eB :=
  PE.imp (pe_cmp (pc_dnotin (by omega) hk hd) hb) fun σ H Q ⟨F, R, q⟩ => ⟨F, R, rmono (rbind q) fun k q v F1 H1 S1 r1 => ⟨F1, R.step S1, rmono (rbind q) fun ps q w F2 H2 S2 r2 => by
    have q := rpure q
    cases r1
    obtain ⟨a, kvs, rfl, hr, hv⟩ := Rp.dict r2
    have hr' : Rd H2 a (.dK kvs) := hid_sub.rd hr
    refine ⟨a, valV kvs (.inl k), rfl, .inl ⟨kvs, .inl k, hr', rfl, rfl⟩, ?_⟩
    have e : (valV kvs (.inl k)).isSome = (dget ps k).isSome := by
      obtain ⟨h1, h2⟩ := hv.val k
      cases hq : dget ps k with
      | none => rw [h2 hq]; rfl
      | some a => obtain ⟨v, ev, _⟩ := h1 a hq; rw [ev]; rfl
    rw [e]
    have S12 := S1.trans R.fe S2
    exact Post.sc S12.fh S12.fe (Post.back R.fe S12 q) rfl (.bl _)⟩⟩
/-- a bool as a test: a comparison told as a value -/
theorem dt_cmpB {op : CmpOp} {t : TE} {c : m Bool} (h : PC X op e1 e2 t) (k : ∀ σ H Q, tD X.K b sl .pk c eB σ H Q → t σ H Q) (h1 : behindInMarks op e2 = false) : DT X b sl (.Compare e1 [op] [e2] pos) c := PT.imp (pt_cmp h h1) fun σ H Q ⟨F, R, q⟩ => k σ H _ ⟨F, R, rmono q fun t p v F' H' S r => by
  cases r
  exact ⟨_, rfl, p F' H' S⟩⟩
theorem dt_inD {ck : m Int} {cd : m (List (Int × α))} (hu : X.A.units + 64 < cLine) (hk : DA X b sl e1 .pk ck eI) (hd : DA X b sl e2 .pk cd (eM g)) (hb : behindInMarks .In e2 = false := by rfl) : DT X b sl (.Compare e1 [.In] [e2] pos) (ck >>= fun k => cd >>= fun ps => pure (dget ps k).isSome) :=
  dt_cmpB (pc_din (by omega) hk hd) (fun σ H Q ⟨F, R, q⟩ => ⟨F, R, rmono (rbind q) fun k q v F1 H1 S1 r1 => ⟨F1, R.step S1, rmono (rbind q) fun ps q w F2 H2 S2 r2 => by
    have q := rpure q
    cases r1
    obtain ⟨a, kvs, rfl, hr, hv⟩ := Rp.dict r2
    have hr' : Rd H2 a (.dK kvs) := hid_sub.rd hr
    refine ⟨a, valV kvs (.inl k), rfl, .inl ⟨kvs, .inl k, hr', rfl, rfl⟩, ?_⟩
    have e : (valV kvs (.inl k)).isSome = (dget ps k).isSome := by
      obtain ⟨h1, h2⟩ := hv.val k
      cases hq : dget ps k with
      | none => rw [h2 hq]; rfl
      | some a => obtain ⟨v, ev, _⟩ := h1 a hq; rw [ev]; rfl
    rw [e]
    exact q _ F2 H2 (S1.trans R.fe S2) (.bl _)⟩⟩) hb
theorem dt_notinD {ck : m Int} {cd : m (List (Int × α))} (hu : X.A.units + 64 < cLine) (hk : DA X b sl e1 .pk ck eI) (hd : DA X b sl e2 .pk cd (eM g)) (hb : behindInMarks .NotIn e2 = false := by rfl) : DT X b sl (.Compare e1 [.NotIn] [e2] pos) (ck >>= fun k => cd >>= fun ps => pure (!(dget ps k).isSome)) :=
  dt_cmpB (pc_dnotin (by omega) hk hd) (fun σ H Q ⟨F, R, q⟩ => ⟨F, R, rmono (rbind q) fun k q v F1 H1 S1 r1 => ⟨F1, R.step S1, rmono (rbind q) fun ps q w F2 H2 S2 r2 => by
    have q := rpure q
    cases r1
    obtain ⟨a, kvs, rfl, hr, hv⟩ := Rp.dict r2
    have hr' : Rd H2 a (.dK kvs) := hid_sub.rd hr
    refine ⟨a, valV kvs (.inl k), rfl, .inl ⟨kvs, .inl k, hr', rfl, rfl⟩, ?_⟩
    have e : (valV kvs (.inl k)).isSome = (dget ps k).isSome := by
      obtain ⟨h1, h2⟩ := hv.val k
      cases hq : dget ps k with
      | none => rw [h2 hq]; rfl
      | some a => obtain ⟨v, ev, _⟩ := h1 a hq; rw [ev]; rfl
    rw [e]
    exact q _ F2 H2 (S1.trans R.fe S2) (.bl _)⟩⟩) hb
/-- d[k] -/
theorem dm_dgetP {ck : m Int} {cd : m (List (Int × α))} (hu : X.A.units + 64 < cLine) (hd : DA X b sl e1 .pk cd (eM g)) (hk : DA X b sl e2 .pk ck eI) (hs : NoSl e2) : DM X b sl (.Subscript e1 e2 pos) .pk (cd >>= fun ps => ck >>= fun k => Run.lift (dget ps k)) g :=
  PE.imp (pe_dget (by omega) hd hk hs) fun σ H Q ⟨F, R, q⟩ => ⟨F, R, rmono (rbind q) fun ps q w F1 H1 S1 r1 => ⟨F1, R.step S1, rmono (rbind q) fun k q v F2 H2 S2 r2 => by
    obtain ⟨z, ez, q⟩ := rlift q
    have r1 : Rp X.K (hid b.fd H2) w (eM g ps) := Rp.mono S2.hh r1
    obtain ⟨a, kvs, rfl, hr, hv⟩ := Rp.dict r1
    cases r2
    obtain ⟨u, eu, ru⟩ := (hv.val k).1 z ez
    exact ⟨a, u, rfl, .inl ⟨kvs, .inl k, hid_sub.rd hr, rfl, eu.symm⟩, q u F2 H2 (S1.trans R.fe S2) ru⟩⟩⟩
theorem dm_dget {ck : m Int} {cd : m (List (Int × α))} (hu : X.A.units + 64 < cLine) (hd : DA X b sl e1 .fr cd (eM g)) (hk : DA X b sl e2 .pk ck eI) (hs : NoSl e2) : DM X b sl (.Subscript e1 e2 pos) (.ow 0) (cd >>= fun ps => ck >>= fun k => Run.lift (dget ps k)) g :=
  PE.imp (pe_dget (by omega) hd hk hs) fun σ H Q ⟨F, R, q⟩ => ⟨F, R, rmono (rbind q) fun ps q w F1 H1 S1 r1 => ⟨F1, R.step S1, rmono (rbind q) fun k q v F2 H2 S2 r2 => by
    obtain ⟨z, ez, q⟩ := rlift q
    have r1 : Rp X.K F2 w (eM g ps) := Rp.mono S2.ff r1
    obtain ⟨a, kvs, rfl, hr, hv⟩ := Rp.dict r1
    cases r2
    obtain ⟨u, eu, ru⟩ := (hv.val k).1 z ez
    have S12 := S1.trans R.fe S2
    exact ⟨a, u, rfl, .inl ⟨kvs, .inl k, (S2.fh.trans hid_sub).rd hr, rfl, eu.symm⟩, Post.fr S12 q ru⟩⟩⟩
/-- d.get(k, z), scalars -/
theorem dm_get2 [hs : Sca g] {ck : m Int} {cd : m (List (Int × α))} {cz : m α} {apos : Pos} (hu : X.A.units + 64 < cLine) (hd : DA X b sl e1 .pk cd (eM g)) (hk : DA X b sl e2 .pk ck eI) (hz : DA X b sl e3 .pk cz g) (M : M2 X e1 "get" apos e2 e3 pos) :
    DM X b sl (.Call (.Attribute e1 "get" apos) [e2, e3] [] pos) md (cd >>= fun ps => ck >>= fun k => cz >>= fun z => pure ((dget ps k).getD z)) g :=
  PE.imp (pe_dget2 (by omega) hd hk hz M) fun σ H Q ⟨F, R, q⟩ => ⟨F, R, rmono (rbind q) fun ps q w F1 H1 S1 r1 => by
    obtain ⟨a, kvs, rfl, hr, hv⟩ := Rp.dict r1
    refine ⟨a, rfl, .inl ⟨kvs, hid_sub.rd hr⟩, F1, R.step S1, rmono (rbind q) fun k q v F2 H2 S2 r2 => ⟨F2, (R.step S1).step S2, rmono (rbind q) fun z q u F3 H3 S3 r3 => ?_⟩⟩
    have q := rpure q
    cases r2
    have S23 := S2.trans (R.step S1).fe S3
    have S13 := S1.trans R.fe S23
    have hr3 : Rd H3 a (.dK kvs) := hid_sub.rd (S23.hh.rd hr)
    refine ⟨valV kvs (.inl k), .inl ⟨kvs, .inl k, hr3, rfl, rfl⟩, ?_⟩
    cases hq : dget ps k with
    | none =>
      rw [(hv.val k).2 hq]
      rw [hq] at q
      exact Post.sc S13.fh S13.fe (Post.back R.fe S13 q) (hs.sc _) (Rp.scal (hs.sc z) r3)
    | some y =>
      obtain ⟨u', eu, ru⟩ := (hv.val k).1 y hq
      rw [eu]
      rw [hq] at q
      exact Post.sc S13.fh S13.fe (Post.back R.fe S13 q) (hs.sc _) (ru.scal (hs.sc y))⟩
/-- d[k] = v: d is ours -/
theorem ds_setD (i : Nat) (ps : List (Int × α)) {ck : m Int} {kt : Pos} (hu : X.A.units + 64 < cLine) (he : DA X b sl e .fr c g) (hk : DA X b sl e1 .pk ck eI) (hx : sl[i]? = some (some (.o (n + 1) (eM g ps)))) (hN : X.N[i]? = some x := by rfl) (hv : Vis X.env.scope x := by first | exact Or.inl rfl | exact Or.inr (Or.inl rfl) | exact Or.inr (Or.inr rfl)) (hd : (x == ("__debug__" : Str)) = false := by decide)
    (hcd : (x == ("__classdict__" : Str)) = false := by decide) (hs : swapsWithSole [.Subscript (.Name x px) e1 kt] e pos.line X.env = pure false := by rfl) (hw : swappedStores [.Subscript (.Name x px) e1 kt] e X.env = pure none := by rfl) (h1 : (assignEach [.Subscript (.Name x px) e1 kt] X.env).map (·.2) = [assign (.Subscript (.Name x px) e1 kt) X.env] := by rfl)
    (pg : ∀ {to ti : TE}, PE X (.Name x px) to → PE X e1 ti → PG X (.Subscript (.Name x px) e1 kt) (gSub to ti rSetD)) :
    DS1 X b sl (.Assign [.Subscript (.Name x px) e1 kt] e pos) (c >>= fun v => ck >>= fun k => Run.lift (dputL ps k v)) (fun ys => .nx (sl.set i (some (.o (n + 1) (eM g ys))))) :=
  PS.imp (ps_asg he (pg (pe_var hN hv hd hcd) hk) hs hw h1) fun E σ H ⟨F, R, q⟩ => ⟨F, R, rmono (rbind q) fun a q v F1 H1 S1 r1 => by
    have R1 := R.step S1
    have get : ∀ {F H : Hp}, Rel X.K b sl F H σ → ∃ p kvs, σ[i]? = some (some (.ref p)) ∧ H p = some (.dK kvs) ∧ RpKV X.K F kvs (mD g ps) ∧ ∀ kvs' ps', RpKV X.K F kvs' (mD g ps') → Rel X.K b (sl.set i (some (.o (n + 1) (eM g ps')))) F (upd H p (.dK kvs')) σ := by
      intro F H R
      obtain ⟨Cs, s1, s2, s3⟩ := R.slots
      obtain ⟨w, ew, r⟩ := s1 i _ hx
      generalize hCi : Cs i = C at r
      have gen : ∀ {w : V} {ds : List (D × D)} {C : List Cell}, Own X.K F (n + 1) w (.dict ds) C → ∃ p kvs, w = .ref p ∧ C = [(p, .dK kvs)] ∧ RpKV X.K F kvs ds := by
        intro w ds C r
        cases r with
        | s a _ => cases a
        | dic r => exact ⟨_, _, rfl, rfl, r⟩
      obtain ⟨p, kvs, rfl, rfl, hr⟩ := gen r
      have hm : (p, HO.dK kvs) ∈ Cs i := by rw [hCi]; exact List.mem_cons_self
      obtain ⟨hp, hF, hB, hfd⟩ := (s2 i).2 _ hm
      refine ⟨p, kvs, ew, hp, hr, fun kvs' ps' r' => R.core Cs s1 s2 s3 hm (C' := [(p, .dK kvs')]) (fun z hz _ => ?_) (by simp) (fun c hc => ?_) fun j hj c hc c' hc' => ?_⟩
      · cases hz
        exact ⟨_, ew, .dic r'⟩
      · have : c = (p, .dK kvs') := by simpa using hc
        subst this
        exact ⟨upd_same, hF, hB, hfd⟩
      · have : c' = (p, .dK kvs') := by simpa using hc'
        subst this
        exact s3 j i hj c hc (p, .dK kvs) hm
    obtain ⟨p, kvs, e1', hp, hr, fin⟩ := get R1
    refine ⟨.ref p, e1', F1, R1, rmono (rbind q) fun k q v2 F2 H2 S2 r2 => ?_⟩
    have R2 := R1.step S2
    obtain ⟨z, ez, q⟩ := rlift q
    obtain ⟨hl, rfl⟩ := some_if ez
    obtain ⟨p', kvs', e2', hp', hr', fin'⟩ := get R2
    rw [e1'] at e2'
    cases e2'
    cases r2
    have r1 : Rp X.K F2 v (g a) := Rp.mono S2.ff r1
    exact ⟨p, _, rfl, .inl ⟨kvs', .inl k, hp', rfl, by rw [hr'.length]; exact hl, rfl⟩, q σ F2 _ (S1.ff.trans S2.ff) (fin' _ _ (hr'.put r1))⟩⟩
end
end DL
namespace DL
open PySem PySem.Spec PyProof.Rows L2
section
variable {m : Type → Type} [Run m] {α β γ : Type} {X : Cx} {b : Bs} {sl : Sls} {e e1 e2 tg : Expr} {md : Md} {c : m α} {g : α → D} {K : PySem.W.Frag} {fd : Option Addr} {n : Nat} {pos px : Pos} {x : Str} {Z : Type} {out : Z → Oc}
/-- a dict that is new is let stand from here -/
theorem pe_lk {te : TE} (he : PE X e te) : PE X e (fun σ H Q => te σ H fun x H1 => ∃ d kvs, x = .ref d ∧ H1 d = some (.dK kvs) ∧ (kvs.length ≤ sizeLine → ∀ od, Q x (upd H1 d (.frz od (.dK kvs))))) :=
  ⟨fun pins s σ H Q I h => thn (he.run pins s σ H _ I h) fun u s1 ⟨x, H1, I1, rx, d, kvs, ex, hd, q⟩ => by
    obtain ⟨od, I2⟩ := I1.lock hd trivial
    have hz : kvs.length ≤ sizeLine := (I1.hok d _ hd).1
    exact ⟨x, _, I2, rx, q hz od⟩⟩
/-- for k in d: d is new -/
theorem di_keysN {c : m (List (Int × α))} (he : DM X b sl e (.ow 1) c (eM g)) : DI X b sl tg e true (c >>= fun ps => pure (ps.map (·.1))) eI := PI.imp (pi_keys (pe_lk he)) fun σ H R ⟨F, Re, q⟩ => ⟨F, Re, rmono (rbind q) fun ps q v F1 H1 C S o k => by
  have q := rpure q
  have gen : ∀ {v : V} {ds : List (D × D)} {C : List Cell}, Own X.K F1 1 v (.dict ds) C → ∃ p kvs, v = .ref p ∧ C = [(p, .dK kvs)] ∧ RpKV X.K F1 kvs ds := by
    intro v ds C o
    cases o with
    | s a _ => cases a
    | dic r => exact ⟨_, _, rfl, rfl, r⟩
  obtain ⟨p, kvs, rfl, rfl, r⟩ := gen o
  obtain ⟨h1, h2, h3⟩ := k.2 _ List.mem_cons_self
  refine ⟨p, kvs, rfl, h1, fun hz od => ?_⟩
  have pf : b.fd ≠ some p := fun z => by
    obtain ⟨o, e⟩ := Re.fe.some z
    rw [h3] at e; cases e
  have up : upd H1 p (.frz od (.dK kvs)) p = some (.frz od (.dK kvs)) := upd_same
  refine ⟨p, od, rfl, .inl ⟨kvs, up, ?_⟩⟩
  have hl : kvs.length = ps.length := r.length
  have ks : ∀ i : Nat, i < ps.length → ∃ v, kvs[i]? = some (.inl (ps.map (·.1))[i]!, v) := by
    have gen2 : ∀ {ps : List (Int × α)} {kvs : List (Key × V)} (i : Nat), RpKV X.K F1 kvs (mD g ps) → i < ps.length → ∃ v, kvs[i]? = some (.inl (ps.map (·.1))[i]!, v) := by
      intro ps
      induction ps with
      | nil => intro kvs i h hi; simp at hi
      | cons p ps ih =>
        intro kvs i h hi
        obtain ⟨v, vs, rfl, a, t⟩ := h.cons'
        cases i with
        | zero => exact ⟨v, rfl⟩
        | succ i =>
          obtain ⟨w, hw⟩ := ih i t (by simpa using hi)
          exact ⟨w, by simpa using hw⟩
    exact fun i hi => gen2 i r hi
  have hsz : ps.length ≤ sizeLine := by rw [← hl]; exact hz
  refine q (Itk p od kvs) (upd F1 p (.frz od (.dK kvs))) _ (fun F H => F p = some (.frz od (.dK kvs))) ?_ ⟨fun F H i o fh fe hi => ?_, fun F H i x H' d o fh fe hd y => ?_, fun F H o fh fe => ?_, fun F H F' H' o S => S.ff _ _ o⟩ upd_same (fun _ F H F' H' o ff _ => ff _ _ o) (by rw [List.length_map]; exact hsz)
  · have neD : ∀ a o, hid b.fd H1 a = some o → a ≠ p → hid b.fd (upd H1 p (.frz od (.dK kvs))) a = some o := fun a o e ne => by
      by_cases ha : b.fd = some a
      · unfold hid at e; rw [if_pos ha] at e; cases e
      · rw [hid_ne ha] at e ⊢; rw [upd_ne ne]; exact e
    have f1 : Sub F1 (upd F1 p (.frz od (.dK kvs))) := fun a o e => by rw [upd_ne (ne_of_none e h2)]; exact e
    refine ⟨S.ff.trans f1, fun a o e => neD a o (S.hh a o e) (fun z => ?_), fun a o e => ?_, fun q hq e => ?_, S.fe.mono f1 (fun φ e => ?_) fun φ e => upd_ne (fun z => pf (by rw [e, z]))⟩
    · rw [z, hid_ne pf, h3] at e; cases e
    · by_cases ha : a = p
      · subst ha
        rw [upd_same] at e
        rw [hid_ne pf, upd_same]; exact e
      · rw [upd_ne ha] at e
        exact neD a o (S.fh a o e) ha
    · have hqp : q ≠ p := fun z => hq (by rw [z]; exact h3)
      rw [upd_ne hqp]
      exact S.st q hq e
    · rw [upd_ne (fun z => pf (by rw [e, z]))]
      exact (S.fe φ e).1
  · rw [List.length_map, List.length_map] at hi
    exact ⟨hid_sub _ _ (fh _ _ o), by rw [hl]; exact hi⟩
  · obtain ⟨rfl, kk, w, ek, rfl⟩ := y
    have hi : i < ps.length := by
      have := (List.getElem?_eq_some_iff.mp hd).1
      simpa using this
    obtain ⟨w', ew⟩ := ks i hi
    rw [ew] at ek
    cases ek
    refine ⟨F, .refl fh fe, ?_⟩
    have : d = .int (ps.map (·.1))[i]! := by
      rw [List.getElem?_map] at hd
      obtain ⟨z, hz, rfl⟩ := Option.map_eq_some_iff.mp hd
      have : (ps.map (·.1))[i]! = z := by rw [List.getElem!_eq_getElem?_getD, hz]; rfl
      rw [this]; rfl
    rw [this]
    exact .int _
  · rw [List.length_map, List.length_map]
    exact ⟨hid_sub _ _ (fh _ _ o), by omega⟩⟩
end
end DL
namespace DL
open PySem PySem.Spec PyProof.Rows L2
/-! ### for the plain laws: sorting that the kernel can do -/
def mrg : Nat → List Int → List Int → List Int
  | 0, xs, ys => xs ++ ys
  | _ + 1, [], ys => ys
  | _ + 1, x :: xs, [] => x :: xs
  | n + 1, x :: xs, y :: ys => if x ≤ y then x :: mrg n xs (y :: ys) else y :: mrg n (x :: xs) ys
def msort : Nat → List Int → List Int
  | 0, xs => xs
  | n + 1, xs => match xs with
    | [] => []
    | [x] => [x]
    | x :: y :: r => mrg (x :: y :: r).length (msort n ((x :: y :: r).take ((x :: y :: r).length / 2))) (msort n ((x :: y :: r).drop ((x :: y :: r).length / 2)))
theorem mrg_perm : ∀ (n : Nat) (xs ys : List Int), (mrg n xs ys).Perm (xs ++ ys)
  | 0, _, _ => .refl _
  | _ + 1, [], _ => .refl _
  | _ + 1, x :: xs, [] => by
    show (x :: xs).Perm (x :: xs ++ [])
    rw [List.append_nil]
  | n + 1, x :: xs, y :: ys => by
    show (if x ≤ y then x :: mrg n xs (y :: ys) else y :: mrg n (x :: xs) ys).Perm _
    split
    · exact (mrg_perm n xs (y :: ys)).cons x
    · have h := (mrg_perm n (x :: xs) ys).cons y
      exact h.trans (List.perm_middle.symm)
theorem msort_perm : ∀ (n : Nat) (xs : List Int), (msort n xs).Perm xs
  | 0, _ => .refl _
  | _ + 1, [] => .refl _
  | _ + 1, [_] => .refl _
  | n + 1, x :: y :: r => by
    show (mrg _ _ _).Perm _
    refine (mrg_perm _ _ _).trans ?_
    have h := (msort_perm n ((x :: y :: r).take ((x :: y :: r).length / 2))).append (msort_perm n ((x :: y :: r).drop ((x :: y :: r).length / 2)))
    rwa [List.take_append_drop] at h
def asc : List Int → Bool
  | [] => true
  | [_] => true
  | x :: y :: r => decide (x < y) && asc (y :: r)
def ascE : List Int → Bool
  | [] => true
  | [_] => true
  | x :: y :: r => decide (x ≤ y) && ascE (y :: r)
theorem asc_pw : ∀ {l : List Int}, asc l = true → l.Pairwise (· < ·)
  | [], _ => .nil
  | [_], _ => List.pairwise_singleton _ _
  | x :: y :: r, h => by
    have h : decide (x < y) = true ∧ asc (y :: r) = true := by simpa [asc] using h
    have ih := asc_pw h.2
    have h1 := of_decide_eq_true h.1
    refine List.pairwise_cons.mpr ⟨fun z hz => ?_, ih⟩
    rcases List.mem_cons.mp hz with rfl | hz
    · exact h1
    · have := (List.pairwise_cons.mp ih).1 z hz
      omega
theorem ascE_pw : ∀ {l : List Int}, ascE l = true → l.Pairwise (· ≤ ·)
  | [], _ => .nil
  | [_], _ => List.pairwise_singleton _ _
  | x :: y :: r, h => by
    have h : decide (x ≤ y) = true ∧ ascE (y :: r) = true := by simpa [ascE] using h
    have ih := ascE_pw h.2
    have h1 := of_decide_eq_true h.1
    refine List.pairwise_cons.mpr ⟨fun z hz => ?_, ih⟩
    rcases List.mem_cons.mp hz with rfl | hz
    · exact h1
    · have := (List.pairwise_cons.mp ih).1 z hz
      omega
/-- all different, shown by sorting -/
def nodupB (xs : List Int) : Bool := asc (msort 20 xs)
theorem nodup_of {xs : List Int} (h : nodupB xs = true) : xs.Nodup := by
  have p := msort_perm 20 xs
  have h := asc_pw h
  have n : (msort 20 xs).Nodup := h.imp fun {a b} (hab : a < b) => by omega
  exact p.nodup_iff.mp n
theorem lsort_msort {xs : List Int} (h : ascE (msort 20 xs) = true) : lsort xs = msort 20 xs := (lsort_eq (msort_perm 20 xs) (ascE_pw h)).symm
/-! ### a program told in both monads -/
section
variable {α β γ S R : Type}
/-- the one with draws does what the plain one does -/
def Tw (w : W α) (o : Option α) : Prop := ∀ a, o = some a → w.wp fun b => b = a
theorem tw_run {w : W α} {o : Option α} {z : α} (h : Tw w o) (e : o = some z) : w.wp fun b => b = z := h z e
theorem tw_pure {a : α} : Tw (pure a) (pure a) := fun b e => by cases e; rfl
theorem tw_lift {o : Option α} : Tw (Run.lift o) o := fun b e => ⟨b, e, rfl⟩
theorem tw_bind {w : W α} {o : Option α} {f : α → W β} {g : α → Option β} (h : Tw w o) (k : ∀ a, Tw (f a) (g a)) : Tw (w >>= f) (o >>= g) := fun b e => by
  cases o with
  | none => cases e
  | some a => exact W.mono w _ _ (fun c ec => by subst ec; exact k c b e) (h a rfl)
theorem tw_ite {c : Prop} [Decidable c] {x y : W α} {x' y' : Option α} (h : Tw x x') (k : Tw y y') : Tw (if c then x else y) (if c then x' else y') := by
  split
  · exact h
  · exact k
theorem tw_forC {f : S → α → W (Ct S R)} {g : S → α → Option (Ct S R)} (h : ∀ s x, Tw (f s x) (g s x)) {s : S} {xs : List α} : Tw (forC f s xs) (forC g s xs) := fun z e => forC_o (fun s x z e => h s x z e) e
theorem tw_forS {f : S → α → W S} {g : S → α → Option S} (h : ∀ s x, Tw (f s x) (g s x)) : ∀ {xs : List α} {s : S}, Tw (forS f s xs) (forS g s xs)
  | [], s => tw_pure
  | x :: xs, s => tw_bind (h s x) fun s' => tw_forS h
theorem tw_lcM {t : α → W Bool} {e : α → W β} {t' : α → Option Bool} {e' : α → Option β} (ht : ∀ x, Tw (t x) (t' x)) (he : ∀ x, Tw (e x) (e' x)) {xs : List α} : Tw (lcM t e xs) (lcM t' e' xs) := fun ys h => wlc (fun x b h => ht x b h) (fun x b h => he x b h) h
theorem tw_go {Z : Type} {z : Ct S R} {k : S → W Z} {f : R → W Z} {k' : S → Option Z} {f' : R → Option Z} (hk : ∀ s, Tw (k s) (k' s)) (hf : ∀ r, Tw (f r) (f' r)) : Tw (z.go k f) (z.go k' f') := by
  cases z with
  | nx s => exact hk s
  | rt r => exact hf r
  | bk s => exact hk s
end
/-! ### dicts that only grow -/
theorem dget_none {α : Type} {ps : List (Int × α)} {k : Int} : dget ps k = none ↔ k ∉ ps.map (·.1) := by
  unfold dget
  rw [Option.map_eq_none_iff, List.find?_eq_none]
  constructor
  · intro h hm
    obtain ⟨p, hp, e⟩ := List.mem_map.mp hm
    exact h p hp (by simp [e])
  · intro h p hp e
    exact h (List.mem_map.mpr ⟨p, hp, by simpa using e⟩)
theorem dput_new {α : Type} {ps : List (Int × α)} {k : Int} {a : α} (h : k ∉ ps.map (·.1)) : dput ps k a = ps ++ [(k, a)] := by
  unfold dput
  rw [if_neg]
  intro e
  rw [List.any_eq_true] at e
  obtain ⟨p, hp, e⟩ := e
  exact h (List.mem_map.mpr ⟨p, hp, by simpa using e⟩)
theorem forS_puts {α : Type} {a : α} {f : List (Int × α) → Int → Option (List (Int × α))} (hf : ∀ s x, f s x = dputL s x a) : ∀ (more : List Int) (ps : List (Int × α)), (ps.map (·.1) ++ more).Nodup → ps.length + more.length ≤ 16777216 → forS f ps more = some (ps ++ more.map fun x => (x, a))
  | [], ps, _, _ => by simp [forS]
  | x :: more, ps, h, hl => by
    show (f ps x >>= fun s' => forS f s' more) = _
    have hx : x ∉ ps.map (·.1) := fun hm => by
      have := (List.nodup_append.mp h).2.2 x hm x (by simp)
      exact this rfl
    rw [hf]
    unfold dputL
    rw [if_pos (by simp at hl; omega), dput_new hx]
    show forS f (ps ++ [(x, a)]) more = _
    rw [forS_puts hf more _ (by simpa using h) (by simp at hl ⊢; omega)]
    simp
end DL
namespace DL
open PySem PySem.Spec PyProof.Rows L2
/-! ### what is ours, deep: sorted, taken out -/
section
variable {m : Type → Type} [Run m] {α β γ : Type} {X : Cx} {b : Bs} {sl : Sls} {e e1 e2 : Expr} {md : Md} {g : α → D} {K : PySem.W.Frag} {F : Hp} {n : Nat} {pos px : Pos}
theorem OwnAll.perm {bs bs' : List (V × α)} (p : bs.Perm bs') : ∀ {C : List Cell}, OwnAll K F n (bs.map (·.1)) (bs.map fun b => g b.2) C → ∃ C', OwnAll K F n (bs'.map (·.1)) (bs'.map fun b => g b.2) C' ∧ C'.Perm C := by
  induction p with
  | nil => exact fun h => ⟨_, h, .refl _⟩
  | cons x p ih =>
    intro C h
    cases h with
    | cons a t =>
      obtain ⟨C', h1, h2⟩ := ih t
      exact ⟨_, .cons a h1, h2.append_left _⟩
  | swap x y l =>
    intro C h
    cases h with
    | cons a t =>
      cases t with
      | cons a2 t2 =>
        refine ⟨_, .cons a2 (.cons a t2), ?_⟩
        rw [← List.append_assoc, ← List.append_assoc]
        exact (List.perm_append_comm).append_right _
  | trans p q ih1 ih2 =>
    intro C h
    obtain ⟨C1, h1, p1⟩ := ih1 h
    obtain ⟨C2, h2, p2⟩ := ih2 h1
    exact ⟨C2, h2, p2.trans p1⟩
theorem OwnAll.get' {vs : List V} {ds : List D} {C : List Cell} (h : OwnAll K F n vs ds C) {k : Nat} {d : D} (e : ds[k]? = some d) : ∃ v C', vs[k]? = some v ∧ Own K F n v d C' ∧ C'.Sublist C := by
  induction ds generalizing vs C k with
  | nil => simp at e
  | cons x ds ih =>
    cases h with
    | cons a t =>
      cases k with
      | zero => simp at e; subst e; exact ⟨_, _, rfl, a, List.sublist_append_left _ _⟩
      | succ k =>
        obtain ⟨v, C', e1, e2, e3⟩ := ih t (by simpa using e)
        exact ⟨v, C', by simpa using e1, e2, e3.trans (List.sublist_append_right _ _)⟩
theorem Holds.sub {C C' : List Cell} {F' H' H : Hp} (h : Holds C F' H' H) (s : C'.Sublist C) : Holds C' F' H' H := ⟨(s.map _).nodup h.1, fun c hc => h.2 c (s.subset hc)⟩
theorem Holds.perm {C C' : List Cell} {F' H' H : Hp} (h : Holds C F' H' H) (s : C'.Perm C) : Holds C' F' H' H := ⟨(s.map _).nodup_iff.mpr h.1, fun c hc => h.2 c (s.mem_iff.mp hc)⟩
/-- sorted of a list whose things are ours -/
theorem dm_sortedO [S : Srt g] {c : m (List α)} (hu : X.A.units + 64 < cLine) (hm : X.mg "sorted" = none) (he : DM X b sl e (.ow (n + 1)) c (eL g)) (hg : Gl X "sorted" := by rfl) (hs : starEach [e] X.env = (false, eval e X.env) :: starEach [] X.env := by rfl) :
    DM X b sl (.Call (.Name "sorted" px) [e] [] pos) (.ow (n + 1)) (c >>= fun x => pure (lsortD g x)) (eL g) := PE.imp (pe_callB (call_sortedD (g := g) hu) hg hm bo_sorted (pa_cons he pa_nil hs) (by decide) (by decide) hs) fun σ H Q ⟨F, R, q⟩ => ⟨F, R, rmono (rbind q) fun x q v F1 H1 C S1 o1 k1 => by
  have q := rpure q
  cases o1 with
  | s a _ => cases a
  | lst o l =>
    rename_i p vs C1
    have hC := k1.sub (List.sublist_cons_self _ _)
    have hp := (k1.2 _ List.mem_cons_self).1
    have hlen : vs.length = x.length := by rw [o.length, List.length_map]
    have e1 : (vs.zip x).map (·.1) = vs := List.map_fst_zip (by omega)
    have e2 : (vs.zip x).map (·.2) = x := List.map_snd_zip (by omega)
    have sub : Sub F1 H1 := S1.fh.trans hid_sub
    have rp : RpAll X.K H1 vs (x.map g) := o.rp sub fun c hc => (hC.2 c hc).1
    obtain ⟨_, _, z3⟩ := rp.zip
    refine ⟨p, vs.zip x, rfl, by rw [e1]; exact .inl (.inl hp), fun b hb => ⟨z3 b hb, S.plain _, S.depth _⟩, PySem.W.AllAlike.of (fun b b' => S.alike _ _), ?_, fun p' np => ?_⟩
    · rcases S.sortable with h | h
      · exact PySem.W.Sortable.tuples fun b => h b.2
      · exact PySem.W.Sortable.others fun b => h b.2
    · have R1 := R.step S1
      have o2 : OwnAll X.K F1 n ((vs.zip x).map (·.1)) ((vs.zip x).map fun b => g b.2) C1 := by
        rw [e1, show ((vs.zip x).map fun b => g b.2) = ((vs.zip x).map (·.2)).map g by rw [List.map_map]; rfl, e2]
        exact o
      obtain ⟨C2, o3, p3⟩ := o2.perm (List.mergeSort_perm (vs.zip x) (PySem.W.dataLe false fun b => g b.2)).symm
      have o4 : OwnAll X.K F1 n (((vs.zip x).mergeSort (PySem.W.dataLe false fun b => g b.2)).map (·.1)) ((lsortD g x).map g) C2 := by
        have := srt_zip (g := g) (bs := vs.zip x)
        rw [e2] at this
        rw [← this, List.map_map]
        exact o3
      have A := Step.alloc (K := X.K) (o := .lst (((vs.zip x).mergeSort (PySem.W.dataLe false fun b => g b.2)).map (·.1))) R1.sub R1.fe np
      have k2 := (hC.perm p3).step R.fe S1 A
      refine q (.ref p') F1 _ ((p', _) :: C2) (S1.trans R.fe A) (.lst o4 ?_) ?_
      · have : (lsortD g x).length = x.length := List.length_mergeSort _
        rw [List.length_map, this]
        simpa using l
      · refine ⟨?_, fun c hc => ?_⟩
        · rw [List.map_cons, List.nodup_cons]
          refine ⟨fun hm => ?_, (hC.perm p3).1⟩
          obtain ⟨c, hc, e⟩ := List.mem_map.mp hm
          have q := ((hC.perm p3).2 c hc).1
          rw [e, np] at q; cases q
        · rcases List.mem_cons.mp hc with rfl | hc
          · exact ⟨upd_same, (R1.sub.trans hid_sub).none np, S1.fresh R.fe np⟩
          · exact k2.2 c hc⟩
/-- e[k]: of a new list whose things are ours -/
theorem dm_ixO {c : m (List α)} {ck : m Int} (ha : DM X b sl e1 (.ow (n + 1)) c (eL g)) (hk : DA X b sl e2 .pk ck eI) (hs : PlainIx e2) : DM X b sl (.Subscript e1 e2 pos) (.ow n) (c >>= fun x => ck >>= fun k => Run.lift (atI x k)) g := PE.imp (pe_ix ix_list ha hk hs) fun σ H Q ⟨F, R, q⟩ => ⟨F, R, rmono (rbind q) fun x q v F1 H1 C S1 o1 k1 => by
  have R1 := R.step S1
  refine ⟨F1, R1, rmono (rbind q) fun k q v2 F2 H2 S2 r2 => ?_⟩
  cases r2
  obtain ⟨z, ez, q⟩ := rlift q
  cases o1 with
  | s a _ => cases a
  | lst o l =>
    rename_i p vs C1
    have hp := ((k1.step R.fe S1 S2).2 _ List.mem_cons_self).1
    have hC := (k1.sub (List.sublist_cons_self _ _)).step R.fe S1 S2
    unfold L2.atI at ez
    obtain ⟨j, ej, er⟩ := Option.bind_eq_some_iff.mp ez
    obtain ⟨w, C', ew, ow, sc⟩ := (o.mono S2.ff).get' (k := j) (d := g z) (by rw [List.getElem?_map, er]; rfl)
    refine ⟨p, vs, k, w, rfl, rfl, .inl (.inl hp), ?_, q w F2 H2 C' (S1.trans R.fe S2) ow (hC.sub sc)⟩
    have hlen : vs.length = x.length := by rw [o.length, List.length_map]
    unfold L2.atI
    rw [hlen, ej]
    exact ew⟩
end
end DL
namespace DL
open PySem PySem.Spec PyProof.Rows L2
/-! ### xs[k].append(e) -/
section
variable {K : PySem.W.Frag} {b : Bs} {sl : Sls} {F H F1 H1 : Hp} {σ : L2.St}
theorem OwnAll.app2 {vs : List V} {ds : List D} {C : List Cell} (h : OwnAll K F 1 vs ds C) {k : Nat} {es : List D} (e : ds[k]? = some (.list es)) : ∃ q us A B, vs[k]? = some (.ref q) ∧ C = A ++ (q, HO.lst us) :: B ∧ RpAll K F us es ∧ es.length ≤ sizeLine ∧
    ∀ us' es', RpAll K F us' es' → es'.length ≤ sizeLine → OwnAll K F 1 vs (ds.set k (.list es')) (A ++ (q, HO.lst us') :: B) := by
  induction ds generalizing vs C k with
  | nil => simp at e
  | cons x ds ih =>
    cases h with
    | cons a t =>
      rename_i v vs C1 C2
      cases k with
      | zero =>
        simp at e
        subst e
        cases a with
        | s a _ => cases a
        | lst o l =>
          rename_i q us C0
          obtain ⟨r, rfl⟩ := o.zero'
          exact ⟨q, us, [], C2, rfl, rfl, r, l, fun us' es' r' l' => OwnAll.cons (C1 := [(q, HO.lst us')]) (.lst (OwnAll.zero r') l') t⟩
      | succ k =>
        obtain ⟨q, us, A, B, e1, e2, e3, e4, e5⟩ := ih t (by simpa using e)
        subst e2
        refine ⟨q, us, C1 ++ A, B, by simpa using e1, by rw [List.append_assoc], e3, e4, fun us' es' r' l' => ?_⟩
        rw [List.append_assoc]
        exact .cons a (e5 us' es' r' l')
theorem Rel.app2 (R : Rel K b sl F H σ) {i k : Nat} {ds es : List D} (e : sl[i]? = some (some (.o 2 (.list ds)))) (ek : ds[k]? = some (.list es)) :
    ∃ p vs q us, σ[i]? = some (some (.ref p)) ∧ hid b.fd H p = some (.lst vs) ∧ vs.length = ds.length ∧ vs[k]? = some (.ref q) ∧ H q = some (.lst us) ∧ b.fd ≠ some q ∧ RpAll K F us es ∧ es.length ≤ sizeLine ∧
      ∀ us' es', RpAll K F us' es' → es'.length ≤ sizeLine → Rel K b (sl.set i (some (.o 2 (.list (ds.set k (.list es')))))) F (upd H q (.lst us')) σ := by
  obtain ⟨Cs, s1, s2, s3⟩ := R.slots
  obtain ⟨w, e1, r⟩ := s1 i _ e
  generalize hCi : Cs i = C at r
  cases r with
  | s a _ => cases a
  | lst oa l =>
    rename_i p vs C
    obtain ⟨q, us, A, B, e2, e3, e4, e5, e6⟩ := oa.app2 ek
    subst e3
    have hm : (p, HO.lst vs) ∈ Cs i := by rw [hCi]; exact List.mem_cons_self
    have hq : (q, HO.lst us) ∈ Cs i := by rw [hCi]; simp
    obtain ⟨hp, hF, hB, hfd⟩ := (s2 i).2 _ hm
    obtain ⟨kp, kF, kB, kfd⟩ := (s2 i).2 _ hq
    have nd := (s2 i).1
    rw [hCi] at nd
    refine ⟨p, vs, q, us, e1, by rw [hid_ne hfd]; exact hp, oa.length, e2, kp, kfd, e4, e5, fun us' es' r' l' => R.core Cs s1 s2 s3 hq (C' := (p, .lst vs) :: (A ++ (q, .lst us') :: B)) (fun z hz _ => ?_) ?_ (fun c hc => ?_) fun j hj c hc c' hc' => ?_⟩
    · cases hz
      exact ⟨_, e1, .lst (e6 us' es' r' l') (by rw [List.length_set]; exact l)⟩
    · simpa using nd
    · have nd' : ∀ c : Cell, c = (p, HO.lst vs) ∨ c ∈ A ∨ c ∈ B → c.1 ≠ q ∧ c ∈ Cs i := fun c hc => by
        have nd2 : p ≠ q ∧ (∀ x ∈ A, x.1 ≠ q) ∧ ∀ x ∈ B, x.1 ≠ q := by
          rw [List.map_cons, List.map_append, List.map_cons, List.nodup_cons, List.nodup_append, List.nodup_cons] at nd
          refine ⟨fun z => nd.1 (by simp [z]), fun x hx z => ?_, fun x hx z => ?_⟩
          · exact nd.2.2.2 x.1 (List.mem_map.mpr ⟨x, hx, rfl⟩) q (by simp) z
          · exact nd.2.2.1.1 (List.mem_map.mpr ⟨x, hx, z⟩)
        rcases hc with rfl | hc | hc
        · exact ⟨nd2.1, hm⟩
        · exact ⟨nd2.2.1 c hc, by rw [hCi]; simp [hc]⟩
        · exact ⟨nd2.2.2 c hc, by rw [hCi]; simp [hc]⟩
      have hc : c = (p, HO.lst vs) ∨ c ∈ A ∨ c = (q, HO.lst us') ∨ c ∈ B := by simpa using hc
      by_cases hcq : c = (q, HO.lst us')
      · subst hcq
        exact ⟨upd_same, kF, kB, kfd⟩
      · have : c = (p, HO.lst vs) ∨ c ∈ A ∨ c ∈ B := by
          rcases hc with h | h | h | h
          · exact .inl h
          · exact .inr (.inl h)
          · exact absurd h hcq
          · exact .inr (.inr h)
        obtain ⟨n1, n2⟩ := nd' c this
        rw [upd_ne n1]
        exact (s2 i).2 c n2
    · have : ∃ c2 ∈ Cs i, c2.1 = c'.1 := by
        have hc' : c' = (p, HO.lst vs) ∨ c' ∈ A ∨ c' = (q, HO.lst us') ∨ c' ∈ B := by simpa using hc'
        rcases hc' with rfl | h | rfl | h
        · exact ⟨_, hm, rfl⟩
        · exact ⟨c', by rw [hCi]; simp [h], rfl⟩
        · exact ⟨_, hq, rfl⟩
        · exact ⟨c', by rw [hCi]; simp [h], rfl⟩
      obtain ⟨c2, h2, e2⟩ := this
      rw [← e2]
      exact s3 j i hj c hc c2 h2
end
def lappI {α : Type} (xs : List (List α)) (k : Int) (y : α) : Option (List (List α)) := (ixN xs.length k).bind fun j => (xs[j]?).bind fun row => (lapp row y).map fun r => xs.set j r
section
variable {m : Type → Type} [Run m] {α β γ : Type} {X : Cx} {b : Bs} {sl : Sls} {e e1 e2 : Expr} {md : Md} {g : α → D} {K : PySem.W.Frag} {n : Nat} {pos apos cpos spos px : Pos} {x : Str}
theorem ds_appI (i : Nat) {c : m α} {ck : m Int} (xs : List (List α)) (hk : DA X b sl e1 .pk ck eI) (hsx : PlainIx e1) (he : DA X b sl e .fr c g) (hx : sl[i]? = some (some (.o 2 (eL (eL g) xs)))) (hN : X.N[i]? = some x := by rfl) (hv : Vis X.env.scope x := by first | exact Or.inl rfl | exact Or.inr (Or.inl rfl) | exact Or.inr (Or.inr rfl)) (hd : (x == ("__debug__" : Str)) = false := by decide)
    (hcd : (x == ("__classdict__" : Str)) = false := by decide) (hbase : attributeBase (.Subscript (.Name x px) e1 pos) "append" X.env (eval (.Subscript (.Name x px) e1 pos) X.env) = eval (.Subscript (.Name x px) e1 pos) X.env := by rfl)
    (hfew : ((backTo cpos (starEach [e] X.env)).all (fun x => !x.1) && (backToKw cpos (keywordEach [] X.env)).all (fun x => x.1.isSome) && decide ([e].length + ([] : List Keyword).length + (if ([] : List Keyword).isEmpty then 0 else 1) < 30)) = true := by rfl)
    (hline : (apos.endLine == cpos.line) = true := by rfl) (hs : starEach [e] X.env = (false, eval e X.env) :: starEach [] X.env := by rfl) (hplain : (backTo cpos (starEach [] X.env)).any (·.1) = false := by rfl)
    (hsw : swapsWith (.Call (.Attribute (.Subscript (.Name x px) e1 pos) "append" apos) [e] [] cpos) none spos.line X.env = pure false := by rfl) :
    DS1 X b sl (.Expr (.Call (.Attribute (.Subscript (.Name x px) e1 pos) "append" apos) [e] [] cpos) spos) (ck >>= fun k => (Run.lift (atI xs k) : m (List α)) >>= fun _ => c >>= fun y => Run.lift (lappI xs k y)) (fun zs => .nx (sl.set i (some (.o 2 (eL (eL g) zs))))) :=
  PS.imp (ps_expr (pe_bm PySem.F.plainAttrs_list PySem.F.slot_list_append PySem.F.type_list_append mt_append (pe_ix ix_list (pe_var hN hv hd hcd) hk hsx) (pa_cons he pa_nil hs) hbase hfew hline hs hplain) hsw) fun E σ H ⟨F, R, q⟩ => by
    obtain ⟨p, vs, e1', hp, hfd, hlen, _⟩ := R.spoil hx
    refine ⟨.ref p, e1', F, R, rmono (rbind q) fun k q v F1 H1 S1 r1 => ?_⟩
    have R1 := R.step S1
    cases r1
    obtain ⟨row, er, q⟩ := rlift (rbind q)
    unfold L2.atI at er
    obtain ⟨j, ej, er⟩ := Option.bind_eq_some_iff.mp er
    have ek : (xs.map (eL g))[j]? = some (.list (row.map g)) := by rw [List.getElem?_map, er]; rfl
    obtain ⟨p1, vs1, qq, us, e2', hp1, hl1, ev, hq, hfq, hru, hlu, fin⟩ := R1.app2 hx ek
    rw [e1'] at e2'
    cases e2'
    have hl2 : vs1.length = xs.length := by rw [hl1, List.length_map]
    refine ⟨p, vs1, k, .ref qq, rfl, rfl, SqL.of (hid_sub _ _ hp1), by unfold L2.atI; rw [hl2, ej]; exact ev, .inl ⟨rfl, us, SqL.of hq⟩, F1, R1, rmono (rbind q) fun y q v F2 H2 S2 r2 => ?_⟩
    have R2 := R1.step S2
    obtain ⟨p2, vs2, q2, us2, e3', hp2, hl3, ev2, hq2, hfq2, hru2, hlu2, fin2⟩ := R2.app2 hx ek
    rw [e1'] at e3'
    cases e3'
    have hps := S2.hh _ _ hp1
    rw [hps] at hp2
    cases hp2
    rw [ev] at ev2
    cases ev2
    obtain ⟨z, ez, q⟩ := rlift q
    unfold lappI at ez
    rw [ej] at ez
    have ez : ((xs[j]?).bind fun row => (lapp row y).map fun r => xs.set j r) = some z := ez
    rw [er] at ez
    have ez : ((lapp row y).map fun r => xs.set j r) = some z := ez
    obtain ⟨r, er2, rfl⟩ := Option.map_eq_some_iff.mp ez
    obtain ⟨hz, rfl⟩ := lapp_ok er2
    have hlen2 : us2.length = row.length := by rw [hru2.length, List.length_map]
    have hz2 : (row.map g ++ [g y]).length ≤ sizeLine := by rw [List.length_append, List.length_map]; exact hz
    have := fin2 (us2 ++ [v]) (row.map g ++ [g y]) (hru2.append (.one r2)) hz2
    refine ⟨qq, us2, v, rfl, rfl, hq2, by rw [hlen2]; exact hz, q σ F2 _ (S1.ff.trans S2.ff) ?_⟩
    have ee : (xs.map (eL g)).set j (.list (row.map g ++ [g y])) = (xs.set j (row ++ [y])).map (eL g) := by
      have e3 : PyData.list (row.map g ++ [g y]) = eL g (row ++ [y]) := by
        show _ = PyData.list ((row ++ [y]).map g)
        rw [List.map_append]
        rfl
      rw [e3, List.map_set]
    rw [ee] at this
    exact this
end
/-! ### count and index, of ints -/
def lidx (xs : List Int) (k : Int) : Option Int := (xs.findIdx? (fun x => x == k)).map fun j : Nat => (j : Int)
section
variable {m : Type → Type} [Run m] {X : Cx} {b : Bs} {sl : Sls} {e1 e2 : Expr} {md : Md} {apos cpos : Pos}
theorem dm_cnt {c : m (List Int)} {ck : m Int} (ho : DA X b sl e1 .pk c (eL eI)) (hk : DA X b sl e2 .pk ck eI)
    (hbase : attributeBase e1 "count" X.env (eval e1 X.env) = eval e1 X.env := by rfl)
    (hfew : ((backTo cpos (starEach [e2] X.env)).all (fun x => !x.1) && (backToKw cpos (keywordEach [] X.env)).all (fun x => x.1.isSome) && decide ([e2].length + ([] : List Keyword).length + (if ([] : List Keyword).isEmpty then 0 else 1) < 30)) = true := by rfl)
    (hline : (apos.endLine == cpos.line) = true := by rfl) (hs : starEach [e2] X.env = (false, eval e2 X.env) :: starEach [] X.env := by rfl) (hplain : (backTo cpos (starEach [] X.env)).any (·.1) = false := by rfl) :
    DM X b sl (.Call (.Attribute e1 "count" apos) [e2] [] cpos) md (c >>= fun xs => ck >>= fun k => pure (List.count k xs : Int)) eI :=
  PE.imp (pe_bm PySem.F.plainAttrs_list PySem.F.slot_list_count PySem.F.type_list_count mt_lcount ho (pa_cons hk pa_nil hs) hbase hfew hline hs hplain) fun σ H Q ⟨F, R, q⟩ => ⟨F, R, rmono (rbind q) fun xs q v F1 H1 S1 r1 => by
    cases r1 with
    | lst hp ra l =>
      obtain rfl := ra.ints
      refine ⟨.inl ⟨rfl, _, SqL.of (hid_sub _ _ hp)⟩, F1, R.step S1, rmono (rbind q) fun k q w F2 H2 S2 r2 => ?_⟩
      have q := rpure q
      cases r2
      have R2 := (R.step S1).step S2
      exact ⟨_, xs, k, rfl, rfl, SqL.of (hid_sub _ _ (S2.hh _ _ hp)), Post.sc R2.sub R2.fe (q.back R.fe (S1.trans R.fe S2)) rfl (.int _)⟩⟩
theorem dm_idx {c : m (List Int)} {ck : m Int} (ho : DA X b sl e1 .pk c (eL eI)) (hk : DA X b sl e2 .pk ck eI)
    (hbase : attributeBase e1 "index" X.env (eval e1 X.env) = eval e1 X.env := by rfl)
    (hfew : ((backTo cpos (starEach [e2] X.env)).all (fun x => !x.1) && (backToKw cpos (keywordEach [] X.env)).all (fun x => x.1.isSome) && decide ([e2].length + ([] : List Keyword).length + (if ([] : List Keyword).isEmpty then 0 else 1) < 30)) = true := by rfl)
    (hline : (apos.endLine == cpos.line) = true := by rfl) (hs : starEach [e2] X.env = (false, eval e2 X.env) :: starEach [] X.env := by rfl) (hplain : (backTo cpos (starEach [] X.env)).any (·.1) = false := by rfl) :
    DM X b sl (.Call (.Attribute e1 "index" apos) [e2] [] cpos) md (c >>= fun xs => ck >>= fun k => Run.lift (lidx xs k)) eI :=
  PE.imp (pe_bm PySem.F.plainAttrs_list PySem.F.slot_list_index PySem.F.type_list_index mt_index ho (pa_cons hk pa_nil hs) hbase hfew hline hs hplain) fun σ H Q ⟨F, R, q⟩ => ⟨F, R, rmono (rbind q) fun xs q v F1 H1 S1 r1 => by
    cases r1 with
    | lst hp ra l =>
      obtain rfl := ra.ints
      refine ⟨.inl ⟨rfl, _, SqL.of (hid_sub _ _ hp)⟩, F1, R.step S1, rmono (rbind q) fun k q w F2 H2 S2 r2 => ?_⟩
      cases r2
      obtain ⟨z, ez, q⟩ := rlift q
      have R2 := (R.step S1).step S2
      unfold lidx at ez
      obtain ⟨j, ej, rfl⟩ := Option.map_eq_some_iff.mp ez
      rw [List.findIdx?_eq_some_iff_getElem] at ej
      obtain ⟨hj, h1, h2⟩ := ej
      refine ⟨_, xs.map V.int, .int k, j, .int xs[j], rfl, rfl, SqL.of (hid_sub _ _ (S2.hh _ _ hp)), rfl, ?_, by rw [List.getElem?_map, List.getElem?_eq_getElem hj]; rfl, ?_, fun i z' hi hz => ?_, Post.sc R2.sub R2.fe (q.back R.fe (S1.trans R.fe S2)) rfl (.int _)⟩
      · rw [List.all_map]; exact List.all_eq_true.mpr fun _ _ => rfl
      · show (xs[j] == k) = true
        exact h1
      · rw [List.getElem?_map, List.getElem?_eq_getElem (by omega)] at hz
        cases hz
        have := h2 i hi
        show (xs[i] == k) = false
        simpa using this⟩
end
end DL
namespace DL
open PySem PySem.Spec PyProof.Rows L2
/-! ### constants of the module: tuples of plain things -/
def isTupC : Value → Bool
  | .type t => t == "tuple"
  | _ => false
def all2 {α β : Type} (f : α → β → Bool) : List α → List β → Bool
  | [], [] => true
  | x :: xs, y :: ys => f x y && all2 f xs ys
  | _, _ => false
def readsK (K : PySem.W.Frag) : Nat → Value → D → Bool
  | 0, _, _ => false
  | n + 1, v, d => match d with
    | .int j => match v with
      | .int i _ => i == j
      | _ => false
    | .bool j => match v with
      | .bool i => i == j
      | _ => false
    | .str j => match v with
      | .str i _ => decide (i = j)
      | _ => false
    | .none => match v with
      | .none => true
      | _ => false
    | .tuple ds => match v with
      | .ref a => match K.lookup a with
        | some o => isTupC o.cls && (match o.data with
          | .seq its _ => decide (its.size ≤ 16777216) && all2 (readsK K n) its.toList ds
          | _ => false)
        | none => false
      | _ => false
    | _ => false
theorem readsK_ok {K : PySem.W.Frag} : ∀ (n : Nat) (v : Value) (d : D), readsK K n v d = true → ∃ x, RelV x v ∧ ∀ F, Rp K F x d
  | 0, _, _, h => by cases h
  | n + 1, v, d, h => by
    unfold readsK at h
    cases d with
    | int j =>
      cases v with
      | int i t =>
        have e : i = j := by simpa using h
        subst e
        exact ⟨.int i, ⟨t, rfl⟩, fun F => .int i⟩
      | _ => cases h
    | bool j =>
      cases v with
      | bool i =>
        have e : i = j := by simpa using h
        subst e
        exact ⟨.bl i, rfl, fun F => .bl i⟩
      | _ => cases h
    | str j =>
      cases v with
      | str i t =>
        have e : i = j := of_decide_eq_true h
        subst e
        exact ⟨.str i, ⟨t, rfl⟩, fun F => .str i⟩
      | _ => cases h
    | none =>
      cases v with
      | none => exact ⟨.non, rfl, fun F => .non⟩
      | _ => cases h
    | tuple ds =>
      cases v with
      | ref a =>
        dsimp only at h
        cases hl : K.lookup a with
        | none => rw [hl] at h; cases h
        | some o =>
          rw [hl] at h
          dsimp only at h
          rw [Bool.and_eq_true] at h
          obtain ⟨h1, h2⟩ := h
          cases hd : o.data with
          | seq its ep =>
            rw [hd] at h2
            dsimp only at h2
            rw [Bool.and_eq_true] at h2
            obtain ⟨h3, h4⟩ := h2
            have h3 := of_decide_eq_true h3
            have hc : o.cls = .type "tuple" := by
              unfold isTupC at h1
              split at h1
              · rename_i t e
                rw [e]
                congr 1
                simpa using h1
              · cases h1
            have go : ∀ (us : List Value) (ds : List D), all2 (readsK K n) us ds = true → ∃ xs : List V, Vals xs us ∧ (∀ F, RpAll K F xs ds) ∧ us.length = ds.length := by
              intro us
              induction us with
              | nil =>
                intro ds h
                cases ds with
                | nil => exact ⟨[], .nil, fun F => .nil, rfl⟩
                | cons _ _ => cases h
              | cons u us ih =>
                intro ds h
                cases ds with
                | nil => cases h
                | cons d ds =>
                  unfold all2 at h
                  rw [Bool.and_eq_true] at h
                  obtain ⟨x, hx, rx⟩ := readsK_ok n u d h.1
                  obtain ⟨xs, hxs, rxs, hl⟩ := ih ds h.2
                  exact ⟨x :: xs, .cons hx hxs, fun F => .cons (rx F) (rxs F), by simp [hl]⟩
            obtain ⟨xs, hv, hr, hlen⟩ := go its.toList ds h4
            refine ⟨.ref a, rfl, fun F => .tup (.inr ⟨o, its, ep, hl, hc, hd, h3, hv⟩) (hr F) ?_⟩
            rw [← hlen, Array.length_toList]
            exact h3
          | _ => rw [hd] at h2; cases h2
      | _ => cases h
    | _ => cases h
theorem glob_of {K : PySem.W.Frag} {mg : Str → Option Value} {x : Str} {v : Value} {d : D} {n : Nat} (e : mg x = some v) (h : readsK K n v d = true) : Glob K mg x d := by
  obtain ⟨y, r, k⟩ := readsK_ok n v d h
  exact ⟨v, y, e, r, k⟩
end DL
namespace DL
open PySem PySem.Spec PyProof.Rows L2
/-! ### texts -/
/-- the signs of a text -/
def schars (s : Str) : List Str := s.cps.toList.map fun c => ⟨#[c]⟩
def scat (x y : Str) : Option Str := if x.length + y.length ≤ 16777216 then some (x ++ y) else none
def sat (s : Str) (i : Int) : Option Str := if s.length ≤ 16777216 then (atI s.cps.toList i).map fun c => ⟨#[c]⟩ else none
def sjoin (a : Str) (ys : List Str) : Option Str := if (ys.map (·.length)).sum + ys.length * a.length ≤ 16777216 then some (Txt.join a ys) else none
def sidx (a b : Str) : Option Int := match Builtin.Str.occurrences a b 0 a.length 1 with
  | i :: _ => some (i : Int)
  | [] => none
section
variable {m : Type → Type} [Run m] {α β γ : Type} {X : Cx} {b : Bs} {sl : Sls} {e e1 e2 : Expr} {md : Md} {K : PySem.W.Frag} {fd : Option Addr} {tg iter : Expr} {pos apos cpos : Pos} {fz : Bool}
theorem os_scat : OpS K fd (fun x y H Q => ∃ i j, x = .str i ∧ y = .str j ∧ i.length + j.length ≤ sizeLine ∧ Q (.str (i ++ j)) H) .pk .pk eS eS (fun _ _ => True) (fun x y => (Run.lift (scat x y) : m Str)) md eS := fun F H v1 v2 x y Q _ fh fe r1 r2 q => by
  obtain ⟨z, ez, q⟩ := rlift q
  obtain ⟨hz, rfl⟩ := some_if ez
  cases r1
  cases r2
  exact ⟨x, y, rfl, rfl, hz, Post.sc fh fe q rfl (.str _)⟩
theorem os_sat : OpS K fd rIxS .pk .pk eS eI (fun _ _ => True) (fun x y => (Run.lift (sat x y) : m Str)) md eS := fun F H v1 v2 x y Q _ fh fe r1 r2 q => by
  obtain ⟨z, ez, q⟩ := rlift q
  cases r1
  cases r2
  unfold sat at ez
  split at ez
  · rename_i hl
    obtain ⟨c, ec, rfl⟩ := Option.map_eq_some_iff.mp ez
    exact ⟨x, y, c, rfl, rfl, hl, ec, Post.sc fh fe q rfl (.str _)⟩
  · cases ez
/-- for c in s -/
theorem di_str {c : m Str} (h : DA X b sl iter .pk c eS) : DI X b sl tg iter fz (c >>= fun s => Run.lift (if s.length ≤ 16777216 then some (schars s) else none)) eS := PI.imp (pi_str h) fun σ H R ⟨F, Re, q⟩ => ⟨F, Re, rmono (rbind q) fun s q v F1 H1 S1 r1 => by
  obtain ⟨z, ez, q⟩ := rlift q
  obtain ⟨hz, rfl⟩ := some_if ez
  cases r1
  have len : ((schars s).map eS).length = s.cps.size := by unfold schars; simp
  refine ⟨s, rfl, q (Its s) F1 H1 (fun _ _ => True) S1 ⟨fun F H i _ fh fe hi => ?_, fun F H i x H' d _ fh fe hd y => ?_, fun F H _ fh fe => ?_, fun _ _ _ _ _ _ => trivial⟩ trivial (fun _ _ _ _ _ _ _ _ => trivial) ?_⟩
  · show i < s.cps.size
    rw [len] at hi
    exact hi
  · obtain ⟨rfl, c, ec, rfl⟩ := y
    refine ⟨F, Step.refl fh fe, ?_⟩
    unfold schars at hd
    rw [List.map_map, List.getElem?_map] at hd
    have e2 : s.cps.toList[i]? = some c := by rw [Array.getElem?_toList]; exact ec
    rw [e2] at hd
    cases hd
    exact .str _
  · show s.cps.size ≤ _
    rw [len]
    exact Nat.le_refl _
  · unfold schars
    rw [List.length_map, Array.length_toList]
    exact hz⟩
/-- a.join(e), a list of texts -/
theorem dm_join {c0 : m Str} {c : m (List Str)} (ho : DA X b sl e1 .pk c0 eS) (hk : DA X b sl e2 .pk c (eL eS))
    (hbase : attributeBase e1 "join" X.env (eval e1 X.env) = eval e1 X.env := by rfl)
    (hfew : ((backTo cpos (starEach [e2] X.env)).all (fun x => !x.1) && (backToKw cpos (keywordEach [] X.env)).all (fun x => x.1.isSome) && decide ([e2].length + ([] : List Keyword).length + (if ([] : List Keyword).isEmpty then 0 else 1) < 30)) = true := by rfl)
    (hline : (apos.endLine == cpos.line) = true := by rfl) (hs : starEach [e2] X.env = (false, eval e2 X.env) :: starEach [] X.env := by rfl) (hplain : (backTo cpos (starEach [] X.env)).any (·.1) = false := by rfl) :
    DM X b sl (.Call (.Attribute e1 "join" apos) [e2] [] cpos) md (c0 >>= fun a => c >>= fun ys => Run.lift (sjoin a ys)) eS :=
  PE.imp (pe_bm PySem.F.plainAttrs_str PySem.F.slot_str_join PySem.F.type_str_join mt_join ho (pa_cons hk pa_nil hs) hbase hfew hline hs hplain) fun σ H Q ⟨F, R, q⟩ => ⟨F, R, rmono (rbind q) fun a q v F1 H1 S1 r1 => by
    cases r1
    refine ⟨rfl, F1, R.step S1, rmono (rbind q) fun ys q w F2 H2 S2 r2 => ?_⟩
    obtain ⟨z, ez, q⟩ := rlift q
    obtain ⟨hz, rfl⟩ := some_if ez
    have R2 := (R.step S1).step S2
    cases r2 with
    | lst hp ra l =>
      obtain rfl := ra.strs
      exact ⟨a, _, ys, rfl, rfl, .inl (SqL.of (hid_sub _ _ hp)), hz, Post.sc R2.sub R2.fe (q.back R.fe (S1.trans R.fe S2)) rfl (.str _)⟩⟩
/-- a.index(c), texts -/
theorem dm_sidx {c0 c : m Str} (ho : DA X b sl e1 .pk c0 eS) (hk : DA X b sl e2 .pk c eS)
    (hbase : attributeBase e1 "index" X.env (eval e1 X.env) = eval e1 X.env := by rfl)
    (hfew : ((backTo cpos (starEach [e2] X.env)).all (fun x => !x.1) && (backToKw cpos (keywordEach [] X.env)).all (fun x => x.1.isSome) && decide ([e2].length + ([] : List Keyword).length + (if ([] : List Keyword).isEmpty then 0 else 1) < 30)) = true := by rfl)
    (hline : (apos.endLine == cpos.line) = true := by rfl) (hs : starEach [e2] X.env = (false, eval e2 X.env) :: starEach [] X.env := by rfl) (hplain : (backTo cpos (starEach [] X.env)).any (·.1) = false := by rfl) :
    DM X b sl (.Call (.Attribute e1 "index" apos) [e2] [] cpos) md (c0 >>= fun a => c >>= fun y => Run.lift (sidx a y)) eI :=
  PE.imp (pe_bm PySem.F.plainAttrs_str PySem.F.slot_str_index PySem.F.type_str_index mt_sindex ho (pa_cons hk pa_nil hs) hbase hfew hline hs hplain) fun σ H Q ⟨F, R, q⟩ => ⟨F, R, rmono (rbind q) fun a q v F1 H1 S1 r1 => by
    cases r1
    refine ⟨rfl, F1, R.step S1, rmono (rbind q) fun y q w F2 H2 S2 r2 => ?_⟩
    obtain ⟨z, ez, q⟩ := rlift q
    have R2 := (R.step S1).step S2
    cases r2
    unfold sidx at ez
    split at ez
    · rename_i i rest ho
      cases ez
      exact ⟨a, y, i, rest, rfl, rfl, ho, Post.sc R2.sub R2.fe (q.back R.fe (S1.trans R.fe S2)) rfl (.int _)⟩
    · cases ez⟩
end
/-! ### lcm -/
def rLcm : List V → Hp → VK → Prop := fun vs H Q => ∃ a b : Int, vs = [.int a, .int b] ∧ (a.natAbs < 18446744073709551616 ∧ b.natAbs < 18446744073709551616) ∧ Q (.int ((Nat.lcm a.natAbs b.natAbs : Nat) : Int)) H
theorem cr_lcm {X : Cx} : CallR X (.builtin "math.lcm") rLcm := by
  intro pins s σ H vs us Q I r h
  obtain ⟨a, b, rfl, ⟨ha, hb⟩, q⟩ := h
  obtain ⟨t, u, rfl⟩ := Vals.int2 r
  exact PySem.W.mc_lcm ha hb fun _ => ⟨.int _, H, I.tok _, ⟨_, rfl⟩, q⟩
def ilcm (a b : Int) : Option Int := if a.natAbs < 18446744073709551616 ∧ b.natAbs < 18446744073709551616 then some ((Nat.lcm a.natAbs b.natAbs : Nat) : Int) else none
section
variable {m : Type → Type} [Run m] {X : Cx} {b : Bs} {sl : Sls} {e1 e2 : Expr} {md : Md} {x : Str} {p pos : Pos}
theorem dm_lcm {c c1 : m Int} (hm : X.mg x = some (.builtin "math.lcm")) (ha : DA X b sl e1 .pk c eI) (hb : DA X b sl e2 .pk c1 eI) (hg : Gl X x := by rfl) (hdb : (x == ("__debug__" : Str)) = false := by decide)
    (hs : starEach [e1, e2] X.env = (false, eval e1 X.env) :: starEach [e2] X.env := by rfl) (hs2 : starEach [e2] X.env = (false, eval e2 X.env) :: starEach [] X.env := by rfl) (hpl : (backTo pos (starEach [e2] X.env)).any (·.1) = false := by rfl) :
    DM X b sl (.Call (.Name x p) [e1, e2] [] pos) md (c >>= fun x => c1 >>= fun y => Run.lift (ilcm x y)) eI :=
  PE.imp (pe_callBfun cr_lcm hg hm (pa_cons ha (pa_cons hb pa_nil hs2) hs) hdb hs hpl) fun σ H Q ⟨F, R, q⟩ => ⟨F, R, rmono (rbind q) fun i q v F1 H1 S1 r1 => by
    refine ⟨F1, R.step S1, rmono (rbind q) fun j q w F2 H2 S2 r2 => ?_⟩
    obtain ⟨z, ez, q⟩ := rlift q
    obtain ⟨hz, rfl⟩ := some_if ez
    have R2 := (R.step S1).step S2
    cases r1
    cases r2
    exact ⟨i, j, rfl, hz, Post.sc R2.sub R2.fe (q.back R.fe (S1.trans R.fe S2)) rfl (.int _)⟩⟩
end
/-! ### sorted, the greatest first -/
def lsortR (xs : List Int) : List Int := (lsort xs).reverse
theorem lsortR_eq {xs ns : List Int} (p : ns.Perm xs) (o : ns.Pairwise (· ≥ ·)) : ns = lsortR xs := by
  have h := lsort_eq ((List.reverse_perm ns).trans p) (List.pairwise_reverse.mpr (o.imp fun h => h))
  unfold lsortR
  rw [← h, List.reverse_reverse]
section
variable {m : Type → Type} [Run m] {X : Cx} {b : Bs} {sl : Sls} {e : Expr} {md : Md} {p p2 kpos pos : Pos} {j : Option Str}
theorem dm_sortedR {c : m (List Int)} {jj} (hmd : NewL md) (hm : X.mg "sorted" = none) (ha : DA X b sl e .pk c (eL eI)) (hg : Gl X "sorted" := by rfl) (hs : starEach [e] X.env = (false, eval e X.env) :: starEach [] X.env := by rfl)
    (he : backTo pos (starEach [e] X.env) = (false, eval e X.env) :: backTo pos (starEach [] X.env) := by rfl) (hpl : (backTo pos (starEach [e] X.env)).any (·.1) = false := by rfl)
    (hall : (backToKw pos (keywordEach [⟨some "reverse", .Constant (.bool true) jj p2, kpos⟩] X.env)).all (·.1.isSome) = true := by rfl) (hnone : (backToKw pos (keywordEach [⟨some "reverse", .Constant (.bool true) jj p2, kpos⟩] X.env)).any (·.1.isNone) = false := by rfl) (hks : (backToKw pos (keywordEach [⟨some "reverse", .Constant (.bool true) jj p2, kpos⟩] X.env)).filterMap (·.1) = [Str.ofString "reverse"] := by rfl) :
    DM X b sl (.Call (.Name "sorted" p) [e] [⟨some "reverse", .Constant (.bool true) jj p2, kpos⟩] pos) md (c >>= fun x => pure (lsortR x)) (eL eI) :=
  PE.imp (pe_callBK (cr_sortedRev (b := true)) hg hm bo_sorted (pa_cons ha pa_nil hs) (pk_cons pe_bl pk_nil) (by decide) (by decide) he hpl hall hnone hks) fun σ H Q ⟨F, R, q⟩ => ⟨F, R, rmono (rbind q) fun x q v F1 H1 S1 r1 => by
    have q := rpure q
    have R1 := R.step S1
    cases r1 with
    | lst h1 a1 l1 =>
      have e := RpAll.ints (ns := x) a1
      subst e
      refine ⟨_, x, rfl, rfl, SqL.of (hid_sub _ _ h1), fun ns' p pm pw np => ?_⟩
      have e : ns' = lsortR x := lsortR_eq pm pw
      subst e
      refine Post.newL hmd R1.sub R1.fe (q.back R.fe S1) (RpAll.ofInts (lsortR x)) ?_ np
      rw [List.length_map, pm.length_eq, ← List.length_map (f := PyData.int)]; exact l1⟩
end
end DL
namespace DL
open PySem PySem.Spec PyProof.Rows L2
/-! ### ranges that names hold -/
theorem cr_range1v {X : Cx} : CallR X (.type "range") (fun vs H Q => ∃ j, vs = [V.int j] ∧ ∀ p, H p = none → Q (.ref p) (upd H p (.rng 0 j))) := by
  intro pins s σ H vs us Q I r h
  obtain ⟨j, rfl, q⟩ := h
  obtain ⟨u, rfl, ru⟩ := r.one
  obtain ⟨t, rfl⟩ := ru
  refine call_range_1 ⟨.ref s.heap.objs.size, upd H s.heap.objs.size (.rng 0 j), I.laid (t' := s.toks + 2) (fun b o e => Heap.get?_push_of_some _ e) (Nat.le_refl _) ?_, rfl, q _ (I.hok.fresh (Nat.le_refl _))⟩
  exact ⟨_, _, _, Heap.get?_push_size _ rfl⟩
def iRgV (te : TE) : TI := fun σ H R => te σ H fun x H1 => ∃ (a : Addr) (lo hi : Int), x = .ref a ∧ H1 a = some (.rng lo hi) ∧ -(2 ^ 62) ≤ lo ∧ lo < 2 ^ 62 ∧ -(2 ^ 62) ≤ hi ∧ hi < 2 ^ 62 ∧ R (Itr lo (hi - lo).toNat) H1
theorem pi_rgV {X : Cx} {tg l : Expr} {tl : TE} (hl : PE X l tl) : PI X tg l (iRgV tl) := by
  refine ⟨fun pins s σ H R I h => ?_⟩
  refine thn (hl.run pins s σ H _ I h) fun v s1 ⟨x, H1, I1, r1, a, lo, hi, e, ha, h1, h2, h3, h4, q⟩ => ?_
  subst e
  cases r1
  obtain ⟨t, u, w, hr⟩ := I1.hok a _ ha
  refine wpAny_pyIter_range (r := a) (a := lo) (b := hi) (c := 1) (t := t) (u := u) (v := w) hr (small_one h1 h2 h3 h4) ?_
  refine ⟨s1.heap.objs.size, [s1.heap.objs.size], _, _, H1, rfl, I1.kept (t' := s1.toks) fun b o e => Heap.get?_push_of_some _ e, turn_range _ lo (hi - lo).toNat, ?_, fun b hb => ?_, q⟩
  · have e1 : lo + ((0 : Nat) : Int) * 1 = lo := by simp
    have e2 : (((hi - lo).toNat : Nat) : Int) - ((0 : Nat) : Int) = Builtin.Range.rangeSize lo hi 1 := by rw [rangeSize_one]; split <;> omega
    show IsRangeIter _ _ (lo + ((0 : Nat) : Int) * 1) ((((hi - lo).toNat : Nat) : Int) - ((0 : Nat) : Int)) 1
    rw [e1, e2]
    exact Heap.get?_push_size _ rfl
  · have e : b = s1.heap.objs.size := by simpa using hb
    subst e
    exact I1.fpOk (Nat.le_refl _) (I1.hok.fresh (Nat.le_refl _))
section
variable {K : PySem.W.Frag} {b : Bs} {sl : Sls} {F H F' H' : Hp} {σ : L2.St}
theorem Rel.setR (R : Rel K b sl F H σ) {i : Nat} {p : Addr} {lo hi : Int} (r : F p = some (.rng lo hi)) : Rel K b (sl.set i (some (.rg lo hi))) F H (σ.set i (some (.ref p))) := by
  obtain ⟨Cs, s1, s2, s3⟩ := R.slots
  refine ⟨by simp [R.len], R.sub, R.base, R.fro, R.f0, R.fe, R.fb, Cs, fun j s e => ?_, s2, s3⟩
  by_cases hj : i = j
  · subst hj
    by_cases hi : i < sl.length
    · rw [List.getElem?_set_self hi] at e
      cases e
      exact ⟨p, List.getElem?_set_self (by rw [R.len]; exact hi), r⟩
    · rw [List.getElem?_eq_none (by simpa using hi)] at e; cases e
  · rw [List.getElem?_set_ne hj] at e
    rw [List.getElem?_set_ne hj]
    exact s1 j s e
end
section
variable {m : Type → Type} [Run m] {α β γ : Type} {X : Cx} {b : Bs} {sl : Sls} {e : Expr} {tg : Expr} {p pos pos' px : Pos} {x : Str} {fz : Bool}
/-- x = range(n) -/
theorem ds_setRg (i : Nat) {c : m Int} (he : DA X b sl e .pk c eI) (hm : X.mg "range" = none) (hN : X.N.Nodup) (hi : X.N[i]? = some x := by rfl) (hx : Loc X.env.scope x := by first | exact Or.inl rfl | exact Or.inr rfl) (hg : Gl X "range" := by rfl) (hst : starEach [e] X.env = (false, eval e X.env) :: starEach [] X.env := by rfl)
    (hs : swapsWith (.Call (.Name "range" p) [e] [] px) (some (.Name x pos')) pos.line X.env = pure false := by rfl) (hf : X.fn x = true ∨ X.env.scope.names.lookup x = some .local := by first | exact .inl rfl | exact .inr rfl) :
    DS1 X b sl (.Assign [.Name x pos'] (.Call (.Name "range" p) [e] [] px) pos) c (fun n => .nx (sl.set i (some (.rg 0 n)))) :=
  PS.imp (ps_set hN hi hx (pe_callTy cr_range1v hg hm bo_range (pa_cons he pa_nil hst) (by decide) (by decide) hst) hs hf) fun E σ H ⟨F, R, q⟩ => ⟨F, R, rmono q fun n q v F1 H1 S1 r1 => by
    cases r1
    refine ⟨n, rfl, fun p' np => ?_⟩
    have R1 := R.step S1
    have A := Step.allocF (K := X.K) (o := .rng 0 n) R1.sub R1.fe np
    exact q _ _ _ (S1.ff.trans A.ff) ((R1.step A).setR upd_same)⟩
/-- for .. in x, x a range -/
theorem di_rgName (i : Nat) {lo hi : Int} (e : sl[i]? = some (some (.rg lo hi))) (hN : X.N[i]? = some x := by rfl) (hv : Vis X.env.scope x := by first | exact Or.inl rfl | exact Or.inr (Or.inl rfl) | exact Or.inr (Or.inr rfl)) (hd : (x == ("__debug__" : Str)) = false := by decide)
    (hcd : (x == ("__classdict__" : Str)) = false := by decide) : DI X b sl tg (.Name x pos) fz (Run.lift (irng lo hi) : m (List Int)) eI := PI.imp (pi_rgV (pe_var hN hv hd hcd)) fun σ H R ⟨F, Re, q⟩ => by
  obtain ⟨Cs, s1, s2, s3⟩ := Re.slots
  obtain ⟨p, e1, r⟩ := s1 i _ e
  obtain ⟨z, ez, q⟩ := rlift q
  obtain ⟨⟨h1, h2, h3, h4, h5⟩, rfl⟩ := some_if ez
  exact ⟨.ref p, e1, p, lo, hi, rfl, hid_sub _ _ (Re.sub _ _ r), by omega, by omega, by omega, by omega, q _ F H _ (.refl Re.sub Re.fe) (it_rng rfl) trivial (fun _ _ _ _ _ _ _ _ => trivial) (by rw [rng_length]; exact h5)⟩
/-- list(range(n)), list(range(a, b)) -/
theorem rgV_rng (a b : Int) : rgV a b = (rng a b).map V.int := by
  unfold rgV rng
  rw [List.map_map]
  rfl
theorem dm_lrg1 {c : m Int} {md : Md} {p2 px : Pos} (hmd : NewL md) (hc : X.calm = true) (hl : X.mg "list" = none) (hm : X.mg "range" = none) (he : DA X b sl e .pk c eI) (hgl : Gl X "list" := by rfl) (hg : Gl X "range" := by rfl)
    (na : starEach [e] X.env = (false, eval e X.env) :: starEach [] X.env := by rfl) (nb : starEach [.Call (.Name "range" p2) [e] [] px] X.env = (false, eval (.Call (.Name "range" p2) [e] [] px) X.env) :: starEach [] X.env := by rfl) :
    DM X b sl (.Call (.Name "list" p) [.Call (.Name "range" p2) [e] [] px] [] pos) md (c >>= fun n => Run.lift (irng 0 n)) (eL eI) :=
  PE.imp (pe_listRg hc hgl hl (prg_1 hg hm he na) nb) fun σ H Q ⟨F, R, q⟩ => ⟨F, R, rmono (rbind q) fun n q v F1 H1 S1 r1 => by
    obtain ⟨z, ez, q⟩ := rlift q
    obtain ⟨⟨h1, h2, h3, h4, h5⟩, rfl⟩ := some_if ez
    have R1 := R.step S1
    cases r1
    refine ⟨n, rfl, ⟨by omega, by omega, by omega, by omega, by omega⟩, fun q' np => ?_⟩
    rw [rgV_rng]
    exact Post.newL hmd R1.sub R1.fe (q.back R.fe S1) (RpAll.ofInts (rng 0 n)) (by rw [List.length_map, rng_length]; exact h5) np⟩
theorem dm_lrg2 {e' : Expr} {c c1 : m Int} {md : Md} {p2 px : Pos} (hmd : NewL md) (hc : X.calm = true) (hl : X.mg "list" = none) (hm : X.mg "range" = none) (he : DA X b sl e .pk c eI) (he' : DA X b sl e' .pk c1 eI) (hgl : Gl X "list" := by rfl) (hg : Gl X "range" := by rfl)
    (na : starEach [e, e'] X.env = (false, eval e X.env) :: starEach [e'] X.env := by rfl) (nc : starEach [e'] X.env = (false, eval e' X.env) :: starEach [] X.env := by rfl) (hp : (backTo px (starEach [e'] X.env)).any (·.1) = false := by rfl) (nb : starEach [.Call (.Name "range" p2) [e, e'] [] px] X.env = (false, eval (.Call (.Name "range" p2) [e, e'] [] px) X.env) :: starEach [] X.env := by rfl) :
    DM X b sl (.Call (.Name "list" p) [.Call (.Name "range" p2) [e, e'] [] px] [] pos) md (c >>= fun lo => c1 >>= fun n => Run.lift (irng lo n)) (eL eI) :=
  PE.imp (pe_listRg hc hgl hl (prg_2 hg hm he he' na nc hp) nb) fun σ H Q ⟨F, R, q⟩ => ⟨F, R, rmono (rbind q) fun lo q v F1 H1 S1 r1 => by
    have R1 := R.step S1
    refine ⟨F1, R1, rmono (rbind q) fun n q w F2 H2 S2 r2 => ?_⟩
    have R2 := R1.step S2
    obtain ⟨z, ez, q⟩ := rlift q
    obtain ⟨⟨h1, h2, h3, h4, h5⟩, rfl⟩ := some_if ez
    cases r1
    cases r2
    refine ⟨lo, n, rfl, rfl, ⟨by omega, by omega, by omega, by omega, by omega⟩, fun q' np => ?_⟩
    rw [rgV_rng]
    exact Post.newL hmd R2.sub R2.fe (q.back R.fe (S1.trans R.fe S2)) (RpAll.ofInts (rng lo n)) (by rw [List.length_map, rng_length]; exact h5) np⟩
end
end DL
namespace DL
open PySem PySem.Spec PyProof.Rows L2
/-! ### calls that only look at what they are handed, and hand back what is all new -/
class Ful {α : Type} (n : Nat) (g : α → D) : Prop where
  ful : ∀ (K : PySem.W.Frag) (F G : Hp) (v : V) (x : α) (C : List Cell), Own K F n v (g x) C → Own K G n v (g x) C
theorem ownAll_ful {α : Type} {n : Nat} {g : α → D} (h : Ful n g) {K : PySem.W.Frag} {F G : Hp} : ∀ {xs : List α} {vs : List V} {C : List Cell}, OwnAll K F n vs (xs.map g) C → OwnAll K G n vs (xs.map g) C
  | [], _, _, o => by cases o; exact .nil
  | x :: xs, _, _, o => by
    cases o with
    | cons a t => exact .cons (h.ful _ _ _ _ _ _ a) (ownAll_ful h t)
instance {α : Type} {g : α → D} [h : Sca g] : Ful 1 (eL g) := ⟨fun K F G v x C o => by
  cases o with
  | s a _ => cases a
  | lst o l =>
    obtain ⟨r, rfl⟩ := o.zero'
    refine .lst (OwnAll.zero (RpAll.scal' (fun d hd => ?_) r)) l
    obtain ⟨y, _, rfl⟩ := List.mem_map.mp hd
    exact h.sc y⟩
instance {α : Type} {n : Nat} {g : α → D} [h : Ful (n + 1) g] : Ful (n + 2) (eL g) := ⟨fun K F G v x C o => by
  cases o with
  | s a _ => cases a
  | lst o l => exact .lst (ownAll_ful h o) l⟩
section
variable {m : Type → Type} [Run m] {α β γ : Type} {X : Cx} {b : Bs} {sl : Sls} {e : Expr} {es : List Expr} {h : γ → D} {n kl : Nat} {x : Str} {p pos : Pos}
theorem dc_callPO [hsc : Ful n h] {M : m γ} {T : List D → m γ → Prop} {gs : α → List D} {fM : α → Option γ} (F : HasDef X.prog X.w X.K X.mg X.base x kl (spD X.K gs fM n h)) (hr : Room kl X.A)
    (ha : PA X (e :: es) (tCP X.K b sl M T)) (hT : ∀ ds k, T ds k → ∃ x, ds = gs x ∧ k = Run.lift (fM x)) (hg : Gl X x := by rfl)
    (hs : starEach (e :: es) X.env = (false, eval e X.env) :: starEach es X.env := by rfl) (hpl : (backTo pos (starEach es X.env)).any (·.1) = false := by rfl) (hdb : (x == ("__debug__" : Str)) = false := by decide) :
    DM X b sl (.Call (.Name x p) (e :: es) [] pos) (.ow n) M h := by
  obtain ⟨f, fd, ps, F, hm, hk, hb⟩ := F
  exact PE.imp (pe_call F hr hg hm hk hb .nil pass0 ha hdb hs hpl) fun σ H Q ⟨F, R, q⟩ => ⟨F, R, _, q, fun vs F' H' ds k S o t r => by
    obtain ⟨x, rfl, rfl⟩ := hT ds k t
    refine ⟨hid b.fd H', x, hid_sub, by rw [List.append_nil]; exact o.args, ?_⟩
    obtain ⟨y, e, r⟩ := rlift r
    refine ⟨y, e, fun v F2 H2 C S2 o2 h2 => ?_⟩
    have hh : Sub H' H2 := by have := S2.hh; rwa [hid_none, hid_none] at this
    have S3 : Step X.K b.fd F' H' F' H2 := by
      have hh' : Sub (hid b.fd H') (hid b.fd H2) := fun a o e => by
        by_cases ha : b.fd = some a
        · unfold hid at e; rw [if_pos ha] at e; cases e
        · rw [hid_ne ha] at e ⊢; exact hh a o e
      exact ⟨Sub.refl _, hh', S.fh.trans hh', fun _ _ e => e, S.fe.mono (Sub.refl _) (fun φ e => (S.fe φ e).1) fun φ e => by
        obtain ⟨o, q⟩ := S.fe.some e
        rw [q, hh φ o q]⟩
    have kk : Holds C F' H2 H' := ⟨h2.1, fun c hc => by
      obtain ⟨a1, a2, a3⟩ := h2.2 c hc
      refine ⟨a1, ?_, a3⟩
      cases q : F' c.1 with
      | none => rfl
      | some o =>
        have := hid_sub _ _ (S.fh _ _ q)
        rw [a3] at this
        cases this⟩
    exact (Post.back R.fe S r) v F' H2 C S3 (hsc.ful _ _ _ _ _ _ o2) kk⟩
end
end DL
namespace DL
open PySem PySem.Spec PyProof.Rows L2
/-! ### comprehensions with two fors -/
section
variable {m : Type → Type} [Run m] {α α1 β : Type}
def lcIn (t : α1 → m Bool) (el : α1 → m β) : List β → List α1 → m (List β)
  | acc, [] => pure acc
  | acc, z :: zs => t z >>= fun b => if b then el z >>= fun y => (Run.lift (lapp acc y) : m (List β)) >>= fun acc' => lcIn t el acc' zs else lcIn t el acc zs
def lcOut (t : α → m Bool) (inn : α → List β → m (List β)) : List β → List α → m (List β)
  | acc, [] => pure acc
  | acc, x :: xs => t x >>= fun b => if b then inn x acc >>= fun acc' => lcOut t inn acc' xs else lcOut t inn acc xs
end
/-- a list that grows -/
structure AccI {β : Type} (K : PySem.W.Frag) (fd : Option Addr) (n : Nat) (h : β → D) (F1 H1 : Hp) (D : Addr) (F H : Hp) (done : List β) (us : List V) : Prop where
  st : Step K fd F1 H1 F H
  here : H D = some (.lst us)
  fr : F D = none
  sz : done.length ≤ sizeLine
  ow : ∃ C, OwnAll K F n us (done.map h) C ∧ Holds C F H H1 ∧ ∀ c ∈ C, c.1 ≠ D
section
variable {β : Type} {K : PySem.W.Frag} {fd : Option Addr} {n : Nat} {h : β → D} {F1 H1 F H F' H' : Hp} {D : Addr} {done : List β} {us : List V}
theorem AccI.step (fdD : fd ≠ some D) (fe1 : FeedOk K fd F1 H1) (A : AccI K fd n h F1 H1 D F H done us) (S : Step K fd F H F' H') : AccI K fd n h F1 H1 D F' H' done us := by
  obtain ⟨C, o, c, d⟩ := A.ow
  refine ⟨A.st.trans fe1 S, ?_, S.st D (by rw [A.here]; simp) A.fr, A.sz, C, o.mono S.ff, c.step fe1 A.st S, d⟩
  have := S.hh D _ (by rw [hid_ne fdD]; exact A.here)
  rw [hid_ne fdD] at this
  exact this
theorem AccI.len (A : AccI K fd n h F1 H1 D F H done us) : us.length = done.length := by
  obtain ⟨C, o, _⟩ := A.ow
  rw [o.length, List.length_map]
theorem AccI.app (nD : H1 D = none) (fdD : fd ≠ some D) (fe1 : FeedOk K fd F1 H1) (A : AccI K fd n h F1 H1 D F H done us) (S : Step K fd F H F' H') {w : V} {z : β} {C5 : List Cell} (o5 : Own K F' n w (h z) C5) (k5 : Holds C5 F' H' H) (hz : done.length < 16777216) :
    H' D = some (.lst us) ∧ us.length < sizeLine ∧ AccI K fd n h F1 H1 D F' (upd H' D (.lst (us ++ [w]))) (done ++ [z]) (us ++ [w]) := by
  have B := A.step fdD fe1 S
  have hl := A.len
  obtain ⟨C, ow, hc, hcD⟩ := A.ow
  have S25 := B.st
  have neD : ∀ a o, hid fd H' a = some o → a ≠ D → hid fd (upd H' D (.lst (us ++ [w]))) a = some o := fun a o e ne => by
    by_cases ha : fd = some a
    · unfold hid at e; rw [if_pos ha] at e; cases e
    · rw [hid_ne ha] at e ⊢
      rw [upd_ne ne]; exact e
  have fh' : Sub F' (hid fd (upd H' D (.lst (us ++ [w])))) := fun a o e => neD a o (S.fh a o e) (fun z => by rw [z, B.fr] at e; cases e)
  have SU : Step K fd F1 H1 F' (upd H' D (.lst (us ++ [w]))) := by
    refine ⟨S25.ff, fun a o e => neD a o (S25.hh a o e) (fun z => ?_), fh', S25.st, S25.fe.mono (Sub.refl _) (fun φ e => (S25.fe φ e).1) fun φ e => upd_ne (fun z => fdD (by rw [e, z]))⟩
    rw [z] at e
    rw [hid_ne fdD, nD] at e; cases e
  have c5 : ∀ c ∈ C5, c.1 ≠ D := fun c hc z => by
    have h1 := (k5.2 c hc).2.2
    rw [z, A.here] at h1
    cases h1
  have kk := hc.append (C2 := C5) fe1 A.st (F2 := F') (H2 := H') S k5
  refine ⟨B.here, by rw [hl]; exact hz, SU, upd_same, B.fr, by rw [List.length_append]; exact hz, C ++ C5, ?_, ⟨kk.1, fun c hc => ?_⟩, fun c hc => ?_⟩
  · rw [List.map_append]
    have o5' : OwnAll K F' n [w] [h z] C5 := by
      have := OwnAll.cons o5 .nil
      rwa [List.append_nil] at this
    exact (ow.mono S.ff).append o5'
  · obtain ⟨a1, a2, a3⟩ := kk.2 c hc
    refine ⟨?_, a2, a3⟩
    rw [upd_ne ?_]
    · exact a1
    · rcases List.mem_append.mp hc with hc | hc
      · exact hcD c hc
      · exact c5 c hc
  · rcases List.mem_append.mp hc with hc | hc
    · exact hcD c hc
    · exact c5 c hc
theorem AccI.fin (nD : H1 D = none) (A : AccI K fd n h F1 H1 D F H done us) {Q : VK} (q : Post K fd (.ow (n + 1)) F1 H1 (eL h done) Q) : Q (.ref D) H := by
  obtain ⟨C, ow, hc, hcD⟩ := A.ow
  refine q (.ref D) F H ((D, .lst us) :: C) A.st (.lst ow (by rw [List.length_map]; exact A.sz)) ⟨?_, fun c hc' => ?_⟩
  · rw [List.map_cons, List.nodup_cons]
    refine ⟨fun hm => ?_, hc.1⟩
    obtain ⟨c, h1, e⟩ := List.mem_map.mp hm
    exact hcD c h1 e
  · rcases List.mem_cons.mp hc' with rfl | hc'
    · exact ⟨A.here, A.fr, nD⟩
    · exact hc.2 c hc'
end
theorem lapp_run {m : Type → Type} [Run m] {β : Type} {done : List β} {z : β} {Q : List β → Prop} (h : Run.run (Run.lift (lapp done z) : m (List β)) Q) : done.length < 16777216 ∧ Q (done ++ [z]) := by
  obtain ⟨a, e, q⟩ := Run.run_lift _ _ h
  obtain ⟨h1, rfl⟩ := lapp_ok e
  exact ⟨h1, q⟩
section
variable {m : Type → Type} [Run m] {α α1 β : Type} {K : PySem.W.Frag} {b : Bs} {sl : Sls} {g : α → D} {g1 : α1 → D} {h : β → D} {vs vs1 ws ws1 : List Nat} {n : Nat} {gt gt1 : TG} {fz fz1 : Bool} {tt tt1 : TT} {c : m (List α)} {c1 : α → m (List α1)} {tst : α → m Bool} {tst1 : α → α1 → m Bool} {elt : α → α1 → m β} {set : α → Sls → Sls} {set1 : α1 → Sls → Sls}
structure GT2 (K : PySem.W.Frag) {α : Type} (t : TG) (vs : List Nat) (g : α → D) (set : α → Sls → Sls) : Prop where
  run : ∀ (b : Bs) (sl : Sls) (F H : Hp) (σ : L2.St) (v : V) (x : α) (Q : L2.St → Hp → Prop), Rel K b sl F H σ → Rp K F v (g x) → (∀ σ', Rel K b (set x sl) F H σ' → (∀ ws, (∀ i ∈ vs, i ∈ ws) → L2.wipe σ' ws = L2.wipe σ ws) → (∀ F' H', Sub F F' → Rel K b sl F' H' σ → Rel K b (set x sl) F' H' σ') → Q σ' H) → t v σ H Q
theorem gt2_name {α : Type} {g : α → D} (i : Nat) : GT2 K (gName i) [i] g (fun x sl => sl.set i (some (.v (g x)))) := ⟨fun b sl F H σ v x Q R r q => q _ (R.setV r) (fun ws hw => wipe_set (hw i (by simp))) fun F' H' s R' => R'.setV (r.mono s)⟩
theorem gt2_tup2 {α β : Type} {g : α → D} {g' : β → D} (i j : Nat) : GT2 K (gTup K 2 (gCons (gName i) (gCons (gName j) gNil))) [i, j] (eP g g') (fun x sl => (sl.set i (some (.v (g x.1)))).set j (some (.v (g' x.2)))) := ⟨fun b sl F H σ v x Q R r q => by
  cases r with
  | tup hs ha hl =>
    cases ha with
    | cons a1 t =>
      cases t with
      | cons a2 t =>
        cases t
        exact ⟨_, _, rfl, (R.sub.trans hid_sub).sqt hs, rfl, _, _, rfl, _, _, rfl, rfl, q _ ((R.setV a1).setV a2) (fun ws hw => by rw [wipe_set (hw j (by simp)), wipe_set (hw i (by simp))]) fun F' H' s R' => (R'.setV (a1.mono s)).setV (a2.mono s)⟩⟩
def iEx {α : Type} (t : α → TI) : TI := fun σ H R => ∃ x, t x σ H R
theorem PI.ex {X : Cx} {tg e : Expr} {α : Type} {t : α → TI} (h : ∀ x, PI X tg e (t x)) : PI X tg e (iEx t) := ⟨fun pins s σ H R I ⟨x, q⟩ => (h x).run pins s σ H R I q⟩
theorem lc2_to (hg : GT2 K gt ws g set) (hw : ∀ i ∈ ws, i ∈ vs) (ht : TsOk K b (wipeS sl vs) set tst tt) (hg1 : GT K gt1 ws1 g1 set1) (hw1 : ∀ i ∈ ws1, i ∈ vs1) (ht1 : ∀ x, TsOk K b (wipeS (set x (wipeS sl vs)) vs1) set1 (tst1 x) tt1) {σ : L2.St} {H : Hp} {Q : VK}
    (q : tD K b sl (.ow (n + 1)) (c >>= lcOut tst (fun x acc => c1 x >>= lcIn (tst1 x) (elt x) acc) []) (eL h) σ H Q) :
    tLc2 (tI K b sl fz c g) gt tt (iEx fun x => tI K b (set x (wipeS sl vs)) true (c1 x) g1) gt1 tt1 (tExE fun p : α × α1 => tD K b (set1 p.2 (wipeS (set p.1 (wipeS sl vs)) vs1)) (.ow n) (elt p.1 p.2) h) vs vs1 σ H Q := by
  obtain ⟨F, R, q⟩ := q
  refine ⟨F, R, rmono (rbind q) fun xs q J F1 H1 ok S1 it o1 _ hl D nD => ?_⟩
  have R1 := R.step S1
  have nF : F1 D = none := (S1.fh.trans hid_sub).none nD
  have fdD : b.fd ≠ some D := fun z => by
    obtain ⟨o, q⟩ := R1.fe.some z
    rw [nD] at q; cases q
  let Inv : Nat → Hp → Prop := fun i H2 => ∃ (F2 : Hp) (done : List β) (us : List V), AccI K b.fd n h F1 H1 D F2 H2 done us ∧ i ≤ xs.length ∧
    Run.run (lcOut tst (fun x acc => c1 x >>= lcIn (tst1 x) (elt x) acc) done (xs.drop i)) (fun ys => Post K b.fd (.ow (n + 1)) F1 H1 (eL h ys) Q)
  have okA : ∀ {F2 H2 : Hp} {done : List β} {us : List V}, AccI K b.fd n h F1 H1 D F2 H2 done us → ok F2 H2 := fun A => it.st _ _ _ _ o1 A.st
  refine ⟨fun i k H2 => k = xs.length - i ∧ Inv i H2, ⟨xs.length, by simp, F1, [], [], ⟨Step.alloc S1.fh S1.fe nD, upd_same, nF, Nat.zero_le _, [], .nil, ⟨List.nodup_nil, fun _ h => nomatch h⟩, fun _ h => nomatch h⟩, Nat.zero_le _, rmono q fun ys p => p.back R.fe S1⟩, ?_⟩
  rintro i k H2 ⟨rfl, F2, done, us, A, il, run⟩
  have R2 := R1.step A.st
  by_cases hi : i < xs.length
  · refine .inr ⟨it.go F2 H2 i (okA A) R2.sub R2.fe (by rw [List.length_map]; exact hi), fun H' => Inv (i + 1) H', fun H' p => ⟨xs.length - (i + 1), by omega, rfl, p⟩, fun v H3 y => ?_⟩
    rw [List.drop_eq_getElem_cons hi] at run
    obtain ⟨F3, S3, r3⟩ := it.yld F2 H2 i v H3 (g xs[i]) (okA A) R2.sub R2.fe (by rw [List.getElem?_map, List.getElem?_eq_getElem hi]; rfl) y
    have A3 := A.step fdD R1.fe S3
    have R3 := (R1.step A3.st).wipe vs
    refine hg.run b _ F3 H3 _ v xs[i] _ R3 r3 fun σ' R' hw' hk' => ⟨by rw [hw' vs hw, wipe_wipe vs fun _ h => h], ht xs[i] σ' F3 H3 _ R' (rmono (rbind run) fun t p F4 H4 S4 => ?_)⟩
    have A4 := A3.step fdD R1.fe S4
    cases t with
    | false =>
      rw [if_neg Bool.false_ne_true]
      exact ⟨F4, done, us, A4, hi, p⟩
    | true =>
      rw [if_pos rfl]
      refine ⟨xs[i], F4, R'.step S4, rmono (rbind (rbind p)) fun zs p J1 F5 H5 ok1 S5 it1 o5 fz5 _ => ?_⟩
      have A5 := A4.step fdD R1.fe S5
      let Inv1 : Nat → Hp → Prop := fun j H6 => ∃ (F6 : Hp) (done : List β) (us : List V), AccI K b.fd n h F1 H1 D F6 H6 done us ∧ Sub F5 F6 ∧ j ≤ zs.length ∧
        Run.run (lcIn (tst1 xs[i]) (elt xs[i]) done (zs.drop j)) (fun acc' => Run.run (lcOut tst (fun x acc => c1 x >>= lcIn (tst1 x) (elt x) acc) acc' (xs.drop (i + 1))) (fun ys => Post K b.fd (.ow (n + 1)) F1 H1 (eL h ys) Q))
      have S35 : Sub F3 F5 := S4.ff.trans S5.ff
      refine ⟨fun j k H6 => k = zs.length - j ∧ Inv1 j H6, ⟨zs.length, by simp, F5, done, us, A5, Sub.refl _, Nat.zero_le _, p⟩, ?_⟩
      rintro j k H6 ⟨rfl, F6, done6, us6, A6, s56, jl, run6⟩
      have R6w := (R1.step A6.st).wipe vs
      have R6 : Rel K b (set xs[i] (wipeS sl vs)) F6 H6 σ' := hk' F6 H6 (S35.trans s56) R6w
      have ok6 : ok1 F6 H6 := fz5 rfl F5 H5 F6 H6 o5 s56 R6.sub
      by_cases hj : j < zs.length
      · refine .inr ⟨it1.go F6 H6 j ok6 R6.sub R6.fe (by rw [List.length_map]; exact hj), fun H' => Inv1 (j + 1) H', fun H' p => ⟨zs.length - (j + 1), by omega, rfl, p⟩, fun v1 H7 y1 => ?_⟩
        rw [List.drop_eq_getElem_cons hj] at run6
        obtain ⟨F7, S7, r7⟩ := it1.yld F6 H6 j v1 H7 (g1 zs[j]) ok6 R6.sub R6.fe (by rw [List.getElem?_map, List.getElem?_eq_getElem hj]; rfl) y1
        have R7 := (R6.step S7).wipe vs1
        have A7 := A6.step fdD R1.fe S7
        refine hg1.run b _ F7 H7 _ v1 zs[j] _ R7 r7 fun σ3 R3' hw3 => ⟨by rw [hw3 vs1 hw1, wipe_wipe vs1 fun _ h => h], ht1 xs[i] zs[j] σ3 F7 H7 _ R3' (rmono (rbind run6) fun t p F8 H8 S8 => ?_)⟩
        have A8 := A7.step fdD R1.fe S8
        have s58 : Sub F5 F8 := s56.trans (S7.ff.trans S8.ff)
        cases t with
        | false =>
          rw [if_neg Bool.false_ne_true]
          exact ⟨F8, done6, us6, A8, s58, hj, p⟩
        | true =>
          rw [if_pos rfl]
          refine ⟨(xs[i], zs[j]), F8, R3'.step S8, rmono (rbind p) fun z p w F9 H9 C9 S9 o9 k9 => ?_⟩
          obtain ⟨hz, p⟩ := lapp_run (rbind p)
          obtain ⟨e1, e2, A9⟩ := A8.app nD fdD R1.fe S9 o9 k9 hz
          exact ⟨us6, e1, e2, F9, done6 ++ [z], us6 ++ [w], A9, s58.trans S9.ff, hj, p⟩
      · have e : j = zs.length := by omega
        subst e
        refine .inl ⟨by have := it1.stop F6 H6 ok6 R6.sub R6.fe; rwa [List.length_map] at this, ?_⟩
        rw [List.drop_length] at run6
        unfold lcIn at run6
        have q6 := Run.run_pure _ _ run6
        exact ⟨F6, done6, us6, A6, hi, q6⟩
  · have e : i = xs.length := by omega
    subst e
    refine .inl ⟨by have := it.stop F2 H2 (okA A) R2.sub R2.fe; rwa [List.length_map] at this, ?_⟩
    rw [List.drop_length] at run
    unfold lcOut at run
    have q := Run.run_pure _ _ run
    exact A.fin nD q
theorem PTs.ex {X : Cx} {ifs : List Expr} {α : Type} {t : α → TT} (h : ∀ x, PTs X ifs (t x)) : PTs X ifs (tEx t) := ⟨fun pins s σ H R I ⟨x, q⟩ => (h x).run pins s σ H R I q⟩
end
section
variable {m : Type → Type} [Run m] {α α1 β : Type} {X : Cx} {b : Bs} {sl : Sls} {g : α → D} {g1 : α1 → D} {h : β → D} {vs1 ws ws1 : List Nat} {n : Nat} {gt gt1 : TG} {fz : Bool} {tt : TT} {tt1 : α → TT} {c : m (List α)} {c1 : α → m (List α1)} {tst : α → m Bool} {tst1 : α → α1 → m Bool} {elt : α → α1 → m β} {set : α → Sls → Sls} {set1 : α1 → Sls → Sls} {pos : Pos} {elx tg iter tg1 iter1 : Expr} {ifs ifs1 : List Expr} {scope : Scope} {own : List (Str × Nat)}
/-- a comprehension with two fors -/
theorem dm_lc2 (vs1 : List Nat) (hc : X.calm = true) (hN : X.N.Nodup) (hi : DI X b sl tg iter fz c g) (ok : BlkOk X.N X.env.scope scope own) (hgt : GT2 X.K gt ws g set)
    (hg : ∀ (s : Shared) (H : Hp) (C : Addr) (cl : List (Str × Addr)) (fp : List Addr), PG (X.blk s H scope (compEnvC scope cl C X.env) fp) tg gt)
    (ht : LT X b (wipeS sl (own.map (·.2))) set scope ifs tst tt)
    (hi1 : ∀ (s : Shared) (H : Hp) (C : Addr) (cl : List (Str × Addr)) (fp : List Addr) (x : α), DI (X.blk s H scope (compEnvC scope cl C X.env) fp) b (set x (wipeS sl (own.map (·.2)))) tg1 iter1 true (c1 x) g1) (hgt1 : GT X.K gt1 ws1 g1 set1)
    (hg1 : ∀ (s : Shared) (H : Hp) (C : Addr) (cl : List (Str × Addr)) (fp : List Addr), PG (X.blk s H scope (compEnvC scope cl C X.env) fp) tg1 gt1)
    (ht1 : ∀ x, LT X b (wipeS (set x (wipeS sl (own.map (·.2)))) vs1) set1 scope ifs1 (tst1 x) (tt1 x))
    (he : ∀ (s : Shared) (H : Hp) (C : Addr) (cl : List (Str × Addr)) (fp : List Addr) (x : α) (z : α1), DM (X.blk s H scope (compEnvC scope cl C X.env) fp) b (set1 z (wipeS (set x (wipeS sl (own.map (·.2)))) vs1)) elx (.ow n) (elt x z) h)
    (hv1 : ∀ i ∈ vs1, i ∈ own.map (·.2) := by decide) (hw : ∀ i ∈ ws, i ∈ own.map (·.2) := by decide) (hw1 : ∀ i ∈ ws1, i ∈ vs1 := by decide) (hs : ∀ x, foldedSetIterable iter X.env x = pure x := by intro _; rfl) (hs1 : ∀ (env : Env) x, foldedSetIterable iter1 env x = pure x := by intro _ _; rfl) :
    DM X b sl (.ListComp elx [⟨tg, iter, ifs, 0⟩, ⟨tg1, iter1, ifs1, 0⟩] scope pos) (.ow (n + 1)) (c >>= lcOut tst (fun x acc => c1 x >>= lcIn (tst1 x) (elt x) acc) []) (eL h) :=
  PE.imp (pe_lc2 hc hN hi ok hv1 hg ht.pts (fun s H C cl fp => PI.ex (hi1 s H C cl fp)) hg1 (fun s H C cl fp => PTs.ex fun x => (ht1 x).pts s H C cl fp) (fun s H C cl fp => PE.ex fun p => he s H C cl fp p.1 p.2) hs hs1) fun _ _ _ q =>
    lc2_to (tt1 := tEx tt1) hgt hw ht.ok hgt1 hw1 (fun x x1 σ F H Q R r => ⟨x, (ht1 x).ok x1 σ F H Q R r⟩) q
theorem ds_lc2O (i : Nat) {n : Nat} {y : Str} {py spos : Pos} (vs1 : List Nat) (hc : X.calm = true) (hN : X.N.Nodup) (hi : DI X b sl tg iter fz c g) (ok : BlkOk X.N X.env.scope scope own) (hgt : GT2 X.K gt ws g set)
    (hg : ∀ (s : Shared) (H : Hp) (C : Addr) (cl : List (Str × Addr)) (fp : List Addr), PG (X.blk s H scope (compEnvC scope cl C X.env) fp) tg gt)
    (ht : LT X b (wipeS sl (own.map (·.2))) set scope ifs tst tt)
    (hi1 : ∀ (s : Shared) (H : Hp) (C : Addr) (cl : List (Str × Addr)) (fp : List Addr) (x : α), DI (X.blk s H scope (compEnvC scope cl C X.env) fp) b (set x (wipeS sl (own.map (·.2)))) tg1 iter1 true (c1 x) g1) (hgt1 : GT X.K gt1 ws1 g1 set1)
    (hg1 : ∀ (s : Shared) (H : Hp) (C : Addr) (cl : List (Str × Addr)) (fp : List Addr), PG (X.blk s H scope (compEnvC scope cl C X.env) fp) tg1 gt1)
    (ht1 : ∀ x, LT X b (wipeS (set x (wipeS sl (own.map (·.2)))) vs1) set1 scope ifs1 (tst1 x) (tt1 x))
    (he : ∀ (s : Shared) (H : Hp) (C : Addr) (cl : List (Str × Addr)) (fp : List Addr) (x : α) (z : α1), DM (X.blk s H scope (compEnvC scope cl C X.env) fp) b (set1 z (wipeS (set x (wipeS sl (own.map (·.2)))) vs1)) elx (.ow n) (elt x z) h)
    (hsw : swapsWith (.ListComp elx [⟨tg, iter, ifs, 0⟩, ⟨tg1, iter1, ifs1, 0⟩] scope pos) (some (.Name y py)) spos.line X.env = pure true := by exact sw_true rfl rfl rfl (by decide +kernel))
    (hy : X.N[i]? = some y := by rfl) (hyl : X.env.scope.names.lookup y = some .local := by rfl)
    (hv1 : ∀ i ∈ vs1, i ∈ own.map (·.2) := by decide) (hw : ∀ i ∈ ws, i ∈ own.map (·.2) := by decide) (hw1 : ∀ i ∈ ws1, i ∈ vs1 := by decide) (hs : ∀ x, foldedSetIterable iter X.env x = pure x := by intro _; rfl) (hs1 : ∀ (env : Env) x, foldedSetIterable iter1 env x = pure x := by intro _ _; rfl) :
    DS1 X b sl (.Assign [.Name y py] (.ListComp elx [⟨tg, iter, ifs, 0⟩, ⟨tg1, iter1, ifs1, 0⟩] scope pos) spos) (c >>= lcOut tst (fun x acc => c1 x >>= lcIn (tst1 x) (elt x) acc) []) (fun ys => .nx (sl.set i (some (.o (n + 1) (eL h ys))))) :=
  PS.imp (ps_setLc2 hc hN hy hyl hsw hi ok hv1 hg ht.pts (fun s H C cl fp => PI.ex (hi1 s H C cl fp)) hg1 (fun s H C cl fp => PTs.ex fun x => (ht1 x).pts s H C cl fp) (fun s H C cl fp => PE.ex fun p => he s H C cl fp p.1 p.2) hs hs1) fun E σ H q => tAsg_imp (fun Q q =>
    lc2_to (tt1 := tEx tt1) hgt hw ht.ok hgt1 hw1 (fun x x1 σ F H Q R r => ⟨x, (ht1 x).ok x1 σ F H Q R r⟩) q) (asgO q)
theorem ds_lc2V (i : Nat) {n : Nat} {y : Str} {py spos : Pos} (vs1 : List Nat) (hc : X.calm = true) (hN : X.N.Nodup) (hi : DI X b sl tg iter fz c g) (ok : BlkOk X.N X.env.scope scope own) (hgt : GT2 X.K gt ws g set)
    (hg : ∀ (s : Shared) (H : Hp) (C : Addr) (cl : List (Str × Addr)) (fp : List Addr), PG (X.blk s H scope (compEnvC scope cl C X.env) fp) tg gt)
    (ht : LT X b (wipeS sl (own.map (·.2))) set scope ifs tst tt)
    (hi1 : ∀ (s : Shared) (H : Hp) (C : Addr) (cl : List (Str × Addr)) (fp : List Addr) (x : α), DI (X.blk s H scope (compEnvC scope cl C X.env) fp) b (set x (wipeS sl (own.map (·.2)))) tg1 iter1 true (c1 x) g1) (hgt1 : GT X.K gt1 ws1 g1 set1)
    (hg1 : ∀ (s : Shared) (H : Hp) (C : Addr) (cl : List (Str × Addr)) (fp : List Addr), PG (X.blk s H scope (compEnvC scope cl C X.env) fp) tg1 gt1)
    (ht1 : ∀ x, LT X b (wipeS (set x (wipeS sl (own.map (·.2)))) vs1) set1 scope ifs1 (tst1 x) (tt1 x))
    (he : ∀ (s : Shared) (H : Hp) (C : Addr) (cl : List (Str × Addr)) (fp : List Addr) (x : α) (z : α1), DM (X.blk s H scope (compEnvC scope cl C X.env) fp) b (set1 z (wipeS (set x (wipeS sl (own.map (·.2)))) vs1)) elx (.ow n) (elt x z) h)
    (hsw : swapsWith (.ListComp elx [⟨tg, iter, ifs, 0⟩, ⟨tg1, iter1, ifs1, 0⟩] scope pos) (some (.Name y py)) spos.line X.env = pure true := by exact sw_true rfl rfl rfl (by decide +kernel))
    (hy : X.N[i]? = some y := by rfl) (hyl : X.env.scope.names.lookup y = some .local := by rfl)
    (hv1 : ∀ i ∈ vs1, i ∈ own.map (·.2) := by decide) (hw : ∀ i ∈ ws, i ∈ own.map (·.2) := by decide) (hw1 : ∀ i ∈ ws1, i ∈ vs1 := by decide) (hs : ∀ x, foldedSetIterable iter X.env x = pure x := by intro _; rfl) (hs1 : ∀ (env : Env) x, foldedSetIterable iter1 env x = pure x := by intro _ _; rfl) :
    DS1 X b sl (.Assign [.Name y py] (.ListComp elx [⟨tg, iter, ifs, 0⟩, ⟨tg1, iter1, ifs1, 0⟩] scope pos) spos) (c >>= lcOut tst (fun x acc => c1 x >>= lcIn (tst1 x) (elt x) acc) []) (fun ys => .nx (sl.set i (some (.v (eL h ys))))) :=
  PS.imp (ps_setLc2 hc hN hy hyl hsw hi ok hv1 hg ht.pts (fun s H C cl fp => PI.ex (hi1 s H C cl fp)) hg1 (fun s H C cl fp => PTs.ex fun x => (ht1 x).pts s H C cl fp) (fun s H C cl fp => PE.ex fun p => he s H C cl fp p.1 p.2) hs hs1) fun E σ H q => tAsg_imp (fun Q q =>
    lc2_to (tt1 := tEx tt1) hgt hw ht.ok hgt1 hw1 (fun x x1 σ F H Q R r => ⟨x, (ht1 x).ok x1 σ F H Q R r⟩) q) (asgF q)
end
end DL
namespace DL
open PySem PySem.Spec PyProof.Rows L2
/-! ### comprehensions with any number of fors -/
/-- nothing is raised -/
abbrev nEx : Value → Shared → Prop := fun _ _ => False
/-- the tests of one for, asked in turn -/
abbrev asks (fs : List Expr) (en : Env) : Sem Bool :=
  forIn fs true fun q ok => if ok = true then do let z ← isTrue q en (eval q en); pure (ForInStep.yield z) else pure (ForInStep.yield ok)
section
variable {ex : Expr} {gs : List Comprehension} {sc : Scope} {ps : Pos} {d : Nat} {ta ia tb ib : Expr} {fa fb : List Expr}
theorem turn_more (e0 : gs[d]? = some ⟨ta, ia, fa, 0⟩) (e1 : gs[d + 1]? = some ⟨tb, ib, fb, 0⟩) (itr res : Value) (en : Env) :
    compTurn (.ListComp ex gs sc ps) d itr res en = (standAt ia.pos >>= fun _ => pyNext itr >>= fun r => match r with
      | none => pure (.done .next)
      | some u => letOwnedTupleGo ta itr u >>= fun _ => assign ta en u >>= fun _ => asks fa en >>= fun ok =>
        if ok = true then (eval ib en >>= fun y => standAt ib.pos >>= fun _ => foldedSetIterable ib en y >>= fun y =>
          holding [y] (pyIter y) >>= fun jt => runOwn (.compStart (.ListComp ex gs sc ps) (d + 1) jt res en) en >>= fun _ =>
          again (.compLoop (.ListComp ex gs sc ps) d itr res en)) else again (.compLoop (.ListComp ex gs sc ps) d itr res en)) := by
  unfold compTurn
  simp only [e0, e1, bne_self_eq_false, Bool.false_eq_true, if_false]
  rfl
theorem turn_last (e0 : gs[d]? = some ⟨ta, ia, fa, 0⟩) (e1 : gs[d + 1]? = none) (itr res : Value) (en : Env) :
    compTurn (.ListComp ex gs sc ps) d itr res en = (standAt ia.pos >>= fun _ => pyNext itr >>= fun r => match r with
      | none => pure (.done .next)
      | some u => letOwnedTupleGo ta itr u >>= fun _ => assign ta en u >>= fun _ => asks fa en >>= fun ok =>
        if ok = true then (eval ex en >>= fun y => call (.builtin "list.append") [res, y] >>= fun _ =>
          again (.compLoop (.ListComp ex gs sc ps) d itr res en)) else again (.compLoop (.ListComp ex gs sc ps) d itr res en)) := by
  unfold compTurn
  simp only [e0, e1, bne_self_eq_false, Bool.false_eq_true, if_false, bind_assoc, pure_bind]
  rfl
end
section
variable {P : Program} {w : World} {A : Around} {R : Result → Shared → Prop} {s : Shared} {ex : Expr} {gs : List Comprehension} {sc : Scope} {ps : Pos} {d : Nat} {ta ia tb ib : Expr} {fa fb : List Expr} {itr res : Value} {en : Env}
/-- the loop of a for with another behind it -/
theorem loop_more (e0 : gs[d]? = some ⟨ta, ia, fa, 0⟩) (e1 : gs[d + 1]? = some ⟨tb, ib, fb, 0⟩) (hf : ∀ x, foldedSetIterable ib en x = pure x) (I : Nat → Shared → Prop)
    (turn : ∀ n s, I n s → wpAny (model P w) A (pyNext itr) (fun r s1 => match r with
      | none => R (.ok .next) s1
      | some u => wpAny (model P w) A (letOwnedTupleGo ta itr u) (fun _ s2 => wpAny (model P w) A (assign ta en u) (fun _ s3 => wpAny (model P w) A (asks fa en) (fun ok s4 =>
            if ok = true then wpAny (model P w) A (eval ib en) (fun y s5 => wpAny (model P w) A (pyIter y) (fun jt s6 =>
              codeAny (model P w) A (.compStart (.ListComp ex gs sc ps) (d + 1) jt res en) (fun r s' => r.isOk = true ∧ ∃ m, m < n ∧ I m s') s6) nEx s5) nEx s4
            else ∃ m, m < n ∧ I m s4) nEx s3) nEx s2) nEx s1) nEx s)
    (n : Nat) (h : I n s) : codeAny (model P w) A (.compLoop (.ListComp ex gs sc ps) d itr res en) R s := by
  refine codeAny_loop rfl I (fun n s hI => ?_) n h
  refine wpAny_noted ?_
  rw [turn_more e0 e1]
  refine wpAny_bind (wpAny_standAt (wpAny_bind (thnF (turn n s hI) fun r s1 h1 => ?_)))
  cases r with
  | none => exact wpAny_pure h1
  | some u =>
    refine wpAny_bind (thnF h1 fun _ s2 h2 => wpAny_bind (thnF h2 fun _ s3 h3 => wpAny_bind (thnF h3 fun ok s4 h4 => ?_)))
    cases ok with
    | false => exact wpAny_pure ⟨rfl, h4⟩
    | true =>
      refine wpAny_bind (thnF h4 fun y s5 h5 => wpAny_bind (wpAny_standAt (wpAny_bind (wpAny_of_eq (hf y) (wpAny_bind (wpAny_holding (thnF h5 fun jt s6 h6 => wpAny_bind (wpAny_runOwn ?_))))))))
      rw [Around.mark_none]
      refine codeAny_mono h6 fun r s' hr => ?_
      cases r with
      | ok f => exact wpAny_pure ⟨rfl, hr.2⟩
      | error e => have z := hr.1; cases z
/-- the loop of the last for -/
theorem loop_last (e0 : gs[d]? = some ⟨ta, ia, fa, 0⟩) (e1 : gs[d + 1]? = none) (I : Nat → Shared → Prop)
    (turn : ∀ n s, I n s → wpAny (model P w) A (pyNext itr) (fun r s1 => match r with
      | none => R (.ok .next) s1
      | some u => wpAny (model P w) A (letOwnedTupleGo ta itr u) (fun _ s2 => wpAny (model P w) A (assign ta en u) (fun _ s3 => wpAny (model P w) A (asks fa en) (fun ok s4 =>
            if ok = true then wpAny (model P w) A (eval ex en) (fun y s5 =>
              wpAny (model P w) A (call (.builtin "list.append") [res, y]) (fun _ s6 => ∃ m, m < n ∧ I m s6) nEx s5) nEx s4
            else ∃ m, m < n ∧ I m s4) nEx s3) nEx s2) nEx s1) nEx s)
    (n : Nat) (h : I n s) : codeAny (model P w) A (.compLoop (.ListComp ex gs sc ps) d itr res en) R s := by
  refine codeAny_loop rfl I (fun n s hI => ?_) n h
  refine wpAny_noted ?_
  rw [turn_last e0 e1]
  refine wpAny_bind (wpAny_standAt (wpAny_bind (thnF (turn n s hI) fun r s1 h1 => ?_)))
  cases r with
  | none => exact wpAny_pure h1
  | some u =>
    refine wpAny_bind (thnF h1 fun _ s2 h2 => wpAny_bind (thnF h2 fun _ s3 h3 => wpAny_bind (thnF h3 fun ok s4 h4 => ?_)))
    cases ok with
    | false => exact wpAny_pure ⟨rfl, h4⟩
    | true => exact wpAny_bind (thnF h4 fun y s5 h5 => wpAny_bind (thnF h5 fun _ s6 h6 => wpAny_pure ⟨rfl, h6⟩))
theorem start_at (e0 : gs[d]? = some ⟨ta, ia, fa, 0⟩) (h0 : codeAny (model P w) A (.compLoop (.ListComp ex gs sc ps) d itr res en) R s)
    (h : wpAny (model P w) A (pyIter itr) (fun jt s' => codeAny (model P w) A (.compLoop (.ListComp ex gs sc ps) d jt res en) R s') nEx s) :
    codeAny (model P w) A (.compStart (.ListComp ex gs sc ps) d itr res en) R s := by
  refine codeAny_of_tree (wpAny_notedAt ?_)
  unfold compStart
  have ec : clausesOf (.ListComp ex gs sc ps) = gs := rfl
  simp only [ec, e0, Option.elim, bne_self_eq_false, Bool.false_eq_true, if_false]
  refine wpAny_bind (wpAny_askSetting (wpAny_ite ?_))
  split
  · exact wpAny_bind (wpAny_pure (wpAny_pure ⟨rfl, h0⟩))
  · exact wpAny_bind (wpAny_rule (wpAny_bind (wpAny_standAt (wpAny_bind (thnF h fun _ _ z => wpAny_pure ⟨rfl, z⟩)))))
end
/-- one for of a comprehension -/
structure Clz where
  tg : Expr
  src : Expr
  fs : List Expr
  wi : TI
  gt : TG
  tt : TT
  vs : List Nat
def Clz.gen (c : Clz) : Comprehension := ⟨c.tg, c.src, c.fs, 0⟩
structure CzOk (Y : Cx) (c : Clz) : Prop where
  src : PI Y c.tg c.src c.wi
  gt : PG Y c.tg c.gt
  ts : PTs Y c.fs c.tt
  fold : ∀ en x, foldedSetIterable c.src en x = pure x
def VsOk : List Nat → List Clz → Prop
  | _, [] => True
  | vs, c :: cs => (∀ i ∈ c.vs, i ∈ vs) ∧ VsOk c.vs cs
/-- one for's turns -/
def tLp (c : Clz) (body : L2.St → Hp → (Hp → Prop) → Prop) (σ : L2.St) (J : It) (H1 : Hp) (Nx : Hp → Prop) : Prop :=
  ∃ Z : Nat → Nat → Hp → Prop, (∃ m, Z 0 m H1) ∧ ∀ i m H, Z i m H → (J.stop i H ∧ Nx H) ∨
    (J.go i H ∧ ∃ Ny : Hp → Prop, (∀ H', Ny H' → ∃ m', m' < m ∧ Z (i + 1) m' H') ∧ ∀ x H', J.yld i H x H' → c.gt x (L2.wipe σ c.vs) H' fun σ2 H2 =>
      L2.wipe σ2 c.vs = L2.wipe σ c.vs ∧ c.tt σ2 H2 fun b H3 => if b = true then body σ2 H3 Ny else Ny H3)
def tIn (te : TE) (D : Addr) : List Clz → L2.St → Hp → (Hp → Prop) → Prop
  | [], σ, H, Nx => te σ H fun y H1 => ∃ acc, H1 D = some (.lst acc) ∧ acc.length < sizeLine ∧ Nx (upd H1 D (.lst (acc ++ [y])))
  | c :: cs, σ, H, Nx => c.wi σ H fun J H1 => tLp c (tIn te D cs) σ J H1 Nx
theorem loop_ok {Y : Cx} (hc : Y.calm = true) (hx : Y.xe = nEx) {ex : Expr} {sc : Scope} {ps : Pos} {D : Addr} {te : TE} (pe : PE Y ex te) : ∀ (cs : List Clz) (pre : List Comprehension) (c : Clz), PG Y c.tg c.gt → PTs Y c.fs c.tt → (∀ k ∈ cs, CzOk Y k) → VsOk c.vs cs →
    ∀ {pins : List (Addr × Obj)} {σ : L2.St} {H : Hp} {it : Addr} {fp : List Addr} {tn : Nat → Heap → Prop} {J : It} {R : Result → Shared → Prop} {Nx : Hp → Prop} {s : Shared}, Turn Y.prog Y.w Y.K c.tg J fp it tn →
    Inv Y pins σ H s → tn 0 s.heap → (∀ b ∈ fp, FpOk Y pins H b) → tLp c (tIn te D cs) σ J H Nx → (∀ s' H', Inv Y pins (L2.wipe σ c.vs) H' s' → Nx H' → R (.ok .next) s') →
    codeAny (model Y.prog Y.w) Y.A (.compLoop (.ListComp ex (pre ++ c.gen :: cs.map Clz.gen) sc ps) pre.length (.ref it) (.ref D) Y.env) R s := by
  intro cs
  induction cs with
  | nil =>
    intro pre c kg kt hk _ pins σ H it fp tn J R Nx s T I st hfp ⟨Z, ⟨m0, z0⟩, go⟩ fin
    have stat : ∀ {H' : Hp}, (∀ b ∈ fp, H' b = none) → ∀ b ∈ fp, FpOk Y pins H' b := fun hn b hb => ⟨hn b hb, (hfp b hb).2⟩
    have xg := kg.run
    have xt := kt.run
    have xe := pe.run
    rw [hx] at xg xt xe
    refine loop_last (ta := c.tg) (ia := c.src) (fa := c.fs) (by rw [List.getElem?_append_right (Nat.le_refl _), Nat.sub_self]; rfl) (by rw [List.getElem?_append_right (by omega), show pre.length + 1 - pre.length = 1 by omega]; rfl)
      (fun n s' => ∃ i H', Inv Y pins (L2.wipe σ c.vs) H' s' ∧ tn i s'.heap ∧ (∀ b ∈ fp, H' b = none) ∧ Z i n H') ?_ m0 ⟨0, H, I.weak (wipe_length _ _) fun j v e => (wipe_some e).1, st, fun b hb => (hfp b hb).1, z0⟩
    rintro n s1 ⟨i, H1, I1, st1, n1, z1⟩
    rcases go i n H1 z1 with ⟨hs, nx⟩ | ⟨hg, Ny, hN, stp⟩
    · refine thnF (T.done Y rfl rfl rfl hc i pins s1 _ H1 nEx I1 (stat n1) st1 hs) fun r s2 ⟨hr, I2⟩ => ?_
      subst hr
      exact fin s2 H1 I2 nx
    · refine thnF (T.item Y rfl rfl rfl hc i pins s1 _ H1 nEx I1 (stat n1) st1 hg) fun r s2 ⟨u, hr, h2⟩ => ?_
      subst hr
      refine thnF h2 fun _ s3 ⟨x, H3, I3, r3, y3, st3, n3⟩ => ?_
      have I3' := I3.pinned (stat n3) (T.obj _ _ st3)
      refine thnF (xg _ s3 _ H3 x u _ I3' r3 (stp x H3 y3)) fun _ s4 ⟨σ4, H4, I4, w4, q4⟩ => ?_
      refine thnF (xt _ s4 σ4 H4 _ I4 q4) fun b s5 ⟨H5, I5, q5⟩ => ?_
      have back : ∀ {s' : Shared} {H' : Hp}, Inv Y (pins ++ pinsAt fp s3.heap) σ4 H' s' → Ny H' → ∃ m, m < n ∧ ∃ i H', Inv Y pins (L2.wipe σ c.vs) H' s' ∧ tn i s'.heap ∧ (∀ b ∈ fp, H' b = none) ∧ Z i m H' := fun {s' H'} I' ny => by
        obtain ⟨m', hm, z'⟩ := hN H' ny
        have kept : ∀ b ∈ fp, ∀ o, s3.heap.get? b = some o → s'.heap.get? b = some o ∧ H' b = none := fun b hb o e =>
          have z := I'.pin (b, o) (List.mem_append_right _ (List.mem_append_right _ (mem_pinsAt hb e)))
          ⟨z.1, z.2.1⟩
        refine ⟨m', hm, i + 1, H', I'.unpinned.weak (by rw [← w4, wipe_length]) (fun j v e => by rw [← w4] at e; exact (wipe_some e).1), T.keep _ _ _ st3 fun b hb o e => (kept b hb o e).1, fun b hb => ?_, z'⟩
        obtain ⟨o, e, _⟩ := T.obj _ _ st3 b hb
        exact (kept b hb o e).2
      cases b with
      | false => rw [if_neg Bool.false_ne_true] at q5; rw [if_neg Bool.false_ne_true]; exact back I5 q5
      | true =>
        rw [if_pos rfl] at q5
        rw [if_pos rfl]
        refine thnF (xe _ s5 σ4 H5 _ I5 q5) fun z s6 ⟨yv, H6, I6, r6, acc, hD, hz, ny⟩ => ?_
        exact app_ok I6 hD hz r6 fun s7 I7 => back I7 ny
  | cons c1 cs ih =>
    intro pre c kg kt hk hv pins σ H it fp tn J R Nx s T I st hfp ⟨Z, ⟨m0, z0⟩, go⟩ fin
    have k1 := hk c1 List.mem_cons_self
    have stat : ∀ {H' : Hp}, (∀ b ∈ fp, H' b = none) → ∀ b ∈ fp, FpOk Y pins H' b := fun hn b hb => ⟨hn b hb, (hfp b hb).2⟩
    have xg := kg.run
    have xt := kt.run
    have xi := k1.src.run
    rw [hx] at xg xt xi
    have e1 : (pre ++ c.gen :: (c1 :: cs).map Clz.gen)[pre.length + 1]? = some ⟨c1.tg, c1.src, c1.fs, 0⟩ := by rw [List.getElem?_append_right (by omega), show pre.length + 1 - pre.length = 1 by omega]; rfl
    refine loop_more (ta := c.tg) (ia := c.src) (fa := c.fs) (by rw [List.getElem?_append_right (Nat.le_refl _), Nat.sub_self]; rfl) e1 (k1.fold Y.env)
      (fun n s' => ∃ i H', Inv Y pins (L2.wipe σ c.vs) H' s' ∧ tn i s'.heap ∧ (∀ b ∈ fp, H' b = none) ∧ Z i n H') ?_ m0 ⟨0, H, I.weak (wipe_length _ _) fun j v e => (wipe_some e).1, st, fun b hb => (hfp b hb).1, z0⟩
    rintro n s1 ⟨i, H1, I1, st1, n1, z1⟩
    rcases go i n H1 z1 with ⟨hs, nx⟩ | ⟨hg, Ny, hN, stp⟩
    · refine thnF (T.done Y rfl rfl rfl hc i pins s1 _ H1 nEx I1 (stat n1) st1 hs) fun r s2 ⟨hr, I2⟩ => ?_
      subst hr
      exact fin s2 H1 I2 nx
    · refine thnF (T.item Y rfl rfl rfl hc i pins s1 _ H1 nEx I1 (stat n1) st1 hg) fun r s2 ⟨u, hr, h2⟩ => ?_
      subst hr
      refine thnF h2 fun _ s3 ⟨x, H3, I3, r3, y3, st3, n3⟩ => ?_
      have I3' := I3.pinned (stat n3) (T.obj _ _ st3)
      refine thnF (xg _ s3 _ H3 x u _ I3' r3 (stp x H3 y3)) fun _ s4 ⟨σ4, H4, I4, w4, q4⟩ => ?_
      refine thnF (xt _ s4 σ4 H4 _ I4 q4) fun b s5 ⟨H5, I5, q5⟩ => ?_
      have back : ∀ {σ5 : L2.St} {s' : Shared} {H' : Hp}, Inv Y (pins ++ pinsAt fp s3.heap) σ5 H' s' → (L2.wipe σ c.vs).length = σ5.length → (∀ (j : Nat) v, (L2.wipe σ c.vs)[j]? = some (some v) → σ5[j]? = some (some v)) → Ny H' →
          ∃ m, m < n ∧ ∃ i H', Inv Y pins (L2.wipe σ c.vs) H' s' ∧ tn i s'.heap ∧ (∀ b ∈ fp, H' b = none) ∧ Z i m H' := fun {σ5 s' H'} I' hl hk ny => by
        obtain ⟨m', hm, z'⟩ := hN H' ny
        have kept : ∀ b ∈ fp, ∀ o, s3.heap.get? b = some o → s'.heap.get? b = some o ∧ H' b = none := fun b hb o e =>
          have z := I'.pin (b, o) (List.mem_append_right _ (List.mem_append_right _ (mem_pinsAt hb e)))
          ⟨z.1, z.2.1⟩
        refine ⟨m', hm, i + 1, H', I'.unpinned.weak hl hk, T.keep _ _ _ st3 fun b hb o e => (kept b hb o e).1, fun b hb => ?_, z'⟩
        obtain ⟨o, e, _⟩ := T.obj _ _ st3 b hb
        exact (kept b hb o e).2
      have l4 : (L2.wipe σ c.vs).length = σ4.length := by rw [← w4, wipe_length]
      cases b with
      | false =>
        rw [if_neg Bool.false_ne_true] at q5
        rw [if_neg Bool.false_ne_true]
        exact back I5 l4 (fun j v e => by rw [← w4] at e; exact (wipe_some e).1) q5
      | true =>
        rw [if_pos rfl] at q5
        rw [if_pos rfl]
        refine thnF (xi _ s5 σ4 H5 _ I5 q5) fun xv s6 hy => thnF hy fun itv s7 h7 => ?_
        obtain ⟨jt, fq, tm, J1, H7, ej, I7, T1, st7, f7, lp⟩ := h7
        subst ej
        have inner := ih (pre ++ [c.gen]) c1 k1.gt k1.ts (fun k hk' => hk k (List.mem_cons_of_mem _ hk')) hv.2 (R := fun r s' => r.isOk = true ∧ ∃ m, m < n ∧ ∃ i H', Inv Y pins (L2.wipe σ c.vs) H' s' ∧ tn i s'.heap ∧ (∀ b ∈ fp, H' b = none) ∧ Z i m H') T1 I7 st7 f7 lp
          fun s' H' I' ny => ⟨rfl, back I' (l4.trans (wipe_length σ4 c1.vs).symm) (fun j v e => by
            rw [← w4] at e
            obtain ⟨e1, e2⟩ := wipe_some e
            rw [wipe_out fun z => e2 (hv.1 j z)]
            exact e1) ny⟩
        rw [List.append_assoc, List.length_append] at inner
        exact start_at e1 inner (T1.self Y.A 0 _ _ _ st7 inner)
/-- a comprehension with any number of fors -/
def tLcN (te : TE) (c : Clz) (cs : List Clz) : TE := fun σ H Q => c.wi σ H fun J H1 => ∀ D, H1 D = none → tLp c (tIn te D cs) σ J (upd H1 D (.lst [])) fun H' => Q (.ref D) H'
theorem pe_lcN {X : Cx} {ex : Expr} {sc : Scope} {ps : Pos} {own : List (Str × Nat)} {te : TE} (c : Clz) (cs : List Clz) (hc : X.calm = true) (hN : X.N.Nodup) (hi : PI X c.tg c.src c.wi) (ok : BlkOk X.N X.env.scope sc own) (hvs : c.vs = own.map (·.2)) (hv : VsOk c.vs cs)
    (hg : ∀ (s : Shared) (H : Hp) (C : Addr) (cl : List (Str × Addr)) (fp : List Addr), PG (X.blk s H sc (compEnvC sc cl C X.env) fp) c.tg c.gt)
    (ht : ∀ (s : Shared) (H : Hp) (C : Addr) (cl : List (Str × Addr)) (fp : List Addr), PTs (X.blk s H sc (compEnvC sc cl C X.env) fp) c.fs c.tt)
    (hk : ∀ (s : Shared) (H : Hp) (C : Addr) (cl : List (Str × Addr)) (fp : List Addr), ∀ k ∈ cs, CzOk (X.blk s H sc (compEnvC sc cl C X.env) fp) k)
    (he : ∀ (s : Shared) (H : Hp) (C : Addr) (cl : List (Str × Addr)) (fp : List Addr), PE (X.blk s H sc (compEnvC sc cl C X.env) fp) ex te) (hs : ∀ x, foldedSetIterable c.src X.env x = pure x) :
    PE X (.ListComp ex (c.gen :: cs.map Clz.gen) sc ps) (tLcN te c cs) := by
  refine ⟨fun pins s σ H Q I h => ?_⟩
  rw [eval_ListComp]
  have hfr : ∀ y ∈ sc.names, y.2 = .free → ∃ a, X.env.cells.lookup y.1 = some a := fun y hy e =>
    (ok.free y hy e).elim (fun z => I.ok.has _ (.inl z)) fun z => I.ok.has _ (.inr z)
  refine wpAny_comprehension_free (use := none) rfl hs (closure_ok hfr) ok.kind (fun y hy e => by rw [ok.uniq y hy, e]) (thn (hi.run pins s σ H _ I h) fun xv s1 hx => thn hx fun iv s2 hi2 => ?_)
  obtain ⟨it, fp, tn, J, H2, ei, I2, T, st2, f2, lp⟩ := hi2
  subst ei
  refine wpAny_newObj_type (newEnv_comp ?_) (by show 0 ≤ sizeLine; decide)
  have sD : H2 s2.heap.objs.size = none := I2.hok.fresh (Nat.le_refl _)
  have lp := lp _ sD
  -- the list is made
  generalize hs3 : ({ s2 with heap := s2.heap.push { cls := .type "list", data := .seq ([] : List Value).toArray } } : Shared) = s3
  have g3 : s3.heap = s2.heap.push { cls := .type "list", data := .seq ([] : List Value).toArray } := by rw [← hs3]
  have I3 : Inv X pins σ (upd H2 s2.heap.objs.size (.lst [])) s3 := by
    rw [← hs3]
    exact I2.laid (t' := s2.toks) (fun b o e => Heap.get?_push_of_some _ e) (Nat.le_refl _) ⟨Nat.zero_le _, [], 0, .nil, Heap.get?_push_size _ rfl⟩
  have lt2 : ∀ b ∈ fp, b < s2.heap.objs.size := fun b hb => by
    obtain ⟨o, e, _⟩ := T.obj _ _ st2 b hb
    exact Heap.lt_size e
  generalize hD : s2.heap.objs.size = D at sD lp I3 lt2
  generalize hH3 : upd H2 D (.lst []) = H3 at I3 lp
  have f3 : ∀ b ∈ fp, FpOk X pins H3 b ∧ b < s3.heap.objs.size := fun b hb => by
    have z := lt2 b hb
    refine ⟨⟨?_, (f2 b hb).2⟩, by rw [g3, Heap.size_push, hD]; exact Nat.lt_succ_of_lt z⟩
    rw [← hH3, upd_ne (Nat.ne_of_lt z)]
    exact (f2 b hb).1
  have st3 : tn 0 s3.heap := T.keep _ _ _ st2 fun b _ o e => by rw [g3]; exact Heap.get?_push_of_some _ e
  have I4 := block_start I3 ok hN f3
  have kg := hg s3 H3 s3.heap.objs.size (cellsFrom (s3.heap.objs.size + 1) sc.names (cloFrom X.env.cells sc.names [])) fp
  have kt := ht s3 H3 s3.heap.objs.size (cellsFrom (s3.heap.objs.size + 1) sc.names (cloFrom X.env.cells sc.names [])) fp
  have kk := hk s3 H3 s3.heap.objs.size (cellsFrom (s3.heap.objs.size + 1) sc.names (cloFrom X.env.cells sc.names [])) fp
  have ke := he s3 H3 s3.heap.objs.size (cellsFrom (s3.heap.objs.size + 1) sc.names (cloFrom X.env.cells sc.names [])) fp
  generalize hce : compEnvC sc (cellsFrom (s3.heap.objs.size + 1) sc.names (cloFrom X.env.cells sc.names [])) s3.heap.objs.size X.env = ce at I4 kg kt kk ke
  have cL : ce.locals = s3.heap.objs.size := by rw [← hce]; rfl
  generalize hs4 : ({ s3 with heap := pushCells (s3.heap.push { cls := .type "dict", data := .dict #[] }) sc.names } : Shared) = s4 at I4
  have st4 : tn 0 s4.heap := T.keep _ _ _ st3 fun b _ o e => by rw [← hs4]; exact pushCells_keeps _ _ _ _ (Heap.get?_push_of_some _ e)
  have f4 : ∀ b ∈ fp, FpOk (X.blk s3 H3 sc ce fp) [] H3 b := fun b hb =>
    ⟨(f3 b hb).1.1, (I4.ok.exf b hb).1, I4.ok.exfs b hb, .inl hb, fun x a e => (I4.ok.exf b hb).2 x a e, fun p hp => absurd (show p ∈ ([] : List (Addr × Obj)) ++ [] from hp) (by simp)⟩
  have fin : codeAny (model X.prog X.w) X.A (.compLoop (.ListComp ex ([] ++ c.gen :: cs.map Clz.gen) sc ps) ([] : List Comprehension).length (.ref it) (.ref D) ce)
      (compPost (model X.prog X.w) X.A X.xe none (EP X pins σ Q) (.ref D) s3.heap.objs.size) s4 := by
    refine loop_ok (Y := X.blk s3 H3 sc ce fp) hc rfl ke cs [] c kg kt kk hv (σ := L2.wipe σ c.vs) T (by rw [hvs]; exact I4) st4 f4 (Nx := fun H' => Q (.ref D) H') ?_ fun s5 H5 I5 q5 => ?_
    · obtain ⟨Z, z0, go⟩ := lp
      refine ⟨Z, z0, fun i m H' z => ?_⟩
      rw [wipe_wipe c.vs fun _ h => h]
      exact go i m H' z
    · rw [wipe_wipe c.vs fun _ h => h] at I5
      have nC : H5 s3.heap.objs.size = none := by rw [← cL]; exact I5.free
      have I6 : Inv X pins σ H5 s5 := I3.call' (ch := fp) I5.os I5.base I5.hok I5.bare fun b hb => ⟨(f3 b hb).1.2.2.2.1, (f3 b hb).1.2.1, (f3 b hb).1.2.2.2.2.1, (f3 b hb).1.2.2.2.2.2⟩
      obtain ⟨m, hn, _⟩ := I5.loc
      have hn : s5.heap.Ns ce.locals m := hn
      rw [cL] at hn
      obtain ⟨p0, p1, p2, p3, p4, p5⟩ := I3.fpOk (Nat.le_refl _) nC
      exact ⟨m, hn, fun h' sb => ⟨.ref D, H5, I6.turned (t' := s5.toks) (fun b o hb e => (sb.2 b hb).trans e) p0 p1 p3 p4 p5, rfl, q5⟩⟩
  show codeAny _ _ (.compStart (.ListComp ex (c.gen :: cs.map Clz.gen) sc ps) 0 (.ref it) (.ref D) (compEnvC sc (cellsFrom (s3.heap.objs.size + 1) sc.names (cloFrom X.env.cells sc.names [])) s3.heap.objs.size X.env))
    (compPost (model X.prog X.w) X.A X.xe none (EP X pins σ Q) (.ref D) s3.heap.objs.size) s4
  rw [hce]
  exact codeAny_compStart_list fin (T.self X.A 0 _ _ _ st4 fin)
end DL
namespace DL
open PySem PySem.Spec PyProof.Rows L2
/-! ### what a comprehension with any number of fors computes -/
section
variable {m : Type → Type} [Run m] {α α1 β : Type} {K : PySem.W.Frag} {b : Bs} {h : β → D} {n : Nat} {F1 H1 : Hp} {A0 : Addr}
/-- slots that stay true while the list grows -/
def Grows (K : PySem.W.Frag) (b : Bs) (n : Nat) (h : β → D) (F1 H1 : Hp) (A0 : Addr) (sl : Sls) (σ : L2.St) (F : Hp) : Prop :=
  ∀ F' H' done us, Sub F F' → AccI K b.fd n h F1 H1 A0 F' H' done us → Rel K b sl F' H' σ
def BodyOk (K : PySem.W.Frag) (b : Bs) (n : Nat) (h : β → D) (F1 H1 : Hp) (A0 : Addr) (sl : Sls) (f : List β → m (List β)) (t : L2.St → Hp → (Hp → Prop) → Prop) : Prop :=
  ∀ σ F H done us Nx, Grows K b n h F1 H1 A0 sl σ F → AccI K b.fd n h F1 H1 A0 F H done us → Run.run (f done) (fun acc => ∀ F' H' us', Sub F F' → AccI K b.fd n h F1 H1 A0 F' H' acc us' → Nx H') → t σ H Nx
theorem Grows.mono {sl : Sls} {σ : L2.St} {F F' : Hp} (g : Grows K b n h F1 H1 A0 sl σ F) (s : Sub F F') : Grows K b n h F1 H1 A0 sl σ F' := fun F2 H2 done us s2 A => g F2 H2 done us (s.trans s2) A
/-- the element -/
theorem body_elt {sl : Sls} {elt : m β} {te : TE} (nD : H1 A0 = none) (fdD : b.fd ≠ some A0) (fe1 : FeedOk K b.fd F1 H1) (hte : ∀ σ H Q, tD K b sl (.ow n) elt h σ H Q → te σ H Q) :
    BodyOk K b n h F1 H1 A0 sl (fun acc => elt >>= fun y => (Run.lift (lapp acc y) : m (List β))) (tIn te A0 []) := fun σ F H done us Nx G A run => by
  have R := G F H done us (Sub.refl _) A
  refine hte _ _ _ ⟨F, R, rmono (rbind run) fun z p w F2 H2 C2 S2 o2 k2 => ?_⟩
  obtain ⟨hz, p⟩ := lapp_run p
  obtain ⟨e1, e2, A2⟩ := A.app nD fdD fe1 S2 o2 k2 hz
  exact ⟨us, e1, e2, p F2 _ _ S2.ff A2⟩
/-- the turns of one for -/
theorem turns {sl : Sls} {c : Clz} {ws : List Nat} {g : α → D} {set : α → Sls → Sls} {tst : α → m Bool} {inn : α → List β → m (List β)} {body : L2.St → Hp → (Hp → Prop) → Prop} (hg : GT2 K c.gt ws g set) (hw : ∀ i ∈ ws, i ∈ c.vs)
    (ht : TsOk K b (wipeS sl c.vs) set tst c.tt) (fdD : b.fd ≠ some A0) (fe1 : FeedOk K b.fd F1 H1) (hb : ∀ x, BodyOk K b n h F1 H1 A0 (set x (wipeS sl c.vs)) (inn x) body)
    {J : It} {xs : List α} {ok : Hp → Hp → Prop} {F5 H5 : Hp} {done : List β} {us : List V} {Nx : Hp → Prop} {σ : L2.St} (it : ItOk K b.fd J (xs.map g) ok) (okA : ∀ F' H' done us, Sub F5 F' → AccI K b.fd n h F1 H1 A0 F' H' done us → ok F' H')
    (G : Grows K b n h F1 H1 A0 sl σ F5) (A5 : AccI K b.fd n h F1 H1 A0 F5 H5 done us) (run : Run.run (lcOut tst inn done xs) (fun acc => ∀ F' H' us', Sub F5 F' → AccI K b.fd n h F1 H1 A0 F' H' acc us' → Nx H')) : tLp c body σ J H5 Nx := by
  let In : Nat → Hp → Prop := fun i H2 => ∃ (F2 : Hp) (done : List β) (us : List V), AccI K b.fd n h F1 H1 A0 F2 H2 done us ∧ Sub F5 F2 ∧ i ≤ xs.length ∧
    Run.run (lcOut tst inn done (xs.drop i)) (fun acc => ∀ F' H' us', Sub F5 F' → AccI K b.fd n h F1 H1 A0 F' H' acc us' → Nx H')
  refine ⟨fun i k H2 => k = xs.length - i ∧ In i H2, ⟨xs.length, by simp, F5, done, us, A5, Sub.refl _, Nat.zero_le _, run⟩, ?_⟩
  rintro i k H2 ⟨rfl, F2, done2, us2, A, s52, il, run⟩
  have R2 := G F2 H2 done2 us2 s52 A
  have o2 := okA F2 H2 done2 us2 s52 A
  by_cases hi : i < xs.length
  · refine .inr ⟨it.go F2 H2 i o2 R2.sub R2.fe (by rw [List.length_map]; exact hi), fun H' => In (i + 1) H', fun H' p => ⟨xs.length - (i + 1), by omega, rfl, p⟩, fun v H3 y => ?_⟩
    rw [List.drop_eq_getElem_cons hi] at run
    obtain ⟨F3, S3, r3⟩ := it.yld F2 H2 i v H3 (g xs[i]) o2 R2.sub R2.fe (by rw [List.getElem?_map, List.getElem?_eq_getElem hi]; rfl) y
    have A3 := A.step fdD fe1 S3
    have s53 := s52.trans S3.ff
    have R3 := (G F3 H3 done2 us2 s53 A3).wipe c.vs
    refine hg.run b _ F3 H3 _ v xs[i] _ R3 r3 fun σ' R' hw' hk' => ⟨by rw [hw' c.vs hw, wipe_wipe c.vs fun _ h => h], ht xs[i] σ' F3 H3 _ R' (rmono (rbind run) fun t p F4 H4 S4 => ?_)⟩
    have A4 := A3.step fdD fe1 S4
    have s54 := s53.trans S4.ff
    cases t with
    | false =>
      rw [if_neg Bool.false_ne_true]
      exact ⟨F4, done2, us2, A4, s54, hi, p⟩
    | true =>
      rw [if_pos rfl]
      refine hb xs[i] σ' F4 H4 done2 us2 _ (fun F' H' done' us' s' A' => hk' F' H' (S4.ff.trans s') ((G F' H' done' us' (s54.trans s') A').wipe c.vs)) A4 (rmono (rbind p) fun acc p F' H' us' s' A' => ?_)
      exact ⟨F', acc, us', A', s54.trans s', hi, p⟩
  · have e : i = xs.length := by omega
    subst e
    refine .inl ⟨by have := it.stop F2 H2 o2 R2.sub R2.fe; rwa [List.length_map] at this, ?_⟩
    rw [List.drop_length] at run
    unfold lcOut at run
    exact Run.run_pure _ _ run F2 H2 us2 s52 A
/-- a for within a for -/
theorem body_for {sl : Sls} {c : Clz} {cs : List Clz} {te : TE} {ws : List Nat} {g : α → D} {set : α → Sls → Sls} {cc : m (List α)} {tst : α → m Bool} {inn : α → List β → m (List β)} (hi : ∀ σ H R, tI K b sl true cc g σ H R → c.wi σ H R) (hg : GT2 K c.gt ws g set) (hw : ∀ i ∈ ws, i ∈ c.vs)
    (ht : TsOk K b (wipeS sl c.vs) set tst c.tt) (fdD : b.fd ≠ some A0) (fe1 : FeedOk K b.fd F1 H1) (hb : ∀ x, BodyOk K b n h F1 H1 A0 (set x (wipeS sl c.vs)) (inn x) (tIn te A0 cs)) :
    BodyOk K b n h F1 H1 A0 sl (fun acc => cc >>= lcOut tst inn acc) (tIn te A0 (c :: cs)) := fun σ F H done us Nx G A run => by
  refine hi _ _ _ ⟨F, G F H done us (Sub.refl _) A, rmono (rbind run) fun xs p J F5 H5 ok S5 it o5 fz _ => ?_⟩
  have A5 := A.step fdD fe1 S5
  exact turns hg hw ht fdD fe1 hb it (fun F' H' done' us' s' A' => fz rfl F5 H5 F' H' o5 s' (G F' H' done' us' (S5.ff.trans s') A').sub) (G.mono S5.ff) A5 (rmono p fun acc p F' H' us' s' A' => p F' H' us' (S5.ff.trans s') A')
/-- the first for -/
theorem lcN_to {sl : Sls} {c : Clz} {cs : List Clz} {te : TE} {fz : Bool} {ws : List Nat} {g : α → D} {set : α → Sls → Sls} {cc : m (List α)} {tst : α → m Bool} {inn : α → List β → m (List β)} (hi : ∀ σ H R, tI K b sl fz cc g σ H R → c.wi σ H R) (hg : GT2 K c.gt ws g set) (hw : ∀ i ∈ ws, i ∈ c.vs)
    (ht : TsOk K b (wipeS sl c.vs) set tst c.tt) (hb : ∀ F1 H1 A0, H1 A0 = none → b.fd ≠ some A0 → FeedOk K b.fd F1 H1 → ∀ x, BodyOk K b n h F1 H1 A0 (set x (wipeS sl c.vs)) (inn x) (tIn te A0 cs))
    {σ : L2.St} {H : Hp} {Q : VK} (q : tD K b sl (.ow (n + 1)) (cc >>= lcOut tst inn []) (eL h) σ H Q) : tLcN te c cs σ H Q := by
  obtain ⟨F, R, q⟩ := q
  refine hi _ _ _ ⟨F, R, rmono (rbind q) fun xs q J F1 H1 ok S1 it o1 _ hl A0 nD => ?_⟩
  have R1 := R.step S1
  have nF : F1 A0 = none := (S1.fh.trans hid_sub).none nD
  have fdD : b.fd ≠ some A0 := fun z => by
    obtain ⟨o, q⟩ := R1.fe.some z
    rw [nD] at q; cases q
  exact turns hg hw ht fdD R1.fe (hb F1 H1 A0 nD fdD R1.fe) it (fun F' H' done us _ A => it.st _ _ _ _ o1 A.st) (fun F' H' done us _ A => R1.step A.st)
    ⟨Step.alloc S1.fh S1.fe nD, upd_same, nF, Nat.zero_le _, [], .nil, ⟨List.nodup_nil, fun _ h => nomatch h⟩, fun _ h => nomatch h⟩
    (rmono q fun ys p F' H' us' _ A => A.fin nD (p.back R.fe S1))
end
section
variable {m : Type → Type} [Run m] {α α1 α2 β : Type} {X : Cx} {b : Bs} {sl : Sls} {g : α → D} {g1 : α1 → D} {g2 : α2 → D} {h : β → D} {ws ws1 ws2 : List Nat} {n : Nat} {gt gt1 gt2 : TG} {fz : Bool} {tt : TT} {tt1 : α → TT} {tt2 : α → α1 → TT} {c : m (List α)} {c1 : α → m (List α1)} {c2 : α → α1 → m (List α2)}
  {tst : α → m Bool} {tst1 : α → α1 → m Bool} {tst2 : α → α1 → α2 → m Bool} {elt : α → α1 → α2 → m β} {set : α → Sls → Sls} {set1 : α1 → Sls → Sls} {set2 : α2 → Sls → Sls} {pos : Pos} {elx tg iter tg1 iter1 tg2 iter2 : Expr} {ifs ifs1 ifs2 : List Expr} {scope : Scope} {own : List (Str × Nat)}
/-- a comprehension with three fors -/
theorem dm_lc3 (vs1 vs2 : List Nat) (hc : X.calm = true) (hN : X.N.Nodup) (hi : DI X b sl tg iter fz c g) (ok : BlkOk X.N X.env.scope scope own) (hgt : GT2 X.K gt ws g set)
    (hg : ∀ (s : Shared) (H : Hp) (C : Addr) (cl : List (Str × Addr)) (fp : List Addr), PG (X.blk s H scope (compEnvC scope cl C X.env) fp) tg gt)
    (ht : LT X b (wipeS sl (own.map (·.2))) set scope ifs tst tt)
    (hi1 : ∀ (s : Shared) (H : Hp) (C : Addr) (cl : List (Str × Addr)) (fp : List Addr) (x : α), DI (X.blk s H scope (compEnvC scope cl C X.env) fp) b (set x (wipeS sl (own.map (·.2)))) tg1 iter1 true (c1 x) g1) (hgt1 : GT2 X.K gt1 ws1 g1 set1)
    (hg1 : ∀ (s : Shared) (H : Hp) (C : Addr) (cl : List (Str × Addr)) (fp : List Addr), PG (X.blk s H scope (compEnvC scope cl C X.env) fp) tg1 gt1)
    (ht1 : ∀ x, LT X b (wipeS (set x (wipeS sl (own.map (·.2)))) vs1) set1 scope ifs1 (tst1 x) (tt1 x))
    (hi2 : ∀ (s : Shared) (H : Hp) (C : Addr) (cl : List (Str × Addr)) (fp : List Addr) (x : α) (y : α1), DI (X.blk s H scope (compEnvC scope cl C X.env) fp) b (set1 y (wipeS (set x (wipeS sl (own.map (·.2)))) vs1)) tg2 iter2 true (c2 x y) g2) (hgt2 : GT2 X.K gt2 ws2 g2 set2)
    (hg2 : ∀ (s : Shared) (H : Hp) (C : Addr) (cl : List (Str × Addr)) (fp : List Addr), PG (X.blk s H scope (compEnvC scope cl C X.env) fp) tg2 gt2)
    (ht2 : ∀ x y, LT X b (wipeS (set1 y (wipeS (set x (wipeS sl (own.map (·.2)))) vs1)) vs2) set2 scope ifs2 (tst2 x y) (tt2 x y))
    (he : ∀ (s : Shared) (H : Hp) (C : Addr) (cl : List (Str × Addr)) (fp : List Addr) (x : α) (y : α1) (z : α2), DM (X.blk s H scope (compEnvC scope cl C X.env) fp) b (set2 z (wipeS (set1 y (wipeS (set x (wipeS sl (own.map (·.2)))) vs1)) vs2)) elx (.ow n) (elt x y z) h)
    (hv1 : ∀ i ∈ vs1, i ∈ own.map (·.2) := by decide) (hv2 : ∀ i ∈ vs2, i ∈ vs1 := by decide) (hw : ∀ i ∈ ws, i ∈ own.map (·.2) := by decide) (hw1 : ∀ i ∈ ws1, i ∈ vs1 := by decide) (hw2 : ∀ i ∈ ws2, i ∈ vs2 := by decide)
    (hs : ∀ x, foldedSetIterable iter X.env x = pure x := by intro _; rfl) (hs1 : ∀ (env : Env) x, foldedSetIterable iter1 env x = pure x := by intro _ _; rfl) (hs2 : ∀ (env : Env) x, foldedSetIterable iter2 env x = pure x := by intro _ _; rfl) :
    DM X b sl (.ListComp elx [⟨tg, iter, ifs, 0⟩, ⟨tg1, iter1, ifs1, 0⟩, ⟨tg2, iter2, ifs2, 0⟩] scope pos) (.ow (n + 1))
      (c >>= lcOut tst (fun x acc => c1 x >>= lcOut (tst1 x) (fun y acc => c2 x y >>= lcOut (tst2 x y) (fun z acc => elt x y z >>= fun v => (Run.lift (lapp acc v) : m (List β))) acc) acc) []) (eL h) :=
  PE.imp (pe_lcN (te := tExE fun p : α × α1 × α2 => tD X.K b (set2 p.2.2 (wipeS (set1 p.2.1 (wipeS (set p.1 (wipeS sl (own.map (·.2)))) vs1)) vs2)) (.ow n) (elt p.1 p.2.1 p.2.2) h)
      ⟨tg, iter, ifs, tI X.K b sl fz c g, gt, tt, own.map (·.2)⟩
      [⟨tg1, iter1, ifs1, iEx fun x => tI X.K b (set x (wipeS sl (own.map (·.2)))) true (c1 x) g1, gt1, tEx tt1, vs1⟩,
       ⟨tg2, iter2, ifs2, iEx fun p : α × α1 => tI X.K b (set1 p.2 (wipeS (set p.1 (wipeS sl (own.map (·.2)))) vs1)) true (c2 p.1 p.2) g2, gt2, tEx fun p : α × α1 => tt2 p.1 p.2, vs2⟩]
      hc hN hi ok rfl ⟨hv1, hv2, trivial⟩ hg ht.pts (fun s H C cl fp k hk => by
        rcases List.mem_cons.mp hk with rfl | hk
        · exact ⟨PI.ex (hi1 s H C cl fp), hg1 s H C cl fp, PTs.ex fun x => (ht1 x).pts s H C cl fp, hs1⟩
        · rcases List.mem_cons.mp hk with rfl | hk
          · exact ⟨PI.ex fun p => hi2 s H C cl fp p.1 p.2, hg2 s H C cl fp, PTs.ex fun p => (ht2 p.1 p.2).pts s H C cl fp, hs2⟩
          · cases hk) (fun s H C cl fp => PE.ex fun p => he s H C cl fp p.1 p.2.1 p.2.2) hs) fun _ _ _ q =>
    lcN_to (g := g) (set := set) (ws := ws) (fun _ _ _ h => h) hgt hw ht.ok (fun F1 H1 A0 nD fdD fe1 x =>
      body_for (c := ⟨tg1, iter1, ifs1, iEx fun x => tI X.K b (set x (wipeS sl (own.map (·.2)))) true (c1 x) g1, gt1, tEx tt1, vs1⟩) (g := g1) (set := set1) (ws := ws1) (fun _ _ _ h => ⟨x, h⟩) hgt1 hw1 (fun y σ F H Q R r => ⟨x, (ht1 x).ok y σ F H Q R r⟩) fdD fe1 fun y =>
        body_for (c := ⟨tg2, iter2, ifs2, iEx fun p : α × α1 => tI X.K b (set1 p.2 (wipeS (set p.1 (wipeS sl (own.map (·.2)))) vs1)) true (c2 p.1 p.2) g2, gt2, tEx fun p : α × α1 => tt2 p.1 p.2, vs2⟩) (g := g2) (set := set2) (ws := ws2) (fun _ _ _ h => ⟨(x, y), h⟩) hgt2 hw2 (fun z σ F H Q R r => ⟨(x, y), (ht2 x y).ok z σ F H Q R r⟩) fdD fe1 fun z =>
          body_elt nD fdD fe1 fun _ _ _ h => ⟨(x, y, z), h⟩) q
end
end DL
namespace DL
open PySem PySem.Spec PyProof.Rows L2
/-! ### zip of a list and a tuple -/
/-- the list at a and the tuple at b: new pairs -/
def ItzM (K : PySem.W.Frag) (a b : Addr) : It where
  go := fun i H => ∃ us ws : List V, (SqL K H a us ∧ SqT K H b ws) ∧ i < us.length ∧ i < ws.length
  yld := fun i H v H' => ∃ T x y, v = .ref T ∧ H T = none ∧ H' = upd H T (.tup [x, y]) ∧ ∀ us ws, SqL K H a us → SqT K H b ws → us[i]? = some x ∧ ws[i]? = some y
  stop := fun i H => ∃ us ws : List V, (SqL K H a us ∧ SqT K H b ws) ∧ i = min us.length ws.length
theorem sep_of {z TI TO i1 i2 a b : Addr} (D : ZipApart z TI TO i1 i2 a b) : ZipSep2 z TI TO i1 i2 [i1, a] [i2, b] where
  TIz := D.TIz
  TOz := D.TOz
  TITO := D.TITO
  TIi1 := D.TIi1
  mem1 := List.mem_cons_self
  zf1 := by simp only [List.mem_cons, List.not_mem_nil, or_false, not_or]; exact ⟨D.i1z.symm, D.l1z.symm⟩
  Tf1 := by simp only [List.mem_cons, List.not_mem_nil, or_false, not_or]; exact ⟨D.TOi1, D.l1TO.symm⟩
  TIi2 := D.TIi2
  mem2 := List.mem_cons_self
  zf2 := by simp only [List.mem_cons, List.not_mem_nil, or_false, not_or]; exact ⟨D.i2z.symm, D.l2z.symm⟩
  Tf2 := by simp only [List.mem_cons, List.not_mem_nil, or_false, not_or]; exact ⟨D.TOi2, D.l2TO.symm⟩
  sep1_2 := by simp only [List.mem_cons, List.not_mem_nil, or_false, not_or]; exact ⟨D.i12, D.l2i1.symm⟩
  sep2_1 := by simp only [List.mem_cons, List.not_mem_nil, or_false, not_or]; exact ⟨D.i12.symm, D.l1i2.symm⟩
theorem turn_zipM {P : Program} {w : World} {K : PySem.W.Frag} {elts : List Expr} {kk : Nat} {tpos : Pos} {a b z TI TO i1 i2 : Addr} (D : ZipApart z TI TO i1 i2 a b) :
    Turn P w K (.Tuple elts kk tpos) (ItzM K a b) [z, TI, TO, i1, i2] z (fun i h => (IsZip h z TI TO .none ∧ IsPair h TI (.ref i1) (.ref i2) ∧ ∃ p q, IsPair h TO p q) ∧ h.IsListIter i1 a i ∧ h.IsTupleIter i2 b i) where
  mem := List.mem_cons_self
  obj := fun i h st c hc => by
    obtain ⟨⟨hz, hTI, ⟨p, q, hTO⟩⟩, ⟨o1, e1, _, d1⟩, ⟨o2, e2, _, d2⟩⟩ := st
    simp only [List.mem_cons, List.not_mem_nil, or_false] at hc
    rcases hc with rfl | rfl | rfl | rfl | rfl
    · exact ⟨_, hz, fun v e => nomatch e⟩
    · exact ⟨_, hTI, fun v e => nomatch e⟩
    · exact ⟨_, hTO, fun v e => nomatch e⟩
    · exact ⟨_, e1, fun v e => by rw [d1] at e; cases e⟩
    · exact ⟨_, e2, fun v e => by rw [d2] at e; cases e⟩
  keep := fun i h h' st k => by
    obtain ⟨⟨hz, hTI, ⟨p, q, hTO⟩⟩, s1, s2⟩ := st
    exact ⟨⟨k z (by simp) _ hz, k TI (by simp) _ hTI, p, q, k TO (by simp) _ hTO⟩, s1.at fun o e => k i1 (by simp) o e, s2.at fun o e => k i2 (by simp) o e⟩
  item := by
    intro X hP hw hK hc i pins s σ H E I hf st hg
    subst hP hw hK
    obtain ⟨⟨hz, hTI, ⟨p, q, hTO⟩⟩, s1, s2⟩ := st
    obtain ⟨us, ws, ⟨ha, hb⟩, l1, l2⟩ := hg
    obtain ⟨ia, va, pa, _⟩ := I.list ha
    obtain ⟨ib, vb, pb, _⟩ := I.tuple hb
    have hh := I.ok.hd hc
    have n1 := va.length
    have n2 := vb.length
    have zl : z < s.heap.objs.size := Heap.lt_size hz
    refine wpAny_pyNext_zipD2_item (sep_of D) (Draws.list (A := X.A.in1) hh i1 a D.l1i1 ia.toArray) (Draws.tuple (A := X.A.in1) hh i2 b D.l2i2 ib.toArray) hz hTI hTO ⟨s1, pa.isList⟩ ⟨s2, pb⟩ (by simp; omega) (by simp; omega) fun x1 x2 h' tk y1 y2 z' TO' t1 t2 hT _ hk => ?_
    obtain ⟨x, hx, rx⟩ := va.get (List.getElem?_eq_getElem l1)
    obtain ⟨y, hy, ry⟩ := vb.get (List.getElem?_eq_getElem l2)
    have ex : x = x1 := by
      have q : ia[i]? = some x1 := by simpa using y1
      rw [hx] at q
      exact Option.some.inj q
    have ey : y = x2 := by
      have q : ib[i]? = some x2 := by simpa using y2
      rw [hy] at q
      exact Option.some.inj q
    subst ex ey
    refine ⟨_, rfl, wpAny_letOwnedTupleGo_zip (s := { s with heap := h', toks := tk }) z' fun h2 z2 sb => ?_⟩
    have nez : s.heap.objs.size ≠ z := Nat.ne_of_gt zl
    have hT2 : h2.get? s.heap.objs.size = some { cls := .type "tuple", data := .seq #[x, y] } := (sb.2 _ nez).trans hT
    have new : ObjOk X.prog X.w (upd H s.heap.objs.size (.tup [us[i], ws[i]])) h2 s.heap.objs.size (.tup [us[i], ws[i]]) := ⟨by show 2 ≤ sizeLine; decide, [x, y], .cons rx (.cons ry .nil), ⟨_, hT2, rfl, _, rfl⟩⟩
    have old : ∀ c o, c ∉ [z, TI, TO, i1, i2] → s.heap.get? c = some o → h2.get? c = some o := fun c o hn e => by
      simp only [List.mem_cons, List.not_mem_nil, or_false, not_or] at hn
      exact (sb.2 c hn.1).trans (hk c o hn.1 hn.2.2.1 hn.2.2.2.1 hn.2.2.2.2 e)
    refine ⟨.ref s.heap.objs.size, _, I.turnedNew (t' := tk) old hf (Nat.le_refl _) new, rfl, ⟨_, us[i], ws[i], rfl, I.hok.fresh (Nat.le_refl _), rfl, fun us' ws' k1 k2 => ?_⟩, ⟨⟨z2, ?_, x, y, ?_⟩, ?_, ?_⟩, fun c hcm => ?_⟩
    · rw [I.list_inj k1 ha, I.tuple_inj k2 hb]
      exact ⟨List.getElem?_eq_getElem l1, List.getElem?_eq_getElem l2⟩
    · exact (sb.2 _ D.TIz).trans (hk _ _ D.TIz D.TITO D.TIi1 D.TIi2 hTI)
    · exact (sb.2 _ D.TOz).trans TO'
    · exact t1.1.at fun o e => (sb.2 _ D.i1z).trans e
    · exact t2.1.at fun o e => (sb.2 _ D.i2z).trans e
    · have lt : c < s.heap.objs.size := by
        simp only [List.mem_cons, List.not_mem_nil, or_false] at hcm
        obtain ⟨o1, e1, _⟩ := s1
        obtain ⟨o2, e2, _⟩ := s2
        rcases hcm with rfl | rfl | rfl | rfl | rfl
        · exact zl
        · exact Heap.lt_size hTI
        · exact Heap.lt_size hTO
        · exact Heap.lt_size e1
        · exact Heap.lt_size e2
      rw [upd_ne (Nat.ne_of_lt lt)]
      exact (hf c hcm).1
  done := by
    intro X hP hw hK hc i pins s σ H E I hf st hg
    subst hP hw hK
    obtain ⟨⟨hz, hTI, ⟨p, q, hTO⟩⟩, s1, s2⟩ := st
    obtain ⟨us, ws, ⟨ha, hb⟩, hi⟩ := hg
    obtain ⟨ia, va, pa, _⟩ := I.list ha
    obtain ⟨ib, vb, pb, _⟩ := I.tuple hb
    have hh := I.ok.hd hc
    have n1 := va.length
    have n2 := vb.length
    refine wpAny_pyNext_zipD2_end (sep_of D) (Draws.list (A := X.A.in1) hh i1 a D.l1i1 ia.toArray) (Draws.tuple (A := X.A.in1) hh i2 b D.l2i2 ib.toArray) hz hTI hTO ⟨s1, pa.isList⟩ ⟨s2, pb⟩ (by simp; omega) (by simp; omega) (by simp; omega) fun h' tk hk => ?_
    exact ⟨rfl, I.turnedL (t' := tk) (ch := [z, TI, TO, i1, i2]) (fun c o hn e => by
      simp only [List.mem_cons, List.not_mem_nil, or_false, not_or] at hn
      exact hk c o hn.1 hn.2.2.1 hn.2.2.2.1 hn.2.2.2.2 e) hf⟩
  self := fun A i s Q E st h => wpAny_pyIter_zip st.1.1 h
def iZipM (K : PySem.W.Frag) (ta : TA) : TI := fun σ H R => ta σ H fun vs H1 => ∃ a b us ws, vs = [.ref a, .ref b] ∧ (SqL K H1 a us ∧ SqT K H1 b ws) ∧ R (ItzM K a b) H1
theorem pi_zipM {X : Cx} {e e2 : Expr} {ta : TA} {p pos tpos : Pos} {elts : List Expr} {kk : Nat} (hg : Gl X "zip") (hm : X.mg "zip" = none) (ha : PA X [e, e2] ta)
    (hs : starEach [e, e2] X.env = (false, eval e X.env) :: starEach [e2] X.env := by rfl) (hpl : (backTo pos (starEach [e2] X.env)).any (·.1) = false := by rfl) :
    PI X (.Tuple elts kk tpos) (.Call (.Name "zip" p) [e, e2] [] pos) (iZipM X.K ta) := by
  refine ⟨fun pins s σ H R I h => ?_⟩
  refine Call_ (ld_blt I hg hm boot_zip (callWith_type1 (thn (ha.run pos pins s σ H _ I h) fun ls s1 ⟨vs, H1, I1, r1, q1⟩ => ?_) hs hpl))
  obtain ⟨a, b, us, ws, rfl, ⟨sa, sb⟩, q1⟩ := q1
  cases r1 with
  | cons ra rr =>
    cases rr with
    | cons rb rr =>
      cases rr
      cases ra
      cases rb
      obtain ⟨ia, va, pa, _⟩ := I1.list sa
      obtain ⟨ib, vb, pb, _⟩ := I1.tuple sb
      obtain ⟨ob, eb, _⟩ := id pb
      refine zip_begins2 (begins_list a ia.toArray) (begins_tuple b ib.toArray) pa.isList pb fun h' hz hTI hTO g1 g2 _ hk => wpAny_pyIter_zip hz ?_
      refine ⟨_, [s1.heap.objs.size + 4, s1.heap.objs.size + 2, s1.heap.objs.size + 3, s1.heap.objs.size, s1.heap.objs.size + 1], _, _, H1, rfl, I1.kept (t' := s1.toks) hk, turn_zipM (PySem.W.ktu_apart s1.heap.objs.size a b pa.lt (Heap.lt_size eb)), ⟨⟨hz, hTI, _, _, hTO⟩, ⟨_, g1, rfl, rfl⟩, ⟨_, g2, rfl, rfl⟩⟩, fun c hc => ?_, q1⟩
      have le : s1.heap.objs.size ≤ c := by
        simp only [List.mem_cons, List.not_mem_nil, or_false] at hc
        rcases hc with rfl | rfl | rfl | rfl | rfl <;> simp
      exact I1.fpOk le (I1.hok.fresh le)
section
variable {m : Type → Type} [Run m] {α δ : Type} {X : Cx} {b : Bs} {sl : Sls} {e1 e2 : Expr} {elts : List Expr} {kk : Nat} {pos tpos p : Pos} {c : m (List α)} {c1 : m (List δ)} {g : α → D} {h' : δ → D} {K : PySem.W.Frag} {fd : Option Addr}
theorem it_zipM {a a' : Addr} {xs : List α} {ys : List δ} {ok : Hp → Hp → Prop} (h : ∀ F H, ok F H → Sub F (hid fd H) → okL K fd a (xs.map g) F H ∧ okT K fd a' (ys.map h') F H) (st : ∀ F H F' H', ok F H → Step K fd F H F' H' → ok F' H') :
    ItOk K fd (ItzM K a a') ((xs.zip ys).map (eP g h')) ok where
  go := fun F H i o fh fe hi => by
    obtain ⟨⟨vs, h1, h2⟩, ws, k1, k2⟩ := h F H o fh
    rw [List.length_map, List.length_zip] at hi
    have l1 := h2.length
    have l2 := k2.length
    rw [List.length_map] at l1 l2
    exact ⟨vs, ws, ⟨SqL.of (hid_sub _ _ h1), (fh.trans hid_sub).sqt k1⟩, by omega, by omega⟩
  yld := fun F H i x H' d o fh fe hd y => by
    obtain ⟨⟨vs, h1, h2⟩, ws, k1, k2⟩ := h F H o fh
    obtain ⟨T, v, w, rfl, nT, rfl, y⟩ := y
    rw [List.getElem?_map] at hd
    obtain ⟨⟨z1, z2⟩, hz, rfl⟩ := Option.map_eq_some_iff.mp hd
    obtain ⟨e1, e2⟩ := List.getElem?_zip_eq_some.mp hz
    obtain ⟨v', e, r⟩ := h2.get (d := g z1) (by rw [List.getElem?_map, e1]; rfl)
    obtain ⟨w', e', r'⟩ := k2.get (d := h' z2) (by rw [List.getElem?_map, e2]; rfl)
    obtain ⟨q1, q2⟩ := y vs ws (SqL.of (hid_sub _ _ h1)) ((fh.trans hid_sub).sqt k1)
    rw [e] at q1; cases q1
    rw [e'] at q2; cases q2
    have A := Step.allocF (K := K) (o := .tup [v, w]) fh fe nT
    exact ⟨_, A, .tup (SqT.of upd_same) (.cons (r.mono A.ff) (.cons (r'.mono A.ff) .nil)) (by show 2 ≤ sizeLine; decide)⟩
  stop := fun F H o fh fe => by
    obtain ⟨⟨vs, h1, h2⟩, ws, k1, k2⟩ := h F H o fh
    have l1 := h2.length
    have l2 := k2.length
    rw [List.length_map] at l1 l2
    exact ⟨vs, ws, ⟨SqL.of (hid_sub _ _ h1), (fh.trans hid_sub).sqt k1⟩, by rw [List.length_map, List.length_zip]; omega⟩
  st := st
theorem di_zipLT (hm : X.mg "zip" = none) (h1 : DA X b sl e1 .sh c (eL g)) (h2 : DA X b sl e2 .fr c1 (eT h')) (hg : Gl X "zip" := by rfl) (hs : starEach [e1, e2] X.env = (false, eval e1 X.env) :: starEach [e2] X.env := by rfl) (hpl : (backTo pos (starEach [e2] X.env)).any (·.1) = false := by rfl)
    (hs2 : starEach [e2] X.env = (false, eval e2 X.env) :: starEach [] X.env := by rfl) :
    DI X b sl (.Tuple elts kk tpos) (.Call (.Name "zip" p) [e1, e2] [] pos) false (c >>= fun xs => c1 >>= fun ys => pure (xs.zip ys)) (eP g h') := PI.imp (pi_zipM hg hm (pa_cons h1 (pa_cons h2 pa_nil hs2) hs) hs hpl) fun σ H R ⟨F, Re, q⟩ => ⟨F, Re, rmono (rbind q) fun xs p v F1 H1 S1 r1 =>
  ⟨F1, Re.step S1, rmono (rbind p) fun ys p w F2 H2 S2 r2 => by
    have p := rpure p
    obtain ⟨a, vs, ds, rfl, e, h1, h2, h3⟩ := r1.step S2
    injection e with e
    subst e
    cases r2 with
    | tup k1 k2 k3 =>
      refine ⟨a, _, vs, _, rfl, ⟨SqL.of (hid_sub _ _ h1), (S2.fh.trans hid_sub).sqt k1⟩, p _ F2 H2 (fun F H => okL X.K b.fd a (xs.map g) F H ∧ okT X.K b.fd _ (ys.map h') F H) (S1.trans Re.fe S2) (it_zipM (fun F H o _ => o) fun F H F' H' ⟨⟨vs, o1, o2⟩, ws, o3, o4⟩ S => ⟨⟨vs, S.hh _ _ o1, o2.mono S.ff⟩, ws, S.ff.sqt o3, o4.mono S.ff⟩) ⟨⟨vs, h1, h2⟩, _, k1, k2⟩ (fun z => by cases z) ?_⟩
      rw [List.length_zip]
      rw [List.length_map] at h3
      omega⟩⟩
theorem di_zipLTF (hm : X.mg "zip" = none) (h1 : DA X b sl e1 .fr c (eL g)) (h2 : DA X b sl e2 .fr c1 (eT h')) (hg : Gl X "zip" := by rfl) (hs : starEach [e1, e2] X.env = (false, eval e1 X.env) :: starEach [e2] X.env := by rfl) (hpl : (backTo pos (starEach [e2] X.env)).any (·.1) = false := by rfl)
    (hs2 : starEach [e2] X.env = (false, eval e2 X.env) :: starEach [] X.env := by rfl) :
    DI X b sl (.Tuple elts kk tpos) (.Call (.Name "zip" p) [e1, e2] [] pos) true (c >>= fun xs => c1 >>= fun ys => pure (xs.zip ys)) (eP g h') := PI.imp (pi_zipM hg hm (pa_cons h1 (pa_cons h2 pa_nil hs2) hs) hs hpl) fun σ H R ⟨F, Re, q⟩ => ⟨F, Re, rmono (rbind q) fun xs p v F1 H1 S1 r1 =>
  ⟨F1, Re.step S1, rmono (rbind p) fun ys p w F2 H2 S2 r2 => by
    have p := rpure p
    cases r1.step S2 with
    | lst h1 h2 h3 =>
      cases r2 with
      | tup k1 k2 k3 =>
        refine ⟨_, _, _, _, rfl, ⟨SqL.of (hid_sub _ _ (S2.fh _ _ h1)), (S2.fh.trans hid_sub).sqt k1⟩, p _ F2 H2 (fun F H => okF X.K b.fd _ (xs.map g) F H ∧ okT X.K b.fd _ (ys.map h') F H) (S1.trans Re.fe S2)
          (it_zipM (fun F H ⟨⟨vs, o1, o2⟩, ws, o3, o4⟩ s => ⟨⟨vs, s _ _ o1, o2⟩, ws, o3, o4⟩) fun F H F' H' ⟨⟨vs, o1, o2⟩, ws, o3, o4⟩ S => ⟨⟨vs, S.ff _ _ o1, o2.mono S.ff⟩, ws, S.ff.sqt o3, o4.mono S.ff⟩) ⟨⟨_, h1, h2⟩, _, k1, k2⟩
          (fun _ F H F' H' ⟨⟨vs, o1, o2⟩, ws, o3, o4⟩ ff _ => ⟨⟨vs, ff _ _ o1, o2.mono ff⟩, ws, ff.sqt o3, o4.mono ff⟩) ?_⟩
        rw [List.length_zip]
        rw [List.length_map] at h3
        omega⟩⟩
end
end DL
namespace DL
open PySem PySem.Spec PyProof.Rows L2
/-! ### constants of the module: dicts from whole numbers to plain things -/
def isDictC : Value → Bool
  | .type t => t == "dict"
  | _ => false
def noDictK (K : PySem.W.Frag) : Nat → Value → Bool
  | 0, _ => false
  | n + 1, v => match v with
    | .ref a => match K.lookup a with
      | some o => o.dict.isNone && (match o.data with
        | .seq its _ => its.toList.all (noDictK K n)
        | _ => false)
      | none => false
    | _ => true
/-- a value of the frozen heap -/
def RK (K : PySem.W.Frag) (v : V) (d : D) : Prop := ∃ u n, RelV v u ∧ (∀ F, Rp K F v d) ∧ readsK K n u d = true ∧ noDictK K n u = true
def readsE (K : PySem.W.Frag) (n : Nat) (e : DictEntry) (p : Int × D) : Bool := (Value.isInt p.1 e.key && (e.hash == hashInt p.1)) && (readsK K n e.val p.2 && noDictK K n e.val)
def readsM (K : PySem.W.Frag) (n : Nat) (v : Value) (ps : List (Int × D)) : Bool := match v with
  | .ref a => match K.lookup a with
    | some o => (isDictC o.cls && (o.dict.isNone && o.slots.isEmpty)) && (match o.data with
      | .dict es _ => all2 (readsE K n) es.toList ps && decide ((ps.map (·.1)).Nodup)
      | _ => false)
    | none => false
  | _ => false
theorem RK.rp {K : PySem.W.Frag} {v : V} {d : D} (h : RK K v d) (F : Hp) : Rp K F v d := by
  obtain ⟨u, n, _, r, _⟩ := h
  exact r F
/-- a dict of the frozen heap -/
def KD (P : Program) (w : World) (K : PySem.W.Frag) (a : Addr) (kvs : List (Key × Value)) : Prop :=
  ∃ o es ep, K.lookup a = some o ∧ o.ExactDict ∧ o.data = .dict es ep ∧ KeysOf (mixKind P w) es ∧ Pairs (mixKind P w) es.toList kvs ∧ (kvs.map (·.1)).Nodup
theorem readsE_all {P : Program} {w : World} {K : PySem.W.Frag} {n : Nat} : ∀ {es : List DictEntry} {ps : List (Int × D)}, all2 (readsE K n) es ps = true → ∃ kvs : List (Key × Value),
    Pairs (mixKind P w) es kvs ∧ kvs.map (·.1) = ps.map (fun p => (Sum.inl p.1 : Key)) ∧ (∀ e ∈ es, ∃ k, (mixKind P w).is k e.key = true ∧ e.hash = (mixKind P w).hash k) ∧
    ∀ k d, (ps.find? fun p => p.1 == k).map (·.2) = some d → ∃ u x, valueAt kvs (.inl k) = some u ∧ RelV x u ∧ RK K x d
  | [], [], _ => ⟨[], .nil, rfl, fun _ h => absurd h (by simp), fun k d h => by simp at h⟩
  | [], _ :: _, h => by cases h
  | _ :: _, [], h => by cases h
  | e :: es, p :: ps, h => by
    unfold all2 at h
    rw [Bool.and_eq_true] at h
    obtain ⟨h1, h2⟩ := h
    unfold readsE at h1
    rw [Bool.and_eq_true, Bool.and_eq_true, Bool.and_eq_true] at h1
    obtain ⟨⟨hk, hh⟩, hr, hnd⟩ := h1
    obtain ⟨x, rx, px⟩ := readsK_ok n e.val p.2 hr
    obtain ⟨kvs, q1, q2, q3, q4⟩ := readsE_all (P := P) (w := w) h2
    refine ⟨(.inl p.1, e.val) :: kvs, .cons hk rfl q1, by simp [q2], fun e' he => ?_, fun k d hd => ?_⟩
    · rcases List.mem_cons.mp he with rfl | he
      · exact ⟨.inl p.1, hk, (beq_iff_eq.mp hh : e'.hash = hashInt p.1)⟩
      · exact q3 e' he
    · by_cases c : p.1 = k
      · subst c
        rw [List.find?_cons_of_pos (by simp)] at hd
        cases hd
        exact ⟨e.val, x, by unfold valueAt; rw [List.find?_cons_of_pos (by simp)]; rfl, rx, e.val, n, rx, px, hr, hnd⟩
      · rw [List.find?_cons_of_neg (by simpa using c)] at hd
        obtain ⟨u, y, e1, e2, e3⟩ := q4 k d hd
        refine ⟨u, y, ?_, e2, e3⟩
        unfold valueAt at e1 ⊢
        rw [List.find?_cons_of_neg (by simp [c])]
        exact e1
theorem readsM_ok {P : Program} {w : World} {K : PySem.W.Frag} {n : Nat} {v : Value} {ps : List (Int × D)} (h : readsM K n v ps = true) : ∃ a kvs, v = .ref a ∧ KD P w K a kvs ∧
    ∀ k d, (ps.find? fun p => p.1 == k).map (·.2) = some d → ∃ u x, valueAt kvs (.inl k) = some u ∧ RelV x u ∧ RK K x d := by
  unfold readsM at h
  cases v with
  | ref a =>
    dsimp only at h
    cases hl : K.lookup a with
    | none => rw [hl] at h; cases h
    | some o =>
      rw [hl] at h
      dsimp only at h
      rw [Bool.and_eq_true, Bool.and_eq_true, Bool.and_eq_true] at h
      obtain ⟨⟨h1, h2, h3⟩, h4⟩ := h
      have hc : o.cls = .type "dict" := by
        unfold isDictC at h1
        split at h1
        · rename_i t e
          rw [e]
          congr 1
          simpa using h1
        · cases h1
      cases hd : o.data with
      | dict es ep =>
        rw [hd] at h4
        dsimp only at h4
        rw [Bool.and_eq_true] at h4
        obtain ⟨h5, h6⟩ := h4
        have h6 := of_decide_eq_true h6
        obtain ⟨kvs, q1, q2, q3, q4⟩ := readsE_all (P := P) (w := w) h5
        refine ⟨a, kvs, rfl, ⟨o, es, ep, hl, ⟨hc, by simpa using h2, by simpa using h3⟩, hd, fun e he => q3 e (by simpa using he), q1, ?_⟩, q4⟩
        rw [q2]
        have : ps.map (fun p => (Sum.inl p.1 : Key)) = (ps.map (·.1)).map Sum.inl := by rw [List.map_map]; rfl
        rw [this]
        exact h6.map _ fun a b hab e => hab (Sum.inl.inj e)
      | _ => rw [hd] at h4; cases h4
  | _ => cases h
def GlobM (K : PySem.W.Frag) (mg : Str → Option Value) (x : Str) (ps : List (Int × D)) : Prop := ∃ (u : Value) (n : Nat), mg x = some u ∧ readsM K n u ps = true
def tKGet (kvs : List (Key × Value)) (ty : TE) : TE := fun σ H Q => ty σ H fun y H2 => ∃ k u v, y = .int k ∧ valueAt kvs (.inl k) = some u ∧ RelV v u ∧ Q v H2
theorem pe_kget {X : Cx} {x : Str} {p pos : Pos} {i : Expr} {ty : TE} {a : Addr} {kvs : List (Key × Value)} (hg : Gl X x) (hm : X.mg x = some (.ref a)) (kd : KD X.prog X.w X.K a kvs) (hd : (x == ("__debug__" : Str)) = false) (hi : PE X i ty) (hs : NoSl i) :
    PE X (.Subscript (.Name x p) i pos) (tKGet kvs ty) := by
  refine ⟨fun pins s σ H Q I h => ?_⟩
  obtain ⟨o, es, ep, hl, hx, he, hk, hp, hn⟩ := kd
  refine subD_of PySem.F.slot_dict_getitem.lookup hs (ld_glob I hg hm (thn (hi.run pins s σ H _ I h) fun iv s2 ⟨y, H2, I2, ry, k, u, v, ey, hu, rv, q⟩ => ?_) hd)
  subst ey
  have dd : s2.heap.DictOf (mixKind X.prog X.w) a kvs := ⟨o, es, ep, I2.kIn a o hl, hx, he, hk, hp, hn⟩
  exact ⟨dd.typeIs, wpAny_getItem_of (k := .inl k) (kV_is (k := .inl k) ry) dd.mapOf hu ⟨v, H2, I2.tok _, rv, q⟩⟩
theorem dget_enc {α : Type} {g : α → D} {ps : List (Int × α)} {k : Int} {z : α} (ez : dget ps k = some z) : ((ps.map fun p => (p.1, g p.2)).find? fun p => p.1 == k).map (·.2) = some (g z) := by
  unfold dget at ez
  rw [List.find?_map, Option.map_map]
  have : ((fun p : Int × D => p.1 == k) ∘ fun p : Int × α => (p.1, g p.2)) = fun p => p.1 == k := rfl
  rw [this]
  cases e1 : ps.find? (fun p => p.1 == k) with
  | none => rw [e1] at ez; cases ez
  | some r => rw [e1] at ez; cases ez; rfl
section
variable {m : Type → Type} [Run m] {α : Type} {X : Cx} {b : Bs} {sl : Sls} {e2 : Expr} {ck : m Int} {g : α → D} {x : Str} {p pos : Pos}
theorem dm_kget {ps : List (Int × α)} (G : GlobM X.K X.mg x (ps.map fun p => (p.1, g p.2))) (hk : DA X b sl e2 .pk ck eI) (hs : NoSl e2) (hg : Gl X x := by rfl) (hd : (x == ("__debug__" : Str)) = false := by decide) :
    DM X b sl (.Subscript (.Name x p) e2 pos) (.ow 0) (ck >>= fun k => Run.lift (dget ps k)) g := by
  obtain ⟨u, n, hm, hr⟩ := G
  obtain ⟨a, kvs, rfl, kd, hv⟩ := readsM_ok (P := X.prog) (w := X.w) hr
  refine PE.imp (pe_kget hg hm kd hd hk hs) fun σ H Q ⟨F, R, q⟩ => ⟨F, R, rmono (rbind q) fun k q v F2 H2 S2 r2 => ?_⟩
  obtain ⟨z, ez, q⟩ := rlift q
  cases r2
  obtain ⟨u, y, e1, e2, e3⟩ := hv k (g z) (dget_enc ez)
  exact ⟨k, u, y, rfl, e1, e2, Post.fr S2 q (e3.rp F2)⟩
end
theorem relv_ref {v : V} {a : Addr} (h : RelV v (.ref a)) : v = .ref a := by
  cases v with
  | ref p => cases h; rfl
  | _ => first | (obtain ⟨_, h⟩ := h; cases h) | cases h
theorem RK.tup {K : PySem.W.Frag} {v : V} {ds : List D} (h : RK K v (.tuple ds)) : ∃ a us, v = .ref a ∧ (∀ F, SqT K F a us) ∧ us.length = ds.length ∧ (∀ (i : Nat) w d, us[i]? = some w → ds[i]? = some d → RK K w d) ∧
    (∃ o, K.lookup a = some o ∧ o.cls = .type "tuple" ∧ o.dict = none) ∧ ∀ F, RpAll K F us ds := by
  obtain ⟨u, n, rv, rp, hr, hd⟩ := h
  cases n with
  | zero => cases hr
  | succ n =>
    unfold readsK at hr
    cases u with
    | ref a =>
      obtain rfl := relv_ref rv
      unfold noDictK at hd
      dsimp only at hr hd
      cases hl : K.lookup a with
      | none => rw [hl] at hr; cases hr
      | some o =>
        rw [hl] at hr hd
        dsimp only at hr hd
        rw [Bool.and_eq_true] at hr hd
        obtain ⟨h1, h2⟩ := hr
        obtain ⟨d1, d2⟩ := hd
        have hc : o.cls = .type "tuple" := by
          unfold isTupC at h1
          split at h1
          · rename_i t e
            rw [e]
            congr 1
            simpa using h1
          · cases h1
        cases hdt : o.data with
        | seq its ep =>
          rw [hdt] at h2 d2
          dsimp only at h2 d2
          rw [Bool.and_eq_true] at h2
          obtain ⟨h3, h4⟩ := h2
          have h3 := of_decide_eq_true h3
          have go : ∀ (us : List Value) (ds : List D), all2 (readsK K n) us ds = true → us.all (noDictK K n) = true → ∃ xs : List V, Vals xs us ∧ (∀ F, RpAll K F xs ds) ∧ xs.length = ds.length ∧ ∀ (i : Nat) w d, xs[i]? = some w → ds[i]? = some d → RK K w d := by
            intro us
            induction us with
            | nil =>
              intro ds h _
              cases ds with
              | nil => exact ⟨[], .nil, fun F => .nil, rfl, fun i w d e _ => by simp at e⟩
              | cons _ _ => cases h
            | cons u us ih =>
              intro ds h hn
              cases ds with
              | nil => cases h
              | cons d ds =>
                unfold all2 at h
                rw [Bool.and_eq_true] at h
                rw [List.all_cons, Bool.and_eq_true] at hn
                obtain ⟨x, hx, rx⟩ := readsK_ok n u d h.1
                obtain ⟨xs, hxs, rxs, hl, hi⟩ := ih ds h.2 hn.2
                refine ⟨x :: xs, .cons hx hxs, fun F => .cons (rx F) (rxs F), by simp [hl], fun i w d' e1 e2 => ?_⟩
                cases i with
                | zero =>
                  simp at e1 e2
                  subst e1 e2
                  exact ⟨u, n, hx, rx, h.1, hn.1⟩
                | succ i => exact hi i w d' (by simpa using e1) (by simpa using e2)
          obtain ⟨xs, hv, hr, hlen, hi⟩ := go its.toList ds h4 d2
          exact ⟨a, xs, rfl, fun F => .inr ⟨o, its, ep, hl, hc, hdt, h3, hv⟩, hlen, hi, ⟨o, hl, hc, by simpa using d1⟩, hr⟩
        | _ => rw [hdt] at h2; cases h2
    | _ => cases hr
end DL
namespace DL
open PySem PySem.Spec PyProof.Rows L2
section
variable {m : Type → Type} [Run m] {α β : Type} {X : Cx} {b : Bs} {sl : Sls} {e e1 e2 e3 : Expr} {md : Md} {g : α → D} {K : PySem.W.Frag} {fd : Option Addr} {tg : Expr} {p pos apos cpos : Pos} {x : Str} {n : Nat}
/-! ### a list's truth -/
theorem dt_list {c : m (List α)} (h : DA X b sl e .pk c (eL g)) (he : ∀ whole, isTrue e X.env whole = (do let v ← whole; standAt e.pos; holding [v] (truthy v)) := by intro _; rfl) :
    DT X b sl e (c >>= fun xs => pure (!xs.isEmpty)) := PT.imp (pt_truth h he) fun σ H Q ⟨F, R, q⟩ => ⟨F, R, rmono (rbind q) fun xs q v F1 H1 S1 r1 => by
  have q := rpure q
  cases r1 with
  | lst hp ra l =>
    refine ⟨_, .inl ⟨_, SqL.of (hid_sub _ _ hp), rfl⟩, ?_⟩
    have hl := ra.length
    rw [List.length_map] at hl
    rename_i a us
    have e : (!us.isEmpty) = !xs.isEmpty := by
      cases us <;> cases xs <;> simp_all
    rw [e]
    exact q F1 H1 S1⟩
/-! ### tuple.index of whole numbers -/
theorem mt_tupIdx : MtR X "tuple.index" (fun x xs H Q => ∃ p, ∃ ns : List Int, ∃ k : Int, x = .ref p ∧ xs = [.int k] ∧ SqT X.K H p (ns.map V.int) ∧ k ∈ ns ∧ Q (.int ((ns.idxOf k : Nat) : Int)) H) := by
  intro pins s σ H x xs v us Q I rx rs h
  obtain ⟨p, ns, k, rfl, rfl, hq, hk, q⟩ := h
  cases rx
  obtain ⟨u, rfl, t, rfl⟩ := vals1 rs
  obtain ⟨its, r, pl, hz⟩ := I.tuple hq
  exact PySem.SeqAt.tuple_index_ints pl (ints_of_vals r) hk ⟨.int _, H, I.tok _, ⟨_, rfl⟩, q⟩
theorem lidx_idx {xs : List Int} {k z : Int} (h : lidx xs k = some z) : k ∈ xs ∧ z = ((xs.idxOf k : Nat) : Int) := by
  unfold lidx at h
  obtain ⟨j, ej, rfl⟩ := Option.map_eq_some_iff.mp h
  obtain ⟨hj, h1, h2⟩ := List.findIdx?_eq_some_iff_getElem.mp ej
  refine ⟨by have : xs[j] = k := by simpa using h1
             rw [← this]; exact List.getElem_mem _, ?_⟩
  congr 1
  have : xs.idxOf k = xs.findIdx (fun x => x == k) := rfl
  rw [this]
  exact ((List.findIdx_eq hj).mpr ⟨h1, fun i hi => by simpa using h2 i hi⟩).symm
/-- a constant's part -/
def tDK (K : PySem.W.Frag) (b : Bs) (sl : Sls) (c : m α) (g : α → D) : TE := fun σ H Q => ∃ F, Rel K b sl F H σ ∧ Run.run c (fun x => ∀ v F' H', Step K b.fd F H F' H' → RK K v (g x) → Q v H')
abbrev DK (X : Cx) (b : Bs) (sl : Sls) (e : Expr) (c : m α) (g : α → D) : Prop := PE X e (tDK X.K b sl c g)
theorem dk_eq {c c' : m α} (h : DK X b sl e c g) (k : c = c') : DK X b sl e c' g := k ▸ h
theorem dk_get {ck : m Int} {ps : List (Int × α)} (G : GlobM X.K X.mg x (ps.map fun p => (p.1, g p.2))) (hk : DA X b sl e2 .pk ck eI) (hs : NoSl e2) (hg : Gl X x := by rfl) (hd : (x == ("__debug__" : Str)) = false := by decide) :
    DK X b sl (.Subscript (.Name x p) e2 pos) (ck >>= fun k => Run.lift (dget ps k)) g := by
  obtain ⟨u, n, hm, hr⟩ := G
  obtain ⟨a, kvs, rfl, kd, hv⟩ := readsM_ok (P := X.prog) (w := X.w) hr
  refine PE.imp (pe_kget hg hm kd hd hk hs) fun σ H Q ⟨F, R, q⟩ => ⟨F, R, rmono (rbind q) fun k q v F2 H2 S2 r2 => ?_⟩
  obtain ⟨z, ez, q⟩ := rlift q
  cases r2
  obtain ⟨u, y, e1, e2, e3⟩ := hv k (g z) (dget_enc ez)
  exact ⟨k, u, y, rfl, e1, e2, q y F2 H2 S2 e3⟩
theorem dk_getP {k : Int} {ps : List (Int × α)} (G : GlobM X.K X.mg x (ps.map fun p => (p.1, g p.2))) (hk : DA X b sl e2 .pk (pure k : m Int) eI) (hs : NoSl e2) (hg : Gl X x := by rfl) (hd : (x == ("__debug__" : Str)) = false := by decide) :
    DK X b sl (.Subscript (.Name x p) e2 pos) (Run.lift (dget ps k) : m α) g := dk_eq (dk_get G hk hs hg hd) (Run.pure_b _ _)
theorem dk_ix {c : m (List α)} {ck : m Int} (ha : DK X b sl e1 c (eT g)) (hb : DA X b sl e2 .pk ck eI) (hs : PlainIx e2) :
    DK X b sl (.Subscript e1 e2 pos) (c >>= fun xs => ck >>= fun k => Run.lift (atI xs k)) g := PE.imp (pe_ix ix_tup ha hb hs) fun σ H Q ⟨F, R, q⟩ => ⟨F, R, rmono (rbind q) fun xs q v F1 H1 S1 r1 => ⟨F1, R.step S1, rmono (rbind q) fun k q w F2 H2 S2 r2 => by
  obtain ⟨z, ez, q⟩ := rlift q
  cases r2
  obtain ⟨a, us, rfl, hq, hl, hi, _, _⟩ := r1.tup
  obtain ⟨j, h1, h2, h3, h4, h5⟩ := atI_get ez
  rw [List.length_map] at hl
  obtain ⟨y, hy⟩ : ∃ y, us[j]? = some y := ⟨us[j]'(by omega), List.getElem?_eq_getElem _⟩
  have ea : atI us k = some y := by
    unfold atI at ez ⊢
    rw [hl]
    cases e : ixN xs.length k with
    | none => rw [e] at ez; cases ez
    | some j' =>
      rw [e] at ez
      have := (ixN_seq e).1
      rw [this] at h1
      cases h1
      exact hy
  exact ⟨a, us, k, y, rfl, rfl, hq H2, ea, q y F2 H2 (S1.trans R.fe S2) (hi j y (g z) hy (by rw [List.getElem?_map, h2]; rfl))⟩⟩⟩
theorem dk_ixP {c : m (List α)} {k : Int} (ha : DK X b sl e1 c (eT g)) (hb : DA X b sl e2 .pk (pure k : m Int) eI) (hs : PlainIx e2) :
    DK X b sl (.Subscript e1 e2 pos) (c >>= fun xs => Run.lift (atI xs k)) g := dk_eq (dk_ix ha hb hs) (by congr 1; funext xs; exact Run.pure_b _ _)
theorem dk_p0 {g1 : β → D} {c : m (α × β)} (ha : DK X b sl e1 c (eP g g1)) (hb : DA X b sl e2 .pk (pure 0 : m Int) eI) (hs : PlainIx e2) : DK X b sl (.Subscript e1 e2 pos) (c >>= fun x => pure x.1) g :=
  PE.imp (pe_ix ix_tup ha hb hs) fun σ H Q ⟨F, R, q⟩ => ⟨F, R, rmono (rbind q) fun x q v F1 H1 S1 r1 => ⟨F1, R.step S1, Run.run_pure' _ _ fun w F2 H2 S2 r2 => by
    have q := rpure q
    cases r2
    obtain ⟨a, us, rfl, hq, hl, hi, _, _⟩ := r1.tup
    match us, hl with
    | [y, y'], _ => exact ⟨a, [y, y'], 0, y, rfl, rfl, hq H2, rfl, q y F2 H2 (S1.trans R.fe S2) (hi 0 y _ rfl rfl)⟩⟩⟩
theorem dk_p1 {g1 : β → D} {c : m (α × β)} (ha : DK X b sl e1 c (eP g g1)) (hb : DA X b sl e2 .pk (pure 1 : m Int) eI) (hs : PlainIx e2) : DK X b sl (.Subscript e1 e2 pos) (c >>= fun x => pure x.2) g1 :=
  PE.imp (pe_ix ix_tup ha hb hs) fun σ H Q ⟨F, R, q⟩ => ⟨F, R, rmono (rbind q) fun x q v F1 H1 S1 r1 => ⟨F1, R.step S1, Run.run_pure' _ _ fun w F2 H2 S2 r2 => by
    have q := rpure q
    cases r2
    obtain ⟨a, us, rfl, hq, hl, hi, _, _⟩ := r1.tup
    match us, hl with
    | [y, y'], _ => exact ⟨a, [y, y'], 1, y', rfl, rfl, hq H2, rfl, q y' F2 H2 (S1.trans R.fe S2) (hi 1 y' _ rfl rfl)⟩⟩⟩
theorem dm_ktidx {c : m (List Int)} {ck : m Int} (ho : DK X b sl e1 c (eT eI)) (hk : DA X b sl e2 .pk ck eI)
    (hbase : attributeBase e1 "index" X.env (eval e1 X.env) = eval e1 X.env := by rfl)
    (hfew : ((backTo cpos (starEach [e2] X.env)).all (fun x => !x.1) && (backToKw cpos (keywordEach [] X.env)).all (fun x => x.1.isSome) && decide ([e2].length + ([] : List Keyword).length + (if ([] : List Keyword).isEmpty then 0 else 1) < 30)) = true := by rfl)
    (hline : (apos.endLine == cpos.line) = true := by rfl) (hs : starEach [e2] X.env = (false, eval e2 X.env) :: starEach [] X.env := by rfl) (hplain : (backTo cpos (starEach [] X.env)).any (·.1) = false := by rfl) :
    DM X b sl (.Call (.Attribute e1 "index" apos) [e2] [] cpos) md (c >>= fun xs => ck >>= fun k => Run.lift (lidx xs k)) eI :=
  PE.imp (pe_bm PySem.F.plainAttrs_tuple PySem.F.slot_tuple_index PySem.F.type_tuple_index mt_tupIdx ho (pa_cons hk pa_nil hs) hbase hfew hline hs hplain) fun σ H Q ⟨F, R, q⟩ => ⟨F, R, rmono (rbind q) fun xs q v F1 H1 S1 r1 => by
    obtain ⟨a, us, rfl, hq, hl, hi, ko, ra⟩ := r1.tup
    obtain rfl := (ra F1).ints
    refine ⟨.inr (.inl ⟨rfl, ko⟩), F1, R.step S1, rmono (rbind q) fun k q w F2 H2 S2 r2 => ?_⟩
    cases r2
    obtain ⟨z, ez, q⟩ := rlift q
    obtain ⟨hk, rfl⟩ := lidx_idx ez
    have R2 := (R.step S1).step S2
    exact ⟨_, xs, k, rfl, rfl, hq H2, hk, Post.sc R2.sub R2.fe (Post.back R.fe (S1.trans R.fe S2) q) rfl (.int _)⟩⟩
theorem dm_ktidxP {c : m (List Int)} {k : Int} (ho : DK X b sl e1 c (eT eI)) (hk : DA X b sl e2 .pk (pure k : m Int) eI)
    (hbase : attributeBase e1 "index" X.env (eval e1 X.env) = eval e1 X.env := by rfl)
    (hfew : ((backTo cpos (starEach [e2] X.env)).all (fun x => !x.1) && (backToKw cpos (keywordEach [] X.env)).all (fun x => x.1.isSome) && decide ([e2].length + ([] : List Keyword).length + (if ([] : List Keyword).isEmpty then 0 else 1) < 30)) = true := by rfl)
    (hline : (apos.endLine == cpos.line) = true := by rfl) (hs : starEach [e2] X.env = (false, eval e2 X.env) :: starEach [] X.env := by rfl) (hplain : (backTo cpos (starEach [] X.env)).any (·.1) = false := by rfl) :
    DM X b sl (.Call (.Attribute e1 "index" apos) [e2] [] cpos) md (c >>= fun xs => Run.lift (lidx xs k)) eI := by
  have := dm_ktidx (md := md) ho hk hbase hfew hline hs hplain
  have e : (c >>= fun xs => (pure k : m Int) >>= fun k => (Run.lift (lidx xs k) : m Int)) = (c >>= fun xs => Run.lift (lidx xs k)) := by congr 1; funext xs; exact Run.pure_b _ _
  rw [e] at this
  exact this
/-! ### xs.remove(y): xs is ours, its items stay -/
def lrem {α : Type} [BEq α] (xs : List α) (y : α) : Option (List α) := (xs.findIdx? (fun z => z == y)).map fun j => xs.eraseIdx j
def rRemD (K : PySem.W.Frag) : V → List V → Hp → VK → Prop := fun x xs H Q => ∃ (l : Addr) (us : List V) (y : V) (ds : List D) (d : D) (j : Nat), x = .ref l ∧ xs = [y] ∧ H l = some (.lst us) ∧ RpAll K H us ds ∧ Rp K H y d ∧
  (PyData.plainAll ds = true ∧ d.plain = true ∧ PyData.depthAll ds ≤ 62 ∧ d.depth ≤ 62) ∧ PySem.SeqAt.dataPlace ds d = some j ∧ ds.length ≤ sizeLine ∧ Q .non (upd H l (.lst (us.eraseIdx j)))
theorem mt_removeD (hu : X.A.units + 64 < cLine) : MtM X "list.remove" (rRemD X.K) := by
  intro pins s σ H x xs v us Q I rx rxs h
  obtain ⟨l, vs, y, ds, d, j, rfl, rfl, hH, ra, ry, ⟨p1, p2, p3, p4⟩, hp, hz, q⟩ := h
  cases rx
  obtain ⟨u, rfl, ru⟩ := rxs.one
  obtain ⟨z, its, n, r, hl, e⟩ := I.lstM hH
  obtain ⟨as, r1⟩ := Rp.readsAll I ds vs its p1 ra r
  obtain ⟨bs, r2⟩ := Rp.reads I d y u p2 ry ru
  have hlen : ds.length = vs.length := ra.length.symm
  have hl2 : its.length = vs.length := r.length.symm
  refine PySem.SeqAt.remove_list_data (vs := its.toArray) ⟨_, e, rfl, n, rfl⟩ (by simpa using r1) r2 p1 p2 (by omega) hp (by rw [List.size_toArray]; omega) ?_
  have hj : j < its.length := by
    obtain ⟨h1, _, _⟩ := List.findIdx?_eq_some_iff_getElem.mp hp
    omega
  refine ⟨.non, _, I.lset (its' := its.eraseIdx j) hH e ?_ (r.eraseIdx j) ?_, rfl, q⟩
  · simp [Array.eraseIdxIfInBounds, hj]
  · have := List.length_eraseIdx_le vs j
    omega
theorem ds_remove [BEq α] (i : Nat) (xs : List α) {c : m α} {kk : Nat} [h : Eqv g kk] (hu : X.A.units + 64 < cLine) (he : DA X b sl e .pk c g) (hx : sl[i]? = some (some (.o 1 (eL g xs))) := by rfl) (hN : X.N[i]? = some x := by rfl) (hv : Vis X.env.scope x := by first | exact Or.inl rfl | exact Or.inr (Or.inl rfl) | exact Or.inr (Or.inr rfl)) (hd : (x == ("__debug__" : Str)) = false := by decide)
    (hcd : (x == ("__classdict__" : Str)) = false := by decide) (hbase : attributeBase (.Name x pos) "remove" X.env (eval (.Name x pos) X.env) = eval (.Name x pos) X.env := by rfl)
    (hfew : ((backTo cpos (starEach [e] X.env)).all (fun x => !x.1) && (backToKw cpos (keywordEach [] X.env)).all (fun x => x.1.isSome) && decide ([e].length + ([] : List Keyword).length + (if ([] : List Keyword).isEmpty then 0 else 1) < 30)) = true := by rfl)
    (hline : (apos.endLine == cpos.line) = true := by rfl) (hs : starEach [e] X.env = (false, eval e X.env) :: starEach [] X.env := by rfl) (hplain : (backTo cpos (starEach [] X.env)).any (·.1) = false := by rfl) {spos : Pos}
    (hsw : swapsWith (.Call (.Attribute (.Name x pos) "remove" apos) [e] [] cpos) none spos.line X.env = pure false := by rfl) (hk : decide (kk ≤ 62) = true := by rfl) :
    DS1 X b sl (.Expr (.Call (.Attribute (.Name x pos) "remove" apos) [e] [] cpos) spos) (c >>= fun y => Run.lift (lrem xs y)) (fun zs => .nx (sl.set i (some (.o 1 (eL g zs))))) :=
  PS.imp (ps_expr (pe_bm PySem.F.plainAttrs_list PySem.F.slot_list_remove PySem.F.type_list_remove (mt_removeD hu) (pe_var hN hv hd hcd) (pa_cons he pa_nil hs) hbase hfew hline hs hplain) hsw) fun E σ H ⟨F, R, q⟩ => by
    obtain ⟨p, vs, e1, hp, _, _⟩ := R.spoil hx
    refine ⟨.ref p, e1, .inl ⟨rfl, vs, SqL.of hp⟩, F, R, rmono (rbind q) fun y q v F1 H1 S1 r1 => ?_⟩
    obtain ⟨zs, ez, q⟩ := rlift q
    unfold lrem at ez
    obtain ⟨j, ej, rfl⟩ := Option.map_eq_some_iff.mp ez
    have R1 := R.step S1
    have hj : j < xs.length := (List.findIdx?_eq_some_iff_getElem.mp ej).1
    obtain ⟨p', us, e2, hp', hfd, ra, hl, fin⟩ := R1.put hx
    rw [e1] at e2
    cases e2
    have hk := of_decide_eq_true hk
    have d1 := h.depth y
    have d2 := depthAll_map h.depth xs
    have pl : PySem.SeqAt.dataPlace (xs.map g) (g y) = some j := by
      unfold PySem.SeqAt.dataPlace
      rw [List.findIdx?_map]
      have : ((fun z => PyData.eqv z (g y)) ∘ g) = fun z => z == y := by funext z; exact h.eqv z y
      rw [this]
      exact ej
    refine ⟨p, us, v, xs.map g, g y, j, rfl, rfl, hp', ra.mono (R1.sub.trans hid_sub), r1.mono hid_sub, ⟨plainAll_map h.plain xs, h.plain y, by omega, by omega⟩, pl, hl, ?_⟩
    refine q _ F1 _ S1.ff ?_
    have := fin (us.eraseIdx j) ((xs.eraseIdx j).map g) (by rw [map_eraseIdx]; exact ra.eraseIdx j) (by rw [List.length_map]; rw [List.length_map] at hl; exact Nat.le_trans (List.length_eraseIdx_le _ _) hl)
    exact this
/-! ### range(a, b, -1) -/
def rngD (lo hi : Int) : List Int := (List.range (lo - hi).toNat).map fun k : Nat => lo - (k : Int)
theorem rngD_length (lo hi : Int) : (rngD lo hi).length = (lo - hi).toNat := by unfold rngD; simp
theorem rngD_get {lo hi : Int} {i : Nat} (h : i < (lo - hi).toNat) : (rngD lo hi)[i]? = some (lo - (i : Int)) := by unfold rngD; rw [List.getElem?_map, List.getElem?_range h]; rfl
def irngD (lo hi : Int) : Option (List Int) := if -4611686018427387904 ≤ lo ∧ lo < 4611686018427387904 ∧ -4611686018427387904 ≤ hi ∧ hi < 4611686018427387904 ∧ (lo - hi).toNat ≤ 16777216 then some (rngD lo hi) else none
theorem it_rngD {lo hi : Int} : ItOk K fd (Itc lo (-1) (lo - hi).toNat) ((rngD lo hi).map eI) (fun _ _ => True) where
  go := fun F H i _ _ _ h => by
    rw [List.length_map, rngD_length] at h
    exact h
  yld := fun F H i x H' d _ fh fe hd y => by
    obtain ⟨e1, e2⟩ := y
    subst e1 e2
    have hi : i < (lo - hi).toNat := by
      have := (List.getElem?_eq_some_iff.mp hd).1
      rw [List.length_map, rngD_length] at this
      exact this
    rw [List.getElem?_map, rngD_get hi] at hd
    cases hd
    refine ⟨F, .refl fh fe, ?_⟩
    rw [show lo + (i : Nat) * (-1 : Int) = lo - (i : Int) by omega]
    exact .int _
  stop := fun F H _ _ _ => by
    rw [List.length_map, rngD_length]
    exact Nat.le_refl _
  st := fun _ _ _ _ _ _ => trivial
theorem di_rngD {c c1 : m Int} (hm : X.mg "range" = none) (h : DA X b sl e1 .pk c eI) (h' : DA X b sl e2 .pk c1 eI) (h'' : DA X b sl e3 .pk (pure (-1) : m Int) eI) (hg : Gl X "range" := by rfl)
    (hs : starEach [e1, e2, e3] X.env = (false, eval e1 X.env) :: starEach [e2, e3] X.env := by rfl) (hpl : (backTo pos (starEach [e2, e3] X.env)).any (·.1) = false := by rfl) (hs2 : starEach [e2, e3] X.env = (false, eval e2 X.env) :: starEach [e3] X.env := by rfl) (hs3 : starEach [e3] X.env = (false, eval e3 X.env) :: starEach [] X.env := by rfl) :
    DI X b sl tg (.Call (.Name "range" p) [e1, e2, e3] [] pos) true (c >>= fun lo => c1 >>= fun hi => Run.lift (irngD lo hi)) eI := PI.imp (pi_range3 hg hm (pa_cons h (pa_cons h' (pa_cons h'' pa_nil hs3) hs2) hs) hs hpl) fun σ H R ⟨F, Re, q⟩ => ⟨F, Re, rmono (rbind q) fun lo q v F1 H1 S1 r1 =>
  ⟨F1, Re.step S1, rmono (rbind q) fun hi q v2 F2 H2 S2 r2 => ⟨F2, (Re.step S1).step S2, Run.run_pure' _ _ fun v3 F3 H3 S3 r3 => by
    obtain ⟨z, e, q⟩ := rlift q
    obtain ⟨⟨h1, h2, h3, h4, h5⟩, rfl⟩ := some_if e
    cases r1
    cases r2
    cases r3
    exact ⟨lo, hi, -1, _, rfl, RgC.neg (by omega) (by omega) (by omega) (by omega), q _ F3 H3 _ ((S1.trans Re.fe S2).trans Re.fe S3) it_rngD trivial (fun _ _ _ _ _ _ _ _ => trivial) (by rw [rngD_length]; exact h5)⟩⟩⟩⟩
end
end DL
namespace DL
open PySem PySem.Spec PyProof.Rows L2
/-! ### a loop over a list that is ours, and that the loop leaves alone -/
section
variable {K : PySem.W.Frag} {b : Bs} {sl : Sls} {F H : Hp} {σ : L2.St} {α : Type} {g : α → D}
/-- what is ours at p taken for a caller's -/
def Bs.lend (b : Bs) (F : Hp) (p : Addr) (o : HO) : Bs := ⟨upd b.B p o, F, b.fd⟩
theorem Rel.lend (R : Rel K b sl F H σ) {i : Nat} {xs : List α} (e : sl[i]? = some (some (.o 1 (eL g xs)))) :
    ∃ p us, σ[i]? = some (some (.ref p)) ∧ H p = some (.lst us) ∧ F p = none ∧ b.B p = none ∧ b.fd ≠ some p ∧ RpAll K F us (xs.map g) ∧ xs.length ≤ sizeLine ∧ Rel K (b.lend F p (.lst us)) (sl.set i (some (.at p))) F H σ := by
  obtain ⟨Cs, s1, s2, s3⟩ := R.slots
  obtain ⟨w, e1, r⟩ := s1 i _ e
  generalize hCi : Cs i = C at r
  cases r with
  | s a _ => cases a
  | lst oa l =>
    rename_i p us C
    obtain ⟨ra, rfl⟩ := oa.zero'
    have hm : (p, HO.lst us) ∈ Cs i := by rw [hCi]; exact List.mem_cons_self
    obtain ⟨hp, hF, hB, hfd⟩ := (s2 i).2 _ hm
    have hi : i < sl.length := (List.getElem?_eq_some_iff.mp e).1
    obtain ⟨Cq, qi, qj⟩ : ∃ Cq : Nat → List Cell, Cq i = [] ∧ ∀ j, j ≠ i → Cq j = Cs j := ⟨fun j => if j = i then [] else Cs j, if_pos rfl, fun j h => if_neg h⟩
    refine ⟨p, us, e1, hp, hF, hB, hfd, ra, by simpa using l, ⟨by rw [List.length_set]; exact R.len, R.sub, fun a o h => ?_, fun q h1 h2 => h2, Sub.refl _, R.fe, fun φ hφ => ?_, Cq, fun j s hj => ?_, fun j => ?_, fun j k hjk c hc c' hc' => ?_⟩⟩
    · by_cases ha : b.fd = some a
      · have h : hid b.fd (upd b.B p (.lst us)) a = some o := h
        unfold hid at h; rw [if_pos ha] at h; cases h
      · have h : hid b.fd (upd b.B p (.lst us)) a = some o := h
        show hid b.fd H a = some o
        rw [hid_ne ha] at h ⊢
        by_cases hap : a = p
        · subst hap
          rw [upd_same] at h
          rw [← h]
          exact hp
        · rw [upd_ne hap] at h
          have := R.base a o (by rw [hid_ne ha]; exact h)
          rwa [hid_ne ha] at this
    · obtain ⟨f1, f2⟩ := R.fb φ hφ
      have ne : φ ≠ p := fun z => hfd (by rw [← z]; exact hφ)
      exact ⟨by show upd b.B p (.lst us) φ ≠ none; rw [upd_ne ne]; exact f1, R.fro φ f1 f2⟩
    · by_cases hji : j = i
      · subst hji
        rw [List.getElem?_set_self hi] at hj
        cases hj
        exact e1
      · rw [List.getElem?_set_ne (fun z => hji z.symm)] at hj
        rw [qj j hji]
        exact s1 j s hj
    · by_cases hji : j = i
      · rw [hji, qi]
        exact ⟨List.nodup_nil, fun _ h => nomatch h⟩
      · rw [qj j hji]
        refine ⟨(s2 j).1, fun c hc => ?_⟩
        obtain ⟨c1, c2, c3, c4⟩ := (s2 j).2 c hc
        have ne : c.1 ≠ p := s3 j i hji c hc _ hm
        exact ⟨c1, c2, by show upd b.B p (.lst us) c.1 = none; rw [upd_ne ne]; exact c3, c4⟩
    · by_cases hji : j = i
      · rw [hji, qi] at hc; cases hc
      · rw [qj j hji] at hc
        by_cases hki : k = i
        · rw [hki, qi] at hc'; cases hc'
        · rw [qj k hki] at hc'
          exact s3 j k hjk c hc c' hc'
theorem Rel.lent {F1 : Hp} {p : Addr} {us : List V} {sl' : Sls} {i : Nat} {xs : List α} (R1 : Sub b.F0 F1 ∧ (∀ q, b.B q ≠ none → b.F0 q = none → F1 q = none) ∧ (∀ φ, b.fd = some φ → b.B φ ≠ none ∧ b.F0 φ = none)) (hF : F1 p = none) (hB : b.B p = none) (hfd : b.fd ≠ some p)
    (ra : RpAll K F1 us (xs.map g)) (hl : xs.length ≤ sizeLine) (e : sl'[i]? = some (some (.o 1 (eL g xs)))) (R : Rel K (b.lend F1 p (.lst us)) (sl'.set i (some (.at p))) F H σ) : Rel K b sl' F H σ := by
  obtain ⟨q1, q2, q3⟩ := R1
  obtain ⟨Cs, s1, s2, s3⟩ := R.slots
  have hi : i < sl'.length := (List.getElem?_eq_some_iff.mp e).1
  have ei : σ[i]? = some (some (.ref p)) := s1 i (.at p) (List.getElem?_set_self hi)
  have bp : (b.lend F1 p (.lst us)).B p = some (.lst us) := upd_same
  have hp : H p = some (.lst us) := by
    have := R.base p (.lst us) (by show hid b.fd _ p = _; rw [hid_ne hfd]; exact bp)
    have this : hid b.fd H p = some (.lst us) := this
    rwa [hid_ne hfd] at this
  have hF2 : F p = none := R.fro p (by rw [bp]; simp) hF
  have cne : ∀ j, ∀ c ∈ Cs j, c.1 ≠ p := fun j c hc z => by
    have := ((s2 j).2 c hc).2.2.1
    rw [z, bp] at this
    cases this
  have sub1 : Sub F1 F := R.f0
  obtain ⟨Cq, qi, qj⟩ : ∃ Cq : Nat → List Cell, Cq i = [(p, .lst us)] ∧ ∀ j, j ≠ i → Cq j = Cs j := ⟨fun j => if j = i then [(p, .lst us)] else Cs j, if_pos rfl, fun j h => if_neg h⟩
  refine ⟨by have := R.len; rwa [List.length_set] at this, R.sub, fun a o h => ?_, fun q h1 h2 => ?_, q1.trans sub1, R.fe, q3, Cq, fun j s hj => ?_, fun j => ?_, fun j k hjk c hc c' hc' => ?_⟩
  · refine R.base a o ?_
    show hid b.fd (upd b.B p (.lst us)) a = some o
    by_cases ha : b.fd = some a
    · unfold hid at h; rw [if_pos ha] at h; cases h
    · rw [hid_ne ha] at h ⊢
      rw [upd_ne (fun z => by rw [z, hB] at h; cases h)]
      exact h
  · by_cases hq : q = p
    · subst hq; exact absurd hB h1
    · exact R.fro q (by show upd b.B p (.lst us) q ≠ none; rw [upd_ne hq]; exact h1) (q2 q h1 h2)
  · by_cases hji : j = i
    · subst hji
      rw [e] at hj
      cases hj
      rw [qi]
      exact ⟨.ref p, ei, .lst (.zero (ra.mono sub1)) (by simpa using hl)⟩
    · rw [qj j hji]
      exact s1 j s (by rw [List.getElem?_set_ne (fun z => hji z.symm)]; exact hj)
  · by_cases hji : j = i
    · rw [hji, qi]
      refine ⟨by simp, fun c hc => ?_⟩
      rcases List.mem_singleton.mp hc with rfl
      exact ⟨hp, hF2, hB, hfd⟩
    · rw [qj j hji]
      refine ⟨(s2 j).1, fun c hc => ?_⟩
      obtain ⟨c1, c2, c3, c4⟩ := (s2 j).2 c hc
      exact ⟨c1, c2, by have c3 : upd b.B p (.lst us) c.1 = none := c3; rwa [upd_ne (cne j c hc)] at c3, c4⟩
  · by_cases hji : j = i
    · rw [hji, qi] at hc
      rcases List.mem_singleton.mp hc with rfl
      by_cases hki : k = i
      · exact absurd (hji.trans hki.symm) hjk
      · rw [qj k hki] at hc'
        exact fun z => cne k c' hc' z.symm
    · rw [qj j hji] at hc
      by_cases hki : k = i
      · rw [hki, qi] at hc'
        rcases List.mem_singleton.mp hc' with rfl
        exact cne j c hc
      · rw [qj k hki] at hc'
        exact s3 j k hjk c hc c' hc'
end
section
variable {m : Type → Type} [Run m] {α S R : Type} {X : Cx} {b : Bs} {sl : Sls} {g : α → D} {ws : List Nat} {x : Str} {px pos : Pos}
theorem ds_forCO (i : Nat) {xs : List α} {tg : Expr} {body : List Stmt} {t : TG} {set : α → Sls → Sls} {Ef : S → Sls} {s0 : S} {f : S → α → m (Ct S Empty)} (hx : sl[i]? = some (some (.o 1 (eL g xs)))) (hEf : ∀ s, (Ef s)[i]? = some (some (.o 1 (eL g xs))))
    (hp : PassesOwn (model X.prog X.w) X.A X.env X.xe) (hc : X.calm = true) (hgt : GT X.K t ws g set) (hg : PG X tg t) (h0 : Wk (Ef s0) sl)
    (hb : ∀ (b' : Bs), b'.fd = b.fd → ∀ p s z, DS X b' (set z ((Ef s).set i (some (.at p)))) body (f s z) (oC (fun s => (Ef s).set i (some (.at p))) (fun (r : Empty) => (nomatch r : Oc))))
    (hN : X.N[i]? = some x := by rfl) (hv : Vis X.env.scope x := by first | exact Or.inl rfl | exact Or.inr (Or.inl rfl) | exact Or.inr (Or.inr rfl)) (hd : (x == ("__debug__" : Str)) = false := by decide) (hcd : (x == ("__classdict__" : Str)) = false := by decide)
    (hs : ∀ y, foldedSetIterable (.Name x px) X.env y = pure y := by intro _; rfl) :
    DS1 X b sl (.For tg (.Name x px) body [] pos) (forC f s0 xs) (oE Ef (fun (r : Empty) => (nomatch r : Oc))) := by
  have hb' : PSs X body (fun E σ H => ∃ q : { b' : Bs // b'.fd = b.fd } × Addr × S × α, tB X.K q.1.1 (set q.2.2.2 ((Ef q.2.2.1).set i (some (.at q.2.1)))) (f q.2.2.1 q.2.2.2) (oC (fun s => (Ef s).set i (some (.at q.2.1))) (fun (r : Empty) => (nomatch r : Oc))) E σ H) :=
    PSs.ex fun q => hb q.1.1 q.1.2 q.2.1 q.2.2.1 q.2.2.2
  refine PS.imp (ps_for hp hc (pi_list (pe_var hN hv hd hcd)) hg hb' hs) fun E σ H ⟨F, R0, q⟩ => ?_
  obtain ⟨p, us, e1, hH, hF, hB, hfd, ra, hl, R1⟩ := R0.lend hx
  have R1 : Rel X.K (b.lend F p (.lst us)) ((Ef s0).set i (some (.at p))) F H σ := R1.weak (by rw [List.length_set, h0.get.1, ← R0.len]) fun j y e => ⟨by
    by_cases hj : j = i
    · subst hj
      rw [List.getElem?_set_self (List.getElem?_eq_some_iff.mp (hEf s0)).1] at e
      rw [List.getElem?_set_self (List.getElem?_eq_some_iff.mp hx).1]
      exact e
    · rw [List.getElem?_set_ne (fun z => hj z.symm)] at e ⊢
      exact h0.get.2 j y e, rfl⟩
  have back : ∀ {s : S} {F2 H2 : Hp} {σ2 : L2.St}, Rel X.K (b.lend F p (.lst us)) ((Ef s).set i (some (.at p))) F2 H2 σ2 → Rel X.K b (Ef s) F2 H2 σ2 := fun {s F2 H2 σ2} R2 => Rel.lent ⟨R0.f0, R0.fro, R0.fb⟩ hF hB hfd ra hl (hEf s) R2
  have bp : (b.lend F p (.lst us)).B p = some (.lst us) := upd_same
  have okAt : ∀ {sl2 : Sls} {F2 H2 : Hp} {σ2 : L2.St}, Rel X.K (b.lend F p (.lst us)) sl2 F2 H2 σ2 → okL X.K b.fd p (xs.map g) F2 H2 := fun {sl2 F2 H2 σ2} R2 => by
    refine ⟨us, ?_, ra.mono R2.f0⟩
    exact R2.base p (.lst us) (by show hid b.fd _ p = _; rw [hid_ne hfd]; exact bp)
  have it : ItOk X.K b.fd (Itl X.K p) (xs.map g) (okL X.K b.fd p (xs.map g)) := it_list (fun F H o _ => o) fun F H F' H' ⟨vs, o1, o2⟩ S => ⟨vs, S.hh _ _ o1, o2.mono S.ff⟩
  refine ⟨.ref p, e1, p, rfl, ⟨us, SqL.of hH⟩, fun j k σ H => k = xs.length - j ∧ j ≤ xs.length ∧ ∃ F2 s, Sub F F2 ∧ Rel X.K (b.lend F p (.lst us)) ((Ef s).set i (some (.at p))) F2 H σ ∧ Run.run (forC f s (xs.drop j)) (fun z => OcOk X.K b F E (oE Ef (fun (r : Empty) => (nomatch r : Oc)) z)), ⟨_, rfl, Nat.zero_le _, F, s0, Sub.refl _, R1, q⟩, ?_⟩
  rintro j k σ2 H2 ⟨rfl, jl, F2, s, ff, R2, run⟩
  have o2 := okAt R2
  by_cases hj : j < xs.length
  · refine .inr ⟨it.go F2 H2 j o2 R2.sub R2.fe (by rw [List.length_map]; exact hj), fun σ' H' => ∃ F3 s', Sub F F3 ∧ Rel X.K (b.lend F p (.lst us)) ((Ef s').set i (some (.at p))) F3 H' σ' ∧ Run.run (forC f s' (xs.drop (j + 1))) (fun z => OcOk X.K b F E (oE Ef (fun (r : Empty) => (nomatch r : Oc)) z)), fun σ' H' ⟨F3, s', p⟩ => ⟨xs.length - (j + 1), by omega, rfl, hj, F3, s', p⟩, fun v H3 y => ?_⟩
    rw [List.drop_eq_getElem_cons hj] at run
    obtain ⟨F3, S3, r3⟩ := it.yld F2 H2 j v H3 (g xs[j]) o2 R2.sub R2.fe (by rw [List.getElem?_map, List.getElem?_eq_getElem hj]; rfl) y
    refine hgt.run (b.lend F p (.lst us)) _ F3 H3 σ2 v xs[j] _ (R2.step S3) r3 fun σ' R' _ => ⟨(⟨b.lend F p (.lst us), rfl⟩, p, s, xs[j]), F3, R', rmono (rbind run) fun z run => ?_⟩
    have f13 : Sub F F3 := ff.trans S3.ff
    cases z with
    | nx s' => exact fun σ4 F4 H4 f4 R4 => ⟨F4, s', f13.trans f4, R4, run⟩
    | rt r => exact nomatch r
    | bk s' =>
      have run : Run.run (pure (Ct.nx s') : m (Ct S Empty)) (fun z => OcOk X.K b F E (oE Ef (fun (r : Empty) => (nomatch r : Oc)) z)) := run
      have run := rpure run
      have run : OcOk X.K b F E (.nx (Ef s')) := run
      exact fun σ4 F4 H4 f4 R4 => run σ4 F4 H4 (f13.trans f4) (back R4)
  · have e : j = xs.length := by omega
    subst e
    rw [List.drop_length] at run
    have run := rpure run
    exact .inl ⟨by have := it.stop F2 H2 o2 R2.sub R2.fe; rwa [List.length_map] at this, run σ2 F2 H2 ff (back R2)⟩
end
section
variable {m : Type → Type} [Run m] {α β γ : Type} {X : Cx} {b : Bs} {sl : Sls} {e : Expr} {es : List Expr} {h : γ → D} {n kl : Nat} {x : Str} {p pos : Pos}
/-- a call that only looks at what it is handed; what it hands back is looked at -/
theorem dc_callPP {M : m γ} {T : List D → m γ → Prop} {gs : α → List D} {fM : α → Option γ} (F : HasDef X.prog X.w X.K X.mg X.base x kl (spD X.K gs fM n h)) (hr : Room kl X.A)
    (ha : PA X (e :: es) (tCP X.K b sl M T)) (hT : ∀ ds k, T ds k → ∃ x, ds = gs x ∧ k = Run.lift (fM x)) (hg : Gl X x := by rfl)
    (hs : starEach (e :: es) X.env = (false, eval e X.env) :: starEach es X.env := by rfl) (hpl : (backTo pos (starEach es X.env)).any (·.1) = false := by rfl) (hdb : (x == ("__debug__" : Str)) = false := by decide) :
    DM X b sl (.Call (.Name x p) (e :: es) [] pos) .pk M h := by
  obtain ⟨f, fd, ps, F, hm, hk, hb⟩ := F
  exact PE.imp (pe_call F hr hg hm hk hb .nil pass0 ha hdb hs hpl) fun σ H Q ⟨F, R, q⟩ => ⟨F, R, _, q, fun vs F' H' ds k S o t r => by
    obtain ⟨x, rfl, rfl⟩ := hT ds k t
    refine ⟨hid b.fd H', x, hid_sub, by rw [List.append_nil]; exact o.args, ?_⟩
    obtain ⟨y, e, r⟩ := rlift r
    refine ⟨y, e, fun v F2 H2 C S2 o2 h2 => ?_⟩
    have hh : Sub H' H2 := by have := S2.hh; rwa [hid_none, hid_none] at this
    have hh' : Sub (hid b.fd H') (hid b.fd H2) := fun a o e => by
      by_cases ha : b.fd = some a
      · unfold hid at e; rw [if_pos ha] at e; cases e
      · rw [hid_ne ha] at e ⊢; exact hh a o e
    have S3 : Step X.K b.fd F' H' F' H2 :=
      ⟨Sub.refl _, hh', S.fh.trans hh', fun _ _ e => e, S.fe.mono (Sub.refl _) (fun φ e => (S.fe φ e).1) fun φ e => by
        obtain ⟨o, q⟩ := S.fe.some e
        rw [q, hh φ o q]⟩
    have nfd : ∀ a, b.fd = some a → H' a ≠ none := fun a ha z => by
      obtain ⟨o, q⟩ := S.fe.some ha
      rw [z] at q; cases q
    have sf : Sub F2 (hid b.fd H2) := fun a o e => by
      by_cases ha : b.fd = some a
      · have z := S2.st a (nfd a ha) (by unfold hid; rw [if_pos ha])
        rw [z] at e; cases e
      · rw [hid_ne ha]
        have := S2.fh a o e
        rwa [hid_none] at this
    refine (Post.back R.fe S r) v F' H2 S3 (o2.rp sf fun c hc => ?_)
    obtain ⟨a1, a2, a3⟩ := h2.2 c hc
    rw [hid_ne (fun z => nfd _ z a3)]
    exact a1⟩
end
end DL
namespace DL
open PySem PySem.Spec PyProof.Rows L2
/-! ### dicts that are locked: what walks over them finds them as they were -/
def eML {α : Type} (g : α → D) (ps : List (Int × α)) : D := .dict ((.none, .none) :: ps.map fun p => (PyData.int p.1, g p.2))
instance {α : Type} {g : α → D} : NN (eML g) := ⟨fun _ h => by cases h⟩
section
variable {m : Type → Type} [Run m] {α β γ : Type} {X : Cx} {b : Bs} {sl : Sls} {e e1 e2 tg : Expr} {md : Md} {g : α → D} {K : PySem.W.Frag} {fd : Option Addr} {n : Nat} {pos : Pos} {F : Hp}
theorem Rp.locked {v : V} {ps : List (Int × α)} (r : Rp K F v (eML g ps)) : ∃ a o kvs, v = .ref a ∧ F a = some (.frz o (.dK kvs)) ∧ RpKV K F kvs (mD g ps) ∧ ps.length ≤ sizeLine := by
  have gen : ∀ {v : V} {ds : List (D × D)}, Rp K F v (.dict ((.none, .none) :: ds)) → ∃ a o kvs, v = .ref a ∧ F a = some (.frz o (.dK kvs)) ∧ RpKV K F kvs ds ∧ ds.length ≤ sizeLine := by
    intro v ds r
    cases r with
    | dic a b =>
      generalize hq : ((PyData.none, PyData.none) :: ds) = q at b
      cases b with
      | nil => cases hq
      | @cons k v vs d ds' x y =>
        cases k <;> cases hq
    | lck a b z => exact ⟨_, _, _, rfl, a, b, z⟩
  obtain ⟨a, o, kvs, e, h1, h2, h3⟩ := gen r
  exact ⟨a, o, kvs, e, h1, h2, by simpa using h3⟩
theorem Rp.unlock {v : V} {ps : List (Int × α)} (r : Rp K F v (eML g ps)) : Rp K F v (eM g ps) := by
  obtain ⟨a, o, kvs, rfl, h1, h2, _⟩ := r.locked
  exact .dic (.inr ⟨o, h1⟩) h2
theorem dm_unL {c : m (List (Int × α))} (h : DM X b sl e .pk c (eML g)) : DM X b sl e .pk c (eM g) := PE.imp h fun σ H Q ⟨F, R, q⟩ => ⟨F, R, rmono q fun ps q v F' H' S r => q v F' H' S r.unlock⟩
theorem dm_unL0 {c : m (List (Int × α))} (h : DM X b sl e (.ow 0) c (eML g)) : DM X b sl e (.ow 0) c (eM g) := PE.imp h fun σ H Q ⟨F, R, q⟩ => ⟨F, R, rmono q fun ps q v F' H' C S o k => q v F' H' C S (by
  cases o with
  | z r => exact .z r.unlock) k⟩
/-- a new dict is locked -/
theorem dm_lock {c : m (List (Int × α))} (he : DM X b sl e (.ow 1) c (eM g)) : DM X b sl e (.ow 0) c (eML g) := PE.imp (pe_lk he) fun σ H Q ⟨F, Re, q⟩ => ⟨F, Re, rmono q fun ps q v F1 H1 C S o k => by
  have gen : ∀ {v : V} {ds : List (D × D)} {C : List Cell}, Own X.K F1 1 v (.dict ds) C → ∃ p kvs, v = .ref p ∧ C = [(p, .dK kvs)] ∧ RpKV X.K F1 kvs ds := by
    intro v ds C o
    cases o with
    | s a _ => cases a
    | dic r => exact ⟨_, _, rfl, rfl, r⟩
  obtain ⟨p, kvs, rfl, rfl, r⟩ := gen o
  obtain ⟨h1, h2, h3⟩ := k.2 _ List.mem_cons_self
  refine ⟨p, kvs, rfl, h1, fun hz od => ?_⟩
  have pf : b.fd ≠ some p := fun z => by
    obtain ⟨o, e⟩ := Re.fe.some z
    rw [h3] at e; cases e
  have f1 : Sub F1 (upd F1 p (.frz od (.dK kvs))) := fun a o e => by rw [upd_ne (ne_of_none e h2)]; exact e
  have neD : ∀ a o, hid b.fd H1 a = some o → a ≠ p → hid b.fd (upd H1 p (.frz od (.dK kvs))) a = some o := fun a o e ne => by
    by_cases ha : b.fd = some a
    · unfold hid at e; rw [if_pos ha] at e; cases e
    · rw [hid_ne ha] at e ⊢; rw [upd_ne ne]; exact e
  refine q (.ref p) (upd F1 p (.frz od (.dK kvs))) _ [] ⟨S.ff.trans f1, fun a o e => neD a o (S.hh a o e) (fun z => ?_), fun a o e => ?_, fun q hq e => ?_, S.fe.mono f1 (fun φ e => ?_) fun φ e => upd_ne (fun z => pf (by rw [e, z]))⟩ (.z (.lck upd_same (r.mono f1) (by rw [List.length_map]; have := r.length; omega))) .nil
  · rw [z, hid_ne pf, h3] at e; cases e
  · by_cases ha : a = p
    · subst ha
      rw [upd_same] at e
      rw [hid_ne pf, upd_same]; exact e
    · rw [upd_ne ha] at e
      exact neD a o (S.fh a o e) ha
  · have hqp : q ≠ p := fun z => hq (by rw [z]; exact h3)
    rw [upd_ne hqp]
    exact S.st q hq e
  · rw [upd_ne (fun z => pf (by rw [e, z]))]
    exact (S.fe φ e).1⟩
/-- for k in d -/
theorem di_keysL {c : m (List (Int × α))} (he : DA X b sl e .fr c (eML g)) : DI X b sl tg e true (c >>= fun ps => pure (ps.map (·.1))) eI := PI.imp (pi_keys he) fun σ H R ⟨F, Re, q⟩ => ⟨F, Re, rmono (rbind q) fun ps q v F1 H1 S r1 => by
  have q := rpure q
  obtain ⟨p, od, kvs, rfl, up, r, hsz⟩ := r1.locked
  have hl : kvs.length = ps.length := r.length
  have ks : ∀ i : Nat, i < ps.length → ∃ v, kvs[i]? = some (.inl (ps.map (·.1))[i]!, v) := by
    have gen2 : ∀ {ps : List (Int × α)} {kvs : List (Key × V)} (i : Nat), RpKV X.K F1 kvs (mD g ps) → i < ps.length → ∃ v, kvs[i]? = some (.inl (ps.map (·.1))[i]!, v) := by
      intro ps
      induction ps with
      | nil => intro kvs i h hi; simp at hi
      | cons p ps ih =>
        intro kvs i h hi
        obtain ⟨v, vs, rfl, a, t⟩ := h.cons'
        cases i with
        | zero => exact ⟨v, rfl⟩
        | succ i =>
          obtain ⟨w, hw⟩ := ih i t (by simpa using hi)
          exact ⟨w, by simpa using hw⟩
    exact fun i hi => gen2 i r hi
  refine ⟨p, od, rfl, .inl ⟨kvs, hid_sub _ _ (S.fh _ _ up), ?_⟩⟩
  refine q (Itk p od kvs) F1 H1 (fun F H => F p = some (.frz od (.dK kvs))) S ⟨fun F H i o fh fe hi => ?_, fun F H i x H' d o fh fe hd y => ?_, fun F H o fh fe => ?_, fun F H F' H' o S => S.ff _ _ o⟩ up (fun _ F H F' H' o ff _ => ff _ _ o) (by rw [List.length_map]; exact hsz)
  · rw [List.length_map, List.length_map] at hi
    exact ⟨hid_sub _ _ (fh _ _ o), by rw [hl]; exact hi⟩
  · obtain ⟨rfl, kk, w, ek, rfl⟩ := y
    have hi : i < ps.length := by
      have := (List.getElem?_eq_some_iff.mp hd).1
      simpa using this
    obtain ⟨w', ew⟩ := ks i hi
    rw [ew] at ek
    cases ek
    refine ⟨F, .refl fh fe, ?_⟩
    have : d = .int (ps.map (·.1))[i]! := by
      rw [List.getElem?_map] at hd
      obtain ⟨z, hz, rfl⟩ := Option.map_eq_some_iff.mp hd
      have : (ps.map (·.1))[i]! = z := by rw [List.getElem!_eq_getElem?_getD, hz]; rfl
      rw [this]; rfl
    rw [this]
    exact .int _
  · rw [List.length_map, List.length_map]
    exact ⟨hid_sub _ _ (fh _ _ o), by omega⟩⟩
/-- a list of what may be None, none of it None -/
def lall {α : Type} : List (Option α) → Option (List α)
  | [] => some []
  | some x :: xs => (lall xs).map (x :: ·)
  | none :: _ => none
theorem lall_map {xs : List (Option α)} {ys : List α} (h : lall xs = some ys) : xs = ys.map some := by
  induction xs generalizing ys with
  | nil => cases h; rfl
  | cons x xs ih =>
    cases x with
    | none => cases h
    | some x =>
      obtain ⟨zs, e, rfl⟩ := Option.map_eq_some_iff.mp (show (lall xs).map (x :: ·) = some ys from h)
      rw [ih e]
      rfl
theorem dm_unO {c : m (List (Option α))} (h : DM X b sl e md c (eL (eO g))) : DM X b sl e md (c >>= fun xs => Run.lift (lall xs)) (eL g) := PE.imp h fun σ H Q ⟨F, R, q⟩ => ⟨F, R, rmono (rbind q) fun xs q => by
  obtain ⟨ys, e, q⟩ := rlift q
  have e2 : eL (eO g) xs = eL g ys := by
    rw [lall_map e]
    show PyData.list _ = PyData.list _
    rw [List.map_map]
    rfl
  rw [e2]
  exact q⟩
/-! ### a, b, c = a list of three -/
def eL3 {α : Type} (g : α → D) (p : α × α × α) : D := .list [g p.1, g p.2.1, g p.2.2]
def three {α : Type} : List α → Option (α × α × α)
  | [x, y, z] => some (x, y, z)
  | _ => none
theorem dm_three {c : m (List α)} (h : DM X b sl e md c (eL g)) : DM X b sl e md (c >>= fun xs => Run.lift (three xs)) (eL3 g) := PE.imp h fun σ H Q ⟨F, R, q⟩ => ⟨F, R, rmono (rbind q) fun xs q => by
  obtain ⟨p, e, q⟩ := rlift q
  match xs, e with
  | [x, y, z], e =>
    cases e
    exact q⟩
theorem gt_lst3 (i j k : Nat) : GT K (gLst K 3 (gCons (gName i) (gCons (gName j) (gCons (gName k) gNil)))) [i, j, k] (eL3 g) (fun x sl => ((sl.set i (some (.v (g x.1)))).set j (some (.v (g x.2.1)))).set k (some (.v (g x.2.2)))) := ⟨fun b sl F H σ v x Q R r q => by
  cases r with
  | lst hs ha hl =>
    cases ha with
    | cons a1 t =>
      cases t with
      | cons a2 t =>
        cases t with
        | cons a3 t =>
          cases t
          exact ⟨_, _, rfl, SqL.of (hid_sub _ _ (R.sub _ _ hs)), rfl, _, _, rfl, _, _, rfl, _, _, rfl, rfl, q _ (((R.setV a1).setV a2).setV a3) fun ws hw => by rw [wipe_set (hw k (by simp)), wipe_set (hw j (by simp)), wipe_set (hw i (by simp))]⟩⟩
end
end DL
namespace DL
open PySem PySem.Spec PyProof.Rows L2
/-! ### zip of two texts -/
def ItzS (x y : Str) : It where
  go := fun i H => i < x.cps.size ∧ i < y.cps.size
  yld := fun i H v H' => ∃ T c d, v = .ref T ∧ H T = none ∧ H' = upd H T (.tup [.str ⟨#[c]⟩, .str ⟨#[d]⟩]) ∧ x.cps[i]? = some c ∧ y.cps[i]? = some d
  stop := fun i H => i = min x.cps.size y.cps.size
theorem sepS (n : Nat) : ZipSep2 (n + 4) (n + 2) (n + 3) n (n + 1) [n] [n + 1] where
  TIz := by show (n + 2 : Nat) ≠ n + 4; omega
  TOz := by show (n + 3 : Nat) ≠ n + 4; omega
  TITO := by show (n + 2 : Nat) ≠ n + 3; omega
  TIi1 := by show (n + 2 : Nat) ≠ n; omega
  mem1 := List.mem_cons_self
  zf1 := by simp
  Tf1 := by simp
  TIi2 := by show (n + 2 : Nat) ≠ n + 1; omega
  mem2 := List.mem_cons_self
  zf2 := by simp
  Tf2 := by simp
  sep1_2 := by simp
  sep2_1 := by simp
theorem stri_at {h h' : Heap} {a : Addr} {ty : String} {x : Str} {t : Tok} {i : Nat} (q : h.IsStrIter a ty x t i) (k : ∀ o, h.get? a = some o → h'.get? a = some o) : h'.IsStrIter a ty x t i := by
  obtain ⟨o, e, r⟩ := q
  exact ⟨o, k o e, r⟩
theorem turn_zipS {P : Program} {w : World} {K : PySem.W.Frag} {elts : List Expr} {kk : Nat} {tpos : Pos} {z TI TO i1 i2 : Addr} {x y : Str} {tx ty : Tok} (D : ZipSep2 z TI TO i1 i2 [i1] [i2]) :
    Turn P w K (.Tuple elts kk tpos) (ItzS x y) [z, TI, TO, i1, i2] z (fun i h => (IsZip h z TI TO .none ∧ IsPair h TI (.ref i1) (.ref i2) ∧ ∃ p q, IsPair h TO p q) ∧ h.IsStrIter i1 (strIterType x) x tx i ∧ h.IsStrIter i2 (strIterType y) y ty i) where
  mem := List.mem_cons_self
  obj := fun i h st c hc => by
    obtain ⟨⟨hz, hTI, ⟨p, q, hTO⟩⟩, ⟨o1, e1, _, d1⟩, ⟨o2, e2, _, d2⟩⟩ := st
    simp only [List.mem_cons, List.not_mem_nil, or_false] at hc
    rcases hc with rfl | rfl | rfl | rfl | rfl
    · exact ⟨_, hz, fun v e => nomatch e⟩
    · exact ⟨_, hTI, fun v e => nomatch e⟩
    · exact ⟨_, hTO, fun v e => nomatch e⟩
    · exact ⟨_, e1, fun v e => by rw [d1] at e; cases e⟩
    · exact ⟨_, e2, fun v e => by rw [d2] at e; cases e⟩
  keep := fun i h h' st k => by
    obtain ⟨⟨hz, hTI, ⟨p, q, hTO⟩⟩, s1, s2⟩ := st
    exact ⟨⟨k z (by simp) _ hz, k TI (by simp) _ hTI, p, q, k TO (by simp) _ hTO⟩, stri_at s1 fun o e => k i1 (by simp) o e, stri_at s2 fun o e => k i2 (by simp) o e⟩
  item := by
    intro X hP hw hK hc i pins s σ H E I hf st hg
    subst hP hw hK
    obtain ⟨⟨hz, hTI, ⟨p, q, hTO⟩⟩, s1, s2⟩ := st
    obtain ⟨l1, l2⟩ := hg
    have hh := I.ok.hd hc
    have i1z : i1 ≠ z := fun e => D.zf1 (by rw [e]; exact List.mem_cons_self)
    have i2z : i2 ≠ z := fun e => D.zf2 (by rw [e]; exact List.mem_cons_self)
    have zl : z < s.heap.objs.size := Heap.lt_size hz
    refine wpAny_pyNext_zipD2_item (D) (Draws.text (A := X.A.in1) hh i1 x tx) (Draws.text (A := X.A.in1) hh i2 y ty) hz hTI hTO s1 s2 l1 l2 fun x1 x2 h' tk y1 y2 z' TO' t1 t2 hT _ hk => ?_
    obtain ⟨c1, u1, ec1, rfl⟩ := y1
    obtain ⟨c2, u2, ec2, rfl⟩ := y2
    refine ⟨_, rfl, wpAny_letOwnedTupleGo_zip (s := { s with heap := h', toks := tk }) z' fun h2 z2 sb => ?_⟩
    have nez : s.heap.objs.size ≠ z := Nat.ne_of_gt zl
    have hT2 : h2.get? s.heap.objs.size = some { cls := .type "tuple", data := .seq #[.str ⟨#[c1]⟩ u1, .str ⟨#[c2]⟩ u2] } := (sb.2 _ nez).trans hT
    have new : ObjOk X.prog X.w (upd H s.heap.objs.size (.tup [.str ⟨#[c1]⟩, .str ⟨#[c2]⟩])) h2 s.heap.objs.size (.tup [.str ⟨#[c1]⟩, .str ⟨#[c2]⟩]) := ⟨by show 2 ≤ sizeLine; decide, [.str ⟨#[c1]⟩ u1, .str ⟨#[c2]⟩ u2], .cons ⟨_, rfl⟩ (.cons ⟨_, rfl⟩ .nil), ⟨_, hT2, rfl, _, rfl⟩⟩
    have old : ∀ c o, c ∉ [z, TI, TO, i1, i2] → s.heap.get? c = some o → h2.get? c = some o := fun c o hn e => by
      simp only [List.mem_cons, List.not_mem_nil, or_false, not_or] at hn
      exact (sb.2 c hn.1).trans (hk c o hn.1 hn.2.2.1 hn.2.2.2.1 hn.2.2.2.2 e)
    refine ⟨.ref s.heap.objs.size, _, I.turnedNew (t' := tk) old hf (Nat.le_refl _) new, rfl, ⟨_, c1, c2, rfl, I.hok.fresh (Nat.le_refl _), rfl, ec1, ec2⟩, ⟨⟨z2, ?_, .str ⟨#[c1]⟩ u1, .str ⟨#[c2]⟩ u2, ?_⟩, ?_, ?_⟩, fun c hcm => ?_⟩
    · exact (sb.2 _ D.TIz).trans (hk _ _ D.TIz D.TITO D.TIi1 D.TIi2 hTI)
    · exact (sb.2 _ D.TOz).trans TO'
    · exact stri_at t1 fun o e => (sb.2 _ i1z).trans e
    · exact stri_at t2 fun o e => (sb.2 _ i2z).trans e
    · have lt : c < s.heap.objs.size := by
        simp only [List.mem_cons, List.not_mem_nil, or_false] at hcm
        obtain ⟨o1, e1, _⟩ := s1
        obtain ⟨o2, e2, _⟩ := s2
        rcases hcm with rfl | rfl | rfl | rfl | rfl
        · exact zl
        · exact Heap.lt_size hTI
        · exact Heap.lt_size hTO
        · exact Heap.lt_size e1
        · exact Heap.lt_size e2
      rw [upd_ne (Nat.ne_of_lt lt)]
      exact (hf c hcm).1
  done := by
    intro X hP hw hK hc i pins s σ H E I hf st hg
    subst hP hw hK
    obtain ⟨⟨hz, hTI, ⟨p, q, hTO⟩⟩, s1, s2⟩ := st
    have hi : i = min x.cps.size y.cps.size := hg
    have hh := I.ok.hd hc
    refine wpAny_pyNext_zipD2_end (D) (Draws.text (A := X.A.in1) hh i1 x tx) (Draws.text (A := X.A.in1) hh i2 y ty) hz hTI hTO s1 s2 (by omega) (by omega) (by omega) fun h' tk hk => ?_
    exact ⟨rfl, I.turnedL (t' := tk) (ch := [z, TI, TO, i1, i2]) (fun c o hn e => by
      simp only [List.mem_cons, List.not_mem_nil, or_false, not_or] at hn
      exact hk c o hn.1 hn.2.2.1 hn.2.2.2.1 hn.2.2.2.2 e) hf⟩
  self := fun A i s Q E st h => wpAny_pyIter_zip st.1.1 h
def iZipS (ta : TA) : TI := fun σ H R => ta σ H fun vs H1 => ∃ x y, vs = [.str x, .str y] ∧ R (ItzS x y) H1
theorem pi_zipS {X : Cx} {e e2 : Expr} {ta : TA} {p pos tpos : Pos} {elts : List Expr} {kk : Nat} (hg : Gl X "zip") (hm : X.mg "zip" = none) (ha : PA X [e, e2] ta)
    (hs : starEach [e, e2] X.env = (false, eval e X.env) :: starEach [e2] X.env := by rfl) (hpl : (backTo pos (starEach [e2] X.env)).any (·.1) = false := by rfl) :
    PI X (.Tuple elts kk tpos) (.Call (.Name "zip" p) [e, e2] [] pos) (iZipS ta) := by
  refine ⟨fun pins s σ H R I h => ?_⟩
  refine Call_ (ld_blt I hg hm boot_zip (callWith_type1 (thn (ha.run pos pins s σ H _ I h) fun ls s1 ⟨vs, H1, I1, r1, q1⟩ => ?_) hs hpl))
  obtain ⟨x, y, rfl, q1⟩ := q1
  cases r1 with
  | cons ra rr =>
    cases rr with
    | cons rb rr =>
      cases rr
      obtain ⟨tx, rfl⟩ := ra
      obtain ⟨ty, rfl⟩ := rb
      refine zip_begins2 (begins_text x tx) (begins_text y ty) trivial trivial fun h' hz hTI hTO g1 g2 _ hk => wpAny_pyIter_zip hz ?_
      refine ⟨_, [s1.heap.objs.size + 4, s1.heap.objs.size + 2, s1.heap.objs.size + 3, s1.heap.objs.size, s1.heap.objs.size + 1], _, _, H1, rfl, I1.kept (t' := s1.toks) hk, turn_zipS (sepS s1.heap.objs.size), ⟨⟨hz, hTI, _, _, hTO⟩, ⟨_, g1, rfl, rfl⟩, ⟨_, g2, rfl, rfl⟩⟩, fun c hc => ?_, q1⟩
      have le : s1.heap.objs.size ≤ c := by
        simp only [List.mem_cons, List.not_mem_nil, or_false] at hc
        rcases hc with rfl | rfl | rfl | rfl | rfl <;> simp
      exact I1.fpOk le (I1.hok.fresh le)
def szip (x y : Str) : Option (List (Str × Str)) := if x.length ≤ 16777216 then some ((schars x).zip (schars y)) else none
theorem schars_len (s : Str) : (schars s).length = s.cps.size := by unfold schars; simp
theorem schars_at (s : Str) (i : Nat) : (schars s)[i]? = s.cps[i]?.map fun c => (⟨#[c]⟩ : Str) := by
  unfold schars
  rw [List.getElem?_map, Array.getElem?_toList]
section
variable {m : Type → Type} [Run m] {α β γ : Type} {X : Cx} {b : Bs} {sl : Sls} {e e1 e2 : Expr} {md : Md} {K : PySem.W.Frag} {fd : Option Addr} {p pos tpos p2 : Pos} {fz : Bool} {elts : List Expr} {kk : Nat}
theorem di_zipS {c c1 : m Str} (hm : X.mg "zip" = none) (h1 : DA X b sl e1 .pk c eS) (h2 : DA X b sl e2 .pk c1 eS) (hg : Gl X "zip" := by rfl) (hs : starEach [e1, e2] X.env = (false, eval e1 X.env) :: starEach [e2] X.env := by rfl) (hpl : (backTo pos (starEach [e2] X.env)).any (·.1) = false := by rfl)
    (hs2 : starEach [e2] X.env = (false, eval e2 X.env) :: starEach [] X.env := by rfl) :
    DI X b sl (.Tuple elts kk tpos) (.Call (.Name "zip" p) [e1, e2] [] pos) fz (c >>= fun x => c1 >>= fun y => Run.lift (szip x y)) (eP eS eS) := PI.imp (pi_zipS hg hm (pa_cons h1 (pa_cons h2 pa_nil hs2) hs) hs hpl) fun σ H R ⟨F, Re, q⟩ => ⟨F, Re, rmono (rbind q) fun x q v F1 H1 S1 r1 =>
  ⟨F1, Re.step S1, rmono (rbind q) fun y q w F2 H2 S2 r2 => by
    obtain ⟨z, ez, q⟩ := rlift q
    obtain ⟨hz, rfl⟩ := some_if ez
    cases r1
    cases r2
    have len : (((schars x).zip (schars y)).map (eP eS eS)).length = min x.cps.size y.cps.size := by rw [List.length_map, List.length_zip, schars_len, schars_len]
    refine ⟨x, y, rfl, q (ItzS x y) F2 H2 (fun _ _ => True) (S1.trans Re.fe S2) ⟨fun F H i _ fh fe hi => ?_, fun F H i x' H' d _ fh fe hd q => ?_, fun F H _ fh fe => ?_, fun _ _ _ _ _ _ => trivial⟩ trivial (fun _ _ _ _ _ _ _ _ => trivial) ?_⟩
    · rw [len] at hi
      exact ⟨by omega, by omega⟩
    · obtain ⟨T, c, d', rfl, nT, rfl, ec, ed⟩ := q
      rw [List.getElem?_map] at hd
      obtain ⟨⟨z1, z2⟩, hz, rfl⟩ := Option.map_eq_some_iff.mp hd
      obtain ⟨k1, k2⟩ := List.getElem?_zip_eq_some.mp hz
      rw [schars_at, ec] at k1
      rw [schars_at, ed] at k2
      cases k1
      cases k2
      have A := Step.allocF (K := X.K) (o := .tup [.str ⟨#[c]⟩, .str ⟨#[d']⟩]) fh fe nT
      exact ⟨_, A, .tup (SqT.of upd_same) (.cons (.str _) (.cons (.str _) .nil)) (by show 2 ≤ sizeLine; decide)⟩
    · show _ = _
      exact len
    · rw [List.length_zip, schars_len]
      exact Nat.le_trans (Nat.min_le_left _ _) hz⟩⟩
/-! ### parts of a text, texts times a number, numbers told by texts -/
def scut (x : Str) (l h : Option Int) : Option Str := if x.length ≤ 16777216 then some (cutS x l h) else none
def smul (x : Str) (i : Int) : Option Str := if x.length ≤ 16 ∧ (-2 ^ 63 ≤ i ∧ i ≤ 1048576) then some (Txt.mul x i) else none
def sint (x : Str) : Option Int := if x.length ≤ 640 then intText? x else none
def icomb (a b : Int) : Option Int := if (0 ≤ a ∧ 0 ≤ b) ∧ (a < 2 ^ 64 ∧ (b ≤ 9000 ∨ a ≤ 18000)) then some (PySem.W.mcComb a b) else none
theorem dm_sslice {lo hi : Option Expr} {c : m Str} {cl ch : m (Option Int)} (he : DA X b sl e .pk c eS) (hl : PO X lo (tAO X.K b sl cl)) (hh : PO X hi (tAO X.K b sl ch)) :
    DM X b sl (.Subscript e (.Slice lo hi none p2) pos) md (c >>= fun x => cl >>= fun l => ch >>= fun h => Run.lift (scut x l h)) eS := PE.imp (pe_slice sl_str he hl hh) fun σ H Q ⟨F, R, q⟩ => ⟨F, R, rmono (rbind q) fun x q v F1 H1 S1 r1 =>
  ⟨F1, R.step S1, rmono (rbind q) fun l q F2 H2 S2 => ⟨F2, (R.step S1).step S2, rmono (rbind q) fun h q F3 H3 S3 => by
    obtain ⟨z, ez, q⟩ := rlift q
    obtain ⟨hz, rfl⟩ := some_if ez
    have S23 := S2.trans (R.step S1).fe S3
    have R3 := (R.step S1).step S23
    cases r1
    exact ⟨x, rfl, hz, Post.sc R3.sub R3.fe (q.back R.fe (S1.trans R.fe S23)) rfl (.str _)⟩⟩⟩⟩
theorem op_smul : OpR X (binaryOp .Mult) (fun x y H Q => ∃ z i, x = .str z ∧ y = .int i ∧ z.length ≤ 16 ∧ (-2 ^ 63 ≤ i ∧ i ≤ 1048576) ∧ Q (.str (Txt.mul z i)) H) := by
  intro pins s σ H x y v u Q I rx ry h
  obtain ⟨z, i, rfl, rfl, hz, hi, q⟩ := h
  obtain ⟨t, rfl⟩ := rx
  obtain ⟨t', rfl⟩ := ry
  exact PySem.W.KXi.mul rfl hz hi.1 hi.2 fun t' k _ _ => ⟨.str _, H, I.tok _, ⟨_, rfl⟩, q⟩
theorem os_smul : OpS K fd (fun x y H Q => ∃ z i, x = .str z ∧ y = .int i ∧ z.length ≤ 16 ∧ (-2 ^ 63 ≤ i ∧ i ≤ 1048576) ∧ Q (.str (Txt.mul z i)) H) .pk .pk eS eI (fun _ _ => True) (fun x y => (Run.lift (smul x y) : m Str)) md eS := fun F H v1 v2 x y Q _ fh fe r1 r2 q => by
  obtain ⟨z, ez, q⟩ := rlift q
  obtain ⟨hz, rfl⟩ := some_if ez
  cases r1
  cases r2
  exact ⟨x, y, rfl, rfl, hz.1, hz.2, Post.sc fh fe q rfl (.str _)⟩
theorem os_intS : OpS1 K fd (fun xs H Q => ∃ a n, xs = [.str a] ∧ PySem.intText? a = some n ∧ a.length ≤ 640 ∧ Q (.int n) H) .pk eS (fun x => (Run.lift (sint x) : m Int)) md eI := fun F H v1 x Q fh fe r1 q => by
  obtain ⟨z, ez, q⟩ := rlift q
  unfold sint at ez
  split at ez
  · rename_i hl
    cases r1
    exact ⟨x, z, rfl, ez, hl, Post.sc fh fe q rfl (.int _)⟩
  · cases ez
/-! ### choices -/
theorem cr_comb : CallR X (.builtin "math.comb") (fun vs H Q => ∃ a b : Int, vs = [.int a, .int b] ∧ ((0 ≤ a ∧ 0 ≤ b) ∧ (a < 2 ^ 64 ∧ (b ≤ 9000 ∨ a ≤ 18000))) ∧ Q (.int (PySem.W.mcComb a b)) H) := by
  intro pins s σ H vs us Q I r h
  obtain ⟨a, b, rfl, ⟨⟨h1, h2⟩, h3, h4⟩, q⟩ := h
  obtain ⟨t, u, rfl⟩ := Vals.int2 r
  exact PySem.W.mc_comb h1 h2 h3 h4 fun _ => ⟨.int _, H, I.tok _, ⟨_, rfl⟩, q⟩
theorem dm_comb {x : Str} {c c1 : m Int} (hm : X.mg x = some (.builtin "math.comb")) (ha : DA X b sl e1 .pk c eI) (hb : DA X b sl e2 .pk c1 eI) (hg : Gl X x := by rfl) (hdb : (x == ("__debug__" : Str)) = false := by decide)
    (hs : starEach [e1, e2] X.env = (false, eval e1 X.env) :: starEach [e2] X.env := by rfl) (hs2 : starEach [e2] X.env = (false, eval e2 X.env) :: starEach [] X.env := by rfl) (hpl : (backTo pos (starEach [e2] X.env)).any (·.1) = false := by rfl) :
    DM X b sl (.Call (.Name x p) [e1, e2] [] pos) md (c >>= fun x => c1 >>= fun y => Run.lift (icomb x y)) eI :=
  PE.imp (pe_callBfun cr_comb hg hm (pa_cons ha (pa_cons hb pa_nil hs2) hs) hdb hs hpl) fun σ H Q ⟨F, R, q⟩ => ⟨F, R, rmono (rbind q) fun i q v F1 H1 S1 r1 => by
    refine ⟨F1, R.step S1, rmono (rbind q) fun j q w F2 H2 S2 r2 => ?_⟩
    obtain ⟨z, ez, q⟩ := rlift q
    obtain ⟨hz, rfl⟩ := some_if ez
    have R2 := (R.step S1).step S2
    cases r1
    cases r2
    exact ⟨i, j, rfl, hz, Post.sc R2.sub R2.fe (q.back R.fe (S1.trans R.fe S2)) rfl (.int _)⟩⟩
/-! ### what may be None taken for what it is -/
theorem dm_val {α : Type} {g : α → D} {c : m (Option α)} (h : DM X b sl e md c (eO g)) : DM X b sl e md (c >>= fun o => Run.lift o) g := PE.imp h fun σ H Q ⟨F, R, q⟩ => ⟨F, R, rmono (rbind q) fun o q => by
  obtain ⟨z, ez, q⟩ := rlift q
  rw [ez]
  exact q⟩
/-! ### the least, None for nothing -/
def lminN : List Int → Option Int
  | [] => none
  | x :: xs => some (xs.foldl min x)
def rMinN (K : PySem.W.Frag) : List V → List V → Hp → VK → Prop := fun vs zs H Q => ∃ (a : Addr) (ns : List Int), vs = [.ref a] ∧ zs = [.non] ∧ SqL K H a (ns.map V.int) ∧ (ns = [] → Q .non H) ∧ ∀ x xs, ns = x :: xs → Q (.int (xs.foldl min x)) H
theorem cr_minN {X : Cx} (hc : X.calm = true) (hu : X.A.units + 64 < cLine) : CallRK X (.builtin "min") [Str.ofString "default"] (rMinN X.K) := by
  intro pins s σ H vs zs us ws Q I rv rz h
  obtain ⟨a, ns, rfl, rfl, hs, q0, q1⟩ := h
  obtain ⟨its, rvs, hl, hz⟩ := I.list hs
  rw [Vals.ref1 rv]
  have ew : ws = [Value.none] := by
    cases rz with
    | cons r t => cases t; cases r; rfl
  subst ew
  obtain ⟨as, hr⟩ := Rp.readsAll I (ns.map eI) _ its (plain_ints ns) (RpAll.ofInts ns) rvs
  refine PySem.W.min_list_default (I.ok.hd hc) hl.isList (by simpa using hr) ⟨fun x hx y hy => ?_, fun x hx => ?_⟩ ?_ (fun e h' tk hk => ?_) fun y ys i v h' tk bs e hv rd hk => ?_
  · obtain ⟨i, _, rfl⟩ := List.mem_map.mp hx
    obtain ⟨j, _, rfl⟩ := List.mem_map.mp hy
    rfl
  · obtain ⟨i, _, rfl⟩ := List.mem_map.mp hx
    exact fun h => nomatch h
  · rw [show PyData.depthAll (ns.map eI) = 0 from PySem.W.depth_ints ns]
    omega
  · exact ⟨.non, H, I.kept hk, rfl, q0 (by simpa using e)⟩
  · cases ns with
    | nil => cases e
    | cons n ns =>
      injection e with e1 e2
      subst e1 e2
      have rd : Reads h' v (PySem.W.minD (PyData.int n) (ns.map PyData.int)) bs := rd
      rw [PySem.W.minD_ints] at rd
      cases rd with
      | int i t => exact ⟨.int _, H, I.kept hk, ⟨t, rfl⟩, q1 n ns rfl⟩
theorem dm_minN {c : m (List Int)} {jj} {p2 kpos : Pos} (hc : X.calm = true) (hu : X.A.units + 64 < cLine) (hm : X.mg "min" = none) (ha : DA X b sl e .pk c (eL eI)) (hg : Gl X "min" := by rfl) (hs : starEach [e] X.env = (false, eval e X.env) :: starEach [] X.env := by rfl)
    (he : backTo pos (starEach [e] X.env) = (false, eval e X.env) :: backTo pos (starEach [] X.env) := by rfl) (hpl : (backTo pos (starEach [e] X.env)).any (·.1) = false := by rfl)
    (hall : (backToKw pos (keywordEach [⟨some "default", .Constant .none jj p2, kpos⟩] X.env)).all (·.1.isSome) = true := by rfl) (hnone : (backToKw pos (keywordEach [⟨some "default", .Constant .none jj p2, kpos⟩] X.env)).any (·.1.isNone) = false := by rfl) (hks : (backToKw pos (keywordEach [⟨some "default", .Constant .none jj p2, kpos⟩] X.env)).filterMap (·.1) = [Str.ofString "default"] := by rfl) :
    DM X b sl (.Call (.Name "min" p) [e] [⟨some "default", .Constant .none jj p2, kpos⟩] pos) md (c >>= fun x => pure (lminN x)) (eO eI) :=
  PE.imp (pe_callBK (cr_minN hc hu) hg hm bo_min (pa_cons ha pa_nil hs) (pk_cons pe_non pk_nil) (by decide) (by decide) he hpl hall hnone hks) fun σ H Q ⟨F, R, q⟩ => ⟨F, R, rmono (rbind q) fun x q v F1 H1 S1 r1 => by
    have q := rpure q
    have R1 := R.step S1
    have q := q.back R.fe S1
    cases r1 with
    | lst h1 a1 l1 =>
      have e := RpAll.ints (ns := x) a1
      subst e
      refine ⟨_, x, rfl, rfl, SqL.of (hid_sub _ _ h1), fun e => ?_, fun y ys e => ?_⟩
      · subst e
        exact Post.sc R1.sub R1.fe q rfl .non
      · subst e
        exact Post.sc R1.sub R1.fe q rfl (.int _)⟩
end
/-! ### a division by more -/
def idivW (x y : Int) : Option Int := if 0 < y ∧ y < 18446744073709551616 then some (x / y) else none
section
variable {m : Type → Type} [Run m] {md : Md} {K : PySem.W.Frag} {fd : Option Addr} {P : Int → Int → Prop}
theorem os_divW : OpS K fd (rI CDivW fun i j => .int (i / j)) .pk .pk eI eI P (fun x y => (Run.lift (idivW x y) : m Int)) md eI := os_IP fun x y z h => by
  obtain ⟨h1, h2⟩ := some_if h
  refine ⟨⟨h1.1, ?_⟩, h2⟩
  have : y.natAbs < 2 ^ 64 := by omega
  rw [Nat.log2_lt (by omega)]
  exact Nat.lt_of_lt_of_le this (Nat.pow_le_pow_right (by decide) (by decide))
end
/-! ### xs.extend(ys) -/
def lext {α : Type} (xs ys : List α) : Option (List α) := if xs.length + ys.length ≤ 16777216 then some (xs ++ ys) else none
section
variable {m : Type → Type} [Run m] {α β γ : Type} {X : Cx} {b : Bs} {sl : Sls} {e : Expr} {g : α → D} {x : Str} {pos apos cpos : Pos}
theorem ds_extend (i : Nat) (xs : List α) {c : m (List α)} (he : DA X b sl e .sh c (eL g)) (hx : sl[i]? = some (some (.o 1 (eL g xs))) := by rfl) (hN : X.N[i]? = some x := by rfl) (hv : Vis X.env.scope x := by first | exact Or.inl rfl | exact Or.inr (Or.inl rfl) | exact Or.inr (Or.inr rfl)) (hd : (x == ("__debug__" : Str)) = false := by decide)
    (hcd : (x == ("__classdict__" : Str)) = false := by decide) (hbase : attributeBase (.Name x pos) "extend" X.env (eval (.Name x pos) X.env) = eval (.Name x pos) X.env := by rfl)
    (hfew : ((backTo cpos (starEach [e] X.env)).all (fun x => !x.1) && (backToKw cpos (keywordEach [] X.env)).all (fun x => x.1.isSome) && decide ([e].length + ([] : List Keyword).length + (if ([] : List Keyword).isEmpty then 0 else 1) < 30)) = true := by rfl)
    (hline : (apos.endLine == cpos.line) = true := by rfl) (hs : starEach [e] X.env = (false, eval e X.env) :: starEach [] X.env := by rfl) (hplain : (backTo cpos (starEach [] X.env)).any (·.1) = false := by rfl) {spos : Pos}
    (hsw : swapsWith (.Call (.Attribute (.Name x pos) "extend" apos) [e] [] cpos) none spos.line X.env = pure false := by rfl) :
    DS1 X b sl (.Expr (.Call (.Attribute (.Name x pos) "extend" apos) [e] [] cpos) spos) (c >>= fun ys => Run.lift (lext xs ys)) (fun zs => .nx (sl.set i (some (.o 1 (eL g zs))))) :=
  PS.imp (ps_expr (pe_bm PySem.F.plainAttrs_list PySem.F.slot_list_extend PySem.F.type_list_extend mt_extend (pe_var hN hv hd hcd) (pa_cons he pa_nil hs) hbase hfew hline hs hplain) hsw) fun E σ H ⟨F, R, q⟩ => by
    obtain ⟨p, vs, e1, hp, _, _⟩ := R.spoil hx
    refine ⟨.ref p, e1, .inl ⟨rfl, vs, SqL.of hp⟩, F, R, rmono (rbind q) fun y q v F1 H1 S1 r1 => ?_⟩
    obtain ⟨zs, ez, q⟩ := rlift q
    obtain ⟨hz, rfl⟩ := some_if ez
    have R1 := R.step S1
    obtain ⟨p', us, e2, hp', hfd, ra, hl, fin⟩ := R1.put hx
    rw [e1] at e2
    cases e2
    obtain ⟨p1, w1, d1, rfl, e1', h1, a1, l1⟩ := r1
    injection e1' with e1'
    subst e1'
    have n1 := ra.length
    have n2 := a1.length
    rw [List.length_map] at n1 n2
    refine ⟨p, p1, us, w1, rfl, rfl, hp', hid_sub _ _ h1, by rw [n1, n2]; exact hz, q _ F1 _ S1.ff ?_⟩
    have := fin (us ++ w1) ((xs ++ y).map g) (by rw [List.map_append]; exact ra.append a1) (by rw [List.length_map, List.length_append]; exact hz)
    exact this
end
end DL
namespace DL
open PySem PySem.Spec PyProof.Rows L2
/-! ### what is never reached, and defs that fall off their end -/
section
variable {m : Type → Type} [Run m] {X : Cx} {b : Bs} {sl : Sls} {Z : Type} {out : Z → Oc}
theorem ds_raise {sts : List Stmt} : DS X b sl sts (Run.lift (none : Option Z) : m Z) out := ⟨fun pins s σ H D I ⟨F, R, q⟩ => by
  obtain ⟨z, e, _⟩ := rlift q
  cases e⟩
end
section
variable {α β : Type} {P : Program} {w : World} {K : PySem.W.Frag} {mg : Str → Option Value} {base : Heap} {x qual : Str} {st : Stmt} {f : Addr} {fd : FuncData} {N ps : List Str} {k n : Nat}
theorem fn_N {gs : α → List D} {fM : α → Option Unit} {sl slE : α → Sls} (F : Fun K x qual st f fd) (S : FnScope N ps (defScope st)) (hlen : ∀ x, (gs x).length = ps.length) (hsl : ∀ x, slD N.length ((gs x).map some) = sl x)
    (body : ∀ (cdv : Value) (A : Around) (outer : List Env) (s : Shared) (H : Hp) (E : XK), Room k (A.deeper (envOfC qual (defScope st) s.heap.objs.size f cdv)) → ∀ (b : Bs) (x : α), DS (XO P w K mg base N qual st f cdv A outer s H E) b (sl x) (defBody st) (fM x) (fun _ => .nx (slE x))) :
    FnOk P w K mg base CX0 (k + 1) f fd ps (spD K gs fM 0 eN) := by
  have hNl : ps.length ≤ N.length := by
    have := congrArg List.length S.pre
    rw [List.length_take] at this
    omega
  refine F.ok S (fun vs H Q E h => ?_) fun cdv A outer s H vs Q E hr h => ?_
  · obtain ⟨F, x, _, a, _⟩ := h
    rw [a.length, List.length_map, hlen]
  · obtain ⟨F, x, fh, a, q⟩ := h
    refine ⟨_, body cdv A outer s H E hr ⟨H, F, none⟩ x, F, ?_, rmono q fun y p => ?_⟩
    · rw [← hsl]
      exact rel_start a (by rw [List.length_map, hlen]; exact hNl) (by rw [hid_none]; exact fh) FeedOk.no
    · intro σ' F' H' ff R
      have S' : Step K none F H F' H' := RelB.step FeedOk.no R.relB
      exact p .non F' H' [] S' (.z .non) .nil
theorem hd_N {gs : α → List D} {fM : α → Option Unit} {sl slE : α → Sls} (T : TopFn K mg x st) (S : FnScope N ps (defScope st))
    (hbd : ∀ (kV doc pm : Value) (an : Option Addr) (cdv ct : Value) (us : List Value), us.length = ps.length → bindArgs (PySem.W.fnOf x x (defArgs st) (defBody st) (defScope st) .none kV doc pm an cdv ct) ⟨us, []⟩ = pure (ps.zip us))
    (hlen : ∀ x, (gs x).length = ps.length) (hsl : ∀ x, slD N.length ((gs x).map some) = sl x)
    (body : ∀ (f : Addr) (cdv : Value) (A : Around) (outer : List Env) (s : Shared) (H : Hp) (E : XK), Room k (A.deeper (envOfC x (defScope st) s.heap.objs.size f cdv)) → ∀ (b : Bs) (a : α), DS (XO P w K mg base N x st f cdv A outer s H E) b (sl a) (defBody st) (fM a) (fun _ => .nx (slE a))) :
    HasDef P w K mg base x (k + 1) (spD K gs fM 0 eN) := by
  obtain ⟨f, fd, F, hm⟩ := T
  exact ⟨f, fd, ps, fn_N F S hlen hsl (body f), hm, F.kp, F.binds hbd⟩
end
section
variable {m : Type → Type} [Run m] {X : Cx} {b : Bs} {sl : Sls} {e : Expr} {pos pos' : Pos} {md : Md} {c : m Unit}
/-- None is None -/
theorem dt_isNN {j} (h : DM X b sl e .pk c eN) : DT X b sl (.Compare e [.Is] [.Constant .none j pos'] pos) (c >>= fun _ => pure true) := PT.imp (pt_cmp (pc_isN h) rfl) fun σ H Q ⟨F, R, q⟩ => ⟨F, R, rmono (rbind q) fun x q v F' H' S r => by
  have q := rpure q
  cases r
  exact ⟨_, rfl, q F' H' S⟩⟩
theorem dt_notNN {j} (h : DM X b sl e .pk c eN) : DT X b sl (.Compare e [.IsNot] [.Constant .none j pos'] pos) (c >>= fun _ => pure false) := PT.imp (pt_cmp (pc_notN h) rfl) fun σ H Q ⟨F, R, q⟩ => ⟨F, R, rmono (rbind q) fun x q v F' H' S r => by
  have q := rpure q
  cases r
  exact ⟨_, rfl, q F' H' S⟩⟩
end
end DL
namespace DL
open PySem PySem.Spec PyProof.Rows L2
/-! ### sets of whole numbers, written by a comprehension -/
section
variable {X : Cx}
/-- the new set of whole numbers, item by item -/
def tNs (w : World) (wi : TI) (g : TG) (tt : TT) (te : TE) (vs : List Nat) : TE := fun σ H Q => wi σ H fun J H1 => ∀ D, H1 D = none → ∃ W : Nat → Nat → Hp → Prop,
  (∃ m, W 0 m (upd H1 D (SetO w D (fun _ => false) 0))) ∧ ∀ i m H, W i m H →
    (J.stop i H ∧ Q (.ref D) H) ∨
    (J.go i H ∧ ∃ Nx : Hp → Prop, (∀ H', Nx H' → ∃ m', m' < m ∧ W (i + 1) m' H') ∧ ∀ x H', J.yld i H x H' → g x (wipe σ vs) H' fun σ2 H2 => wipe σ2 vs = wipe σ vs ∧ tt σ2 H2 fun t H3 =>
      if t = true then te σ2 H3 fun y H4 => ∃ (k : Int) (S : Int → Bool) (n : Nat), y = .int k ∧ H4 D = some (SetO w D S n) ∧ n + 1 < scanBound ∧ Nx (upd H4 D (SetO w D (fun j => S j || decide (j = k)) (if S k = true then n else n + 1))) else Nx H3)
theorem ns_core {pins : List (Addr × Obj)} {s : Shared} {σ : L2.St} {H : Hp} {Q : VK} {elt tg iter : Expr} {ifs : List Expr} {scope : Scope} {own : List (PySem.Str × Nat)} {pos pos' : Pos} {wi : TI} {g : TG} {tt : TT} {te : TE} {use : Option (Value → Sem Unit)} {Qf : Value → Shared → Prop}
    (hc : X.calm = true) (hN : X.N.Nodup) (I : Inv X pins σ H s) (hi : PI X tg iter wi) (ok : BlkOk X.N X.env.scope scope own)
    (hg : ∀ (s : Shared) (H : Hp) (C : Addr) (cl : List (PySem.Str × Addr)) (fp : List Addr), PG (X.blk s H scope (compEnvC scope cl C X.env) fp) tg g)
    (ht : ∀ (s : Shared) (H : Hp) (C : Addr) (cl : List (PySem.Str × Addr)) (fp : List Addr), PTs (X.blk s H scope (compEnvC scope cl C X.env) fp) ifs tt)
    (he : ∀ (s : Shared) (H : Hp) (C : Addr) (cl : List (PySem.Str × Addr)) (fp : List Addr), PE (X.blk s H scope (compEnvC scope cl C X.env) fp) elt te)
    (hs : ∀ x, foldedSetIterable iter X.env x = pure x) (h : tNs X.w wi g tt te (own.map (·.2)) σ H Q)
    (hRR : ∀ D C s' m H', Inv X pins σ H' s' → Q (.ref D) H' → s'.heap.Ns C m → FpOk X pins H' C → compPost (model X.prog X.w) X.A X.xe use Qf (.ref D) C (.ok .next) s') :
    wpAny (model X.prog X.w) X.A (comprehension (.SetComp elt [⟨tg, iter, ifs, 0⟩] scope pos) scope X.env pos' (newSet (.type "set")) false (eval iter X.env) use) Qf X.xe s := by
  have hfree : ∀ y ∈ scope.names, y.2 = .free → ∃ c, X.env.cells.lookup y.1 = some c := by
    intro y hy e
    rcases ok.free y hy e with k | k
    · exact I.ok.has _ (.inl k)
    · exact I.ok.has _ (.inr k)
  refine wpAny_comprehension_free (use := use) rfl hs (closure_ok hfree) ok.kind (fun y hy e => by rw [ok.uniq y hy, e]) (thn (hi.run pins s σ H _ I h) fun xv s1 hx => thn hx fun itv s2 h2 => ?_)
  obtain ⟨it, fp, tn, J, H2, e, I2, T, st2, f2, q⟩ := h2
  subst e
  refine PpSet.newSet_ok (newEnv_comp ?_)
  generalize hD : s2.heap.objs.size = D
  have hDn : H2 D = none := I2.hok.fresh (Nat.le_of_eq hD)
  obtain ⟨W, ⟨m0, w0⟩, turn⟩ := q D hDn
  let ob : Obj := { cls := .type "set", dict := none, data := .set #[] 0 (.fresh 0 0 (!X.w.params.followText "set-order")) }
  generalize hs3 : ({ s2 with heap := s2.heap.push ob } : Shared) = s3
  have I3 : Inv X pins σ (upd H2 D (SetO X.w D (fun _ => false) 0)) s3 := by
    rw [← hs3]
    refine I2.laid (t' := s2.toks) (fun b o e => Heap.get?_push_of_some _ e) (Nat.le_of_eq hD) ?_
    rw [← hD]
    exact setO_new (setR_fresh X.w)
  have h3 : s3.heap = s2.heap.push ob := by rw [← hs3]
  have sz : ∀ b ∈ fp, b < s2.heap.objs.size := by
    intro b hb
    obtain ⟨o, e, _⟩ := T.obj _ _ st2 b hb
    exact Heap.lt_size e
  have f3 : ∀ b ∈ fp, FpOk X pins (upd H2 D (SetO X.w D (fun _ => false) 0)) b ∧ b < s3.heap.objs.size := by
    intro b hb
    have hlt := sz b hb
    refine ⟨⟨?_, (f2 b hb).2⟩, by rw [h3, Heap.size_push]; exact Nat.lt_succ_of_lt hlt⟩
    rw [upd_ne (by rw [← hD]; exact Nat.ne_of_lt hlt)]
    exact (f2 b hb).1
  have st3 : tn 0 s3.heap := T.keep _ _ _ st2 fun b _ o e => by rw [h3]; exact Heap.get?_push_of_some _ e
  have I4 := block_start I3 ok hN f3
  have pg := hg s3 (upd H2 D (SetO X.w D (fun _ => false) 0)) s3.heap.objs.size (cellsFrom (s3.heap.objs.size + 1) scope.names (cloFrom X.env.cells scope.names [])) fp
  have pt := ht s3 (upd H2 D (SetO X.w D (fun _ => false) 0)) s3.heap.objs.size (cellsFrom (s3.heap.objs.size + 1) scope.names (cloFrom X.env.cells scope.names [])) fp
  have pe := he s3 (upd H2 D (SetO X.w D (fun _ => false) 0)) s3.heap.objs.size (cellsFrom (s3.heap.objs.size + 1) scope.names (cloFrom X.env.cells scope.names [])) fp
  show codeAny _ _ (.compStart (.SetComp elt [⟨tg, iter, ifs, 0⟩] scope pos) 0 (.ref it) (.ref D) (compEnvC scope (cellsFrom (s3.heap.objs.size + 1) scope.names (cloFrom X.env.cells scope.names [])) s3.heap.objs.size X.env))
    (compPost (model X.prog X.w) X.A X.xe use Qf (.ref D) s3.heap.objs.size) { s3 with heap := pushCells (s3.heap.push { cls := .type "dict", data := .dict #[] }) scope.names }
  have nfp : ∀ b ∈ fp, (upd H2 D (SetO X.w D (fun _ => false) 0)) b = none := fun b hb => (f3 b hb).1.1
  generalize hce : compEnvC scope (cellsFrom (s3.heap.objs.size + 1) scope.names (cloFrom X.env.cells scope.names [])) s3.heap.objs.size X.env = ce at I4 pg pt pe ⊢
  have cL : ce.locals = s3.heap.objs.size := by subst hce; rfl
  generalize hH3 : upd H2 D (SetO X.w D (fun _ => false) 0) = H3 at I3 I4 pg pt pe w0 nfp f3
  generalize hs4 : ({ s3 with heap := pushCells (s3.heap.push { cls := .type "dict", data := .dict #[] }) scope.names } : Shared) = s4 at I4 ⊢
  have st4 : tn 0 s4.heap := T.keep _ _ _ st3 fun b _ o e => by rw [← hs4]; exact pushCells_keeps _ _ _ _ (Heap.get?_push_of_some _ e)
  have stat : ∀ {σ' : L2.St} {H' : Hp} {s' : Shared}, Inv (X.blk s3 H3 scope ce fp) [] σ' H' s' → (∀ b ∈ fp, H' b = none) → ∀ b ∈ fp, FpOk (X.blk s3 H3 scope ce fp) [] H' b := by
    intro σ' H' s' I' hn b hb
    exact ⟨hn b hb, (I'.ok.exf b hb).1, I'.ok.exfs b hb, .inl hb, fun x c e => (I'.ok.exf b hb).2 x c e, fun p hp => absurd (show p ∈ ([] : List (Addr × Obj)) ++ [] from hp) (by simp)⟩
  have loop : codeAny (model X.prog X.w) X.A (.compLoop (.SetComp elt [⟨tg, iter, ifs, 0⟩] scope pos) 0 (.ref it) (.ref D) ce) (compPost (model X.prog X.w) X.A X.xe use Qf (.ref D) s3.heap.objs.size) s4 := by
    refine PpSet.compLoopS_any (fun n s' => ∃ i H', Inv (X.blk s3 H3 scope ce fp) [] (wipe σ (own.map (·.2))) H' s' ∧ tn i s'.heap ∧ (∀ b ∈ fp, H' b = none) ∧ W i n H') ?_ m0 ⟨0, H3, I4, st4, nfp, w0⟩
    rintro n s5 ⟨i, H5, I5, st5, n5, w5⟩
    rcases turn i n H5 w5 with ⟨stop, qq⟩ | ⟨go, Nx, hNx, step⟩
    · refine thnF (T.done (X.blk s3 H3 scope ce fp) rfl rfl rfl hc i [] s5 _ H5 (fun _ _ => False) I5 (stat I5 n5) st5 stop) fun r s6 ⟨hr, I6⟩ => ?_
      subst hr
      have I7 : Inv X pins σ H5 s6 := I3.call' (ch := fp) I6.os I6.base I6.hok I6.bare fun b hb => ⟨(f3 b hb).1.2.2.2.1, (f3 b hb).1.2.1, (f3 b hb).1.2.2.2.2.1, (f3 b hb).1.2.2.2.2.2⟩
      have nC : H5 s3.heap.objs.size = none := by
        have z : H5 ce.locals = none := I6.free
        rw [cL] at z
        exact z
      obtain ⟨m, hn, _⟩ := I6.loc
      have hn : s6.heap.Ns ce.locals m := hn
      rw [cL] at hn
      exact hRR D s3.heap.objs.size s6 m H5 I7 qq hn (I3.fpOk (Nat.le_refl _) nC)
    · refine thnF (T.item (X.blk s3 H3 scope ce fp) rfl rfl rfl hc i [] s5 _ H5 (fun _ _ => False) I5 (stat I5 n5) st5 go) fun r s6 ⟨u, hr, h6⟩ => ?_
      subst hr
      refine thnF h6 fun _ s7 ⟨x, H7, I7, r7, y7, st7, n7⟩ => ?_
      have I7' := I7.pinned (stat I7 n7) (T.obj _ _ st7)
      refine thnF (pg.run _ s7 _ H7 x u _ I7' r7 (step x H7 y7)) fun _ s8 ⟨σ8, H8, I8, hw8, q8⟩ => ?_
      refine thnF (pt.run _ s8 σ8 H8 _ I8 q8) fun b s9 ⟨H9, I9, q9⟩ => ?_
      have fin : ∀ {s' : Shared} {H' : Hp}, Inv (X.blk s3 H3 scope ce fp) ([] ++ pinsAt fp s7.heap) σ8 H' s' → Nx H' →
          ∃ m, m < n ∧ ∃ i H', Inv (X.blk s3 H3 scope ce fp) [] (wipe σ (own.map (·.2))) H' s' ∧ tn i s'.heap ∧ (∀ b ∈ fp, H' b = none) ∧ W i m H' := by
        intro s' H' I' nx
        obtain ⟨m', hm, w'⟩ := hNx H' nx
        have pin' : ∀ b ∈ fp, ∀ o, s7.heap.get? b = some o → s'.heap.get? b = some o ∧ H' b = none := by
          intro b hb o e
          have z := I'.pin (b, o) (List.mem_append_right _ (List.mem_append_right _ (mem_pinsAt hb e)))
          exact ⟨z.1, z.2.1⟩
        have hl : (wipe σ (own.map (·.2))).length = σ8.length := by rw [← hw8, wipe_length]
        refine ⟨m', hm, i + 1, H', (I'.unpinned (pins := [])).weak hl (fun j v e => ?_), T.keep _ _ _ st7 fun b hb o e => (pin' b hb o e).1, fun b hb => ?_, w'⟩
        · rw [← hw8] at e
          exact (wipe_some e).1
        · obtain ⟨o, e, _⟩ := T.obj _ _ st7 b hb
          exact (pin' b hb o e).2
      cases b with
      | false =>
        simp only [Bool.false_eq_true, if_false] at q9 ⊢
        exact fin I9 q9
      | true =>
        simp only [if_true] at q9 ⊢
        refine thnF (pe.run _ s9 σ8 H9 _ I9 q9) fun z s10 ⟨yv, H10, I10, r10, k, S0, n0, ey, hD10, hz10, nx⟩ => ?_
        subst ey
        obtain ⟨tk, rfl⟩ := r10
        refine setR_add (setO_get (X := X.blk s3 H3 scope ce fp) I10 hD10) hz10 fun h' sb new => ?_
        have he : ∃ u, h'.get? D = some u := by
          obtain ⟨o, _, _, _, ho, _⟩ := new
          exact ⟨o, ho⟩
        exact fin (I10.write (e := D) (t' := s10.toks + 1) (by rw [hD10]; trivial) (.inl rfl) (fun b u hb hu => (sb.2 b hb).trans hu) he (setO_new new)) nx
  exact PpSet.codeAny_compStart_set loop (T.self X.A 0 _ _ _ st4 loop)
theorem pe_ns {elt tg iter : Expr} {ifs : List Expr} {scope : Scope} {own : List (PySem.Str × Nat)} {pos : Pos} {wi : TI} {g : TG} {tt : TT} {te : TE} (hc : X.calm = true) (hN : X.N.Nodup) (hi : PI X tg iter wi) (ok : BlkOk X.N X.env.scope scope own)
    (hg : ∀ (s : Shared) (H : Hp) (C : Addr) (cl : List (PySem.Str × Addr)) (fp : List Addr), PG (X.blk s H scope (compEnvC scope cl C X.env) fp) tg g)
    (ht : ∀ (s : Shared) (H : Hp) (C : Addr) (cl : List (PySem.Str × Addr)) (fp : List Addr), PTs (X.blk s H scope (compEnvC scope cl C X.env) fp) ifs tt)
    (he : ∀ (s : Shared) (H : Hp) (C : Addr) (cl : List (PySem.Str × Addr)) (fp : List Addr), PE (X.blk s H scope (compEnvC scope cl C X.env) fp) elt te)
    (hs : ∀ x, foldedSetIterable iter X.env x = pure x := by intro _; rfl) : PE X (.SetComp elt [⟨tg, iter, ifs, 0⟩] scope pos) (tNs X.w wi g tt te (own.map (·.2))) := by
  refine ⟨fun pins s σ H Q I h => ?_⟩
  rw [PpSet.eval_SetComp]
  refine ns_core hc hN I hi ok hg ht he hs h fun D C s' m H' I' q hn f => ⟨m, hn, fun h'' sb => ?_⟩
  obtain ⟨f0, f1, f2, f3, f4, f5⟩ := f
  exact ⟨.ref D, H', I'.turned (t' := s'.toks) (fun b o hb e => (sb.2 b hb).trans e) f0 f1 f3 f4 f5, rfl, q⟩
end
/-! sorted({.. for ..}) -/
def lshort {α : Type} (xs : List α) : Option (List α) := if xs.length < 64 then some xs else none
def dset : List Int → List Int
  | [] => []
  | x :: xs => if x ∈ xs then dset xs else x :: dset xs
def ssort (xs : List Int) : List Int := lsort (dset xs)
theorem dset_mem {x : Int} : ∀ {xs : List Int}, x ∈ dset xs ↔ x ∈ xs
  | [] => Iff.rfl
  | y :: xs => by
    unfold dset
    split
    · rename_i h
      rw [dset_mem, List.mem_cons]
      exact ⟨.inr, fun k => k.elim (fun e => e ▸ h) id⟩
    · rw [List.mem_cons, List.mem_cons, dset_mem]
theorem dset_nodup : ∀ xs : List Int, (dset xs).Nodup
  | [] => List.nodup_nil
  | y :: xs => by
    unfold dset
    split
    · exact dset_nodup xs
    · rename_i h
      exact List.nodup_cons.mpr ⟨fun k => h (dset_mem.mp k), dset_nodup xs⟩
theorem dset_len : ∀ xs : List Int, (dset xs).length ≤ xs.length
  | [] => Nat.le_refl _
  | y :: xs => by
    unfold dset
    split
    · exact Nat.le_succ_of_le (dset_len xs)
    · exact Nat.succ_le_succ (dset_len xs)
/-- strictly ascending lists of the same members -/
theorem ssort_eq {xs ns : List Int} (h : ns.Pairwise (· < ·)) (k : ∀ z, z ∈ ns ↔ z ∈ xs) : ns = ssort xs := by
  refine lsort_eq ?_ (h.imp fun q => by omega)
  exact (List.perm_ext_iff_of_nodup (h.imp fun q => by omega) (dset_nodup xs)).mpr fun z => (k z).trans dset_mem.symm
/-- how many different ones -/
theorem card_step {S : Int → Bool} {ys : List Int} {n : Nat} {k : Int} (hS : ∀ z, S z = true ↔ z ∈ ys) (hn : n = (dset ys).length) :
    (∀ z, (S z || decide (z = k)) = true ↔ z ∈ ys ++ [k]) ∧ (if S k = true then n else n + 1) = (dset (ys ++ [k])).length := by
  refine ⟨fun z => ?_, ?_⟩
  · rw [Bool.or_eq_true, hS, decide_eq_true_iff, List.mem_append, List.mem_singleton]
  · have key : (if k ∈ ys then n else n + 1) = (dset (ys ++ [k])).length := by
      by_cases c : k ∈ ys
      · rw [if_pos c, hn]
        exact (List.perm_ext_iff_of_nodup (dset_nodup _) (dset_nodup _)).mpr (fun z => by
          rw [dset_mem, dset_mem, List.mem_append, List.mem_singleton]
          exact ⟨.inl, fun q => q.elim id fun e => e ▸ c⟩) |>.length_eq
      · rw [if_neg c, hn]
        have : (dset (ys ++ [k])).Perm (k :: dset ys) := (List.perm_ext_iff_of_nodup (dset_nodup _) (List.nodup_cons.mpr ⟨fun q => c (dset_mem.mp q), dset_nodup _⟩)).mpr fun z => by
          rw [dset_mem, List.mem_append, List.mem_singleton, List.mem_cons, dset_mem]
          exact ⟨fun q => q.symm, fun q => q.symm⟩
        rw [this.length_eq]
        rfl
    rw [← key]
    by_cases c : k ∈ ys
    · rw [if_pos c, if_pos ((hS k).mpr c)]
    · rw [if_neg c, if_neg fun q => c ((hS k).mp q)]
section
variable {m : Type → Type} [Run m] {α β γ : Type} {X : Cx} {b : Bs} {sl : Sls} {e : Expr} {g : α → D} {K : PySem.W.Frag} {c : m (List α)} {vs ws : List Nat} {tst : α → m Bool} {elt : α → m Int} {set : α → Sls → Sls} {gt : TG} {fz : Bool} {tt : TT}
theorem ns_to {w : World} (hg : GT K gt ws g set) (hw : ∀ i ∈ ws, i ∈ vs) (ht : TsOk K b (wipeS sl vs) set tst tt) {σ : L2.St} {H : Hp} {Q : VK}
    (q : tD K b sl (.ow 1) (c >>= fun xs => Run.lift (lshort xs) >>= fun xs => lcM tst elt xs >>= fun ys => (pure (ssort ys) : m (List Int))) (eL eI) σ H Q) :
    tCB (rSortedSet w) (tCons (tNs w (tI K b sl fz c g) gt tt (tExE fun x => tD K b (set x (wipeS sl vs)) .pk (elt x) eI) vs) tNil) σ H Q := by
  obtain ⟨F, R, q⟩ := q
  refine ⟨F, R, rmono (rbind q) fun xs q J F1 H1 ok S1 it o1 _ _ D nD => ?_⟩
  have R1 := R.step S1
  obtain ⟨xs', e64, q0⟩ := rlift (rbind q)
  have h64 : xs.length < 64 ∧ xs' = xs := by
    unfold lshort at e64
    split at e64
    · rename_i h; cases e64; exact ⟨h, rfl⟩
    · cases e64
  obtain ⟨h64, rfl⟩ := h64
  have q0 := rbind q0
  let Iv : Nat → Hp → Prop := fun i H2 => ∃ (F2 : Hp) (done : List Int) (S : Int → Bool) (n : Nat), Step K b.fd F1 H1 F2 H2 ∧ ok F2 H2 ∧ H2 D = some (SetO w D S n) ∧ F2 D = none ∧ (∀ z, S z = true ↔ z ∈ done) ∧ n = (dset done).length ∧ done.length ≤ i ∧
    i ≤ xs'.length ∧ Run.run (lcM tst elt (xs'.drop i)) (fun ys => Post K b.fd (.ow 1) F1 H1 (eL eI (ssort (done ++ ys))) Q)
  have fdD : b.fd ≠ some D := fun z => by
    obtain ⟨o, q⟩ := R1.fe.some z
    rw [nD] at q; cases q
  have nF : F1 D = none := (S1.fh.trans hid_sub).none nD
  refine ⟨fun i k H2 => k = xs'.length - i ∧ Iv i H2, ⟨xs'.length, by simp, F1, [], _, 0, Step.alloc S1.fh S1.fe nD, it.st _ _ _ _ o1 (Step.alloc S1.fh S1.fe nD), upd_same, nF, fun z => by simp, rfl, Nat.zero_le _, Nat.zero_le _, rmono q0 fun ys p => by
    have p := rpure p
    exact Post.back R.fe S1 p⟩, ?_⟩
  rintro i k H2 ⟨rfl, F2, done, S, n, S2, o2, hD, fD, hS, hn, dl, il, run⟩
  have R2 := R1.step S2
  by_cases hi : i < xs'.length
  · refine .inr ⟨it.go F2 H2 i o2 R2.sub R2.fe (by rw [List.length_map]; exact hi), fun H' => Iv (i + 1) H', fun H' p => ⟨xs'.length - (i + 1), by omega, rfl, p⟩, fun v H3 y => ?_⟩
    rw [List.drop_eq_getElem_cons hi] at run
    obtain ⟨F3, S3, r3⟩ := it.yld F2 H2 i v H3 (g xs'[i]) o2 R2.sub R2.fe (by rw [List.getElem?_map, List.getElem?_eq_getElem hi]; rfl) y
    have S23 := S2.trans R1.fe S3
    have R3 := (R1.step S23).wipe vs
    refine hg.run b _ F3 H3 _ v xs'[i] _ R3 r3 fun σ' R' hw' => ⟨by rw [hw' vs hw, wipe_wipe vs fun _ h => h], ht xs'[i] σ' F3 H3 _ R' (rmono (rbind run) fun t p F4 H4 S4 => ?_)⟩
    have S24 := S23.trans R1.fe S4
    have k2 : H2 D ≠ none := by rw [hD]; simp
    have stay : ∀ {F' H'}, Step K b.fd F2 H2 F' H' → H' D = some (SetO w D S n) ∧ F' D = none := fun {F' H'} Z => ⟨by
      have := Z.hh D _ (by rw [hid_ne fdD]; exact hD)
      rw [hid_ne fdD] at this
      exact this, Z.st D k2 fD⟩
    cases t with
    | false =>
      rw [if_neg Bool.false_ne_true]
      have S34 := S3.trans R2.fe S4
      exact ⟨F4, done, S, n, S24, it.st _ _ _ _ o2 S34, (stay S34).1, (stay S34).2, hS, hn, by omega, hi, p⟩
    | true =>
      rw [if_pos rfl]
      refine ⟨xs'[i], F4, R'.step S4, rmono (rbind p) fun z p v5 F5 H5 S5 r5 => ?_⟩
      cases r5
      have S35 := S3.trans R2.fe (S4.trans R'.fe S5)
      have S25 := S2.trans R1.fe S35
      obtain ⟨e1, e2⟩ := stay S35
      obtain ⟨c1, c2⟩ := card_step (k := z) hS hn
      have neD : ∀ a o, hid b.fd H5 a = some o → a ≠ D → hid b.fd (upd H5 D (SetO w D (fun j => S j || decide (j = z)) (if S z = true then n else n + 1))) a = some o := fun a o e ne => by
        by_cases ha : b.fd = some a
        · unfold hid at e; rw [if_pos ha] at e; cases e
        · rw [hid_ne ha] at e ⊢
          rw [upd_ne ne]; exact e
      have fh' : Sub F5 (hid b.fd (upd H5 D (SetO w D (fun j => S j || decide (j = z)) (if S z = true then n else n + 1)))) := fun a o e => neD a o (S35.fh a o e) (fun y => by rw [y, e2] at e; cases e)
      have SU : Step K b.fd F1 H1 F5 (upd H5 D (SetO w D (fun j => S j || decide (j = z)) (if S z = true then n else n + 1))) := by
        refine ⟨S25.ff, fun a o e => neD a o (S25.hh a o e) (fun y => ?_), fh', S25.st, S25.fe.mono (Sub.refl _) (fun φ e => (S25.fe φ e).1) fun φ e => upd_ne (fun y => fdD (by rw [e, y]))⟩
        rw [y] at e
        rw [hid_ne fdD, nD] at e; cases e
      have hb : n ≤ 63 := by
        have := dset_len done
        omega
      have hsb : n + 1 < scanBound := by
        show n + 1 < 4096
        omega
      refine ⟨z, S, n, rfl, e1, hsb, F5, done ++ [z], _, _, SU, it.st F1 H1 _ _ o1 SU, upd_same, e2, c1, c2, by simp; omega, hi, rmono (rbind p) fun ys p => ?_⟩
      have p := rpure p
      rw [List.append_assoc]
      exact p
  · have e : i = xs'.length := by omega
    subst e
    refine .inl ⟨by have := it.stop F2 H2 o2 R2.sub R2.fe; rwa [List.length_map] at this, D, S, n, rfl, hD, ?_, fun ns p asc mem _ hp => ?_⟩
    · have := dset_len done
      omega
    · rw [List.drop_length] at run
      have run := rpure run
      rw [List.append_nil] at run
      rw [← ssort_eq asc fun z => (mem z).trans (hS z)] at run
      have A := Step.alloc (o := .lst (ns.map V.int)) R2.sub R2.fe hp
      have pF : F2 p = none := (R2.sub.trans hid_sub).none hp
      have hle : ns.length ≤ sizeLine := by
        have h1 : ns.length ≤ (dset done).length := by
          rw [ssort_eq asc fun z => (mem z).trans (hS z)]
          unfold ssort lsort
          rw [List.length_mergeSort]
          exact Nat.le_refl _
        have := dset_len done
        show ns.length ≤ 2 ^ 24
        omega
      refine run (.ref p) F2 _ [(p, .lst (ns.map V.int))] (S2.trans R1.fe A) (.lst (C := []) ?_ (by rw [List.length_map]; exact hle)) ⟨by simp, fun c hc => ?_⟩
      · exact OwnAll.zero (RpAll.ofInts ns)
      · rcases List.mem_cons.mp hc with rfl | hc
        · exact ⟨upd_same, pF, (S1.trans R.fe S2).fresh R.fe hp |> fun _ => S2.fresh R1.fe hp⟩
        · cases hc
variable {elx tg iter : Expr} {ifs : List Expr} {scope : Scope} {own : List (Str × Nat)} {px pos pos2 : Pos}
/-- sorted({e for x in ..}) -/
theorem dm_nset (hc : X.calm = true) (hm : X.mg "sorted" = none) (hN : X.N.Nodup) (hi : DI X b sl tg iter fz c g) (ok : BlkOk X.N X.env.scope scope own) (hgt : GT X.K gt ws g set)
    (hg : ∀ (s : Shared) (H : Hp) (C : Addr) (cl : List (Str × Addr)) (fp : List Addr), PG (X.blk s H scope (compEnvC scope cl C X.env) fp) tg gt)
    (ht : LT X b (wipeS sl (own.map (·.2))) set scope ifs tst tt)
    (he : ∀ (s : Shared) (H : Hp) (C : Addr) (cl : List (Str × Addr)) (fp : List Addr) (x : α), DM (X.blk s H scope (compEnvC scope cl C X.env) fp) b (set x (wipeS sl (own.map (·.2)))) elx .pk (elt x) eI)
    (hw : ∀ i ∈ ws, i ∈ own.map (·.2) := by decide) (hs : ∀ x, foldedSetIterable iter X.env x = pure x := by intro _; rfl) (hgl : Gl X "sorted" := by rfl)
    (hst : starEach [.SetComp elx [⟨tg, iter, ifs, 0⟩] scope pos] X.env = (false, eval (.SetComp elx [⟨tg, iter, ifs, 0⟩] scope pos) X.env) :: starEach [] X.env := by rfl) :
    DM X b sl (.Call (.Name "sorted" px) [.SetComp elx [⟨tg, iter, ifs, 0⟩] scope pos] [] pos2) (.ow 1) (c >>= fun xs => Run.lift (lshort xs) >>= fun xs => lcM tst elt xs >>= fun ys => (pure (ssort ys) : m (List Int))) (eL eI) :=
  PE.imp (pe_callB (cr_sortedSet hc) hgl hm bo_sorted (pa_cons (pe_ns hc hN hi ok hg ht.pts (fun s H C cl fp => PE.ex (he s H C cl fp)) hs) pa_nil hst) (by decide) (by decide) hst) fun σ H Q q => ns_to hgt hw ht.ok q
end
/-! ### constants of the module: dicts from texts to plain things -/
def keyP (e : DictEntry) : Option (Str × Int) := match e.key with
  | .str x _ => some (x, e.hash)
  | _ => none
def keysS (K : PySem.W.Frag) (v : Value) : Option (List (Option (Str × Int))) := match v with
  | .ref a => match K.lookup a with
    | some o => (match o.data with
      | .dict es _ => some (es.toList.map keyP)
      | _ => none)
    | none => none
  | _ => none
def valsS (K : PySem.W.Frag) (n : Nat) (v : Value) (ds : List D) : Bool := match v with
  | .ref a => match K.lookup a with
    | some o => (isDictC o.cls && (o.dict.isNone && o.slots.isEmpty)) && (match o.data with
      | .dict es _ => all2 (fun e d => readsK K n e.val d) es.toList ds && all2 (fun e _ => noDictK K n e.val) es.toList ds
      | _ => false)
    | none => false
  | _ => false
structure readsS (K : PySem.W.Frag) (w : World) (n : Nat) (v : Value) (ps : List (Str × D)) : Prop where
  k : keysS K v = some (ps.map fun p => some (p.1, PyData.keyHash w.params p.1))
  v : valsS K n v (ps.map (·.2)) = true
  d : (ps.map (·.1)).Nodup
theorem readsS_all {P : Program} {w : World} {K : PySem.W.Frag} {n : Nat} : ∀ {es : List DictEntry} {ps : List (Str × D)}, es.map keyP = (ps.map fun p => some (p.1, PyData.keyHash w.params p.1)) →
    all2 (fun e d => readsK K n e.val d) es (ps.map (·.2)) = true → all2 (fun e _ => noDictK K n e.val) es (ps.map (·.2)) = true → ∃ kvs : List (Key × Value),
    Pairs (mixKind P w) es kvs ∧ kvs.map (·.1) = ps.map (fun p => (Sum.inr p.1 : Key)) ∧ (∀ e ∈ es, ∃ k, (mixKind P w).is k e.key = true ∧ e.hash = (mixKind P w).hash k) ∧
    ∀ k d, (ps.find? fun p => p.1 == k).map (·.2) = some d → ∃ u x, valueAt kvs (.inr k) = some u ∧ RelV x u ∧ RK K x d
  | [], [], _, _, _ => ⟨[], .nil, rfl, fun _ h => absurd h (by simp), fun k d h => by simp at h⟩
  | [], _ :: _, h, _, _ => by cases h
  | _ :: _, [], h, _, _ => by cases h
  | e :: es, p :: ps, h0, h, hn => by
    have h1 : keyP e :: es.map keyP = some (p.1, PyData.keyHash w.params p.1) :: ps.map fun p => some (p.1, PyData.keyHash w.params p.1) := h0
    injection h1 with h2 h3
    have h : all2 (fun e d => readsK K n e.val d) (e :: es) (p.2 :: ps.map (·.2)) = true := h
    have hn : all2 (fun e _ => noDictK K n e.val) (e :: es) (p.2 :: ps.map (·.2)) = true := hn
    unfold all2 at h hn
    rw [Bool.and_eq_true] at h hn
    obtain ⟨hr, h⟩ := h
    obtain ⟨hnd, hn⟩ := hn
    obtain ⟨tk, ek, eh⟩ : ∃ tk, e.key = .str p.1 tk ∧ e.hash = PyData.keyHash w.params p.1 := by
      unfold keyP at h2
      split at h2
      · rename_i x t q
        obtain ⟨h5, h6⟩ := Prod.mk.inj (Option.some.inj h2)
        exact ⟨t, by rw [q, h5], h6⟩
      · cases h2
    have hk : keyIs (.inr p.1) e.key = true := by rw [ek]; exact keyIs_str _ _
    obtain ⟨x, rx, px⟩ := readsK_ok n e.val p.2 hr
    obtain ⟨kvs, q1, q2, q3, q4⟩ := readsS_all (P := P) (w := w) h3 h hn
    refine ⟨(.inr p.1, e.val) :: kvs, .cons hk rfl q1, by simp [q2], fun e' he => ?_, fun k d hd => ?_⟩
    · rcases List.mem_cons.mp he with rfl | he
      · exact ⟨.inr p.1, hk, eh⟩
      · exact q3 e' he
    · by_cases c : p.1 = k
      · subst c
        rw [List.find?_cons_of_pos (by simp)] at hd
        cases hd
        exact ⟨e.val, x, by unfold valueAt; rw [List.find?_cons_of_pos (by simp)]; rfl, rx, e.val, n, rx, px, hr, hnd⟩
      · rw [List.find?_cons_of_neg (by simpa using c)] at hd
        obtain ⟨u, y, e1, e2, e3⟩ := q4 k d hd
        refine ⟨u, y, ?_, e2, e3⟩
        unfold valueAt at e1 ⊢
        rw [List.find?_cons_of_neg (by simp [c])]
        exact e1
theorem readsS_ok {P : Program} {w : World} {K : PySem.W.Frag} {n : Nat} {v : Value} {ps : List (Str × D)} (h : readsS K w n v ps) : ∃ a kvs, v = .ref a ∧ KD P w K a kvs ∧
    ∀ k d, (ps.find? fun p => p.1 == k).map (·.2) = some d → ∃ u x, valueAt kvs (.inr k) = some u ∧ RelV x u ∧ RK K x d := by
  obtain ⟨hk, hv, hd⟩ := h
  unfold keysS at hk
  unfold valsS at hv
  cases v with
  | ref a =>
    dsimp only at hk hv
    cases hl : K.lookup a with
    | none => rw [hl] at hv; cases hv
    | some o =>
      rw [hl] at hk hv
      dsimp only at hk hv
      rw [Bool.and_eq_true, Bool.and_eq_true, Bool.and_eq_true] at hv
      obtain ⟨⟨h1, h2, h3⟩, h4⟩ := hv
      have hc : o.cls = .type "dict" := by
        unfold isDictC at h1
        split at h1
        · rename_i t e
          rw [e]
          congr 1
          simpa using h1
        · cases h1
      cases hdt : o.data with
      | dict es ep =>
        rw [hdt] at hk h4
        dsimp only at hk h4
        rw [Bool.and_eq_true] at h4
        obtain ⟨kvs, q1, q2, q3, q4⟩ := readsS_all (P := P) (w := w) (Option.some.inj hk) h4.1 h4.2
        refine ⟨a, kvs, rfl, ⟨o, es, ep, hl, ⟨hc, by simpa using h2, by simpa using h3⟩, hdt, fun e he => q3 e (by simpa using he), q1, ?_⟩, q4⟩
        rw [q2]
        have : ps.map (fun p => (Sum.inr p.1 : Key)) = (ps.map (·.1)).map Sum.inr := by rw [List.map_map]; rfl
        rw [this]
        exact hd.map _ fun a b hab e => hab (Sum.inr.inj e)
      | _ => rw [hdt] at h4; cases h4
  | _ => cases hv
def GlobS (K : PySem.W.Frag) (mg : Str → Option Value) (w : World) (x : Str) (ps : List (Str × D)) : Prop := ∃ (u : Value) (n : Nat), mg x = some u ∧ readsS K w n u ps
def tKGetS (kvs : List (Key × Value)) (ty : TE) : TE := fun σ H Q => ty σ H fun y H2 => ∃ k u v, y = .str k ∧ valueAt kvs (.inr k) = some u ∧ RelV v u ∧ Q v H2
theorem pe_kgetS {X : Cx} {x : Str} {p pos : Pos} {i : Expr} {ty : TE} {a : Addr} {kvs : List (Key × Value)} (hg : Gl X x) (hm : X.mg x = some (.ref a)) (kd : KD X.prog X.w X.K a kvs) (hd : (x == ("__debug__" : Str)) = false) (hi : PE X i ty) (hs : NoSl i) :
    PE X (.Subscript (.Name x p) i pos) (tKGetS kvs ty) := by
  refine ⟨fun pins s σ H Q I h => ?_⟩
  obtain ⟨o, es, ep, hl, hx, he, hk, hp, hn⟩ := kd
  refine subD_of PySem.F.slot_dict_getitem.lookup hs (ld_glob I hg hm (thn (hi.run pins s σ H _ I h) fun iv s2 ⟨y, H2, I2, ry, k, u, v, ey, hu, rv, q⟩ => ?_) hd)
  subst ey
  have dd : s2.heap.DictOf (mixKind X.prog X.w) a kvs := ⟨o, es, ep, I2.kIn a o hl, hx, he, hk, hp, hn⟩
  exact ⟨dd.typeIs, wpAny_getItem_of (k := .inr k) (kV_is (k := .inr k) ry) dd.mapOf hu ⟨v, H2, I2.tok _, rv, q⟩⟩
def dgetS {α : Type} (ps : List (Str × α)) (k : Str) : Option α := (ps.find? fun p => p.1 == k).map (·.2)
theorem dgetS_enc {α : Type} {g : α → D} {ps : List (Str × α)} {k : Str} {z : α} (ez : dgetS ps k = some z) : ((ps.map fun p => (p.1, g p.2)).find? fun p => p.1 == k).map (·.2) = some (g z) := by
  unfold dgetS at ez
  rw [List.find?_map, Option.map_map]
  have : ((fun p : Str × D => p.1 == k) ∘ fun p : Str × α => (p.1, g p.2)) = fun p => p.1 == k := rfl
  rw [this]
  cases e1 : ps.find? (fun p => p.1 == k) with
  | none => rw [e1] at ez; cases ez
  | some r => rw [e1] at ez; cases ez; rfl
section
variable {m : Type → Type} [Run m] {α : Type} {X : Cx} {b : Bs} {sl : Sls} {e2 : Expr} {ck : m Str} {g : α → D} {x : Str} {p pos : Pos}
theorem dm_kgetS {ps : List (Str × α)} (G : GlobS X.K X.mg X.w x (ps.map fun p => (p.1, g p.2))) (hk : DA X b sl e2 .pk ck eS) (hs : NoSl e2) (hg : Gl X x := by rfl) (hd : (x == ("__debug__" : Str)) = false := by decide) :
    DM X b sl (.Subscript (.Name x p) e2 pos) (.ow 0) (ck >>= fun k => Run.lift (dgetS ps k)) g := by
  obtain ⟨u, n, hm, hr⟩ := G
  obtain ⟨a, kvs, rfl, kd, hv⟩ := readsS_ok (P := X.prog) (w := X.w) hr
  refine PE.imp (pe_kgetS hg hm kd hd hk hs) fun σ H Q ⟨F, R, q⟩ => ⟨F, R, rmono (rbind q) fun k q v F2 H2 S2 r2 => ?_⟩
  obtain ⟨z, ez, q⟩ := rlift q
  cases r2
  obtain ⟨u, y, e1, e2, e3⟩ := hv k (g z) (dgetS_enc ez)
  exact ⟨k, u, y, rfl, e1, e2, Post.fr S2 q (e3.rp F2)⟩
end
end DL
namespace DL
open PySem PySem.Spec PyProof.Rows L2
/-! ### plain programs that cannot fail -/
section
variable {α β γ S R : Type}
theorem ol (o : Option α) : (Run.lift o : Option α) = o := Eq.trans (Eq.refl _) (Eq.refl _)
theorem ob (a : α) (f : α → Option β) : ((some a : Option α) >>= f) = f a := Eq.trans (Eq.refl _) (Eq.refl _)
theorem op (a : α) : (pure a : Option α) = some a := Eq.trans (Eq.refl _) (Eq.refl _)
theorem wpb (x : W α) (f : α → W β) (Q : β → Prop) : (x >>= f).wp Q = x.wp (fun a => (f a).wp Q) := Eq.trans (Eq.refl _) (Eq.refl _)
theorem wpp (a : α) (Q : α → Prop) : (pure a : W α).wp Q = Q a := Eq.trans (Eq.refl _) (Eq.refl _)
theorem lcM_fm {t : α → Option Bool} {e : α → Option β} {p : α → Bool} {f : α → β} : ∀ {xs : List α}, (∀ x ∈ xs, t x = some (p x)) → (∀ x ∈ xs, p x = true → e x = some (f x)) → lcM t e xs = some ((xs.filter p).map f)
  | [], _, _ => rfl
  | x :: xs, h, k => by
    show (t x >>= fun b => if b then e x >>= fun y => lcM t e xs >>= fun ys => pure (y :: ys) else lcM t e xs) = _
    rw [h x (by simp), lcM_fm (fun y hy => h y (by simp [hy])) (fun y hy => k y (by simp [hy]))]
    show (if p x = true then _ else _) = _
    cases hp : p x with
    | false => simp [hp]
    | true =>
      rw [k x (by simp) hp]
      simp only [List.filter_cons, hp, if_true]
      rfl
theorem lcM_m {t : α → Option Bool} {e : α → Option β} {f : α → β} {xs : List α} (h : ∀ x ∈ xs, t x = some true) (k : ∀ x ∈ xs, e x = some (f x)) : lcM t e xs = some (xs.map f) := by
  have := lcM_fm (t := t) (e := e) (p := fun _ => true) (f := f) h (fun x hx _ => k x hx)
  rw [this]
  congr 2
  exact List.filter_eq_self.mpr fun _ _ => rfl
theorem lcM_f {t : α → Option Bool} {e : α → Option α} {p : α → Bool} {xs : List α} (h : ∀ x ∈ xs, t x = some (p x)) (k : ∀ x ∈ xs, e x = some x) : lcM t e xs = some (xs.filter p) := by
  have := lcM_fm (t := t) (e := e) (p := p) (f := fun x => x) h (fun x hx _ => k x hx)
  rw [this, List.map_id']
theorem forS_some {f : S → α → Option S} {g : S → α → S} : ∀ {xs : List α} {s : S}, (∀ s, ∀ x ∈ xs, f s x = some (g s x)) → forS f s xs = some (xs.foldl g s)
  | [], s, _ => rfl
  | x :: xs, s, h => by
    show (f s x >>= fun s' => forS f s' xs) = _
    rw [h s x (by simp)]
    exact forS_some fun s y hy => h s y (by simp [hy])
theorem forS_inv {f : S → α → Option S} {P : S → Prop} : ∀ {xs : List α} {s : S}, P s → (∀ s, ∀ x ∈ xs, P s → ∃ s', f s x = some s' ∧ P s') → ∃ s', forS f s xs = some s' ∧ P s'
  | [], s, h, _ => ⟨s, rfl, h⟩
  | x :: xs, s, h, k => by
    obtain ⟨s1, e, p⟩ := k s x (by simp) h
    obtain ⟨s2, e2, p2⟩ := forS_inv (xs := xs) p fun s y hy => k s y (List.mem_cons_of_mem _ hy)
    refine ⟨s2, ?_, p2⟩
    show (f s x >>= fun s' => forS f s' xs) = _
    rw [e]
    exact e2
/-- a loop that never leaves -/
theorem forC_nx {f : Unit → α → Option (Ct Unit R)} : ∀ {xs : List α}, (∀ x ∈ xs, f () x = some (.nx ())) → forC f () xs = some (.nx ())
  | [], _ => rfl
  | x :: xs, h => by
    unfold forC
    rw [h x (by simp)]
    exact forC_nx fun y hy => h y (by simp [hy])
/-! draws aside -/
theorem W.ext' {x y : W α} (h : ∀ Q, x.wp Q = y.wp Q) : x = y := by
  cases x; cases y
  congr
  exact funext h
theorem up_bind (o : Option α) (f : α → Option β) : ((Run.lift o : W α) >>= fun a => (Run.lift (f a) : W β)) = (Run.lift (o >>= f) : W β) := W.ext' fun Q => by
  cases o with
  | none =>
    apply propext
    constructor
    · rintro ⟨a, e, _⟩; cases e
    · rintro ⟨a, e, _⟩; cases e
  | some a => exact wp_some a _
theorem up_pure (a : α) : (pure a : W α) = (Run.lift (some a) : W α) := W.ext' fun Q => (wp_some a Q).symm
theorem lcM_up {t : α → Option Bool} {e : α → Option β} : ∀ xs : List α, lcM (fun x => (Run.lift (t x) : W Bool)) (fun x => (Run.lift (e x) : W β)) xs = (Run.lift (lcM t e xs) : W (List β))
  | [] => up_pure _
  | x :: xs => by
    show ((Run.lift (t x) : W Bool) >>= fun b => if b then (Run.lift (e x) : W β) >>= fun y => lcM (fun x => (Run.lift (t x) : W Bool)) (fun x => (Run.lift (e x) : W β)) xs >>= fun ys => pure (y :: ys) else lcM (fun x => (Run.lift (t x) : W Bool)) (fun x => (Run.lift (e x) : W β)) xs) = (Run.lift (t x >>= fun b => if b then e x >>= fun y => lcM t e xs >>= fun ys => pure (y :: ys) else lcM t e xs) : W (List β))
    rw [← up_bind]
    congr 1
    funext b
    cases b with
    | false => exact lcM_up xs
    | true =>
      show ((Run.lift (e x) : W β) >>= fun y => lcM (fun x => (Run.lift (t x) : W Bool)) (fun x => (Run.lift (e x) : W β)) xs >>= fun ys => pure (y :: ys)) = (Run.lift (e x >>= fun y => lcM t e xs >>= fun ys => pure (y :: ys)) : W (List β))
      rw [← up_bind]
      congr 1
      funext y
      rw [lcM_up xs, ← up_bind]
      congr 1
      funext ys
      exact up_pure _
theorem lcM_upT {e : α → Option β} (xs : List α) : lcM (fun _ => (pure true : W Bool)) (fun x => (Run.lift (e x) : W β)) xs = (Run.lift (lcM (fun _ => some true) e xs) : W (List β)) := by
  rw [← lcM_up]
  congr 1
  funext x
  exact up_pure _
theorem lcM_upP {p : α → Bool} {e : α → Option β} (xs : List α) : lcM (fun x => (pure (p x) : W Bool)) (fun x => (Run.lift (e x) : W β)) xs = (Run.lift (lcM (fun x => some (p x)) e xs) : W (List β)) := by
  rw [← lcM_up]
  congr 1
  funext x
  exact up_pure _
theorem lcM_upE {t : α → Option Bool} {f : α → β} (xs : List α) : lcM (fun x => (Run.lift (t x) : W Bool)) (fun x => (pure (f x) : W β)) xs = (Run.lift (lcM t (fun x => some (f x)) xs) : W (List β)) := by
  rw [← lcM_up]
  congr 1
  funext x
  exact up_pure _
end
/-! ### sets as numbers -/
def numN (xs : List Int) : Nat := (xs.map fun p => 2 ^ p.toNat).sum
def setN (n : Nat) : List Int := (rng 0 24).filter fun p => n.testBit p.toNat
/-- ascending places -/
structure Pl (xs : List Int) : Prop where
  asc : xs.Pairwise (· < ·)
  bd : ∀ p ∈ xs, 0 ≤ p ∧ p < 24
theorem Pl.nil : Pl [] := ⟨.nil, fun _ h => nomatch h⟩
theorem Pl.nodup {xs : List Int} (h : Pl xs) : xs.Nodup := h.asc.imp fun {a b} hab => by omega
theorem Pl.tail {x : Int} {xs : List Int} (h : Pl (x :: xs)) : Pl xs := ⟨(List.pairwise_cons.mp h.asc).2, fun p hp => h.bd p (by simp [hp])⟩
theorem Pl.sublist {xs ys : List Int} (h : Pl xs) (s : ys.Sublist xs) : Pl ys := ⟨h.asc.sublist s, fun p hp => h.bd p (s.subset hp)⟩
theorem rng24_pw : (rng 0 24).Pairwise (· < ·) := asc_pw (by decide)
theorem setN_pl (n : Nat) : Pl (setN n) := ⟨rng24_pw.sublist List.filter_sublist, fun p hp => rng_mem.mp ((List.mem_filter.mp hp).1)⟩
theorem mem_setN {n : Nat} {p : Int} : p ∈ setN n ↔ (0 ≤ p ∧ p < 24) ∧ n.testBit p.toNat = true := by
  unfold setN
  rw [List.mem_filter, rng_mem]
/-- ascending lists with the same things are the same -/
theorem asc_ext : ∀ {xs ys : List Int}, xs.Pairwise (· < ·) → ys.Pairwise (· < ·) → (∀ p, p ∈ xs ↔ p ∈ ys) → xs = ys
  | [], [], _, _, _ => rfl
  | [], y :: ys, _, _, h => absurd ((h y).mpr (by simp)) (by simp)
  | x :: xs, [], _, _, h => absurd ((h x).mp (by simp)) (by simp)
  | x :: xs, y :: ys, hx, hy, h => by
    have hx' := List.pairwise_cons.mp hx
    have hy' := List.pairwise_cons.mp hy
    have e : x = y := by
      have h1 := (h x).mp (by simp)
      have h2 := (h y).mpr (by simp)
      rcases List.mem_cons.mp h1 with h1 | h1
      · exact h1
      · rcases List.mem_cons.mp h2 with h2 | h2
        · exact h2.symm
        · have := hy'.1 x h1
          have := hx'.1 y h2
          omega
    subst e
    congr 1
    refine asc_ext hx'.2 hy'.2 fun p => ?_
    constructor
    · intro hp
      rcases List.mem_cons.mp ((h p).mp (by simp [hp])) with e | e
      · have := hx'.1 p hp; omega
      · exact e
    · intro hp
      rcases List.mem_cons.mp ((h p).mpr (by simp [hp])) with e | e
      · have := hy'.1 p hp; omega
      · exact e
/-- ascending lists of numbers not below 0, by figures -/
theorem num_high : ∀ {xs : List Int} {k : Nat}, (∀ p ∈ xs, (k : Int) ≤ p) → ∃ m, numN xs = 2 ^ k * m
  | [], k, _ => ⟨0, rfl⟩
  | x :: xs, k, h => by
    obtain ⟨m, e⟩ := num_high (xs := xs) (k := k) fun p hp => h p (by simp [hp])
    have hx := h x (by simp)
    refine ⟨2 ^ (x.toNat - k) + m, ?_⟩
    show 2 ^ x.toNat + numN xs = _
    rw [e, Nat.mul_add, ← Nat.pow_add]
    congr 2
    omega
theorem num_bit : ∀ {xs : List Int}, xs.Pairwise (· < ·) → (∀ p ∈ xs, 0 ≤ p) → ∀ j : Nat, (numN xs).testBit j = decide ((j : Int) ∈ xs)
  | [], _, _, j => by simp [numN]
  | x :: xs, h, hb, j => by
    have h' := List.pairwise_cons.mp h
    have ih := num_bit h'.2 (fun p hp => hb p (by simp [hp])) j
    obtain ⟨n, rfl⟩ : ∃ n : Nat, x = n := ⟨x.toNat, by have := hb x (by simp); omega⟩
    obtain ⟨m, e⟩ := num_high (xs := xs) (k := n + 1) fun p hp => by have := h'.1 p hp; omega
    show (2 ^ (n : Int).toNat + numN xs).testBit j = _
    rw [e] at ih ⊢
    rw [Int.toNat_natCast, Nat.add_comm, Nat.testBit_two_pow_mul_add _ (Nat.pow_lt_pow_right (by decide) (by omega))]
    rw [Nat.testBit_two_pow_mul] at ih
    by_cases hj : j < n + 1
    · rw [if_pos hj, Nat.testBit_two_pow]
      have h0 : ¬ (j ≥ n + 1) := by omega
      have h1 : (j : Int) ∉ xs := fun hm => by have := h'.1 _ hm; omega
      by_cases hn : n = j
      · subst hn; simp
      · rw [decide_eq_false hn, decide_eq_false]
        intro hm
        rcases List.mem_cons.mp hm with hm | hm
        · omega
        · exact h1 hm
    · rw [if_neg hj]
      have h0 : j ≥ n + 1 := by omega
      rw [decide_eq_true h0, Bool.true_and] at ih
      rw [ih]
      congr 1
      apply propext
      constructor
      · intro hm; simp [hm]
      · intro hm
        rcases List.mem_cons.mp hm with hm | hm
        · omega
        · exact hm
theorem Pl.bit {xs : List Int} (h : Pl xs) (j : Nat) : (numN xs).testBit j = decide ((j : Int) ∈ xs) := num_bit h.asc (fun p hp => (h.bd p hp).1) j
theorem Pl.lt {xs : List Int} (h : Pl xs) : numN xs < 2 ^ 24 := Nat.lt_pow_two_of_testBit _ fun i hi => by
  rw [h.bit]
  exact decide_eq_false fun hm => by have := h.bd _ hm; omega
theorem set_num {xs : List Int} (h : Pl xs) : setN (numN xs) = xs := asc_ext (setN_pl _).asc h.asc fun p => by
  rw [mem_setN, h.bit]
  constructor
  · rintro ⟨⟨h0, _⟩, h2⟩
    have := of_decide_eq_true h2
    rwa [show ((p.toNat : Nat) : Int) = p by omega] at this
  · intro hp
    have := h.bd p hp
    exact ⟨this, decide_eq_true (by rwa [show ((p.toNat : Nat) : Int) = p by omega])⟩
theorem num_set {n : Nat} (h : n < 2 ^ 24) : numN (setN n) = n := Nat.eq_of_testBit_eq fun j => by
  rw [(setN_pl n).bit]
  by_cases hj : j < 24
  · cases hb : n.testBit j with
    | true => exact decide_eq_true (mem_setN.mpr ⟨by omega, hb⟩)
    | false =>
      refine decide_eq_false fun hm => ?_
      have := (mem_setN.mp hm).2
      rw [Int.toNat_natCast, hb] at this
      cases this
  · rw [decide_eq_false fun hm => by have := (mem_setN.mp hm).1; omega]
    exact (Nat.testBit_lt_two_pow (Nat.lt_of_lt_of_le h (Nat.pow_le_pow_right (by decide) (by omega)))).symm
theorem band (n m : Nat) : Builtin.bitAnd (n : Int) (m : Int) = ((n &&& m : Nat) : Int) := rfl
theorem xor_and2 (n : Nat) : ∀ m : Nat, (n ^^^ m) + 2 * (n &&& m) = n + m := by
  induction n using Nat.strongRecOn with
  | ind n ih =>
    intro m
    by_cases hn : n = 0
    · subst hn; simp
    · have h := ih (n / 2) (by omega) (m / 2)
      have e1 : (n ^^^ m) / 2 = n / 2 ^^^ m / 2 := Nat.xor_div_two
      have e2 : (n &&& m) / 2 = n / 2 &&& m / 2 := Nat.and_div_two
      have e3 : (n ^^^ m) % 2 = (n + m) % 2 := by
        have h1 := @Nat.xor_mod_two_eq_one n m
        generalize (n ^^^ m) = x at h1 ⊢
        rcases Nat.mod_two_eq_zero_or_one n with z | z <;> rcases Nat.mod_two_eq_zero_or_one m with y | y <;> rcases Nat.mod_two_eq_zero_or_one x with w | w <;> simp [z, y, w] at h1 <;> omega
      have e4 : (n &&& m) % 2 = if n % 2 = 1 ∧ m % 2 = 1 then 1 else 0 := by
        have := @Nat.and_mod_two_eq_one n m
        split
        · rename_i hh; exact this.mpr hh
        · rename_i hh
          have : ¬ (n &&& m) % 2 = 1 := fun z => hh (this.mp z)
          omega
      split at e4 <;> omega
theorem bxor (n m : Nat) : Builtin.bitXor (n : Int) (m : Int) = ((n ^^^ m : Nat) : Int) := by
  rw [bitXor_and, band]
  have := xor_and2 n m
  omega
/-- a number has all of some places -/
theorem has_num {n : Nat} {xs : List Int} (h : Pl xs) : (n &&& numN xs == numN xs) = xs.all fun p => n.testBit p.toNat := by
  rw [Bool.eq_iff_iff, beq_iff_eq, List.all_eq_true]
  constructor
  · intro e p hp
    have := congrArg (fun z => z.testBit p.toNat) e
    have hp' := h.bd p hp
    have hb : (numN xs).testBit p.toNat = true := by rw [h.bit]; exact decide_eq_true (by rwa [show ((p.toNat : Nat) : Int) = p by omega])
    simpa [Nat.testBit_and, hb] using this
  · intro k
    refine Nat.eq_of_testBit_eq fun j => ?_
    rw [Nat.testBit_and]
    cases hb : (numN xs).testBit j with
    | false => simp
    | true =>
      rw [h.bit] at hb
      have := k _ (of_decide_eq_true hb)
      rw [Int.toNat_natCast] at this
      simp [this]
end DL
namespace DL
open PySem PySem.Spec PyProof.Rows L2
/-! ### the told sets -/
@[irreducible] def BL : List Nat := [8047777, 7706947, 7025287, 5661967, 2935327, 5870654, 3352701, 6705402, 5022197, 1655787, 3311574, 16777215]
@[irreducible] def PL : List Nat := [11415553, 14442498, 1503236, 3006472, 6012944, 10072096, 11755584, 15122560, 6533376, 15290880, 8164352, 14096384]
@[irreducible] def E8 : List Nat := [3277418, 25521, 6554836, 4745752, 42195, 1020544, 51042, 6594567, 1128772, 4721065, 3327240, 1102897, 6953104, 76311, 1095552, 924740, 84390, 3006472, 1077474, 2041088, 102084, 4800527, 2257544, 2232633, 1053523, 6654480, 6882584, 5526160, 3167812, 2205794, 5517601, 1288712, 852428, 152622, 4524133, 3182886, 2191104, 1849480, 168780, 6012944, 2165937, 2154948, 4082176, 4490913, 204168, 804970, 1212447, 2130549, 4515088, 7741464, 2114839, 4465266, 2107046, 4920353, 3266688, 4473283, 823048, 1189068, 5376561, 2672272, 6293595, 1413400, 265359, 5030468, 2663713, 5400960, 6335624, 1728553, 4411588, 4982054, 2646595, 2621938, 2577424, 1704856, 305244, 345385, 659659, 6365772, 5447718, 4382208, 3674785, 3698960, 337560, 2705492, 701464, 7346952, 361035, 3637281, 5065856, 4331874, 4309896, 8164352, 415905, 593219, 408336, 1609940, 4300857, 633232, 1507924, 2424894, 5132552, 4261098, 641569, 7538304, 1586183, 7094321, 1477776, 534356, 4229678, 5338120, 7086976, 541925, 7505988, 463111, 4214092, 2370089, 1452099, 6533376, 557959, 1646096, 581686, 2378136, 1447433, 4223750, 2364515, 5344544, 2834817, 4198583, 2826800, 1646682, 2404528, 530718, 1672329, 6506536, 4240484, 5327426, 2413313, 4282641, 3457106, 442936, 434569, 1575501, 5293190, 2754599, 4274848, 602889, 6422926, 5243876, 5154848, 3433601, 5267541, 3409712, 610488, 394586, 690770, 1319318, 4342937, 3704888, 2506829, 4335400, 375809, 7349570, 1327655, 4382794, 7397920, 667265, 6364166, 1344837, 675120, 7373201, 334034, 5410984, 2645001, 6329026, 1379201, 761925, 1402928, 300566, 6305297, 282996, 722070, 6095400, 7274562, 1743105, 6313376, 275141, 4463672, 231185, 7940097, 255136, 831810, 1186438, 2103532, 816672, 205762, 1935366, 6820165, 3219880, 3228185, 791953, 213107, 1836738, 1266464, 175366, 2183498, 3015848, 5556233, 4849788, 1257617, 7864854, 1876497, 133589, 1283138, 6688001, 1884576, 158308, 3172366, 2201128, 5800035, 2247874, 2955552, 1068712, 6980105, 110734, 1060121, 4605974, 70749, 2287633, 5776560, 3940452, 5785345, 2263968, 1083850, 6623369, 926222, 39577, 4653488, 4740178, 2904198, 2295140, 4678145, 63784, 1115918, 2343430, 3292192, 4780161, 15946, 1163372, 985113, 4756272, 2894866, 34236, 6586728, 1120299, 58893, 4729030, 2300481, 5669634, 6571530, 8559, 3285765, 5653600, 2918593, 5837186, 3293364, 4754453, 17118, 1069453, 2950661, 4600962, 4809056, 2240598, 4784849, 117786, 1061436, 3344658, 4624465, 68472, 92361, 2266245, 5789732, 4826626, 4532490, 3190857, 176675, 6914212, 1264645, 184722, 885872, 869138, 136944, 3151002, 2197773, 5509198, 860323, 161089, 6689316, 1205778, 235572, 4457245, 2122872, 4481196, 2099145, 1921089, 6867202, 1181091, 2146475, 5901322, 6819424, 1229505, 813317, 1220976, 789172, 2138906, 322178, 1381540, 1720646, 2638636, 4990025, 2629789, 4395546, 297267, 7409776, 5013658, 282193, 6302004, 751618, 273888, 6310533, 1738276, 2655310, 376981, 6407233, 1771744, 1334530, 369444, 4339725, 2689674, 1350240, 6357795, 353350, 668068, 5439817, 2529290, 6381714, 676373, 4277812, 2433361, 5290002, 4269445, 2441952, 2758402, 1578344, 1523850, 2805856, 5250241, 2459010, 1626634, 601132, 4292950, 3414037, 5345797, 2362182, 4221987, 3842178, 565992, 1444140, 573785, 4198290, 525883, 3802193, 4245744, 6160517, 2411556, 3486210, 4238145, 550282, 471144, 5310620, 538737, 462370, 547776, 1503236, 4232459, 3476552, 7491587, 564386, 510272, 1663620, 2372876, 4215401, 4207064, 1638709, 1633344, 6430945, 594534, 411524, 3870732, 5251723, 5259578, 6439760, 402485, 5277272, 6456370, 1591443, 1583906, 426214, 644356, 3441292, 2763080, 3673476, 4374821, 2532928, 1352746, 350732, 4366996, 6031696, 2723859, 1310969, 5058580, 2491027, 4326983, 2700480, 2515234, 1336136, 7341101, 706700, 290843, 5379348, 2669060, 3752994, 4425859, 3543488, 267178, 738888, 2566276, 4987395, 3769152, 753962, 316616, 6344732, 4402256, 6828074, 197293, 3211463, 4495748, 5911104, 2137424, 5571603, 221468, 3253268, 2120242, 1202264, 823341, 4918020, 5611712, 2111875, 3047700, 3156688, 141498, 150283, 5516804, 4575266, 3164513, 4883904, 7880904, 167017, 2191397, 3182083, 4866722, 4527936, 2167700, 4858131, 1852444, 79154, 942288, 1100564, 3932427, 4823112, 87683, 918369, 1091749, 6972420, 5808396, 4590280, 967683, 7604386, 102881, 127568, 1051766, 2231836, 4686860, 6584384, 1171715, 7973, 1147570, 31892, 2326744, 1131984, 1970226, 2888280, 4724364, 2302987, 1123937, 55367, 7684356, 14442498, 9045261, 12107781, 12717220, 9701914, 10881136, 12812896, 15826954, 8657225, 11015220, 12797186, 13373664, 9773069, 8933667, 8848577, 14876693, 8925842, 8888338, 8951361, 12605578, 9995538, 8984709, 14821890, 13641832, 8817157, 9970113, 12652844, 11157530, 9978480, 10657836, 9478726, 9308546, 8477792, 9438869, 12976171, 9463076, 8493826, 15991361, 9537617, 14946578, 8394182, 9388068, 8442532, 9514114, 8433941, 8587342, 10548226, 11602468, 9580810, 10498912, 12866565, 10506449, 9245706, 8536552, 11551618, 11542579, 8528473, 13926452, 8554122, 11568352, 13256769, 12927064, 10568844, 10228484, 8566976, 9666948, 9251392, 8526867, 10489130, 9217156, 9572160, 15245392, 9175127, 10537544, 8599044, 15205507, 9619490, 9507528, 11289920, 10686626, 13115941, 13123988, 8407101, 8399756, 10387528, 11305506, 13174834, 8496456, 10639620, 9477132, 8479274, 11755584, 8454555, 13685056, 10831875, 9011740, 8786076, 13637154, 12707844, 14816328, 12584305, 10773012, 12609216, 10748325, 8955915, 12624290, 15468556, 8916184, 12632595, 10102804, 8684496, 14714628, 8708193, 14696550, 8660739, 13779468, 8668338, 9113936, 15741060, 10158595, 11075689, 9712720, 8719636, 14748096, 9736323, 9717956, 9102080, 9076913, 15748112, 8720945, 12749080, 12068360, 8745344, 9053282, 10945288, 9765218, 10114176, 14719009, 11047304, 8665126, 9815552, 12589652, 10045704, 10755712, 8941644, 13713569, 11242496, 13706000, 9961646, 11839744, 12660803, 11141828, 13501968, 12686480, 8809480, 13633799, 10850372, 10626448, 14191232, 10634785, 12984644, 9454667, 10649923, 14096384, 9470761, 9494680, 13122816, 8425594, 11702800, 8410904, 12386448, 14222404, 8402089, 9572453, 13312136, 10490383, 9230352, 8604304, 8595745, 12890632, 10565656, 8569940, 15122560, 10226721, 8544391, 15290880, 13895048, 11534684, 8520502, 10592897, 13275142, 10600752, 9634872, 10552914, 11415553, 12911238, 9183544, 10520726, 11605249, 12880962, 9192073, 12864288, 10497093, 8638473, 12855441, 8415570, 8391395, 13157416, 11667593, 8441217, 16384288, 13108042, 9523222, 8433200, 8471365, 15016992, 14159897, 8462580, 9443760, 8487975, 9468417, 9004049, 11817000, 8980384, 8802882, 12652041, 8820000, 9027778, 12615885, 8932870, 10072096, 10781721, 9847057, 12592158, 10756298, 8948068, 9839264, 8652396, 14704905, 11928582, 13762770, 14680760, 11012881, 8700174, 11036832, 13804545, 9050664, 13467905, 12064834, 8751272, 12718977, 11084038, 12742704]
@[irreducible] def E8P : List Nat := [11415553, 14442498, 7491587, 1503236, 12107781, 13275142, 6594567, 3006472, 8638473, 15826954, 3870732, 9773069, 4800527, 6012944, 8888338, 2723859, 5058580, 14876693, 9523222, 7741464, 14159897, 11157530, 290843, 6344732, 1212447, 10072096, 3637281, 4575266, 9388068, 2191397, 5447718, 11817000, 1728553, 6828074, 12976171, 10657836, 823341, 12742704, 7094321, 1970226, 11542579, 13926452, 581686, 4300857, 2424894, 11755584, 1921089, 7274562, 12660803, 10850372, 761925, 10387528, 3190857, 4382794, 8941644, 2506829, 5509198, 15245392, 4624465, 3457106, 5267541, 2240598, 9175127, 12927064, 1646682, 2805856, 8708193, 5800035, 3940452, 9572453, 14696550, 471144, 11075689, 1163372, 7409776, 213107, 8425594, 4849788, 15122560, 4780161, 3842178, 9736323, 15741060, 6160517, 2904198, 8544391, 13312136, 6623369, 1523850, 110734, 12386448, 1257617, 6381714, 376981, 9494680, 5013658, 8786076, 2629789, 13713569, 10686626, 860323, 6914212, 5410984, 2146475, 4481196, 9961646, 2404528, 9076913, 3293364, 4198583, 610488, 5611712, 9027778, 4411588, 3211463, 7880904, 10756298, 659659, 12615885, 942288, 10506449, 13762770, 1609940, 2326744, 13373664, 6430945, 1077474, 426214, 8462580, 1310969, 6533376, 13467905, 1171715, 7684356, 11084038, 463111, 5132552, 14704905, 9580810, 3932427, 5808396, 8700174, 3698960, 9847057, 14946578, 4858131, 3047700, 8433941, 1413400, 221468, 16384288, 5517601, 2515234, 8933667, 4374821, 3182886, 753962, 12652844, 10600752, 1638709, 9183544, 2232633, 5259578, 13685056, 831810, 10649923, 12984644, 6820165, 1720646, 5439817, 2183498, 9113936, 2433361, 4292950, 573785, 11534684, 4809056, 9765218, 6586728, 8559, 1220976, 282996, 8745344, 2834817, 5837186, 9666948, 11047304, 434569, 1069453, 6422926, 7373201, 184722, 13123988, 1319318, 8454555, 1884576, 12624290, 668068, 10748325, 3219880, 4653488, 3543488, 9970113, 4473283, 2154948, 852428, 4207064, 102881, 8536552, 2621938, 15290880, 4678145, 3486210, 10158595, 5345797, 2343430, 12890632, 6980105, 1626634, 13779468, 926222, 10490383, 11702800, 1876497, 12632595, 10773012, 676373, 7864854, 3228185, 4395546, 9011740, 7397920, 11305506, 176675, 6689316, 13115941, 1327655, 6095400, 8479274, 2826800, 8720945, 442936, 1061436, 5911104, 15991361, 8802882, 2646595, 5030468, 9478726, 361035, 6365772, 127568, 1507924, 2888280, 8528473, 12812896, 594534, 4215401, 3277418, 9978480, 4465266, 2130549, 1020544, 10592897, 1663620, 12911238, 2257544, 9192073, 5251723, 3441292, 5526160, 8925842, 2491027, 4366996, 9839264, 3674785, 4866722, 8442532, 197293, 1147570, 14680760, 1229505, 6329026, 11141828, 275141, 9507528, 4784849, 17118, 2441952, 565992, 9102080, 2413313, 5669634, 10228484, 3285765, 4223750, 10945288, 602889, 13706000, 869138, 2138906, 4457245, 1266464, 6357795, 369444, 9470761, 2638636, 4756272, 8520502, 3769152, 8471365, 1336136, 13108042, 168780, 6439760, 1053523, 10498912, 918369, 7086976, 12718977, 11551618, 557959, 4309896, 2167700, 1704856, 267178, 25521, 205762, 8684496, 5243876, 8164352, 13804545, 10548226, 967683, 6972420, 12866565, 11928582, 1586183, 5338120, 9245706, 2302987, 4686860, 2577424, 9004049, 5571603, 3253268, 701464, 10781721, 1852444, 12592158, 15016992, 4920353, 3752994, 8487975, 13157416, 1352746, 7341101, 152622, 1102897, 6456370, 11015220, 402485, 9634872, 6407233, 1283138, 14222404, 353350, 14816328, 4990025, 9454667, 2655310, 9712720, 3802193, 4740178, 8569940, 70749, 5653600, 9053282, 2364515, 4240484, 885872, 2122872, 10114176, 3433601, 4600962, 15205507, 9217156, 2266245, 5293190, 1672329, 10568844, 12686480, 722070, 4342937, 3151002, 255136, 1381540, 3015848, 8402089, 5776560, 8668338, 2700480, 8848577, 316616, 1189068, 42195, 6554836, 11568352, 541925, 4261098, 2041088, 11605249, 12797186, 644356, 3327240, 4232459, 2372876, 9045261, 4515088, 9995538, 5379348, 2114839, 6882584, 8820000, 2663713, 9463076, 4982054, 345385, 79154, 11289920, 161089, 7349570, 1344837, 8496456, 394586, 2295140, 1578344, 12584305, 2459010, 4269445, 13895048, 550282, 10626448, 791953, 6313376, 1181091, 34236, 4883904, 8394182, 1131984, 9815552, 4826626, 8599044, 2950661, 12068360, 1447433, 6571530, 58893, 13501968, 6305297, 1205778, 300566, 816672, 10634785, 13637154, 1738276, 2201128, 4277812, 525883, 2532928, 8951361, 3167812, 4326983, 738888, 10552914, 5277272, 1123937, 8652396, 7538304, 87683, 8554122, 4724364, 2672272, 9438869, 337560, 4490913, 2107046, 12609216, 1836738, 136944, 5785345, 2758402, 8660739, 14714628, 1115918, 231185, 8410904, 4335400, 3409712, 4527936, 534356, 51042, 1095552, 411524, 8980384, 2099145, 14096384, 7940097, 751618, 10831875, 12707844, 1935366, 5556233, 2529290, 8955915, 15468556, 4339725, 3172366, 9230352, 2287633, 5290002, 10102804, 3414037, 4605974, 10565656, 985113, 5154848, 14719009, 9619490, 5789732, 8665126, 2754599, 6506536, 1120299, 1402928, 13174834, 235572, 3704888, 8407101, 6584384, 13256769, 12064834, 1452099, 7505988, 55367, 4823112, 8587342, 9537617, 2705492, 1202264, 6293595, 305244, 2205794, 4524133, 13641832, 804970, 10881136, 538737, 3266688, 4425859, 2566276, 8984709, 1849480, 11667593, 12605578, 706700, 6953104, 12855441, 1591443, 10520726, 5310620, 11036832, 415905, 7604386, 1091749, 8751272, 141498, 8566976, 2918593, 9717956, 4729030, 92361, 334034, 1771744, 2103532, 4245744, 11839744, 1743105, 6867202, 10639620, 813317, 13633799, 10045704, 4532490, 2197773, 4282641, 3344658, 12749080, 530718, 2955552, 8595745, 63784, 1444140, 297267, 6302004, 510272, 1128772, 2763080, 8657225, 6031696, 8415570, 3164513, 4331874, 8948068, 5400960, 9308546, 2111875, 4495748, 633232, 2378136, 84390, 4721065, 9443760, 14748096, 1083850, 133589, 4082176, 9468417, 14821890, 4987395, 2669060, 8817157, 1288712, 350732, 6654480, 76311, 4745752, 9701914, 641569, 11602468, 9050664, 2370089, 4229678, 5376561, 2120242, 9251392, 2300481, 5327426, 10537544, 1575501, 690770, 12589652, 1350240, 158308, 14191232, 322178, 6310533, 1186438, 2689674, 8604304, 39577, 4274848, 789172, 4590280, 3156688, 8391395, 8493826, 4918020, 7346952, 150283, 408336, 11012881, 1100564, 12864288, 1583906, 4238145, 2362182, 68472, 1379201, 8399756, 2263968, 547776, 11242496, 375809, 1264645, 6364166, 8809480, 2645001, 5901322, 9477132, 15748112, 2894866, 8526867, 4754453, 117786, 3292192, 10226721, 4221987, 2411556, 601132, 4463672, 1633344, 12880962, 924740, 10497093, 3476552, 4402256, 8477792, 167017, 1051766, 5065856, 9514114, 6335624, 265359, 1477776, 31892, 564386, 12717220, 2165937, 5250241, 2247874, 8916184, 13122816, 6688001, 1334530, 175366, 8719636, 1060121, 5344544, 10489130, 675120, 593219, 4214092, 2137424, 8441217, 3673476, 204168, 273888, 4382208, 3182083, 5516804, 8932870, 12652041, 1646096, 2231836, 462370, 8433200, 15946, 282193, 6819424, 10755712, 667265, 1068712, 102084, 2191104, 823048, 7973, 9572160, 4198290]
def dbl (row : List Nat) (x : Nat) : List Nat := row ++ row.map (fun y => Nat.xor y x)
/-- all told sets, as the laws make them, as the program makes them -/
@[irreducible] def TN : List Nat := BL.foldl dbl [0]
@[irreducible] def TQ : List Nat := PL.foldl dbl [0]
def pop : Nat → Nat → Nat
  | 0, _ => 0
  | k + 1, n => n % 2 + pop k (n / 2)
theorem pop_len : ∀ (k n : Nat), pop k n = ((List.range k).filter fun j => n.testBit j).length
  | 0, _ => rfl
  | k + 1, n => by
    rw [pop, pop_len k (n / 2), List.range_succ_eq_map, List.filter_cons]
    have e : ((List.range k).map Nat.succ).filter (fun j => n.testBit j) = ((List.range k).filter fun j => (n / 2).testBit j).map Nat.succ := by
      rw [List.filter_map]
      congr 2
      funext j
      exact Nat.testBit_succ n j
    rw [e]
    cases hb : n.testBit 0 with
    | false =>
      have := Nat.mod_two_eq_zero_iff_testBit_zero.mpr hb
      simp [this]
    | true =>
      have := Nat.mod_two_eq_one_iff_testBit_zero.mpr hb
      simp [this]
      omega
@[irreducible] def pcnt (n : Nat) : Nat := pop 24 n
theorem pcnt_def (n : Nat) : pcnt n = pop 24 n := by unfold pcnt; rfl
theorem setN_len (n : Nat) : (setN n).length = pcnt n := by
  unfold setN rng
  rw [pcnt_def, pop_len, List.filter_map, List.length_map]
  congr 2
  funext k
  simp
def mrgN : Nat → List Nat → List Nat → List Nat
  | 0, xs, ys => xs ++ ys
  | _ + 1, [], ys => ys
  | _ + 1, x :: xs, [] => x :: xs
  | n + 1, x :: xs, y :: ys => cond (Nat.ble x y) (x :: mrgN n xs (y :: ys)) (y :: mrgN n (x :: xs) ys)
def sortN : Nat → List Nat → List Nat
  | 0, xs => xs
  | n + 1, xs => match xs with
    | [] => []
    | [x] => [x]
    | x :: y :: r => mrgN (x :: y :: r).length (sortN n ((x :: y :: r).take ((x :: y :: r).length / 2))) (sortN n ((x :: y :: r).drop ((x :: y :: r).length / 2)))
theorem mrgN_perm : ∀ (n : Nat) (xs ys : List Nat), (mrgN n xs ys).Perm (xs ++ ys)
  | 0, _, _ => .refl _
  | _ + 1, [], _ => .refl _
  | _ + 1, x :: xs, [] => by
    show (x :: xs).Perm (x :: xs ++ [])
    rw [List.append_nil]
  | n + 1, x :: xs, y :: ys => by
    show (cond (Nat.ble x y) (x :: mrgN n xs (y :: ys)) (y :: mrgN n (x :: xs) ys)).Perm _
    cases Nat.ble x y with
    | true => exact (mrgN_perm n xs (y :: ys)).cons x
    | false =>
      have h := (mrgN_perm n (x :: xs) ys).cons y
      exact h.trans (List.perm_middle.symm)
theorem sortN_perm : ∀ (n : Nat) (xs : List Nat), (sortN n xs).Perm xs
  | 0, _ => .refl _
  | _ + 1, [] => .refl _
  | _ + 1, [_] => .refl _
  | n + 1, x :: y :: r => by
    show (mrgN _ _ _).Perm _
    refine (mrgN_perm _ _ _).trans ?_
    have h := (sortN_perm n ((x :: y :: r).take ((x :: y :: r).length / 2))).append (sortN_perm n ((x :: y :: r).drop ((x :: y :: r).length / 2)))
    rwa [List.take_append_drop] at h
def eqN : List Nat → List Nat → Bool
  | [], [] => true
  | x :: xs, y :: ys => cond (Nat.beq x y) (eqN xs ys) false
  | _, _ => false
theorem eqN_ok : ∀ {xs ys : List Nat}, eqN xs ys = true → xs = ys
  | [], [], _ => rfl
  | [], _ :: _, h => by cases h
  | _ :: _, [], h => by cases h
  | x :: xs, y :: ys, h => by
    unfold eqN at h
    cases e : Nat.beq x y with
    | false => rw [e] at h; cases h
    | true =>
      rw [e] at h
      rw [Nat.eq_of_beq_eq_true e, eqN_ok h]
def ascN : List Nat → Bool
  | [] => true
  | [_] => true
  | x :: y :: r => cond (Nat.blt x y) (ascN (y :: r)) false
theorem ascN_pw : ∀ {l : List Nat}, ascN l = true → l.Pairwise (· < ·)
  | [], _ => .nil
  | [_], _ => List.pairwise_singleton _ _
  | x :: y :: r, h => by
    unfold ascN at h
    cases e : Nat.blt x y with
    | false => rw [e] at h; cases h
    | true =>
      rw [e] at h
      have ih := ascN_pw h
      have h1 : x < y := Nat.le_of_ble_eq_true e
      refine List.pairwise_cons.mpr ⟨fun z hz => ?_, ih⟩
      rcases List.mem_cons.mp hz with rfl | hz
      · exact h1
      · have := (List.pairwise_cons.mp ih).1 z hz
        omega
theorem perm_of {xs ys : List Nat} (h : eqN (sortN 20 xs) (sortN 20 ys) = true) : xs.Perm ys := by
  have h1 := sortN_perm 20 xs
  rw [eqN_ok h] at h1
  exact h1.symm.trans (sortN_perm 20 ys)
theorem nodupN {xs : List Nat} (h : ascN (sortN 20 xs) = true) : xs.Nodup := (sortN_perm 20 xs).nodup_iff.mp ((ascN_pw h).imp fun {a b} hab => by omega)
theorem TN_def : TN = BL.foldl dbl [0] := by unfold TN; rfl
theorem E8_eq : TN.filter (fun n => pcnt n == 8) = E8 := by decide +kernel
theorem E8P_eq : TQ.filter (fun n => pcnt n == 8) = E8P := by decide +kernel
theorem TN_len : TN.length = 4096 := by decide +kernel
theorem T_perm : TQ.Perm TN := perm_of (by decide +kernel)
theorem E8_perm : E8P.Perm E8 := perm_of (by decide +kernel)
theorem E8_len : E8.length = 759 := by decide +kernel
theorem TN_lt : ∀ n ∈ TN, n < 2 ^ 24 := fun n h => of_decide_eq_true (List.all_eq_true.mp (by decide +kernel : (TN.all fun n => decide (n < 2 ^ 24)) = true) n h)
theorem TN_nodup : TN.Nodup := nodupN (by decide +kernel)
theorem E8_TN {n : Nat} (h : n ∈ E8) : n ∈ TN := by rw [← E8_eq] at h; exact (List.mem_filter.mp h).1
theorem E8_lt {n : Nat} (h : n ∈ E8) : n < 2 ^ 24 := TN_lt n (E8_TN h)
theorem E8_pop {n : Nat} (h : n ∈ E8) : pcnt n = 8 := by rw [← E8_eq] at h; simpa using (List.mem_filter.mp h).2
/-! ### any five places are in one eight -/
theorem land_bit (n x : Nat) : Nat.beq (Nat.land n (2 ^ x)) (2 ^ x) = n.testBit x := by
  have e : Nat.land n (2 ^ x) = (n.testBit x).toNat * 2 ^ x := by
    refine Nat.eq_of_testBit_eq fun j => ?_
    show (n &&& 2 ^ x).testBit j = _
    rw [Nat.testBit_and, Nat.testBit_two_pow]
    by_cases hj : x = j
    · subst hj
      cases n.testBit x with
      | true => simp [Nat.testBit_two_pow]
      | false => simp
    · cases n.testBit x with
      | true => simp [hj, Nat.testBit_two_pow]
      | false => simp [hj]
  rw [e]
  have hp : 0 < 2 ^ x := Nat.two_pow_pos x
  cases n.testBit x with
  | true => rw [Bool.toNat_true, Nat.one_mul]; exact Nat.beq_refl _
  | false =>
    rw [Bool.toNat_false, Nat.zero_mul]
    cases h : Nat.beq 0 (2 ^ x) with
    | false => rfl
    | true =>
      have := Nat.eq_of_beq_eq_true h
      omega
def sfx (f : Nat → List Nat → Bool) : List Nat → Bool
  | [] => true
  | m :: ms => cond (f m ms) (sfx f ms) false
def chk : List Nat → List Nat → List Nat → Bool
  | [], _, _ => true
  | c :: cs, ms, L => cond (Nat.beq L.length c) (sfx (fun m ms' => chk cs ms' (L.filter fun n => Nat.beq (Nat.land n m) m)) ms) false
def hasN (xs : List Nat) (n : Nat) : Bool := xs.all fun p => n.testBit p
theorem sfx_ok {f : Nat → List Nat → Bool} {x : Nat} {xs : List Nat} : ∀ {qs : List Nat}, sfx f (qs.map (2 ^ ·)) = true → (x :: xs).Sublist qs → ∃ qs', xs.Sublist qs' ∧ f (2 ^ x) (qs'.map (2 ^ ·)) = true
  | [], _, s => by cases s
  | q :: qs, h, s => by
    have h : cond (f (2 ^ q) (qs.map (2 ^ ·))) (sfx f (qs.map (2 ^ ·))) false = true := h
    cases e : f (2 ^ q) (qs.map (2 ^ ·)) with
    | false => rw [e] at h; cases h
    | true =>
      rw [e] at h
      cases s with
      | cons _ s => exact sfx_ok h s
      | cons_cons _ s => exact ⟨qs, s, e⟩
theorem chk_ok : ∀ {cs qs : List Nat} {L xs : List Nat}, chk cs (qs.map (2 ^ ·)) L = true → xs.Sublist qs → xs.length < cs.length → cs[xs.length]? = some (L.filter (hasN xs)).length
  | [], _, _, _, _, _, hl => absurd hl (Nat.not_lt_zero _)
  | c :: cs, qs, L, xs, h, hs, hl => by
    have h : cond (Nat.beq L.length c) (sfx (fun m ms' => chk cs ms' (L.filter fun n => Nat.beq (Nat.land n m) m)) (qs.map (2 ^ ·))) false = true := h
    cases e : Nat.beq L.length c with
    | false => rw [e] at h; cases h
    | true =>
      rw [e] at h
      cases xs with
      | nil =>
        have : L.filter (hasN []) = L := List.filter_eq_self.mpr fun _ _ => rfl
        rw [this, Nat.eq_of_beq_eq_true e]
        rfl
      | cons x xs =>
        obtain ⟨qs', s', h'⟩ := sfx_ok h hs
        have ih := chk_ok (xs := xs) h' s' (by simpa using hl)
        rw [List.filter_filter] at ih
        have e2 : L.filter (hasN (x :: xs)) = L.filter fun a => hasN xs a && Nat.beq (Nat.land a (2 ^ x)) (2 ^ x) := by
          congr 1
          funext a
          rw [land_bit, Bool.and_comm]
          rfl
        rw [e2, ← ih]
        rfl
def masks : List Nat := [1, 2, 4, 8, 16, 32, 64, 128, 256, 512, 1024, 2048, 4096, 8192, 16384, 32768, 65536, 131072, 262144, 524288, 1048576, 2097152, 4194304, 8388608]
noncomputable def filt (m : Nat) (L : List Nat) : List Nat := List.rec [] (fun a _ ih => cond (Nat.beq (Nat.land a m) m) (a :: ih) ih) L
noncomputable def lenN (L : List Nat) : Nat := List.rec 0 (fun _ _ ih => Nat.succ ih) L
noncomputable def sfx2 (f : Nat → List Nat → Bool) (ms : List Nat) : Bool := List.rec true (fun m ms ih => cond (f m ms) ih false) ms
noncomputable def chk2 (cs : List Nat) : List Nat → List Nat → Bool := List.rec (fun _ _ => true) (fun c _ ih ms L => cond (Nat.beq (lenN L) c) (sfx2 (fun m ms' => ih ms' (filt m L)) ms) false) cs
theorem filt_eq (m : Nat) : ∀ L : List Nat, filt m L = L.filter fun n => Nat.beq (Nat.land n m) m
  | [] => rfl
  | a :: L => by
    show cond (Nat.beq (Nat.land a m) m) (a :: filt m L) (filt m L) = _
    rw [List.filter_cons, filt_eq m L]
    cases Nat.beq (Nat.land a m) m <;> rfl
theorem lenN_eq : ∀ L : List Nat, lenN L = L.length
  | [] => rfl
  | a :: L => by
    show Nat.succ (lenN L) = _
    rw [lenN_eq L]
    rfl
theorem sfx2_eq {f g : Nat → List Nat → Bool} (h : ∀ m ms, f m ms = g m ms) : ∀ ms : List Nat, sfx2 f ms = sfx g ms
  | [] => rfl
  | m :: ms => by
    show cond (f m ms) (sfx2 f ms) false = cond (g m ms) (sfx g ms) false
    rw [h, sfx2_eq h ms]
theorem chk2_eq : ∀ (cs ms L : List Nat), chk2 cs ms L = chk cs ms L
  | [], _, _ => rfl
  | c :: cs, ms, L => by
    show cond (Nat.beq (lenN L) c) (sfx2 (fun m ms' => chk2 cs ms' (filt m L)) ms) false = cond (Nat.beq L.length c) (sfx (fun m ms' => chk cs ms' (L.filter fun n => Nat.beq (Nat.land n m) m)) ms) false
    rw [lenN_eq, sfx2_eq fun m ms' => by rw [filt_eq, chk2_eq cs]]
theorem sfx2_c {f : Nat → List Nat → Bool} {m : Nat} {ms : List Nat} (h : f m ms = true) (k : sfx2 f ms = true) : sfx2 f (m :: ms) = true := by
  show cond (f m ms) (sfx2 f ms) false = true
  rw [h, k]
  rfl
theorem chk2_c {c : Nat} {cs ms L : List Nat} (h : Nat.beq (lenN L) c = true) (k : sfx2 (fun m ms' => chk2 cs ms' (filt m L)) ms = true) : chk2 (c :: cs) ms L = true := by
  show cond (Nat.beq (lenN L) c) (sfx2 (fun m ms' => chk2 cs ms' (filt m L)) ms) false = true
  rw [h, k]
  rfl
theorem five_0 : chk2 [253, 77, 21, 5, 1] [2, 4, 8, 16, 32, 64, 128, 256, 512, 1024, 2048, 4096, 8192, 16384, 32768, 65536, 131072, 262144, 524288, 1048576, 2097152, 4194304, 8388608] (filt 1 E8) = true := by decide +kernel
theorem five_1 : chk2 [253, 77, 21, 5, 1] [4, 8, 16, 32, 64, 128, 256, 512, 1024, 2048, 4096, 8192, 16384, 32768, 65536, 131072, 262144, 524288, 1048576, 2097152, 4194304, 8388608] (filt 2 E8) = true := by decide +kernel
theorem five_2 : chk2 [253, 77, 21, 5, 1] [8, 16, 32, 64, 128, 256, 512, 1024, 2048, 4096, 8192, 16384, 32768, 65536, 131072, 262144, 524288, 1048576, 2097152, 4194304, 8388608] (filt 4 E8) = true := by decide +kernel
theorem five_3 : chk2 [253, 77, 21, 5, 1] [16, 32, 64, 128, 256, 512, 1024, 2048, 4096, 8192, 16384, 32768, 65536, 131072, 262144, 524288, 1048576, 2097152, 4194304, 8388608] (filt 8 E8) = true := by decide +kernel
theorem five_4 : chk2 [253, 77, 21, 5, 1] [32, 64, 128, 256, 512, 1024, 2048, 4096, 8192, 16384, 32768, 65536, 131072, 262144, 524288, 1048576, 2097152, 4194304, 8388608] (filt 16 E8) = true := by decide +kernel
theorem five_5 : chk2 [253, 77, 21, 5, 1] [64, 128, 256, 512, 1024, 2048, 4096, 8192, 16384, 32768, 65536, 131072, 262144, 524288, 1048576, 2097152, 4194304, 8388608] (filt 32 E8) = true := by decide +kernel
theorem five_6 : chk2 [253, 77, 21, 5, 1] [128, 256, 512, 1024, 2048, 4096, 8192, 16384, 32768, 65536, 131072, 262144, 524288, 1048576, 2097152, 4194304, 8388608] (filt 64 E8) = true := by decide +kernel
theorem five_7 : chk2 [253, 77, 21, 5, 1] [256, 512, 1024, 2048, 4096, 8192, 16384, 32768, 65536, 131072, 262144, 524288, 1048576, 2097152, 4194304, 8388608] (filt 128 E8) = true := by decide +kernel
theorem five_8 : chk2 [253, 77, 21, 5, 1] [512, 1024, 2048, 4096, 8192, 16384, 32768, 65536, 131072, 262144, 524288, 1048576, 2097152, 4194304, 8388608] (filt 256 E8) = true := by decide +kernel
theorem five_9 : chk2 [253, 77, 21, 5, 1] [1024, 2048, 4096, 8192, 16384, 32768, 65536, 131072, 262144, 524288, 1048576, 2097152, 4194304, 8388608] (filt 512 E8) = true := by decide +kernel
theorem five_10 : chk2 [253, 77, 21, 5, 1] [2048, 4096, 8192, 16384, 32768, 65536, 131072, 262144, 524288, 1048576, 2097152, 4194304, 8388608] (filt 1024 E8) = true := by decide +kernel
theorem five_11 : chk2 [253, 77, 21, 5, 1] [4096, 8192, 16384, 32768, 65536, 131072, 262144, 524288, 1048576, 2097152, 4194304, 8388608] (filt 2048 E8) = true := by decide +kernel
theorem five_12 : chk2 [253, 77, 21, 5, 1] [8192, 16384, 32768, 65536, 131072, 262144, 524288, 1048576, 2097152, 4194304, 8388608] (filt 4096 E8) = true := by decide +kernel
theorem five_13 : chk2 [253, 77, 21, 5, 1] [16384, 32768, 65536, 131072, 262144, 524288, 1048576, 2097152, 4194304, 8388608] (filt 8192 E8) = true := by decide +kernel
theorem five_14 : chk2 [253, 77, 21, 5, 1] [32768, 65536, 131072, 262144, 524288, 1048576, 2097152, 4194304, 8388608] (filt 16384 E8) = true := by decide +kernel
theorem five_15 : chk2 [253, 77, 21, 5, 1] [65536, 131072, 262144, 524288, 1048576, 2097152, 4194304, 8388608] (filt 32768 E8) = true := by decide +kernel
theorem five_16 : chk2 [253, 77, 21, 5, 1] [131072, 262144, 524288, 1048576, 2097152, 4194304, 8388608] (filt 65536 E8) = true := by decide +kernel
theorem five_17 : chk2 [253, 77, 21, 5, 1] [262144, 524288, 1048576, 2097152, 4194304, 8388608] (filt 131072 E8) = true := by decide +kernel
theorem five_18 : chk2 [253, 77, 21, 5, 1] [524288, 1048576, 2097152, 4194304, 8388608] (filt 262144 E8) = true := by decide +kernel
theorem five_19 : chk2 [253, 77, 21, 5, 1] [1048576, 2097152, 4194304, 8388608] (filt 524288 E8) = true := by decide +kernel
theorem five_20 : chk2 [253, 77, 21, 5, 1] [2097152, 4194304, 8388608] (filt 1048576 E8) = true := by decide +kernel
theorem five_21 : chk2 [253, 77, 21, 5, 1] [4194304, 8388608] (filt 2097152 E8) = true := by decide +kernel
theorem five_22 : chk2 [253, 77, 21, 5, 1] [8388608] (filt 4194304 E8) = true := by decide +kernel
theorem five_23 : chk2 [253, 77, 21, 5, 1] [] (filt 8388608 E8) = true := by decide +kernel
theorem five2 : chk2 [759, 253, 77, 21, 5, 1] masks E8 = true := chk2_c (by decide +kernel) (sfx2_c five_0 (sfx2_c five_1 (sfx2_c five_2 (sfx2_c five_3 (sfx2_c five_4 (sfx2_c five_5 (sfx2_c five_6 (sfx2_c five_7 (sfx2_c five_8 (sfx2_c five_9 (sfx2_c five_10 (sfx2_c five_11 (sfx2_c five_12 (sfx2_c five_13 (sfx2_c five_14 (sfx2_c five_15 (sfx2_c five_16 (sfx2_c five_17 (sfx2_c five_18 (sfx2_c five_19 (sfx2_c five_20 (sfx2_c five_21 (sfx2_c five_22 (sfx2_c five_23 rfl))))))))))))))))))))))))
theorem five : chk [759, 253, 77, 21, 5, 1] masks E8 = true := by rw [← chk2_eq]; exact five2
def has (xs : List Int) (n : Nat) : Bool := xs.all fun p => n.testBit p.toNat
theorem Pl.sub {xs : List Int} (h : Pl xs) : (xs.map Int.toNat).Sublist (List.range 24) := by
  have e : (rng 0 24).map Int.toNat = List.range 24 := by decide
  rw [← e]
  refine List.Sublist.map _ ?_
  rw [← set_num h]
  exact List.filter_sublist
theorem with_len {xs : List Int} (h : Pl xs) (hl : xs.length ≤ 5) : [759, 253, 77, 21, 5, 1][xs.length]? = some (E8.filter (has xs)).length := by
  have e : masks = (List.range 24).map (2 ^ ·) := by decide
  have := chk_ok (cs := [759, 253, 77, 21, 5, 1]) (qs := List.range 24) (L := E8) (xs := xs.map Int.toNat) (e ▸ five) h.sub (by simpa using Nat.lt_succ_of_le hl)
  rw [List.length_map] at this
  rw [this]
  congr 3
  funext n
  unfold hasN has
  rw [List.all_map]
  rfl
/-! ### sorted lists of sets -/
theorem le_trans' {x y z : List Int} (h : x ≤ y) (k : y ≤ z) : x ≤ z := List.le_trans h k
theorem lsortD_eq (xs : List (List Int)) : lsortD (eL eI) xs = xs.mergeSort (fun p q => decide (p ≤ q)) := by
  unfold lsortD
  have : PySem.W.dataLe false (eL eI) = fun p q : List Int => decide (p ≤ q) := PySem.W.dataLe_rows (fun b => b)
  rw [this]
theorem lsortD_pw (xs : List (List Int)) : (lsortD (eL eI) xs).Pairwise (· ≤ ·) := by
  rw [lsortD_eq]
  have := List.pairwise_mergeSort (le := fun p q : List Int => decide (p ≤ q)) (fun a b c h k => decide_eq_true (List.le_trans (of_decide_eq_true h) (of_decide_eq_true k))) (fun a b => by
    rcases List.le_total a b with h | h
    · simp [h]
    · simp [h]) xs
  exact this.imp fun h => of_decide_eq_true h
theorem lsortD_perm' (xs : List (List Int)) : (lsortD (eL eI) xs).Perm xs := List.mergeSort_perm _ _
theorem lsortD_canon {xs ys : List (List Int)} (h : xs.Perm ys) : lsortD (eL eI) xs = lsortD (eL eI) ys :=
  List.Perm.eq_of_pairwise (le := fun a b : List Int => a ≤ b) (fun a b _ _ h k => List.le_antisymm h k) (lsortD_pw xs) (lsortD_pw ys) (((lsortD_perm' xs).trans h).trans (lsortD_perm' ys).symm)
theorem lsortD_len (xs : List (List Int)) : (lsortD (eL eI) xs).length = xs.length := (lsortD_perm' xs).length_eq
theorem lsortD_mem {xs : List (List Int)} {x : List Int} : x ∈ lsortD (eL eI) xs ↔ x ∈ xs := (lsortD_perm' xs).mem_iff
end DL
namespace DL
open PySem PySem.Spec PyProof.Rows L2
/-! ### helps for walks over sets of places -/
theorem ishl1 {x : Int} (h0 : 0 ≤ x) (h1 : x < 24) : ishl 1 x = some ((2 ^ x.toNat : Nat) : Int) := by
  unfold ishl
  rw [if_pos ⟨h0, by omega, by decide⟩, Int.one_mul]
  congr 1
theorem ishrN {n : Nat} {x : Int} (h0 : 0 ≤ x) : ishr (n : Int) x = some ((n / 2 ^ x.toNat : Nat) : Int) := by
  unfold ishr
  rw [if_pos h0]
  congr 1
theorem bit_int (n k : Nat) : (((n / 2 ^ k : Nat) : Int) % 2 == 1) = n.testBit k := by
  rw [Nat.testBit_eq_decide_div_mod_eq, Bool.eq_iff_iff, beq_iff_eq, decide_eq_true_iff]
  omega
theorem sum_num : ∀ xs : List Int, (xs.map fun x => ((2 ^ x.toNat : Nat) : Int)).sum = (numN xs : Int)
  | [] => rfl
  | x :: xs => by
    rw [List.map_cons, List.sum_cons, sum_num xs]
    show _ = ((2 ^ x.toNat + numN xs : Nat) : Int)
    rw [Int.natCast_add]
theorem foldl_num : ∀ (xs : List Int) (s : Int), xs.foldl (fun s x => s + ((2 ^ x.toNat : Nat) : Int)) s = s + (numN xs : Int)
  | [], s => by simp [numN]
  | x :: xs, s => by
    rw [List.foldl_cons, foldl_num xs]
    show _ = s + ((2 ^ x.toNat + numN xs : Nat) : Int)
    rw [Int.natCast_add]
    omega
theorem irng_ok {lo hi : Int} (h0 : -1000000 ≤ lo) (h1 : hi ≤ 1000000) (h2 : lo ≤ 1000000) (h3 : -1000000 ≤ hi) : irng lo hi = some (rng lo hi) := by
  unfold irng
  rw [if_pos ⟨by omega, by omega, by omega, by omega, by omega⟩]
/-- places counted -/
theorem pop_and : ∀ {k n : Nat}, 0 < n → n < 2 ^ k → pop k (n &&& (n - 1)) + 1 = pop k n
  | 0, n, h, h' => by
    have : n < 1 := h'
    omega
  | k + 1, n, h, h' => by
    rw [Nat.pow_succ] at h'
    unfold pop
    have e2 : (n &&& (n - 1)) / 2 = n / 2 &&& (n - 1) / 2 := Nat.and_div_two
    have e4 : ¬ (n &&& (n - 1)) % 2 = 1 := fun z => by
      have := Nat.and_mod_two_eq_one.mp z
      omega
    have e5 : (n &&& (n - 1)) % 2 = 0 := by
      have := Nat.mod_two_eq_zero_or_one (n &&& (n - 1))
      omega
    rw [e2, e5]
    rcases Nat.mod_two_eq_zero_or_one n with z | z
    · have e6 : (n - 1) / 2 = n / 2 - 1 := by omega
      rw [e6]
      have := pop_and (k := k) (n := n / 2) (by omega) (by omega)
      omega
    · have e6 : (n - 1) / 2 = n / 2 := by omega
      rw [e6, Nat.and_self]
      omega
theorem pop_zero : ∀ k : Nat, pop k 0 = 0
  | 0 => rfl
  | k + 1 => by
    show 0 % 2 + pop k (0 / 2) = 0
    rw [Nat.zero_div, pop_zero k]
theorem pop_le : ∀ k n : Nat, pop k n ≤ k
  | 0, _ => Nat.le_refl _
  | k + 1, n => by
    unfold pop
    have := pop_le k (n / 2)
    omega
theorem pop_split : ∀ (a b n : Nat), pop (a + b) n = pop a (n % 2 ^ a) + pop b (n / 2 ^ a)
  | 0, b, n => by simp [pop]
  | a + 1, b, n => by
    have e : a + 1 + b = (a + b) + 1 := by omega
    rw [e]
    unfold pop
    rw [pop_split a b (n / 2)]
    have e1 : n % 2 ^ (a + 1) % 2 = n % 2 := by
      rw [Nat.pow_succ, Nat.mul_comm, Nat.mod_mul_right_mod]
    have e2 : n % 2 ^ (a + 1) / 2 = n / 2 % 2 ^ a := by
      rw [Nat.pow_succ, Nat.mul_comm, Nat.mod_mul_right_div_self]
    have e3 : n / 2 ^ (a + 1) = n / 2 / 2 ^ a := by
      rw [Nat.pow_succ, Nat.mul_comm, Nat.div_div_eq_div_mul]
    rw [e1, e2, e3]
    cases b with
    | zero => simp [pop]
    | succ b => simp only [pop]; omega
/-- the table of the numbers of figures 1 -/
@[irreducible] def CT : List Int := (List.range 4096).map fun k => ((pop 12 k : Nat) : Int)
theorem CT_lo (n : Nat) : atI CT (Builtin.bitAnd (n : Int) 4095) = some ((pop 12 (n % 4096) : Nat) : Int) := by
  have e : Builtin.bitAnd (n : Int) 4095 = ((n % 4096 : Nat) : Int) := by
    show ((n &&& 4095 : Nat) : Int) = _
    rw [show n &&& 4095 = n % 4096 from Nat.and_two_pow_sub_one_eq_mod n 12]
  rw [e, atI_nat (by unfold CT; rw [List.length_map, List.length_range]; omega)]
  simp [CT]
theorem CT_hi {n : Nat} (h : n < 2 ^ 24) : atI CT ((n : Int) / 2 ^ (12 : Int).toNat) = some ((pop 12 (n / 4096) : Nat) : Int) := by
  have e : (n : Int) / 2 ^ (12 : Int).toNat = ((n / 4096 : Nat) : Int) := by
    rw [Int.natCast_ediv]
    rfl
  rw [e, atI_nat (by unfold CT; rw [List.length_map, List.length_range]; omega)]
  simp [CT]
theorem pop24 (n : Nat) : pop 12 (n % 4096) + pop 12 (n / 4096) = pcnt n := by rw [pcnt_def]; exact (pop_split 12 12 n).symm
theorem pcnt_le (n : Nat) : pcnt n ≤ 24 := by rw [pcnt_def]; exact pop_le 24 n
/-! a loop by turns -/
section
variable {α S R : Type}
theorem forS_k {f : S → α → W S} {P : Nat → S → Prop} : ∀ {xs : List α} {s : S} {k : Nat}, P k s → (∀ i s x, xs[i]? = some x → P (k + i) s → (f s x).wp (P (k + i + 1))) → (forS f s xs).wp (P (k + xs.length))
  | [], s, k, h0, _ => h0
  | x :: xs, s, k, h0, h => W.mono (f s x) _ _ (fun s' p => by
      have := forS_k (f := f) (P := P) (xs := xs) (s := s') (k := k + 1) p fun i s y e hp => by
        have := h (i + 1) s y (by simpa using e) (by rw [show k + (i + 1) = k + 1 + i by omega]; exact hp)
        rw [show k + (i + 1) + 1 = k + 1 + i + 1 by omega] at this
        exact this
      rw [show k + 1 + xs.length = k + (x :: xs).length by simp; omega] at this
      exact this) (by
      have := h 0 s x rfl h0
      exact this)
end
theorem lsort_pw (xs : List Int) : (lsort xs).Pairwise (· ≤ ·) := by
  unfold lsort
  have := List.pairwise_mergeSort (le := fun p q : Int => decide (p ≤ q)) (fun a b c h k => decide_eq_true (Int.le_trans (of_decide_eq_true h) (of_decide_eq_true k))) (fun a b => by
    rcases Int.le_total a b with h | h
    · simp [h]
    · simp [h]) xs
  exact this.imp fun h => of_decide_eq_true h
theorem lsort_perm (xs : List Int) : (lsort xs).Perm xs := List.mergeSort_perm _ _
theorem pw_lt {xs : List Int} (h : xs.Pairwise (· ≤ ·)) (n : xs.Nodup) : xs.Pairwise (· < ·) := (h.and n).imp fun {a b} ⟨h1, h2⟩ => by omega
theorem lsort_canon {xs ys : List Int} (h : xs.Perm ys) (hy : ys.Pairwise (· ≤ ·)) : lsort xs = ys :=
  List.Perm.eq_of_pairwise (le := fun a b : Int => a ≤ b) (fun a b _ _ h k => Int.le_antisymm h k) (lsort_pw xs) hy ((lsort_perm xs).trans h)
/-- sorted places that were drawn -/
theorem pl_lsort {xs : List Int} (n : xs.Nodup) (h : ∀ p ∈ xs, 0 ≤ p ∧ p < 24) : Pl (lsort xs) := ⟨pw_lt (lsort_pw xs) ((lsort_perm xs).nodup_iff.mpr n), fun p hp => h p ((lsort_perm xs).mem_iff.mp hp)⟩
theorem erase_perm {α : Type} : ∀ {xs : List α} {i : Nat} (h : i < xs.length), (xs[i] :: xs.eraseIdx i).Perm xs
  | x :: xs, 0, _ => .refl _
  | x :: xs, i + 1, h => by
    have ih := erase_perm (xs := xs) (i := i) (by simpa using h)
    show (xs[i]'(by simpa using h) :: x :: xs.eraseIdx i).Perm (x :: xs)
    exact (List.Perm.swap _ _ _).trans (ih.cons x)
theorem lpop_wp {α : Type} {xs : List α} {v : Int} (h0 : 0 ≤ v) (h1 : v < (xs.length : Int)) (h2 : xs.length ≤ 1000000) : ∃ a, lpop xs v = some (a, xs.eraseIdx v.toNat) ∧ (a :: xs.eraseIdx v.toNat).Perm xs := by
  have hv : v.toNat < xs.length := by omega
  refine ⟨xs[v.toNat], ?_, ?_⟩
  · unfold lpop
    rw [if_pos ⟨h0, by omega⟩, List.getElem?_eq_getElem hv]
    rfl
  · exact erase_perm hv
/-- drawing without putting back -/
theorem draws {α : Type} {body : List α × List α → Int → W (List α × List α)} (hb : ∀ s x, body s x = ((drawW (s.1.length : Int)) >>= fun y => (Run.lift (lpop s.1 y) : W (α × List α)) >>= fun z => (Run.lift (lapp s.2 z.1) : W (List α)) >>= fun zs => (pure (z.2, zs) : W (List α × List α))))
    {left : List α} (hl : left.length ≤ 1000000) {xs : List Int} (hk : xs.length ≤ left.length) : (forS body (left, []) xs).wp fun s => (s.2 ++ s.1).Perm left ∧ s.2.length = xs.length := by
  have h := forS_k (f := body) (P := fun k s => (s.2 ++ s.1).Perm left ∧ s.2.length = k) (xs := xs) (s := (left, [])) (k := 0) ⟨by simp, rfl⟩ fun i s x e hp => ?_
  · rw [Nat.zero_add] at h
    exact h
  · rw [hb]
    rw [Nat.zero_add] at hp ⊢
    have hi : i < xs.length := (List.getElem?_eq_some_iff.mp e).1
    have hlen : s.2.length + s.1.length = left.length := by rw [← List.length_append]; exact hp.1.length_eq
    simp only [wp_bind]
    refine wp_draw (by omega) (by omega) fun v h0 h1 => ?_
    obtain ⟨a, e1, p1⟩ := lpop_wp (xs := s.1) h0 h1 (by omega)
    simp only [e1, wp_some]
    have e2 : lapp s.2 a = some (s.2 ++ [a]) := by unfold lapp; rw [if_pos (by omega)]
    simp only [e2, wp_some, wp_pure]
    refine ⟨?_, by simp [hp.2]⟩
    have : (s.2 ++ [a] ++ s.1.eraseIdx v.toNat).Perm (s.2 ++ s.1) := by
      rw [List.append_assoc]
      exact p1.append_left _
    exact this.trans hp.1
/-! ### lists of numbers -/
section
variable {α β : Type}
theorem ift {x y : α} : (if (true : Bool) = true then x else y) = x := if_pos rfl
theorem iff' {x y : α} : (if (false : Bool) = true then x else y) = y := if_neg Bool.false_ne_true
def cI (L : List Nat) : List Int := L.map fun n : Nat => (n : Int)
theorem cI_filter (L : List Nat) {p : Int → Bool} {q : Nat → Bool} (h : ∀ n ∈ L, p (n : Int) = q n) : (cI L).filter p = cI (L.filter q) := by
  unfold cI
  rw [List.filter_map]
  congr 1
  exact List.filter_congr h
theorem cI_mem {L : List Nat} {x : Int} : x ∈ cI L ↔ ∃ n ∈ L, x = (n : Int) := by
  unfold cI
  rw [List.mem_map]
  constructor
  · rintro ⟨n, h, e⟩; exact ⟨n, h, e.symm⟩
  · rintro ⟨n, h, e⟩; exact ⟨n, h, e.symm⟩
theorem cI_len (L : List Nat) : (cI L).length = L.length := List.length_map _
theorem lcM_nat {t : Int → Option Bool} {e : Int → Option β} {p : Nat → Bool} {f : Nat → β} : ∀ {L : List Nat}, (∀ n ∈ L, t (n : Int) = some (p n)) → (∀ n ∈ L, p n = true → e (n : Int) = some (f n)) → lcM t e (cI L) = some ((L.filter p).map f)
  | [], _, _ => rfl
  | x :: xs, h, k => by
    show (t (x : Int) >>= fun b => if b then e (x : Int) >>= fun y => lcM t e (cI xs) >>= fun ys => pure (y :: ys) else lcM t e (cI xs)) = _
    rw [h x (by simp), lcM_nat (fun y hy => h y (by simp [hy])) (fun y hy => k y (by simp [hy]))]
    show (if p x = true then _ else _) = _
    cases hp : p x with
    | false => simp [hp]
    | true =>
      rw [k x (by simp) hp]
      simp only [List.filter_cons, hp, if_true]
      rfl
theorem lcM_natM {e : Int → Option β} {f : Nat → β} {L : List Nat} (k : ∀ n ∈ L, e (n : Int) = some (f n)) : lcM (fun _ => some true) e (cI L) = some (L.map f) := by
  rw [lcM_nat (p := fun _ => true) (f := f) (fun _ _ => rfl) (fun n hn _ => k n hn)]
  congr 2
  exact List.filter_eq_self.mpr fun _ _ => rfl
theorem beq_cast (n m : Nat) : ((n : Int) == (m : Int)) = (n == m) := by
  rw [Bool.eq_iff_iff, beq_iff_eq, beq_iff_eq]
  omega
theorem has_int {n : Nat} {pl : List Int} (h : Pl pl) : (Builtin.bitAnd (n : Int) (numN pl : Int) == (numN pl : Int)) = has pl n := by
  rw [band, beq_cast]
  exact has_num h
theorem bit_and1 (n k : Nat) : (Builtin.bitAnd ((n / 2 ^ k : Nat) : Int) 1 == 1) = n.testBit k := by
  rw [bitAnd_m1, bit_int]
end
/-- counting by n & (n - 1) -/
theorem while_onesK {C : Int × Int → Option Bool} {F : Int × Int → Option (Int × Int)} (hC : ∀ s, C s = some (decide (0 < s.2))) (hF : ∀ s, F s = some (s.1 + 1, Builtin.bitAnd s.2 (s.2 - 1))) (k : Nat) (fuel : Nat) :
    ∀ (left : Nat) (many : Int), left < 2 ^ k → pop k left < fuel → whileS C F fuel (many, (left : Int)) = some (many + (pop k left : Nat), 0) := by
  induction fuel with
  | zero => exact fun _ _ _ h => absurd h (Nat.not_lt_zero _)
  | succ fuel ih =>
    intro left many hl h
    show (C (many, (left : Int)) >>= fun t => if t then F (many, (left : Int)) >>= fun s' => whileS C F fuel s' else pure (many, (left : Int))) = _
    rw [hC, hF]
    by_cases h0 : left = 0
    · subst h0
      rw [pop_zero]
      simp only [ob]
      have hz : ¬ (decide ((0 : Int) < ((0 : Nat) : Int)) = true) := by decide
      rw [if_neg hz]
      show some (many, ((0 : Nat) : Int)) = _
      simp
    · simp only [ob]
      rw [if_pos (decide_eq_true (by omega))]
      have e : Builtin.bitAnd (left : Int) ((left : Int) - 1) = ((left &&& (left - 1) : Nat) : Int) := by
        rw [show (left : Int) - 1 = ((left - 1 : Nat) : Int) by omega, band]
      have hp := pop_and (k := k) (n := left) (by omega) hl
      have hlt : left &&& (left - 1) < 2 ^ k := Nat.lt_of_le_of_lt Nat.and_le_left hl
      rw [e, ih _ _ hlt (by omega)]
      congr 2
      omega
theorem while_ones {C : Int × Int → Option Bool} {F : Int × Int → Option (Int × Int)} (hC : ∀ s, C s = some (decide (0 < s.2))) (hF : ∀ s, F s = some (s.1 + 1, Builtin.bitAnd s.2 (s.2 - 1)))
    (fuel left : Nat) (many : Int) (h : left < 2 ^ 24) (h2 : pcnt left < fuel) : whileS C F fuel (many, (left : Int)) = some (many + (pcnt left : Nat), 0) := by
  rw [pcnt_def] at h2 ⊢
  exact while_onesK hC hF 24 fuel left many h h2
/-! ### told sets made step by step, with a dict of what is met -/
def stepR (row : List Int) (x : Int) : List Int := if row.contains x then row else row ++ row.map (fun o => Builtin.bitXor o x)
abbrev dK (row : List Int) : List (Int × Bool) := row.map fun x => (x, true)
theorem keys_dK (row : List Int) : (dK row).map (·.1) = row := by rw [List.map_map]; exact List.map_id row
theorem dK_has (row : List Int) (x : Int) : (dget (dK row) x).isSome = row.contains x := by
  cases h : dget (dK row) x with
  | none =>
    have := dget_none.mp h
    rw [keys_dK] at this
    simp [this]
  | some b =>
    have : ¬ (x ∉ (dK row).map (·.1)) := fun k => by rw [dget_none.mpr k] at h; cases h
    rw [keys_dK] at this
    simpa using this
theorem dK_puts {g : List (Int × Bool) → Int → Option (List (Int × Bool))} (hg : ∀ s x, g s x = dputL s x true) {row more : List Int} (h : (row ++ more).Nodup) (hl : (row ++ more).length ≤ 16777216) : forS g (dK row) more = some (dK (row ++ more)) := by
  rw [forS_puts hg more (dK row) (by rw [keys_dK]; exact h) (by simpa using hl)]
  unfold dK
  rw [List.map_append]
theorem sub_step : ∀ (ys row : List Int), List.Sublist row (ys.foldl stepR row)
  | [], row => .refl _
  | x :: ys, row => by
    refine List.Sublist.trans ?_ (sub_step ys (stepR row x))
    unfold stepR
    split
    · exact .refl _
    · exact List.sublist_append_left _ _
theorem told_fold {σ α : Type} {f : σ → α → Option σ} {st : List Int → σ} {own : α → Int} : ∀ (xs : List α) (row : List Int) (hf : ∀ row, ∀ x ∈ xs, (stepR row (own x)).Nodup → (stepR row (own x)).length ≤ 16777216 → f (st row) x = some (st (stepR row (own x)))),
    ((xs.map own).foldl stepR row).Nodup → ((xs.map own).foldl stepR row).length ≤ 16777216 → forS f (st row) xs = some (st ((xs.map own).foldl stepR row))
  | [], row, _, _, _ => rfl
  | x :: xs, row, hf, h, hl => by
    show (f (st row) x >>= fun s => forS f s xs) = _
    have s1 := sub_step (xs.map own) (stepR row (own x))
    rw [hf row x (by simp) (s1.nodup h) (Nat.le_trans s1.length_le hl)]
    exact told_fold xs (stepR row (own x)) (fun row y hy => hf row y (by simp [hy])) h hl
@[irreducible] def MADE : List Int := [8047777, 7706947, 7025287, 5661967, 2935327, 5870654, 3352701, 6705402, 5022197, 1655787, 3311574, 6623148, 4857689, 1326771, 2653542, 5307084, 2225561, 4451122, 513637, 1027274, 2054548, 4109096, 8218192, 16777215]
theorem made_tn : MADE.foldl stepR [0] = cI TN := by decide +kernel
theorem cI_nodup : (cI TN).Nodup := TN_nodup.map _ (fun a b h e => h (by have e : (a : Int) = (b : Int) := e; omega))
theorem cI_small : (cI TN).length ≤ 16777216 := by rw [cI_len, TN_len]; decide
end DL
/-! words of bits, as texts and by themselves -/
namespace Hw
open PySem PySem.Spec PyProof.Rows L2 DL
def ch (c : Nat) : Str := ⟨#[c]⟩
/-- the text of bits, by two signs -/
def tx (f : Bool → Nat) (w : List Bool) : Str := ⟨(w.map f).toArray⟩
theorem ch_inj {a b : Nat} (h : ch a = ch b) : a = b := by
  unfold ch at h
  injection h with h
  simpa using h
theorem ch_beq (a b : Nat) : (ch a == ch b) = (a == b) := by
  rw [Bool.eq_iff_iff, beq_iff_eq, beq_iff_eq]
  exact ⟨ch_inj, fun e => by rw [e]⟩
theorem tx_len (f : Bool → Nat) (w : List Bool) : (tx f w).length = w.length := by unfold tx Str.length; simp
theorem tx_cps (f : Bool → Nat) (w : List Bool) : (tx f w).cps.toList = w.map f := by unfold tx; simp
theorem tx_inj {f : Bool → Nat} (hf : f true ≠ f false) {x y : List Bool} (h : tx f x = tx f y) : x = y := by
  have h : x.map f = y.map f := by rw [← tx_cps, ← tx_cps, h]
  have inj : ∀ a b, f a = f b → a = b := fun a b e => by cases a <;> cases b <;> first | rfl | exact absurd e hf | exact absurd e.symm hf
  exact List.map_inj_right inj |>.mp h
theorem tx_beq {f : Bool → Nat} (hf : f true ≠ f false) (x y : List Bool) : (tx f x == tx f y) = (x == y) := by
  rw [Bool.eq_iff_iff, beq_iff_eq, beq_iff_eq]
  exact ⟨tx_inj hf, fun e => by rw [e]⟩
theorem schars_tx (f : Bool → Nat) (w : List Bool) : schars (tx f w) = w.map fun b => ch (f b) := by
  unfold schars
  rw [tx_cps, List.map_map]
  rfl
theorem slen_tx (f : Bool → Nat) {w : List Bool} (h : w.length ≤ 1000000) : slen (tx f w) = some (w.length : Int) := by
  unfold slen
  rw [tx_len, if_pos (by omega)]
theorem sguard (f : Bool → Nat) {w : List Bool} (h : w.length ≤ 1000000) : (if Str.length (tx f w) ≤ 16777216 then some (schars (tx f w)) else none) = some (w.map fun b => ch (f b)) := by
  rw [tx_len, if_pos (by omega), schars_tx]
theorem szip_tx (f : Bool → Nat) {x y : List Bool} (h : x.length ≤ 1000000) : szip (tx f x) (tx f y) = some ((x.zip y).map fun p => (ch (f p.1), ch (f p.2))) := by
  unfold szip
  rw [tx_len, if_pos (by omega), schars_tx, schars_tx, List.zip_map]
  rfl
theorem atI_nat {α : Type} (xs : List α) {i : Nat} (h : i < xs.length) : atI xs (i : Int) = some xs[i] := by
  unfold L2.atI L2.ixN
  rw [if_pos (by omega), if_pos (by omega)]
  show xs[(i : Int).toNat]? = _
  rw [Int.toNat_natCast, List.getElem?_eq_getElem h]
theorem atI_map {α β : Type} (f : α → β) (xs : List α) (i : Int) : atI (xs.map f) i = (atI xs i).map f := by
  unfold L2.atI
  rw [List.length_map]
  cases ixN xs.length i with
  | none => rfl
  | some j => show (xs.map f)[j]? = (xs[j]?).map f; rw [List.getElem?_map]
theorem sat_tx (f : Bool → Nat) {w : List Bool} (h : w.length ≤ 1000000) (i : Int) : sat (tx f w) i = (atI w i).map fun b => ch (f b) := by
  unfold sat
  rw [tx_len, if_pos (by omega), tx_cps, atI_map]
  cases atI w i <;> rfl
theorem scut_tx (f : Bool → Nat) {w : List Bool} (h : w.length ≤ 1000000) (l u : Option Int) : scut (tx f w) l u = some (tx f (lcut w l u)) := by
  unfold scut
  rw [tx_len, if_pos (by omega)]
  have : cutS (tx f w) l u = tx f (lcut w l u) := by
    unfold L2.cutS lcut
    rw [tx_cps, tx_len]
    unfold tx
    rw [List.map_take, List.map_drop]
  rw [this]
theorem scat_tx (f : Bool → Nat) {x y : List Bool} (h : x.length ≤ 1000000) (k : y.length ≤ 1000000) : scat (tx f x) (tx f y) = some (tx f (x ++ y)) := by
  unfold scat
  rw [tx_len, tx_len, if_pos (by omega)]
  have : tx f x ++ tx f y = tx f (x ++ y) := by
    show Str.append (tx f x) (tx f y) = _
    unfold Str.append tx
    simp
  rw [this]
theorem glued_ch (ys : List Nat) : ∀ acc : Array Nat, (ys.map ch).foldl (fun (acc : Array Nat) (p : Str) => acc ++ (Str.empty).cps ++ p.cps) acc = acc ++ ys.toArray := by
  induction ys with
  | nil => intro acc; simp
  | cons y ys ih =>
    intro acc
    rw [List.map_cons, List.foldl_cons, ih]
    show acc ++ #[] ++ #[y] ++ ys.toArray = _
    simp
theorem sjoin_ch {ys : List Nat} (h : ys.length ≤ 1000000) : sjoin "" (ys.map ch) = some ⟨ys.toArray⟩ := by
  have hsum : ∀ ys : List Nat, ((ys.map ch).map (·.length)).sum = ys.length := by
    intro ys
    induction ys with
    | nil => rfl
    | cons y ys ih =>
      rw [List.map_cons, List.map_cons, List.sum_cons, ih, List.length_cons]
      show 1 + ys.length = _
      omega
  unfold sjoin
  rw [hsum]
  have e0 : ("" : Str).length = 0 := rfl
  rw [e0, if_pos (by omega)]
  have : Txt.join "" (ys.map ch) = ⟨ys.toArray⟩ := by
    show Builtin.Str.glued "" (ys.map ch) = _
    unfold Builtin.Str.glued
    cases ys with
    | nil => rfl
    | cons y ys =>
      have := glued_ch ys #[y]
      show (⟨(ys.map ch).foldl (fun (acc : Array Nat) (p : Str) => acc ++ (Str.empty).cps ++ p.cps) #[y]⟩ : Str) = _
      rw [this]
      simp
  rw [this]
theorem sjoin_tx (f : Bool → Nat) {w : List Bool} (h : w.length ≤ 1000000) : sjoin "" (w.map fun b => ch (f b)) = some (tx f w) := by
  have := sjoin_ch (ys := w.map f) (by rw [List.length_map]; exact h)
  rw [List.map_map] at this
  exact this
/-! ### distances -/
def dist : List Bool → List Bool → Nat
  | x :: xs, y :: ys => (if x != y then 1 else 0) + dist xs ys
  | _, _ => 0
theorem dist_nil (x : List Bool) : dist x [] = 0 := by cases x <;> rfl
theorem dist_zip : ∀ x y : List Bool, ((x.zip y).filter fun p => p.1 != p.2).length = dist x y
  | [], _ => rfl
  | _ :: _, [] => rfl
  | x :: xs, y :: ys => by
    rw [List.zip_cons_cons, List.filter_cons]
    show (if (x != y) = true then _ else _ : List (Bool × Bool)).length = (if x != y then 1 else 0) + dist xs ys
    rw [← dist_zip xs ys]
    cases x != y
    · simp
    · simp; omega
theorem dist_comm : ∀ x y : List Bool, dist x y = dist y x
  | [], y => by rw [dist_nil]; rfl
  | _ :: _, [] => rfl
  | x :: xs, y :: ys => by
    show (if x != y then 1 else 0) + dist xs ys = (if y != x then 1 else 0) + dist ys xs
    rw [dist_comm xs ys]
    cases x <;> cases y <;> rfl
theorem dist_self : ∀ x : List Bool, dist x x = 0
  | [] => rfl
  | x :: xs => by
    show (if x != x then 1 else 0) + dist xs xs = 0
    rw [dist_self xs]
    cases x <;> rfl
theorem dist_le : ∀ x y : List Bool, dist x y ≤ x.length
  | [], _ => Nat.zero_le _
  | _ :: _, [] => Nat.zero_le _
  | x :: xs, y :: ys => by
    have := dist_le xs ys
    show (if x != y then 1 else 0) + dist xs ys ≤ xs.length + 1
    cases x != y <;> simp <;> omega
theorem dist_tri : ∀ {x y z : List Bool}, x.length = y.length → y.length = z.length → dist x z ≤ dist x y + dist y z
  | [], _, _, _, _ => Nat.zero_le _
  | _ :: _, [], _, h, _ => by cases h
  | _ :: _, _ :: _, [], _, h => by cases h
  | x :: xs, y :: ys, z :: zs, h, k => by
    have := dist_tri (x := xs) (y := ys) (z := zs) (by simpa using h) (by simpa using k)
    show (if x != z then 1 else 0) + dist xs zs ≤ ((if x != y then 1 else 0) + dist xs ys) + ((if y != z then 1 else 0) + dist ys zs)
    have : (if x != z then 1 else 0 : Nat) ≤ (if x != y then 1 else 0) + (if y != z then 1 else 0) := by cases x <;> cases y <;> cases z <;> decide
    omega
theorem dist_pos : ∀ {x y : List Bool}, x.length = y.length → x ≠ y → 0 < dist x y
  | [], [], _, h => absurd rfl h
  | [], _ :: _, h, _ => by cases h
  | _ :: _, [], h, _ => by cases h
  | x :: xs, y :: ys, h, k => by
    show 0 < (if x != y then 1 else 0) + dist xs ys
    by_cases e : x = y
    · subst e
      have := dist_pos (x := xs) (y := ys) (by simpa using h) (fun e => k (by rw [e]))
      omega
    · have : (x != y) = true := by simpa using e
      rw [this]
      simp
      omega
theorem dist_app : ∀ {a c b d : List Bool}, a.length = c.length → dist (a ++ b) (c ++ d) = dist a c + dist b d
  | [], [], _, _, _ => by simp [dist]
  | [], _ :: _, _, _, h => by cases h
  | _ :: _, [], _, _, h => by cases h
  | x :: a, y :: c, b, d, h => by
    have := dist_app (a := a) (c := c) (b := b) (d := d) (by simpa using h)
    show (if x != y then 1 else 0) + dist (a ++ b) (c ++ d) = ((if x != y then 1 else 0) + dist a c) + dist b d
    omega
theorem dist_rot (k : Nat) {x y : List Bool} (h : x.length = y.length) : dist (x.drop k ++ x.take k) (y.drop k ++ y.take k) = dist x y := by
  rw [dist_app (by rw [List.length_drop, List.length_drop, h]), Nat.add_comm, ← dist_app (by rw [List.length_take, List.length_take, h]), List.take_append_drop, List.take_append_drop]
theorem dist_neg2 : ∀ x y : List Bool, dist (x.map (!·)) (y.map (!·)) = dist x y
  | [], _ => rfl
  | _ :: _, [] => rfl
  | x :: xs, y :: ys => by
    show (if (!x) != (!y) then 1 else 0) + dist (xs.map (!·)) (ys.map (!·)) = (if x != y then 1 else 0) + dist xs ys
    rw [dist_neg2 xs ys]
    cases x <;> cases y <;> rfl
theorem dist_neg : ∀ {x y : List Bool}, x.length = y.length → dist (x.map (!·)) y + dist x y = x.length
  | [], _, _ => rfl
  | _ :: _, [], h => by cases h
  | x :: xs, y :: ys, h => by
    have := dist_neg (x := xs) (y := ys) (by simpa using h)
    show ((if (!x) != y then 1 else 0) + dist (xs.map (!·)) ys) + ((if x != y then 1 else 0) + dist xs ys) = xs.length + 1
    have : (if (!x) != y then 1 else 0 : Nat) + (if x != y then 1 else 0) = 1 := by cases x <;> cases y <;> rfl
    omega
/-- one place turned -/
def turn (x : List Bool) (i : Nat) : List Bool := x.take i ++ [!(x.getD i false)] ++ x.drop (i + 1)
theorem turn_len {x : List Bool} {i : Nat} (h : i < x.length) : (turn x i).length = x.length := by
  unfold turn
  simp
  omega
theorem split_at {x : List Bool} {i : Nat} (h : i < x.length) : x = x.take i ++ [x.getD i false] ++ x.drop (i + 1) := by
  have e : x.getD i false = x[i] := by simp [h]
  rw [e]
  have := List.take_append_drop i x
  rw [List.drop_eq_getElem_cons h] at this
  rw [List.append_assoc]
  exact this.symm
theorem dist_turn2 {x y : List Bool} {i : Nat} (h : i < x.length) (k : x.length = y.length) : dist (turn x i) (turn y i) = dist x y := by
  have hy : i < y.length := by omega
  have l1 : (x.take i).length = (y.take i).length := by rw [List.length_take, List.length_take, k]
  have l2 : ∀ a b : Bool, (x.take i ++ [a]).length = (y.take i ++ [b]).length := fun a b => by rw [List.length_append, List.length_append, l1]; rfl
  rw [show dist x y = dist (x.take i ++ [x.getD i false] ++ x.drop (i + 1)) (y.take i ++ [y.getD i false] ++ y.drop (i + 1)) by rw [← split_at h, ← split_at hy]]
  unfold turn
  rw [dist_app (l2 _ _), dist_app l1, dist_app (l2 _ _), dist_app l1]
  have : dist [!(x.getD i false)] [!(y.getD i false)] = dist [x.getD i false] [y.getD i false] := by cases x.getD i false <;> cases y.getD i false <;> rfl
  omega
theorem dist_turn {x y : List Bool} {i : Nat} (h : i < x.length) (k : x.length = y.length) : dist x (turn y i) = dist x y + 1 ∨ dist x (turn y i) + 1 = dist x y := by
  have hy : i < y.length := by omega
  have l1 : (x.take i).length = (y.take i).length := by rw [List.length_take, List.length_take, k]
  have l2 : ∀ a b : Bool, (x.take i ++ [a]).length = (y.take i ++ [b]).length := fun a b => by rw [List.length_append, List.length_append, l1]; rfl
  have e1 : dist x (turn y i) = dist (x.take i ++ [x.getD i false] ++ x.drop (i + 1)) (turn y i) := by rw [← split_at h]
  have e2 : dist x y = dist (x.take i ++ [x.getD i false] ++ x.drop (i + 1)) (y.take i ++ [y.getD i false] ++ y.drop (i + 1)) := by rw [← split_at h, ← split_at hy]
  rw [e1, e2]
  unfold turn
  rw [dist_app (l2 _ _), dist_app l1, dist_app (l2 _ _), dist_app l1]
  have : (dist [x.getD i false] [!(y.getD i false)] = 1 ∧ dist [x.getD i false] [y.getD i false] = 0) ∨ (dist [x.getD i false] [!(y.getD i false)] = 0 ∧ dist [x.getD i false] [y.getD i false] = 1) := by cases x.getD i false <;> cases y.getD i false <;> simp [dist]
  omega
/-! ### balls -/
def allw : Nat → List (List Bool)
  | 0 => [[]]
  | n + 1 => (allw n).map (false :: ·) ++ (allw n).map (true :: ·)
def ball : Nat → Nat → Nat
  | 0, _ => 1
  | _ + 1, 0 => 1
  | n + 1, t + 1 => ball n (t + 1) + ball n t
def below (n : Nat) : Nat → Nat
  | 0 => 0
  | t + 1 => ball n t
theorem ball_zero (n : Nat) : ball n 0 = 1 := by cases n <;> rfl
theorem ball_pos : ∀ n t, 0 < ball n t
  | 0, _ => Nat.one_pos
  | _ + 1, 0 => Nat.one_pos
  | n + 1, t + 1 => Nat.lt_of_lt_of_le (ball_pos n (t + 1)) (Nat.le_add_right _ _)
theorem allw_len : ∀ n, (allw n).length = 2 ^ n
  | 0 => rfl
  | n + 1 => by
    unfold allw
    rw [List.length_append, List.length_map, List.length_map, allw_len n, Nat.pow_succ]
    omega
theorem allw_mem : ∀ n, ∀ x ∈ allw n, x.length = n
  | 0, x, h => by
    have : x = [] := by simpa [allw] using h
    rw [this]; rfl
  | n + 1, x, h => by
    unfold allw at h
    rcases List.mem_append.mp h with h | h <;> (obtain ⟨y, hy, rfl⟩ := List.mem_map.mp h; rw [List.length_cons, allw_mem n y hy])
theorem ball_count : ∀ (n t : Nat) (w : List Bool), w.length = n → (allw n).countP (fun x => decide (dist w x ≤ t)) = ball n t
  | 0, t, w, h => by
    have : w = [] := by simpa using h
    subst this
    simp [allw, ball, dist]
  | n + 1, t, [], h => by cases h
  | n + 1, t, b :: w, h => by
    have hw : w.length = n := by simpa using h
    unfold allw
    rw [List.countP_append, List.countP_map, List.countP_map]
    have ce : ∀ c : Bool, c = b → (allw n).countP ((fun x => decide (dist (b :: w) x ≤ t)) ∘ (c :: ·)) = ball n t := by
      intro c hc
      subst hc
      rw [← ball_count n t w hw]
      refine List.countP_congr fun x _ => ?_
      show (decide (((if c != c then 1 else 0) + dist w x) ≤ t) = true) ↔ _
      have : (c != c) = false := by simp
      rw [this]
      simp
    have cn : ∀ c : Bool, c ≠ b → (allw n).countP ((fun x => decide (dist (b :: w) x ≤ t)) ∘ (c :: ·)) = below n t := by
      intro c hc
      have hb : (b != c) = true := by cases b <;> cases c <;> first | rfl | exact absurd rfl hc
      cases t with
      | zero =>
        show _ = 0
        rw [List.countP_eq_zero]
        intro x _
        show ¬ (decide (((if b != c then 1 else 0) + dist w x) ≤ 0) = true)
        rw [hb]
        simp
      | succ t =>
        show _ = ball n t
        rw [← ball_count n t w hw]
        refine List.countP_congr fun x _ => ?_
        show (decide (((if b != c then 1 else 0) + dist w x) ≤ t + 1) = true) ↔ _
        rw [hb]
        simp
        omega
    cases b with
    | false =>
      rw [ce false rfl, cn true (by decide)]
      cases t with
      | zero => rw [ball_zero, ball_zero]; rfl
      | succ t => rfl
    | true =>
      rw [ce true rfl, cn false (by decide)]
      cases t with
      | zero => rw [ball_zero, ball_zero]; rfl
      | succ t => show ball n t + ball n (t + 1) = ball n (t + 1) + ball n t; omega
/-- words far from each other, counted -/
theorem one_near {t : Nat} {x : List Bool} : ∀ {W : List (List Bool)}, (∀ w ∈ W, w.length = x.length) → W.Pairwise (fun a b => 2 * t < dist a b) → W.countP (fun w => decide (dist w x ≤ t)) ≤ 1
  | [], _, _ => Nat.zero_le _
  | w :: W, h, p => by
    obtain ⟨p1, p2⟩ := List.pairwise_cons.mp p
    have ih := one_near (W := W) (fun v hv => h v (List.mem_cons_of_mem _ hv)) p2
    rw [List.countP_cons]
    by_cases hw : dist w x ≤ t
    · have : W.countP (fun w => decide (dist w x ≤ t)) = 0 := by
        rw [List.countP_eq_zero]
        intro v hv e
        have e := of_decide_eq_true e
        have h1 := p1 v hv
        have h2 := dist_tri (x := w) (y := x) (z := v) (h w List.mem_cons_self) (h v (List.mem_cons_of_mem _ hv)).symm
        rw [dist_comm x v] at h2
        omega
      rw [this]
      split <;> omega
    · rw [if_neg (by simpa using hw)]
      omega
theorem swap_count {α β : Type} (p : α → β → Bool) (as : List α) : ∀ bs : List β, (as.map fun a => bs.countP (p a)).sum = (bs.map fun b => as.countP fun a => p a b).sum
  | [] => by
    induction as with
    | nil => rfl
    | cons a as ih => simpa using ih
  | b :: bs => by
    have ih := swap_count p as bs
    rw [List.map_cons, List.sum_cons, ← ih]
    clear ih
    induction as with
    | nil => rfl
    | cons a as ih =>
      rw [List.map_cons, List.sum_cons, ih, List.map_cons, List.sum_cons, List.countP_cons, List.countP_cons]
      omega
theorem sum_le_len {α : Type} {f : α → Nat} : ∀ {xs : List α}, (∀ x ∈ xs, f x ≤ 1) → (xs.map f).sum ≤ xs.length
  | [], _ => Nat.le_refl _
  | x :: xs, h => by
    rw [List.map_cons, List.sum_cons, List.length_cons]
    have := sum_le_len (xs := xs) fun y hy => h y (List.mem_cons_of_mem _ hy)
    have := h x List.mem_cons_self
    omega
theorem hamming {n t : Nat} {W : List (List Bool)} (h : ∀ w ∈ W, w.length = n) (p : W.Pairwise (fun a b => 2 * t < dist a b)) : W.length * ball n t ≤ 2 ^ n := by
  have e1 : (W.map fun w => (allw n).countP fun x => decide (dist w x ≤ t)).sum = W.length * ball n t := by
    clear p
    induction W with
    | nil => simp
    | cons w W ih =>
      rw [List.map_cons, List.sum_cons, ball_count n t w (h w List.mem_cons_self), ih fun v hv => h v (List.mem_cons_of_mem _ hv), List.length_cons, Nat.succ_mul]
      omega
  rw [← e1, swap_count (fun w x => decide (dist w x ≤ t)), ← allw_len n]
  refine sum_le_len fun x hx => one_near (fun w hw => ?_) p
  rw [h w hw, allw_mem n x hx]
end Hw
namespace K89
open PySem PySem.Spec PyProof.Rows L2 DL
def topS (i : Nat) : Stmt := PySem.Challenge.pw_twentyfours_k89_whole_squares_of_signs.main.body.getD i (.Pass ⟨0, 0, 0, 0⟩)
def c_CONTRARY : (List (Str × Str)) := [("+", "-"), ("-", "+")]
def c_MINUS : Str := "-"
def c_PLUS : Str := "+"
/-- what stands in the module -/
structure Ev (K : PySem.W.Frag) (mg : Str → Option Value) (w : World) : Prop where
  b_abs : mg "abs" = none
  b_bool : mg "bool" = none
  b_enumerate : mg "enumerate" = none
  b_int : mg "int" = none
  b_isinstance : mg "isinstance" = none
  b_len : mg "len" = none
  b_list : mg "list" = none
  b_range : mg "range" = none
  b_sorted : mg "sorted" = none
  b_str : mg "str" = none
  b_zip : mg "zip" = none
  g_CONTRARY : GlobS K mg w "CONTRARY" (c_CONTRARY.map fun p => (p.1, eS p.2))
  g_MINUS : Glob K mg "MINUS" (eS c_MINUS)
  g_PLUS : Glob K mg "PLUS" (eS c_PLUS)
  t_squares_mod : TopFn K mg "squares_mod" (topS 1)
  t_agreeing : TopFn K mg "agreeing" (topS 6)
  t_are_even : TopFn K mg "are_even" (topS 7)
  t_contrary : TopFn K mg "contrary" (topS 8)
  t_doubled_signs : TopFn K mg "doubled_signs" (topS 9)
  t_signs_of_prime : TopFn K mg "signs_of_prime" (topS 10)
  t_plain_signs : TopFn K mg "plain_signs" (topS 11)
  t_blocks_of_signs : TopFn K mg "blocks_of_signs" (topS 12)
  t_count_together : TopFn K mg "count_together" (topS 14)
  t_verdict : TopFn K mg "verdict" (topS 15)
  t__law_feed : TopFn K mg "_law_feed" (topS 17)
  t__law_draw : TopFn K mg "_law_draw" (topS 18)
  t__law_whole : TopFn K mg "_law_whole" (topS 19)
  t__law_numbers : TopFn K mg "_law_numbers" (topS 20)
  t__law_lists : TopFn K mg "_law_lists" (topS 21)
  t__law_turn : TopFn K mg "_law_turn" (topS 22)
  t__law_doubled : TopFn K mg "_law_doubled" (topS 23)
  t__law_of_prime : TopFn K mg "_law_of_prime" (topS 24)
  t__law_mixed : TopFn K mg "_law_mixed" (topS 25)
  t__law_agree : TopFn K mg "_law_agree" (topS 26)
  t__law_is_even : TopFn K mg "_law_is_even" (topS 27)
  t__law_plain : TopFn K mg "_law_plain" (topS 28)
  t__law_strings : TopFn K mg "_law_strings" (topS 29)
  t__law_doubled_right : TopFn K mg "_law_doubled_right" (topS 30)
  t__law_plain_right : TopFn K mg "_law_plain_right" (topS 31)
  t__law_blocks_right : TopFn K mg "_law_blocks_right" (topS 32)
abbrev st__law_feed : Stmt := topS 17
abbrev st__law_draw : Stmt := topS 18
theorem sc__law_feed : FnScope ["script"] ["script"] (defScope st__law_feed) := ⟨rfl, rfl, rfl, by decide +kernel, rfl, by decide +kernel, by decide +kernel⟩
theorem sc__law_draw : FnScope ["feed", "many", "cell", "told", "mixed"] ["feed", "many"] (defScope st__law_draw) := ⟨rfl, rfl, rfl, by decide +kernel, rfl, by decide +kernel, by decide +kernel⟩
theorem ok__law_feed {P : Program} {w : World} {K : PySem.W.Frag} {mg : Str → Option Value} {base : Heap} {f : Addr} {fd : FuncData} (F : Fun K "_law_feed" "_law_feed" st__law_feed f fd) (ml : mg "list" = none) : FnOk P w K mg base CX0 1 f fd ["script"] (spFeed K) := by
  refine F.ok sc__law_feed (fun vs H Q E h => ?_) fun cdv A outer s H vs Q E hr h => ?_
  · obtain ⟨a, ns, rfl, _⟩ := h
    rfl
  · obtain ⟨a, ns, rfl, hS, q⟩ := h
    refine ⟨_, pss_one (ps_ret (pe_lst (pa_cons (pe_callTy call_list_of (by rfl) ml bo_list (pa_cons (pv 0) pa_nil)) (pa_cons pe_int (pa_cons pe_int (pa_cons pe_int pa_nil)))))), ?_⟩
    refine ⟨.ref a, rfl, a, ns.map V.int, rfl, .inl hS, fun l nl => ⟨by show 4 ≤ sizeLine; decide, fun φ nφ => ?_⟩⟩
    have ne : φ ≠ l := fun z => by rw [z, upd_same] at nφ; cases nφ
    rw [upd_ne ne] at nφ
    exact q φ l nφ nl ne
theorem ok__law_draw {P : Program} {w : World} {K : PySem.W.Frag} {mg : Str → Option Value} {base : Heap} {f : Addr} {fd : FuncData} (F : Fun K "_law_draw" "_law_draw" st__law_draw f fd) (ml : mg "len" = none) (ma : mg "abs" = none) (mi : mg "int" = none) : FnOk P w K mg base CX0 1 f fd ["feed", "many"] (spF K (fun m => [none, some (eI m)]) drawW 0 eI) := by
  refine F.ok sc__law_draw (fun vs H Q E h => ?_) fun cdv A outer s H vs Q E hr h => ?_
  · obtain ⟨F, φ, x, _, _, a, _⟩ := h
    rw [a.length]; rfl
  · obtain ⟨F, φ, m, fh, fe, a, ⟨hm0, hm1⟩, q⟩ := h
    obtain ⟨nf, l, ns, i, c, s', e, hl, hn, h1, h2, h3, h4, h5⟩ := fe φ rfl
    cases a with
    | feed e1 a =>
    cases e1
    cases a with
    | val r a =>
    cases a
    cases r
    refine ⟨drT K, pss_cons (ps_if (PW.pt (pw_and (pt_cmpR op_eq (pe_ix ix_list (pv 0) pe_int (fun _ _ => rfl)) pe_int (nomark _)) (pw_and1 (pt_cmpR op_lt (pe_ix ix_list (pv 0) pe_int (fun _ _ => rfl)) (pe_callB call_len_seq (by rfl) ml bo_len (pa_cons (pe_ix ix_list (pv 0) pe_int (fun _ _ => rfl)) pa_nil)) (nomark _)))))
        (pss_cons (ps_set (i := 2) sc__law_draw.nd rfl (.inl rfl) (pe_callB call_abs (by rfl) ma bo_abs (pa_cons (pe_callTy call_int1 (by rfl) mi bo_int (pa_cons (pe_ix ix_list (pe_ix ix_list (pv 0) pe_int (fun _ _ => rfl)) (pe_ix ix_list (pv 0) pe_int (fun _ _ => rfl)) (fun _ _ => rfl)) pa_nil)) pa_nil)))
        (pss_cons (ps_augS (pv 0) pe_int pget_list pe_int ip_add set_list)
        (pss_one (ps_if (pt_cmpR op_ge (pv 2) (pe_op op_pow pe_int pe_int) (nomark _))
          (pss_one (ps_asg (pv 2) (pg_sub (pv 0) pe_int set_list)))
          (pss_one (ps_asg (pe_op op_mod (pe_callTy call_int1 (by rfl) mi bo_int (pa_cons (pe_op op_add (pe_op op_add (pe_op op_mul (pe_ix ix_list (pv 0) pe_int (fun _ _ => rfl)) pe_int) (pe_op op_mul (pv 2) pe_int)) (pe_ix ix_list (pv 0) pe_int (fun _ _ => rfl))) pa_nil)) pe_int) (pg_sub (pv 0) pe_int set_list))))))) pss_nil)
      (pss_cons (ps_if (pt_cmpR op_gt (pe_ix ix_list (pv 0) pe_int (fun _ _ => rfl)) pe_int (nomark _))
        (pss_cons (ps_set (i := 3) sc__law_draw.nd rfl (.inl rfl) (pe_op op_mod (pe_callTy call_int1 (by rfl) mi bo_int (pa_cons (pe_ix ix_list (pv 0) pe_int (fun _ _ => rfl)) pa_nil)) (pv 1)))
        (pss_cons (ps_asg (pe_op op_fdiv (pe_ix ix_list (pv 0) pe_int (fun _ _ => rfl)) (pv 1)) (pg_sub (pv 0) pe_int set_list)) (pss_one (ps_ret (pv 3))))) pss_nil)
      (pss_cons (ps_asg (pe_op op_mod (pe_callTy call_int1 (by rfl) mi bo_int (pa_cons (pe_op op_add (pe_op op_mul (pe_ix ix_list (pv 0) pe_int (fun _ _ => rfl)) pe_int) pe_int) pa_nil)) pe_int) (pg_sub (pv 0) pe_int set_list))
      (pss_cons (ps_set (i := 4) sc__law_draw.nd rfl (.inl rfl) (pe_op op_mod (pe_callTy call_int1 (by rfl) mi bo_int (pa_cons (pe_op op_add (pe_op op_mul (pe_ix ix_list (pv 0) pe_int (fun _ _ => rfl)) (pe_ix ix_list (pv 0) pe_int (fun _ _ => rfl))) (pe_ix ix_list (pv 0) pe_int (fun _ _ => rfl))) pa_nil)) pe_int))
      (pss_one (ps_ret (pe_op op_mod (pe_op op_fdiv (pv 4) pe_int) (pv 1))))))), ?_⟩
    exact draw1 hm0 hm1 ⟨e, fun _ _ => rfl, hl, fh, nf, hn, h1, h2, h3, h4, h5⟩ fun H' v S v0 v1 => Post.sc (md := .ow 0) S.fh S.fe (Post.back fe S (q v v0 v1)) rfl (.int v)
theorem h__law_feed {P : Program} {w : World} {K : PySem.W.Frag} {mg : Str → Option Value} {base : Heap} (V : Ev K mg w) : ∃ (f : Addr) (fd : FuncData), FnOk P w K mg base CX0 1 f fd ["script"] (spFeed K) ∧ mg "_law_feed" = some (.ref f) ∧ PySem.W.keepIn K (.ref f) = true ∧ Binds K fd ["script"] [] := by
  obtain ⟨f, fd, F, hm⟩ := V.t__law_feed
  exact ⟨f, fd, ok__law_feed F V.b_list, hm, F.kp, F.binds fun _ _ _ _ _ _ us hl => match us, hl with | [_], _ => rfl⟩
theorem h__law_draw {P : Program} {w : World} {K : PySem.W.Frag} {mg : Str → Option Value} {base : Heap} (V : Ev K mg w) : HasDef P w K mg base "_law_draw" 1 (spF K (fun m => [none, some (eI m)]) drawW 0 eI) := by
  obtain ⟨f, fd, F, hm⟩ := V.t__law_draw
  exact ⟨f, fd, _, ok__law_draw F V.b_len V.b_abs V.b_int, hm, F.kp, F.binds fun _ _ _ _ _ _ us hl => match us, hl with | [_, _], _ => rfl⟩
abbrev st_squares_mod : Stmt := topS 1
theorem sc_squares_mod : FnScope ["p", "number"] ["p"] (defScope st_squares_mod) := ⟨rfl, rfl, rfl, by decide +kernel, rfl, by decide +kernel, by decide +kernel⟩
def f_squares_mod (a : Int) : Option (List Int) :=
  ((Run.lift (irng 1 a) : Option (List Int)) >>= fun xs4 => (Run.lift (lshort xs4) : Option (List Int)) >>= fun xs4 => lcM (fun (x1 : Int) => (pure (true) : Option Bool)) (fun (x1 : Int) => ((Run.lift (imul x1 x1) : Option Int) >>= fun x2 => (Run.lift (imod x2 a) : Option Int))) xs4 >>= fun ys5 => (pure (ssort ys5) : Option (List Int)))
theorem h_squares_mod {P : Program} {w : World} {K : PySem.W.Frag} {mg : Str → Option Value} {base : Heap} (V : Ev K mg w) : HasDef P w K mg base "squares_mod" 1 (spD K (fun (a : Int) => [eI a]) f_squares_mod 1 (eL eI)) :=
  hd_D (k := 0) (sl := fun (a : Int) => [some (.v (eI (a))), none]) V.t_squares_mod sc_squares_mod (fun _ _ _ _ _ _ us hl => match us, hl with | [_], _ => rfl) (fun _ => rfl) (fun _ => rfl) (fun f cdv A outer s H E hr b (a : Int) => ds_eq (
    (ds_ret0 (dm_nset rfl V.b_sorted sc_squares_mod.nd (di_b2 (k := fun (kx : Int) (ky : Int) => (Run.lift (irng kx ky) : Option (List Int))) (di_rng2 V.b_range (da_pk dm_int) (da_pk' (n := 0) (dm_name 0 eI (a))))) (blkOk_by (own := [("number", 1)]) (by rfl)) (gt_name 1) (fun _ _ _ _ _ => (pg_name (i := 1) sc_squares_mod.nd rfl (.inl rfl))) lt_no (fun _ _ _ _ _ x1 => (dm_b01 (k := fun (kx : Int) (ky : Int) => (Run.lift (imod kx ky) : Option Int)) (dm_op op_mod (da_pk (dm_b2 (k := fun (kx : Int) (ky : Int) => (Run.lift (imul kx ky) : Option Int)) (dm_op op_mul (da_pk' (n := 0) (dm_name 1 eI (x1))) (da_pk' (n := 0) (dm_name 1 eI (x1))) os_mul))) (da_pk' (n := 0) (dm_name 0 eI (a))) os_mod)))))) rfl)
abbrev st_agreeing : Stmt := topS 6
theorem sc_agreeing : FnScope ["row", "other", "one", "two"] ["row", "other"] (defScope st_agreeing) := ⟨rfl, rfl, rfl, by decide +kernel, rfl, by decide +kernel, by decide +kernel⟩
def f_agreeing (a : (Str × Str)) : Option Int :=
  (((Run.lift (szip a.1 a.2) : Option (List (Str × Str))) >>= fun xs2 => (pure ((List.map (fun (x1 : (Str × Str)) => true) (List.filter (fun (x1 : (Str × Str)) => (x1.1 == x1.2)) xs2))) : Option (List Bool))) >>= fun x3 => (pure ((List.length x3 : Int)) : Option Int))
theorem h_agreeing {P : Program} {w : World} {K : PySem.W.Frag} {mg : Str → Option Value} {base : Heap} (V : Ev K mg w) : HasDef P w K mg base "agreeing" 1 (spD K (fun (a : (Str × Str)) => [eS a.1, eS a.2]) f_agreeing 0 eI) :=
  hd_D (k := 0) (sl := fun (a : (Str × Str)) => [some (.v (eS (a.1))), some (.v (eS (a.2))), none, none]) V.t_agreeing sc_agreeing (fun _ _ _ _ _ _ us hl => match us, hl with | [_, _], _ => rfl) (fun _ => rfl) (fun _ => rfl) (fun f cdv A outer s H E hr b (a : (Str × Str)) => ds_eq (
    (ds_ret0 (dm_cB call_len_seq os_len V.b_len bo_len (da_pk' (n := 1) (dm_lcF' (dm_lc' rfl sc_agreeing.nd (di_b2 (k := fun (kx : Str) (ky : Str) => (Run.lift (szip kx ky) : Option (List (Str × Str)))) (di_zipS (fz := false) V.b_zip (da_pk' (n := 0) (dm_name 0 eS (a.1))) (da_pk' (n := 0) (dm_name 1 eS (a.2))))) (blkOk_by (own := [("one", 2), ("two", 3)]) (by rfl)) (gt_tup2 2 3) (fun _ _ _ _ _ => (pg_tup rfl (pgs_cons (pg_name (i := 2) sc_agreeing.nd rfl (.inl rfl)) (pgs_cons (pg_name (i := 3) sc_agreeing.nd rfl (.inl rfl)) pgs_nil)))) (lt_if fun _ _ _ _ _ x1 => (dt_b2 (k := fun (kx : Str) (ky : Str) => (pure ((kx == ky)) : Option Bool)) (dt_cmp (op_eqP hr.units) (da_pk' (n := 0) (dm_name 2 eS (x1.1))) (da_pk' (n := 0) (dm_name 3 eS (x1.2))) (os_eq (by decide)) (nomark _)))) (fun _ _ _ _ _ x1 => dm_bool))))))) rfl)
abbrev st_are_even : Stmt := topS 7
theorem sc_are_even : FnScope ["rows", "i", "row", "j", "many"] ["rows"] (defScope st_are_even) := ⟨rfl, rfl, rfl, by decide +kernel, rfl, by decide +kernel, by decide +kernel⟩
def f_are_even (a : (List Str)) : Option D :=
  (((pure ((enumI a)) : Option (List (Int × Str))) >>= fun xs14 => forC (fun (s1 : Unit) (x3 : (Int × Str)) => ((((Run.lift (irng (x3.1 + 1) (List.length a : Int)) : Option (List Int)) >>= fun xs11 => forC (fun (s4 : Unit) (x6 : Int) => ((((Run.lift (atI a x6) : Option Str) >>= fun a8 => (Run.lift (f_agreeing (x3.2, a8)) : Option Int)) >>= fun (v7_many : Int) =>
    ((pure (((2 * v7_many) != (List.length a : Int))) : Option Bool) >>= fun t9 => if t9 then (pure (((eT eD) ([(eS "odd"), (eI x3.1), (eI x6), (eI v7_many)] : (List D)))) : Option D) >>= fun r10 => (pure (Ct.rt r10) : Option _) else
    (pure (Ct.nx ()) : Option _))) : Option (Ct Unit D))) () xs11) >>= fun z12 => z12.go (fun s5 =>
    (pure (Ct.nx ()) : Option _)) (fun r13 => (pure (Ct.rt r13) : Option _))) : Option (Ct Unit D))) () xs14) >>= fun z15 => z15.go (fun s2 =>
    (pure (((eT eS) (["even"] : (List Str)))) : Option D)) (fun r16 => (pure (r16) : Option _)))
theorem h_are_even {P : Program} {w : World} {K : PySem.W.Frag} {mg : Str → Option Value} {base : Heap} (V : Ev K mg w) : HasDef P w K mg base "are_even" 2 (spD K (fun (a : (List Str)) => [(eL eS) a]) f_are_even 0 eD) :=
  hd_D (k := 1) (sl := fun (a : (List Str)) => [some (.v ((eL eS) (a))), none, none, none, none]) V.t_are_even sc_are_even (fun _ _ _ _ _ _ us hl => match us, hl with | [_], _ => rfl) (fun _ => rfl) (fun _ => rfl) (fun f cdv A outer s H E hr b (a : (List Str)) => ds_eq (
    (ds_seqC (oR := (fun r => Oc.rt 0 (eD r))) (f := fun r => r) (ds_forC (Ef := (fun (s1 : Unit) => [some (.v ((eL eS) (a))), none, none, none, none])) (s0 := ()) (oR := (fun r => Oc.rt 0 (eD r))) (fun _ => ⟨_, _, rfl⟩) PassesOwn.never rfl (di_b1 (k := fun (kx : (List Str)) => (pure ((enumI kx)) : Option (List (Int × Str)))) (di_enumF V.b_enumerate (da_fr (n := 0) (dm_name 0 (eL eS) (a))))) (gt_tup2 1 2) (pg_tup rfl (pgs_cons (pg_name (i := 1) sc_are_even.nd rfl (.inl rfl)) (pgs_cons (pg_name (i := 2) sc_are_even.nd rfl (.inl rfl)) pgs_nil))) ⟨rfl, trivial⟩ (fun s1 x3 =>
    (ds_seqC (oR := (fun r => Oc.rt 0 (eD r))) (f := Ct.rt) (ds_forC (Ef := (fun (s4 : Unit) => [some (.v ((eL eS) (a))), some (.v (eI (x3.1))), some (.v (eS (x3.2))), none, none])) (s0 := ()) (oR := (fun r => Oc.rt 0 (eD r))) (fun _ => ⟨_, _, rfl⟩) PassesOwn.never rfl (di_b2 (k := fun (kx : Int) (ky : Int) => (Run.lift (irng kx ky) : Option (List Int))) (di_rng2 V.b_range (da_pk (dm_b2 (k := fun (kx : Int) (ky : Int) => (pure ((kx + ky)) : Option Int)) (dm_op op_add (da_pk' (n := 0) (dm_name 1 eI (x3.1))) (da_pk dm_int) os_II))) (da_pk (dm_b1 (k := fun (kx : (List Str)) => (pure ((List.length kx : Int)) : Option Int)) (dm_cB call_len_seq os_len V.b_len bo_len (da_pk' (n := 0) (dm_name 0 (eL eS) (a)))))))) (gt_name 3) (pg_name (i := 3) sc_are_even.nd rfl (.inl rfl)) ⟨rfl, rfl, rfl, trivial⟩ (fun s4 x6 =>
    (ds_seq (ds_setV 4 (dc_call (h_agreeing V) (hr.mono (by decide)) (ca_consT (da_fr (n := 0) (dm_name 2 eS (x3.2))) (ca_cons (da_fr (n := 0) (dm_b2 (k := fun (kx : (List Str)) (ky : Int) => (Run.lift (atI kx ky) : Option Str)) (dm_ix ix_list (da_sh (n := 0) (dm_name 0 (eL eS) (a))) (da_pk' (n := 0) (dm_name 3 eI (x6))) os_ixL (fun _ _ => rfl)))) (fun a8 => (ca_nil (M := (Run.lift (f_agreeing (x3.2, a8)) : Option Int)))))) (fun ds k h => by obtain ⟨_, rfl, a8, _, rfl, rfl, h⟩ := h; exact ⟨(x3.2, a8), rfl, h⟩)) sc_are_even.nd) fun v7_many =>
    (ds_ifR (oA := (fun r => Oc.rt 0 (eD r))) (f := Ct.rt) (dt_b2 (k := fun (kx : Int) (ky : Int) => (pure ((kx != ky)) : Option Bool)) (dt_cmp (op_neP hr.units) (da_pk (dm_b1 (k := fun (kx : Int) => (pure ((2 * kx)) : Option Int)) (dm_opL op_mul (da_pk dm_int) (da_pk' (n := 0) (dm_name 4 eI (v7_many))) (os_mulL (n := 2) (by decide))))) (da_pk (dm_b1 (k := fun (kx : (List Str)) => (pure ((List.length kx : Int)) : Option Int)) (dm_cB call_len_seq os_len V.b_len bo_len (da_pk' (n := 0) (dm_name 0 (eL eS) (a)))))) (os_ne (by decide)) (nomark _))) (ds_ret0 (dm_fr (n := 1) (dm_encP (g' := eD) (f := (eT eD)) (dm_tupL (dl_consT (dm_encP (g' := eD) (f := eS) dm_str rfl) (dl_consT (dm_encP (g' := eD) (f := eI) (dm_name 1 eI (x3.1)) rfl) (dl_consT (dm_encP (g' := eD) (f := eI) (dm_name 3 eI (x6)) rfl) (dl_consT (dm_encP (g' := eD) (f := eI) (dm_name 4 eI (v7_many)) rfl) (dl_nil (g := eD) (n := 0))))))) rfl))) (fun _ => ⟨fun _ h => (by cases h), rfl⟩)
    (ds_nil (z := Ct.nx ()) rfl ⟨rfl, rfl, rfl, trivial⟩))))) (fun _ => ⟨_, _, rfl⟩) (fun _ => rfl) fun s5 =>
    (ds_nil (z := Ct.nx ()) rfl ⟨rfl, trivial⟩)))) (fun _ => ⟨_, _, rfl⟩) (fun _ => rfl) fun s2 =>
    (ds_ret0 (dm_fr (n := 1) (dm_encP (g' := eD) (f := (eT eS)) (dm_tupL (dl_consT dm_str (dl_nil (g := eS) (n := 0)))) rfl))))) rfl)
abbrev st_contrary : Stmt := topS 8
theorem sc_contrary : FnScope ["row", "sign"] ["row"] (defScope st_contrary) := ⟨rfl, rfl, rfl, by decide +kernel, rfl, by decide +kernel, by decide +kernel⟩
def f_contrary (a : Str) : Option Str :=
  (((Run.lift ((if Str.length a ≤ 16777216 then some (schars a) else none)) : Option (List Str)) >>= lcM (fun (x1 : Str) => (pure (true) : Option Bool)) (fun (x1 : Str) => (Run.lift (dgetS c_CONTRARY x1) : Option Str))) >>= fun y3 => (Run.lift (sjoin "" y3) : Option Str))
theorem h_contrary {P : Program} {w : World} {K : PySem.W.Frag} {mg : Str → Option Value} {base : Heap} (V : Ev K mg w) : HasDef P w K mg base "contrary" 1 (spD K (fun (a : Str) => [eS a]) f_contrary 0 eS) :=
  hd_D (k := 0) (sl := fun (a : Str) => [some (.v (eS (a))), none]) V.t_contrary sc_contrary (fun _ _ _ _ _ _ us hl => match us, hl with | [_], _ => rfl) (fun _ => rfl) (fun _ => rfl) (fun f cdv A outer s H E hr b (a : Str) => ds_eq (
    (ds_ret0 (dm_b1 (k := fun (kx : Str) => ((Run.lift ((if Str.length a ≤ 16777216 then some (schars a) else none)) : Option (List Str)) >>= lcM (fun (x1 : Str) => (pure (true) : Option Bool)) (fun (x1 : Str) => (Run.lift (dgetS c_CONTRARY x1) : Option Str))) >>= fun (ky : (List Str)) => (Run.lift (sjoin kx ky) : Option Str)) (dm_join (da_pk dm_str) (da_pk' (n := 1) (dm_lc' rfl sc_contrary.nd (di_b1 (k := fun (kx : Str) => (Run.lift ((if Str.length kx ≤ 16777216 then some (schars kx) else none)) : Option (List Str))) (di_str (fz := false) (da_pk' (n := 0) (dm_name 0 eS (a))))) (blkOk_by (own := [("sign", 1)]) (by rfl)) (gt_name 1) (fun _ _ _ _ _ => (pg_name (i := 1) sc_contrary.nd rfl (.inl rfl))) lt_no (fun _ _ _ _ _ x1 => (dm_b1 (k := fun (kx : Str) => (Run.lift (dgetS c_CONTRARY kx) : Option Str)) (dm_kgetS (ps := c_CONTRARY) V.g_CONTRARY (da_pk' (n := 0) (dm_name 1 eS (x1))) (fun _ _ => rfl)))))))))) rfl)
abbrev st_doubled_signs : Stmt := topS 9
theorem sc_doubled_signs : FnScope ["rows", "row"] ["rows"] (defScope st_doubled_signs) := ⟨rfl, rfl, rfl, by decide +kernel, rfl, by decide +kernel, by decide +kernel⟩
def f_doubled_signs (a : (List Str)) : Option (List Str) :=
  ((lcM (fun (x1 : Str) => (pure (true) : Option Bool)) (fun (x1 : Str) => (Run.lift (scat x1 x1) : Option Str)) a) >>= fun x5 => (lcM (fun (x2 : Str) => (pure (true) : Option Bool)) (fun (x2 : Str) => (((Run.lift (f_contrary (x2)) : Option Str)) >>= fun y4 => (Run.lift (scat x2 y4) : Option Str))) a) >>= fun y6 => (Run.lift (lcat x5 y6) : Option (List Str)))
theorem h_doubled_signs {P : Program} {w : World} {K : PySem.W.Frag} {mg : Str → Option Value} {base : Heap} (V : Ev K mg w) : HasDef P w K mg base "doubled_signs" 2 (spD K (fun (a : (List Str)) => [(eL eS) a]) f_doubled_signs 1 (eL eS)) :=
  hd_D (k := 1) (sl := fun (a : (List Str)) => [some (.v ((eL eS) (a))), none]) V.t_doubled_signs sc_doubled_signs (fun _ _ _ _ _ _ us hl => match us, hl with | [_], _ => rfl) (fun _ => rfl) (fun _ => rfl) (fun f cdv A outer s H E hr b (a : (List Str)) => ds_eq (
    (ds_ret0 (dm_op op_cat (da_sh (n := 1) (dm_b1 (dm_lc' rfl sc_doubled_signs.nd (di_list (da_sh (n := 0) (dm_name 0 (eL eS) (a)))) (blkOk_by (own := [("row", 1)]) (by rfl)) (gt_name 1) (fun _ _ _ _ _ => (pg_name (i := 1) sc_doubled_signs.nd rfl (.inl rfl))) lt_no (fun _ _ _ _ _ x1 => (dm_b2 (k := fun (kx : Str) (ky : Str) => (Run.lift (scat kx ky) : Option Str)) (dm_op op_add_str (da_pk' (n := 0) (dm_name 1 eS (x1))) (da_pk' (n := 0) (dm_name 1 eS (x1))) os_scat)))))) (da_sh (n := 1) (dm_b1 (dm_lc' rfl sc_doubled_signs.nd (di_list (da_sh (n := 0) (dm_name 0 (eL eS) (a)))) (blkOk_by (own := [("row", 1)]) (by rfl)) (gt_name 1) (fun _ _ _ _ _ => (pg_name (i := 1) sc_doubled_signs.nd rfl (.inl rfl))) lt_no (fun _ _ _ _ _ x2 => (dm_b1 (k := fun (kx : Str) => ((Run.lift (f_contrary (x2)) : Option Str)) >>= fun (ky : Str) => (Run.lift (scat kx ky) : Option Str)) (dm_op op_add_str (da_pk' (n := 0) (dm_name 1 eS (x2))) (da_pk' (n := 0) (dc_call (h_contrary V) (hr.mono (by decide)) (ca_consT (da_fr (n := 0) (dm_name 1 eS (x2))) (ca_nil (M := (Run.lift (f_contrary (x2)) : Option Str)))) (fun ds k h => by obtain ⟨_, rfl, rfl, h⟩ := h; exact ⟨(x2), rfl, h⟩))) os_scat)))))) (os_cat nl1)))) rfl)
abbrev st_signs_of_prime : Stmt := topS 10
theorem sc_signs_of_prime : FnScope ["p", "squares", "rows", "i", "j"] ["p"] (defScope st_signs_of_prime) := ⟨rfl, rfl, rfl, by decide +kernel, rfl, by decide +kernel, by decide +kernel⟩
def f_signs_of_prime (a : Int) : Option (List Str) :=
  (((Run.lift (f_squares_mod (a)) : Option (List Int))) >>= fun (v1_squares : (List Int)) =>
    (((Run.lift (smul c_PLUS (a + 1)) : Option Str) >>= fun x3 => (pure ([]) : Option (List Str)) >>= fun xs4 => (pure (x3 :: xs4) : Option (List Str))) >>= fun (v2_rows : (List Str)) =>
    (((Run.lift (irng 0 a) : Option (List Int)) >>= fun xs17 => forS (fun (s5 : (List Str)) (x7 : Int) => (((((((Run.lift (irng 0 a) : Option (List Int)) >>= lcM (fun (x8 : Int) => (pure (true) : Option Bool)) (fun (x8 : Int) => (((Run.lift (imod (x8 - x7) a) : Option Int) >>= fun x9 => (pure ((lin x9 v1_squares)) : Option Bool)) >>= fun t => if t then (pure (c_PLUS) : Option Str) else (pure (c_MINUS) : Option Str)))) >>= fun y12 => (Run.lift (sjoin "" y12) : Option Str)) >>= fun y14 => (Run.lift (scat c_PLUS y14) : Option Str)) >>= fun y16 => (Run.lift (lapp s5 y16) : Option (List Str))) >>= fun (v15_rows : (List Str)) =>
    (pure v15_rows : Option _)) : Option (List Str))) v2_rows xs17) >>= fun s6 =>
    (pure s6 : Option _))))
theorem h_signs_of_prime {P : Program} {w : World} {K : PySem.W.Frag} {mg : Str → Option Value} {base : Heap} (V : Ev K mg w) : HasDef P w K mg base "signs_of_prime" 2 (spD K (fun (a : Int) => [eI a]) f_signs_of_prime 1 (eL eS)) :=
  hd_D (k := 1) (sl := fun (a : Int) => [some (.v (eI (a))), none, none, none, none]) V.t_signs_of_prime sc_signs_of_prime (fun _ _ _ _ _ _ us hl => match us, hl with | [_], _ => rfl) (fun _ => rfl) (fun _ => rfl) (fun f cdv A outer s H E hr b (a : Int) => ds_eq (
    (ds_seq (ds_setV 1 (dm_fr (n := 1) (dc_call (h_squares_mod V) (hr.mono (by decide)) (ca_consT (da_fr (n := 0) (dm_name 0 eI (a))) (ca_nil (M := (Run.lift (f_squares_mod (a)) : Option (List Int))))) (fun ds k h => by obtain ⟨_, rfl, rfl, h⟩ := h; exact ⟨(a), rfl, h⟩))) sc_signs_of_prime.nd) fun v1_squares =>
    (ds_seq (ds_setO 2 (n := 1) (dm_list (dl_cons (dm_b2 (k := fun (kx : Str) (ky : Int) => (Run.lift (smul kx ky) : Option Str)) (dm_op op_smul (da_pk' (n := 0) (dm_glob (g := eS) (a := c_PLUS) V.g_PLUS)) (da_pk (dm_b2 (k := fun (kx : Int) (ky : Int) => (pure ((kx + ky)) : Option Int)) (dm_op op_add (da_pk' (n := 0) (dm_name 0 eI (a))) (da_pk dm_int) os_II))) os_smul)) (dl_nil (g := eS) (n := 0)))) sc_signs_of_prime.nd) fun v2_rows =>
    (ds_seq (ds_for (Ef := (fun (s5 : (List Str)) => [some (.v (eI (a))), some (.v ((eL eI) (v1_squares))), some (.o 1 ((eL eS) (s5))), none, none])) (s0 := v2_rows) PassesOwn.never rfl (di_b1 (k := fun (kx : Int) => (Run.lift (irng 0 kx) : Option (List Int))) (di_rng1 V.b_range (da_pk' (n := 0) (dm_name 0 eI (a))))) (gt_name 3) (pg_name (i := 3) sc_signs_of_prime.nd rfl (.inr rfl)) ⟨rfl, rfl, rfl, trivial⟩ (fun s5 x7 =>
    (ds_seq (ds_append 2 (s5) (dm_b1 (k := fun (kx : Str) => (((Run.lift (irng 0 a) : Option (List Int)) >>= lcM (fun (x8 : Int) => (pure (true) : Option Bool)) (fun (x8 : Int) => (((Run.lift (imod (x8 - x7) a) : Option Int) >>= fun x9 => (pure ((lin x9 v1_squares)) : Option Bool)) >>= fun t => if t then (pure (c_PLUS) : Option Str) else (pure (c_MINUS) : Option Str)))) >>= fun y12 => (Run.lift (sjoin "" y12) : Option Str)) >>= fun (ky : Str) => (Run.lift (scat kx ky) : Option Str)) (dm_op op_add_str (da_pk' (n := 0) (dm_glob (g := eS) (a := c_PLUS) V.g_PLUS)) (da_pk (dm_b1 (k := fun (kx : Str) => ((Run.lift (irng 0 a) : Option (List Int)) >>= lcM (fun (x8 : Int) => (pure (true) : Option Bool)) (fun (x8 : Int) => (((Run.lift (imod (x8 - x7) a) : Option Int) >>= fun x9 => (pure ((lin x9 v1_squares)) : Option Bool)) >>= fun t => if t then (pure (c_PLUS) : Option Str) else (pure (c_MINUS) : Option Str)))) >>= fun (ky : (List Str)) => (Run.lift (sjoin kx ky) : Option Str)) (dm_join (da_pk dm_str) (da_pk' (n := 1) (dm_lc' rfl sc_signs_of_prime.nd (di_b1 (k := fun (kx : Int) => (Run.lift (irng 0 kx) : Option (List Int))) (di_rng1 V.b_range (da_pk' (n := 0) (dm_name 0 eI (a))))) (blkOk_by (own := [("j", 4)]) (by rfl)) (gt_name 4) (fun _ _ _ _ _ => (pg_name (i := 4) sc_signs_of_prime.nd rfl (.inl rfl))) lt_no (fun _ _ _ _ _ x8 => (dm_if (dt_b01 (k := fun (kx : Int) (ky : (List Int)) => (pure ((lin kx ky)) : Option Bool)) (dt_cmp (op_inP hr.units) (da_pk (dm_b2 (k := fun (kx : Int) (ky : Int) => (Run.lift (imod kx ky) : Option Int)) (dm_op op_mod (da_pk (dm_b2 (k := fun (kx : Int) (ky : Int) => (pure ((kx - ky)) : Option Int)) (dm_op op_sub (da_pk' (n := 0) (dm_name 4 eI (x8))) (da_pk' (n := 0) (dm_name 3 eI (x7))) os_II))) (da_pk' (n := 0) (dm_name 0 eI (a))) os_mod))) (da_pk' (n := 0) (dm_name 1 (eL eI) (v1_squares))) (os_in (by decide)) (by first | exact nomark _ | exact nobehind _ (by decide) (by decide) | rfl))) (dm_glob (g := eS) (a := c_PLUS) V.g_PLUS) (dm_glob (g := eS) (a := c_MINUS) V.g_MINUS)))))))) os_scat))) fun v15_rows =>
    (ds_nil (z := v15_rows) rfl ⟨rfl, rfl, rfl, trivial⟩)))) fun s6 =>
    (ds_retN 2 (eL eS) (s6) (s6) rfl))))) rfl)
abbrev st_plain_signs : Stmt := topS 11
theorem sc_plain_signs : FnScope ["rows", "turned", "first", "row", "sign", "begin"] ["rows"] (defScope st_plain_signs) := ⟨rfl, rfl, rfl, by decide +kernel, rfl, by decide +kernel, by decide +kernel⟩
def f_plain_signs (a : (List Str)) : Option (List Str) :=
  ((lcM (fun (x2 : Str) => (pure (true) : Option Bool)) (fun (x2 : Str) => (((Run.lift (sat x2 0) : Option Str) >>= fun x3 => (pure ((x3 == c_MINUS)) : Option Bool)) >>= fun t => if t then ((Run.lift (f_contrary (x2)) : Option Str)) else (pure (x2) : Option Str))) a) >>= fun (v1_turned : (List Str)) =>
    ((Run.lift (atI v1_turned 0) : Option Str) >>= fun (v5_first : Str) =>
    (lcM (fun (x6 : Str) => (pure (true) : Option Bool)) (fun (x6 : Str) => (((Run.lift (szip x6 v5_first) : Option (List (Str × Str))) >>= fun xs8 => (pure ((List.map (fun (x7 : (Str × Str)) => (if (x7.1 == x7.2) then c_PLUS else c_MINUS)) xs8)) : Option (List Str))) >>= fun y10 => (Run.lift (sjoin "" y10) : Option Str))) v1_turned)))
theorem h_plain_signs {P : Program} {w : World} {K : PySem.W.Frag} {mg : Str → Option Value} {base : Heap} (V : Ev K mg w) : HasDef P w K mg base "plain_signs" 2 (spD K (fun (a : (List Str)) => [(eL eS) a]) f_plain_signs 1 (eL eS)) :=
  hd_D (k := 1) (sl := fun (a : (List Str)) => [some (.v ((eL eS) (a))), none, none, none, none, none]) V.t_plain_signs sc_plain_signs (fun _ _ _ _ _ _ us hl => match us, hl with | [_], _ => rfl) (fun _ => rfl) (fun _ => rfl) (fun f cdv A outer s H E hr b (a : (List Str)) => ds_eq (
    (ds_seq (ds1_b (ds_lcV (n := 0) 1 rfl sc_plain_signs.nd (di_list (da_sh (n := 0) (dm_name 0 (eL eS) (a)))) (blkOk_by (own := [("row", 3)]) (by rfl)) (gt_name 3) (fun _ _ _ _ _ => (pg_name (i := 3) sc_plain_signs.nd rfl (.inl rfl))) lt_no (fun _ _ _ _ _ x2 => (dm_if (dt_b01 (k := fun (kx : Str) (ky : Str) => (pure ((kx == ky)) : Option Bool)) (dt_cmp (op_eqP hr.units) (da_pk (dm_b2 (k := fun (kx : Str) (ky : Int) => (Run.lift (sat kx ky) : Option Str)) (dm_ix ix_str (da_pk' (n := 0) (dm_name 3 eS (x2))) (da_pk dm_int) os_sat (fun _ _ => rfl)))) (da_pk' (n := 0) (dm_glob (g := eS) (a := c_MINUS) V.g_MINUS)) (os_eq (by decide)) (nomark _))) (dc_call (h_contrary V) (hr.mono (by decide)) (ca_consT (da_fr (n := 0) (dm_name 3 eS (x2))) (ca_nil (M := (Run.lift (f_contrary (x2)) : Option Str)))) (fun ds k h => by obtain ⟨_, rfl, rfl, h⟩ := h; exact ⟨(x2), rfl, h⟩)) (dm_name 3 eS (x2)))))) fun v1_turned =>
    (ds_seq (ds_setV 2 (dm_b2 (k := fun (kx : (List Str)) (ky : Int) => (Run.lift (atI kx ky) : Option Str)) (dm_ix ix_list (da_sh (n := 0) (dm_name 1 (eL eS) (v1_turned))) (da_pk dm_int) os_ixL (fun _ _ => rfl))) sc_plain_signs.nd) fun v5_first =>
    (ds_ret0 (dm_b1 (dm_lc' rfl sc_plain_signs.nd (di_list (da_sh (n := 0) (dm_name 1 (eL eS) (v1_turned)))) (blkOk_by (own := [("row", 3)]) (by rfl)) (gt_name 3) (fun _ _ _ _ _ => (pg_name (i := 3) sc_plain_signs.nd rfl (.inl rfl))) lt_no (fun _ _ _ _ _ x6 => (dm_b1 (k := fun (kx : Str) => ((Run.lift (szip x6 v5_first) : Option (List (Str × Str))) >>= fun xs8 => (pure ((List.map (fun (x7 : (Str × Str)) => (if (x7.1 == x7.2) then c_PLUS else c_MINUS)) xs8)) : Option (List Str))) >>= fun (ky : (List Str)) => (Run.lift (sjoin kx ky) : Option Str)) (dm_join (da_pk dm_str) (da_pk' (n := 1) (dm_lcT' (dm_lc' rfl sc_plain_signs.nd (di_b2 (k := fun (kx : Str) (ky : Str) => (Run.lift (szip kx ky) : Option (List (Str × Str)))) (di_zipS (fz := false) V.b_zip (da_pk' (n := 0) (dm_name 3 eS (x6))) (da_pk' (n := 0) (dm_name 2 eS (v5_first))))) (blkOk_by (own := [("sign", 4), ("begin", 5)]) (by rfl)) (gt_tup2 4 5) (fun _ _ _ _ _ => (pg_tup rfl (pgs_cons (pg_name (i := 4) sc_plain_signs.nd rfl (.inl rfl)) (pgs_cons (pg_name (i := 5) sc_plain_signs.nd rfl (.inl rfl)) pgs_nil)))) lt_no (fun _ _ _ _ _ x7 => (dm_ifT (dt_b2 (k := fun (kx : Str) (ky : Str) => (pure ((kx == ky)) : Option Bool)) (dt_cmp (op_eqP hr.units) (da_pk' (n := 0) (dm_name 4 eS (x7.1))) (da_pk' (n := 0) (dm_name 5 eS (x7.2))) (os_eq (by decide)) (nomark _))) (dm_glob (g := eS) (a := c_PLUS) V.g_PLUS) (dm_glob (g := eS) (a := c_MINUS) V.g_MINUS))))))))))))))) rfl)
abbrev st_blocks_of_signs : Stmt := topS 12
theorem sc_blocks_of_signs : FnScope ["rows", "found", "row", "at"] ["rows"] (defScope st_blocks_of_signs) := ⟨rfl, rfl, rfl, by decide +kernel, rfl, by decide +kernel, by decide +kernel⟩
def f_blocks_of_signs (a : (List Str)) : Option (List (List Int)) :=
  ((pure (([] : (List (List Int)))) : Option (List (List Int))) >>= fun (v1_found : (List (List Int))) =>
    (((((Run.lift (f_plain_signs (a)) : Option (List Str))) >>= fun x4 => (pure (some 1 : Option Int) : Option (Option Int)) >>= fun l5 => (pure (none : Option Int) : Option (Option Int)) >>= fun h6 => (pure (lcut x4 l5 h6) : Option (List Str))) >>= fun xs15 => forS (fun (s2 : (List (List Int))) (x7 : Str) => ((((((Run.lift (slen x7) : Option Int) >>= fun y9 => (Run.lift (irng 1 y9) : Option (List Int))) >>= lcM (fun (x10 : Int) => ((Run.lift (sat x7 x10) : Option Str) >>= fun x11 => (pure ((x11 == c_PLUS)) : Option Bool))) (fun (x10 : Int) => (pure ((x10 - 1)) : Option Int))) >>= fun y14 => (Run.lift (lapp s2 y14) : Option (List (List Int)))) >>= fun (v13_found : (List (List Int))) =>
    (pure v13_found : Option _)) : Option (List (List Int)))) v1_found xs15) >>= fun s3 =>
    (pure s3 : Option _)))
theorem h_blocks_of_signs {P : Program} {w : World} {K : PySem.W.Frag} {mg : Str → Option Value} {base : Heap} (V : Ev K mg w) : HasDef P w K mg base "blocks_of_signs" 3 (spD K (fun (a : (List Str)) => [(eL eS) a]) f_blocks_of_signs 2 (eL (eL eI))) :=
  hd_D (k := 2) (sl := fun (a : (List Str)) => [some (.v ((eL eS) (a))), none, none, none]) V.t_blocks_of_signs sc_blocks_of_signs (fun _ _ _ _ _ _ us hl => match us, hl with | [_], _ => rfl) (fun _ => rfl) (fun _ => rfl) (fun f cdv A outer s H E hr b (a : (List Str)) => ds_eq (
    (ds_seq (ds_setO 1 (n := 2) (dm_list (dl_nil (g := (eL eI)) (n := 1))) sc_blocks_of_signs.nd) fun v1_found =>
    (ds_seq (ds_for (Ef := (fun (s2 : (List (List Int))) => [some (.v ((eL eS) (a))), some (.o 2 ((eL (eL eI)) (s2))), none, none])) (s0 := v1_found) PassesOwn.never rfl (di_listF (da_fr (n := 0) (dm_slice nl0 (da_sh (n := 1) (dc_call (h_plain_signs V) (hr.mono (by decide)) (ca_consT (da_fr (n := 0) (dm_name 0 (eL eS) (a))) (ca_nil (M := (Run.lift (f_plain_signs (a)) : Option (List Str))))) (fun ds k h => by obtain ⟨_, rfl, rfl, h⟩ := h; exact ⟨(a), rfl, h⟩))) (po_yesT (da_pk dm_int)) po_no))) (gt_name 2) (pg_name (i := 2) sc_blocks_of_signs.nd rfl (.inr rfl)) ⟨rfl, rfl, trivial⟩ (fun s2 x7 =>
    (ds_seq (ds_append 1 (s2) (dm_lc' rfl sc_blocks_of_signs.nd (di_b1 (k := fun (kx : Int) => (Run.lift (slen x7) : Option Int) >>= fun (ky : Int) => (Run.lift (irng kx ky) : Option (List Int))) (di_rng2 V.b_range (da_pk dm_int) (da_pk (dm_b1 (k := fun (kx : Str) => (Run.lift (slen kx) : Option Int)) (dm_cB call_len_str os_lenS V.b_len bo_len (da_pk' (n := 0) (dm_name 2 eS (x7)))))))) (blkOk_by (own := [("at", 3)]) (by rfl)) (gt_name 3) (fun _ _ _ _ _ => (pg_name (i := 3) sc_blocks_of_signs.nd rfl (.inl rfl))) (lt_if fun _ _ _ _ _ x10 => (dt_b01 (k := fun (kx : Str) (ky : Str) => (pure ((kx == ky)) : Option Bool)) (dt_cmp (op_eqP hr.units) (da_pk (dm_b2 (k := fun (kx : Str) (ky : Int) => (Run.lift (sat kx ky) : Option Str)) (dm_ix ix_str (da_pk' (n := 0) (dm_name 2 eS (x7))) (da_pk' (n := 0) (dm_name 3 eI (x10))) os_sat (fun _ _ => rfl)))) (da_pk' (n := 0) (dm_glob (g := eS) (a := c_PLUS) V.g_PLUS)) (os_eq (by decide)) (nomark _)))) (fun _ _ _ _ _ x10 => (dm_b2 (k := fun (kx : Int) (ky : Int) => (pure ((kx - ky)) : Option Int)) (dm_op op_sub (da_pk' (n := 0) (dm_name 3 eI (x10))) (da_pk dm_int) os_II))))) fun v13_found =>
    (ds_nil (z := v13_found) rfl ⟨rfl, rfl, trivial⟩)))) fun s3 =>
    (ds_retN 1 (eL (eL eI)) (s3) (s3) rfl)))) rfl)
abbrev st_count_together : Stmt := topS 14
theorem sc_count_together : FnScope ["blocks", "a", "b", "block"] ["blocks", "a", "b"] (defScope st_count_together) := ⟨rfl, rfl, rfl, by decide +kernel, rfl, by decide +kernel, by decide +kernel⟩
def f_count_together (a : ((List (List Int)) × Int × Int)) : Option Int :=
  (pure ((List.length (List.map (fun (x1 : (List Int)) => x1) (List.filter (fun (x1 : (List Int)) => ((lin a.2.1 x1) && (lin a.2.2 x1))) a.1)) : Int)) : Option Int)
theorem h_count_together {P : Program} {w : World} {K : PySem.W.Frag} {mg : Str → Option Value} {base : Heap} (V : Ev K mg w) : HasDef P w K mg base "count_together" 1 (spD K (fun (a : ((List (List Int)) × Int × Int)) => [(eL (eL eI)) a.1, eI a.2.1, eI a.2.2]) f_count_together 0 eI) :=
  hd_D (k := 0) (sl := fun (a : ((List (List Int)) × Int × Int)) => [some (.v ((eL (eL eI)) (a.1))), some (.v (eI (a.2.1))), some (.v (eI (a.2.2))), none]) V.t_count_together sc_count_together (fun _ _ _ _ _ _ us hl => match us, hl with | [_, _, _], _ => rfl) (fun _ => rfl) (fun _ => rfl) (fun f cdv A outer s H E hr b (a : ((List (List Int)) × Int × Int)) => ds_eq (
    (ds_ret0 (dm_b1 (k := fun (kx : (List (List Int))) => (pure ((List.length kx : Int)) : Option Int)) (dm_cB call_len_seq os_len V.b_len bo_len (da_pk' (n := 1) (dm_lcF (dm_lc' rfl sc_count_together.nd (di_list (da_sh (n := 0) (dm_name 0 (eL (eL eI)) (a.1)))) (blkOk_by (own := [("block", 3)]) (by rfl)) (gt_name 3) (fun _ _ _ _ _ => (pg_name (i := 3) sc_count_together.nd rfl (.inl rfl))) (lt_if fun _ _ _ _ _ x1 => (DW.dt (dw_andT (dt_b2 (k := fun (kx : Int) (ky : (List Int)) => (pure ((lin kx ky)) : Option Bool)) (dt_cmp (op_inP hr.units) (da_pk' (n := 0) (dm_name 1 eI (a.2.1))) (da_pk' (n := 0) (dm_name 3 (eL eI) (x1))) (os_in (by decide)) (by first | exact nomark _ | exact nobehind _ (by decide) (by decide) | rfl))) (dw_and1 (dt_b2 (k := fun (kx : Int) (ky : (List Int)) => (pure ((lin kx ky)) : Option Bool)) (dt_cmp (op_inP hr.units) (da_pk' (n := 0) (dm_name 2 eI (a.2.2))) (da_pk' (n := 0) (dm_name 3 (eL eI) (x1))) (os_in (by decide)) (by first | exact nomark _ | exact nobehind _ (by decide) (by decide) | rfl))))))) (fun _ _ _ _ _ x1 => (dm_name 3 (eL eI) (x1)))))))))) rfl)
abbrev st_verdict : Stmt := topS 15
theorem sc_verdict : FnScope ["v", "blocks", "many", "c", "d", "other", "block"] ["v", "blocks"] (defScope st_verdict) := ⟨rfl, rfl, rfl, by decide +kernel, rfl, by decide +kernel, by decide +kernel⟩
def f_verdict (a : (Int × (List (List Int)))) : Option D :=
  (((Run.lift (f_count_together (a.2, 0, 1)) : Option Int)) >>= fun (v1_many : Int) =>
    (((Run.lift (irng 0 a.1) : Option (List Int)) >>= fun xs14 => forC (fun (s2 : Unit) (x4 : Int) => ((((Run.lift (irng (x4 + 1) a.1) : Option (List Int)) >>= fun xs11 => forC (fun (s5 : Unit) (x7 : Int) => ((((Run.lift (f_count_together (a.2, x4, x7)) : Option Int)) >>= fun (v8_other : Int) =>
    ((pure ((v8_other != v1_many)) : Option Bool) >>= fun t9 => if t9 then (pure (((eT eD) ([(eS "pairs"), (eI 0), (eI 1), (eI v1_many), (eI x4), (eI x7), (eI v8_other)] : (List D)))) : Option D) >>= fun r10 => (pure (Ct.rt r10) : Option _) else
    (pure (Ct.nx ()) : Option _))) : Option (Ct Unit D))) () xs11) >>= fun z12 => z12.go (fun s6 =>
    (pure (Ct.nx ()) : Option _)) (fun r13 => (pure (Ct.rt r13) : Option _))) : Option (Ct Unit D))) () xs14) >>= fun z16 => z16.go (fun s3 =>
    (pure (((eP3 eS eI eI) ("even", (List.length (List.map (fun (x15 : (List Int)) => x15) (List.filter (fun (x15 : (List Int)) => (lin 0 x15)) a.2)) : Int), v1_many))) : Option D)) (fun r17 => (pure (r17) : Option _))))
theorem h_verdict {P : Program} {w : World} {K : PySem.W.Frag} {mg : Str → Option Value} {base : Heap} (V : Ev K mg w) : HasDef P w K mg base "verdict" 2 (spD K (fun (a : (Int × (List (List Int)))) => [eI a.1, (eL (eL eI)) a.2]) f_verdict 0 eD) :=
  hd_D (k := 1) (sl := fun (a : (Int × (List (List Int)))) => [some (.v (eI (a.1))), some (.v ((eL (eL eI)) (a.2))), none, none, none, none, none]) V.t_verdict sc_verdict (fun _ _ _ _ _ _ us hl => match us, hl with | [_, _], _ => rfl) (fun _ => rfl) (fun _ => rfl) (fun f cdv A outer s H E hr b (a : (Int × (List (List Int)))) => ds_eq (
    (ds_seq (ds_setV 2 (dc_call (h_count_together V) (hr.mono (by decide)) (ca_consT (da_fr (n := 0) (dm_name 1 (eL (eL eI)) (a.2))) (ca_consT (da_fr (n := 0) dm_int) (ca_consT (da_fr (n := 0) dm_int) (ca_nil (M := (Run.lift (f_count_together (a.2, 0, 1)) : Option Int)))))) (fun ds k h => by obtain ⟨_, rfl, _, rfl, _, rfl, rfl, h⟩ := h; exact ⟨(a.2, 0, 1), rfl, h⟩)) sc_verdict.nd) fun v1_many =>
    (ds_seqC (oR := (fun r => Oc.rt 0 (eD r))) (f := fun r => r) (ds_forC (Ef := (fun (s2 : Unit) => [some (.v (eI (a.1))), some (.v ((eL (eL eI)) (a.2))), some (.v (eI (v1_many))), none, none, none, none])) (s0 := ()) (oR := (fun r => Oc.rt 0 (eD r))) (fun _ => ⟨_, _, rfl⟩) PassesOwn.never rfl (di_b1 (k := fun (kx : Int) => (Run.lift (irng 0 kx) : Option (List Int))) (di_rng1 V.b_range (da_pk' (n := 0) (dm_name 0 eI (a.1))))) (gt_name 3) (pg_name (i := 3) sc_verdict.nd rfl (.inl rfl)) ⟨rfl, rfl, rfl, trivial⟩ (fun s2 x4 =>
    (ds_seqC (oR := (fun r => Oc.rt 0 (eD r))) (f := Ct.rt) (ds_forC (Ef := (fun (s5 : Unit) => [some (.v (eI (a.1))), some (.v ((eL (eL eI)) (a.2))), some (.v (eI (v1_many))), some (.v (eI (x4))), none, none, none])) (s0 := ()) (oR := (fun r => Oc.rt 0 (eD r))) (fun _ => ⟨_, _, rfl⟩) PassesOwn.never rfl (di_b2 (k := fun (kx : Int) (ky : Int) => (Run.lift (irng kx ky) : Option (List Int))) (di_rng2 V.b_range (da_pk (dm_b2 (k := fun (kx : Int) (ky : Int) => (pure ((kx + ky)) : Option Int)) (dm_op op_add (da_pk' (n := 0) (dm_name 3 eI (x4))) (da_pk dm_int) os_II))) (da_pk' (n := 0) (dm_name 0 eI (a.1))))) (gt_name 4) (pg_name (i := 4) sc_verdict.nd rfl (.inl rfl)) ⟨rfl, rfl, rfl, rfl, trivial⟩ (fun s5 x7 =>
    (ds_seq (ds_setV 5 (dc_call (h_count_together V) (hr.mono (by decide)) (ca_consT (da_fr (n := 0) (dm_name 1 (eL (eL eI)) (a.2))) (ca_consT (da_fr (n := 0) (dm_name 3 eI (x4))) (ca_consT (da_fr (n := 0) (dm_name 4 eI (x7))) (ca_nil (M := (Run.lift (f_count_together (a.2, x4, x7)) : Option Int)))))) (fun ds k h => by obtain ⟨_, rfl, _, rfl, _, rfl, rfl, h⟩ := h; exact ⟨(a.2, x4, x7), rfl, h⟩)) sc_verdict.nd) fun v8_other =>
    (ds_ifR (oA := (fun r => Oc.rt 0 (eD r))) (f := Ct.rt) (dt_b2 (k := fun (kx : Int) (ky : Int) => (pure ((kx != ky)) : Option Bool)) (dt_cmp (op_neP hr.units) (da_pk' (n := 0) (dm_name 5 eI (v8_other))) (da_pk' (n := 0) (dm_name 2 eI (v1_many))) (os_ne (by decide)) (nomark _))) (ds_ret0 (dm_fr (n := 1) (dm_encP (g' := eD) (f := (eT eD)) (dm_tupL (dl_consT (dm_encP (g' := eD) (f := eS) dm_str rfl) (dl_consT (dm_encP (g' := eD) (f := eI) dm_int rfl) (dl_consT (dm_encP (g' := eD) (f := eI) dm_int rfl) (dl_consT (dm_encP (g' := eD) (f := eI) (dm_name 2 eI (v1_many)) rfl) (dl_consT (dm_encP (g' := eD) (f := eI) (dm_name 3 eI (x4)) rfl) (dl_consT (dm_encP (g' := eD) (f := eI) (dm_name 4 eI (x7)) rfl) (dl_consT (dm_encP (g' := eD) (f := eI) (dm_name 5 eI (v8_other)) rfl) (dl_nil (g := eD) (n := 0)))))))))) rfl))) (fun _ => ⟨fun _ h => (by cases h), rfl⟩)
    (ds_nil (z := Ct.nx ()) rfl ⟨rfl, rfl, rfl, rfl, trivial⟩))))) (fun _ => ⟨_, _, rfl⟩) (fun _ => rfl) fun s6 =>
    (ds_nil (z := Ct.nx ()) rfl ⟨rfl, rfl, rfl, trivial⟩)))) (fun _ => ⟨_, _, rfl⟩) (fun _ => rfl) fun s3 =>
    (ds_ret0 (dm_fr (n := 1) (dm_encP (g' := eD) (f := (eP3 eS eI eI)) (dm_tup3T dm_str (dm_b1 (k := fun (kx : (List (List Int))) => (pure ((List.length kx : Int)) : Option Int)) (dm_cB call_len_seq os_len V.b_len bo_len (da_pk' (n := 1) (dm_lcF (dm_lc' rfl sc_verdict.nd (di_list (da_sh (n := 0) (dm_name 1 (eL (eL eI)) (a.2)))) (blkOk_by (own := [("block", 6)]) (by rfl)) (gt_name 6) (fun _ _ _ _ _ => (pg_name (i := 6) sc_verdict.nd rfl (.inl rfl))) (lt_if fun _ _ _ _ _ x15 => (dt_b2 (k := fun (kx : Int) (ky : (List Int)) => (pure ((lin kx ky)) : Option Bool)) (dt_cmp (op_inP hr.units) (da_pk dm_int) (da_pk' (n := 0) (dm_name 6 (eL eI) (x15))) (os_in (by decide)) (by first | exact nomark _ | exact nobehind _ (by decide) (by decide) | rfl)))) (fun _ _ _ _ _ x15 => (dm_name 6 (eL eI) (x15)))))))) (dm_name 2 eI (v1_many))) rfl)))))) rfl)
abbrev st__law_whole : Stmt := topS 19
theorem sc__law_whole : FnScope ["value", "int", "bool"] ["value"] (defScope st__law_whole) := ⟨rfl, rfl, rfl, by decide +kernel, rfl, by decide +kernel, by decide +kernel⟩
def f__law_whole (a : D) : Option Bool :=
  (pure (((isD "int" (eD a)) && (!(isD "bool" (eD a))))) : Option Bool)
theorem h__law_whole {P : Program} {w : World} {K : PySem.W.Frag} {mg : Str → Option Value} {base : Heap} (V : Ev K mg w) : HasDef P w K mg base "_law_whole" 1 (spD K (fun (a : D) => [eD a]) f__law_whole 0 eB) :=
  hd_D (k := 0) (sl := fun (a : D) => [some (.v (eD (a))), none, none]) V.t__law_whole sc__law_whole (fun _ _ _ _ _ _ us hl => match us, hl with | [_], _ => rfl) (fun _ => rfl) (fun _ => rfl) (fun f cdv A outer s H E hr b (a : D) => ds_eq (
    (ds_ret0 (dm_scP (dv_andT (dm_b1 (k := fun (kx : D) => (pure ((isD "int" (eD kx))) : Option Bool)) (dm_isi bo_int kb_int V.b_isinstance V.b_int (dm_pk (n := 0) (dm_name 0 eD (a))))) (dv_one (dv_notT (dm_b1 (k := fun (kx : D) => (pure ((isD "bool" (eD kx))) : Option Bool)) (dm_isi bo_bool kb_bool V.b_isinstance V.b_bool (dm_pk (n := 0) (dm_name 0 eD (a))))))))))) rfl)
abbrev st__law_numbers : Stmt := topS 20
theorem sc__law_numbers : FnScope ["told", "due", "list", "at"] ["told", "due"] (defScope st__law_numbers) := ⟨rfl, rfl, rfl, by decide +kernel, rfl, by decide +kernel, by decide +kernel⟩
def f__law_numbers (a : ((List Int) × (List Int))) : Option Bool :=
  ((pure (((!(isD "list" ((eL eI) a.1))) || ((List.length a.1 : Int) != (List.length a.2 : Int)))) : Option Bool) >>= fun t1 => if t1 then (pure (false) : Option Bool) else
    (((pure ((rng 0 (List.length a.2))) : Option (List Int)) >>= fun xs10 => forC (fun (s2 : Unit) (x4 : Int) => (((((((Run.lift (atI a.1 x4) : Option Int) >>= fun x => (pure (eI x) : Option D)) >>= fun a5 => (Run.lift (f__law_whole (a5)) : Option Bool)) >>= fun t => (pure (!t) : Option Bool)) >>= fun t => if t then (pure (true) : Option Bool) else ((Run.lift (atI a.1 x4) : Option Int) >>= fun x6 => (Run.lift (atI a.2 x4) : Option Int) >>= fun y7 => (pure ((x6 != y7)) : Option Bool))) >>= fun t8 => if t8 then (pure (false) : Option Bool) >>= fun r9 => (pure (Ct.rt r9) : Option _) else
    (pure (Ct.nx ()) : Option _)) : Option (Ct Unit Bool))) () xs10) >>= fun z11 => z11.go (fun s3 =>
    (pure (true) : Option Bool)) (fun r12 => (pure (r12) : Option _))))
theorem h__law_numbers {P : Program} {w : World} {K : PySem.W.Frag} {mg : Str → Option Value} {base : Heap} (V : Ev K mg w) : HasDef P w K mg base "_law_numbers" 2 (spD K (fun (a : ((List Int) × (List Int))) => [(eL eI) a.1, (eL eI) a.2]) f__law_numbers 0 eB) :=
  hd_D (k := 1) (sl := fun (a : ((List Int) × (List Int))) => [some (.v ((eL eI) (a.1))), some (.v ((eL eI) (a.2))), none, none]) V.t__law_numbers sc__law_numbers (fun _ _ _ _ _ _ us hl => match us, hl with | [_, _], _ => rfl) (fun _ => rfl) (fun _ => rfl) (fun f cdv A outer s H E hr b (a : ((List Int) × (List Int))) => ds_eq (
    (ds_ifR0 (DW.dt (dw_orT (dt_notT (dt_val (dm_b1 (k := fun (kx : (List Int)) => (pure ((isD "list" ((eL eI) kx))) : Option Bool)) (dm_isi bo_list kb_list V.b_isinstance V.b_list (dm_pk (n := 0) (dm_name 0 (eL eI) (a.1))))))) (dw_or1 (dt_b2 (k := fun (kx : Int) (ky : Int) => (pure ((kx != ky)) : Option Bool)) (dt_cmp (op_neP hr.units) (da_pk (dm_b1 (k := fun (kx : (List Int)) => (pure ((List.length kx : Int)) : Option Int)) (dm_cB call_len_seq os_len V.b_len bo_len (da_pk' (n := 0) (dm_name 0 (eL eI) (a.1)))))) (da_pk (dm_b1 (k := fun (kx : (List Int)) => (pure ((List.length kx : Int)) : Option Int)) (dm_cB call_len_seq os_len V.b_len bo_len (da_pk' (n := 0) (dm_name 1 (eL eI) (a.2)))))) (os_ne (by decide)) (nomark _)))))) (ds_ret0 dm_bool) (fun _ _ h => by cases h)
    (ds_seqC (oR := (fun r => Oc.rt 0 (eB r))) (f := fun r => r) (ds_forC (Ef := (fun (s2 : Unit) => [some (.v ((eL eI) (a.1))), some (.v ((eL eI) (a.2))), none, none])) (s0 := ()) (oR := (fun r => Oc.rt 0 (eB r))) (fun _ => ⟨_, _, rfl⟩) PassesOwn.never rfl (di_rngLen V.b_range V.b_len (dm_pk (n := 0) (dm_name 1 (eL eI) (a.2)))) (gt_name 3) (pg_name (i := 3) sc__law_numbers.nd rfl (.inl rfl)) ⟨rfl, rfl, trivial⟩ (fun s2 x4 =>
    (ds_ifR (oA := (fun r => Oc.rt 0 (eB r))) (f := Ct.rt) (DW.dt (dw_or (dt_not (dt_val (dm_sc (n := 0) (dc_call (h__law_whole V) (hr.mono (by decide)) (ca_cons (da_fr (n := 0) (dm_enc (g' := eD) (f := eI) (dm_b2 (k := fun (kx : (List Int)) (ky : Int) => (Run.lift (atI kx ky) : Option Int)) (dm_ix ix_list (da_sh (n := 0) (dm_name 0 (eL eI) (a.1))) (da_pk' (n := 0) (dm_name 3 eI (x4))) os_ixL (fun _ _ => rfl))) (fun _ => rfl))) (fun a5 => (ca_nil (M := (Run.lift (f__law_whole (a5)) : Option Bool))))) (fun ds k h => by obtain ⟨a5, _, rfl, rfl, h⟩ := h; exact ⟨(a5), rfl, h⟩))))) (dw_or1 (dt_cmp (op_neP hr.units) (da_pk' (n := 0) (dm_b2 (k := fun (kx : (List Int)) (ky : Int) => (Run.lift (atI kx ky) : Option Int)) (dm_ix ix_list (da_sh (n := 0) (dm_name 0 (eL eI) (a.1))) (da_pk' (n := 0) (dm_name 3 eI (x4))) os_ixL (fun _ _ => rfl)))) (da_pk' (n := 0) (dm_b2 (k := fun (kx : (List Int)) (ky : Int) => (Run.lift (atI kx ky) : Option Int)) (dm_ix ix_list (da_sh (n := 0) (dm_name 1 (eL eI) (a.2))) (da_pk' (n := 0) (dm_name 3 eI (x4))) os_ixL (fun _ _ => rfl)))) (os_ne (by decide)) (nomark _))))) (ds_ret0 dm_bool) (fun _ => ⟨fun _ h => (by cases h), rfl⟩)
    (ds_nil (z := Ct.nx ()) rfl ⟨rfl, rfl, trivial⟩)))) (fun _ => ⟨_, _, rfl⟩) (fun _ => rfl) fun s3 =>
    (ds_ret0 dm_bool)))) rfl)
abbrev st__law_lists : Stmt := topS 21
theorem sc__law_lists : FnScope ["told", "due", "list", "at"] ["told", "due"] (defScope st__law_lists) := ⟨rfl, rfl, rfl, by decide +kernel, rfl, by decide +kernel, by decide +kernel⟩
def f__law_lists (a : ((List (List Int)) × (List (List Int)))) : Option Bool :=
  ((pure (((!(isD "list" ((eL (eL eI)) a.1))) || ((List.length a.1 : Int) != (List.length a.2 : Int)))) : Option Bool) >>= fun t1 => if t1 then (pure (false) : Option Bool) else
    (((pure ((rng 0 (List.length a.2))) : Option (List Int)) >>= fun xs9 => forC (fun (s2 : Unit) (x4 : Int) => (((((Run.lift (atI a.1 x4) : Option (List Int)) >>= fun a5 => ((Run.lift (atI a.2 x4) : Option (List Int)) >>= fun a6 => (Run.lift (f__law_numbers (a5, a6)) : Option Bool))) >>= fun t => (pure (!t) : Option Bool)) >>= fun t7 => if t7 then (pure (false) : Option Bool) >>= fun r8 => (pure (Ct.rt r8) : Option _) else
    (pure (Ct.nx ()) : Option _)) : Option (Ct Unit Bool))) () xs9) >>= fun z10 => z10.go (fun s3 =>
    (pure (true) : Option Bool)) (fun r11 => (pure (r11) : Option _))))
theorem h__law_lists {P : Program} {w : World} {K : PySem.W.Frag} {mg : Str → Option Value} {base : Heap} (V : Ev K mg w) : HasDef P w K mg base "_law_lists" 3 (spD K (fun (a : ((List (List Int)) × (List (List Int)))) => [(eL (eL eI)) a.1, (eL (eL eI)) a.2]) f__law_lists 0 eB) :=
  hd_D (k := 2) (sl := fun (a : ((List (List Int)) × (List (List Int)))) => [some (.v ((eL (eL eI)) (a.1))), some (.v ((eL (eL eI)) (a.2))), none, none]) V.t__law_lists sc__law_lists (fun _ _ _ _ _ _ us hl => match us, hl with | [_, _], _ => rfl) (fun _ => rfl) (fun _ => rfl) (fun f cdv A outer s H E hr b (a : ((List (List Int)) × (List (List Int)))) => ds_eq (
    (ds_ifR0 (DW.dt (dw_orT (dt_notT (dt_val (dm_b1 (k := fun (kx : (List (List Int))) => (pure ((isD "list" ((eL (eL eI)) kx))) : Option Bool)) (dm_isi bo_list kb_list V.b_isinstance V.b_list (dm_pk (n := 0) (dm_name 0 (eL (eL eI)) (a.1))))))) (dw_or1 (dt_b2 (k := fun (kx : Int) (ky : Int) => (pure ((kx != ky)) : Option Bool)) (dt_cmp (op_neP hr.units) (da_pk (dm_b1 (k := fun (kx : (List (List Int))) => (pure ((List.length kx : Int)) : Option Int)) (dm_cB call_len_seq os_len V.b_len bo_len (da_pk' (n := 0) (dm_name 0 (eL (eL eI)) (a.1)))))) (da_pk (dm_b1 (k := fun (kx : (List (List Int))) => (pure ((List.length kx : Int)) : Option Int)) (dm_cB call_len_seq os_len V.b_len bo_len (da_pk' (n := 0) (dm_name 1 (eL (eL eI)) (a.2)))))) (os_ne (by decide)) (nomark _)))))) (ds_ret0 dm_bool) (fun _ _ h => by cases h)
    (ds_seqC (oR := (fun r => Oc.rt 0 (eB r))) (f := fun r => r) (ds_forC (Ef := (fun (s2 : Unit) => [some (.v ((eL (eL eI)) (a.1))), some (.v ((eL (eL eI)) (a.2))), none, none])) (s0 := ()) (oR := (fun r => Oc.rt 0 (eB r))) (fun _ => ⟨_, _, rfl⟩) PassesOwn.never rfl (di_rngLen V.b_range V.b_len (dm_pk (n := 0) (dm_name 1 (eL (eL eI)) (a.2)))) (gt_name 3) (pg_name (i := 3) sc__law_lists.nd rfl (.inl rfl)) ⟨rfl, rfl, trivial⟩ (fun s2 x4 =>
    (ds_ifR (oA := (fun r => Oc.rt 0 (eB r))) (f := Ct.rt) (dt_not (dt_val (dm_sc (n := 0) (dc_call (h__law_numbers V) (hr.mono (by decide)) (ca_cons (da_fr (n := 0) (dm_b2 (k := fun (kx : (List (List Int))) (ky : Int) => (Run.lift (atI kx ky) : Option (List Int))) (dm_ix ix_list (da_sh (n := 0) (dm_name 0 (eL (eL eI)) (a.1))) (da_pk' (n := 0) (dm_name 3 eI (x4))) os_ixL (fun _ _ => rfl)))) (fun a5 => (ca_cons (da_fr (n := 0) (dm_b2 (k := fun (kx : (List (List Int))) (ky : Int) => (Run.lift (atI kx ky) : Option (List Int))) (dm_ix ix_list (da_sh (n := 0) (dm_name 1 (eL (eL eI)) (a.2))) (da_pk' (n := 0) (dm_name 3 eI (x4))) os_ixL (fun _ _ => rfl)))) (fun a6 => (ca_nil (M := (Run.lift (f__law_numbers (a5, a6)) : Option Bool))))))) (fun ds k h => by obtain ⟨a5, _, rfl, a6, _, rfl, rfl, h⟩ := h; exact ⟨(a5, a6), rfl, h⟩))))) (ds_ret0 dm_bool) (fun _ => ⟨fun _ h => (by cases h), rfl⟩)
    (ds_nil (z := Ct.nx ()) rfl ⟨rfl, rfl, trivial⟩)))) (fun _ => ⟨_, _, rfl⟩) (fun _ => rfl) fun s3 =>
    (ds_ret0 dm_bool)))) rfl)
abbrev st__law_turn : Stmt := topS 22
theorem sc__law_turn : FnScope ["sign"] ["sign"] (defScope st__law_turn) := ⟨rfl, rfl, rfl, by decide +kernel, rfl, by decide +kernel, by decide +kernel⟩
def f__law_turn (a : Str) : Option Str :=
  (Run.lift (atI (["+", "-"] : (List Str)) (b2n (a == "+"))) : Option Str)
theorem h__law_turn {P : Program} {w : World} {K : PySem.W.Frag} {mg : Str → Option Value} {base : Heap} (V : Ev K mg w) : HasDef P w K mg base "_law_turn" 1 (spD K (fun (a : Str) => [eS a]) f__law_turn 0 eS) :=
  hd_D (k := 0) (sl := fun (a : Str) => [some (.v (eS (a)))]) V.t__law_turn sc__law_turn (fun _ _ _ _ _ _ us hl => match us, hl with | [_], _ => rfl) (fun _ => rfl) (fun _ => rfl) (fun f cdv A outer s H E hr b (a : Str) => ds_eq (
    (ds_ret0 (dm_b2 (k := fun (kx : (List Str)) (ky : Int) => (Run.lift (atI kx ky) : Option Str)) (dm_ix ix_list (da_sh (n := 1) (dm_list (dl_consT dm_str (dl_consT dm_str (dl_nil (g := eS) (n := 0)))))) (da_pk (dm_b1 (k := fun (kx : Bool) => (pure ((b2n kx)) : Option Int)) (dm_cT call_int1 os_intB V.b_int bo_int (da_pk (dm_b2 (k := fun (kx : Str) (ky : Str) => (pure ((kx == ky)) : Option Bool)) (dm_cmp (op_eqP hr.units) (da_pk' (n := 0) (dm_name 0 eS (a))) (da_pk dm_str) (os_eq (by decide)) (nomark _))))))) os_ixL (fun _ _ => rfl))))) rfl)
abbrev st__law_doubled : Stmt := topS 23
theorem sc__law_doubled : FnScope ["times", "rows", "k", "turned", "row", "sign", "at"] ["times"] (defScope st__law_doubled) := ⟨rfl, rfl, rfl, by decide +kernel, rfl, by decide +kernel, by decide +kernel⟩
def f__law_doubled (a : Int) : Option (List Str) :=
  ((pure ((["+"] : (List Str))) : Option (List Str)) >>= fun (v1_rows : (List Str)) =>
    (((Run.lift (irng 0 a) : Option (List Int)) >>= fun xs17 => forS (fun (s2 : (List Str)) (x4 : Int) => (((lcM (fun (x6 : Str) => (pure (true) : Option Bool)) (fun (x6 : Str) => (((Run.lift ((if Str.length x6 ≤ 16777216 then some (schars x6) else none)) : Option (List Str)) >>= lcM (fun (x7 : Str) => (pure (true) : Option Bool)) (fun (x7 : Str) => ((Run.lift (f__law_turn (x7)) : Option Str)))) >>= fun y9 => (Run.lift (sjoin "" y9) : Option Str))) s2) >>= fun (v5_turned : (List Str)) =>
    (((lcM (fun (x11 : Str) => (pure (true) : Option Bool)) (fun (x11 : Str) => (Run.lift (scat x11 x11) : Option Str)) s2) >>= fun x15 => (lcM (fun (x12 : Int) => (pure (true) : Option Bool)) (fun (x12 : Int) => ((Run.lift (atI s2 x12) : Option Str) >>= fun x13 => (Run.lift (atI v5_turned x12) : Option Str) >>= fun y14 => (Run.lift (scat x13 y14) : Option Str))) (rng 0 (List.length s2))) >>= fun y16 => (Run.lift (lcat x15 y16) : Option (List Str))) >>= fun (v10_rows : (List Str)) =>
    (pure v10_rows : Option _))) : Option (List Str))) v1_rows xs17) >>= fun s3 =>
    (pure (s3) : Option (List Str))))
theorem h__law_doubled {P : Program} {w : World} {K : PySem.W.Frag} {mg : Str → Option Value} {base : Heap} (V : Ev K mg w) : HasDef P w K mg base "_law_doubled" 2 (spD K (fun (a : Int) => [eI a]) f__law_doubled 0 (eL eS)) :=
  hd_D (k := 1) (sl := fun (a : Int) => [some (.v (eI (a))), none, none, none, none, none, none]) V.t__law_doubled sc__law_doubled (fun _ _ _ _ _ _ us hl => match us, hl with | [_], _ => rfl) (fun _ => rfl) (fun _ => rfl) (fun f cdv A outer s H E hr b (a : Int) => ds_eq (
    (ds_seq (ds_setV 1 (dm_fr (n := 1) (dm_list (dl_consT dm_str (dl_nil (g := eS) (n := 0))))) sc__law_doubled.nd) fun v1_rows =>
    (ds_seq (ds_for (Ef := (fun (s2 : (List Str)) => [some (.v (eI (a))), some (.v ((eL eS) (s2))), none, none, none, none, none])) (s0 := v1_rows) PassesOwn.never rfl (di_b1 (k := fun (kx : Int) => (Run.lift (irng 0 kx) : Option (List Int))) (di_rng1 V.b_range (da_pk' (n := 0) (dm_name 0 eI (a))))) (gt_name 2) (pg_name (i := 2) sc__law_doubled.nd rfl (.inl rfl)) ⟨rfl, rfl, trivial⟩ (fun s2 x4 =>
    (ds_seq (ds_setV 3 (dm_fr (n := 1) (dm_b1 (dm_lc' rfl sc__law_doubled.nd (di_list (da_sh (n := 0) (dm_name 1 (eL eS) (s2)))) (blkOk_by (own := [("row", 4)]) (by rfl)) (gt_name 4) (fun _ _ _ _ _ => (pg_name (i := 4) sc__law_doubled.nd rfl (.inl rfl))) lt_no (fun _ _ _ _ _ x6 => (dm_b1 (k := fun (kx : Str) => ((Run.lift ((if Str.length x6 ≤ 16777216 then some (schars x6) else none)) : Option (List Str)) >>= lcM (fun (x7 : Str) => (pure (true) : Option Bool)) (fun (x7 : Str) => ((Run.lift (f__law_turn (x7)) : Option Str)))) >>= fun (ky : (List Str)) => (Run.lift (sjoin kx ky) : Option Str)) (dm_join (da_pk dm_str) (da_pk' (n := 1) (dm_lc' rfl sc__law_doubled.nd (di_b1 (k := fun (kx : Str) => (Run.lift ((if Str.length kx ≤ 16777216 then some (schars kx) else none)) : Option (List Str))) (di_str (fz := false) (da_pk' (n := 0) (dm_name 4 eS (x6))))) (blkOk_by (own := [("sign", 5)]) (by rfl)) (gt_name 5) (fun _ _ _ _ _ => (pg_name (i := 5) sc__law_doubled.nd rfl (.inl rfl))) lt_no (fun _ _ _ _ _ x7 => (dc_call (h__law_turn V) (hr.mono (by decide)) (ca_consT (da_fr (n := 0) (dm_name 5 eS (x7))) (ca_nil (M := (Run.lift (f__law_turn (x7)) : Option Str)))) (fun ds k h => by obtain ⟨_, rfl, rfl, h⟩ := h; exact ⟨(x7), rfl, h⟩))))))))))) sc__law_doubled.nd) fun v5_turned =>
    (ds_seq (ds_setV 1 (dm_op op_cat (da_sh (n := 1) (dm_b1 (dm_lc' rfl sc__law_doubled.nd (di_list (da_sh (n := 0) (dm_name 1 (eL eS) (s2)))) (blkOk_by (own := [("row", 4)]) (by rfl)) (gt_name 4) (fun _ _ _ _ _ => (pg_name (i := 4) sc__law_doubled.nd rfl (.inl rfl))) lt_no (fun _ _ _ _ _ x11 => (dm_b2 (k := fun (kx : Str) (ky : Str) => (Run.lift (scat kx ky) : Option Str)) (dm_op op_add_str (da_pk' (n := 0) (dm_name 4 eS (x11))) (da_pk' (n := 0) (dm_name 4 eS (x11))) os_scat)))))) (da_sh (n := 1) (dm_b1 (dm_lc' rfl sc__law_doubled.nd (di_rngLen V.b_range V.b_len (dm_pk (n := 0) (dm_name 1 (eL eS) (s2)))) (blkOk_by (own := [("at", 6)]) (by rfl)) (gt_name 6) (fun _ _ _ _ _ => (pg_name (i := 6) sc__law_doubled.nd rfl (.inl rfl))) lt_no (fun _ _ _ _ _ x12 => (dm_op op_add_str (da_pk' (n := 0) (dm_b2 (k := fun (kx : (List Str)) (ky : Int) => (Run.lift (atI kx ky) : Option Str)) (dm_ix ix_list (da_sh (n := 0) (dm_name 1 (eL eS) (s2))) (da_pk' (n := 0) (dm_name 6 eI (x12))) os_ixL (fun _ _ => rfl)))) (da_pk' (n := 0) (dm_b2 (k := fun (kx : (List Str)) (ky : Int) => (Run.lift (atI kx ky) : Option Str)) (dm_ix ix_list (da_sh (n := 0) (dm_name 3 (eL eS) (v5_turned))) (da_pk' (n := 0) (dm_name 6 eI (x12))) os_ixL (fun _ _ => rfl)))) os_scat))))) (os_cat nl0)) sc__law_doubled.nd) fun v10_rows =>
    (ds_nil (z := v10_rows) rfl ⟨rfl, rfl, trivial⟩))))) fun s3 =>
    (ds_ret0 (dm_name 1 (eL eS) (s3)))))) rfl)
abbrev st__law_of_prime : Stmt := topS 24
theorem sc__law_of_prime : FnScope ["p", "squares", "rows", "i", "k", "j"] ["p"] (defScope st__law_of_prime) := ⟨rfl, rfl, rfl, by decide +kernel, rfl, by decide +kernel, by decide +kernel⟩
def f__law_of_prime (a : Int) : Option (List Str) :=
  (((Run.lift (irng 1 a) : Option (List Int)) >>= lcM (fun (x2 : Int) => (pure (true) : Option Bool)) (fun (x2 : Int) => (((Run.lift (imul x2 x2) : Option Int) >>= fun x3 => (pure (x3) : Option Int)) >>= fun x4 => (Run.lift (imod x4 a) : Option Int)))) >>= fun (v1_squares : (List Int)) =>
    (((Run.lift (smul "+" (a + 1)) : Option Str) >>= fun x7 => (pure ([]) : Option (List Str)) >>= fun xs8 => (pure (x7 :: xs8) : Option (List Str))) >>= fun (v6_rows : (List Str)) =>
    (((Run.lift (irng 0 a) : Option (List Int)) >>= fun xs26 => forS (fun (s9 : (List Str)) (x11 : Int) => (((((((Run.lift (irng 0 a) : Option (List Int)) >>= lcM (fun (x12 : Int) => (pure (true) : Option Bool)) (fun (x12 : Int) => ((((Run.lift (imod (x12 - x11) a) : Option Int) >>= fun x13 => (pure ((lin x13 v1_squares)) : Option Bool)) >>= fun x15 => (pure ((b2n x15)) : Option Int)) >>= fun y19 => (Run.lift (atI (["-", "+"] : (List Str)) y19) : Option Str)))) >>= fun y21 => (Run.lift (sjoin "" y21) : Option Str)) >>= fun y23 => (Run.lift (scat "+" y23) : Option Str)) >>= fun y25 => (Run.lift (lapp s9 y25) : Option (List Str))) >>= fun (v24_rows : (List Str)) =>
    (pure v24_rows : Option _)) : Option (List Str))) v6_rows xs26) >>= fun s10 =>
    (pure s10 : Option _))))
theorem h__law_of_prime {P : Program} {w : World} {K : PySem.W.Frag} {mg : Str → Option Value} {base : Heap} (V : Ev K mg w) : HasDef P w K mg base "_law_of_prime" 1 (spD K (fun (a : Int) => [eI a]) f__law_of_prime 1 (eL eS)) :=
  hd_D (k := 0) (sl := fun (a : Int) => [some (.v (eI (a))), none, none, none, none, none]) V.t__law_of_prime sc__law_of_prime (fun _ _ _ _ _ _ us hl => match us, hl with | [_], _ => rfl) (fun _ => rfl) (fun _ => rfl) (fun f cdv A outer s H E hr b (a : Int) => ds_eq (
    (ds_seq (ds_setV 1 (dm_fr (n := 1) (dm_lc' rfl sc__law_of_prime.nd (di_b2 (k := fun (kx : Int) (ky : Int) => (Run.lift (irng kx ky) : Option (List Int))) (di_rng2 V.b_range (da_pk dm_int) (da_pk' (n := 0) (dm_name 0 eI (a))))) (blkOk_by (own := [("k", 4)]) (by rfl)) (gt_name 4) (fun _ _ _ _ _ => (pg_name (i := 4) sc__law_of_prime.nd rfl (.inl rfl))) lt_no (fun _ _ _ _ _ x2 => (dm_b01 (k := fun (kx : Int) (ky : Int) => (Run.lift (imod kx ky) : Option Int)) (dm_op op_mod (da_pk (dm_cT call_int1 os_int V.b_int bo_int (da_pk (dm_b2 (k := fun (kx : Int) (ky : Int) => (Run.lift (imul kx ky) : Option Int)) (dm_op op_mul (da_pk' (n := 0) (dm_name 4 eI (x2))) (da_pk' (n := 0) (dm_name 4 eI (x2))) os_mul))))) (da_pk' (n := 0) (dm_name 0 eI (a))) os_mod))))) sc__law_of_prime.nd) fun v1_squares =>
    (ds_seq (ds_setO 2 (n := 1) (dm_list (dl_cons (dm_b2 (k := fun (kx : Str) (ky : Int) => (Run.lift (smul kx ky) : Option Str)) (dm_op op_smul (da_pk dm_str) (da_pk (dm_b2 (k := fun (kx : Int) (ky : Int) => (pure ((kx + ky)) : Option Int)) (dm_op op_add (da_pk' (n := 0) (dm_name 0 eI (a))) (da_pk dm_int) os_II))) os_smul)) (dl_nil (g := eS) (n := 0)))) sc__law_of_prime.nd) fun v6_rows =>
    (ds_seq (ds_for (Ef := (fun (s9 : (List Str)) => [some (.v (eI (a))), some (.v ((eL eI) (v1_squares))), some (.o 1 ((eL eS) (s9))), none, none, none])) (s0 := v6_rows) PassesOwn.never rfl (di_b1 (k := fun (kx : Int) => (Run.lift (irng 0 kx) : Option (List Int))) (di_rng1 V.b_range (da_pk' (n := 0) (dm_name 0 eI (a))))) (gt_name 3) (pg_name (i := 3) sc__law_of_prime.nd rfl (.inr rfl)) ⟨rfl, rfl, rfl, trivial⟩ (fun s9 x11 =>
    (ds_seq (ds_append 2 (s9) (dm_b1 (k := fun (kx : Str) => (((Run.lift (irng 0 a) : Option (List Int)) >>= lcM (fun (x12 : Int) => (pure (true) : Option Bool)) (fun (x12 : Int) => ((((Run.lift (imod (x12 - x11) a) : Option Int) >>= fun x13 => (pure ((lin x13 v1_squares)) : Option Bool)) >>= fun x15 => (pure ((b2n x15)) : Option Int)) >>= fun y19 => (Run.lift (atI (["-", "+"] : (List Str)) y19) : Option Str)))) >>= fun y21 => (Run.lift (sjoin "" y21) : Option Str)) >>= fun (ky : Str) => (Run.lift (scat kx ky) : Option Str)) (dm_op op_add_str (da_pk dm_str) (da_pk (dm_b1 (k := fun (kx : Str) => ((Run.lift (irng 0 a) : Option (List Int)) >>= lcM (fun (x12 : Int) => (pure (true) : Option Bool)) (fun (x12 : Int) => ((((Run.lift (imod (x12 - x11) a) : Option Int) >>= fun x13 => (pure ((lin x13 v1_squares)) : Option Bool)) >>= fun x15 => (pure ((b2n x15)) : Option Int)) >>= fun y19 => (Run.lift (atI (["-", "+"] : (List Str)) y19) : Option Str)))) >>= fun (ky : (List Str)) => (Run.lift (sjoin kx ky) : Option Str)) (dm_join (da_pk dm_str) (da_pk' (n := 1) (dm_lc' rfl sc__law_of_prime.nd (di_b1 (k := fun (kx : Int) => (Run.lift (irng 0 kx) : Option (List Int))) (di_rng1 V.b_range (da_pk' (n := 0) (dm_name 0 eI (a))))) (blkOk_by (own := [("j", 5)]) (by rfl)) (gt_name 5) (fun _ _ _ _ _ => (pg_name (i := 5) sc__law_of_prime.nd rfl (.inl rfl))) lt_no (fun _ _ _ _ _ x12 => (dm_b1 (k := fun (kx : (List Str)) => (((Run.lift (imod (x12 - x11) a) : Option Int) >>= fun x13 => (pure ((lin x13 v1_squares)) : Option Bool)) >>= fun x15 => (pure ((b2n x15)) : Option Int)) >>= fun (ky : Int) => (Run.lift (atI kx ky) : Option Str)) (dm_ix ix_list (da_sh (n := 1) (dm_list (dl_consT dm_str (dl_consT dm_str (dl_nil (g := eS) (n := 0)))))) (da_pk (dm_cT call_int1 os_intB V.b_int bo_int (da_pk (dm_b01 (k := fun (kx : Int) (ky : (List Int)) => (pure ((lin kx ky)) : Option Bool)) (dm_cmp (op_inP hr.units) (da_pk (dm_b2 (k := fun (kx : Int) (ky : Int) => (Run.lift (imod kx ky) : Option Int)) (dm_op op_mod (da_pk (dm_b1 (k := fun (kx : Int) => (pure (kx) : Option Int)) (dm_cT call_int1 os_int V.b_int bo_int (da_pk (dm_b2 (k := fun (kx : Int) (ky : Int) => (pure ((kx - ky)) : Option Int)) (dm_op op_sub (da_pk' (n := 0) (dm_name 5 eI (x12))) (da_pk' (n := 0) (dm_name 3 eI (x11))) os_II)))))) (da_pk' (n := 0) (dm_name 0 eI (a))) os_mod))) (da_pk' (n := 0) (dm_name 1 (eL eI) (v1_squares))) (os_in (by decide)) (by first | exact nomark _ | exact nobehind _ (by decide) (by decide) | rfl)))))) os_ixL (fun _ _ => rfl))))))))) os_scat))) fun v24_rows =>
    (ds_nil (z := v24_rows) rfl ⟨rfl, rfl, rfl, trivial⟩)))) fun s10 =>
    (ds_retN 2 (eL eS) (s10) (s10) rfl))))) rfl)
abbrev st__law_mixed : Stmt := topS 25
theorem sc__law_mixed : FnScope ["feed", "rows", "n", "left", "order", "k", "begin", "found", "at", "row", "flip", "sign"] ["feed", "rows"] (defScope st__law_mixed) := ⟨rfl, rfl, rfl, by decide +kernel, rfl, by decide +kernel, by decide +kernel⟩
def f__law_mixed (a : (List Str)) : W (List Str) :=
  ((pure ((List.length a : Int)) : W Int) >>= fun (v1_n : Int) =>
    (((Run.lift (irng 0 v1_n) : W (List Int)) >>= fun xs4 => (pure ((List.map (fun (x3 : Int) => x3) xs4)) : W (List Int))) >>= fun (v2_left : (List Int)) =>
    ((pure (([] : (List Int))) : W (List Int)) >>= fun (v5_order : (List Int)) =>
    (((Run.lift (irng 0 v1_n) : W (List Int)) >>= fun xs13 => forS (fun (s6 : ((List Int) × (List Int))) (x8 : Int) => ((((drawW ((List.length s6.1 : Int))) >>= fun y9 => (Run.lift (lpop s6.1 y9) : W (Int × (List Int))) >>= fun z10 => (Run.lift (lapp s6.2 z10.1) : W (List Int)) >>= fun zs11 => (pure (zs11, z10.2) : W ((List Int) × (List Int)))) >>= fun (q12 : (List Int) × (List Int)) =>
    (pure (q12.2, q12.1) : W _)) : W ((List Int) × (List Int)))) (v2_left, v5_order) xs13) >>= fun s7 =>
    ((drawW (v1_n)) >>= fun (v14_begin : Int) =>
    ((pure (([] : (List Str))) : W (List Str)) >>= fun (v15_found : (List Str)) =>
    (((pure (s7.2) : W (List Int)) >>= fun xs40 => forS (fun (s18 : (List Str)) (x20 : Int) => (((((Run.lift (atI a x20) : W Str) >>= fun x22 => (pure (some v14_begin : Option Int) : W (Option Int)) >>= fun l23 => (pure (none : Option Int) : W (Option Int)) >>= fun h24 => (Run.lift (scut x22 l23 h24) : W Str)) >>= fun x28 => ((Run.lift (atI a x20) : W Str) >>= fun x25 => (pure (none : Option Int) : W (Option Int)) >>= fun l26 => (pure (some v14_begin : Option Int) : W (Option Int)) >>= fun h27 => (Run.lift (scut x25 l26 h27) : W Str)) >>= fun y29 => (Run.lift (scat x28 y29) : W Str)) >>= fun (v21_row : Str) =>
    ((((drawW (2)) >>= fun x30 => (pure ((x30 == 0)) : W Bool)) >>= fun t32 => if t32 then (((((Run.lift ((if Str.length v21_row ≤ 16777216 then some (schars v21_row) else none)) : W (List Str)) >>= lcM (fun (x35 : Str) => (pure (true) : W Bool)) (fun (x35 : Str) => ((Run.lift (f__law_turn (x35)) : W Str)))) >>= fun y37 => (Run.lift (sjoin "" y37) : W Str)) >>= fun (v34_row : Str) =>
    (pure v34_row : W _)) : W Str) else (pure v21_row : W _)) >>= fun s33 =>
    (((pure (s33) : W Str) >>= fun y39 => (Run.lift (lapp s18 y39) : W (List Str))) >>= fun (v38_found : (List Str)) =>
    (pure v38_found : W _)))) : W (List Str))) v15_found xs40) >>= fun s19 =>
    ((drawW (v1_n)) >>= fun (v41_flip : Int) =>
    (lcM (fun (x42 : Str) => (pure (true) : W Bool)) (fun (x42 : Str) => ((((pure (x42) : W Str) >>= fun x43 => (pure (none : Option Int) : W (Option Int)) >>= fun l44 => (pure (some v41_flip : Option Int) : W (Option Int)) >>= fun h45 => (Run.lift (scut x43 l44 h45) : W Str)) >>= fun x47 => ((Run.lift (sat x42 v41_flip) : W Str) >>= fun a46 => (Run.lift (f__law_turn (a46)) : W Str)) >>= fun y48 => (Run.lift (scat x47 y48) : W Str)) >>= fun x52 => ((pure (x42) : W Str) >>= fun x49 => (pure (some (v41_flip + 1) : Option Int) : W (Option Int)) >>= fun l50 => (pure (none : Option Int) : W (Option Int)) >>= fun h51 => (Run.lift (scut x49 l50 h51) : W Str)) >>= fun y53 => (Run.lift (scat x52 y53) : W Str))) s19)))))))))
theorem h__law_mixed {P : Program} {w : World} {K : PySem.W.Frag} {mg : Str → Option Value} {base : Heap} (V : Ev K mg w) : HasDef P w K mg base "_law_mixed" 2 (spF K (fun (a : (List Str)) => [none, some ((eL eS) a)]) f__law_mixed 1 (eL eS)) :=
  hd_F (k := 1) (sl := fun (a : (List Str)) => [some .feed, some (.v ((eL eS) (a))), none, none, none, none, none, none, none, none, none, none]) V.t__law_mixed sc__law_mixed (fun _ _ _ _ _ _ us hl => match us, hl with | [_, _], _ => rfl) (fun _ => rfl) (fun _ => rfl) (fun f cdv A outer s H E hr b hfd (a : (List Str)) => ds_eq (
    (ds_seq (ds_setV 2 (dm_b1 (k := fun (kx : (List Str)) => (pure ((List.length kx : Int)) : W Int)) (dm_cB call_len_seq os_len V.b_len bo_len (da_pk' (n := 0) (dm_name 1 (eL eS) (a))))) sc__law_mixed.nd) fun v1_n =>
    (ds_seq (ds1_lcT' (ds_lcO (n := 0) 3 rfl sc__law_mixed.nd (di_b1 (k := fun (kx : Int) => (Run.lift (irng 0 kx) : W (List Int))) (di_rng1 V.b_range (da_pk' (n := 0) (dm_name 2 eI (v1_n))))) (blkOk_by (own := [("at", 8)]) (by rfl)) (gt_name 8) (fun _ _ _ _ _ => (pg_name (i := 8) sc__law_mixed.nd rfl (.inl rfl))) lt_no (fun _ _ _ _ _ x3 => (dm_name 8 eI (x3))))) fun v2_left =>
    (ds_seq (ds_setO 4 (n := 1) (dm_list (dl_nil (g := eI) (n := 0))) sc__law_mixed.nd) fun v5_order =>
    (ds_seq (ds_for (Ef := (fun (s6 : ((List Int) × (List Int))) => [some .feed, some (.v ((eL eS) (a))), some (.v (eI (v1_n))), some (.o 1 ((eL eI) (s6.1))), some (.o 1 ((eL eI) (s6.2))), none, none, none, none, none, none, none])) (s0 := (v2_left, v5_order)) PassesOwn.never rfl (di_b1 (k := fun (kx : Int) => (Run.lift (irng 0 kx) : W (List Int))) (di_rng1 V.b_range (da_pk' (n := 0) (dm_name 2 eI (v1_n))))) (gt_name 5) (pg_name (i := 5) sc__law_mixed.nd rfl (.inl rfl)) ⟨rfl, rfl, rfl, rfl, rfl, trivial⟩ (fun s6 x8 =>
    (ds_seq (ds_appPop 4 3 (s6.2) (s6.1) (by decide) (da_pk' (n := 0) (dc_callF (h__law_draw V) hfd (hr.mono (by decide)) (ca_feed 0 (ca_consT (da_fr (n := 0) (dm_b1 (k := fun (kx : (List Int)) => (pure ((List.length kx : Int)) : W Int)) (dm_cB call_len_seq os_len V.b_len bo_len (da_pk (dm_nameO 3 (eL eI) (s6.1)))))) (ca_nil (M := drawW ((List.length s6.1 : Int)))))) (fun ds k h => by obtain ⟨_, rfl, _, rfl, rfl, h⟩ := h; exact ⟨((List.length s6.1 : Int)), rfl, h⟩))) rfl rfl) fun q12 =>
    (ds_nil (z := (q12.2, q12.1)) rfl ⟨rfl, rfl, rfl, rfl, rfl, trivial⟩)))) fun s7 =>
    (ds_seq (ds_setV 6 (dc_callF (h__law_draw V) hfd (hr.mono (by decide)) (ca_feed 0 (ca_consT (da_fr (n := 0) (dm_name 2 eI (v1_n))) (ca_nil (M := drawW (v1_n))))) (fun ds k h => by obtain ⟨_, rfl, _, rfl, rfl, h⟩ := h; exact ⟨(v1_n), rfl, h⟩)) sc__law_mixed.nd) fun v14_begin =>
    (ds_seq (ds_setO 7 (n := 1) (dm_list (dl_nil (g := eS) (n := 0))) sc__law_mixed.nd) fun v15_found =>
    (ds_frz 4 rfl (ds_seq (ds_for (Ef := (fun (s18 : (List Str)) => [some .feed, some (.v ((eL eS) (a))), some (.v (eI (v1_n))), some (.o 1 ((eL eI) (s7.1))), some (.v ((eL eI) (s7.2))), none, some (.v (eI (v14_begin))), some (.o 1 ((eL eS) (s18))), none, none, none, none])) (s0 := v15_found) PassesOwn.never rfl (di_listF (da_fr (n := 0) (dm_name 4 (eL eI) (s7.2)))) (gt_name 8) (pg_name (i := 8) sc__law_mixed.nd rfl (.inl rfl)) ⟨rfl, rfl, rfl, rfl, rfl, rfl, rfl, trivial⟩ (fun s18 x20 =>
    (ds_seq (ds_setV 9 (dm_op op_add_str (da_pk (dm_sslice (da_pk' (n := 0) (dm_b2 (k := fun (kx : (List Str)) (ky : Int) => (Run.lift (atI kx ky) : W Str)) (dm_ix ix_list (da_sh (n := 0) (dm_name 1 (eL eS) (a))) (da_pk' (n := 0) (dm_name 8 eI (x20))) os_ixL (fun _ _ => rfl)))) (po_yes (da_pk' (n := 0) (dm_name 6 eI (v14_begin)))) po_no)) (da_pk (dm_sslice (da_pk' (n := 0) (dm_b2 (k := fun (kx : (List Str)) (ky : Int) => (Run.lift (atI kx ky) : W Str)) (dm_ix ix_list (da_sh (n := 0) (dm_name 1 (eL eS) (a))) (da_pk' (n := 0) (dm_name 8 eI (x20))) os_ixL (fun _ _ => rfl)))) po_no (po_yes (da_pk' (n := 0) (dm_name 6 eI (v14_begin)))))) os_scat) sc__law_mixed.nd) fun v21_row =>
    (ds_seq (ds_if (out := fun (s33 : Str) => Oc.nx ([some .feed, some (.v ((eL eS) (a))), some (.v (eI (v1_n))), some (.o 1 ((eL eI) (s7.1))), some (.v ((eL eI) (s7.2))), none, some (.v (eI (v14_begin))), some (.o 1 ((eL eS) (s18))), some (.v (eI (x20))), some (.v (eS (s33))), none, none])) (dt_b01 (k := fun (kx : Int) (ky : Int) => (pure ((kx == ky)) : W Bool)) (dt_cmp (op_eqP hr.units) (da_pk' (n := 0) (dc_callF (h__law_draw V) hfd (hr.mono (by decide)) (ca_feed 0 (ca_consT (da_fr (n := 0) dm_int) (ca_nil (M := drawW (2))))) (fun ds k h => by obtain ⟨_, rfl, _, rfl, rfl, h⟩ := h; exact ⟨(2), rfl, h⟩))) (da_pk dm_int) (os_eq (by decide)) (nomark _))) (ds_seq (ds_setV 9 (dm_b1 (k := fun (kx : Str) => ((Run.lift ((if Str.length v21_row ≤ 16777216 then some (schars v21_row) else none)) : W (List Str)) >>= lcM (fun (x35 : Str) => (pure (true) : W Bool)) (fun (x35 : Str) => ((Run.lift (f__law_turn (x35)) : W Str)))) >>= fun (ky : (List Str)) => (Run.lift (sjoin kx ky) : W Str)) (dm_join (da_pk dm_str) (da_pk' (n := 1) (dm_lc' rfl sc__law_mixed.nd (di_b1 (k := fun (kx : Str) => (Run.lift ((if Str.length kx ≤ 16777216 then some (schars kx) else none)) : W (List Str))) (di_str (fz := false) (da_pk' (n := 0) (dm_name 9 eS (v21_row))))) (blkOk_by (own := [("sign", 11)]) (by rfl)) (gt_name 11) (fun _ _ _ _ _ => (pg_name (i := 11) sc__law_mixed.nd rfl (.inl rfl))) lt_no (fun _ _ _ _ _ x35 => (dc_call (h__law_turn V) (hr.mono (by decide)) (ca_consT (da_fr (n := 0) (dm_name 11 eS (x35))) (ca_nil (M := (Run.lift (f__law_turn (x35)) : W Str)))) (fun ds k h => by obtain ⟨_, rfl, rfl, h⟩ := h; exact ⟨(x35), rfl, h⟩))))))) sc__law_mixed.nd) fun v34_row =>
    (ds_nil (z := v34_row) rfl ⟨rfl, rfl, rfl, rfl, rfl, rfl, rfl, rfl, rfl, trivial⟩))
    (ds_nil (z := v21_row) rfl ⟨rfl, rfl, rfl, rfl, rfl, rfl, rfl, rfl, rfl, trivial⟩)) fun s33 =>
    (ds_seq (ds_append 7 (s18) (dm_name 9 eS (s33))) fun v38_found =>
    (ds_nil (z := v38_found) rfl ⟨rfl, rfl, rfl, rfl, rfl, rfl, rfl, trivial⟩)))))) fun s19 =>
    (ds_seq (ds_setV 10 (dc_callF (h__law_draw V) hfd (hr.mono (by decide)) (ca_feed 0 (ca_consT (da_fr (n := 0) (dm_name 2 eI (v1_n))) (ca_nil (M := drawW (v1_n))))) (fun ds k h => by obtain ⟨_, rfl, _, rfl, rfl, h⟩ := h; exact ⟨(v1_n), rfl, h⟩)) sc__law_mixed.nd) fun v41_flip =>
    (ds_ret0 (dm_b1 (dm_lc' rfl sc__law_mixed.nd (di_list (da_nameO 7 eS (s19))) (blkOk_by (own := [("row", 9)]) (by rfl)) (gt_name 9) (fun _ _ _ _ _ => (pg_name (i := 9) sc__law_mixed.nd rfl (.inl rfl))) lt_no (fun _ _ _ _ _ x42 => (dm_op op_add_str (da_pk (dm_op op_add_str (da_pk (dm_sslice (da_pk' (n := 0) (dm_name 9 eS (x42))) po_no (po_yes (da_pk' (n := 0) (dm_name 10 eI (v41_flip)))))) (da_pk' (n := 0) (dc_call (h__law_turn V) (hr.mono (by decide)) (ca_cons (da_fr (n := 0) (dm_b2 (k := fun (kx : Str) (ky : Int) => (Run.lift (sat kx ky) : W Str)) (dm_ix ix_str (da_pk' (n := 0) (dm_name 9 eS (x42))) (da_pk' (n := 0) (dm_name 10 eI (v41_flip))) os_sat (fun _ _ => rfl)))) (fun a46 => (ca_nil (M := (Run.lift (f__law_turn (a46)) : W Str))))) (fun ds k h => by obtain ⟨a46, _, rfl, rfl, h⟩ := h; exact ⟨(a46), rfl, h⟩))) os_scat)) (da_pk (dm_sslice (da_pk' (n := 0) (dm_name 9 eS (x42))) (po_yes (da_pk (dm_b2 (k := fun (kx : Int) (ky : Int) => (pure ((kx + ky)) : W Int)) (dm_op op_add (da_pk' (n := 0) (dm_name 10 eI (v41_flip))) (da_pk dm_int) os_II)))) po_no)) os_scat))))))))))))))) rfl)
abbrev st__law_agree : Stmt := topS 26
theorem sc__law_agree : FnScope ["row", "other", "many", "at"] ["row", "other"] (defScope st__law_agree) := ⟨rfl, rfl, rfl, by decide +kernel, rfl, by decide +kernel, by decide +kernel⟩
def f__law_agree (a : (Str × Str)) : Option Int :=
  ((pure (0) : Option Int) >>= fun (v1_many : Int) =>
    ((((Run.lift (slen a.1) : Option Int) >>= fun x4 => (Run.lift (irng 0 x4) : Option (List Int))) >>= fun xs11 => forS (fun (s2 : Int) (x5 : Int) => ((((((Run.lift (sat a.1 x5) : Option Str) >>= fun x6 => (Run.lift (sat a.2 x5) : Option Str) >>= fun y7 => (pure ((x6 == y7)) : Option Bool)) >>= fun x8 => (pure ((b2n x8)) : Option Int)) >>= fun y9 => (pure ((s2 + y9)) : Option Int)) >>= fun (v10_many : Int) =>
    (pure v10_many : Option _)) : Option Int)) v1_many xs11) >>= fun s3 =>
    (pure (s3) : Option Int)))
theorem h__law_agree {P : Program} {w : World} {K : PySem.W.Frag} {mg : Str → Option Value} {base : Heap} (V : Ev K mg w) : HasDef P w K mg base "_law_agree" 1 (spD K (fun (a : (Str × Str)) => [eS a.1, eS a.2]) f__law_agree 0 eI) :=
  hd_D (k := 0) (sl := fun (a : (Str × Str)) => [some (.v (eS (a.1))), some (.v (eS (a.2))), none, none]) V.t__law_agree sc__law_agree (fun _ _ _ _ _ _ us hl => match us, hl with | [_, _], _ => rfl) (fun _ => rfl) (fun _ => rfl) (fun f cdv A outer s H E hr b (a : (Str × Str)) => ds_eq (
    (ds_seq (ds_setV 2 dm_int sc__law_agree.nd) fun v1_many =>
    (ds_seq (ds_for (Ef := (fun (s2 : Int) => [some (.v (eS (a.1))), some (.v (eS (a.2))), some (.v (eI (s2))), none])) (s0 := v1_many) PassesOwn.never rfl (di_rng1 V.b_range (da_pk (dm_b1 (k := fun (kx : Str) => (Run.lift (slen kx) : Option Int)) (dm_cB call_len_str os_lenS V.b_len bo_len (da_pk' (n := 0) (dm_name 0 eS (a.1))))))) (gt_name 3) (pg_name (i := 3) sc__law_agree.nd rfl (.inl rfl)) ⟨rfl, rfl, rfl, trivial⟩ (fun s2 x5 =>
    (ds_seq (ds_aug (g := eI) (a := s2) 2 iop_add (da_pk (dm_cT call_int1 os_intB V.b_int bo_int (da_pk (dm_cmp (op_eqP hr.units) (da_pk (dm_b2 (k := fun (kx : Str) (ky : Int) => (Run.lift (sat kx ky) : Option Str)) (dm_ix ix_str (da_pk' (n := 0) (dm_name 0 eS (a.1))) (da_pk' (n := 0) (dm_name 3 eI (x5))) os_sat (fun _ _ => rfl)))) (da_pk (dm_b2 (k := fun (kx : Str) (ky : Int) => (Run.lift (sat kx ky) : Option Str)) (dm_ix ix_str (da_pk' (n := 0) (dm_name 1 eS (a.2))) (da_pk' (n := 0) (dm_name 3 eI (x5))) os_sat (fun _ _ => rfl)))) (os_eq (by decide)) (nomark _))))) os_II rfl sc__law_agree.nd) fun v10_many =>
    (ds_nil (z := v10_many) rfl ⟨rfl, rfl, rfl, trivial⟩)))) fun s3 =>
    (ds_ret0 (dm_name 2 eI (s3)))))) rfl)
abbrev st__law_is_even : Stmt := topS 27
theorem sc__law_is_even : FnScope ["rows", "n", "i", "j"] ["rows"] (defScope st__law_is_even) := ⟨rfl, rfl, rfl, by decide +kernel, rfl, by decide +kernel, by decide +kernel⟩
def f__law_is_even (a : (List Str)) : Option Bool :=
  ((pure ((List.length a : Int)) : Option Int) >>= fun (v1_n : Int) =>
    (((Run.lift (irng 0 v1_n) : Option (List Int)) >>= fun xs18 => forC (fun (s2 : Unit) (x4 : Int) => ((((Run.lift (irng 0 x4) : Option (List Int)) >>= fun xs15 => forC (fun (s5 : Unit) (x7 : Int) => ((((((Run.lift (atI a x4) : Option Str) >>= fun a8 => ((Run.lift (atI a x7) : Option Str) >>= fun a9 => (Run.lift (f__law_agree (a8, a9)) : Option Int))) >>= fun x10 => (pure ((2 * x10)) : Option Int)) >>= fun x11 => (pure ((x11 != v1_n)) : Option Bool)) >>= fun t13 => if t13 then (pure (false) : Option Bool) >>= fun r14 => (pure (Ct.rt r14) : Option _) else
    (pure (Ct.nx ()) : Option _)) : Option (Ct Unit Bool))) () xs15) >>= fun z16 => z16.go (fun s6 =>
    (pure (Ct.nx ()) : Option _)) (fun r17 => (pure (Ct.rt r17) : Option _))) : Option (Ct Unit Bool))) () xs18) >>= fun z19 => z19.go (fun s3 =>
    (pure (true) : Option Bool)) (fun r20 => (pure (r20) : Option _))))
theorem h__law_is_even {P : Program} {w : World} {K : PySem.W.Frag} {mg : Str → Option Value} {base : Heap} (V : Ev K mg w) : HasDef P w K mg base "_law_is_even" 2 (spD K (fun (a : (List Str)) => [(eL eS) a]) f__law_is_even 0 eB) :=
  hd_D (k := 1) (sl := fun (a : (List Str)) => [some (.v ((eL eS) (a))), none, none, none]) V.t__law_is_even sc__law_is_even (fun _ _ _ _ _ _ us hl => match us, hl with | [_], _ => rfl) (fun _ => rfl) (fun _ => rfl) (fun f cdv A outer s H E hr b (a : (List Str)) => ds_eq (
    (ds_seq (ds_setV 1 (dm_b1 (k := fun (kx : (List Str)) => (pure ((List.length kx : Int)) : Option Int)) (dm_cB call_len_seq os_len V.b_len bo_len (da_pk' (n := 0) (dm_name 0 (eL eS) (a))))) sc__law_is_even.nd) fun v1_n =>
    (ds_seqC (oR := (fun r => Oc.rt 0 (eB r))) (f := fun r => r) (ds_forC (Ef := (fun (s2 : Unit) => [some (.v ((eL eS) (a))), some (.v (eI (v1_n))), none, none])) (s0 := ()) (oR := (fun r => Oc.rt 0 (eB r))) (fun _ => ⟨_, _, rfl⟩) PassesOwn.never rfl (di_b1 (k := fun (kx : Int) => (Run.lift (irng 0 kx) : Option (List Int))) (di_rng1 V.b_range (da_pk' (n := 0) (dm_name 1 eI (v1_n))))) (gt_name 2) (pg_name (i := 2) sc__law_is_even.nd rfl (.inl rfl)) ⟨rfl, rfl, trivial⟩ (fun s2 x4 =>
    (ds_seqC (oR := (fun r => Oc.rt 0 (eB r))) (f := Ct.rt) (ds_forC (Ef := (fun (s5 : Unit) => [some (.v ((eL eS) (a))), some (.v (eI (v1_n))), some (.v (eI (x4))), none])) (s0 := ()) (oR := (fun r => Oc.rt 0 (eB r))) (fun _ => ⟨_, _, rfl⟩) PassesOwn.never rfl (di_b1 (k := fun (kx : Int) => (Run.lift (irng 0 kx) : Option (List Int))) (di_rng1 V.b_range (da_pk' (n := 0) (dm_name 2 eI (x4))))) (gt_name 3) (pg_name (i := 3) sc__law_is_even.nd rfl (.inl rfl)) ⟨rfl, rfl, rfl, trivial⟩ (fun s5 x7 =>
    (ds_ifR (oA := (fun r => Oc.rt 0 (eB r))) (f := Ct.rt) (dt_b01 (k := fun (kx : Int) (ky : Int) => (pure ((kx != ky)) : Option Bool)) (dt_cmp (op_neP hr.units) (da_pk (dm_opL op_mul (da_pk dm_int) (da_pk' (n := 0) (dc_call (h__law_agree V) (hr.mono (by decide)) (ca_cons (da_fr (n := 0) (dm_b2 (k := fun (kx : (List Str)) (ky : Int) => (Run.lift (atI kx ky) : Option Str)) (dm_ix ix_list (da_sh (n := 0) (dm_name 0 (eL eS) (a))) (da_pk' (n := 0) (dm_name 2 eI (x4))) os_ixL (fun _ _ => rfl)))) (fun a8 => (ca_cons (da_fr (n := 0) (dm_b2 (k := fun (kx : (List Str)) (ky : Int) => (Run.lift (atI kx ky) : Option Str)) (dm_ix ix_list (da_sh (n := 0) (dm_name 0 (eL eS) (a))) (da_pk' (n := 0) (dm_name 3 eI (x7))) os_ixL (fun _ _ => rfl)))) (fun a9 => (ca_nil (M := (Run.lift (f__law_agree (a8, a9)) : Option Int))))))) (fun ds k h => by obtain ⟨a8, _, rfl, a9, _, rfl, rfl, h⟩ := h; exact ⟨(a8, a9), rfl, h⟩))) (os_mulL (n := 2) (by decide)))) (da_pk' (n := 0) (dm_name 1 eI (v1_n))) (os_ne (by decide)) (nomark _))) (ds_ret0 dm_bool) (fun _ => ⟨fun _ h => (by cases h), rfl⟩)
    (ds_nil (z := Ct.nx ()) rfl ⟨rfl, rfl, rfl, trivial⟩)))) (fun _ => ⟨_, _, rfl⟩) (fun _ => rfl) fun s6 =>
    (ds_nil (z := Ct.nx ()) rfl ⟨rfl, rfl, trivial⟩)))) (fun _ => ⟨_, _, rfl⟩) (fun _ => rfl) fun s3 =>
    (ds_ret0 dm_bool)))) rfl)
abbrev st__law_plain : Stmt := topS 28
theorem sc__law_plain : FnScope ["rows", "turned", "row", "found", "line", "at", "sign"] ["rows"] (defScope st__law_plain) := ⟨rfl, rfl, rfl, by decide +kernel, rfl, by decide +kernel, by decide +kernel⟩
def f__law_plain (a : (List Str)) : Option (List Str) :=
  ((pure (([] : (List Str))) : Option (List Str)) >>= fun (v1_turned : (List Str)) =>
    (((pure (a) : Option (List Str)) >>= fun xs15 => forS (fun (s2 : (List Str)) (x4 : Str) => (((((Run.lift (sat x4 0) : Option Str) >>= fun x5 => (pure ((x5 == "-")) : Option Bool)) >>= fun t7 => if t7 then (((((Run.lift ((if Str.length x4 ≤ 16777216 then some (schars x4) else none)) : Option (List Str)) >>= lcM (fun (x10 : Str) => (pure (true) : Option Bool)) (fun (x10 : Str) => ((Run.lift (f__law_turn (x10)) : Option Str)))) >>= fun y12 => (Run.lift (sjoin "" y12) : Option Str)) >>= fun (v9_row : Str) =>
    (pure v9_row : Option _)) : Option Str) else (pure x4 : Option _)) >>= fun s8 =>
    (((pure (s8) : Option Str) >>= fun y14 => (Run.lift (lapp s2 y14) : Option (List Str))) >>= fun (v13_turned : (List Str)) =>
    (pure v13_turned : Option _))) : Option (List Str))) v1_turned xs15) >>= fun s3 =>
    ((pure (([] : (List Str))) : Option (List Str)) >>= fun (v16_found : (List Str)) =>
    (((pure (s3) : Option (List Str)) >>= fun xs42 => forS (fun (s19 : (List Str)) (x21 : Str) => (((pure ("") : Option Str) >>= fun (v22_line : Str) =>
    ((((Run.lift (slen x21) : Option Int) >>= fun x25 => (Run.lift (irng 0 x25) : Option (List Int))) >>= fun xs39 => forS (fun (s23 : Str) (x26 : Int) => (((((Run.lift (atI s3 0) : Option Str) >>= fun x27 => (Run.lift (sat x27 x26) : Option Str)) >>= fun x29 => (pure ((x29 == "-")) : Option Bool)) >>= fun t31 => if t31 then ((((Run.lift (sat x21 x26) : Option Str) >>= fun a33 => (Run.lift (f__law_turn (a33)) : Option Str)) >>= fun y35 => (Run.lift (scat s23 y35) : Option Str)) >>= fun (v32_line : Str) =>
    (pure v32_line : Option _)) else (((Run.lift (sat x21 x26) : Option Str) >>= fun y38 => (Run.lift (scat s23 y38) : Option Str)) >>= fun (v36_line : Str) =>
    (pure v36_line : Option _))) : Option Str)) v22_line xs39) >>= fun s24 =>
    (((pure (s24) : Option Str) >>= fun y41 => (Run.lift (lapp s19 y41) : Option (List Str))) >>= fun (v40_found : (List Str)) =>
    (pure v40_found : Option _)))) : Option (List Str))) v16_found xs42) >>= fun s20 =>
    (pure s20 : Option _)))))
theorem h__law_plain {P : Program} {w : World} {K : PySem.W.Frag} {mg : Str → Option Value} {base : Heap} (V : Ev K mg w) : HasDef P w K mg base "_law_plain" 2 (spD K (fun (a : (List Str)) => [(eL eS) a]) f__law_plain 1 (eL eS)) :=
  hd_D (k := 1) (sl := fun (a : (List Str)) => [some (.v ((eL eS) (a))), none, none, none, none, none, none]) V.t__law_plain sc__law_plain (fun _ _ _ _ _ _ us hl => match us, hl with | [_], _ => rfl) (fun _ => rfl) (fun _ => rfl) (fun f cdv A outer s H E hr b (a : (List Str)) => ds_eq (
    (ds_seq (ds_setO 1 (n := 1) (dm_list (dl_nil (g := eS) (n := 0))) sc__law_plain.nd) fun v1_turned =>
    (ds_seq (ds_for (Ef := (fun (s2 : (List Str)) => [some (.v ((eL eS) (a))), some (.o 1 ((eL eS) (s2))), none, none, none, none, none])) (s0 := v1_turned) PassesOwn.never rfl (di_listF (da_fr (n := 0) (dm_name 0 (eL eS) (a)))) (gt_name 2) (pg_name (i := 2) sc__law_plain.nd rfl (.inl rfl)) ⟨rfl, rfl, trivial⟩ (fun s2 x4 =>
    (ds_seq (ds_if (out := fun (s8 : Str) => Oc.nx ([some (.v ((eL eS) (a))), some (.o 1 ((eL eS) (s2))), some (.v (eS (s8))), none, none, none, none])) (dt_b01 (k := fun (kx : Str) (ky : Str) => (pure ((kx == ky)) : Option Bool)) (dt_cmp (op_eqP hr.units) (da_pk (dm_b2 (k := fun (kx : Str) (ky : Int) => (Run.lift (sat kx ky) : Option Str)) (dm_ix ix_str (da_pk' (n := 0) (dm_name 2 eS (x4))) (da_pk dm_int) os_sat (fun _ _ => rfl)))) (da_pk dm_str) (os_eq (by decide)) (nomark _))) (ds_seq (ds_setV 2 (dm_b1 (k := fun (kx : Str) => ((Run.lift ((if Str.length x4 ≤ 16777216 then some (schars x4) else none)) : Option (List Str)) >>= lcM (fun (x10 : Str) => (pure (true) : Option Bool)) (fun (x10 : Str) => ((Run.lift (f__law_turn (x10)) : Option Str)))) >>= fun (ky : (List Str)) => (Run.lift (sjoin kx ky) : Option Str)) (dm_join (da_pk dm_str) (da_pk' (n := 1) (dm_lc' rfl sc__law_plain.nd (di_b1 (k := fun (kx : Str) => (Run.lift ((if Str.length kx ≤ 16777216 then some (schars kx) else none)) : Option (List Str))) (di_str (fz := false) (da_pk' (n := 0) (dm_name 2 eS (x4))))) (blkOk_by (own := [("sign", 6)]) (by rfl)) (gt_name 6) (fun _ _ _ _ _ => (pg_name (i := 6) sc__law_plain.nd rfl (.inl rfl))) lt_no (fun _ _ _ _ _ x10 => (dc_call (h__law_turn V) (hr.mono (by decide)) (ca_consT (da_fr (n := 0) (dm_name 6 eS (x10))) (ca_nil (M := (Run.lift (f__law_turn (x10)) : Option Str)))) (fun ds k h => by obtain ⟨_, rfl, rfl, h⟩ := h; exact ⟨(x10), rfl, h⟩))))))) sc__law_plain.nd) fun v9_row =>
    (ds_nil (z := v9_row) rfl ⟨rfl, rfl, rfl, trivial⟩))
    (ds_nil (z := x4) rfl ⟨rfl, rfl, rfl, trivial⟩)) fun s8 =>
    (ds_seq (ds_append 1 (s2) (dm_name 2 eS (s8))) fun v13_turned =>
    (ds_nil (z := v13_turned) rfl ⟨rfl, rfl, trivial⟩))))) fun s3 =>
    (ds_seq (ds_setO 3 (n := 1) (dm_list (dl_nil (g := eS) (n := 0))) sc__law_plain.nd) fun v16_found =>
    (ds_frz 1 rfl (ds_seq (ds_for (Ef := (fun (s19 : (List Str)) => [some (.v ((eL eS) (a))), some (.v ((eL eS) (s3))), none, some (.o 1 ((eL eS) (s19))), none, none, none])) (s0 := v16_found) PassesOwn.never rfl (di_listF (da_fr (n := 0) (dm_name 1 (eL eS) (s3)))) (gt_name 2) (pg_name (i := 2) sc__law_plain.nd rfl (.inl rfl)) ⟨rfl, rfl, rfl, trivial⟩ (fun s19 x21 =>
    (ds_seq (ds_setV 4 dm_str sc__law_plain.nd) fun v22_line =>
    (ds_seq (ds_for (Ef := (fun (s23 : Str) => [some (.v ((eL eS) (a))), some (.v ((eL eS) (s3))), some (.v (eS (x21))), some (.o 1 ((eL eS) (s19))), some (.v (eS (s23))), none, none])) (s0 := v22_line) PassesOwn.never rfl (di_rng1 V.b_range (da_pk (dm_b1 (k := fun (kx : Str) => (Run.lift (slen kx) : Option Int)) (dm_cB call_len_str os_lenS V.b_len bo_len (da_pk' (n := 0) (dm_name 2 eS (x21))))))) (gt_name 5) (pg_name (i := 5) sc__law_plain.nd rfl (.inl rfl)) ⟨rfl, rfl, rfl, rfl, rfl, trivial⟩ (fun s23 x26 =>
    (ds_last (ds_if (dt_b01 (k := fun (kx : Str) (ky : Str) => (pure ((kx == ky)) : Option Bool)) (dt_cmp (op_eqP hr.units) (da_pk (dm_b01 (k := fun (kx : Str) (ky : Int) => (Run.lift (sat kx ky) : Option Str)) (dm_ix ix_str (da_pk' (n := 0) (dm_b2 (k := fun (kx : (List Str)) (ky : Int) => (Run.lift (atI kx ky) : Option Str)) (dm_ix ix_list (da_sh (n := 0) (dm_name 1 (eL eS) (s3))) (da_pk dm_int) os_ixL (fun _ _ => rfl)))) (da_pk' (n := 0) (dm_name 5 eI (x26))) os_sat (fun _ _ => rfl)))) (da_pk dm_str) (os_eq (by decide)) (nomark _))) (ds_seq (ds_setV 4 (dm_b1 (k := fun (kx : Str) => ((Run.lift (sat x21 x26) : Option Str) >>= fun a33 => (Run.lift (f__law_turn (a33)) : Option Str)) >>= fun (ky : Str) => (Run.lift (scat kx ky) : Option Str)) (dm_op op_add_str (da_pk' (n := 0) (dm_name 4 eS (s23))) (da_pk' (n := 0) (dc_call (h__law_turn V) (hr.mono (by decide)) (ca_cons (da_fr (n := 0) (dm_b2 (k := fun (kx : Str) (ky : Int) => (Run.lift (sat kx ky) : Option Str)) (dm_ix ix_str (da_pk' (n := 0) (dm_name 2 eS (x21))) (da_pk' (n := 0) (dm_name 5 eI (x26))) os_sat (fun _ _ => rfl)))) (fun a33 => (ca_nil (M := (Run.lift (f__law_turn (a33)) : Option Str))))) (fun ds k h => by obtain ⟨a33, _, rfl, rfl, h⟩ := h; exact ⟨(a33), rfl, h⟩))) os_scat)) sc__law_plain.nd) fun v32_line =>
    (ds_nil (z := v32_line) rfl ⟨rfl, rfl, rfl, rfl, rfl, trivial⟩))
    (ds_seq (ds_setV 4 (dm_b1 (k := fun (kx : Str) => (Run.lift (sat x21 x26) : Option Str) >>= fun (ky : Str) => (Run.lift (scat kx ky) : Option Str)) (dm_op op_add_str (da_pk' (n := 0) (dm_name 4 eS (s23))) (da_pk (dm_b2 (k := fun (kx : Str) (ky : Int) => (Run.lift (sat kx ky) : Option Str)) (dm_ix ix_str (da_pk' (n := 0) (dm_name 2 eS (x21))) (da_pk' (n := 0) (dm_name 5 eI (x26))) os_sat (fun _ _ => rfl)))) os_scat)) sc__law_plain.nd) fun v36_line =>
    (ds_nil (z := v36_line) rfl ⟨rfl, rfl, rfl, rfl, rfl, trivial⟩)))))) fun s24 =>
    (ds_seq (ds_append 3 (s19) (dm_name 4 eS (s24))) fun v40_found =>
    (ds_nil (z := v40_found) rfl ⟨rfl, rfl, rfl, trivial⟩)))))) fun s20 =>
    (ds_retN 3 (eL eS) (s20) (s20) rfl))))))) rfl)
abbrev st__law_strings : Stmt := topS 29
theorem sc__law_strings : FnScope ["told", "due", "list", "at", "str"] ["told", "due"] (defScope st__law_strings) := ⟨rfl, rfl, rfl, by decide +kernel, rfl, by decide +kernel, by decide +kernel⟩
def f__law_strings (a : ((List Str) × (List Str))) : Option Bool :=
  ((pure (((!(isD "list" ((eL eS) a.1))) || ((List.length a.1 : Int) != (List.length a.2 : Int)))) : Option Bool) >>= fun t1 => if t1 then (pure (false) : Option Bool) else
    (((pure ((rng 0 (List.length a.2))) : Option (List Int)) >>= fun xs10 => forC (fun (s2 : Unit) (x4 : Int) => ((((((Run.lift (atI a.1 x4) : Option Str) >>= fun x5 => (pure ((isD "str" (eS x5))) : Option Bool)) >>= fun t => (pure (!t) : Option Bool)) >>= fun t => if t then (pure (true) : Option Bool) else ((Run.lift (atI a.1 x4) : Option Str) >>= fun x6 => (Run.lift (atI a.2 x4) : Option Str) >>= fun y7 => (pure ((x6 != y7)) : Option Bool))) >>= fun t8 => if t8 then (pure (false) : Option Bool) >>= fun r9 => (pure (Ct.rt r9) : Option _) else
    (pure (Ct.nx ()) : Option _)) : Option (Ct Unit Bool))) () xs10) >>= fun z11 => z11.go (fun s3 =>
    (pure (true) : Option Bool)) (fun r12 => (pure (r12) : Option _))))
theorem h__law_strings {P : Program} {w : World} {K : PySem.W.Frag} {mg : Str → Option Value} {base : Heap} (V : Ev K mg w) : HasDef P w K mg base "_law_strings" 1 (spD K (fun (a : ((List Str) × (List Str))) => [(eL eS) a.1, (eL eS) a.2]) f__law_strings 0 eB) :=
  hd_D (k := 0) (sl := fun (a : ((List Str) × (List Str))) => [some (.v ((eL eS) (a.1))), some (.v ((eL eS) (a.2))), none, none, none]) V.t__law_strings sc__law_strings (fun _ _ _ _ _ _ us hl => match us, hl with | [_, _], _ => rfl) (fun _ => rfl) (fun _ => rfl) (fun f cdv A outer s H E hr b (a : ((List Str) × (List Str))) => ds_eq (
    (ds_ifR0 (DW.dt (dw_orT (dt_notT (dt_val (dm_b1 (k := fun (kx : (List Str)) => (pure ((isD "list" ((eL eS) kx))) : Option Bool)) (dm_isi bo_list kb_list V.b_isinstance V.b_list (dm_pk (n := 0) (dm_name 0 (eL eS) (a.1))))))) (dw_or1 (dt_b2 (k := fun (kx : Int) (ky : Int) => (pure ((kx != ky)) : Option Bool)) (dt_cmp (op_neP hr.units) (da_pk (dm_b1 (k := fun (kx : (List Str)) => (pure ((List.length kx : Int)) : Option Int)) (dm_cB call_len_seq os_len V.b_len bo_len (da_pk' (n := 0) (dm_name 0 (eL eS) (a.1)))))) (da_pk (dm_b1 (k := fun (kx : (List Str)) => (pure ((List.length kx : Int)) : Option Int)) (dm_cB call_len_seq os_len V.b_len bo_len (da_pk' (n := 0) (dm_name 1 (eL eS) (a.2)))))) (os_ne (by decide)) (nomark _)))))) (ds_ret0 dm_bool) (fun _ _ h => by cases h)
    (ds_seqC (oR := (fun r => Oc.rt 0 (eB r))) (f := fun r => r) (ds_forC (Ef := (fun (s2 : Unit) => [some (.v ((eL eS) (a.1))), some (.v ((eL eS) (a.2))), none, none, none])) (s0 := ()) (oR := (fun r => Oc.rt 0 (eB r))) (fun _ => ⟨_, _, rfl⟩) PassesOwn.never rfl (di_rngLen V.b_range V.b_len (dm_pk (n := 0) (dm_name 1 (eL eS) (a.2)))) (gt_name 3) (pg_name (i := 3) sc__law_strings.nd rfl (.inl rfl)) ⟨rfl, rfl, trivial⟩ (fun s2 x4 =>
    (ds_ifR (oA := (fun r => Oc.rt 0 (eB r))) (f := Ct.rt) (DW.dt (dw_or (dt_not (dt_val (dm_isi bo_str kb_str V.b_isinstance V.b_str (dm_sc (n := 0) (dm_b2 (k := fun (kx : (List Str)) (ky : Int) => (Run.lift (atI kx ky) : Option Str)) (dm_ix ix_list (da_sh (n := 0) (dm_name 0 (eL eS) (a.1))) (da_pk' (n := 0) (dm_name 3 eI (x4))) os_ixL (fun _ _ => rfl))))))) (dw_or1 (dt_cmp (op_neP hr.units) (da_pk' (n := 0) (dm_b2 (k := fun (kx : (List Str)) (ky : Int) => (Run.lift (atI kx ky) : Option Str)) (dm_ix ix_list (da_sh (n := 0) (dm_name 0 (eL eS) (a.1))) (da_pk' (n := 0) (dm_name 3 eI (x4))) os_ixL (fun _ _ => rfl)))) (da_pk' (n := 0) (dm_b2 (k := fun (kx : (List Str)) (ky : Int) => (Run.lift (atI kx ky) : Option Str)) (dm_ix ix_list (da_sh (n := 0) (dm_name 1 (eL eS) (a.2))) (da_pk' (n := 0) (dm_name 3 eI (x4))) os_ixL (fun _ _ => rfl)))) (os_ne (by decide)) (nomark _))))) (ds_ret0 dm_bool) (fun _ => ⟨fun _ h => (by cases h), rfl⟩)
    (ds_nil (z := Ct.nx ()) rfl ⟨rfl, rfl, trivial⟩)))) (fun _ => ⟨_, _, rfl⟩) (fun _ => rfl) fun s3 =>
    (ds_ret0 dm_bool)))) rfl)
abbrev st__law_doubled_right : Stmt := topS 30
theorem sc__law_doubled_right : FnScope ["rows", "due", "row", "handed", "told", "sign"] ["rows"] (defScope st__law_doubled_right) := ⟨rfl, rfl, rfl, by decide +kernel, rfl, by decide +kernel, by decide +kernel⟩
def f__law_doubled_right (a : (List Str)) : Option Bool :=
  ((lcM (fun (x2 : Str) => (pure (true) : Option Bool)) (fun (x2 : Str) => (Run.lift (scat x2 x2) : Option Str)) a) >>= fun (v1_due : (List Str)) =>
    (((pure (a) : Option (List Str)) >>= fun xs13 => forS (fun (s3 : (List Str)) (x5 : Str) => (((((((Run.lift ((if Str.length x5 ≤ 16777216 then some (schars x5) else none)) : Option (List Str)) >>= lcM (fun (x6 : Str) => (pure (true) : Option Bool)) (fun (x6 : Str) => ((Run.lift (f__law_turn (x6)) : Option Str)))) >>= fun y8 => (Run.lift (sjoin "" y8) : Option Str)) >>= fun y10 => (Run.lift (scat x5 y10) : Option Str)) >>= fun y12 => (Run.lift (lapp s3 y12) : Option (List Str))) >>= fun (v11_due : (List Str)) =>
    (pure v11_due : Option _)) : Option (List Str))) v1_due xs13) >>= fun s4 =>
    ((pure (a) : Option (List Str)) >>= fun (v14_handed : (List Str)) =>
    (((Run.lift (f_doubled_signs (v14_handed)) : Option (List Str))) >>= fun (v15_told : (List Str)) =>
    (((((Run.lift (f__law_strings (v15_told, s4)) : Option Bool)) >>= fun t => (pure (!t) : Option Bool)) >>= fun t => if t then (pure (true) : Option Bool) else (pure ((v14_handed != a)) : Option Bool)) >>= fun t16 => if t16 then (pure (false) : Option Bool) else
    ((((((Run.lift (f_are_even (v15_told)) : Option D)) >>= fun x17 => (Run.lift ((deq (eD x17) ((eT eS) (["even"] : (List Str))))) : Option Bool)) >>= fun x19 => ((Run.lift (f__law_is_even (a)) : Option Bool)) >>= fun y20 => (pure ((x19 != y20)) : Option Bool)) >>= fun t => if t then (pure (true) : Option Bool) else (((Run.lift (f__law_is_even (s4)) : Option Bool)) >>= fun x21 => ((Run.lift (f__law_is_even (a)) : Option Bool)) >>= fun y22 => (pure ((x21 != y22)) : Option Bool))) >>= fun t23 => if t23 then (pure (false) : Option Bool) else
    (((pure ("") : Option Str) >>= fun y25 => (Run.lift (lapp v15_told y25) : Option (List Str))) >>= fun (v24_told : (List Str)) =>
    (((Run.lift (f_doubled_signs (v14_handed)) : Option (List Str))) >>= fun a26 => (Run.lift (f__law_strings (a26, s4)) : Option Bool)))))))))
theorem h__law_doubled_right {P : Program} {w : World} {K : PySem.W.Frag} {mg : Str → Option Value} {base : Heap} (V : Ev K mg w) : HasDef P w K mg base "_law_doubled_right" 3 (spD K (fun (a : (List Str)) => [(eL eS) a]) f__law_doubled_right 0 eB) :=
  hd_D (k := 2) (sl := fun (a : (List Str)) => [some (.v ((eL eS) (a))), none, none, none, none, none]) V.t__law_doubled_right sc__law_doubled_right (fun _ _ _ _ _ _ us hl => match us, hl with | [_], _ => rfl) (fun _ => rfl) (fun _ => rfl) (fun f cdv A outer s H E hr b (a : (List Str)) => ds_eq (
    (ds_seq (ds1_b (ds_lcO (n := 0) 1 rfl sc__law_doubled_right.nd (di_list (da_sh (n := 0) (dm_name 0 (eL eS) (a)))) (blkOk_by (own := [("row", 2)]) (by rfl)) (gt_name 2) (fun _ _ _ _ _ => (pg_name (i := 2) sc__law_doubled_right.nd rfl (.inl rfl))) lt_no (fun _ _ _ _ _ x2 => (dm_b2 (k := fun (kx : Str) (ky : Str) => (Run.lift (scat kx ky) : Option Str)) (dm_op op_add_str (da_pk' (n := 0) (dm_name 2 eS (x2))) (da_pk' (n := 0) (dm_name 2 eS (x2))) os_scat))))) fun v1_due =>
    (ds_seq (ds_for (Ef := (fun (s3 : (List Str)) => [some (.v ((eL eS) (a))), some (.o 1 ((eL eS) (s3))), none, none, none, none])) (s0 := v1_due) PassesOwn.never rfl (di_listF (da_fr (n := 0) (dm_name 0 (eL eS) (a)))) (gt_name 2) (pg_name (i := 2) sc__law_doubled_right.nd rfl (.inl rfl)) ⟨rfl, rfl, trivial⟩ (fun s3 x5 =>
    (ds_seq (ds_append 1 (s3) (dm_b1 (k := fun (kx : Str) => (((Run.lift ((if Str.length x5 ≤ 16777216 then some (schars x5) else none)) : Option (List Str)) >>= lcM (fun (x6 : Str) => (pure (true) : Option Bool)) (fun (x6 : Str) => ((Run.lift (f__law_turn (x6)) : Option Str)))) >>= fun y8 => (Run.lift (sjoin "" y8) : Option Str)) >>= fun (ky : Str) => (Run.lift (scat kx ky) : Option Str)) (dm_op op_add_str (da_pk' (n := 0) (dm_name 2 eS (x5))) (da_pk (dm_b1 (k := fun (kx : Str) => ((Run.lift ((if Str.length x5 ≤ 16777216 then some (schars x5) else none)) : Option (List Str)) >>= lcM (fun (x6 : Str) => (pure (true) : Option Bool)) (fun (x6 : Str) => ((Run.lift (f__law_turn (x6)) : Option Str)))) >>= fun (ky : (List Str)) => (Run.lift (sjoin kx ky) : Option Str)) (dm_join (da_pk dm_str) (da_pk' (n := 1) (dm_lc' rfl sc__law_doubled_right.nd (di_b1 (k := fun (kx : Str) => (Run.lift ((if Str.length kx ≤ 16777216 then some (schars kx) else none)) : Option (List Str))) (di_str (fz := false) (da_pk' (n := 0) (dm_name 2 eS (x5))))) (blkOk_by (own := [("sign", 5)]) (by rfl)) (gt_name 5) (fun _ _ _ _ _ => (pg_name (i := 5) sc__law_doubled_right.nd rfl (.inl rfl))) lt_no (fun _ _ _ _ _ x6 => (dc_call (h__law_turn V) (hr.mono (by decide)) (ca_consT (da_fr (n := 0) (dm_name 5 eS (x6))) (ca_nil (M := (Run.lift (f__law_turn (x6)) : Option Str)))) (fun ds k h => by obtain ⟨_, rfl, rfl, h⟩ := h; exact ⟨(x6), rfl, h⟩)))))))) os_scat))) fun v11_due =>
    (ds_nil (z := v11_due) rfl ⟨rfl, rfl, trivial⟩)))) fun s4 =>
    (ds_seq (ds_setV 3 (dm_b1 (k := fun (kx : (List Str)) => (pure (kx) : Option (List Str))) (dm_cT call_list_of (os_listOf nl0) V.b_list bo_list (da_sh (n := 0) (dm_name 0 (eL eS) (a))))) sc__law_doubled_right.nd) fun v14_handed =>
    (ds_seq (ds_setO 4 (n := 1) (dc_call (h_doubled_signs V) (hr.mono (by decide)) (ca_consT (da_fr (n := 0) (dm_name 3 (eL eS) (v14_handed))) (ca_nil (M := (Run.lift (f_doubled_signs (v14_handed)) : Option (List Str))))) (fun ds k h => by obtain ⟨_, rfl, rfl, h⟩ := h; exact ⟨(v14_handed), rfl, h⟩)) sc__law_doubled_right.nd) fun v15_told =>
    (ds_ifR0 (DW.dt (dw_or (dt_not (dt_val (dc_callP (h__law_strings V) (hr.mono (by decide)) (cp_consT (da_pk (dm_nameO 4 (eL eS) (v15_told))) (cp_consT (da_pk (dm_nameO 1 (eL eS) (s4))) (cp_nil (M := (Run.lift (f__law_strings (v15_told, s4)) : Option Bool))))) (fun ds k h => by obtain ⟨_, rfl, _, rfl, rfl, h⟩ := h; exact ⟨(v15_told, s4), rfl, h⟩)))) (dw_or1 (dt_b2 (k := fun (kx : (List Str)) (ky : (List Str)) => (pure ((kx != ky)) : Option Bool)) (dt_cmp (op_neP hr.units) (da_pk' (n := 0) (dm_name 3 (eL eS) (v14_handed))) (da_pk' (n := 0) (dm_name 0 (eL eS) (a))) (os_ne (by decide)) (nomark _)))))) (ds_ret0 dm_bool) (fun _ _ h => by cases h)
    (ds_ifR0 (DW.dt (dw_or (dt_cmp (op_neP hr.units) (da_pk (dm_b01 (k := fun (kx : D) (ky : (List Str)) => (Run.lift ((deq (eD kx) ((eT eS) ky))) : Option Bool)) (dm_cmp (op_eqP hr.units) (da_pk (dc_callPP (h_are_even V) (hr.mono (by decide)) (cp_consT (da_pk (dm_nameO 4 (eL eS) (v15_told))) (cp_nil (M := (Run.lift (f_are_even (v15_told)) : Option D)))) (fun ds k h => by obtain ⟨_, rfl, rfl, h⟩ := h; exact ⟨(v15_told), rfl, h⟩))) (da_pk' (n := 1) (dm_tupL (dl_consT dm_str (dl_nil (g := eS) (n := 0))))) os_eqD (nomark _)))) (da_pk' (n := 0) (dc_call (h__law_is_even V) (hr.mono (by decide)) (ca_consT (da_fr (n := 0) (dm_name 0 (eL eS) (a))) (ca_nil (M := (Run.lift (f__law_is_even (a)) : Option Bool)))) (fun ds k h => by obtain ⟨_, rfl, rfl, h⟩ := h; exact ⟨(a), rfl, h⟩))) (os_ne (by decide)) (nomark _)) (dw_or1 (dt_cmp (op_neP hr.units) (da_pk (dc_callP (h__law_is_even V) (hr.mono (by decide)) (cp_consT (da_pk (dm_nameO 1 (eL eS) (s4))) (cp_nil (M := (Run.lift (f__law_is_even (s4)) : Option Bool)))) (fun ds k h => by obtain ⟨_, rfl, rfl, h⟩ := h; exact ⟨(s4), rfl, h⟩))) (da_pk' (n := 0) (dc_call (h__law_is_even V) (hr.mono (by decide)) (ca_consT (da_fr (n := 0) (dm_name 0 (eL eS) (a))) (ca_nil (M := (Run.lift (f__law_is_even (a)) : Option Bool)))) (fun ds k h => by obtain ⟨_, rfl, rfl, h⟩ := h; exact ⟨(a), rfl, h⟩))) (os_ne (by decide)) (nomark _))))) (ds_ret0 dm_bool) (fun _ _ h => by cases h)
    (ds_seq (ds_append 4 (v15_told) dm_str) fun v24_told =>
    (ds_ret0 (dc_callP (h__law_strings V) (hr.mono (by decide)) (cp_cons (da_pk' (n := 1) (dc_call (h_doubled_signs V) (hr.mono (by decide)) (ca_consT (da_fr (n := 0) (dm_name 3 (eL eS) (v14_handed))) (ca_nil (M := (Run.lift (f_doubled_signs (v14_handed)) : Option (List Str))))) (fun ds k h => by obtain ⟨_, rfl, rfl, h⟩ := h; exact ⟨(v14_handed), rfl, h⟩))) (fun a26 => (cp_consT (da_pk (dm_nameO 1 (eL eS) (s4))) (cp_nil (M := (Run.lift (f__law_strings (a26, s4)) : Option Bool)))))) (fun ds k h => by obtain ⟨a26, _, rfl, _, rfl, rfl, h⟩ := h; exact ⟨(a26, s4), rfl, h⟩))))))))))) rfl)
abbrev st__law_plain_right : Stmt := topS 31
theorem sc__law_plain_right : FnScope ["rows", "due", "handed", "told", "at", "k", "one", "other", "row"] ["rows"] (defScope st__law_plain_right) := ⟨rfl, rfl, rfl, by decide +kernel, rfl, by decide +kernel, by decide +kernel⟩
def f__law_plain_right (a : (List Str)) : Option Bool :=
  (((Run.lift (f__law_plain (a)) : Option (List Str))) >>= fun (v1_due : (List Str)) =>
    ((pure (a) : Option (List Str)) >>= fun (v2_handed : (List Str)) =>
    (((Run.lift (f_plain_signs (v2_handed)) : Option (List Str))) >>= fun (v3_told : (List Str)) =>
    (((((Run.lift (f__law_strings (v3_told, v1_due)) : Option Bool)) >>= fun t => (pure (!t) : Option Bool)) >>= fun t => if t then (pure (true) : Option Bool) else ((pure ((v2_handed != a)) : Option Bool) >>= fun t => if t then (pure (true) : Option Bool) else ((((Run.lift (f_plain_signs (v1_due)) : Option (List Str))) >>= fun a4 => (Run.lift (f__law_strings (a4, v1_due)) : Option Bool)) >>= fun t => (pure (!t) : Option Bool)))) >>= fun t5 => if t5 then (pure (false) : Option Bool) else
    ((((Run.lift (atI v1_due 0) : Option Str) >>= fun x6 => (Run.lift (smul "+" (List.length a : Int)) : Option Str) >>= fun y7 => (pure ((x6 != y7)) : Option Bool)) >>= fun t => if t then (pure (true) : Option Bool) else (((lcM (fun (x8 : Str) => (pure (true) : Option Bool)) (fun (x8 : Str) => (Run.lift (sat x8 0) : Option Str)) v1_due) >>= fun y10 => (Run.lift (sjoin "" y10) : Option Str)) >>= fun x11 => (Run.lift (atI v1_due 0) : Option Str) >>= fun y12 => (pure ((x11 != y12)) : Option Bool))) >>= fun t13 => if t13 then (pure (false) : Option Bool) else
    (((pure ((rng 0 (List.length a))) : Option (List Int)) >>= fun xs31 => forC (fun (s14 : Unit) (x16 : Int) => ((((Run.lift (irng 0 x16) : Option (List Int)) >>= fun xs28 => forC (fun (s17 : Unit) (x19 : Int) => ((((Run.lift (atI a x19) : Option Str) >>= fun a21 => ((Run.lift (atI a x16) : Option Str) >>= fun a22 => (Run.lift (f__law_agree (a21, a22)) : Option Int))) >>= fun (v20_one : Int) =>
    (((Run.lift (atI v1_due x19) : Option Str) >>= fun a24 => ((Run.lift (atI v1_due x16) : Option Str) >>= fun a25 => (Run.lift (f__law_agree (a24, a25)) : Option Int))) >>= fun (v23_other : Int) =>
    ((pure (((v23_other != v20_one) && (v23_other != ((List.length a : Int) - v20_one)))) : Option Bool) >>= fun t26 => if t26 then (pure (false) : Option Bool) >>= fun r27 => (pure (Ct.rt r27) : Option _) else
    (pure (Ct.nx ()) : Option _)))) : Option (Ct Unit Bool))) () xs28) >>= fun z29 => z29.go (fun s18 =>
    (pure (Ct.nx ()) : Option _)) (fun r30 => (pure (Ct.rt r30) : Option _))) : Option (Ct Unit Bool))) () xs31) >>= fun z32 => z32.go (fun s15 =>
    (pure (true) : Option Bool)) (fun r33 => (pure (r33) : Option _))))))))
theorem h__law_plain_right {P : Program} {w : World} {K : PySem.W.Frag} {mg : Str → Option Value} {base : Heap} (V : Ev K mg w) : HasDef P w K mg base "_law_plain_right" 3 (spD K (fun (a : (List Str)) => [(eL eS) a]) f__law_plain_right 0 eB) :=
  hd_D (k := 2) (sl := fun (a : (List Str)) => [some (.v ((eL eS) (a))), none, none, none, none, none, none, none, none]) V.t__law_plain_right sc__law_plain_right (fun _ _ _ _ _ _ us hl => match us, hl with | [_], _ => rfl) (fun _ => rfl) (fun _ => rfl) (fun f cdv A outer s H E hr b (a : (List Str)) => ds_eq (
    (ds_seq (ds_setV 1 (dm_fr (n := 1) (dc_call (h__law_plain V) (hr.mono (by decide)) (ca_consT (da_fr (n := 0) (dm_name 0 (eL eS) (a))) (ca_nil (M := (Run.lift (f__law_plain (a)) : Option (List Str))))) (fun ds k h => by obtain ⟨_, rfl, rfl, h⟩ := h; exact ⟨(a), rfl, h⟩))) sc__law_plain_right.nd) fun v1_due =>
    (ds_seq (ds_setV 2 (dm_b1 (k := fun (kx : (List Str)) => (pure (kx) : Option (List Str))) (dm_cT call_list_of (os_listOf nl0) V.b_list bo_list (da_sh (n := 0) (dm_name 0 (eL eS) (a))))) sc__law_plain_right.nd) fun v2_handed =>
    (ds_seq (ds_setV 3 (dm_fr (n := 1) (dc_call (h_plain_signs V) (hr.mono (by decide)) (ca_consT (da_fr (n := 0) (dm_name 2 (eL eS) (v2_handed))) (ca_nil (M := (Run.lift (f_plain_signs (v2_handed)) : Option (List Str))))) (fun ds k h => by obtain ⟨_, rfl, rfl, h⟩ := h; exact ⟨(v2_handed), rfl, h⟩))) sc__law_plain_right.nd) fun v3_told =>
    (ds_ifR0 (DW.dt (dw_or (dt_not (dt_val (dm_sc (n := 0) (dc_call (h__law_strings V) (hr.mono (by decide)) (ca_consT (da_fr (n := 0) (dm_name 3 (eL eS) (v3_told))) (ca_consT (da_fr (n := 0) (dm_name 1 (eL eS) (v1_due))) (ca_nil (M := (Run.lift (f__law_strings (v3_told, v1_due)) : Option Bool))))) (fun ds k h => by obtain ⟨_, rfl, _, rfl, rfl, h⟩ := h; exact ⟨(v3_told, v1_due), rfl, h⟩))))) (dw_or (dt_b2 (k := fun (kx : (List Str)) (ky : (List Str)) => (pure ((kx != ky)) : Option Bool)) (dt_cmp (op_neP hr.units) (da_pk' (n := 0) (dm_name 2 (eL eS) (v2_handed))) (da_pk' (n := 0) (dm_name 0 (eL eS) (a))) (os_ne (by decide)) (nomark _))) (dw_or1 (dt_not (dt_val (dm_sc (n := 0) (dc_call (h__law_strings V) (hr.mono (by decide)) (ca_cons (da_fr (n := 1) (dc_call (h_plain_signs V) (hr.mono (by decide)) (ca_consT (da_fr (n := 0) (dm_b1 (k := fun (kx : (List Str)) => (pure (kx) : Option (List Str))) (dm_cT call_list_of (os_listOf nl0) V.b_list bo_list (da_sh (n := 0) (dm_name 1 (eL eS) (v1_due)))))) (ca_nil (M := (Run.lift (f_plain_signs (v1_due)) : Option (List Str))))) (fun ds k h => by obtain ⟨_, rfl, rfl, h⟩ := h; exact ⟨(v1_due), rfl, h⟩))) (fun a4 => (ca_consT (da_fr (n := 0) (dm_name 1 (eL eS) (v1_due))) (ca_nil (M := (Run.lift (f__law_strings (a4, v1_due)) : Option Bool)))))) (fun ds k h => by obtain ⟨a4, _, rfl, _, rfl, rfl, h⟩ := h; exact ⟨(a4, v1_due), rfl, h⟩))))))))) (ds_ret0 dm_bool) (fun _ _ h => by cases h)
    (ds_ifR0 (DW.dt (dw_or (dt_cmp (op_neP hr.units) (da_pk' (n := 0) (dm_b2 (k := fun (kx : (List Str)) (ky : Int) => (Run.lift (atI kx ky) : Option Str)) (dm_ix ix_list (da_sh (n := 0) (dm_name 1 (eL eS) (v1_due))) (da_pk dm_int) os_ixL (fun _ _ => rfl)))) (da_pk (dm_b2 (k := fun (kx : Str) (ky : Int) => (Run.lift (smul kx ky) : Option Str)) (dm_op op_smul (da_pk dm_str) (da_pk (dm_b1 (k := fun (kx : (List Str)) => (pure ((List.length kx : Int)) : Option Int)) (dm_cB call_len_seq os_len V.b_len bo_len (da_pk' (n := 0) (dm_name 0 (eL eS) (a)))))) os_smul))) (os_ne (by decide)) (nomark _)) (dw_or1 (dt_cmp (op_neP hr.units) (da_pk (dm_b1 (k := fun (kx : Str) => (lcM (fun (x8 : Str) => (pure (true) : Option Bool)) (fun (x8 : Str) => (Run.lift (sat x8 0) : Option Str)) v1_due) >>= fun (ky : (List Str)) => (Run.lift (sjoin kx ky) : Option Str)) (dm_join (da_pk dm_str) (da_pk' (n := 1) (dm_b1 (dm_lc' rfl sc__law_plain_right.nd (di_list (da_sh (n := 0) (dm_name 1 (eL eS) (v1_due)))) (blkOk_by (own := [("row", 8)]) (by rfl)) (gt_name 8) (fun _ _ _ _ _ => (pg_name (i := 8) sc__law_plain_right.nd rfl (.inl rfl))) lt_no (fun _ _ _ _ _ x8 => (dm_b2 (k := fun (kx : Str) (ky : Int) => (Run.lift (sat kx ky) : Option Str)) (dm_ix ix_str (da_pk' (n := 0) (dm_name 8 eS (x8))) (da_pk dm_int) os_sat (fun _ _ => rfl)))))))))) (da_pk' (n := 0) (dm_b2 (k := fun (kx : (List Str)) (ky : Int) => (Run.lift (atI kx ky) : Option Str)) (dm_ix ix_list (da_sh (n := 0) (dm_name 1 (eL eS) (v1_due))) (da_pk dm_int) os_ixL (fun _ _ => rfl)))) (os_ne (by decide)) (nomark _))))) (ds_ret0 dm_bool) (fun _ _ h => by cases h)
    (ds_seqC (oR := (fun r => Oc.rt 0 (eB r))) (f := fun r => r) (ds_forC (Ef := (fun (s14 : Unit) => [some (.v ((eL eS) (a))), some (.v ((eL eS) (v1_due))), some (.v ((eL eS) (v2_handed))), some (.v ((eL eS) (v3_told))), none, none, none, none, none])) (s0 := ()) (oR := (fun r => Oc.rt 0 (eB r))) (fun _ => ⟨_, _, rfl⟩) PassesOwn.never rfl (di_rngLen V.b_range V.b_len (dm_pk (n := 0) (dm_name 0 (eL eS) (a)))) (gt_name 4) (pg_name (i := 4) sc__law_plain_right.nd rfl (.inl rfl)) ⟨rfl, rfl, rfl, rfl, trivial⟩ (fun s14 x16 =>
    (ds_seqC (oR := (fun r => Oc.rt 0 (eB r))) (f := Ct.rt) (ds_forC (Ef := (fun (s17 : Unit) => [some (.v ((eL eS) (a))), some (.v ((eL eS) (v1_due))), some (.v ((eL eS) (v2_handed))), some (.v ((eL eS) (v3_told))), some (.v (eI (x16))), none, none, none, none])) (s0 := ()) (oR := (fun r => Oc.rt 0 (eB r))) (fun _ => ⟨_, _, rfl⟩) PassesOwn.never rfl (di_b1 (k := fun (kx : Int) => (Run.lift (irng 0 kx) : Option (List Int))) (di_rng1 V.b_range (da_pk' (n := 0) (dm_name 4 eI (x16))))) (gt_name 5) (pg_name (i := 5) sc__law_plain_right.nd rfl (.inl rfl)) ⟨rfl, rfl, rfl, rfl, rfl, trivial⟩ (fun s17 x19 =>
    (ds_seq (ds_setV 6 (dc_call (h__law_agree V) (hr.mono (by decide)) (ca_cons (da_fr (n := 0) (dm_b2 (k := fun (kx : (List Str)) (ky : Int) => (Run.lift (atI kx ky) : Option Str)) (dm_ix ix_list (da_sh (n := 0) (dm_name 0 (eL eS) (a))) (da_pk' (n := 0) (dm_name 5 eI (x19))) os_ixL (fun _ _ => rfl)))) (fun a21 => (ca_cons (da_fr (n := 0) (dm_b2 (k := fun (kx : (List Str)) (ky : Int) => (Run.lift (atI kx ky) : Option Str)) (dm_ix ix_list (da_sh (n := 0) (dm_name 0 (eL eS) (a))) (da_pk' (n := 0) (dm_name 4 eI (x16))) os_ixL (fun _ _ => rfl)))) (fun a22 => (ca_nil (M := (Run.lift (f__law_agree (a21, a22)) : Option Int))))))) (fun ds k h => by obtain ⟨a21, _, rfl, a22, _, rfl, rfl, h⟩ := h; exact ⟨(a21, a22), rfl, h⟩)) sc__law_plain_right.nd) fun v20_one =>
    (ds_seq (ds_setV 7 (dc_call (h__law_agree V) (hr.mono (by decide)) (ca_cons (da_fr (n := 0) (dm_b2 (k := fun (kx : (List Str)) (ky : Int) => (Run.lift (atI kx ky) : Option Str)) (dm_ix ix_list (da_sh (n := 0) (dm_name 1 (eL eS) (v1_due))) (da_pk' (n := 0) (dm_name 5 eI (x19))) os_ixL (fun _ _ => rfl)))) (fun a24 => (ca_cons (da_fr (n := 0) (dm_b2 (k := fun (kx : (List Str)) (ky : Int) => (Run.lift (atI kx ky) : Option Str)) (dm_ix ix_list (da_sh (n := 0) (dm_name 1 (eL eS) (v1_due))) (da_pk' (n := 0) (dm_name 4 eI (x16))) os_ixL (fun _ _ => rfl)))) (fun a25 => (ca_nil (M := (Run.lift (f__law_agree (a24, a25)) : Option Int))))))) (fun ds k h => by obtain ⟨a24, _, rfl, a25, _, rfl, rfl, h⟩ := h; exact ⟨(a24, a25), rfl, h⟩)) sc__law_plain_right.nd) fun v23_other =>
    (ds_ifR (oA := (fun r => Oc.rt 0 (eB r))) (f := Ct.rt) (DW.dt (dw_andT (dt_b2 (k := fun (kx : Int) (ky : Int) => (pure ((kx != ky)) : Option Bool)) (dt_cmp (op_neP hr.units) (da_pk' (n := 0) (dm_name 7 eI (v23_other))) (da_pk' (n := 0) (dm_name 6 eI (v20_one))) (os_ne (by decide)) (nomark _))) (dw_and1 (dt_b2 (k := fun (kx : Int) (ky : Int) => (pure ((kx != ky)) : Option Bool)) (dt_cmp (op_neP hr.units) (da_pk' (n := 0) (dm_name 7 eI (v23_other))) (da_pk (dm_b2 (k := fun (kx : Int) (ky : Int) => (pure ((kx - ky)) : Option Int)) (dm_op op_sub (da_pk (dm_b1 (k := fun (kx : (List Str)) => (pure ((List.length kx : Int)) : Option Int)) (dm_cB call_len_seq os_len V.b_len bo_len (da_pk' (n := 0) (dm_name 0 (eL eS) (a)))))) (da_pk' (n := 0) (dm_name 6 eI (v20_one))) os_II))) (os_ne (by decide)) (nomark _)))))) (ds_ret0 dm_bool) (fun _ => ⟨fun _ h => (by cases h), rfl⟩)
    (ds_nil (z := Ct.nx ()) rfl ⟨rfl, rfl, rfl, rfl, rfl, trivial⟩)))))) (fun _ => ⟨_, _, rfl⟩) (fun _ => rfl) fun s18 =>
    (ds_nil (z := Ct.nx ()) rfl ⟨rfl, rfl, rfl, rfl, trivial⟩)))) (fun _ => ⟨_, _, rfl⟩) (fun _ => rfl) fun s15 =>
    (ds_ret0 dm_bool)))))))) rfl)
abbrev st__law_blocks_right : Stmt := topS 32
theorem sc__law_blocks_right : FnScope ["rows", "n", "plain", "due", "handed", "told", "block", "a", "b", "row", "at"] ["rows"] (defScope st__law_blocks_right) := ⟨rfl, rfl, rfl, by decide +kernel, rfl, by decide +kernel, by decide +kernel⟩
def f__law_blocks_right (a : (List Str)) : Option Bool :=
  ((pure ((List.length a : Int)) : Option Int) >>= fun (v1_n : Int) =>
    (((Run.lift (f__law_plain (a)) : Option (List Str))) >>= fun (v2_plain : (List Str)) =>
    ((lcM (fun (x4 : Str) => (pure (true) : Option Bool)) (fun (x4 : Str) => ((Run.lift (irng 1 v1_n) : Option (List Int)) >>= lcM (fun (x5 : Int) => ((Run.lift (sat x4 x5) : Option Str) >>= fun x6 => (pure ((x6 == "+")) : Option Bool))) (fun (x5 : Int) => (pure ((x5 - 1)) : Option Int)))) (lcut v2_plain (some 1 : Option Int) (none : Option Int))) >>= fun (v3_due : (List (List Int))) =>
    ((pure (a) : Option (List Str)) >>= fun (v8_handed : (List Str)) =>
    (((Run.lift (f_blocks_of_signs (v8_handed)) : Option (List (List Int)))) >>= fun (v9_told : (List (List Int))) =>
    (((((Run.lift (f__law_lists (v9_told, v3_due)) : Option Bool)) >>= fun t => (pure (!t) : Option Bool)) >>= fun t => if t then (pure (true) : Option Bool) else (pure ((v8_handed != a)) : Option Bool)) >>= fun t10 => if t10 then (pure (false) : Option Bool) else
    (((pure (v3_due) : Option (List (List Int))) >>= fun xs16 => forC (fun (s11 : Unit) (x13 : (List Int)) => (((pure (((List.length x13 : Int) != ((v1_n / 2) - 1))) : Option Bool) >>= fun t14 => if t14 then (pure (false) : Option Bool) >>= fun r15 => (pure (Ct.rt r15) : Option _) else
    (pure (Ct.nx ()) : Option _)) : Option (Ct Unit Bool))) () xs16) >>= fun z40 => z40.go (fun s12 =>
    (((Run.lift (irng 0 (v1_n - 1)) : Option (List Int)) >>= fun xs29 => forC (fun (s17 : Unit) (x19 : Int) => ((((Run.lift (irng 0 x19) : Option (List Int)) >>= fun xs26 => forC (fun (s20 : Unit) (x22 : Int) => (((pure (((List.length (List.map (fun (x23 : (List Int)) => x23) (List.filter (fun (x23 : (List Int)) => ((lin x19 x23) && (lin x22 x23))) v3_due)) : Int) != ((v1_n / 4) - 1))) : Option Bool) >>= fun t24 => if t24 then (pure (false) : Option Bool) >>= fun r25 => (pure (Ct.rt r25) : Option _) else
    (pure (Ct.nx ()) : Option _)) : Option (Ct Unit Bool))) () xs26) >>= fun z27 => z27.go (fun s21 =>
    (pure (Ct.nx ()) : Option _)) (fun r28 => (pure (Ct.rt r28) : Option _))) : Option (Ct Unit Bool))) () xs29) >>= fun z38 => z38.go (fun s18 =>
    (((pure ((decide (v1_n < 18))) : Option Bool) >>= fun t => if t then (((Run.lift (f_verdict ((v1_n - 1), v9_told)) : Option D)) >>= fun x30 => (Run.lift ((deq (eD x30) ((eP3 eS eI eI) ("even", ((v1_n / 2) - 1), ((v1_n / 4) - 1)))).map (!·)) : Option Bool)) else (pure (false) : Option Bool)) >>= fun t32 => if t32 then (pure (false) : Option Bool) else
    (((pure (0) : Option Int) >>= fun x33 => (Run.lift (atI v9_told x33) : Option (List Int)) >>= fun r34 => (pure (v1_n) : Option Int) >>= fun w35 => (Run.lift (lappI v9_told x33 w35) : Option (List (List Int)))) >>= fun (v36_told : (List (List Int))) =>
    (((Run.lift (f_blocks_of_signs (v8_handed)) : Option (List (List Int)))) >>= fun a37 => (Run.lift (f__law_lists (a37, v3_due)) : Option Bool))))) (fun r39 => (pure (r39) : Option _)))) (fun r41 => (pure (r41) : Option _)))))))))
theorem h__law_blocks_right {P : Program} {w : World} {K : PySem.W.Frag} {mg : Str → Option Value} {base : Heap} (V : Ev K mg w) : HasDef P w K mg base "_law_blocks_right" 4 (spD K (fun (a : (List Str)) => [(eL eS) a]) f__law_blocks_right 0 eB) :=
  hd_D (k := 3) (sl := fun (a : (List Str)) => [some (.v ((eL eS) (a))), none, none, none, none, none, none, none, none, none, none]) V.t__law_blocks_right sc__law_blocks_right (fun _ _ _ _ _ _ us hl => match us, hl with | [_], _ => rfl) (fun _ => rfl) (fun _ => rfl) (fun f cdv A outer s H E hr b (a : (List Str)) => ds_eq (
    (ds_seq (ds_setV 1 (dm_b1 (k := fun (kx : (List Str)) => (pure ((List.length kx : Int)) : Option Int)) (dm_cB call_len_seq os_len V.b_len bo_len (da_pk' (n := 0) (dm_name 0 (eL eS) (a))))) sc__law_blocks_right.nd) fun v1_n =>
    (ds_seq (ds_setV 2 (dm_fr (n := 1) (dc_call (h__law_plain V) (hr.mono (by decide)) (ca_consT (da_fr (n := 0) (dm_name 0 (eL eS) (a))) (ca_nil (M := (Run.lift (f__law_plain (a)) : Option (List Str))))) (fun ds k h => by obtain ⟨_, rfl, rfl, h⟩ := h; exact ⟨(a), rfl, h⟩))) sc__law_blocks_right.nd) fun v2_plain =>
    (ds_seq (ds1_b (ds_lcV (n := 0) 3 rfl sc__law_blocks_right.nd (di_list (da_sh (n := 1) (dm_b3 (k := fun kx kl kh => (pure (lcut kx kl kh) : Option (List Str))) (dm_slice nl1 (da_sh (n := 0) (dm_name 2 (eL eS) (v2_plain))) (po_yesT (da_pk dm_int)) po_no)))) (blkOk_by (own := [("row", 9)]) (by rfl)) (gt_name 9) (fun _ _ _ _ _ => (pg_name (i := 9) sc__law_blocks_right.nd rfl (.inr rfl))) lt_no (fun _ _ _ _ _ x4 => (dm_fr (n := 1) (dm_lc' rfl sc__law_blocks_right.nd (di_b2 (k := fun (kx : Int) (ky : Int) => (Run.lift (irng kx ky) : Option (List Int))) (di_rng2 V.b_range (da_pk dm_int) (da_pk' (n := 0) (dm_name 1 eI (v1_n))))) (blkOk_by (own := [("at", 10)]) (by rfl)) (gt_name 10) (fun _ _ _ _ _ => (pg_name (i := 10) sc__law_blocks_right.nd rfl (.inl rfl))) (lt_if fun _ _ _ _ _ x5 => (dt_b01 (k := fun (kx : Str) (ky : Str) => (pure ((kx == ky)) : Option Bool)) (dt_cmp (op_eqP hr.units) (da_pk (dm_b2 (k := fun (kx : Str) (ky : Int) => (Run.lift (sat kx ky) : Option Str)) (dm_ix ix_str (da_pk' (n := 0) (dm_name 9 eS (x4))) (da_pk' (n := 0) (dm_name 10 eI (x5))) os_sat (fun _ _ => rfl)))) (da_pk dm_str) (os_eq (by decide)) (nomark _)))) (fun _ _ _ _ _ x5 => (dm_b2 (k := fun (kx : Int) (ky : Int) => (pure ((kx - ky)) : Option Int)) (dm_op op_sub (da_pk' (n := 0) (dm_name 10 eI (x5))) (da_pk dm_int) os_II)))))))) fun v3_due =>
    (ds_seq (ds_setV 4 (dm_b1 (k := fun (kx : (List Str)) => (pure (kx) : Option (List Str))) (dm_cT call_list_of (os_listOf nl0) V.b_list bo_list (da_sh (n := 0) (dm_name 0 (eL eS) (a))))) sc__law_blocks_right.nd) fun v8_handed =>
    (ds_seq (ds_setO 5 (n := 2) (dc_call (h_blocks_of_signs V) (hr.mono (by decide)) (ca_consT (da_fr (n := 0) (dm_name 4 (eL eS) (v8_handed))) (ca_nil (M := (Run.lift (f_blocks_of_signs (v8_handed)) : Option (List (List Int)))))) (fun ds k h => by obtain ⟨_, rfl, rfl, h⟩ := h; exact ⟨(v8_handed), rfl, h⟩)) sc__law_blocks_right.nd) fun v9_told =>
    (ds_ifR0 (DW.dt (dw_or (dt_not (dt_val (dc_callP (h__law_lists V) (hr.mono (by decide)) (cp_consT (da_pk (dm_nameO 5 (eL (eL eI)) (v9_told))) (cp_consT (da_pk' (n := 0) (dm_name 3 (eL (eL eI)) (v3_due))) (cp_nil (M := (Run.lift (f__law_lists (v9_told, v3_due)) : Option Bool))))) (fun ds k h => by obtain ⟨_, rfl, _, rfl, rfl, h⟩ := h; exact ⟨(v9_told, v3_due), rfl, h⟩)))) (dw_or1 (dt_b2 (k := fun (kx : (List Str)) (ky : (List Str)) => (pure ((kx != ky)) : Option Bool)) (dt_cmp (op_neP hr.units) (da_pk' (n := 0) (dm_name 4 (eL eS) (v8_handed))) (da_pk' (n := 0) (dm_name 0 (eL eS) (a))) (os_ne (by decide)) (nomark _)))))) (ds_ret0 dm_bool) (fun _ _ h => by cases h)
    (ds_seqC (oR := (fun r => Oc.rt 0 (eB r))) (f := fun r => r) (ds_forC (Ef := (fun (s11 : Unit) => [some (.v ((eL eS) (a))), some (.v (eI (v1_n))), some (.v ((eL eS) (v2_plain))), some (.v ((eL (eL eI)) (v3_due))), some (.v ((eL eS) (v8_handed))), some (.o 2 ((eL (eL eI)) (v9_told))), none, none, none, none, none])) (s0 := ()) (oR := (fun r => Oc.rt 0 (eB r))) (fun _ => ⟨_, _, rfl⟩) PassesOwn.never rfl (di_listF (da_fr (n := 0) (dm_name 3 (eL (eL eI)) (v3_due)))) (gt_name 6) (pg_name (i := 6) sc__law_blocks_right.nd rfl (.inl rfl)) ⟨rfl, rfl, rfl, rfl, rfl, rfl, trivial⟩ (fun s11 x13 =>
    (ds_ifR (oA := (fun r => Oc.rt 0 (eB r))) (f := Ct.rt) (dt_b2 (k := fun (kx : Int) (ky : Int) => (pure ((kx != ky)) : Option Bool)) (dt_cmp (op_neP hr.units) (da_pk (dm_b1 (k := fun (kx : (List Int)) => (pure ((List.length kx : Int)) : Option Int)) (dm_cB call_len_seq os_len V.b_len bo_len (da_pk' (n := 0) (dm_name 6 (eL eI) (x13)))))) (da_pk (dm_b2 (k := fun (kx : Int) (ky : Int) => (pure ((kx - ky)) : Option Int)) (dm_op op_sub (da_pk (dm_b1 (k := fun (kx : Int) => (pure ((kx / 2)) : Option Int)) (dm_opR op_fdiv (da_pk' (n := 0) (dm_name 1 eI (v1_n))) (da_pk dm_int) (os_divK (n := 2) (by decide))))) (da_pk dm_int) os_II))) (os_ne (by decide)) (nomark _))) (ds_ret0 dm_bool) (fun _ => ⟨fun _ h => (by cases h), rfl⟩)
    (ds_nil (z := Ct.nx ()) rfl ⟨rfl, rfl, rfl, rfl, rfl, rfl, trivial⟩)))) (fun _ => ⟨_, _, rfl⟩) (fun _ => rfl) fun s12 =>
    (ds_seqC (oR := (fun r => Oc.rt 0 (eB r))) (f := fun r => r) (ds_forC (Ef := (fun (s17 : Unit) => [some (.v ((eL eS) (a))), some (.v (eI (v1_n))), some (.v ((eL eS) (v2_plain))), some (.v ((eL (eL eI)) (v3_due))), some (.v ((eL eS) (v8_handed))), some (.o 2 ((eL (eL eI)) (v9_told))), none, none, none, none, none])) (s0 := ()) (oR := (fun r => Oc.rt 0 (eB r))) (fun _ => ⟨_, _, rfl⟩) PassesOwn.never rfl (di_b1 (k := fun (kx : Int) => (Run.lift (irng 0 kx) : Option (List Int))) (di_rng1 V.b_range (da_pk (dm_b2 (k := fun (kx : Int) (ky : Int) => (pure ((kx - ky)) : Option Int)) (dm_op op_sub (da_pk' (n := 0) (dm_name 1 eI (v1_n))) (da_pk dm_int) os_II))))) (gt_name 7) (pg_name (i := 7) sc__law_blocks_right.nd rfl (.inr rfl)) ⟨rfl, rfl, rfl, rfl, rfl, rfl, trivial⟩ (fun s17 x19 =>
    (ds_seqC (oR := (fun r => Oc.rt 0 (eB r))) (f := Ct.rt) (ds_forC (Ef := (fun (s20 : Unit) => [some (.v ((eL eS) (a))), some (.v (eI (v1_n))), some (.v ((eL eS) (v2_plain))), some (.v ((eL (eL eI)) (v3_due))), some (.v ((eL eS) (v8_handed))), some (.o 2 ((eL (eL eI)) (v9_told))), none, some (.v (eI (x19))), none, none, none])) (s0 := ()) (oR := (fun r => Oc.rt 0 (eB r))) (fun _ => ⟨_, _, rfl⟩) PassesOwn.never rfl (di_b1 (k := fun (kx : Int) => (Run.lift (irng 0 kx) : Option (List Int))) (di_rng1 V.b_range (da_pk' (n := 0) (dm_name 7 eI (x19))))) (gt_name 8) (pg_name (i := 8) sc__law_blocks_right.nd rfl (.inr rfl)) ⟨rfl, rfl, rfl, rfl, rfl, rfl, rfl, trivial⟩ (fun s20 x22 =>
    (ds_ifR (oA := (fun r => Oc.rt 0 (eB r))) (f := Ct.rt) (dt_b2 (k := fun (kx : Int) (ky : Int) => (pure ((kx != ky)) : Option Bool)) (dt_cmp (op_neP hr.units) (da_pk (dm_b1 (k := fun (kx : (List (List Int))) => (pure ((List.length kx : Int)) : Option Int)) (dm_cB call_len_seq os_len V.b_len bo_len (da_pk' (n := 1) (dm_lcF (dm_lc' rfl sc__law_blocks_right.nd (di_list (da_sh (n := 0) (dm_name 3 (eL (eL eI)) (v3_due)))) (blkOk_by (own := [("block", 6)]) (by rfl)) (gt_name 6) (fun _ _ _ _ _ => (pg_name (i := 6) sc__law_blocks_right.nd rfl (.inl rfl))) (lt_if fun _ _ _ _ _ x23 => (DW.dt (dw_andT (dt_b2 (k := fun (kx : Int) (ky : (List Int)) => (pure ((lin kx ky)) : Option Bool)) (dt_cmp (op_inP hr.units) (da_pk' (n := 0) (dm_name 7 eI (x19))) (da_pk' (n := 0) (dm_name 6 (eL eI) (x23))) (os_in (by decide)) (by first | exact nomark _ | exact nobehind _ (by decide) (by decide) | rfl))) (dw_and1 (dt_b2 (k := fun (kx : Int) (ky : (List Int)) => (pure ((lin kx ky)) : Option Bool)) (dt_cmp (op_inP hr.units) (da_pk' (n := 0) (dm_name 8 eI (x22))) (da_pk' (n := 0) (dm_name 6 (eL eI) (x23))) (os_in (by decide)) (by first | exact nomark _ | exact nobehind _ (by decide) (by decide) | rfl))))))) (fun _ _ _ _ _ x23 => (dm_name 6 (eL eI) (x23))))))))) (da_pk (dm_b2 (k := fun (kx : Int) (ky : Int) => (pure ((kx - ky)) : Option Int)) (dm_op op_sub (da_pk (dm_b1 (k := fun (kx : Int) => (pure ((kx / 4)) : Option Int)) (dm_opR op_fdiv (da_pk' (n := 0) (dm_name 1 eI (v1_n))) (da_pk dm_int) (os_divK (n := 4) (by decide))))) (da_pk dm_int) os_II))) (os_ne (by decide)) (nomark _))) (ds_ret0 dm_bool) (fun _ => ⟨fun _ h => (by cases h), rfl⟩)
    (ds_nil (z := Ct.nx ()) rfl ⟨rfl, rfl, rfl, rfl, rfl, rfl, rfl, trivial⟩)))) (fun _ => ⟨_, _, rfl⟩) (fun _ => rfl) fun s21 =>
    (ds_nil (z := Ct.nx ()) rfl ⟨rfl, rfl, rfl, rfl, rfl, rfl, trivial⟩)))) (fun _ => ⟨_, _, rfl⟩) (fun _ => rfl) fun s18 =>
    (ds_ifR0 (DW.dt (dw_and (dt_b2 (k := fun (kx : Int) (ky : Int) => (pure ((decide (kx < ky))) : Option Bool)) (dt_cmp op_lt (da_pk' (n := 0) (dm_name 1 eI (v1_n))) (da_pk dm_int) os_IB (nomark _))) (dw_and1 (dt_b01 (k := fun (kx : D) (ky : (Str × Int × Int)) => (Run.lift ((deq (eD kx) ((eP3 eS eI eI) ky)).map (!·)) : Option Bool)) (dt_cmp (op_neP hr.units) (da_pk (dc_callPP (h_verdict V) (hr.mono (by decide)) (cp_consT (da_pk (dm_b2 (k := fun (kx : Int) (ky : Int) => (pure ((kx - ky)) : Option Int)) (dm_op op_sub (da_pk' (n := 0) (dm_name 1 eI (v1_n))) (da_pk dm_int) os_II))) (cp_consT (da_pk (dm_nameO 5 (eL (eL eI)) (v9_told))) (cp_nil (M := (Run.lift (f_verdict ((v1_n - 1), v9_told)) : Option D))))) (fun ds k h => by obtain ⟨_, rfl, _, rfl, rfl, h⟩ := h; exact ⟨((v1_n - 1), v9_told), rfl, h⟩))) (da_pk' (n := 1) (dm_tup3T dm_str (dm_b2 (k := fun (kx : Int) (ky : Int) => (pure ((kx - ky)) : Option Int)) (dm_op op_sub (da_pk (dm_b1 (k := fun (kx : Int) => (pure ((kx / 2)) : Option Int)) (dm_opR op_fdiv (da_pk' (n := 0) (dm_name 1 eI (v1_n))) (da_pk dm_int) (os_divK (n := 2) (by decide))))) (da_pk dm_int) os_II)) (dm_b2 (k := fun (kx : Int) (ky : Int) => (pure ((kx - ky)) : Option Int)) (dm_op op_sub (da_pk (dm_b1 (k := fun (kx : Int) => (pure ((kx / 4)) : Option Int)) (dm_opR op_fdiv (da_pk' (n := 0) (dm_name 1 eI (v1_n))) (da_pk dm_int) (os_divK (n := 4) (by decide))))) (da_pk dm_int) os_II)))) os_neD (nomark _)))))) (ds_ret0 dm_bool) (fun _ _ h => by cases h)
    (ds_seq (ds_appI (g := eI) 5 (v9_told) (da_pk dm_int) (fun _ _ => rfl) (da_fr (n := 0) (dm_name 1 eI (v1_n))) rfl) fun v36_told =>
    (ds_ret0 (dc_call (h__law_lists V) (hr.mono (by decide)) (ca_cons (da_fr (n := 2) (dc_call (h_blocks_of_signs V) (hr.mono (by decide)) (ca_consT (da_fr (n := 0) (dm_name 4 (eL eS) (v8_handed))) (ca_nil (M := (Run.lift (f_blocks_of_signs (v8_handed)) : Option (List (List Int)))))) (fun ds k h => by obtain ⟨_, rfl, rfl, h⟩ := h; exact ⟨(v8_handed), rfl, h⟩))) (fun a37 => (ca_consT (da_fr (n := 0) (dm_name 3 (eL (eL eI)) (v3_due))) (ca_nil (M := (Run.lift (f__law_lists (a37, v3_due)) : Option Bool)))))) (fun ds k h => by obtain ⟨a37, _, rfl, _, rfl, rfl, h⟩ := h; exact ⟨(a37, v3_due), rfl, h⟩)))))))))))))) rfl)
abbrev st_law : Stmt := topS 33
theorem sc_law : FnScope ["script", "feed", "kind", "rows", "n", "drawn", "p", "told", "row", "k"] ["script"] (defScope st_law) := ⟨rfl, rfl, rfl, by decide +kernel, rfl, by decide +kernel, by decide +kernel⟩
def f_law : W Bool :=
  ((drawW (8)) >>= fun (v1_kind : Int) =>
    (((Run.lift (f__law_doubled ((v1_kind % 4))) : W (List Str))) >>= fun (v2_rows : (List Str)) =>
    (((pure ((v1_kind == 6)) : W Bool) >>= fun t3 => if t3 then ((((Run.lift (f__law_of_prime (11)) : W (List Str))) >>= fun (v5_rows : (List Str)) =>
    (pure v5_rows : W _)) : W (List Str)) else (pure v2_rows : W _)) >>= fun s4 =>
    (((pure ((v1_kind == 7)) : W Bool) >>= fun t6 => if t6 then ((((((Run.lift (f__law_doubled (3)) : W (List Str))) >>= fun x13 => (((Run.lift (f__law_doubled (4)) : W (List Str))) >>= fun x11 => (((Run.lift (f__law_of_prime (19)) : W (List Str))) >>= fun x9 => (pure ([]) : W (List (List Str))) >>= fun xs10 => (pure (x9 :: xs10) : W (List (List Str)))) >>= fun xs12 => (pure (x11 :: xs12) : W (List (List Str)))) >>= fun xs14 => (pure (x13 :: xs14) : W (List (List Str)))) >>= fun x17 => (drawW (3)) >>= fun y18 => (Run.lift (atI x17 y18) : W (List Str))) >>= fun (v8_rows : (List Str)) =>
    (pure v8_rows : W _)) : W (List Str)) else (pure s4 : W _)) >>= fun s7 =>
    ((f__law_mixed (s7)) >>= fun (v19_rows : (List Str)) =>
    (((((Run.lift (f__law_is_even (v19_rows)) : W Bool)) >>= fun t => (pure (!t) : W Bool)) >>= fun t => if t then (pure (true) : W Bool) else (((Run.lift (f__law_plain_right (v19_rows)) : W Bool)) >>= fun t => (pure (!t) : W Bool))) >>= fun t20 => if t20 then (pure (false) : W Bool) else
    (((pure ((decide ((List.length v19_rows : Int) ≤ 8))) : W Bool) >>= fun t => if t then (((Run.lift (f__law_doubled_right (v19_rows)) : W Bool)) >>= fun t => (pure (!t) : W Bool)) else (pure (false) : W Bool)) >>= fun t21 => if t21 then (pure (false) : W Bool) else
    (((pure ((decide (8 ≤ (List.length v19_rows : Int)))) : W Bool) >>= fun t => if t then (((Run.lift (f__law_blocks_right (v19_rows)) : W Bool)) >>= fun t => (pure (!t) : W Bool)) else (pure (false) : W Bool)) >>= fun t22 => if t22 then (pure (false) : W Bool) else
    (((drawW (4)) >>= fun y27 => (Run.lift (atI ([1, 2, 4, 8] : (List Int)) y27) : W Int)) >>= fun (v23_n : Int) =>
    (((Run.lift (irng 0 v23_n) : W (List Int)) >>= lcM (fun (x29 : Int) => (pure (true) : W Bool)) (fun (x29 : Int) => (((Run.lift (irng 0 v23_n) : W (List Int)) >>= lcM (fun (x30 : Int) => (pure (true) : W Bool)) (fun (x30 : Int) => ((drawW (2)) >>= fun y32 => (Run.lift (sat "+-" y32) : W Str)))) >>= fun y34 => (Run.lift (sjoin "" y34) : W Str)))) >>= fun (v28_drawn : (List Str)) =>
    (((((Run.lift (f__law_doubled_right (v28_drawn)) : W Bool)) >>= fun t => (pure (!t) : W Bool)) >>= fun t => if t then (pure (true) : W Bool) else (((Run.lift (f__law_plain_right (v28_drawn)) : W Bool)) >>= fun t => (pure (!t) : W Bool))) >>= fun t35 => if t35 then (pure (false) : W Bool) else
    (((drawW (4)) >>= fun y40 => (Run.lift (atI ([3, 7, 11, 19] : (List Int)) y40) : W Int)) >>= fun (v36_p : Int) =>
    (((Run.lift (f_signs_of_prime (v36_p)) : W (List Str))) >>= fun (v41_told : (List Str)) =>
    ((((((Run.lift (f__law_of_prime (v36_p)) : W (List Str))) >>= fun a42 => (Run.lift (f__law_strings (v41_told, a42)) : W Bool)) >>= fun t => (pure (!t) : W Bool)) >>= fun t => if t then (pure (true) : W Bool) else ((((Run.lift (f__law_is_even (v41_told)) : W Bool)) >>= fun t => (pure (!t) : W Bool)) >>= fun t => if t then (pure (true) : W Bool) else (((Run.lift (f_are_even (v41_told)) : W D)) >>= fun x43 => (Run.lift ((deq (eD x43) ((eT eS) (["even"] : (List Str)))).map (!·)) : W Bool)))) >>= fun t45 => if t45 then (pure (false) : W Bool) else
    (((((Run.lift (f__law_plain_right (v41_told)) : W Bool)) >>= fun t => (pure (!t) : W Bool)) >>= fun t => if t then (pure (true) : W Bool) else (((Run.lift (f_plain_signs (v41_told)) : W (List Str))) >>= fun y47 => (pure ((v41_told != y47)) : W Bool))) >>= fun t48 => if t48 then (pure (false) : W Bool) else
    (((pure ((lin v36_p ([7, 11] : (List Int)))) : W Bool) >>= fun t => if t then (((Run.lift (f__law_blocks_right (v41_told)) : W Bool)) >>= fun t => (pure (!t) : W Bool)) else (pure (false) : W Bool)) >>= fun t49 => if t49 then (pure (false) : W Bool) else
    ((((Run.lift (f_doubled_signs ((["+"] : (List Str)))) : W (List Str))) >>= fun x50 => (pure ((x50 == (["++", "+-"] : (List Str)))) : W Bool)) >>= fun t => if t then (((Run.lift (f_signs_of_prime (3)) : W (List Str))) >>= fun x52 => (pure ((x52 == (["++++", "+-+-", "+--+", "++--"] : (List Str)))) : W Bool)) else (pure (false) : W Bool))))))))))))))))))
theorem h_law {P : Program} {w : World} {K : PySem.W.Frag} {mg : Str → Option Value} {base : Heap} (V : Ev K mg w) (f : Addr) (fd : FuncData) (F : Fun K "law" "law" st_law f fd) (hM : f_law.wp fun r => r = true) : FnOk P w K mg base CX0 5 f fd ["script"] (spLaw K) :=
  fn_law (k := 4) (i := 1) (fM := f_law) (sl := [none, some .feed, none, none, none, none, none, none, none, none]) F sc_law rfl (by decide) rfl (fun cdv A outer s H E hr => by obtain ⟨f, fd, F1, hm, hk, hb⟩ := (h__law_feed (P := P) (w := w) (base := base) V); exact ps_set (i := 1) sc_law.nd rfl (by first | exact .inl rfl | exact .inr rfl) (pe_call F1 (hr.mono (by decide)) rfl hm hk hb .nil pass0 (pa_cons (pv 0) pa_nil))) (fun cdv A outer s H E hr b hfd => ds_eq (
    (ds_seq (ds_setV 2 (dc_callF (h__law_draw V) hfd (hr.mono (by decide)) (ca_feed 1 (ca_consT (da_fr (n := 0) dm_int) (ca_nil (M := drawW (8))))) (fun ds k h => by obtain ⟨_, rfl, _, rfl, rfl, h⟩ := h; exact ⟨(8), rfl, h⟩)) sc_law.nd) fun v1_kind =>
    (ds_seq (ds_setV 3 (dc_call (h__law_doubled V) (hr.mono (by decide)) (ca_consT (da_fr (n := 0) (dm_b1 (k := fun (kx : Int) => (pure ((kx % 4)) : W Int)) (dm_opR op_mod (da_pk (dm_b1 (k := fun (kx : Int) => (pure (kx) : W Int)) (dm_cT call_int1 os_int V.b_int bo_int (da_pk' (n := 0) (dm_name 2 eI (v1_kind)))))) (da_pk dm_int) (os_modK (n := 4) (by decide))))) (ca_nil (M := (Run.lift (f__law_doubled ((v1_kind % 4))) : W (List Str))))) (fun ds k h => by obtain ⟨_, rfl, rfl, h⟩ := h; exact ⟨((v1_kind % 4)), rfl, h⟩)) sc_law.nd) fun v2_rows =>
    (ds_seq (ds_if (out := fun (s4 : (List Str)) => Oc.nx ([none, some .feed, some (.v (eI (v1_kind))), some (.v ((eL eS) (s4))), none, none, none, none, none, none])) (dt_b2 (k := fun (kx : Int) (ky : Int) => (pure ((kx == ky)) : W Bool)) (dt_cmp (op_eqP hr.units) (da_pk' (n := 0) (dm_name 2 eI (v1_kind))) (da_pk dm_int) (os_eq (by decide)) (nomark _))) (ds_seq (ds_setV 3 (dm_fr (n := 1) (dc_call (h__law_of_prime V) (hr.mono (by decide)) (ca_consT (da_fr (n := 0) dm_int) (ca_nil (M := (Run.lift (f__law_of_prime (11)) : W (List Str))))) (fun ds k h => by obtain ⟨_, rfl, rfl, h⟩ := h; exact ⟨(11), rfl, h⟩))) sc_law.nd) fun v5_rows =>
    (ds_nil (z := v5_rows) rfl ⟨rfl, rfl, rfl, trivial⟩))
    (ds_nil (z := v2_rows) rfl ⟨rfl, rfl, rfl, trivial⟩)) fun s4 =>
    (ds_seq (ds_if (out := fun (s7 : (List Str)) => Oc.nx ([none, some .feed, some (.v (eI (v1_kind))), some (.v ((eL eS) (s7))), none, none, none, none, none, none])) (dt_b2 (k := fun (kx : Int) (ky : Int) => (pure ((kx == ky)) : W Bool)) (dt_cmp (op_eqP hr.units) (da_pk' (n := 0) (dm_name 2 eI (v1_kind))) (da_pk dm_int) (os_eq (by decide)) (nomark _))) (ds_seq (ds_setV 3 (dm_ix ix_list (da_sh (n := 1) (dm_list (dl_cons (dc_call (h__law_doubled V) (hr.mono (by decide)) (ca_consT (da_fr (n := 0) dm_int) (ca_nil (M := (Run.lift (f__law_doubled (3)) : W (List Str))))) (fun ds k h => by obtain ⟨_, rfl, rfl, h⟩ := h; exact ⟨(3), rfl, h⟩)) (dl_cons (dc_call (h__law_doubled V) (hr.mono (by decide)) (ca_consT (da_fr (n := 0) dm_int) (ca_nil (M := (Run.lift (f__law_doubled (4)) : W (List Str))))) (fun ds k h => by obtain ⟨_, rfl, rfl, h⟩ := h; exact ⟨(4), rfl, h⟩)) (dl_cons (dm_fr (n := 1) (dc_call (h__law_of_prime V) (hr.mono (by decide)) (ca_consT (da_fr (n := 0) dm_int) (ca_nil (M := (Run.lift (f__law_of_prime (19)) : W (List Str))))) (fun ds k h => by obtain ⟨_, rfl, rfl, h⟩ := h; exact ⟨(19), rfl, h⟩))) (dl_nil (g := (eL eS)) (n := 0))))))) (da_pk' (n := 0) (dc_callF (h__law_draw V) hfd (hr.mono (by decide)) (ca_feed 1 (ca_consT (da_fr (n := 0) dm_int) (ca_nil (M := drawW (3))))) (fun ds k h => by obtain ⟨_, rfl, _, rfl, rfl, h⟩ := h; exact ⟨(3), rfl, h⟩))) os_ixL (fun _ _ => rfl)) sc_law.nd) fun v8_rows =>
    (ds_nil (z := v8_rows) rfl ⟨rfl, rfl, rfl, trivial⟩))
    (ds_nil (z := s4) rfl ⟨rfl, rfl, rfl, trivial⟩)) fun s7 =>
    (ds_seq (ds_setV 3 (dm_fr (n := 1) (dc_callF (h__law_mixed V) hfd (hr.mono (by decide)) (ca_feed 1 (ca_consT (da_fr (n := 0) (dm_name 3 (eL eS) (s7))) (ca_nil (M := f__law_mixed (s7))))) (fun ds k h => by obtain ⟨_, rfl, _, rfl, rfl, h⟩ := h; exact ⟨(s7), rfl, h⟩))) sc_law.nd) fun v19_rows =>
    (ds_ifR0 (DW.dt (dw_or (dt_not (dt_val (dm_sc (n := 0) (dc_call (h__law_is_even V) (hr.mono (by decide)) (ca_consT (da_fr (n := 0) (dm_name 3 (eL eS) (v19_rows))) (ca_nil (M := (Run.lift (f__law_is_even (v19_rows)) : W Bool)))) (fun ds k h => by obtain ⟨_, rfl, rfl, h⟩ := h; exact ⟨(v19_rows), rfl, h⟩))))) (dw_or1 (dt_not (dt_val (dm_sc (n := 0) (dc_call (h__law_plain_right V) (hr.mono (by decide)) (ca_consT (da_fr (n := 0) (dm_name 3 (eL eS) (v19_rows))) (ca_nil (M := (Run.lift (f__law_plain_right (v19_rows)) : W Bool)))) (fun ds k h => by obtain ⟨_, rfl, rfl, h⟩ := h; exact ⟨(v19_rows), rfl, h⟩)))))))) (ds_ret0 dm_bool) (fun _ _ h => by cases h)
    (ds_ifR0 (DW.dt (dw_and (dt_b2 (k := fun (kx : Int) (ky : Int) => (pure ((decide (kx ≤ ky))) : W Bool)) (dt_cmp op_le (da_pk (dm_b1 (k := fun (kx : (List Str)) => (pure ((List.length kx : Int)) : W Int)) (dm_cB call_len_seq os_len V.b_len bo_len (da_pk' (n := 0) (dm_name 3 (eL eS) (v19_rows)))))) (da_pk dm_int) os_IB (nomark _))) (dw_and1 (dt_not (dt_val (dm_sc (n := 0) (dc_call (h__law_doubled_right V) (hr.mono (by decide)) (ca_consT (da_fr (n := 0) (dm_name 3 (eL eS) (v19_rows))) (ca_nil (M := (Run.lift (f__law_doubled_right (v19_rows)) : W Bool)))) (fun ds k h => by obtain ⟨_, rfl, rfl, h⟩ := h; exact ⟨(v19_rows), rfl, h⟩)))))))) (ds_ret0 dm_bool) (fun _ _ h => by cases h)
    (ds_ifR0 (DW.dt (dw_and (dt_b2 (k := fun (kx : Int) (ky : Int) => (pure ((decide (ky ≤ kx))) : W Bool)) (dt_cmp op_ge (da_pk (dm_b1 (k := fun (kx : (List Str)) => (pure ((List.length kx : Int)) : W Int)) (dm_cB call_len_seq os_len V.b_len bo_len (da_pk' (n := 0) (dm_name 3 (eL eS) (v19_rows)))))) (da_pk dm_int) os_IB (nomark _))) (dw_and1 (dt_not (dt_val (dm_sc (n := 0) (dc_call (h__law_blocks_right V) (hr.mono (by decide)) (ca_consT (da_fr (n := 0) (dm_name 3 (eL eS) (v19_rows))) (ca_nil (M := (Run.lift (f__law_blocks_right (v19_rows)) : W Bool)))) (fun ds k h => by obtain ⟨_, rfl, rfl, h⟩ := h; exact ⟨(v19_rows), rfl, h⟩)))))))) (ds_ret0 dm_bool) (fun _ _ h => by cases h)
    (ds_seq (ds_setV 4 (dm_b1 (k := fun (kx : (List Int)) => (drawW (4)) >>= fun (ky : Int) => (Run.lift (atI kx ky) : W Int)) (dm_ix ix_list (da_sh (n := 1) (dm_list (dl_consT dm_int (dl_consT dm_int (dl_consT dm_int (dl_consT dm_int (dl_nil (g := eI) (n := 0)))))))) (da_pk' (n := 0) (dc_callF (h__law_draw V) hfd (hr.mono (by decide)) (ca_feed 1 (ca_consT (da_fr (n := 0) dm_int) (ca_nil (M := drawW (4))))) (fun ds k h => by obtain ⟨_, rfl, _, rfl, rfl, h⟩ := h; exact ⟨(4), rfl, h⟩))) os_ixL (fun _ _ => rfl))) sc_law.nd) fun v23_n =>
    (ds_seq (ds_lcV (n := 0) 5 rfl sc_law.nd (di_b1 (k := fun (kx : Int) => (Run.lift (irng 0 kx) : W (List Int))) (di_rng1 V.b_range (da_pk' (n := 0) (dm_name 4 eI (v23_n))))) (blkOk_by (own := [("row", 8)]) (by rfl)) (gt_name 8) (fun _ _ _ _ _ => (pg_name (i := 8) sc_law.nd rfl (.inl rfl))) lt_no (fun _ _ _ _ _ x29 => (dm_b1 (k := fun (kx : Str) => ((Run.lift (irng 0 v23_n) : W (List Int)) >>= lcM (fun (x30 : Int) => (pure (true) : W Bool)) (fun (x30 : Int) => ((drawW (2)) >>= fun y32 => (Run.lift (sat "+-" y32) : W Str)))) >>= fun (ky : (List Str)) => (Run.lift (sjoin kx ky) : W Str)) (dm_join (da_pk dm_str) (da_pk' (n := 1) (dm_lc' rfl sc_law.nd (di_b1 (k := fun (kx : Int) => (Run.lift (irng 0 kx) : W (List Int))) (di_rng1 V.b_range (da_pk' (n := 0) (dm_name 4 eI (v23_n))))) (blkOk_by (own := [("k", 9)]) (by rfl)) (gt_name 9) (fun _ _ _ _ _ => (pg_name (i := 9) sc_law.nd rfl (.inl rfl))) lt_no (fun _ _ _ _ _ x30 => (dm_b1 (k := fun (kx : Str) => (drawW (2)) >>= fun (ky : Int) => (Run.lift (sat kx ky) : W Str)) (dm_ix ix_str (da_pk dm_str) (da_pk' (n := 0) (dc_callF (h__law_draw V) hfd (hr.mono (by decide)) (ca_feed 1 (ca_consT (da_fr (n := 0) dm_int) (ca_nil (M := drawW (2))))) (fun ds k h => by obtain ⟨_, rfl, _, rfl, rfl, h⟩ := h; exact ⟨(2), rfl, h⟩))) os_sat (fun _ _ => rfl)))))))))) fun v28_drawn =>
    (ds_ifR0 (DW.dt (dw_or (dt_not (dt_val (dm_sc (n := 0) (dc_call (h__law_doubled_right V) (hr.mono (by decide)) (ca_consT (da_fr (n := 0) (dm_name 5 (eL eS) (v28_drawn))) (ca_nil (M := (Run.lift (f__law_doubled_right (v28_drawn)) : W Bool)))) (fun ds k h => by obtain ⟨_, rfl, rfl, h⟩ := h; exact ⟨(v28_drawn), rfl, h⟩))))) (dw_or1 (dt_not (dt_val (dm_sc (n := 0) (dc_call (h__law_plain_right V) (hr.mono (by decide)) (ca_consT (da_fr (n := 0) (dm_name 5 (eL eS) (v28_drawn))) (ca_nil (M := (Run.lift (f__law_plain_right (v28_drawn)) : W Bool)))) (fun ds k h => by obtain ⟨_, rfl, rfl, h⟩ := h; exact ⟨(v28_drawn), rfl, h⟩)))))))) (ds_ret0 dm_bool) (fun _ _ h => by cases h)
    (ds_seq (ds_setV 6 (dm_b1 (k := fun (kx : (List Int)) => (drawW (4)) >>= fun (ky : Int) => (Run.lift (atI kx ky) : W Int)) (dm_ix ix_list (da_sh (n := 1) (dm_list (dl_consT dm_int (dl_consT dm_int (dl_consT dm_int (dl_consT dm_int (dl_nil (g := eI) (n := 0)))))))) (da_pk' (n := 0) (dc_callF (h__law_draw V) hfd (hr.mono (by decide)) (ca_feed 1 (ca_consT (da_fr (n := 0) dm_int) (ca_nil (M := drawW (4))))) (fun ds k h => by obtain ⟨_, rfl, _, rfl, rfl, h⟩ := h; exact ⟨(4), rfl, h⟩))) os_ixL (fun _ _ => rfl))) sc_law.nd) fun v36_p =>
    (ds_seq (ds_setV 7 (dm_fr (n := 1) (dc_call (h_signs_of_prime V) (hr.mono (by decide)) (ca_consT (da_fr (n := 0) (dm_name 6 eI (v36_p))) (ca_nil (M := (Run.lift (f_signs_of_prime (v36_p)) : W (List Str))))) (fun ds k h => by obtain ⟨_, rfl, rfl, h⟩ := h; exact ⟨(v36_p), rfl, h⟩))) sc_law.nd) fun v41_told =>
    (ds_ifR0 (DW.dt (dw_or (dt_not (dt_val (dm_sc (n := 0) (dc_call (h__law_strings V) (hr.mono (by decide)) (ca_consT (da_fr (n := 0) (dm_name 7 (eL eS) (v41_told))) (ca_cons (da_fr (n := 1) (dc_call (h__law_of_prime V) (hr.mono (by decide)) (ca_consT (da_fr (n := 0) (dm_name 6 eI (v36_p))) (ca_nil (M := (Run.lift (f__law_of_prime (v36_p)) : W (List Str))))) (fun ds k h => by obtain ⟨_, rfl, rfl, h⟩ := h; exact ⟨(v36_p), rfl, h⟩))) (fun a42 => (ca_nil (M := (Run.lift (f__law_strings (v41_told, a42)) : W Bool)))))) (fun ds k h => by obtain ⟨_, rfl, a42, _, rfl, rfl, h⟩ := h; exact ⟨(v41_told, a42), rfl, h⟩))))) (dw_or (dt_not (dt_val (dm_sc (n := 0) (dc_call (h__law_is_even V) (hr.mono (by decide)) (ca_consT (da_fr (n := 0) (dm_name 7 (eL eS) (v41_told))) (ca_nil (M := (Run.lift (f__law_is_even (v41_told)) : W Bool)))) (fun ds k h => by obtain ⟨_, rfl, rfl, h⟩ := h; exact ⟨(v41_told), rfl, h⟩))))) (dw_or1 (dt_b01 (k := fun (kx : D) (ky : (List Str)) => (Run.lift ((deq (eD kx) ((eT eS) ky)).map (!·)) : W Bool)) (dt_cmp (op_neP hr.units) (da_pk' (n := 0) (dc_call (h_are_even V) (hr.mono (by decide)) (ca_consT (da_fr (n := 0) (dm_name 7 (eL eS) (v41_told))) (ca_nil (M := (Run.lift (f_are_even (v41_told)) : W D)))) (fun ds k h => by obtain ⟨_, rfl, rfl, h⟩ := h; exact ⟨(v41_told), rfl, h⟩))) (da_pk' (n := 1) (dm_tupL (dl_consT dm_str (dl_nil (g := eS) (n := 0))))) os_neD (nomark _))))))) (ds_ret0 dm_bool) (fun _ _ h => by cases h)
    (ds_ifR0 (DW.dt (dw_or (dt_not (dt_val (dm_sc (n := 0) (dc_call (h__law_plain_right V) (hr.mono (by decide)) (ca_consT (da_fr (n := 0) (dm_name 7 (eL eS) (v41_told))) (ca_nil (M := (Run.lift (f__law_plain_right (v41_told)) : W Bool)))) (fun ds k h => by obtain ⟨_, rfl, rfl, h⟩ := h; exact ⟨(v41_told), rfl, h⟩))))) (dw_or1 (dt_b1 (k := fun (kx : (List Str)) => ((Run.lift (f_plain_signs (v41_told)) : W (List Str))) >>= fun (ky : (List Str)) => (pure ((kx != ky)) : W Bool)) (dt_cmp (op_neP hr.units) (da_pk' (n := 0) (dm_name 7 (eL eS) (v41_told))) (da_pk' (n := 1) (dc_call (h_plain_signs V) (hr.mono (by decide)) (ca_consT (da_fr (n := 0) (dm_name 7 (eL eS) (v41_told))) (ca_nil (M := (Run.lift (f_plain_signs (v41_told)) : W (List Str))))) (fun ds k h => by obtain ⟨_, rfl, rfl, h⟩ := h; exact ⟨(v41_told), rfl, h⟩))) (os_ne (by decide)) (nomark _)))))) (ds_ret0 dm_bool) (fun _ _ h => by cases h)
    (ds_ifR0 (DW.dt (dw_and (dt_b2 (k := fun (kx : Int) (ky : (List Int)) => (pure ((lin kx ky)) : W Bool)) (dt_cmp (op_inP hr.units) (da_pk' (n := 0) (dm_name 6 eI (v36_p))) (da_pk' (n := 1) (dm_list (dl_consT dm_int (dl_consT dm_int (dl_nil (g := eI) (n := 0)))))) (os_in (by decide)) (by first | exact nomark _ | exact nobehind _ (by decide) (by decide) | rfl))) (dw_and1 (dt_not (dt_val (dm_sc (n := 0) (dc_call (h__law_blocks_right V) (hr.mono (by decide)) (ca_consT (da_fr (n := 0) (dm_name 7 (eL eS) (v41_told))) (ca_nil (M := (Run.lift (f__law_blocks_right (v41_told)) : W Bool)))) (fun ds k h => by obtain ⟨_, rfl, rfl, h⟩ := h; exact ⟨(v41_told), rfl, h⟩)))))))) (ds_ret0 dm_bool) (fun _ _ h => by cases h)
    (ds_ret0 (dm_scP (dv_and (dm_b01 (k := fun (kx : (List Str)) (ky : (List Str)) => (pure ((kx == ky)) : W Bool)) (dm_cmp (op_eqP hr.units) (da_pk' (n := 1) (dc_call (h_doubled_signs V) (hr.mono (by decide)) (ca_consT (da_fr (n := 1) (dm_list (dl_consT dm_str (dl_nil (g := eS) (n := 0))))) (ca_nil (M := (Run.lift (f_doubled_signs ((["+"] : (List Str)))) : W (List Str))))) (fun ds k h => by obtain ⟨_, rfl, rfl, h⟩ := h; exact ⟨((["+"] : (List Str))), rfl, h⟩))) (da_pk' (n := 1) (dm_list (dl_consT dm_str (dl_consT dm_str (dl_nil (g := eS) (n := 0)))))) (os_eq (by decide)) (nomark _))) (dv_one (dm_b01 (k := fun (kx : (List Str)) (ky : (List Str)) => (pure ((kx == ky)) : W Bool)) (dm_cmp (op_eqP hr.units) (da_pk' (n := 1) (dc_call (h_signs_of_prime V) (hr.mono (by decide)) (ca_consT (da_fr (n := 0) dm_int) (ca_nil (M := (Run.lift (f_signs_of_prime (3)) : W (List Str))))) (fun ds k h => by obtain ⟨_, rfl, rfl, h⟩ := h; exact ⟨(3), rfl, h⟩))) (da_pk' (n := 1) (dm_list (dl_consT dm_str (dl_consT dm_str (dl_consT dm_str (dl_consT dm_str (dl_nil (g := eS) (n := 0)))))))) (os_eq (by decide)) (nomark _)))))))))))))))))))))))) rfl) hM
open PySem PySem.Spec PyProof.Rows L2 DL Hw
def fr (b : Bool) : Nat := if b then 45 else 43
theorem fr_ne : fr true ≠ fr false := by decide
theorem sp : ("+" : Str) = ch 43 := by decide +kernel
theorem sm : ("-" : Str) = ch 45 := by decide +kernel
theorem ne_ch {f : Bool → Nat} (hf : f true ≠ f false) (a b : Bool) : (ch (f a) != ch (f b)) = (a != b) := by
  have : (ch (f a) == ch (f b)) = (a == b) := by
    rw [ch_beq]
    cases a <;> cases b <;> simp [hf, Ne.symm hf]
  show (!(ch (f a) == ch (f b))) = !(a == b)
  rw [this]
theorem rng0 (n : Nat) : rng 0 (n : Int) = (List.range n).map fun k : Nat => (k : Int) := by
  unfold rng
  rw [show ((n : Int) - 0).toNat = n by omega]
  refine List.map_congr_left fun k _ => ?_
  omega
theorem irng0 {n : Nat} (h : n ≤ 1000000) : irng 0 (n : Int) = some (rng 0 (n : Int)) := irng_ok (by omega) (by omega) (by omega) (by omega)
theorem sat_nat (f : Bool → Nat) {w : List Bool} (h : w.length ≤ 1000000) {i : Nat} (hi : i < w.length) : sat (tx f w) (i : Int) = some (ch (f (w.getD i false))) := by
  rw [sat_tx f h, atI_nat w hi]
  simp [hi]
theorem lcM_ch {f g : Bool → Nat} {e : Str → Option Str} (h : ∀ b, e (ch (f b)) = some (ch (g b))) (w : List Bool) : lcM (fun _ => some true) e (w.map fun b => ch (f b)) = some (w.map fun b => ch (g b)) := by
  induction w with
  | nil => rfl
  | cons b w ih =>
    show ((some true : Option Bool) >>= fun t => if t then e (ch (f b)) >>= fun y => lcM (fun _ => some true) e (w.map fun b => ch (f b)) >>= fun ys => pure (y :: ys) else lcM (fun _ => some true) e (w.map fun b => ch (f b))) = _
    rw [ob, if_pos rfl, h b, ob, ih]
    rfl
theorem turn_ch (b : Bool) : f__law_turn (ch (fr b)) = some (ch (fr (!b))) := by cases b <;> decide +kernel
abbrev neg (w : List Bool) : List Bool := w.map (!·)
theorem neg_tx (f : Bool → Nat) (w : List Bool) : (w.map fun b => ch (f (!b))) = (neg w).map fun b => ch (f b) := by rw [List.map_map]; rfl
theorem lcM_turn (w : List Bool) : lcM (fun _ => some true) (fun x => f__law_turn x) (w.map fun b => ch (fr b)) = some ((neg w).map fun b => ch (fr b)) := by
  rw [lcM_ch (g := fun b => fr (!b)) turn_ch, neg_tx]
theorem neg_len (w : List Bool) : (neg w).length = w.length := List.length_map _
theorem lapp_small {α : Type} {xs : List α} {x : α} (h : xs.length ≤ 1000000) : lapp xs x = some (xs ++ [x]) := by unfold lapp; rw [if_pos (by omega)]
theorem forS_build {α β : Type} {f : List β → α → Option (List β)} {g : α → List β} {B : Nat} (hf : ∀ s x, s.length ≤ B → f s x = some (s ++ g x)) : ∀ {xs : List α} {s : List β}, (s ++ xs.flatMap g).length ≤ B → forS f s xs = some (s ++ xs.flatMap g)
  | [], s, _ => by
    show some s = _
    simp
  | x :: xs, s, h => by
    rw [List.flatMap_cons, ← List.append_assoc] at h
    show (f s x >>= fun s' => forS f s' xs) = _
    rw [hf s x (by simp at h; omega), ob, forS_build hf h, List.flatMap_cons, List.append_assoc]
theorem forS_buildW {α β : Type} {f : List β → α → W (List β)} {g : α → List β} {B : Nat} (hf : ∀ s, ∀ x, s.length ≤ B → (f s x).wp (fun z => z = s ++ g x)) : ∀ {xs : List α} {s : List β}, (s ++ xs.flatMap g).length ≤ B → (forS f s xs).wp (fun z => z = s ++ xs.flatMap g)
  | [], s, _ => by
    show s = s ++ _
    simp
  | x :: xs, s, h => by
    rw [List.flatMap_cons, ← List.append_assoc] at h
    show (f s x).wp fun s' => (forS f s' xs).wp _
    refine wp_mono (hf s x (by simp at h; omega)) fun z hz => ?_
    subst hz
    rw [List.flatMap_cons, ← List.append_assoc]
    exact forS_buildW hf h
theorem forS_in {α β : Type} {f : List β → α → Option (List β)} {g : α → List β} {B : Nat} : ∀ {xs : List α} {s : List β}, (∀ x ∈ xs, ∀ s, s.length ≤ B → f s x = some (s ++ g x)) → (s ++ xs.flatMap g).length ≤ B → forS f s xs = some (s ++ xs.flatMap g)
  | [], s, _, _ => by
    show some s = _
    simp
  | x :: xs, s, hf, h => by
    rw [List.flatMap_cons, ← List.append_assoc] at h
    show (f s x >>= fun s' => forS f s' xs) = _
    rw [hf x List.mem_cons_self s (by simp at h; omega), ob, forS_in (fun y hy => hf y (List.mem_cons_of_mem _ hy)) h, List.flatMap_cons, List.append_assoc]
theorem forS_inW {α β : Type} {f : List β → α → W (List β)} {g : α → List β} {B : Nat} : ∀ {xs : List α} {s : List β}, (∀ x ∈ xs, ∀ s, s.length ≤ B → (f s x).wp (fun z => z = s ++ g x)) → (s ++ xs.flatMap g).length ≤ B → (forS f s xs).wp (fun z => z = s ++ xs.flatMap g)
  | [], s, _, _ => by
    show s = s ++ _
    simp
  | x :: xs, s, hf, h => by
    rw [List.flatMap_cons, ← List.append_assoc] at h
    show (f s x).wp fun s' => (forS f s' xs).wp _
    refine wp_mono (hf x List.mem_cons_self s (by simp at h; omega)) fun z hz => ?_
    subst hz
    rw [List.flatMap_cons, ← List.append_assoc]
    exact forS_inW (fun y hy => hf y (List.mem_cons_of_mem _ hy)) h
theorem forS_mp {α β S : Type} {m : Type → Type} [Monad m] (h : α → β) {f : S → β → m S} : ∀ (xs : List α) (s : S), forS f s (xs.map h) = forS (fun s x => f s (h x)) s xs
  | [], _ => rfl
  | x :: xs, s => by
    show (f s (h x) >>= fun s' => forS f s' (xs.map h)) = (f s (h x) >>= fun s' => forS (fun s x => f s (h x)) s' xs)
    congr 1
    funext s'
    exact forS_mp h xs s'
theorem lcM_mp {α β γ : Type} {m : Type → Type} [Monad m] (h : α → β) {t : β → m Bool} {e : β → m γ} : ∀ (xs : List α), lcM t e (xs.map h) = lcM (fun x => t (h x)) (fun x => e (h x)) xs
  | [] => rfl
  | x :: xs => by
    show (t (h x) >>= fun b => if b then e (h x) >>= fun y => lcM t e (xs.map h) >>= fun ys => pure (y :: ys) else lcM t e (xs.map h)) = _
    rw [lcM_mp h xs]
    rfl
theorem lcM_wpm {α β : Type} {e : α → W β} {f : α → β} : ∀ {xs : List α}, (∀ x ∈ xs, (e x).wp (fun y => y = f x)) → (lcM (fun _ => (pure true : W Bool)) e xs).wp (fun ys => ys = xs.map f)
  | [], _ => rfl
  | x :: xs, h => by
    show ((e x) >>= fun y => lcM (fun _ => (pure true : W Bool)) e xs >>= fun ys => pure (y :: ys)).wp _
    simp only [wpb, wpp]
    refine wp_mono (h x (by simp)) fun y hy => wp_mono (lcM_wpm fun z hz => h z (by simp [hz])) fun ys hys => ?_
    rw [hy, hys]
    rfl
def Sq (n : Nat) (R : List (List Bool)) : Prop := R.length = n ∧ (∀ w ∈ R, w.length = n) ∧ R.Pairwise fun a b => 2 * dist a b = n
def rot (k : Nat) (w : List Bool) : List Bool := w.drop k ++ w.take k
theorem rot_len {k : Nat} (w : List Bool) : (rot k w).length = w.length := by
  unfold rot
  rw [List.length_append, List.length_drop, List.length_take]
  omega
theorem lcut_lo {α : Type} (w : List α) {k : Int} (h0 : 0 ≤ k) (h1 : k ≤ (w.length : Int)) : lcut w (some k) none = w.drop k.toNat := by
  unfold lcut HT.sIx
  simp only []
  rw [if_neg (by omega), Nat.min_eq_left (by omega)]
  rw [List.take_of_length_le (by rw [List.length_drop]; omega)]
theorem lcut_hi {α : Type} (w : List α) {k : Int} (h0 : 0 ≤ k) (h1 : k ≤ (w.length : Int)) : lcut w none (some k) = w.take k.toNat := by
  unfold lcut HT.sIx
  simp only []
  rw [if_neg (by omega), Nat.min_eq_left (by omega)]
  rfl
def Of (k : Nat) (w v : List Bool) : Prop := v = rot k w ∨ v = neg (rot k w)
theorem of_dist {k n : Nat} {a b v w : List Bool} (ha : a.length = n) (hb : b.length = n) (h : 2 * dist a b = n) (p : Of k a v) (q : Of k b w) : 2 * dist v w = n := by
  have e : dist (rot k a) (rot k b) = dist a b := dist_rot k (by omega)
  have l1 := rot_len (k := k) a
  have l2 := rot_len (k := k) b
  have n1 : dist (neg (rot k a)) (rot k b) + dist (rot k a) (rot k b) = (rot k a).length := dist_neg (x := rot k a) (y := rot k b) (by omega)
  have n2 : dist (neg (rot k b)) (rot k a) + dist (rot k b) (rot k a) = (rot k b).length := dist_neg (x := rot k b) (y := rot k a) (by omega)
  rw [dist_comm (rot k b) (rot k a)] at n2
  rcases p with rfl | rfl <;> rcases q with rfl | rfl
  · omega
  · rw [dist_comm]
    omega
  · omega
  · rw [dist_neg2]; omega
theorem of_len {k : Nat} {a v : List Bool} (p : Of k a v) : v.length = a.length := by
  rcases p with rfl | rfl
  · exact rot_len a
  · rw [neg_len, rot_len]
theorem pw_sym {n : Nat} {R R' : List (List Bool)} (p : R.Perm R') (h : R.Pairwise fun a b => 2 * dist a b = n) : R'.Pairwise fun a b => 2 * dist a b = n := p.pairwise h fun {a b} e => by rw [dist_comm]; exact e
theorem sq_of {n k : Nat} {M S : List (List Bool)} (hl : S.length = M.length) (hm : Sq n M) (h : ∀ i (h1 : i < M.length) (h2 : i < S.length), Of k M[i] S[i]) : Sq n S := by
  obtain ⟨m1, m2, m3⟩ := hm
  refine ⟨by omega, fun v hv => ?_, List.pairwise_iff_getElem.mpr fun i j hi hj hij => ?_⟩
  · obtain ⟨i, hi, rfl⟩ := List.mem_iff_getElem.mp hv
    rw [of_len (h i (by omega) hi)]
    exact m2 _ (List.getElem_mem _)
  · exact of_dist (m2 _ (List.getElem_mem _)) (m2 _ (List.getElem_mem _)) (List.pairwise_iff_getElem.mp m3 i j (by omega) (by omega) hij) (h i (by omega) hi) (h j (by omega) hj)
theorem sq_turn {n : Nat} {S : List (List Bool)} {i : Nat} (hi : i < n) (h : Sq n S) : Sq n (S.map fun w => turn w i) := by
  obtain ⟨h1, h2, h3⟩ := h
  refine ⟨by rw [List.length_map]; exact h1, fun v hv => ?_, ?_⟩
  · obtain ⟨w, hw, rfl⟩ := List.mem_map.mp hv
    rw [turn_len (by rw [h2 w hw]; exact hi)]
    exact h2 w hw
  · rw [List.pairwise_map]
    refine h3.imp_of_mem fun {a b} ha hb e => ?_
    rw [dist_turn2 (by rw [h2 a ha]; exact hi) (by rw [h2 a ha, h2 b hb])]
    exact e
theorem turn_tx (f : Bool → Nat) {w : List Bool} (hw : w.length ≤ 1000) {k : Int} (h0 : 0 ≤ k) (h1 : k < (w.length : Int)) :
    scut (tx f w) none (some k) = some (tx f (w.take k.toNat)) ∧ sat (tx f w) k = some (ch (f (w.getD k.toNat false))) ∧ scut (tx f w) (some (k + 1)) none = some (tx f (w.drop (k.toNat + 1))) := by
  refine ⟨?_, ?_, ?_⟩
  · rw [scut_tx f (by omega), lcut_hi w h0 (by omega)]
  · have := sat_nat f (w := w) (by omega) (i := k.toNat) (by omega)
    rwa [show ((k.toNat : Nat) : Int) = k by omega] at this
  · rw [scut_tx f (by omega), lcut_lo w (by omega) (by omega), show (k + 1).toNat = k.toNat + 1 by omega]
theorem scat1 (f : Bool → Nat) {w : List Bool} (b : Bool) (h : w.length ≤ 1000) : scat (tx f w) (ch (f b)) = some (tx f (w ++ [b])) := scat_tx f (x := w) (y := [b]) (by omega) (by show 1 ≤ 1000000; decide)
theorem mixed_ok {n : Nat} {R : List (List Bool)} (h : Sq n R) (h1 : 1 ≤ n) (h2 : n ≤ 20) : (f__law_mixed (R.map (tx fr))).wp fun rows => ∃ (S M : List (List Bool)) (k i : Nat), rows = (S.map fun w => turn w i).map (tx fr) ∧ M.Perm R ∧ S.length = M.length ∧ (∀ i (h1 : i < M.length) (h2 : i < S.length), Of k M[i] S[i]) ∧ k < n ∧ i < n ∧ Sq n (S.map fun w => turn w i) := by
  obtain ⟨r1, r2, r3⟩ := h
  unfold f__law_mixed
  rw [List.length_map, r1]
  refine wpu (wl (irng0 (by omega)) (wpu ?_))
  rw [List.map_id']
  refine wpu (wl (irng0 (by omega)) ?_)
  have l0 : (rng 0 (n : Int)).length = n := by rw [rng_length]; omega
  refine wp_mono (draws (body := _) (fun s x => rfl) (left := rng 0 (n : Int)) (by omega) (xs := rng 0 (n : Int)) (Nat.le_refl _)) fun s hs => ?_
  have s1 : s.1 = [] := by
    have := hs.1.length_eq
    rw [List.length_append, hs.2] at this
    exact List.eq_nil_of_length_eq_zero (by omega)
  have hp : s.2.Perm (rng 0 (n : Int)) := by
    have := hs.1
    rwa [s1, List.append_nil] at this
  refine wd (by omega) (by omega) fun beg b0 b1 => ?_
  -- the rows in the order drawn
  let at_ : Int → List Bool := fun i => R.getD i.toNat []
  let M := s.2.map at_
  have hM : M.Perm R := by
    have e : (rng 0 (n : Int)).map at_ = R := by
      rw [rng0, List.map_map]
      refine List.ext_getElem (by simp [r1]) fun i hi hj => ?_
      simp [at_]
      simp [hj]
    have := hp.map at_
    rwa [e] at this
  have sqM : Sq n M := ⟨by rw [hM.length_eq, r1], fun w hw => r2 w (hM.mem_iff.mp hw), pw_sym hM.symm r3⟩
  have lM : M.length = s.2.length := List.length_map _
  simp only [wpb, wpp]
  refine wp_mono (forS_k (P := fun k rows => ∃ S : List (List Bool), rows = S.map (tx fr) ∧ S.length = k ∧ ∀ i (h1 : i < M.length) (h2 : i < S.length), Of beg.toNat M[i] S[i]) (k := 0) ⟨[], rfl, rfl, fun i _ h => absurd h (Nat.not_lt_zero _)⟩ fun i rows x hx hrows => ?_) fun rows hrows => ?_
  · obtain ⟨S, rfl, hS, hof⟩ := hrows
    rw [Nat.zero_add] at hS ⊢
    have hi : i < s.2.length := (List.getElem?_eq_some_iff.mp hx).1
    have xe : s.2[i] = x := (List.getElem?_eq_some_iff.mp hx).2
    have xm : x ∈ rng 0 (n : Int) := hp.mem_iff.mp (by rw [← xe]; exact List.getElem_mem _)
    obtain ⟨x0, x1⟩ := rng_mem.mp xm
    obtain ⟨j, rfl⟩ : ∃ j : Nat, x = (j : Int) := ⟨x.toNat, by omega⟩
    have hj : j < R.length := by omega
    have eM : M[i]'(by omega) = R[j] := by
      simp [M, at_, xe, hj]
    have wl' : (R[j]).length = n := r2 _ (List.getElem_mem _)
    have e1 : atI (R.map (tx fr)) (j : Int) = some (tx fr R[j]) := by rw [Hw.atI_map, Hw.atI_nat R hj]; rfl
    have e2 : scut (tx fr R[j]) (some beg) none = some (tx fr ((R[j]).drop beg.toNat)) := by rw [scut_tx fr (by omega), lcut_lo _ b0 (by omega)]
    have e3 : scut (tx fr R[j]) none (some beg) = some (tx fr ((R[j]).take beg.toNat)) := by rw [scut_tx fr (by omega), lcut_hi _ b0 (by omega)]
    have e4 : scat (tx fr ((R[j]).drop beg.toNat)) (tx fr ((R[j]).take beg.toNat)) = some (tx fr (rot beg.toNat R[j])) := scat_tx fr (by rw [List.length_drop]; omega) (by rw [List.length_take]; omega)
    have lr : (rot beg.toNat R[j]).length ≤ 1000000 := by rw [rot_len, wl']; omega
    have fin : ∀ v, Of beg.toNat R[j] v → (Run.lift (lapp (S.map (tx fr)) (tx fr v)) : W (List Str)).wp fun rows => ∃ S : List (List Bool), rows = S.map (tx fr) ∧ S.length = i + 1 ∧ ∀ i (h1 : i < M.length) (h2 : i < S.length), Of beg.toNat M[i] S[i] := by
      intro v hv
      refine wp_lift (lapp_small (by rw [List.length_map]; omega)) ?_
      refine ⟨S ++ [v], by rw [List.map_append]; rfl, by rw [List.length_append, hS]; rfl, fun i' h1 h2 => ?_⟩
      by_cases hlt : i' < S.length
      · rw [List.getElem_append_left hlt]
        exact hof i' h1 hlt
      · have : i' = i := by rw [List.length_append] at h2; simp at h2; omega
        subst this
        rw [List.getElem_append_right (by omega)]
        simp only [hS, Nat.sub_self, List.getElem_cons_zero]
        rw [eM]
        exact hv
    simp only [wpb, wpp]
    refine wp_lift e1 (wp_lift e2 (wp_lift e1 (wp_lift e3 (wp_lift e4 (wp_draw (by decide) (by decide) fun d _ _ => ?_)))))
    cases d == 0 with
    | false =>
      rw [iff']
      exact fin _ (.inl rfl)
    | true =>
      rw [ift]
      simp only [wpb, wpp]
      refine wp_lift (sguard fr lr) ?_
      rw [lcM_upT, lcM_turn]
      exact wp_lift rfl (wp_lift (sjoin_tx fr (by rw [neg_len]; exact lr)) (fin _ (.inr rfl)))
  · obtain ⟨S, rfl, hS, hof⟩ := hrows
    rw [Nat.zero_add] at hS
    have sqS : Sq n S := sq_of (by omega) sqM hof
    refine wd (by omega) (by omega) fun fl f0 f1 => ?_
    refine wp_mono (Q := fun z => z = (S.map fun w => turn w fl.toNat).map (tx fr)) ?_ fun z hz => ⟨S, M, beg.toNat, fl.toNat, hz, hM, by omega, hof, by omega, by omega, sq_turn (by omega) sqS⟩
    rw [lcM_mp]
    have : ((S.map fun w => turn w fl.toNat).map (tx fr)) = S.map fun w => tx fr (turn w fl.toNat) := by rw [List.map_map]; rfl
    rw [this]
    refine lcM_wpm (fun w hw => ?_)
    have lw := sqS.2.1 w hw
    obtain ⟨c1, c2, c3⟩ := turn_tx fr (w := w) (by omega) f0 (by omega)
    have c4 := scat1 fr (w := w.take fl.toNat) (!(w.getD fl.toNat false)) (by rw [List.length_take]; omega)
    have c5 : scat (tx fr (w.take fl.toNat ++ [!(w.getD fl.toNat false)])) (tx fr (w.drop (fl.toNat + 1))) = some (tx fr (turn w fl.toNat)) := scat_tx fr (by rw [List.length_append, List.length_take]; simp; omega) (by rw [List.length_drop]; omega)
    simp only [wpb, wpp]
    exact wp_lift c1 (wp_lift c2 (wp_lift (turn_ch _) (wp_lift c4 (wp_lift c3 (wp_lift c5 rfl)))))
open PySem PySem.Spec PyProof.Rows L2 DL Hw
/-! ### columns -/
def bt (w : List Bool) (i : Nat) : Bool := w.getD i false
def cd (R : List (List Bool)) (i j : Nat) : Nat := R.countP fun w => bt w i != bt w j
def Cq (n : Nat) (R : List (List Bool)) : Prop := ∀ i j, i < n → j < n → i ≠ j → 2 * cd R i j = n
theorem bt_get {w : List Bool} {i : Nat} (h : i < w.length) : bt w i = w[i] := by unfold bt; simp [h]
theorem cd_le (R : List (List Bool)) (i j : Nat) : cd R i j ≤ R.length := List.countP_le_length
def sh (n k i : Nat) : Nat := if i + k < n then i + k else i + k - n
theorem rot_bt {w : List Bool} {n k i : Nat} (hw : w.length = n) (hk : k < n) (hi : i < n) : bt (rot k w) i = bt w (sh n k i) := by
  rw [bt_get (by rw [rot_len]; omega), bt_get (by unfold sh; split <;> omega)]
  unfold rot sh
  rw [List.getElem_append]
  split
  · rename_i h
    rw [List.length_drop] at h
    rw [List.getElem_drop]
    congr 1
    rw [if_pos (by omega)]
    omega
  · rename_i h
    rw [List.length_drop] at h
    rw [List.getElem_take]
    congr 1
    rw [if_neg (by omega), List.length_drop]
    omega
theorem neg_bt {w : List Bool} {i : Nat} (hi : i < w.length) : bt (neg w) i = !bt w i := by
  rw [bt_get (by rw [neg_len]; exact hi), bt_get hi, List.getElem_map]
theorem sh_lt {n k i : Nat} (hk : k < n) (hi : i < n) : sh n k i < n := by unfold sh; split <;> omega
theorem sh_ne {n k i j : Nat} (hk : k < n) (hi : i < n) (hj : j < n) (h : i ≠ j) : sh n k i ≠ sh n k j := by unfold sh; split <;> split <;> omega
theorem xne (a b : Bool) : ((!a) != (!b)) = (a != b) := by cases a <;> cases b <;> rfl
theorem of_bt {n k : Nat} {w v : List Bool} (hw : w.length = n) (hk : k < n) {i j : Nat} (hi : i < n) (hj : j < n) (h : Of k w v) : (bt v i != bt v j) = (bt w (sh n k i) != bt w (sh n k j)) := by
  rcases h with rfl | rfl
  · rw [rot_bt hw hk hi, rot_bt hw hk hj]
  · rw [neg_bt (by rw [rot_len]; omega), neg_bt (by rw [rot_len]; omega), rot_bt hw hk hi, rot_bt hw hk hj, xne]
theorem countP_map_id {α : Type} (p : α → Bool) (l : List α) : l.countP p = (l.map p).countP id := by rw [List.countP_map]; rfl
theorem cd_of {n k : Nat} {M S : List (List Bool)} (hl : S.length = M.length) (hM : ∀ w ∈ M, w.length = n) (hk : k < n) (h : ∀ i (h1 : i < M.length) (h2 : i < S.length), Of k M[i] S[i]) {i j : Nat} (hi : i < n) (hj : j < n) :
    cd S i j = cd M (sh n k i) (sh n k j) := by
  unfold cd
  rw [countP_map_id, countP_map_id (l := M)]
  congr 1
  refine List.ext_getElem (by simp [hl]) fun a h1 h2 => ?_
  rw [List.getElem_map, List.getElem_map]
  exact of_bt (hM _ (List.getElem_mem _)) hk hi hj (h a (by simpa using h2) (by simpa using h1))
theorem turn_bt {w : List Bool} {f j : Nat} (hf : f < w.length) (hj : j < w.length) : bt (turn w f) j = (bt w j != decide (j = f)) := by
  rw [bt_get (by rw [turn_len hf]; exact hj), bt_get hj]
  unfold turn
  rw [List.getElem_append]
  split
  · rename_i h
    simp only [List.length_append, List.length_take, List.length_singleton] at h
    rw [List.getElem_append]
    split
    · rename_i h'
      rw [List.length_take] at h'
      rw [List.getElem_take, decide_eq_false (by omega)]
      simp
    · rename_i h'
      rw [List.length_take] at h'
      have : j = f := by omega
      subst this
      simp [hj]
  · rename_i h
    simp only [List.length_append, List.length_take, List.length_singleton] at h
    rw [List.getElem_drop, decide_eq_false (by omega)]
    simp only [List.length_append, List.length_take, List.length_singleton, Bool.bne_false]
    congr 1
    omega
/-- columns turned: as many agree or as many do not -/
theorem cd_flip {R S : List (List Bool)} {i j : Nat} {c : Bool} (f : List Bool → List Bool) (hS : S = R.map f) (h : ∀ w ∈ R, (bt (f w) i != bt (f w) j) = ((bt w i != bt w j) != c)) : cd S i j = cd R i j ∨ cd S i j + cd R i j = R.length := by
  subst hS
  unfold cd
  rw [List.countP_map]
  cases c with
  | false =>
    left
    refine List.countP_congr fun w hw => ?_
    show (bt (f w) i != bt (f w) j) = true ↔ _
    rw [h w hw, Bool.bne_false]
  | true =>
    right
    rw [show R.countP ((fun w => bt w i != bt w j) ∘ f) = R.countP fun w => !(bt w i != bt w j) from List.countP_congr fun w hw => by
      show (bt (f w) i != bt (f w) j) = true ↔ _
      rw [h w hw, Bool.bne_true]]
    have := List.length_eq_countP_add_countP (p := fun w : List Bool => bt w i != bt w j) (l := R)
    have e : R.countP (fun w => !(bt w i != bt w j)) = R.countP (fun a => decide ¬(bt a i != bt a j) = true) := List.countP_congr fun w _ => by
      cases bt w i != bt w j <;> simp
    omega
theorem cq_flip {n : Nat} {R S : List (List Bool)} (hR : R.length = n) (h : Cq n R) (k : ∀ i j, i < n → j < n → i ≠ j → cd S i j = cd R i j ∨ cd S i j + cd R i j = R.length) : Cq n S := fun i j hi hj hij => by
  have := h i j hi hj hij
  rcases k i j hi hj hij with e | e <;> omega
theorem cq_mixed {n k f : Nat} {R M S : List (List Bool)} (hR : Sq n R) (hq : Cq n R) (p : M.Perm R) (hl : S.length = M.length) (hk : k < n) (hf : f < n) (h : ∀ i (h1 : i < M.length) (h2 : i < S.length), Of k M[i] S[i]) : Cq n (S.map fun w => turn w f) := by
  have hM : ∀ w ∈ M, w.length = n := fun w hw => hR.2.1 w (p.mem_iff.mp hw)
  have hS : ∀ w ∈ S, w.length = n := fun v hv => by
    obtain ⟨i, hi, rfl⟩ := List.mem_iff_getElem.mp hv
    rw [of_len (h i (by omega) hi)]
    exact hM _ (List.getElem_mem _)
  have cS : Cq n S := fun i j hi hj hij => by
    rw [cd_of hl hM hk h hi hj]
    unfold cd
    rw [p.countP_eq]
    exact hq _ _ (sh_lt hk hi) (sh_lt hk hj) (sh_ne hk hi hj hij)
  refine cq_flip (by rw [hl, p.length_eq, hR.1]) cS fun i j hi hj hij => cd_flip (c := decide (i = f) != decide (j = f)) (fun w => turn w f) rfl fun w hw => ?_
  rw [turn_bt (by rw [hS w hw]; exact hf) (by rw [hS w hw]; exact hi), turn_bt (by rw [hS w hw]; exact hf) (by rw [hS w hw]; exact hj)]
  cases bt w i <;> cases bt w j <;> cases decide (i = f) <;> cases decide (j = f) <;> rfl
/-! ### the plain square -/
def tn (w : List Bool) : List Bool := if bt w 0 then neg w else w
def xw (w f : List Bool) : List Bool := List.zipWith (· != ·) w f
def hd (R : List (List Bool)) : List Bool := tn (R.headD [])
def plain (R : List (List Bool)) : List (List Bool) := R.map fun w => xw (tn w) (hd R)
theorem tn_len (w : List Bool) : (tn w).length = w.length := by
  unfold tn
  split
  · exact neg_len w
  · rfl
theorem xw_len {w f : List Bool} (h : w.length = f.length) : (xw w f).length = w.length := by unfold xw; simp [h]
theorem xw_bt {w f : List Bool} {i : Nat} (hi : i < w.length) (h : w.length = f.length) : bt (xw w f) i = (bt w i != bt f i) := by
  rw [bt_get (by rw [xw_len h]; exact hi), bt_get hi, bt_get (by omega)]
  unfold xw
  rw [List.getElem_zipWith]
theorem tn_bt {w : List Bool} {i : Nat} (hi : i < w.length) : bt (tn w) i = (bt w i != bt w 0) := by
  unfold tn
  cases e : bt w 0 with
  | true => rw [if_pos rfl, neg_bt hi]; simp
  | false => rw [if_neg Bool.false_ne_true]; simp
theorem hd_len {n : Nat} {R : List (List Bool)} (h : ∀ w ∈ R, w.length = n) (hR : R ≠ []) : (hd R).length = n := by
  unfold hd
  rw [tn_len]
  cases R with
  | nil => exact absurd rfl hR
  | cons w R => exact h w (by simp)
section
variable {n : Nat} {R : List (List Bool)} (hl : ∀ w ∈ R, w.length = n) (hR : R ≠ [])
include hl hR
theorem plain_lens : ∀ w ∈ plain R, w.length = n := fun v hv => by
  obtain ⟨w, hw, rfl⟩ := List.mem_map.mp hv
  rw [xw_len (by rw [tn_len, hl w hw, hd_len hl hR]), tn_len, hl w hw]
theorem plain_cq (hn : R.length = n) (h : Cq n R) : Cq n (plain R) := by
  refine cq_flip hn h fun i j hi hj hij => cd_flip (c := bt (hd R) i != bt (hd R) j) (fun w => xw (tn w) (hd R)) rfl fun w hw => ?_
  have e : (tn w).length = (hd R).length := by rw [tn_len, hl w hw, hd_len hl hR]
  have lw := hl w hw
  rw [xw_bt (by rw [tn_len]; omega) e, xw_bt (by rw [tn_len]; omega) e, tn_bt (by omega), tn_bt (by omega)]
  cases bt w i <;> cases bt w j <;> cases bt w 0 <;> cases bt (hd R) i <;> cases bt (hd R) j <;> rfl
theorem plain_col (hn : 1 ≤ n) : ∀ w ∈ plain R, bt w 0 = false := fun v hv => by
  obtain ⟨w, hw, rfl⟩ := List.mem_map.mp hv
  have lw := hl w hw
  have e : (tn w).length = (hd R).length := by rw [tn_len, lw, hd_len hl hR]
  rw [xw_bt (by rw [tn_len]; omega) e, tn_bt (by omega)]
  have : bt (hd R) 0 = false := by
    have h0 := hd_len hl hR
    unfold hd at h0 ⊢
    rw [tn_len] at h0
    rw [tn_bt (by omega)]
    simp
  rw [this]
  simp
end
theorem xw_self : ∀ w : List Bool, xw w w = List.replicate w.length false
  | [] => rfl
  | b :: w => by
    show (b != b) :: xw w w = _
    rw [xw_self w, List.length_cons, List.replicate_succ]
    simp
theorem xw_zero : ∀ w : List Bool, xw w (List.replicate w.length false) = w
  | [] => rfl
  | b :: w => by
    rw [List.length_cons, List.replicate_succ]
    show (b != false) :: xw w (List.replicate w.length false) = _
    rw [xw_zero w, Bool.bne_false]
theorem plain_head {n : Nat} {w : List Bool} {R : List (List Bool)} (hl : w.length = n) : plain (w :: R) = List.replicate n false :: (R.map fun v => xw (tn v) (tn w)) := by
  show xw (tn w) (tn w) :: _ = _
  rw [xw_self, tn_len, hl]
  rfl
theorem plain_plain {n : Nat} {R : List (List Bool)} (hl : ∀ w ∈ R, w.length = n) (hR : R ≠ []) (hn : 1 ≤ n) : plain (plain R) = plain R := by
  have h0 : hd (plain R) = List.replicate n false := by
    cases R with
    | nil => exact absurd rfl hR
    | cons w R =>
      rw [plain_head (hl w (by simp))]
      show tn (List.replicate n false) = _
      unfold tn bt
      have : (List.replicate n false).getD 0 false = false := by
        rw [List.getD_eq_getElem?_getD, List.getElem?_replicate]
        split <;> rfl
      rw [this, if_neg Bool.false_ne_true]
  show (plain R).map (fun w => xw (tn w) (hd (plain R))) = plain R
  rw [h0]
  conv => rhs; rw [← List.map_id' (plain R)]
  refine List.map_congr_left fun w hw => ?_
  have e0 := plain_col hl hR hn w hw
  have e1 := plain_lens hl hR w hw
  have : tn w = w := by unfold tn; rw [e0, if_neg Bool.false_ne_true]
  rw [this, ← e1, xw_zero]
theorem dist_xw : ∀ {x y f : List Bool}, x.length = f.length → y.length = f.length → dist (xw x f) (xw y f) = dist x y
  | [], [], _, _, _ => rfl
  | [], _ :: _, [], _, h => by cases h
  | [], _ :: _, _ :: _, h, _ => by cases h
  | _ :: _, _, [], h, _ => by cases h
  | _ :: _, [], _ :: _, _, h => by cases h
  | a :: x, b :: y, c :: f, h1, h2 => by
    show (if ((a != c) != (b != c)) then 1 else 0) + dist (xw x f) (xw y f) = (if a != b then 1 else 0) + dist x y
    rw [dist_xw (by simpa using h1) (by simpa using h2)]
    cases a <;> cases b <;> cases c <;> rfl
theorem dist_tn {x y : List Bool} (h : x.length = y.length) : dist (tn x) (tn y) = dist x y ∨ dist (tn x) (tn y) + dist x y = x.length := by
  unfold tn
  cases bt x 0 <;> cases bt y 0
  · exact .inl rfl
  · rw [if_neg Bool.false_ne_true, if_pos rfl]
    refine .inr ?_
    have : dist (neg y) x + dist y x = y.length := dist_neg (x := y) (y := x) h.symm
    rw [dist_comm _ x, dist_comm y x] at this
    omega
  · rw [if_neg Bool.false_ne_true, if_pos rfl]
    exact .inr (dist_neg h)
  · rw [if_pos rfl, if_pos rfl]
    exact .inl (dist_neg2 x y)
theorem dist_plain {n : Nat} {R : List (List Bool)} (hl : ∀ w ∈ R, w.length = n) (hR : R ≠ []) {x y : List Bool} (hx : x ∈ R) (hy : y ∈ R) : dist (xw (tn x) (hd R)) (xw (tn y) (hd R)) = dist x y ∨ dist (xw (tn x) (hd R)) (xw (tn y) (hd R)) + dist x y = n := by
  have e0 := hd_len hl hR
  have e1 := hl x hx
  have e2 := hl y hy
  rw [dist_xw (by rw [tn_len]; omega) (by rw [tn_len]; omega)]
  have := dist_tn (x := x) (y := y) (by omega)
  omega
theorem plain_sq {n : Nat} {R : List (List Bool)} (hR : R ≠ []) (h : Sq n R) : Sq n (plain R) := by
  obtain ⟨h1, h2, h3⟩ := h
  refine ⟨by unfold plain; rw [List.length_map, h1], plain_lens h2 hR, ?_⟩
  unfold plain
  rw [List.pairwise_map]
  refine h3.imp_of_mem fun {a b} ha hb e => ?_
  have := dist_plain h2 hR ha hb
  omega
/-! ### counts in the plain square -/
theorem dist_zero : ∀ w : List Bool, dist w (List.replicate w.length false) = w.countP id
  | [] => rfl
  | b :: w => by
    rw [List.length_cons, List.replicate_succ, List.countP_cons]
    show (if b != false then 1 else 0) + dist w (List.replicate w.length false) = _
    rw [dist_zero w]
    cases b
    · simp
    · simp; omega
theorem two_counts {α : Type} (f g : α → Bool) : ∀ l : List α, l.countP f + l.countP g = 2 * l.countP (fun x => f x && g x) + l.countP (fun x => f x != g x) ∧ l.countP (fun x => !f x && !g x) + l.countP f + l.countP g = l.length + l.countP (fun x => f x && g x)
  | [] => by simp
  | x :: l => by
    have := two_counts f g l
    simp only [List.countP_cons, List.length_cons]
    cases f x <;> cases g x <;> simp <;> omega
theorem one_count {α : Type} (f : α → Bool) : ∀ l : List α, l.countP (fun x => !f x) + l.countP f = l.length
  | [] => rfl
  | x :: l => by
    have := one_count f l
    simp only [List.countP_cons, List.length_cons]
    cases f x <;> simp <;> omega
/-- both columns plus -/
theorem both_plus {n : Nat} {P : List (List Bool)} (hn : P.length = n) (h : Cq n P) (h0 : ∀ w ∈ P, bt w 0 = false) {a b : Nat} (ha : a < n) (hb : b < n) (a0 : a ≠ 0) (b0 : b ≠ 0) (hab : a ≠ b) :
    4 * P.countP (fun w => !bt w a && !bt w b) = n ∧ 2 * P.countP (fun w => !bt w a) = n := by
  have e : ∀ i, i < n → i ≠ 0 → 2 * P.countP (fun w => bt w i) = n := fun i hi i0 => by
    have := h i 0 hi (by omega) i0
    unfold cd at this
    rw [List.countP_congr (q := fun w => bt w i) fun w hw => by rw [h0 w hw, Bool.bne_false]] at this
    exact this
  have e1 := e a ha a0
  have e2 := e b hb b0
  have e3 := h a b ha hb hab
  unfold cd at e3
  have e4 := two_counts (fun w : List Bool => bt w a) (fun w => bt w b) P
  have e5 := one_count (fun w : List Bool => bt w a) P
  omega
open PySem PySem.Spec PyProof.Rows L2 DL Hw
theorem foldl_add (f : Nat → Int) : ∀ (l : List Nat) (s : Int), l.foldl (fun s i => s + f i) s = s + (l.map f).sum
  | [], s => by simp
  | i :: l, s => by
    rw [List.foldl_cons, foldl_add f l, List.map_cons, List.sum_cons]
    omega
theorem dist_sum : ∀ {x y : List Bool}, x.length = y.length → ((List.range x.length).map fun i => ((if x.getD i false != y.getD i false then 1 else 0 : Nat) : Int)).sum = (dist x y : Int)
  | [], _, _ => rfl
  | _ :: _, [], h => by cases h
  | a :: x, b :: y, h => by
    have ih := dist_sum (x := x) (y := y) (by simpa using h)
    rw [List.length_cons, List.range_succ_eq_map, List.map_cons, List.sum_cons, List.map_map]
    show ((if a != b then 1 else 0 : Nat) : Int) + ((List.range x.length).map fun i => ((if x.getD i false != y.getD i false then 1 else 0 : Nat) : Int)).sum = (((if a != b then 1 else 0) + dist x y : Nat) : Int)
    rw [ih]
    omega
theorem forS_ko {α S : Type} {f : S → α → Option S} {P : Nat → S → Prop} : ∀ {xs : List α} {s : S} {k : Nat}, P k s → (∀ i s x, xs[i]? = some x → P (k + i) s → ∃ s', f s x = some s' ∧ P (k + i + 1) s') → ∃ s', forS f s xs = some s' ∧ P (k + xs.length) s'
  | [], s, k, h0, _ => ⟨s, rfl, h0⟩
  | x :: xs, s, k, h0, h => by
    obtain ⟨s1, e1, p1⟩ := h 0 s x rfl h0
    obtain ⟨s2, e2, p2⟩ := forS_ko (f := f) (P := P) (xs := xs) (s := s1) (k := k + 1) p1 fun i s y e hp => by
      have := h (i + 1) s y (by simpa using e) (by rw [show k + (i + 1) = k + 1 + i by omega]; exact hp)
      rw [show k + (i + 1) + 1 = k + 1 + i + 1 by omega] at this
      exact this
    refine ⟨s2, ?_, ?_⟩
    · show (f s x >>= fun s' => forS f s' xs) = _
      rw [e1, ob, e2]
    · rw [show k + (x :: xs).length = k + 1 + xs.length by simp; omega]
      exact p2
theorem forS_rng {S : Type} {f : S → Int → Option S} (P : Nat → S → Prop) {n : Nat} {s : S} (h0 : P 0 s) (h : ∀ k, k < n → ∀ s, P k s → ∃ s', f s (k : Int) = some s' ∧ P (k + 1) s') : ∃ s', forS f s (rng 0 (n : Int)) = some s' ∧ P n s' := by
  obtain ⟨s', e, p⟩ := forS_ko (f := f) (P := P) (xs := rng 0 (n : Int)) (s := s) (k := 0) h0 fun i s x e hp => by
    have hi : i < n := by
      have := (List.getElem?_eq_some_iff.mp e).1
      rw [rng_length] at this
      omega
    rw [rng_get (by omega)] at e
    injection e with e
    subst e
    rw [Nat.zero_add] at hp ⊢
    rw [Int.zero_add]
    exact h i hi s hp
  refine ⟨s', e, ?_⟩
  rw [Nat.zero_add, rng_length] at p
  rwa [show ((n : Int) - 0).toNat = n by omega] at p
theorem enumI_eq (T : List (List Bool)) (f : List Bool → Str) : enumI (T.map f) = (List.range T.length).map fun i : Nat => ((i : Int), f (T.getD i [])) := by
  refine List.ext_getElem? fun i => ?_
  by_cases hi : i < T.length
  · rw [enumI_get (x := f T[i]) (by rw [List.getElem?_map, List.getElem?_eq_getElem hi]; rfl), List.getElem?_map, List.getElem?_range hi]
    simp [hi]
  · have h1 : (enumI (T.map f)).length = T.length := by unfold enumI; simp
    rw [List.getElem?_eq_none (by omega), List.getElem?_eq_none (by simp; omega)]
/-! ### loops that may end early -/
def cR {R : Type} (o : Option R) : Ct Unit R := match o with
  | none => .nx ()
  | some r => .rt r
theorem forC_find {α R : Type} {f : Unit → α → Option (Ct Unit R)} {g : α → Option R} : ∀ {xs : List α}, (∀ x ∈ xs, f () x = some (cR (g x))) → forC f () xs = some (cR (xs.findSome? g))
  | [], _ => rfl
  | x :: xs, h => by
    unfold forC
    rw [h x (by simp), ob, List.findSome?_cons]
    cases g x with
    | none => exact forC_find fun y hy => h y (by simp [hy])
    | some r => rfl
theorem go_cR {R : Type} (o : Option R) : (cR o).go (fun _ => (some (Ct.nx ()) : Option (Ct Unit R))) (fun r => some (Ct.rt r)) = some (cR o) := by cases o <;> rfl
theorem go_end {R Z : Type} (o : Option R) (k : Option Z) (f : R → Option Z) : (cR o).go (fun _ => k) f = (match o with | none => k | some r => f r) := by cases o <;> rfl
theorem find_none {α R : Type} {g : α → Option R} {xs : List α} (h : ∀ x ∈ xs, g x = none) : xs.findSome? g = none := List.findSome?_eq_none_iff.mpr h
/-! ### rows -/
theorem eq_ch (a b : Bool) : (ch (fr a) == ch (fr b)) = (a == b) := by cases a <;> cases b <;> decide
theorem agreeing_ok {x y : List Bool} (h : x.length ≤ 1000000) (k : x.length = y.length) : f_agreeing (tx fr x, tx fr y) = some ((x.length - dist x y : Nat) : Int) := by
  unfold f_agreeing
  simp only [ol, op, ob, szip_tx fr h]
  rw [List.length_map, List.filter_map, List.length_map, ← dist_zip]
  have e : ((fun x1 : Str × Str => x1.1 == x1.2) ∘ fun p : Bool × Bool => (ch (fr p.1), ch (fr p.2))) = fun p => !(p.1 != p.2) := by
    funext p
    show (ch (fr p.1) == ch (fr p.2)) = _
    rw [eq_ch]
    cases p.1 <;> cases p.2 <;> rfl
  rw [e]
  have := one_count (fun p : Bool × Bool => p.1 != p.2) (x.zip y)
  rw [← List.countP_eq_length_filter, ← List.countP_eq_length_filter]
  have l : (x.zip y).length = x.length := by rw [List.length_zip]; omega
  congr 1
  congr 1
  omega
theorem sum_sub (n : Nat) (f : Nat → Bool) : ((List.range n).map fun i => b2n (!f i)).sum = (n : Int) - ((List.range n).map fun i => ((if f i then 1 else 0 : Nat) : Int)).sum := by
  induction n with
  | zero => rfl
  | succ n ih =>
    rw [List.range_succ, List.map_append, List.sum_append, List.map_append, List.sum_append, ih]
    cases h : f n <;> simp [b2n, h] <;> omega
theorem agree_ok {x y : List Bool} (h : x.length ≤ 1000000) (k : x.length = y.length) : f__law_agree (tx fr x, tx fr y) = some ((x.length - dist x y : Nat) : Int) := by
  unfold f__law_agree
  simp only [ol, op, ob, slen_tx fr h, irng0 h]
  rw [forS_some (g := fun s i => s + b2n (!(x.getD i.toNat false != y.getD i.toNat false)))]
  · simp only [ob]
    rw [rng0, List.foldl_map]
    simp only [Int.toNat_natCast]
    rw [foldl_add (fun i => b2n (!(x.getD i false != y.getD i false))), sum_sub, dist_sum k]
    have := dist_le x y
    congr 1
    omega
  · intro s i hi
    obtain ⟨i0, i1⟩ := rng_mem.mp hi
    obtain ⟨j, rfl⟩ : ∃ j : Nat, i = (j : Int) := ⟨i.toNat, by omega⟩
    rw [sat_nat fr h (by omega), sat_nat fr (by omega) (by omega)]
    simp only [ob, eq_ch, Int.toNat_natCast]
    congr 3
    cases x.getD j false <;> cases y.getD j false <;> rfl
theorem con_ch (b : Bool) : dgetS c_CONTRARY (ch (fr b)) = some (ch (fr (!b))) := by cases b <;> decide +kernel
theorem contrary_ok {w : List Bool} (h : w.length ≤ 1000000) : f_contrary (tx fr w) = some (tx fr (neg w)) := by
  unfold f_contrary
  simp only [ol, op, ob, sguard fr h]
  rw [lcM_ch (g := fun b => fr (!b)) con_ch, ob, neg_tx, sjoin_tx fr (by rw [neg_len]; exact h)]
theorem at0 {n : Nat} {w : List Bool} (hw : w.length = n) (hn : 1 ≤ n) (h2 : n ≤ 1000) : sat (tx fr w) 0 = some (ch (fr (bt w 0))) := by
  have := sat_nat fr (w := w) (by omega) (i := 0) (by omega)
  exact this
theorem row0 {R : List (List Bool)} {w : List Bool} : atI ((w :: R).map (tx fr)) 0 = some (tx fr w) := by
  rw [Hw.atI_map]
  show (atI (w :: R) ((0 : Nat) : Int)).map (tx fr) = _
  rw [Hw.atI_nat (w :: R) (by simp)]
  rfl
theorem rowk {R : List (List Bool)} {i : Nat} (h : i < R.length) : atI (R.map (tx fr)) (i : Int) = some (tx fr (R.getD i [])) := by
  rw [Hw.atI_map, Hw.atI_nat R h]
  simp [h]
theorem minus_ch (b : Bool) : (ch (fr b) == "-") = b := by cases b <;> decide +kernel
theorem minus_c (b : Bool) : (ch (fr b) == c_MINUS) = b := by cases b <;> decide +kernel
theorem plus_ch (b : Bool) : (ch (fr b) == "+") = !b := by cases b <;> decide +kernel
theorem plus_c (b : Bool) : (ch (fr b) == c_PLUS) = !b := by cases b <;> decide +kernel
theorem pm (a b : Bool) : (if (ch (fr a) == ch (fr b)) = true then c_PLUS else c_MINUS) = ch (fr (a != b)) := by cases a <;> cases b <;> decide +kernel
theorem flat_one {α β : Type} (g : α → β) : ∀ xs : List α, xs.flatMap (fun x => [g x]) = xs.map g
  | [] => rfl
  | x :: xs => by rw [List.flatMap_cons, flat_one g xs]; rfl
theorem forS_app {α β : Type} {f : List β → α → Option (List β)} {g : α → β} {B : Nat} {xs : List α} (hf : ∀ x ∈ xs, ∀ s, s.length ≤ B → f s x = some (s ++ [g x])) (h : xs.length ≤ B) : forS f [] xs = some (xs.map g) := by
  have := forS_in (f := f) (g := fun x => [g x]) (B := B) (xs := xs) (s := []) hf (by rw [flat_one, List.nil_append, List.length_map]; exact h)
  rw [this, List.nil_append, flat_one]
section
variable {n : Nat} {R : List (List Bool)} (hl : ∀ w ∈ R, w.length = n) (hR : R ≠ []) (hn : 1 ≤ n) (h2 : n ≤ 1000) (h3 : R.length ≤ 1000)
include hl hR hn h2 h3
omit h3 in
theorem psigns_ok : f_plain_signs (R.map (tx fr)) = some ((plain R).map (tx fr)) := by
  unfold f_plain_signs
  simp only [ol, op, ob]
  rw [lcM_mp, lcM_m (f := fun w => tx fr (tn w)) (fun _ _ => rfl) fun w hw => ?_]
  · simp only [ob]
    obtain ⟨w0, R0, rfl⟩ := List.exists_cons_of_ne_nil hR
    have ea : atI (((w0 :: R0).map fun w => tx fr (tn w)) : List Str) 0 = some (tx fr (hd (w0 :: R0))) := by
      show atI (((w0 :: R0).map (fun w => tx fr (tn w)))) ((0 : Nat) : Int) = _
      rw [Hw.atI_nat _ (by simp)]
      rfl
    rw [ea, ob, lcM_mp, lcM_m (f := fun w => tx fr (xw (tn w) (hd (w0 :: R0)))) (fun _ _ => rfl) fun w hw => ?_]
    · unfold plain
      rw [List.map_map]
      rfl
    · have lw := hl w hw
      rw [szip_tx fr (by rw [tn_len]; omega), ob, List.map_map]
      have e : ((fun x7 : Str × Str => if (x7.1 == x7.2) = true then c_PLUS else c_MINUS) ∘ fun p : Bool × Bool => (ch (fr p.1), ch (fr p.2))) = (fun b => ch (fr b)) ∘ fun p : Bool × Bool => p.1 != p.2 := by
        funext p
        exact pm p.1 p.2
      rw [e, ← List.map_map]
      have e2 : (List.zip (tn w) (hd (w0 :: R0))).map (fun p : Bool × Bool => p.1 != p.2) = xw (tn w) (hd (w0 :: R0)) := by
        unfold xw
        rw [List.zip_eq_zipWith, List.map_zipWith]
      rw [e2, ob, sjoin_tx fr]
      rw [xw_len (by rw [tn_len, lw, hd_len hl (by simp)]), tn_len]
      omega
  · have lw := hl w hw
    rw [at0 lw hn h2, ob, minus_c]
    unfold tn
    simp only [ob]
    cases bt w 0 with
    | true => simp only [if_true]; exact contrary_ok (by omega)
    | false => rfl
theorem lplain_ok : f__law_plain (R.map (tx fr)) = some ((plain R).map (tx fr)) := by
  unfold f__law_plain
  simp only [ol, op, ob]
  rw [forS_mp, forS_app (B := 1000) (g := fun w => tx fr (tn w)) (fun w hw s hs => ?_) h3]
  · simp only [ob]
    obtain ⟨w0, R0, rfl⟩ := List.exists_cons_of_ne_nil hR
    have ea : atI (((w0 :: R0).map fun w => tx fr (tn w)) : List Str) 0 = some (tx fr (hd (w0 :: R0))) := by
      show atI (((w0 :: R0).map (fun w => tx fr (tn w)))) ((0 : Nat) : Int) = _
      rw [Hw.atI_nat _ (by simp)]
      rfl
    rw [forS_mp, forS_app (B := 1000) (g := fun w => tx fr (xw (tn w) (hd (w0 :: R0)))) (fun w hw s hs => ?_) h3]
    · simp only [ob]
      unfold plain
      rw [List.map_map]
      rfl
    · have lw := hl w hw
      have l1 : (tn w).length = n := by rw [tn_len, lw]
      have l2 : (hd (w0 :: R0)).length = n := hd_len hl (by simp)
      have l3 : (xw (tn w) (hd (w0 :: R0))).length = n := by rw [xw_len (by omega), l1]
      rw [slen_tx fr (by omega), ob, irng0 (by omega), ob, l1]
      obtain ⟨s', e, p⟩ := forS_rng (f := fun (s23 : Str) (x26 : Int) => ((atI ((w0 :: R0).map fun w => tx fr (tn w)) 0 >>= fun x27 => sat x27 x26) >>= fun x29 => some (x29 == "-")) >>= fun t31 => if t31 = true then ((sat (tx fr (tn w)) x26 >>= fun a33 => f__law_turn a33) >>= fun y35 => scat s23 y35) >>= fun v32_line => some v32_line else (sat (tx fr (tn w)) x26 >>= fun y38 => scat s23 y38) >>= fun v36_line => some v36_line)
        (fun k s => s = tx fr ((xw (tn w) (hd (w0 :: R0))).take k)) (n := n) (s := "") rfl fun k hk s hs => by
          subst hs
          have e1 : sat (tx fr (tn w)) (k : Int) = some (ch (fr (bt (tn w) k))) := sat_nat fr (by omega) (by omega)
          have e2 : sat (tx fr (hd (w0 :: R0))) (k : Int) = some (ch (fr (bt (hd (w0 :: R0)) k))) := sat_nat fr (by omega) (by omega)
          have e3 : (xw (tn w) (hd (w0 :: R0))).take (k + 1) = (xw (tn w) (hd (w0 :: R0))).take k ++ [bt (tn w) k != bt (hd (w0 :: R0)) k] := by
            rw [← xw_bt (by omega) (by omega), bt_get (by omega), List.take_succ, List.getElem?_eq_getElem (by omega)]
            rfl
          refine ⟨_, ?_, rfl⟩
          rw [e3, ea, ob, e2, ob, ob, e1, minus_ch]
          simp only [ob]
          have e4 := scat1 fr (w := (xw (tn w) (hd (w0 :: R0))).take k) (bt (tn w) k != bt (hd (w0 :: R0)) k) (by rw [List.length_take]; omega)
          generalize bt (hd (w0 :: R0)) k = b at e4 ⊢
          cases b with
          | true =>
            rw [Bool.bne_true] at e4 ⊢
            simp only [if_true, turn_ch, ob, e4]
          | false =>
            rw [Bool.bne_false] at e4 ⊢
            simp only [Bool.false_eq_true, if_false, e4, ob]
      rw [e, ob, p, List.take_of_length_le (by omega)]
      rw [lapp_small (show s.length ≤ 1000000 by omega), ob]
  · have lw := hl w hw
    rw [at0 lw hn h2, ob, minus_ch]
    unfold tn
    simp only [ob]
    cases bt w 0 with
    | true =>
      simp only [if_true, sguard fr (show w.length ≤ 1000000 by omega), ob]
      rw [lcM_turn, ob, sjoin_tx fr (by rw [neg_len]; omega), ob, ob]
      rw [lapp_small (show s.length ≤ 1000000 by omega), ob]
    | false =>
      simp only [Bool.false_eq_true, if_false, ob]
      rw [lapp_small (show s.length ≤ 1000000 by omega), ob]
end
theorem isStr (x : Str) : isD "str" (eS x) = true := rfl
theorem strings_ok (A : List Str) : f__law_strings (A, A) = some true := by
  unfold f__law_strings
  have e0 : isD "list" (eL eS A) = true := rfl
  simp only [e0, bne_self_eq_false, Bool.not_true, Bool.or_self, op, ob, ol]
  rw [iff', forC_nx fun i hi => ?_]
  · rfl
  · obtain ⟨i0, i1⟩ := rng_mem.mp hi
    have : atI A i = some (A.getD i.toNat "") := by
      have := Hw.atI_nat A (i := i.toNat) (by omega)
      rw [show ((i.toNat : Nat) : Int) = i by omega] at this
      rw [this]
      simp [show i.toNat < A.length by omega]
    rw [this]
    simp only [ob, isStr, Bool.not_true, bne_self_eq_false, Bool.false_eq_true, if_false]
open PySem PySem.Spec PyProof.Rows L2 DL Hw
/-! ### even squares -/
def evB (N : Nat) (R : List (List Bool)) : Bool := decide (R.Pairwise fun a b => 2 * dist a b = N)
theorem ev_pairs {N : Nat} {R : List (List Bool)} : evB N R = true ↔ ∀ i j, j < i → i < R.length → 2 * dist (R.getD i []) (R.getD j []) = N := by
  unfold evB
  rw [decide_eq_true_iff, List.pairwise_iff_getElem]
  constructor
  · intro h i j hj hi
    have := h j i (by omega) hi hj
    rw [dist_comm] at this
    simpa [hi, show j < R.length by omega] using this
  · intro h i j hi hj hij
    have := h j i hij hj
    rw [dist_comm] at this
    simpa [hi, hj] using this
theorem some_bad {α R : Type} {g : α → Option R} {xs : List α} {P : Prop} [Decidable P] (h : (∀ x ∈ xs, g x = none) ↔ P) : (xs.findSome? g).isNone = decide P := by
  rw [Bool.eq_iff_iff, Option.isNone_iff_eq_none, List.findSome?_eq_none_iff, h, decide_eq_true_iff]
section
variable {N : Nat} {R : List (List Bool)} (hl : ∀ w ∈ R, w.length = N) (hR : R.length = N) (h2 : N ≤ 1000)
include hl hR h2
theorem getD_len {i : Nat} (h : i < R.length) : (R.getD i []).length = N := by
  have : R.getD i [] = R[i] := by simp [h]
  rw [this]
  exact hl _ (List.getElem_mem _)
theorem even_ok : f__law_is_even (R.map (tx fr)) = some (evB N R) := by
  unfold f__law_is_even
  simp only [ol, op, ob, List.length_map, hR, irng0 (show N ≤ 1000000 by omega)]
  rw [forC_find (g := fun i : Int => (rng 0 i).findSome? fun j => if 2 * dist (R.getD i.toNat []) (R.getD j.toNat []) = N then none else some false) fun i hi => ?_]
  · rw [ob, go_end]
    have key : (∀ x ∈ rng 0 (N : Int), ((rng 0 x).findSome? fun j => if 2 * dist (R.getD x.toNat []) (R.getD j.toNat []) = N then none else some false) = none) ↔ evB N R = true := by
      rw [ev_pairs]
      constructor
      · intro h i j hj hi
        have := List.findSome?_eq_none_iff.mp (h (i : Int) (rng_mem.mpr ⟨by omega, by omega⟩)) (j : Int) (rng_mem.mpr ⟨by omega, by omega⟩)
        simp only [Int.toNat_natCast] at this
        split at this
        · assumption
        · cases this
      · intro h x hx
        have hx := rng_mem.mp hx
        refine find_none fun y hy => ?_
        have hy := rng_mem.mp hy
        rw [if_pos (h x.toNat y.toNat (by omega) (by omega))]
    cases e : evB N R with
    | true => rw [find_none (key.mpr e)]
    | false =>
      cases e2 : (rng 0 (N : Int)).findSome? fun i : Int => (rng 0 i).findSome? fun j => if 2 * dist (R.getD i.toNat []) (R.getD j.toNat []) = N then none else some false with
      | none =>
        rw [key.mp (List.findSome?_eq_none_iff.mp e2)] at e
        cases e
      | some r =>
        obtain ⟨i, _, hi⟩ := List.exists_of_findSome?_eq_some e2
        obtain ⟨j, _, hj⟩ := List.exists_of_findSome?_eq_some hi
        split at hj
        · cases hj
        · cases hj; rfl
  · have hi := rng_mem.mp hi
    rw [irng_ok (by omega) (by omega) (by omega) (by omega), ob]
    rw [forC_find (g := fun j : Int => if 2 * dist (R.getD i.toNat []) (R.getD j.toNat []) = N then none else some false) fun j hj => ?_]
    · rw [ob]; exact go_cR _
    · have hj := rng_mem.mp hj
      have e1 := rowk (R := R) (i := i.toNat) (by omega)
      have e2 := rowk (R := R) (i := j.toNat) (by omega)
      rw [show ((i.toNat : Nat) : Int) = i by omega] at e1
      rw [show ((j.toNat : Nat) : Int) = j by omega] at e2
      have l1 := getD_len hl hR h2 (i := i.toNat) (by omega)
      have l2 := getD_len hl hR h2 (i := j.toNat) (by omega)
      have le := dist_le (R.getD i.toNat []) (R.getD j.toNat [])
      rw [e1, ob, e2, ob, agree_ok (by omega) (by omega), ob, ob, ob]
      by_cases c : 2 * dist (R.getD i.toNat []) (R.getD j.toNat []) = N
      · rw [if_pos c]
        have : ((2 : Int) * (((R.getD i.toNat []).length - dist (R.getD i.toNat []) (R.getD j.toNat []) : Nat) : Int) != (N : Int)) = false := by
          rw [bne_eq_false_iff_eq]
          omega
        rw [this]
        rfl
      · rw [if_neg c]
        have : ((2 : Int) * (((R.getD i.toNat []).length - dist (R.getD i.toNat []) (R.getD j.toNat []) : Nat) : Int) != (N : Int)) = true := by
          rw [bne_iff_ne]
          omega
        rw [this]
        rfl
def oddD (i j m : Int) : D := eT eD ([(eS "odd"), (eI i), (eI j), (eI m)] : (List D))
theorem deq_odd (i j m : Int) : deq (eD (oddD i j m)) (eT eS (["even"] : List Str)) = some false := rfl
theorem deq_even : deq (eD (eT eS (["even"] : List Str))) (eT eS (["even"] : List Str)) = some true := by decide +kernel
theorem are_ok : ∃ d, f_are_even (R.map (tx fr)) = some d ∧ deq (eD d) (eT eS (["even"] : List Str)) = some (evB N R) := by
  unfold f_are_even
  simp only [ol, op, ob, List.length_map, hR]
  let g : Int → Int → Option D := fun i j => if 2 * dist (R.getD i.toNat []) (R.getD j.toNat []) = N then none else some (oddD i j (((R.getD i.toNat []).length - dist (R.getD i.toNat []) (R.getD j.toNat []) : Nat) : Int))
  rw [forC_find (g := fun p : Int × Str => (rng (p.1 + 1) (N : Int)).findSome? (g p.1)) fun p hp => ?_]
  · rw [ob, go_end]
    have key : (∀ p ∈ enumI (R.map (tx fr)), (rng (p.1 + 1) (N : Int)).findSome? (g p.1) = none) ↔ evB N R = true := by
      rw [ev_pairs, enumI_eq]
      constructor
      · intro h i j hj hi
        have := List.findSome?_eq_none_iff.mp (h ((j : Int), tx fr (R.getD j [])) (List.mem_map.mpr ⟨j, List.mem_range.mpr (by omega), rfl⟩)) (i : Int) (rng_mem.mpr ⟨by omega, by omega⟩)
        show 2 * dist _ _ = N
        simp only [g, Int.toNat_natCast] at this
        rw [dist_comm]
        split at this
        · assumption
        · cases this
      · intro h p hp
        obtain ⟨k, hk, rfl⟩ := List.mem_map.mp hp
        have hk := List.mem_range.mp hk
        refine find_none fun y hy => ?_
        have hy := rng_mem.mp hy
        have hy1 : (k : Int) + 1 ≤ y := hy.1
        have := h y.toNat k (by omega) (by omega)
        simp only [g, Int.toNat_natCast]
        rw [dist_comm, if_pos this]
    cases e : evB N R with
    | true =>
      rw [find_none (key.mpr e)]
      exact ⟨_, rfl, deq_even hl hR h2⟩
    | false =>
      cases e2 : (enumI (R.map (tx fr))).findSome? fun p : Int × Str => (rng (p.1 + 1) (N : Int)).findSome? (g p.1) with
      | none =>
        rw [key.mp (List.findSome?_eq_none_iff.mp e2)] at e
        cases e
      | some r =>
        obtain ⟨i, _, hi⟩ := List.exists_of_findSome?_eq_some e2
        obtain ⟨j, _, hj⟩ := List.exists_of_findSome?_eq_some hi
        simp only [g] at hj
        split at hj
        · cases hj
        · cases hj
          exact ⟨_, rfl, deq_odd hl hR h2 _ _ _⟩
  · rw [enumI_eq] at hp
    obtain ⟨k, hk, rfl⟩ := List.mem_map.mp hp
    have hk := List.mem_range.mp hk
    simp only []
    rw [irng_ok (by omega) (by omega) (by omega) (by omega), ob]
    rw [forC_find (g := g (k : Int)) fun j hj => ?_]
    · rw [ob]; exact go_cR _
    · have hj := rng_mem.mp hj
      have e2 := rowk (R := R) (i := j.toNat) (by omega)
      rw [show ((j.toNat : Nat) : Int) = j by omega] at e2
      have l1 := getD_len hl hR h2 (i := k) (by omega)
      have l2 := getD_len hl hR h2 (i := j.toNat) (by omega)
      have le := dist_le (R.getD k []) (R.getD j.toNat [])
      rw [e2, ob, agreeing_ok (by omega) (by omega), ob]
      simp only [g, Int.toNat_natCast]
      by_cases c : 2 * dist (R.getD k []) (R.getD j.toNat []) = N
      · rw [if_pos c]
        have : ((2 : Int) * (((R.getD k []).length - dist (R.getD k []) (R.getD j.toNat []) : Nat) : Int) != (N : Int)) = false := by
          rw [bne_eq_false_iff_eq]
          omega
        rw [this]
        rfl
      · rw [if_neg c]
        have : ((2 : Int) * (((R.getD k []).length - dist (R.getD k []) (R.getD j.toNat []) : Nat) : Int) != (N : Int)) = true := by
          rw [bne_iff_ne]
          omega
        rw [this]
        rfl
end
theorem fold_rep (c : Nat) : ∀ (n : Nat) (acc : Array Nat), (List.replicate n (#[c] : Array Nat)).foldl (fun a b => a ++ b) acc = acc ++ (List.replicate n c).toArray
  | 0, acc => by simp
  | n + 1, acc => by
    rw [List.replicate_succ, List.foldl_cons, fold_rep c n, List.replicate_succ]
    apply Array.ext'
    rw [Array.toList_append, Array.toList_append, Array.toList_append, List.append_assoc]
    rfl
theorem smul1 {n : Nat} (h1 : 1 ≤ n) (h2 : n ≤ 1000) : smul "+" (n : Int) = some (tx fr (List.replicate n false)) := by
  unfold smul
  rw [if_pos ⟨by decide, by omega, by omega⟩]
  congr 1
  unfold Txt.mul tx
  rw [if_neg (by omega), List.map_replicate]
  have l1 : ("+" : Str).length = 1 := rfl
  have c1 : ("+" : Str).cps = #[43] := rfl
  split
  · rename_i h
    rw [l1] at h
    have : n = 1 := by
      rw [Bool.or_eq_true, beq_iff_eq] at h
      rcases h with h | h
      · omega
      · cases h
    subst this
    rfl
  · congr 1
    rw [c1, Int.toNat_natCast, fold_rep]
    simp [fr]
/-! ### twice the size -/
def dbl (R : List (List Bool)) : List (List Bool) := (R.map fun w => w ++ w) ++ R.map fun w => w ++ neg w
theorem dbl_len (R : List (List Bool)) : (dbl R).length = 2 * R.length := by unfold dbl; rw [List.length_append, List.length_map, List.length_map]; omega
theorem dbl_lens {n : Nat} {R : List (List Bool)} (hl : ∀ w ∈ R, w.length = n) : ∀ w ∈ dbl R, w.length = 2 * n := fun v hv => by
  unfold dbl at hv
  rcases List.mem_append.mp hv with h | h
  · obtain ⟨w, hw, rfl⟩ := List.mem_map.mp h
    rw [List.length_append, hl w hw]
    omega
  · obtain ⟨w, hw, rfl⟩ := List.mem_map.mp h
    rw [List.length_append, neg_len, hl w hw]
    omega
theorem dbl_ev {n : Nat} {R : List (List Bool)} (hl : ∀ w ∈ R, w.length = n) : evB (2 * n) (dbl R) = evB n R := by
  unfold evB dbl
  rw [decide_eq_decide, List.pairwise_append, List.pairwise_map, List.pairwise_map]
  constructor
  · rintro ⟨h, _, _⟩
    refine h.imp_of_mem fun {a b} ha hb e => ?_
    rw [dist_app (by rw [hl a ha, hl b hb])] at e
    omega
  · intro h
    refine ⟨h.imp_of_mem fun {a b} ha hb e => ?_, h.imp_of_mem fun {a b} ha hb e => ?_, fun v hv u hu => ?_⟩
    · rw [dist_app (by rw [hl a ha, hl b hb])]
      omega
    · rw [dist_app (by rw [hl a ha, hl b hb])]
      have : dist (neg a) (neg b) = dist a b := dist_neg2 a b
      omega
    · obtain ⟨a, ha, rfl⟩ := List.mem_map.mp hv
      obtain ⟨b, hb, rfl⟩ := List.mem_map.mp hu
      have e1 := hl a ha
      have e2 := hl b hb
      rw [dist_app (by omega)]
      have : dist (neg b) a + dist b a = b.length := dist_neg (by omega)
      rw [dist_comm (neg b) a, dist_comm b a] at this
      omega
section
variable {n : Nat} {R : List (List Bool)} (hl : ∀ w ∈ R, w.length = n) (hR : R.length = n) (h2 : n ≤ 400)
include hl hR h2
theorem doubled_ok : f_doubled_signs (R.map (tx fr)) = some ((dbl R).map (tx fr)) := by
  unfold f_doubled_signs
  simp only [ol, op, ob]
  rw [lcM_mp, lcM_m (f := fun w => tx fr (w ++ w)) (fun _ _ => rfl) fun w hw => scat_tx fr (by rw [hl w hw]; omega) (by rw [hl w hw]; omega), ob, lcM_mp,
    lcM_m (f := fun w => tx fr (w ++ neg w)) (fun _ _ => rfl) fun w hw => ?_, ob]
  · unfold lcat dbl
    rw [if_pos (by simp; omega), List.map_append, List.map_map, List.map_map]
    rfl
  · rw [contrary_ok (by rw [hl w hw]; omega), ob]
    exact scat_tx fr (by rw [hl w hw]; omega) (by rw [neg_len, hl w hw]; omega)
theorem dright_ok : f__law_doubled_right (R.map (tx fr)) = some true := by
  unfold f__law_doubled_right
  simp only [ol, op, ob]
  rw [lcM_mp, lcM_m (f := fun w => tx fr (w ++ w)) (fun _ _ => rfl) fun w hw => scat_tx fr (by rw [hl w hw]; omega) (by rw [hl w hw]; omega), ob, forS_mp,
    forS_in (B := 1000) (g := fun w => [tx fr (w ++ neg w)]) (fun w hw s hs => ?_) (by rw [flat_one, List.length_append, List.length_map, List.length_map]; omega), flat_one, ob]
  · have e : (R.map (fun w => tx fr (w ++ w)) ++ R.map fun w => tx fr (w ++ neg w)) = (dbl R).map (tx fr) := by
      unfold dbl
      rw [List.map_append, List.map_map, List.map_map]
      rfl
    have ld : (dbl R).length = 2 * n := by rw [dbl_len, hR]
    have dl := dbl_lens hl
    obtain ⟨d, e1, e2⟩ := are_ok dl ld (by omega)
    have f1 := even_ok dl ld (by omega)
    have f2 := even_ok hl hR (by omega)
    rw [dbl_ev hl] at e2 f1
    rw [e, doubled_ok hl hR h2]
    simp only [ob, strings_ok, Bool.not_true, bne_self_eq_false, Bool.false_eq_true, if_false, e1, e2, f1, f2]
    rw [lapp_small (by rw [List.length_map, ld]; omega)]
    simp only [ob, strings_ok]
  · have lw := hl w hw
    simp only [sguard fr (show w.length ≤ 1000000 by omega), ob]
    rw [lcM_turn, ob, sjoin_tx fr (by rw [neg_len]; omega), ob, scat_tx fr (by omega) (by rw [neg_len]; omega), ob, lapp_small (by omega), ob]
theorem pright_ok (hn : 1 ≤ n) : f__law_plain_right (R.map (tx fr)) = some true := by
  have h0 : R ≠ [] := by
    intro e
    rw [e] at hR
    simp at hR
    omega
  have pl := plain_lens hl h0
  have pne : plain R ≠ [] := by
    intro e
    have : (plain R).length = R.length := by unfold plain; rw [List.length_map]
    rw [e] at this
    simp at this
    omega
  have plen : (plain R).length = n := by unfold plain; rw [List.length_map, hR]
  unfold f__law_plain_right
  simp only [ol, op, ob]
  rw [lplain_ok hl h0 hn (by omega) (by omega), ob, psigns_ok hl h0 hn (by omega), ob, psigns_ok pl pne hn (by omega), plain_plain hl h0 hn]
  have a0 : atI ((plain R).map (tx fr)) 0 = some (tx fr (List.replicate n false)) := by
    obtain ⟨w0, R0, rfl⟩ := List.exists_cons_of_ne_nil h0
    rw [plain_head (hl w0 (by simp))]
    exact row0
  have m0 : smul "+" (n : Int) = some (tx fr (List.replicate n false)) := smul1 hn (by omega)
  have j0 : lcM (fun _ => some true) (fun x8 => sat x8 0) ((plain R).map (tx fr)) = some ((List.replicate n false).map fun b => ch (fr b)) := by
    rw [lcM_mp, lcM_m (f := fun _ => ch (fr false)) (fun _ _ => rfl) fun w hw => ?_]
    · congr 1
      rw [List.map_const', plen, List.map_replicate]
    · rw [at0 (pl w hw) hn (by omega), plain_col hl h0 hn w hw]
  simp only [ob, strings_ok, Bool.not_true, bne_self_eq_false, Bool.false_eq_true, if_false, List.length_map, hR, a0, m0, j0, sjoin_tx fr (show (List.replicate n false).length ≤ 1000000 by simp; omega)]
  rw [forC_nx fun i hi => ?_]
  · rfl
  · have hi := rng_mem.mp hi
    rw [irng_ok (by omega) (by omega) (by omega) (by omega), ob, forC_nx fun j hj => ?_]
    · rfl
    · have hj := rng_mem.mp hj
      obtain ⟨a, rfl⟩ : ∃ a : Nat, i = a := ⟨i.toNat, by omega⟩
      obtain ⟨b, rfl⟩ : ∃ b : Nat, j = b := ⟨j.toNat, by omega⟩
      have la : a < R.length := by omega
      have lb : b < R.length := by omega
      have g1 : R.getD a [] = R[a] := by simp [la]
      have g2 : R.getD b [] = R[b] := by simp [lb]
      have g3 : (plain R).getD a [] = xw (tn R[a]) (hd R) := by unfold plain; simp [la]
      have g4 : (plain R).getD b [] = xw (tn R[b]) (hd R) := by unfold plain; simp [lb]
      have ma := List.getElem_mem la
      have mb := List.getElem_mem lb
      have l1 := hl _ ma
      have l2 := hl _ mb
      have l3 := pl (xw (tn R[a]) (hd R)) (List.mem_map.mpr ⟨_, ma, rfl⟩)
      have l4 := pl (xw (tn R[b]) (hd R)) (List.mem_map.mpr ⟨_, mb, rfl⟩)
      have d1 := dist_le R[b] R[a]
      have d2 := dist_le (xw (tn R[b]) (hd R)) (xw (tn R[a]) (hd R))
      rw [rowk lb, rowk la, ob, ob, rowk (by rw [plen]; omega), rowk (by rw [plen]; omega), ob, g1, g2, g3, g4, agree_ok (by omega) (by omega), ob]
      simp only [ob]
      rw [agree_ok (by omega) (by omega), ob]
      have := dist_plain hl h0 mb ma
      have e : ((((xw (tn R[b]) (hd R)).length - dist (xw (tn R[b]) (hd R)) (xw (tn R[a]) (hd R)) : Nat) : Int) != ((R[b].length - dist R[b] R[a] : Nat) : Int) &&
          ((((xw (tn R[b]) (hd R)).length - dist (xw (tn R[b]) (hd R)) (xw (tn R[a]) (hd R)) : Nat) : Int) != (n : Int) - ((R[b].length - dist R[b] R[a] : Nat) : Int))) = false := by
        rw [Bool.and_eq_false_iff, bne_eq_false_iff_eq, bne_eq_false_iff_eq]
        omega
      rw [e]
      rfl
end
open PySem PySem.Spec PyProof.Rows L2 DL Hw
/-! ### blocks -/
def blk (n : Nat) (w : List Bool) : List Int := ((rng 1 (n : Int)).filter fun a => !bt w a.toNat).map fun a => a - 1
theorem blk_lin {n : Nat} {w : List Bool} {a : Nat} (h : a + 1 < n) : lin (a : Int) (blk n w) = !bt w (a + 1) := by
  unfold lin blk
  rw [Bool.eq_iff_iff, List.any_eq_true]
  constructor
  · rintro ⟨x, hx, e⟩
    obtain ⟨y, hy, rfl⟩ := List.mem_map.mp hx
    obtain ⟨h1, h2⟩ := List.mem_filter.mp hy
    have h1 := rng_mem.mp h1
    have : y.toNat = a + 1 := by have := beq_iff_eq.mp e; omega
    rwa [this] at h2
  · intro h2
    exact ⟨(a : Int), List.mem_map.mpr ⟨(a : Int) + 1, List.mem_filter.mpr ⟨rng_mem.mpr ⟨by omega, by omega⟩, by rw [show ((a : Int) + 1).toNat = a + 1 by omega]; exact h2⟩, by omega⟩, beq_self_eq_true _⟩
theorem bt_map (w : List Bool) : (List.range w.length).map (bt w) = w := by
  refine List.ext_getElem (by simp) fun i h1 h2 => ?_
  rw [List.getElem_map, List.getElem_range, bt_get h2]
theorem blk_len {n : Nat} {w : List Bool} (hw : w.length = n) (hn : 1 ≤ n) (h0 : bt w 0 = false) : (blk n w).length + w.countP id + 1 = n := by
  unfold blk
  rw [List.length_map, ← List.countP_eq_length_filter]
  have e1 : rng 1 (n : Int) = (List.range (n - 1)).map fun k : Nat => ((k + 1 : Nat) : Int) := by
    unfold rng
    rw [show ((n : Int) - 1).toNat = n - 1 by omega]
    exact List.map_congr_left fun k _ => by omega
  rw [e1, List.countP_map]
  have e2 : ((fun a : Int => !bt w a.toNat) ∘ fun k : Nat => ((k + 1 : Nat) : Int)) = fun k => !bt w (k + 1) := by
    funext k
    show (!bt w (((k + 1 : Nat) : Int).toNat)) = _
    rw [Int.toNat_natCast]
  rw [e2]
  have e3 : w.countP id = (List.range n).countP (bt w) := by
    rw [← hw]
    conv => lhs; rw [← bt_map w]
    rw [List.countP_map]
    rfl
  have e4 : (List.range n).countP (bt w) = (List.range (n - 1)).countP fun k => bt w (k + 1) := by
    rw [show n = (n - 1) + 1 by omega, List.range_succ_eq_map, List.countP_cons, List.countP_map, h0]
    simp
    rfl
  rw [e3, e4]
  have := one_count (fun k => bt w (k + 1)) (List.range (n - 1))
  rw [List.length_range] at this
  omega
section
variable {n : Nat} {R : List (List Bool)} (hl : ∀ w ∈ R, w.length = n) (hR : R.length = n) (hn : 1 ≤ n) (h2 : n ≤ 400)
include hl hR hn h2
def dueB (n : Nat) (R : List (List Bool)) : List (List Int) := ((plain R).drop 1).map (blk n)
theorem plain_len1 : (plain R).length = n := by unfold plain; rw [List.length_map, hR]
theorem ne0 : R ≠ [] := by
  intro e
  rw [e] at hR
  simp at hR
  omega
theorem cut_plain : lcut ((plain R).map (tx fr)) (some 1 : Option Int) (none : Option Int) = ((plain R).drop 1).map (tx fr) := by
  rw [lcut_lo _ (by decide) (by rw [List.length_map, plain_len1 hl hR hn h2]; omega), ← List.map_drop]
  rfl
theorem row_blk {c : Str → Bool} (hc : ∀ b, c (ch (fr b)) = !b) {w : List Bool} (lw : w.length = n) : lcM (fun x5 => (sat (tx fr w) x5 >>= fun x6 => some (c x6))) (fun x5 => some (x5 - 1)) (rng 1 (n : Int)) = some (blk n w) := by
  unfold blk
  refine lcM_fm (fun a ha => ?_) fun _ _ _ => rfl
  have ha := rng_mem.mp ha
  have := sat_nat fr (w := w) (by omega) (i := a.toNat) (by omega)
  rw [show ((a.toNat : Nat) : Int) = a by omega] at this
  rw [this, ob, hc]
  rfl
theorem blocks_ok : f_blocks_of_signs (R.map (tx fr)) = some (dueB n R) := by
  have pl := plain_lens hl (ne0 hl hR hn h2)
  unfold f_blocks_of_signs
  simp only [ol, op, ob]
  rw [psigns_ok hl (ne0 hl hR hn h2) hn (by omega), ob, cut_plain hl hR hn h2, ob, forS_mp, forS_app (B := 1000) (g := fun w => blk n w) (fun w hw s hs => ?_) (by rw [List.length_drop, plain_len1 hl hR hn h2]; omega)]
  · rfl
  · have lw := pl w (List.mem_of_mem_drop hw)
    rw [slen_tx fr (by omega), ob, lw, irng_ok (by omega) (by omega) (by omega) (by omega), ob, row_blk hl hR hn h2 plus_c lw, ob, lapp_small (by omega), ob]
theorem numbers_ok (x : List Int) : f__law_numbers (x, x) = some true := by
  unfold f__law_numbers
  have e0 : isD "list" (eL eI x) = true := rfl
  simp only [e0, bne_self_eq_false, Bool.not_true, Bool.or_self, op, ob, ol]
  rw [iff', forC_nx fun i hi => ?_]
  · rfl
  · have hi := rng_mem.mp hi
    have : atI x i = some (x.getD i.toNat 0) := by
      have := Hw.atI_nat x (i := i.toNat) (by omega)
      rw [show ((i.toNat : Nat) : Int) = i by omega] at this
      rw [this]
      simp [show i.toNat < x.length by omega]
    have w : ∀ z : Int, f__law_whole (eI z) = some true := fun _ => rfl
    rw [this]
    simp only [ob, w, Bool.not_true, bne_self_eq_false, Bool.false_eq_true, if_false]
theorem lists_ok (A : List (List Int)) : f__law_lists (A, A) = some true := by
  unfold f__law_lists
  have e0 : isD "list" (eL (eL eI) A) = true := rfl
  simp only [e0, bne_self_eq_false, Bool.not_true, Bool.or_self, op, ob, ol]
  rw [iff', forC_nx fun i hi => ?_]
  · rfl
  · have hi := rng_mem.mp hi
    have : atI A i = some (A.getD i.toNat []) := by
      have := Hw.atI_nat A (i := i.toNat) (by omega)
      rw [show ((i.toNat : Nat) : Int) = i by omega] at this
      rw [this]
      simp [show i.toNat < A.length by omega]
    rw [this]
    simp only [ob, numbers_ok hl hR hn h2, Bool.not_true, Bool.false_eq_true, if_false]
variable (hs : Sq n R) (hc : Cq n R) (h1 : 2 ≤ n)
include hs hc h1
/-- the blocks' counts -/
theorem counts {a b : Nat} (ha : a + 1 < n) (hb : b + 1 < n) (hab : a ≠ b) : ((dueB n R).filter fun x => lin (a : Int) x && lin (b : Int) x).length = n / 4 - 1 ∧ ((dueB n R).filter fun x => lin (a : Int) x).length = n / 2 - 1 ∧ 4 ≤ n := by
  have h0 := ne0 hl hR hn h2
  have pc := plain_cq hl h0 hR hc
  have p0 := plain_col hl h0 hn
  obtain ⟨e1, e2⟩ := both_plus (plain_len1 hl hR hn h2) pc p0 ha hb (by omega) (by omega) (by omega)
  obtain ⟨w0, R0, rfl⟩ := List.exists_cons_of_ne_nil h0
  rw [plain_head (hl w0 (by simp))] at e1 e2
  have z : ∀ i, bt (List.replicate n false) i = false := fun i => by
    unfold bt
    rw [List.getD_eq_getElem?_getD, List.getElem?_replicate]
    split <;> rfl
  rw [List.countP_cons, z, z] at e1
  rw [List.countP_cons, z] at e2
  simp only [Bool.not_false, Bool.and_self, if_true] at e1 e2
  unfold dueB
  rw [plain_head (hl w0 (by simp)), List.filter_map, List.filter_map, List.length_map, List.length_map, ← List.countP_eq_length_filter, ← List.countP_eq_length_filter]
  rw [show ((fun x => lin (a : Int) x && lin (b : Int) x) ∘ blk n) = fun w => !bt w (a + 1) && !bt w (b + 1) from by funext w; show (lin (a : Int) (blk n w) && lin (b : Int) (blk n w)) = _; rw [blk_lin ha, blk_lin hb],
    show ((fun x => lin (a : Int) x) ∘ blk n) = fun w => !bt w (a + 1) from by funext w; exact blk_lin ha]
  rw [show (List.replicate n false :: R0.map fun v => xw (tn v) (tn w0)).drop 1 = R0.map fun v => xw (tn v) (tn w0) from rfl]
  omega
theorem blk_lens : ∀ x ∈ dueB n R, x.length = n / 2 - 1 ∧ 2 * (n / 2) = n := fun x hx => by
  have h0 := ne0 hl hR hn h2
  have p0 := plain_col hl h0 hn
  have ps := plain_sq h0 hs
  have pl := plain_lens hl h0
  obtain ⟨w0, R0, rfl⟩ := List.exists_cons_of_ne_nil h0
  unfold dueB at hx
  obtain ⟨w, hw, rfl⟩ := List.mem_map.mp hx
  have hm := List.mem_of_mem_drop hw
  have lw := pl w hm
  have b := blk_len lw hn (p0 w hm)
  have d := ps.2.2
  rw [plain_head (hl w0 (by simp))] at d hw
  have := (List.pairwise_cons.mp d).1 w hw
  rw [dist_comm, ← lw, dist_zero] at this
  omega
theorem verdict_ok (h4 : 4 ≤ n) : f_verdict ((n : Int) - 1, dueB n R) = some (eP3 eS eI eI ("even", ((n : Int) / 2) - 1, ((n : Int) / 4) - 1)) := by
  have ct : ∀ a b : Nat, a + 1 < n → b + 1 < n → a ≠ b → f_count_together (dueB n R, (a : Int), (b : Int)) = some ((n : Int) / 4 - 1) := fun a b ha hb hab => by
    unfold f_count_together
    obtain ⟨e, _, e4⟩ := counts hl hR hn h2 hs hc h1 ha hb hab
    rw [op, List.map_id', e]
    congr 1
    omega
  unfold f_verdict
  simp only [ol, op, ob]
  have c01 := ct 0 1 (by omega) (by omega) (by decide)
  rw [show ((0 : Nat) : Int) = 0 from rfl, show ((1 : Nat) : Int) = 1 from rfl] at c01
  rw [c01, ob, irng_ok (by omega) (by omega) (by omega) (by omega), ob, forC_nx fun i hi => ?_]
  · rw [ob]
    show some _ = some _
    congr 1
    obtain ⟨_, e, _⟩ := counts hl hR hn h2 hs hc h1 (a := 0) (b := 1) (by omega) (by omega) (by decide)
    rw [show ((0 : Nat) : Int) = 0 from rfl] at e
    rw [List.map_id', e]
    have : ((n / 2 - 1 : Nat) : Int) = (n : Int) / 2 - 1 := by omega
    rw [this]
  · have hi := rng_mem.mp hi
    rw [irng_ok (by omega) (by omega) (by omega) (by omega), ob, forC_nx fun j hj => ?_]
    · rfl
    · have hj := rng_mem.mp hj
      have := ct i.toNat j.toNat (by omega) (by omega) (by omega)
      rw [show ((i.toNat : Nat) : Int) = i by omega, show ((j.toNat : Nat) : Int) = j by omega] at this
      rw [this, ob, bne_self_eq_false]
      rfl
theorem deq_v (a b : Int) : deq (eD (eP3 eS eI eI ("even", a, b))) (eP3 eS eI eI ("even", a, b)) = some true := by
  have d : (eD (eP3 eS eI eI ("even", a, b))).depth ≤ 62 := by
    show (PyData.tuple [.str "even", .int a, .int b]).depth ≤ 62
    simp [PyData.depth, PyData.depthAll]
  unfold deq
  rw [if_pos ⟨rfl, rfl, d⟩]
  · congr 1
    show PyData.eqv (.tuple [.str "even", .int a, .int b]) (.tuple [.str "even", .int a, .int b]) = true
    simp [PyData.eqv, PyData.eqvAll]
theorem bright_ok (h8 : 8 ≤ n) : f__law_blocks_right (R.map (tx fr)) = some true := by
  have h0 := ne0 hl hR hn h2
  have pl := plain_lens hl h0
  have bl := blk_lens hl hR hn h2 hs hc h1
  unfold f__law_blocks_right
  simp only [ol, op, ob, List.length_map, hR]
  rw [lplain_ok hl h0 hn (by omega) (by omega), ob, cut_plain hl hR hn h2, lcM_mp, lcM_m (f := blk n) (fun _ _ => rfl) fun w hw => ?_, ob, blocks_ok hl hR hn h2, ob]
  · show ((f__law_lists (dueB n R, dueB n R) >>= fun t => some (!t)) >>= fun t => if t = true then some true else some (R.map (tx fr) != R.map (tx fr))) >>= _ = _
    rw [lists_ok hl hR hn h2]
    simp only [ob, Bool.not_true, bne_self_eq_false, Bool.false_eq_true, if_false]
    rw [forC_nx fun x hx => ?_]
    · simp only [ob, Ct.go]
      rw [irng_ok (by omega) (by omega) (by omega) (by omega), ob, forC_nx fun i hi => ?_]
      · simp only [ob, Ct.go]
        show ((if decide ((n : Int) < 18) = true then f_verdict ((n : Int) - 1, dueB n R) >>= fun x30 => (deq (eD x30) (eP3 eS eI eI ("even", (n : Int) / 2 - 1, (n : Int) / 4 - 1))).map (!·) else some false) >>= fun t32 => if t32 = true then some false else
          (atI (dueB n R) 0 >>= fun r34 => lappI (dueB n R) 0 (n : Int)) >>= fun v36_told => f__law_lists (dueB n R, dueB n R)) = some true
        have e1 : (if decide ((n : Int) < 18) = true then f_verdict ((n : Int) - 1, dueB n R) >>= fun x30 => (deq (eD x30) (eP3 eS eI eI ("even", (n : Int) / 2 - 1, (n : Int) / 4 - 1))).map (!·) else some false) = some false := by
          rw [verdict_ok hl hR hn h2 hs hc h1 (by omega), ob, deq_v hl hR hn h2 hs hc h1]
          split <;> rfl
        have dl : (dueB n R).length = n - 1 := by unfold dueB; rw [List.length_map, List.length_drop, plain_len1 hl hR hn h2]
        obtain ⟨x0, X0, eX⟩ := List.exists_cons_of_ne_nil (show dueB n R ≠ [] from fun e => by rw [e] at dl; simp at dl; omega)
        have e2 : atI (dueB n R) 0 = some x0 := by
          rw [eX]
          show atI (x0 :: X0) ((0 : Nat) : Int) = _
          rw [Hw.atI_nat _ (by simp)]
          rfl
        have e3 : ∃ z, lappI (dueB n R) 0 (n : Int) = some z := by
          have lx : x0.length ≤ 1000000 := by
            have := (bl x0 (by rw [eX]; simp)).1
            omega
          rw [eX]
          unfold lappI ixN
          rw [if_pos (by omega), if_pos (by rw [List.length_cons]; omega)]
          refine ⟨(x0 ++ [(n : Int)]) :: X0, ?_⟩
          have e5 : (lapp x0 (n : Int)).map (fun r => (x0 :: X0).set 0 r) = some ((x0 ++ [(n : Int)]) :: X0) := by
            rw [lapp_small lx]
            rfl
          exact e5
        obtain ⟨z, e3⟩ := e3
        rw [e1, e2]
        simp only [ob, Bool.false_eq_true, if_false, e3]
        rw [lists_ok hl hR hn h2]
      · have hi := rng_mem.mp hi
        rw [irng_ok (by omega) (by omega) (by omega) (by omega), ob, forC_nx fun j hj => ?_]
        · rfl
        · have hj := rng_mem.mp hj
          obtain ⟨e, _, _⟩ := counts hl hR hn h2 hs hc h1 (a := i.toNat) (b := j.toNat) (by omega) (by omega) (by omega)
          rw [show ((i.toNat : Nat) : Int) = i by omega, show ((j.toNat : Nat) : Int) = j by omega] at e
          have e : ((((plain R).drop 1).map (blk n)).filter fun x => lin i x && lin j x).length = n / 4 - 1 := e
          rw [e]
          have : ((((n / 4 - 1 : Nat) : Int)) != (n : Int) / 4 - 1) = false := by
            rw [bne_eq_false_iff_eq]
            omega
          rw [this]
          rfl
    · obtain ⟨e, e'⟩ := bl x hx
      have : (((x.length : Nat) : Int) != (n : Int) / 2 - 1) = false := by
        rw [bne_eq_false_iff_eq]
        omega
      rw [this]
      rfl
  · have lw := pl w (List.mem_of_mem_drop hw)
    rw [irng_ok (by omega) (by omega) (by omega) (by omega), ob, row_blk hl hR hn h2 plus_ch lw]
end
open PySem PySem.Spec PyProof.Rows L2 DL Hw
def dec (L : List Str) : List (List Bool) := L.map fun s => s.cps.toList.map (· == 45)
def sqB (n : Nat) (R : List (List Bool)) : Bool := R.length == n && R.all (fun w => w.length == n) && decide (R.Pairwise fun a b => 2 * dist a b = n)
theorem sqB_ok {n : Nat} {R : List (List Bool)} (h : sqB n R = true) : Sq n R := by
  unfold sqB at h
  rw [Bool.and_eq_true, Bool.and_eq_true] at h
  obtain ⟨⟨h1, h2⟩, h3⟩ := h
  exact ⟨by simpa using h1, fun w hw => by simpa using List.all_eq_true.mp h2 w hw, of_decide_eq_true h3⟩
theorem lcM_post {α β : Type} {e : α → W β} {P : β → Prop} : ∀ {xs : List α}, (∀ x ∈ xs, (e x).wp P) → (lcM (fun _ => (pure true : W Bool)) e xs).wp fun ys => ys.length = xs.length ∧ ∀ y ∈ ys, P y
  | [], _ => ⟨rfl, fun _ h => nomatch h⟩
  | x :: xs, h => by
    show ((e x) >>= fun y => lcM (fun _ => (pure true : W Bool)) e xs >>= fun ys => pure (y :: ys)).wp _
    simp only [wpb, wpp]
    refine wp_mono (h x (by simp)) fun y hy => wp_mono (lcM_post fun z hz => h z (by simp [hz])) fun ys hys => ⟨by simp [hys.1], fun z hz => ?_⟩
    rcases List.mem_cons.mp hz with rfl | hz
    · exact hy
    · exact hys.2 z hz
theorem str_ch {s : Str} (h : s = "+" ∨ s = "-") : ∃ b, s = ch (fr b) := by
  rcases h with rfl | rfl
  · exact ⟨false, by decide +kernel⟩
  · exact ⟨true, by decide +kernel⟩
theorem all_ch : ∀ {ys : List Str}, (∀ y ∈ ys, ∃ b, y = ch (fr b)) → ∃ w : List Bool, ys = w.map fun b => ch (fr b)
  | [], _ => ⟨[], rfl⟩
  | y :: ys, h => by
    obtain ⟨b, e⟩ := h y List.mem_cons_self
    obtain ⟨w, ew⟩ := all_ch fun z hz => h z (List.mem_cons_of_mem _ hz)
    exact ⟨b :: w, by rw [e, ew]; rfl⟩
def cqB (n : Nat) (R : List (List Bool)) : Bool := (List.range n).all fun i => (List.range n).all fun j => i == j || 2 * cd R i j == n
theorem cqB_ok {n : Nat} {R : List (List Bool)} (h : cqB n R = true) : Cq n R := fun i j hi hj hij => by
  have := List.all_eq_true.mp (List.all_eq_true.mp h i (List.mem_range.mpr hi)) j (List.mem_range.mpr hj)
  rw [Bool.or_eq_true, beq_iff_eq, beq_iff_eq] at this
  exact this.resolve_left hij
def base (o : Option (List Str)) (n : Nat) : Bool := match o with
  | some L => (dec L).map (tx fr) == L && (sqB n (dec L) && cqB n (dec L))
  | none => false
theorem base_ok {o : Option (List Str)} {n : Nat} (h : base o n = true) : ∃ R, o = some (R.map (tx fr)) ∧ Sq n R ∧ Cq n R := by
  unfold base at h
  cases o with
  | none => cases h
  | some L =>
    have h : ((dec L).map (tx fr) == L && (sqB n (dec L) && cqB n (dec L))) = true := h
    rw [Bool.and_eq_true, Bool.and_eq_true] at h
    refine ⟨dec L, ?_, sqB_ok h.2.1, cqB_ok h.2.2⟩
    rw [beq_iff_eq.mp h.1]
theorem b0 : base (f__law_doubled 0) 1 = true := by decide +kernel
theorem b1 : base (f__law_doubled 1) 2 = true := by decide +kernel
theorem b2 : base (f__law_doubled 2) 4 = true := by decide +kernel
theorem b3 : base (f__law_doubled 3) 8 = true := by decide +kernel
theorem b4 : base (f__law_doubled 4) 16 = true := by decide +kernel
theorem b11 : base (f__law_of_prime 11) 12 = true := by decide +kernel
theorem b19 : base (f__law_of_prime 19) 20 = true := by decide +kernel
def prmO (o : Option (List Str)) (n : Nat) : Bool := base o n && (match o with
  | some L => plain (dec L) == dec L
  | none => false)
def prm (p n : Nat) : Bool := prmO (f__law_of_prime (p : Int)) n
theorem prmO_ok {o : Option (List Str)} {n : Nat} (h : prmO o n = true) : ∃ R, o = some (R.map (tx fr)) ∧ Sq n R ∧ Cq n R ∧ plain R = R := by
  unfold prmO at h
  rw [Bool.and_eq_true] at h
  obtain ⟨h1, h3⟩ := h
  unfold base at h1
  cases o with
  | none => cases h1
  | some L =>
    have h1 : ((dec L).map (tx fr) == L && (sqB n (dec L) && cqB n (dec L))) = true := h1
    rw [Bool.and_eq_true, Bool.and_eq_true] at h1
    have q : some L = some ((dec L).map (tx fr)) := by rw [beq_iff_eq.mp h1.1]
    exact ⟨dec L, q, sqB_ok h1.2.1, cqB_ok h1.2.2, beq_iff_eq.mp h3⟩
theorem prm_ok {p n : Nat} (h : prm p n = true) (k : f_signs_of_prime (p : Int) = f__law_of_prime (p : Int)) : ∃ R, f_signs_of_prime (p : Int) = some (R.map (tx fr)) ∧ f__law_of_prime (p : Int) = some (R.map (tx fr)) ∧ Sq n R ∧ Cq n R ∧ plain R = R := by
  obtain ⟨R, e, q⟩ := prmO_ok h
  exact ⟨R, k.trans e, e, q⟩
theorem p3 : prm 3 4 = true := by decide +kernel
theorem p7 : prm 7 8 = true := by decide +kernel
theorem p11 : prm 11 12 = true := by decide +kernel
theorem p19 : prm 19 20 = true := by decide +kernel
def ascI : List Int → Bool
  | x :: y :: r => decide (x < y) && ascI (y :: r)
  | _ => true
theorem ascI_pw : ∀ {xs : List Int}, ascI xs = true → xs.Pairwise (· < ·)
  | [], _ => List.Pairwise.nil
  | [x], _ => List.pairwise_singleton _ _
  | x :: y :: r, h => by
    have h : (decide (x < y) && ascI (y :: r)) = true := h
    rw [Bool.and_eq_true, decide_eq_true_iff] at h
    have ih := ascI_pw h.2
    refine List.pairwise_cons.mpr ⟨fun z hz => ?_, ih⟩
    rcases List.mem_cons.mp hz with rfl | hz
    · exact h.1
    · have := (List.pairwise_cons.mp ih).1 z hz
      omega
def sameB (xs ys : List Int) : Bool := xs.all (fun x => ys.contains x) && ys.all fun x => xs.contains x
theorem ssort_is {xs ns : List Int} (h : ascI ns = true) (k : sameB ns xs = true) : ssort xs = ns := by
  unfold sameB at k
  rw [Bool.and_eq_true, List.all_eq_true, List.all_eq_true] at k
  exact (ssort_eq (ascI_pw h) fun z => ⟨fun hz => by simpa using k.1 z hz, fun hz => by simpa using k.2 z hz⟩).symm
def sqL (p : Int) : Option (List Int) := irng 1 p >>= fun xs => lshort xs >>= fun xs => lcM (fun _ => some true) (fun x => imul x x >>= fun y => imod y p) xs
def sqC (p : Int) (ns : List Int) : Bool := match sqL p with
  | some xs => ascI ns && sameB ns xs
  | none => false
theorem sq_ok {p : Int} {ns : List Int} (h : sqC p ns = true) : f_squares_mod p = some ns := by
  have e : f_squares_mod p = (sqL p).map ssort := by
    unfold f_squares_mod sqL
    simp only [ol, op]
    cases irng 1 p with
    | none => rfl
    | some xs =>
      simp only [ob]
      cases lshort xs with
      | none => rfl
      | some ys =>
        simp only [ob]
        cases lcM (fun _ => some true) (fun x => imul x x >>= fun y => imod y p) ys <;> rfl
  rw [e]
  unfold sqC at h
  cases q : sqL p with
  | none => rw [q] at h; cases h
  | some xs =>
    rw [q] at h
    have h : (ascI ns && sameB ns xs) = true := h
    rw [Bool.and_eq_true] at h
    show some (ssort xs) = _
    rw [ssort_is h.1 h.2]
theorem s3 : f_squares_mod 3 = some [1] := sq_ok (by decide +kernel)
theorem s7 : f_squares_mod 7 = some [1, 2, 4] := sq_ok (by decide +kernel)
theorem s11 : f_squares_mod 11 = some [1, 3, 4, 5, 9] := sq_ok (by decide +kernel)
theorem s19 : f_squares_mod 19 = some [1, 4, 5, 6, 7, 9, 11, 16, 17] := sq_ok (by decide +kernel)
theorem g3 : f_signs_of_prime 3 = f__law_of_prime 3 := by
  unfold f_signs_of_prime
  rw [s3]
  decide +kernel
theorem g7 : f_signs_of_prime 7 = f__law_of_prime 7 := by
  unfold f_signs_of_prime
  rw [s7]
  decide +kernel
theorem g11 : f_signs_of_prime 11 = f__law_of_prime 11 := by
  unfold f_signs_of_prime
  rw [s11]
  decide +kernel
theorem g19 : f_signs_of_prime 19 = f__law_of_prime 19 := by
  unfold f_signs_of_prime
  rw [s19]
  decide +kernel
theorem e1 : f_doubled_signs (["+"] : List Str) = some (["++", "+-"] : List Str) := by decide +kernel
theorem e2 : f_signs_of_prime 3 = some (["++++", "+-+-", "+--+", "++--"] : List Str) := by
  rw [g3]
  decide +kernel
theorem base_all {a : Int} (h0 : 0 ≤ a) (h1 : a < 4) : ∃ n R, f__law_doubled a = some (R.map (tx fr)) ∧ Sq n R ∧ Cq n R ∧ 1 ≤ n ∧ n ≤ 20 := by
  have : a = 0 ∨ a = 1 ∨ a = 2 ∨ a = 3 := by omega
  rcases this with rfl | rfl | rfl | rfl
  · obtain ⟨R, e, s, q⟩ := base_ok b0; exact ⟨_, R, e, s, q, by decide, by decide⟩
  · obtain ⟨R, e, s, q⟩ := base_ok b1; exact ⟨_, R, e, s, q, by decide, by decide⟩
  · obtain ⟨R, e, s, q⟩ := base_ok b2; exact ⟨_, R, e, s, q, by decide, by decide⟩
  · obtain ⟨R, e, s, q⟩ := base_ok b3; exact ⟨_, R, e, s, q, by decide, by decide⟩
theorem ev_sq {n : Nat} {R : List (List Bool)} (h : Sq n R) : evB n R = true := decide_eq_true h.2.2
theorem pm_at {y : Int} (h0 : 0 ≤ y) (h1 : y < 2) : ∃ b, sat "+-" y = some (ch (fr b)) := by
  have : y = 0 ∨ y = 1 := by omega
  rcases this with rfl | rfl
  · exact ⟨false, by decide +kernel⟩
  · exact ⟨true, by decide +kernel⟩
theorem lcM_ex {xs : List Int} : (lcM (fun (_ : Int) => (pure true : W Bool)) (fun (_ : Int) => ((drawW (2)) >>= fun y32 => (Run.lift (sat "+-" y32) : W Str))) xs).wp fun ys => ∃ w : List Bool, ys = (w.map fun b => ch (fr b)) ∧ w.length = xs.length := by
  refine wp_mono (lcM_post (P := fun y => ∃ b, y = ch (fr b)) fun x _ => ?_) fun ys ⟨h1, h2⟩ => ?_
  · refine wd (by decide) (by decide) fun y y0 y1 => ?_
    obtain ⟨b, e⟩ := pm_at y0 y1
    exact wp_lift e ⟨b, rfl⟩
  · obtain ⟨w, e⟩ := all_ch h2
    refine ⟨w, e, ?_⟩
    rw [e, List.length_map] at h1
    exact h1
theorem all_tx {n : Nat} : ∀ {ys : List Str}, (∀ y ∈ ys, ∃ w : List Bool, y = tx fr w ∧ w.length = n) → ∃ R : List (List Bool), ys = R.map (tx fr) ∧ ∀ w ∈ R, w.length = n
  | [], _ => ⟨[], rfl, fun _ h => nomatch h⟩
  | y :: ys, h => by
    obtain ⟨w, e, l⟩ := h y List.mem_cons_self
    obtain ⟨R, eR, lR⟩ := all_tx fun z hz => h z (List.mem_cons_of_mem _ hz)
    exact ⟨w :: R, by rw [e, eR]; rfl, fun v hv => by
      rcases List.mem_cons.mp hv with rfl | hv
      · exact l
      · exact lR v hv⟩
theorem law_ok : f_law.wp fun r => r = true := by
  unfold f_law
  simp only [wpb, wpp]
  refine wp_draw (by decide) (by decide) fun a a0 a1 => ?_
  obtain ⟨n0, R0, e0, q0, c0, n01, n02⟩ := base_all (a := a % 4) (by omega) (by omega)
  refine wp_lift e0 ?_
  refine wp_mono (Q := fun s => ∃ n R, s = R.map (tx fr) ∧ Sq n R ∧ Cq n R ∧ 1 ≤ n ∧ n ≤ 20) ?_ fun s4 ⟨n4, R4, h4, q4, c4, n41, n42⟩ => ?_
  · cases a == 6 with
    | false => exact wf ⟨n0, R0, rfl, q0, c0, n01, n02⟩
    | true =>
      obtain ⟨R1, e1, s1, c1⟩ := base_ok b11
      exact wt (wp_lift e1 ⟨_, R1, rfl, s1, c1, by decide, by decide⟩)
  subst h4
  refine wp_mono (Q := fun s => ∃ n R, s = R.map (tx fr) ∧ Sq n R ∧ Cq n R ∧ 1 ≤ n ∧ n ≤ 20) ?_ fun s7 ⟨n, R, h7, qR, cR', n1, n2⟩ => ?_
  · cases a == 7 with
    | false => exact wf ⟨n4, R4, rfl, q4, c4, n41, n42⟩
    | true =>
      refine wt ?_
      simp only [wpb, wpp]
      obtain ⟨R1, e1, s1, c1⟩ := base_ok b3
      obtain ⟨R2, e2, s2, c2⟩ := base_ok b4
      obtain ⟨R3, e3, s3, c3⟩ := base_ok b19
      refine wp_lift e1 (wp_lift e2 (wp_lift e3 (wp_draw (by decide) (by decide) fun y y0 y1 => ?_)))
      have : y = 0 ∨ y = 1 ∨ y = 2 := by omega
      rcases this with rfl | rfl | rfl
      · exact wp_lift rfl ⟨_, R1, rfl, s1, c1, by decide, by decide⟩
      · exact wp_lift rfl ⟨_, R2, rfl, s2, c2, by decide, by decide⟩
      · exact wp_lift rfl ⟨_, R3, rfl, s3, c3, by decide, by decide⟩
  subst h7
  refine wp_mono (mixed_ok qR n1 n2) fun rows ⟨S, M, k, f, er, hp, hl, hof, hk, hf, qS⟩ => ?_
  have cS := cq_mixed qR cR' hp hl hk hf hof
  subst er
  generalize (S.map fun w => turn w f) = T at qS cS
  refine wp_lift (even_ok qS.2.1 qS.1 (by omega)) ?_
  rw [ev_sq qS, Bool.not_true]
  refine wf ?_
  simp only [wpb, wpp]
  refine wp_lift (pright_ok qS.2.1 qS.1 (by omega) n1) ?_
  rw [Bool.not_true]
  refine wf ?_
  simp only [wpb, wpp]
  rw [List.length_map, qS.1]
  refine wp_mono (Q := fun z => z = false) ?_ fun z hz => ?_
  · cases decide ((n : Int) ≤ 8) with
    | false => exact wf rfl
    | true => exact wt (wp_lift (dright_ok qS.2.1 qS.1 (by omega)) rfl)
  subst hz
  refine wf ?_
  simp only [wpb, wpp]
  refine wp_mono (Q := fun z => z = false) ?_ fun z hz => ?_
  · cases e8 : decide (8 ≤ (n : Int)) with
    | false => exact wf rfl
    | true =>
      have := of_decide_eq_true e8
      exact wt (wp_lift (bright_ok qS.2.1 qS.1 n1 (by omega) qS cS (by omega) (by omega)) rfl)
  subst hz
  refine wf ?_
  simp only [wpb, wpp]
  refine wp_draw (by decide) (by decide) fun y y0 y1 => ?_
  obtain ⟨m, em, m1, m2⟩ : ∃ m : Nat, atI ([1, 2, 4, 8] : List Int) y = some (m : Int) ∧ 1 ≤ m ∧ m ≤ 8 := by
    have : y = 0 ∨ y = 1 ∨ y = 2 ∨ y = 3 := by omega
    rcases this with rfl | rfl | rfl | rfl
    · exact ⟨1, by decide, by decide, by decide⟩
    · exact ⟨2, by decide, by decide, by decide⟩
    · exact ⟨4, by decide, by decide, by decide⟩
    · exact ⟨8, by decide, by decide, by decide⟩
  refine wp_lift em (wp_lift (irng0 (by omega)) ?_)
  have lm : (rng 0 (m : Int)).length = m := by rw [rng_length]; omega
  refine wp_mono (lcM_post (P := fun y => ∃ w : List Bool, y = tx fr w ∧ w.length = m) fun x _ => ?_) fun ys ⟨l1, l2⟩ => ?_
  · simp only [wpb, wpp]
    refine wp_lift (irng0 (by omega)) ?_
    refine wp_mono lcM_ex fun zs ⟨w, ez, lw⟩ => ?_
    subst ez
    rw [lm] at lw
    exact wp_lift (sjoin_tx fr (by omega)) ⟨w, rfl, lw⟩
  obtain ⟨Dr, eD', lD⟩ := all_tx l2
  subst eD'
  rw [List.length_map, lm] at l1
  have step : ∀ {α : Type} {x y : W α} {Q : α → Prop}, y.wp Q → (if (!true : Bool) = true then x else y).wp Q := fun h => h
  refine wp_lift (dright_ok lD l1 (by omega)) (step ?_)
  simp only [wpb, wpp]
  refine wp_lift (pright_ok lD l1 (by omega) m1) (step ?_)
  simp only [wpb, wpp]
  refine wp_draw (by decide) (by decide) fun z z0 z1 => ?_
  obtain ⟨p, N, ep, hp, hg, hN1, hN2, hN3⟩ : ∃ p N : Nat, atI ([3, 7, 11, 19] : List Int) z = some (p : Int) ∧ prm p N = true ∧ f_signs_of_prime (p : Int) = f__law_of_prime (p : Int) ∧ 2 ≤ N ∧ N ≤ 20 ∧ (lin (p : Int) ([7, 11] : List Int) = true → 8 ≤ N) := by
    have : z = 0 ∨ z = 1 ∨ z = 2 ∨ z = 3 := by omega
    rcases this with rfl | rfl | rfl | rfl
    · exact ⟨3, 4, by decide, p3, g3, by decide, by decide, by decide⟩
    · exact ⟨7, 8, by decide, p7, g7, by decide, by decide, by decide⟩
    · exact ⟨11, 12, by decide, p11, g11, by decide, by decide, by decide⟩
    · exact ⟨19, 20, by decide, p19, g19, by decide, by decide, by decide⟩
  obtain ⟨Rp, f1, f2, sp', cp, pp⟩ := prm_ok hp hg
  refine wp_lift ep (wp_lift f1 (wp_lift f2 (wp_lift (strings_ok _) (step ?_))))
  simp only [wpb, wpp]
  refine wp_lift (even_ok sp'.2.1 sp'.1 (by omega)) ?_
  rw [ev_sq sp']
  refine step ?_
  simp only [wpb, wpp]
  obtain ⟨d, g1, g2⟩ := are_ok sp'.2.1 sp'.1 (by omega)
  refine wp_lift g1 (wp_lift (a := false) ?_ (wf ?_))
  · rw [g2, ev_sq sp']
    rfl
  simp only [wpb, wpp]
  refine wp_lift (pright_ok sp'.2.1 sp'.1 (by omega) (by omega)) (step ?_)
  simp only [wpb, wpp]
  refine wp_lift (psigns_ok sp'.2.1 (ne0 sp'.2.1 sp'.1 (by omega) (by omega)) (by omega) (by omega)) ?_
  rw [pp, bne_self_eq_false]
  refine wf ?_
  simp only [wpb, wpp]
  refine wp_mono (Q := fun z => z = false) ?_ fun z hz => ?_
  · cases e7 : lin (p : Int) ([7, 11] : List Int) with
    | false => exact wf rfl
    | true => exact wt (wp_lift (bright_ok sp'.2.1 sp'.1 (by omega) (by omega) sp' cp (by omega) (hN3 e7)) rfl)
  subst hz
  refine wf ?_
  simp only [wpb, wpp]
  refine wp_lift e1 ?_
  refine wt ?_
  simp only [wpb, wpp]
  exact wp_lift e2 rfl
theorem all_mk {l : PySem.W.OpenLaw} {w : World} {K : PySem.W.Frag} {h : Heap} {mg : Str → Option Value} {fa f1 f2 f3 f4 f5 f6 f7 f8 f9 f10 f11 f12 f13 f14 f15 f16 f17 f18 f19 f20 f21 f22 f23 f24 f25 f26 f27 : Addr} (X : K.In h) (G : h.Ns mainGlobals mg) (hfa : mg "law" = some (.ref fa))
    {od1 an1 od2 an2 od3 an3 od4 an4 od5 an5 od6 an6 od7 an7 od8 an8 od9 an9 od10 an10 od11 an11 od12 an12 od13 an13 od14 an14 od15 an15 od16 an16 od17 an17 od18 an18 od19 an19 od20 an20 od21 an21 od22 an22 od23 an23 od24 an24 od25 an25 od26 an26 od27 an27 : Option Addr} {sl1 sl2 sl3 sl4 sl5 sl6 sl7 sl8 sl9 sl10 sl11 sl12 sl13 sl14 sl15 sl16 sl17 sl18 sl19 sl20 sl21 sl22 sl23 sl24 sl25 sl26 sl27 : Array (Option Value)} {oc1 kV1 dc1 pm1 cd1 ct1 oc2 kV2 dc2 pm2 cd2 ct2 oc3 kV3 dc3 pm3 cd3 ct3 oc4 kV4 dc4 pm4 cd4 ct4 oc5 kV5 dc5 pm5 cd5 ct5 oc6 kV6 dc6 pm6 cd6 ct6 oc7 kV7 dc7 pm7 cd7 ct7 oc8 kV8 dc8 pm8 cd8 ct8 oc9 kV9 dc9 pm9 cd9 ct9 oc10 kV10 dc10 pm10 cd10 ct10 oc11 kV11 dc11 pm11 cd11 ct11 oc12 kV12 dc12 pm12 cd12 ct12 oc13 kV13 dc13 pm13 cd13 ct13 oc14 kV14 dc14 pm14 cd14 ct14 oc15 kV15 dc15 pm15 cd15 ct15 oc16 kV16 dc16 pm16 cd16 ct16 oc17 kV17 dc17 pm17 cd17 ct17 oc18 kV18 dc18 pm18 cd18 ct18 oc19 kV19 dc19 pm19 cd19 ct19 oc20 kV20 dc20 pm20 cd20 ct20 oc21 kV21 dc21 pm21 cd21 ct21 oc22 kV22 dc22 pm22 cd22 ct22 oc23 kV23 dc23 pm23 cd23 ct23 oc24 kV24 dc24 pm24 cd24 ct24 oc25 kV25 dc25 pm25 cd25 ct25 oc26 kV26 dc26 pm26 cd26 ct26 oc27 kV27 dc27 pm27 cd27 ct27 : Value}
    (a1 : PySem.W.nsIn K mainGlobals "squares_mod" = some (some (.ref f1))) (l1 : K.lookup f1 = some ⟨oc1, od1, .func (PySem.W.fnOf "squares_mod" "squares_mod" (defArgs st_squares_mod) (defBody st_squares_mod) (defScope st_squares_mod) .none kV1 dc1 pm1 an1 cd1 ct1), sl1⟩) (c1 : PySem.W.codeIn K cd1 "squares_mod" = true) (k1 : PySem.W.keepIn K (.ref f1) = true)
    (a2 : PySem.W.nsIn K mainGlobals "agreeing" = some (some (.ref f2))) (l2 : K.lookup f2 = some ⟨oc2, od2, .func (PySem.W.fnOf "agreeing" "agreeing" (defArgs st_agreeing) (defBody st_agreeing) (defScope st_agreeing) .none kV2 dc2 pm2 an2 cd2 ct2), sl2⟩) (c2 : PySem.W.codeIn K cd2 "agreeing" = true) (k2 : PySem.W.keepIn K (.ref f2) = true)
    (a3 : PySem.W.nsIn K mainGlobals "are_even" = some (some (.ref f3))) (l3 : K.lookup f3 = some ⟨oc3, od3, .func (PySem.W.fnOf "are_even" "are_even" (defArgs st_are_even) (defBody st_are_even) (defScope st_are_even) .none kV3 dc3 pm3 an3 cd3 ct3), sl3⟩) (c3 : PySem.W.codeIn K cd3 "are_even" = true) (k3 : PySem.W.keepIn K (.ref f3) = true)
    (a4 : PySem.W.nsIn K mainGlobals "contrary" = some (some (.ref f4))) (l4 : K.lookup f4 = some ⟨oc4, od4, .func (PySem.W.fnOf "contrary" "contrary" (defArgs st_contrary) (defBody st_contrary) (defScope st_contrary) .none kV4 dc4 pm4 an4 cd4 ct4), sl4⟩) (c4 : PySem.W.codeIn K cd4 "contrary" = true) (k4 : PySem.W.keepIn K (.ref f4) = true)
    (a5 : PySem.W.nsIn K mainGlobals "doubled_signs" = some (some (.ref f5))) (l5 : K.lookup f5 = some ⟨oc5, od5, .func (PySem.W.fnOf "doubled_signs" "doubled_signs" (defArgs st_doubled_signs) (defBody st_doubled_signs) (defScope st_doubled_signs) .none kV5 dc5 pm5 an5 cd5 ct5), sl5⟩) (c5 : PySem.W.codeIn K cd5 "doubled_signs" = true) (k5 : PySem.W.keepIn K (.ref f5) = true)
    (a6 : PySem.W.nsIn K mainGlobals "signs_of_prime" = some (some (.ref f6))) (l6 : K.lookup f6 = some ⟨oc6, od6, .func (PySem.W.fnOf "signs_of_prime" "signs_of_prime" (defArgs st_signs_of_prime) (defBody st_signs_of_prime) (defScope st_signs_of_prime) .none kV6 dc6 pm6 an6 cd6 ct6), sl6⟩) (c6 : PySem.W.codeIn K cd6 "signs_of_prime" = true) (k6 : PySem.W.keepIn K (.ref f6) = true)
    (a7 : PySem.W.nsIn K mainGlobals "plain_signs" = some (some (.ref f7))) (l7 : K.lookup f7 = some ⟨oc7, od7, .func (PySem.W.fnOf "plain_signs" "plain_signs" (defArgs st_plain_signs) (defBody st_plain_signs) (defScope st_plain_signs) .none kV7 dc7 pm7 an7 cd7 ct7), sl7⟩) (c7 : PySem.W.codeIn K cd7 "plain_signs" = true) (k7 : PySem.W.keepIn K (.ref f7) = true)
    (a8 : PySem.W.nsIn K mainGlobals "blocks_of_signs" = some (some (.ref f8))) (l8 : K.lookup f8 = some ⟨oc8, od8, .func (PySem.W.fnOf "blocks_of_signs" "blocks_of_signs" (defArgs st_blocks_of_signs) (defBody st_blocks_of_signs) (defScope st_blocks_of_signs) .none kV8 dc8 pm8 an8 cd8 ct8), sl8⟩) (c8 : PySem.W.codeIn K cd8 "blocks_of_signs" = true) (k8 : PySem.W.keepIn K (.ref f8) = true)
    (a9 : PySem.W.nsIn K mainGlobals "count_together" = some (some (.ref f9))) (l9 : K.lookup f9 = some ⟨oc9, od9, .func (PySem.W.fnOf "count_together" "count_together" (defArgs st_count_together) (defBody st_count_together) (defScope st_count_together) .none kV9 dc9 pm9 an9 cd9 ct9), sl9⟩) (c9 : PySem.W.codeIn K cd9 "count_together" = true) (k9 : PySem.W.keepIn K (.ref f9) = true)
    (a10 : PySem.W.nsIn K mainGlobals "verdict" = some (some (.ref f10))) (l10 : K.lookup f10 = some ⟨oc10, od10, .func (PySem.W.fnOf "verdict" "verdict" (defArgs st_verdict) (defBody st_verdict) (defScope st_verdict) .none kV10 dc10 pm10 an10 cd10 ct10), sl10⟩) (c10 : PySem.W.codeIn K cd10 "verdict" = true) (k10 : PySem.W.keepIn K (.ref f10) = true)
    (a11 : PySem.W.nsIn K mainGlobals "_law_feed" = some (some (.ref f11))) (l11 : K.lookup f11 = some ⟨oc11, od11, .func (PySem.W.fnOf "_law_feed" "_law_feed" (defArgs st__law_feed) (defBody st__law_feed) (defScope st__law_feed) .none kV11 dc11 pm11 an11 cd11 ct11), sl11⟩) (c11 : PySem.W.codeIn K cd11 "_law_feed" = true) (k11 : PySem.W.keepIn K (.ref f11) = true)
    (a12 : PySem.W.nsIn K mainGlobals "_law_draw" = some (some (.ref f12))) (l12 : K.lookup f12 = some ⟨oc12, od12, .func (PySem.W.fnOf "_law_draw" "_law_draw" (defArgs st__law_draw) (defBody st__law_draw) (defScope st__law_draw) .none kV12 dc12 pm12 an12 cd12 ct12), sl12⟩) (c12 : PySem.W.codeIn K cd12 "_law_draw" = true) (k12 : PySem.W.keepIn K (.ref f12) = true)
    (a13 : PySem.W.nsIn K mainGlobals "_law_whole" = some (some (.ref f13))) (l13 : K.lookup f13 = some ⟨oc13, od13, .func (PySem.W.fnOf "_law_whole" "_law_whole" (defArgs st__law_whole) (defBody st__law_whole) (defScope st__law_whole) .none kV13 dc13 pm13 an13 cd13 ct13), sl13⟩) (c13 : PySem.W.codeIn K cd13 "_law_whole" = true) (k13 : PySem.W.keepIn K (.ref f13) = true)
    (a14 : PySem.W.nsIn K mainGlobals "_law_numbers" = some (some (.ref f14))) (l14 : K.lookup f14 = some ⟨oc14, od14, .func (PySem.W.fnOf "_law_numbers" "_law_numbers" (defArgs st__law_numbers) (defBody st__law_numbers) (defScope st__law_numbers) .none kV14 dc14 pm14 an14 cd14 ct14), sl14⟩) (c14 : PySem.W.codeIn K cd14 "_law_numbers" = true) (k14 : PySem.W.keepIn K (.ref f14) = true)
    (a15 : PySem.W.nsIn K mainGlobals "_law_lists" = some (some (.ref f15))) (l15 : K.lookup f15 = some ⟨oc15, od15, .func (PySem.W.fnOf "_law_lists" "_law_lists" (defArgs st__law_lists) (defBody st__law_lists) (defScope st__law_lists) .none kV15 dc15 pm15 an15 cd15 ct15), sl15⟩) (c15 : PySem.W.codeIn K cd15 "_law_lists" = true) (k15 : PySem.W.keepIn K (.ref f15) = true)
    (a16 : PySem.W.nsIn K mainGlobals "_law_turn" = some (some (.ref f16))) (l16 : K.lookup f16 = some ⟨oc16, od16, .func (PySem.W.fnOf "_law_turn" "_law_turn" (defArgs st__law_turn) (defBody st__law_turn) (defScope st__law_turn) .none kV16 dc16 pm16 an16 cd16 ct16), sl16⟩) (c16 : PySem.W.codeIn K cd16 "_law_turn" = true) (k16 : PySem.W.keepIn K (.ref f16) = true)
    (a17 : PySem.W.nsIn K mainGlobals "_law_doubled" = some (some (.ref f17))) (l17 : K.lookup f17 = some ⟨oc17, od17, .func (PySem.W.fnOf "_law_doubled" "_law_doubled" (defArgs st__law_doubled) (defBody st__law_doubled) (defScope st__law_doubled) .none kV17 dc17 pm17 an17 cd17 ct17), sl17⟩) (c17 : PySem.W.codeIn K cd17 "_law_doubled" = true) (k17 : PySem.W.keepIn K (.ref f17) = true)
    (a18 : PySem.W.nsIn K mainGlobals "_law_of_prime" = some (some (.ref f18))) (l18 : K.lookup f18 = some ⟨oc18, od18, .func (PySem.W.fnOf "_law_of_prime" "_law_of_prime" (defArgs st__law_of_prime) (defBody st__law_of_prime) (defScope st__law_of_prime) .none kV18 dc18 pm18 an18 cd18 ct18), sl18⟩) (c18 : PySem.W.codeIn K cd18 "_law_of_prime" = true) (k18 : PySem.W.keepIn K (.ref f18) = true)
    (a19 : PySem.W.nsIn K mainGlobals "_law_mixed" = some (some (.ref f19))) (l19 : K.lookup f19 = some ⟨oc19, od19, .func (PySem.W.fnOf "_law_mixed" "_law_mixed" (defArgs st__law_mixed) (defBody st__law_mixed) (defScope st__law_mixed) .none kV19 dc19 pm19 an19 cd19 ct19), sl19⟩) (c19 : PySem.W.codeIn K cd19 "_law_mixed" = true) (k19 : PySem.W.keepIn K (.ref f19) = true)
    (a20 : PySem.W.nsIn K mainGlobals "_law_agree" = some (some (.ref f20))) (l20 : K.lookup f20 = some ⟨oc20, od20, .func (PySem.W.fnOf "_law_agree" "_law_agree" (defArgs st__law_agree) (defBody st__law_agree) (defScope st__law_agree) .none kV20 dc20 pm20 an20 cd20 ct20), sl20⟩) (c20 : PySem.W.codeIn K cd20 "_law_agree" = true) (k20 : PySem.W.keepIn K (.ref f20) = true)
    (a21 : PySem.W.nsIn K mainGlobals "_law_is_even" = some (some (.ref f21))) (l21 : K.lookup f21 = some ⟨oc21, od21, .func (PySem.W.fnOf "_law_is_even" "_law_is_even" (defArgs st__law_is_even) (defBody st__law_is_even) (defScope st__law_is_even) .none kV21 dc21 pm21 an21 cd21 ct21), sl21⟩) (c21 : PySem.W.codeIn K cd21 "_law_is_even" = true) (k21 : PySem.W.keepIn K (.ref f21) = true)
    (a22 : PySem.W.nsIn K mainGlobals "_law_plain" = some (some (.ref f22))) (l22 : K.lookup f22 = some ⟨oc22, od22, .func (PySem.W.fnOf "_law_plain" "_law_plain" (defArgs st__law_plain) (defBody st__law_plain) (defScope st__law_plain) .none kV22 dc22 pm22 an22 cd22 ct22), sl22⟩) (c22 : PySem.W.codeIn K cd22 "_law_plain" = true) (k22 : PySem.W.keepIn K (.ref f22) = true)
    (a23 : PySem.W.nsIn K mainGlobals "_law_strings" = some (some (.ref f23))) (l23 : K.lookup f23 = some ⟨oc23, od23, .func (PySem.W.fnOf "_law_strings" "_law_strings" (defArgs st__law_strings) (defBody st__law_strings) (defScope st__law_strings) .none kV23 dc23 pm23 an23 cd23 ct23), sl23⟩) (c23 : PySem.W.codeIn K cd23 "_law_strings" = true) (k23 : PySem.W.keepIn K (.ref f23) = true)
    (a24 : PySem.W.nsIn K mainGlobals "_law_doubled_right" = some (some (.ref f24))) (l24 : K.lookup f24 = some ⟨oc24, od24, .func (PySem.W.fnOf "_law_doubled_right" "_law_doubled_right" (defArgs st__law_doubled_right) (defBody st__law_doubled_right) (defScope st__law_doubled_right) .none kV24 dc24 pm24 an24 cd24 ct24), sl24⟩) (c24 : PySem.W.codeIn K cd24 "_law_doubled_right" = true) (k24 : PySem.W.keepIn K (.ref f24) = true)
    (a25 : PySem.W.nsIn K mainGlobals "_law_plain_right" = some (some (.ref f25))) (l25 : K.lookup f25 = some ⟨oc25, od25, .func (PySem.W.fnOf "_law_plain_right" "_law_plain_right" (defArgs st__law_plain_right) (defBody st__law_plain_right) (defScope st__law_plain_right) .none kV25 dc25 pm25 an25 cd25 ct25), sl25⟩) (c25 : PySem.W.codeIn K cd25 "_law_plain_right" = true) (k25 : PySem.W.keepIn K (.ref f25) = true)
    (a26 : PySem.W.nsIn K mainGlobals "_law_blocks_right" = some (some (.ref f26))) (l26 : K.lookup f26 = some ⟨oc26, od26, .func (PySem.W.fnOf "_law_blocks_right" "_law_blocks_right" (defArgs st__law_blocks_right) (defBody st__law_blocks_right) (defScope st__law_blocks_right) .none kV26 dc26 pm26 an26 cd26 ct26), sl26⟩) (c26 : PySem.W.codeIn K cd26 "_law_blocks_right" = true) (k26 : PySem.W.keepIn K (.ref f26) = true)
    (a27 : PySem.W.nsIn K mainGlobals "law" = some (some (.ref f27))) (l27 : K.lookup f27 = some ⟨oc27, od27, .func (PySem.W.fnOf "law" "law" (defArgs st_law) (defBody st_law) (defScope st_law) .none kV27 dc27 pm27 an27 cd27 ct27), sl27⟩) (c27 : PySem.W.codeIn K cd27 "law" = true) (k27 : PySem.W.keepIn K (.ref f27) = true)
    (zabs : PySem.W.nsIn K mainGlobals "abs" = some none) (zbool : PySem.W.nsIn K mainGlobals "bool" = some none) (zenumerate : PySem.W.nsIn K mainGlobals "enumerate" = some none) (zint : PySem.W.nsIn K mainGlobals "int" = some none) (zisinstance : PySem.W.nsIn K mainGlobals "isinstance" = some none) (zlen : PySem.W.nsIn K mainGlobals "len" = some none) (zlist : PySem.W.nsIn K mainGlobals "list" = some none) (zrange : PySem.W.nsIn K mainGlobals "range" = some none) (zsorted : PySem.W.nsIn K mainGlobals "sorted" = some none) (zstr : PySem.W.nsIn K mainGlobals "str" = some none) (zzip : PySem.W.nsIn K mainGlobals "zip" = some none)
    {pCONTRARY : Addr} (gCONTRARY : PySem.W.nsIn K mainGlobals "CONTRARY" = some (some (.ref pCONTRARY))) (rkCONTRARY : keysS K (.ref pCONTRARY) = some ((c_CONTRARY.map fun p => (p.1, eS p.2)).map fun p => some (p.1, PyData.keyHash w.params p.1))) (rvCONTRARY : valsS K 8 (.ref pCONTRARY) ((c_CONTRARY.map fun p => (p.1, eS p.2)).map (·.2)) = true) (rdCONTRARY : ((c_CONTRARY.map fun p => (p.1, eS p.2)).map (·.1)).Nodup)
    {tkMINUS : Tok} (gMINUS : PySem.W.nsIn K mainGlobals "MINUS" = some (some (.str "-" tkMINUS)))
    {tkPLUS : Tok} (gPLUS : PySem.W.nsIn K mainGlobals "PLUS" = some (some (.str "+" tkPLUS)))
    : ∃ fd : FuncData, (∀ (s : Shared) (v : Value), BindsTo s fd ⟨[v], []⟩ [("script", v)]) ∧ ∀ base : Heap, K.In base → base.Ns mainGlobals mg → FnOk l.prog w K mg base CX0 5 fa fd ["script"] (spLaw K) := by
  have e := hfa.symm.trans (PySem.W.mg_of X G a27)
  cases e
  have V : Ev K mg w := ⟨PySem.W.mg_none_of X G zabs,
    PySem.W.mg_none_of X G zbool,
    PySem.W.mg_none_of X G zenumerate,
    PySem.W.mg_none_of X G zint,
    PySem.W.mg_none_of X G zisinstance,
    PySem.W.mg_none_of X G zlen,
    PySem.W.mg_none_of X G zlist,
    PySem.W.mg_none_of X G zrange,
    PySem.W.mg_none_of X G zsorted,
    PySem.W.mg_none_of X G zstr,
    PySem.W.mg_none_of X G zzip,
    ⟨_, 8, PySem.W.mg_of X G gCONTRARY, rkCONTRARY, rvCONTRARY, rdCONTRARY⟩,
    ⟨_, .str "-", PySem.W.mg_of X G gMINUS, ⟨_, rfl⟩, fun F => .str _⟩,
    ⟨_, .str "+", PySem.W.mg_of X G gPLUS, ⟨_, rfl⟩, fun F => .str _⟩,
    ⟨f1, _, fun_mk l1 c1 k1, PySem.W.mg_of X G a1⟩,
    ⟨f2, _, fun_mk l2 c2 k2, PySem.W.mg_of X G a2⟩,
    ⟨f3, _, fun_mk l3 c3 k3, PySem.W.mg_of X G a3⟩,
    ⟨f4, _, fun_mk l4 c4 k4, PySem.W.mg_of X G a4⟩,
    ⟨f5, _, fun_mk l5 c5 k5, PySem.W.mg_of X G a5⟩,
    ⟨f6, _, fun_mk l6 c6 k6, PySem.W.mg_of X G a6⟩,
    ⟨f7, _, fun_mk l7 c7 k7, PySem.W.mg_of X G a7⟩,
    ⟨f8, _, fun_mk l8 c8 k8, PySem.W.mg_of X G a8⟩,
    ⟨f9, _, fun_mk l9 c9 k9, PySem.W.mg_of X G a9⟩,
    ⟨f10, _, fun_mk l10 c10 k10, PySem.W.mg_of X G a10⟩,
    ⟨f11, _, fun_mk l11 c11 k11, PySem.W.mg_of X G a11⟩,
    ⟨f12, _, fun_mk l12 c12 k12, PySem.W.mg_of X G a12⟩,
    ⟨f13, _, fun_mk l13 c13 k13, PySem.W.mg_of X G a13⟩,
    ⟨f14, _, fun_mk l14 c14 k14, PySem.W.mg_of X G a14⟩,
    ⟨f15, _, fun_mk l15 c15 k15, PySem.W.mg_of X G a15⟩,
    ⟨f16, _, fun_mk l16 c16 k16, PySem.W.mg_of X G a16⟩,
    ⟨f17, _, fun_mk l17 c17 k17, PySem.W.mg_of X G a17⟩,
    ⟨f18, _, fun_mk l18 c18 k18, PySem.W.mg_of X G a18⟩,
    ⟨f19, _, fun_mk l19 c19 k19, PySem.W.mg_of X G a19⟩,
    ⟨f20, _, fun_mk l20 c20 k20, PySem.W.mg_of X G a20⟩,
    ⟨f21, _, fun_mk l21 c21 k21, PySem.W.mg_of X G a21⟩,
    ⟨f22, _, fun_mk l22 c22 k22, PySem.W.mg_of X G a22⟩,
    ⟨f23, _, fun_mk l23 c23 k23, PySem.W.mg_of X G a23⟩,
    ⟨f24, _, fun_mk l24 c24 k24, PySem.W.mg_of X G a24⟩,
    ⟨f25, _, fun_mk l25 c25 k25, PySem.W.mg_of X G a25⟩,
    ⟨f26, _, fun_mk l26 c26 k26, PySem.W.mg_of X G a26⟩⟩
  exact ⟨PySem.W.fnOf "law" "law" (defArgs st_law) (defBody st_law) (defScope st_law) .none kV27 dc27 pm27 an27 cd27 ct27, fun s v => .of_eq rfl, fun base _ _ => h_law V _ _ (fun_mk l27 c27 k27) law_ok⟩
end K89
open PySem PySem.W PyProof.Rows
set_option maxHeartbeats 0 in
theorem PySem.Challenge.cw_twentyfours_k89_whole_squares_of_signs_holds : PySem.Challenge.rw_twentyfours_k89_whole_squares_of_signs.Holds := by
  w_on; o_law; k_head; (case hw => w_witness2)
  k_fill
  refine L2.walk_of (l := PySem.Challenge.rw_twentyfours_k89_whole_squares_of_signs) (n := 63) (k := 5) (x := "script") (CX := fun _ => L2.CX0) (sp := fun w => DL.spLaw _) rfl (by decide) rfl ⟨rfl, by decide, by decide⟩ (fun w h Y => PySem.W.kIn_of Y) ?F (fun _ _ a ns hl _ hS => ⟨a, ns, rfl, hS, hl, fun _ => rfl⟩) (fun _ _ _ _ _ h => h)
  case F =>
    intro w mg fa h KX G hmg
    refine' K89.all_mk KX G hmg ?a1 ?l1 ?c1 ?k1 ?a2 ?l2 ?c2 ?k2 ?a3 ?l3 ?c3 ?k3 ?a4 ?l4 ?c4 ?k4 ?a5 ?l5 ?c5 ?k5 ?a6 ?l6 ?c6 ?k6 ?a7 ?l7 ?c7 ?k7 ?a8 ?l8 ?c8 ?k8 ?a9 ?l9 ?c9 ?k9 ?a10 ?l10 ?c10 ?k10 ?a11 ?l11 ?c11 ?k11 ?a12 ?l12 ?c12 ?k12 ?a13 ?l13 ?c13 ?k13 ?a14 ?l14 ?c14 ?k14 ?a15 ?l15 ?c15 ?k15 ?a16 ?l16 ?c16 ?k16 ?a17 ?l17 ?c17 ?k17 ?a18 ?l18 ?c18 ?k18 ?a19 ?l19 ?c19 ?k19 ?a20 ?l20 ?c20 ?k20 ?a21 ?l21 ?c21 ?k21 ?a22 ?l22 ?c22 ?k22 ?a23 ?l23 ?c23 ?k23 ?a24 ?l24 ?c24 ?k24 ?a25 ?l25 ?c25 ?k25 ?a26 ?l26 ?c26 ?k26 ?a27 ?l27 ?c27 ?k27 ?zabs ?zbool ?zenumerate ?zint ?zisinstance ?zlen ?zlist ?zrange ?zsorted ?zstr ?zzip ?gCONTRARY ?rkCONTRARY ?rvCONTRARY ?rdCONTRARY ?gMINUS ?gPLUS
    (case a1 => k_is); (case l1 => k_is); (case c1 => k_is); (case k1 => k_is); (case a2 => k_is); (case l2 => k_is); (case c2 => k_is); (case k2 => k_is); (case a3 => k_is); (case l3 => k_is); (case c3 => k_is); (case k3 => k_is); (case a4 => k_is); (case l4 => k_is); (case c4 => k_is); (case k4 => k_is); (case a5 => k_is); (case l5 => k_is); (case c5 => k_is); (case k5 => k_is); (case a6 => k_is); (case l6 => k_is); (case c6 => k_is); (case k6 => k_is); (case a7 => k_is); (case l7 => k_is); (case c7 => k_is); (case k7 => k_is); (case a8 => k_is); (case l8 => k_is); (case c8 => k_is); (case k8 => k_is); (case a9 => k_is); (case l9 => k_is); (case c9 => k_is); (case k9 => k_is); (case a10 => k_is); (case l10 => k_is); (case c10 => k_is); (case k10 => k_is); (case a11 => k_is); (case l11 => k_is); (case c11 => k_is); (case k11 => k_is); (case a12 => k_is); (case l12 => k_is); (case c12 => k_is); (case k12 => k_is); (case a13 => k_is); (case l13 => k_is); (case c13 => k_is); (case k13 => k_is); (case a14 => k_is); (case l14 => k_is); (case c14 => k_is); (case k14 => k_is); (case a15 => k_is); (case l15 => k_is); (case c15 => k_is); (case k15 => k_is); (case a16 => k_is); (case l16 => k_is); (case c16 => k_is); (case k16 => k_is); (case a17 => k_is); (case l17 => k_is); (case c17 => k_is); (case k17 => k_is); (case a18 => k_is); (case l18 => k_is); (case c18 => k_is); (case k18 => k_is); (case a19 => k_is); (case l19 => k_is); (case c19 => k_is); (case k19 => k_is); (case a20 => k_is); (case l20 => k_is); (case c20 => k_is); (case k20 => k_is); (case a21 => k_is); (case l21 => k_is); (case c21 => k_is); (case k21 => k_is); (case a22 => k_is); (case l22 => k_is); (case c22 => k_is); (case k22 => k_is); (case a23 => k_is); (case l23 => k_is); (case c23 => k_is); (case k23 => k_is); (case a24 => k_is); (case l24 => k_is); (case c24 => k_is); (case k24 => k_is); (case a25 => k_is); (case l25 => k_is); (case c25 => k_is); (case k25 => k_is); (case a26 => k_is); (case l26 => k_is); (case c26 => k_is); (case k26 => k_is); (case a27 => k_is); (case l27 => k_is); (case c27 => k_is); (case k27 => k_is); (case zabs => k_is); (case zbool => k_is); (case zenumerate => k_is); (case zint => k_is); (case zisinstance => k_is); (case zlen => k_is); (case zlist => k_is); (case zrange => k_is); (case zsorted => k_is); (case zstr => k_is); (case zzip => k_is); (case gCONTRARY => k_is); (case gMINUS => k_is); (case gPLUS => k_is)
    (case rkCONTRARY => exact rfl); (case rvCONTRARY => exact rfl)
    (case rdCONTRARY => decide)
