import PyProof.Rows.All
import Wide.All
import OpenK.AllK
import Wide.FinOn
import HandS.ForMost
import HandS.ForExc
import HandS.Defaults
import HandS.Flow
import HandS.IsInst
import HandS.Wide
import HandS.CallSlots
import HandS.Style
import HandS.SortInts
import HandS.Head0
import HandS.Head1
import HandS.Head2
import HandS.HeadEnd
import HandS.Dict
import HandS.Iter
import HandS.Small
import HandS.Deep
import HandS.Conv
import HandS.TryOnly
import KE.KExcInit
import HandS.ExcField
import HandS.ExcIs
import HandS.TryMany
import KE.KStateDown
import HandS.HeadHook1
import HandS.HeadHook2
import HandS.Star
import KE.KRevSl
import PySem.Challenge.RW_formworld_k66_whole_squares_counted_and
set_option Elab.async false
set_option linter.all false
set_option maxRecDepth 100001
set_option maxHeartbeats 8000001
namespace Fw
open L2 PyProof.Rows PySem PySem.Spec
abbrev Sv := L2.St
/-! ## A1. data -/
inductive D where
  | non | bl (b : Bool) | int (i : Int) | str (x : Str) | ty (n : String)
  | tup (xs : List D) | lst (xs : List D) | obj (c : Nat) (fs : List D) | scr (ns : List Int)
  | dct (ks : List Key) (vs : List D) | exn (c : Nat) (fs : List D)
/-- what the top has left: the written part, classes by number (their addresses, their fields) -/
structure GC where
  K : PySem.W.Frag
  ca : Nat → Addr
  cf : Nat → List Str
  /-- the error that is being handled: its address, its dict's -/
  ex : Option (Addr × Nat × Option Addr) := none
def isMut : HO → Bool
  | .lst _ => true
  | .dK _ => true
  | .dT _ => true
  | .set _ _ => true
  | _ => false
/-- a list that is read and is not avoided, or one of the written part -/
def LsR (g : GC) (A : Addr → Prop) (H : Hp) (a : Addr) (xs : List V) : Prop := (Rd H a (.lst xs) ∧ ¬ A a) ∨
  ∃ (o : Obj) (its : Array Value) (n : Nat), g.K.lookup a = some o ∧ o.cls = .type "list" ∧ o.dict = none ∧ o.data = .seq its n ∧ its.size ≤ sizeLine ∧ Vals xs its.toList
theorem LsR.sq {g : GC} {A : Addr → Prop} {H : Hp} {a : Addr} {xs : List V} (h : LsR g A H a xs) : SqL g.K H a xs := h.elim (fun z => .inl z.1) .inr
mutual
/-- the value v, in the heap H, is the datum d; no list in it is one of those avoided (A) -/
def R (g : GC) (A : Addr → Prop) (H : Hp) : D → V → Prop
  | .non, v => v = .non
  | .bl b, v => v = .bl b
  | .int i, v => v = .int i
  | .str x, v => v = .str x
  | .ty n, v => v = .ty n
  | .tup ds, v => ∃ a xs, v = .ref a ∧ SqT g.K H a xs ∧ RL g A H ds xs
  | .lst ds, v => ∃ a xs, v = .ref a ∧ H a = some (.lst xs) ∧ ¬ A a ∧ RL g A H ds xs
  | .obj c ds, v => ∃ a dx xs, v = .ref a ∧ H a = some (.ins (g.ca c) dx ((g.cf c).zip xs)) ∧ (g.cf c).length = xs.length ∧ RL g A H ds xs
  | .scr ns, v => ∃ a, v = .ref a ∧ LsR g A H a (ns.map V.int)
  | .dct ks ds, v => ∃ a o xs, v = .ref a ∧ H a = some (.frz o (.dK (ks.zip xs))) ∧ ks.length = xs.length ∧ RL g A H ds xs
  | .exn c ds, v => ∃ a od, v = .ref a ∧ g.ex = some (a, c, od) ∧ ((od = none ∧ ds = [] ∧ g.cf c = []) ∨ ∃ dd xs, od = some dd ∧ H dd = some (.xd ((g.cf c).zip xs)) ∧ (g.cf c).length = xs.length ∧ RL g A H ds xs)
def RL (g : GC) (A : Addr → Prop) (H : Hp) : List D → List V → Prop
  | [], xs => xs = []
  | d :: ds, xs => ∃ y ys, xs = y :: ys ∧ R g A H d y ∧ RL g A H ds ys
end
/-- the heap changes at avoided addresses alone; A' holds nothing old beyond A -/
structure Mono (A : Addr → Prop) (H : Hp) (A' : Addr → Prop) (H' : Hp) : Prop where
  al : ∀ a, A a → ∃ o, H a = some o ∧ isMut o = true
  st : ∀ a o, H a = some o → ¬ A a → H' a = some o
  av : ∀ a o, A' a → H a = some o → A a
theorem Mono.rd {A A' : Addr → Prop} {H H' : Hp} (m : Mono A H A' H') {a : Addr} {o : HO} (n : isMut o = false) (h : Rd H a o) : Rd H' a o := by
  rcases h with h | ⟨ob, h⟩
  · refine .inl (m.st a _ h fun z => ?_)
    obtain ⟨u, e, q⟩ := m.al a z
    rw [h] at e; cases e; rw [n] at q; cases q
  · refine .inr ⟨ob, m.st a _ h fun z => ?_⟩
    obtain ⟨u, e, q⟩ := m.al a z
    rw [h] at e; cases e; cases q
theorem Mono.ins {A A' : Addr → Prop} {H H' : Hp} (m : Mono A H A' H') {a : Addr} {o : HO} (n : isMut o = false) (h : H a = some o) : H' a = some o := by
  refine m.st a _ h fun z => ?_
  obtain ⟨u, e, q⟩ := m.al a z
  rw [h] at e; cases e; rw [n] at q; cases q
theorem Mono.sqt {g : GC} {A A' : Addr → Prop} {H H' : Hp} (m : Mono A H A' H') {a : Addr} {xs : List V} (h : SqT g.K H a xs) : SqT g.K H' a xs := h.elim (fun z => .inl (m.rd rfl z)) .inr
theorem Mono.lsr {g : GC} {A A' : Addr → Prop} {H H' : Hp} (m : Mono A H A' H') {a : Addr} {xs : List V} (h : LsR g A H a xs) : LsR g A' H' a xs := by
  rcases h with ⟨h, n⟩ | h
  · rcases h with h | ⟨ob, h⟩
    · exact .inl ⟨.inl (m.st a _ h n), fun z => n (m.av a _ z h)⟩
    · exact .inl ⟨.inr ⟨ob, m.st a _ h n⟩, fun z => n (m.av a _ z h)⟩
  · exact .inr h
mutual
theorem R.mono {g : GC} {A A' : Addr → Prop} {H H' : Hp} (m : Mono A H A' H') : ∀ (d : D) {v : V}, R g A H d v → R g A' H' d v
  | .non, _, e => e
  | .bl _, _, e => e
  | .int _, _, e => e
  | .str _, _, e => e
  | .ty _, _, e => e
  | .tup ds, _, ⟨a, xs, e, h1, r⟩ => ⟨a, xs, e, m.sqt h1, RL.mono m ds r⟩
  | .lst ds, _, ⟨a, xs, e, h1, n, r⟩ => ⟨a, xs, e, m.st a _ h1 n, fun z => n (m.av a _ z h1), RL.mono m ds r⟩
  | .obj c ds, _, ⟨a, dx, xs, e, h1, hl, r⟩ => ⟨a, dx, xs, e, m.ins rfl h1, hl, RL.mono m ds r⟩
  | .scr _, _, ⟨a, e, h1⟩ => ⟨a, e, m.lsr h1⟩
  | .dct ks ds, _, ⟨a, o, xs, e, h1, hl, r⟩ => ⟨a, o, xs, e, m.ins rfl h1, hl, RL.mono m ds r⟩
  | .exn c ds, _, ⟨a, od, e, h0, h⟩ => ⟨a, od, e, h0, h.imp id fun ⟨dd, xs, h1, h2, h3, r⟩ => ⟨dd, xs, h1, m.ins rfl h2, h3, RL.mono m ds r⟩⟩
theorem RL.mono {g : GC} {A A' : Addr → Prop} {H H' : Hp} (m : Mono A H A' H') : ∀ (ds : List D) {xs : List V}, RL g A H ds xs → RL g A' H' ds xs
  | [], _, e => e
  | d :: ds, _, ⟨y, ys, e, r, t⟩ => ⟨y, ys, e, R.mono m d r, RL.mono m ds t⟩
end
theorem RL.length {g : GC} {A : Addr → Prop} {H : Hp} : ∀ {ds : List D} {xs : List V}, RL g A H ds xs → xs.length = ds.length
  | [], _, e => by rw [show _ = [] from e]; rfl
  | d :: ds, _, ⟨y, ys, e, r, t⟩ => by rw [e, List.length_cons, List.length_cons, RL.length t]
theorem RL.get {g : GC} {A : Addr → Prop} {H : Hp} : ∀ {ds : List D} {xs : List V} {i : Nat} {d : D}, RL g A H ds xs → ds[i]? = some d → ∃ v, xs[i]? = some v ∧ R g A H d v
  | [], _, _, _, _, h => by simp at h
  | d :: ds, _, 0, _, ⟨y, ys, e, r, t⟩, h => by simp at h; subst h; exact ⟨y, by rw [e]; rfl, r⟩
  | d :: ds, _, i + 1, _, ⟨y, ys, e, r, t⟩, h => by
    obtain ⟨v, h1, h2⟩ := RL.get (i := i) t (by simpa using h)
    exact ⟨v, by rw [e]; simpa using h1, h2⟩
theorem RL.getV {g : GC} {A : Addr → Prop} {H : Hp} : ∀ {ds : List D} {xs : List V} {i : Nat} {v : V}, RL g A H ds xs → xs[i]? = some v → ∃ d, ds[i]? = some d ∧ R g A H d v
  | [], _, _, _, e, h => by rw [show _ = [] from e] at h; simp at h
  | d :: ds, _, 0, _, ⟨y, ys, e, r, t⟩, h => by rw [e] at h; simp at h; subst h; exact ⟨d, rfl, r⟩
  | d :: ds, _, i + 1, _, ⟨y, ys, e, r, t⟩, h => by
    rw [e] at h
    obtain ⟨v, h1, h2⟩ := RL.getV (i := i) t (by simpa using h)
    exact ⟨v, by simpa using h1, h2⟩
theorem RL.append {g : GC} {A : Addr → Prop} {H : Hp} : ∀ {ds es : List D} {xs ys : List V}, RL g A H ds xs → RL g A H es ys → RL g A H (ds ++ es) (xs ++ ys)
  | [], _, _, _, e, s => by rw [show _ = [] from e]; exact s
  | d :: ds, _, _, _, ⟨y, ys, e, r, t⟩, s => by rw [e]; exact ⟨y, _, rfl, r, RL.append t s⟩
theorem RL.set {g : GC} {A : Addr → Prop} {H : Hp} {d : D} {v : V} (r' : R g A H d v) : ∀ {ds : List D} {xs : List V} (i : Nat), RL g A H ds xs → RL g A H (ds.set i d) (xs.set i v)
  | [], _, _, e => by rw [show _ = [] from e]; exact rfl
  | _ :: ds, _, 0, ⟨y, ys, e, r, t⟩ => by rw [e]; exact ⟨v, ys, rfl, r', t⟩
  | _ :: ds, _, i + 1, ⟨y, ys, e, r, t⟩ => by rw [e]; exact ⟨y, _, rfl, r, RL.set r' i t⟩
theorem RL.drop {g : GC} {A : Addr → Prop} {H : Hp} : ∀ {ds : List D} {xs : List V} (n : Nat), RL g A H ds xs → RL g A H (ds.drop n) (xs.drop n)
  | _, _, 0, r => r
  | [], _, n + 1, e => by rw [show _ = [] from e]; exact rfl
  | d :: ds, _, n + 1, ⟨y, ys, e, r, t⟩ => by rw [e]; exact RL.drop n t
theorem RL.take {g : GC} {A : Addr → Prop} {H : Hp} : ∀ {ds : List D} {xs : List V} (n : Nat), RL g A H ds xs → RL g A H (ds.take n) (xs.take n)
  | _, _, 0, r => by simp [RL]
  | [], _, n + 1, e => by rw [show _ = [] from e]; simp [RL]
  | d :: ds, _, n + 1, ⟨y, ys, e, r, t⟩ => by rw [e]; exact ⟨y, _, rfl, r, RL.take n t⟩
theorem RL.ints {g : GC} {A : Addr → Prop} {H : Hp} : ∀ (ns : List Int), RL g A H (ns.map D.int) (ns.map V.int)
  | [] => rfl
  | n :: ns => ⟨_, _, rfl, rfl, RL.ints ns⟩
theorem RL.ints_of {g : GC} {A : Addr → Prop} {H : Hp} : ∀ (ns : List Int) {xs : List V}, RL g A H (ns.map D.int) xs → xs = ns.map V.int
  | [], _, e => e
  | n :: ns, _, ⟨y, ys, e, r, t⟩ => by rw [e, show y = .int n from r, RL.ints_of ns t]; rfl
/-! ## A2. frames -/
/-- a slot: empty; a value; a list that this frame alone holds; one that its caller has passed, and may change -/
inductive Sl where
  | emp | val (d : D) | box (d : D) | pbox (d : D)
abbrev Ev := List Sl
structure Fx where
  T : Hp
  OB : Addr → Prop
  pa : Nat → Option Addr
  H0 : Hp
/-- at p stands the object of d, by itself -/
def Bx (g : GC) (A : Addr → Prop) (H : Hp) : D → Addr → Prop
  | .lst ds, p => ∃ xs, H p = some (.lst xs) ∧ RL g A H ds xs
  | .dct ks ds, p => ∃ xs, H p = some (.dK (ks.zip xs)) ∧ ks.length = xs.length ∧ RL g A H ds xs
  | _, _ => False
def SlRel (g : GC) (f : Fx) (A : Addr → Prop) (H : Hp) (i : Nat) (o : Option V) : Sl → Prop
  | .emp => f.pa i = none
  | .val d => f.pa i = none ∧ ∃ v, o = some v ∧ R g A H d v
  | .box d => f.pa i = none ∧ ∃ p, o = some (.ref p) ∧ A p ∧ f.H0 p = none ∧ Bx g A H d p
  | .pbox d => ∃ p, f.pa i = some p ∧ o = some (.ref p) ∧ A p ∧ Bx g A H d p
def Sl.isBox : Sl → Bool
  | .box _ => true
  | .pbox _ => true
  | _ => false
structure FR (g : GC) (f : Fx) (A : Addr → Prop) (H : Hp) (σ : Sv) (e : Ev) : Prop where
  len : σ.length = e.length
  sl : ∀ (i : Nat) (s : Sl) (o : Option V), e[i]? = some s → σ[i]? = some o → SlRel g f A H i o s
  inj : ∀ (i j : Nat) (s t : Sl) (p : Addr), e[i]? = some s → e[j]? = some t → s.isBox = true → t.isBox = true → σ[i]? = some (some (.ref p)) → σ[j]? = some (some (.ref p)) → i = j
  nt : ∀ (i : Nat) (s : Sl) (p : Addr), e[i]? = some s → s.isBox = true → σ[i]? = some (some (.ref p)) → f.T p = none
  tp : ∀ a o, f.T a = some o → A a ∧ H a = some o
  ob : ∀ a, f.OB a → A a
  ob0 : ∀ a, f.OB a → ∃ o, f.H0 a = some o
  pb : ∀ (i : Nat) (p : Addr), f.pa i = some p → f.OB p ∧ i < e.length
  al : ∀ a, A a → ∃ o, H a = some o ∧ isMut o = true
  keep : ∀ a o, f.H0 a = some o → (∀ i, f.pa i ≠ some a) → H a = some o
/-- what is old and not avoided stays -/
structure Step (A : Addr → Prop) (H H' : Hp) : Prop where
  st : ∀ a o, H a = some o → ¬ A a → H' a = some o
  un : ∀ a o, H a = some o → ∃ o', H' a = some o'
theorem Step.refl {A : Addr → Prop} {H : Hp} : Step A H H := ⟨fun _ _ h _ => h, fun _ o h => ⟨o, h⟩⟩
theorem Step.trans {A : Addr → Prop} {H H1 H2 : Hp} (a : Step A H H1) (b : Step A H1 H2) : Step A H H2 :=
  ⟨fun c o h n => b.st c o (a.st c o h n) n, fun c o h => let ⟨o', h'⟩ := a.un c o h; b.un c o' h'⟩
theorem Step.of {A : Addr → Prop} {H H' : Hp} (s : Same H H') : Step A H H' := ⟨fun a o h _ => s a o h, fun a o h => ⟨o, s a o h⟩⟩
theorem FR.mono {g : GC} {f : Fx} {A : Addr → Prop} {H H' : Hp} {σ : Sv} {e : Ev} (F : FR g f A H σ e) (s : Step A H H') : Mono A H A H' := ⟨F.al, s.st, fun _ _ h _ => h⟩
theorem FR.r {g : GC} {f : Fx} {A : Addr → Prop} {H H' : Hp} {σ : Sv} {e : Ev} {d : D} {v : V} (F : FR g f A H σ e) (s : Step A H H') (r : R g A H d v) : R g A H' d v := R.mono (F.mono s) d r
theorem FR.rl {g : GC} {f : Fx} {A : Addr → Prop} {H H' : Hp} {σ : Sv} {e : Ev} {d : List D} {v : List V} (F : FR g f A H σ e) (s : Step A H H') (r : RL g A H d v) : RL g A H' d v := RL.mono (F.mono s) d r
theorem Same.new {H : Hp} {p : Addr} {o : HO} (h : H p = none) : Same H (upd H p o) := fun b u e => by rw [upd_ne (ne_of_none e h)]; exact e
theorem Bx.mono {g : GC} {A A' : Addr → Prop} {H H' : Hp} (m : Mono A H A' H') {p : Addr} : ∀ {d : D}, (∀ o, H p = some o → H' p = some o) → Bx g A H d p → Bx g A' H' d p
  | .lst ds, k, ⟨xs, h, r⟩ => ⟨xs, k _ h, RL.mono m ds r⟩
  | .dct ks ds, k, ⟨xs, h, hl, r⟩ => ⟨xs, k _ h, hl, RL.mono m ds r⟩
/-- all that was tracked is kept; avoided ones may come new -/
theorem FR.ext {g : GC} {f : Fx} {A A' : Addr → Prop} {H H' : Hp} {σ : Sv} {e : Ev} (F : FR g f A H σ e) (s : Same H H') (h1 : ∀ a, A a → A' a) (h2 : ∀ a o, A' a → H a = some o → A a) (h3 : ∀ a, A' a → ¬ A a → ∃ o, H' a = some o ∧ isMut o = true) : FR g f A' H' σ e where
  len := F.len
  sl := fun i sl o h h' => by
    have m : Mono A H A' H' := ⟨F.al, fun a o q _ => s a o q, h2⟩
    have q := F.sl i sl o h h'
    cases sl with
    | emp => exact q
    | val d => obtain ⟨q0, v, q1, q2⟩ := q; exact ⟨q0, v, q1, R.mono m d q2⟩
    | box d => obtain ⟨q0, p, q1, q2, q3, q4⟩ := q; exact ⟨q0, p, q1, h1 _ q2, q3, Bx.mono m (fun o => s p o) q4⟩
    | pbox d => obtain ⟨p, q1, q2, q3, q4⟩ := q; exact ⟨p, q1, q2, h1 _ q3, Bx.mono m (fun o => s p o) q4⟩
  inj := F.inj
  nt := F.nt
  tp := fun a o h => ⟨h1 a (F.tp a o h).1, s a o (F.tp a o h).2⟩
  ob := fun a h => h1 a (F.ob a h)
  ob0 := F.ob0
  pb := F.pb
  al := fun a h => by
    by_cases n : A a
    · obtain ⟨o, e, q⟩ := F.al a n; exact ⟨o, s a o e, q⟩
    · exact h3 a h n
  keep := fun a o h n => s a o (F.keep a o h n)
theorem FR.same {g : GC} {f : Fx} {A : Addr → Prop} {H H' : Hp} {σ : Sv} {e : Ev} (F : FR g f A H σ e) (s : Same H H') : FR g f A H' σ e := F.ext s (fun _ h => h) (fun _ _ h _ => h) (fun a h n => absurd h n)
abbrev add1 (A : Addr → Prop) (p : Addr) : Addr → Prop := fun a => A a ∨ a = p
theorem FR.nA {g : GC} {f : Fx} {A : Addr → Prop} {H : Hp} {σ : Sv} {e : Ev} (F : FR g f A H σ e) {p : Addr} (h : H p = none) : ¬ A p := fun z => by
  obtain ⟨o, q, _⟩ := F.al p z
  rw [h] at q; cases q
/-- a new list at p, avoided from now on -/
theorem FR.new {g : GC} {f : Fx} {A : Addr → Prop} {H : Hp} {σ : Sv} {e : Ev} (F : FR g f A H σ e) {p : Addr} {xs : List V} (h : H p = none) : FR g f (add1 A p) (upd H p (.lst xs)) σ e :=
  F.ext (Same.new h) (fun _ z => .inl z) (fun a o z q => z.elim id fun z => by rw [z, h] at q; cases q) (fun a z n => z.elim (fun z => absurd z n) fun z => ⟨.lst xs, by rw [z]; exact upd_same, rfl⟩)
theorem Mono.new {g : GC} {f : Fx} {A : Addr → Prop} {H : Hp} {σ : Sv} {e : Ev} (F : FR g f A H σ e) {p : Addr} {o : HO} (h : H p = none) : Mono A H (add1 A p) (upd H p o) :=
  ⟨F.al, fun a u q _ => Same.new h a u q, fun a u z q => z.elim id fun z => by rw [z, h] at q; cases q⟩
/-! ## A3. computations -/
inductive Rs (α : Type) where
  | ok (a : α) (e : Ev)
  | exc (c : Nat) (d : D) (e : Ev)
  | bad
abbrev M (α : Type) := Ev → Rs α
def mp {α : Type} (a : α) : M α := fun e => .ok a e
def mb {α β : Type} (m : M α) (k : α → M β) : M β := fun e => match m e with
  | .ok a e' => k a e'
  | .exc c d e' => .exc c d e'
  | .bad => .bad
def mo {α : Type} : Option α → M α
  | some a => fun e => .ok a e
  | none => fun _ => .bad
/-- a wish about exceptions -/
abbrev WK := Value → Option Addr → Sv → Hp → Prop
/-- an exception of the class c with what it keeps -/
def ExR (g : GC) (A : Addr → Prop) (H : Hp) (c : Nat) (d : D) (cls : Value) (dd : Option Addr) : Prop := cls = .ref (g.ca c) ∧
  match g.cf c with
  | [] => dd = none
  | x :: _ => ∃ a v, dd = some a ∧ H a = some (.xd [(x, v)]) ∧ R g A H d v
def Fin {β : Type} (g : GC) (W : WK) (f : Fx) (A : Addr → Prop) (σ : Sv) (H : Hp) (ok : β → Ev → Prop) : Rs β → Prop
  | .ok b e' => ok b e'
  | .exc c d e' => ∀ cls dd H', FR g f A H' σ e' → Step A H H' → ExR g A H' c d cls dd → W cls dd σ H'
  | .bad => False
/-- what an expression's reading is, given what it computes -/
def rdE (g : GC) (W : WK) (m : M D) : TE := fun σ H Q => ∃ f A e, FR g f A H σ e ∧ Fin g W f A σ H (fun d e' => ∀ v H', FR g f A H' σ e' → Step A H H' → R g A H' d v → Q v H') (m e)
def rdT (g : GC) (W : WK) (m : M Bool) : TT := fun σ H Q => ∃ f A e, FR g f A H σ e ∧ Fin g W f A σ H (fun d e' => ∀ H', FR g f A H' σ e' → Step A H H' → Q d H') (m e)
def rdA (g : GC) (W : WK) (m : M (List D)) : TA := fun σ H Q => ∃ f A e, FR g f A H σ e ∧ Fin g W f A σ H (fun d e' => ∀ v H', FR g f A H' σ e' → Step A H H' → RL g A H' d v → Q v H') (m e)
/-- a new list that nothing else holds -/
def rdF (g : GC) (W : WK) (m : M (List D)) : TE := fun σ H Q => ∃ f A e, FR g f A H σ e ∧
  Fin g W f A σ H (fun ds e' => ∀ p xs H', FR g f A H' σ e' → FR g f (add1 A p) H' σ e' → ¬ A p → Step A H H' → H p = none → H' p = some (.lst xs) → RL g (add1 A p) H' ds xs → Q (.ref p) H') (m e)
inductive Fl where
  | nx | rt (d : D) | rb (ds : List D) | bk | ct
def EndF (g : GC) (f : Fx) (A : Addr → Prop) (H : Hp) (D : Ends) (e' : Ev) : Fl → Prop
  | .nx => ∀ A' σ' H', FR g f A' H' σ' e' → Mono A H A' H' → D.nx σ' H'
  | .bk => ∀ A' σ' H', FR g f A' H' σ' e' → Mono A H A' H' → D.bk σ' H'
  | .ct => ∀ A' σ' H', FR g f A' H' σ' e' → Mono A H A' H' → D.ct σ' H'
  | .rt d => ∀ A' σ' H' v, FR g f A' H' σ' e' → Mono A H A' H' → R g A' H' d v → D.rt v H'
  | .rb ds => ∀ A' σ' H' p xs, FR g f A' H' σ' e' → Mono A H A' H' → A' p → f.H0 p = none → (∀ (i : Nat) s, e'[i]? = some s → s.isBox = true → σ'[i]? ≠ some (some (.ref p))) → H' p = some (.lst xs) → RL g A' H' ds xs → D.rt (.ref p) H'
def FinS (g : GC) (W : WK) (f : Fx) (A : Addr → Prop) (H : Hp) (D : Ends) : Rs Fl → Prop
  | .ok b e' => EndF g f A H D e' b
  | .exc c d e' => ∀ A' σ' cls dd H', FR g f A' H' σ' e' → Mono A H A' H' → ExR g A' H' c d cls dd → W cls dd σ' H'
  | .bad => False
def rdS (g : GC) (W : WK) (m : M Fl) : TS := fun D σ H => ∃ f A e, FR g f A H σ e ∧ FinS g W f A H D (m e)
theorem Mono.trans {A A1 A2 : Addr → Prop} {H H1 H2 : Hp} (m : Mono A H A1 H1) (n : Mono A1 H1 A2 H2) : Mono A H A2 H2 :=
  ⟨m.al, fun a o h z => n.st a o (m.st a o h z) fun q => z (m.av a o q h), fun a o q h => Classical.byContradiction fun z => z (m.av a o (n.av a o q (m.st a o h z)) h)⟩
theorem Mono.refl {A : Addr → Prop} {H : Hp} (al : ∀ a, A a → ∃ o, H a = some o ∧ isMut o = true) : Mono A H A H := ⟨al, fun _ _ h _ => h, fun _ _ h _ => h⟩
theorem FinS.from {g : GC} {W : WK} {f : Fx} {A A1 : Addr → Prop} {H H1 : Hp} {D : Ends} {r : Rs Fl} (h : FinS g W f A H D r) (m : Mono A H A1 H1) : FinS g W f A1 H1 D r := by
  cases r with
  | ok b e' =>
    cases b with
    | nx => exact fun A' σ' H' F n => h A' σ' H' F (m.trans n)
    | bk => exact fun A' σ' H' F n => h A' σ' H' F (m.trans n)
    | ct => exact fun A' σ' H' F n => h A' σ' H' F (m.trans n)
    | rt d => exact fun A' σ' H' v F n => h A' σ' H' v F (m.trans n)
    | rb d => exact fun A' σ' H' p xs F n => h A' σ' H' p xs F (m.trans n)
  | exc c d e' => exact fun A' σ' cls dd H' F n => h A' σ' cls dd H' F (m.trans n)
  | bad => exact h
/-! the judgements -/
abbrev CE (g : GC) (X : Cx) (W : WK) (e : Expr) (m : M D) : Prop := PE X e (rdE g W m)
abbrev CT (g : GC) (X : Cx) (W : WK) (e : Expr) (m : M Bool) : Prop := PT X e (rdT g W m)
abbrev CA (g : GC) (X : Cx) (W : WK) (e : List Expr) (m : M (List D)) : Prop := PA X e (rdA g W m)
abbrev CF (g : GC) (X : Cx) (W : WK) (e : Expr) (m : M (List D)) : Prop := PE X e (rdF g W m)
abbrev CS (g : GC) (X : Cx) (W : WK) (s : Stmt) (m : M Fl) : Prop := PS X s (rdS g W m)
abbrev CB (g : GC) (X : Cx) (W : WK) (s : List Stmt) (m : M Fl) : Prop := PSs X s (rdS g W m)
theorem PE.imp {X : Cx} {e : Expr} {t u : TE} (h : PE X e t) (i : ∀ σ H Q, u σ H Q → t σ H Q) : PE X e u := ⟨fun pins s σ H Q I q => h.run pins s σ H Q I (i _ _ _ q)⟩
theorem PT.imp {X : Cx} {e : Expr} {t u : TT} (h : PT X e t) (i : ∀ σ H Q, u σ H Q → t σ H Q) : PT X e u := ⟨fun pins s σ H Q I q => h.run pins s σ H Q I (i _ _ _ q)⟩
theorem PA.imp {X : Cx} {e : List Expr} {t u : TA} (h : PA X e t) (i : ∀ σ H Q, u σ H Q → t σ H Q) : PA X e u := ⟨fun pos pins s σ H Q I q => h.run pos pins s σ H Q I (i _ _ _ q)⟩
theorem PS.imp {X : Cx} {e : Stmt} {t u : TS} (h : PS X e t) (i : ∀ D σ H, u D σ H → t D σ H) : PS X e u := ⟨fun pins s σ H D I q => h.run pins s σ H D I (i _ _ _ q)⟩
theorem PSs.imp {X : Cx} {e : List Stmt} {t u : TS} (h : PSs X e t) (i : ∀ D σ H, u D σ H → t D σ H) : PSs X e u := ⟨fun pins s σ H D I q => h.run pins s σ H D I (i _ _ _ q)⟩
/-! ## A4. steps -/
section
variable {g : GC} {W : WK} {f : Fx} {A : Addr → Prop} {σ : Sv} {H H1 : Hp} {e : Ev} {β : Type} {ok : β → Ev → Prop}
theorem Fin.from {r : Rs β} (h : Fin g W f A σ H ok r) (s : Step A H H1) : Fin g W f A σ H1 ok r := by
  cases r with
  | ok b e' => exact h
  | exc c d e' => exact fun cls dd H' F S x => h cls dd H' F (s.trans S) x
  | bad => exact h
theorem Fin.bE {ma : M D} {k : D → M β} (h : Fin g W f A σ H ok (mb ma k e)) (F : FR g f A H σ e) {G : VK}
    (go : ∀ d e1 v H1, FR g f A H1 σ e1 → Step A H H1 → R g A H1 d v → Fin g W f A σ H1 ok (k d e1) → G v H1) : rdE g W ma σ H G := by
  refine ⟨f, A, e, F, ?_⟩
  unfold mb at h
  cases q : ma e with
  | ok d e1 => rw [q] at h; exact fun v H1 F1 S1 r => go d e1 v H1 F1 S1 r (h.from S1)
  | exc c d e1 => rw [q] at h; exact h
  | bad => rw [q] at h; exact h
theorem Fin.bT {ma : M Bool} {k : Bool → M β} (h : Fin g W f A σ H ok (mb ma k e)) (F : FR g f A H σ e) {G : Bool → Hp → Prop}
    (go : ∀ d e1 H1, FR g f A H1 σ e1 → Step A H H1 → Fin g W f A σ H1 ok (k d e1) → G d H1) : rdT g W ma σ H G := by
  refine ⟨f, A, e, F, ?_⟩
  unfold mb at h
  cases q : ma e with
  | ok d e1 => rw [q] at h; exact fun H1 F1 S1 => go d e1 H1 F1 S1 (h.from S1)
  | exc c d e1 => rw [q] at h; exact h
  | bad => rw [q] at h; exact h
theorem Fin.bA {ma : M (List D)} {k : List D → M β} (h : Fin g W f A σ H ok (mb ma k e)) (F : FR g f A H σ e) {G : List V → Hp → Prop}
    (go : ∀ d e1 v H1, FR g f A H1 σ e1 → Step A H H1 → RL g A H1 d v → Fin g W f A σ H1 ok (k d e1) → G v H1) : rdA g W ma σ H G := by
  refine ⟨f, A, e, F, ?_⟩
  unfold mb at h
  cases q : ma e with
  | ok d e1 => rw [q] at h; exact fun v H1 F1 S1 r => go d e1 v H1 F1 S1 r (h.from S1)
  | exc c d e1 => rw [q] at h; exact h
  | bad => rw [q] at h; exact h
theorem Fin.bF {ma : M (List D)} {k : List D → M β} (h : Fin g W f A σ H ok (mb ma k e)) (F : FR g f A H σ e) {G : VK}
    (go : ∀ ds e1 p xs H1, FR g f A H1 σ e1 → FR g f (add1 A p) H1 σ e1 → ¬ A p → Step A H H1 → H p = none → H1 p = some (.lst xs) → RL g (add1 A p) H1 ds xs → Fin g W f A σ H1 ok (k ds e1) → G (.ref p) H1) : rdF g W ma σ H G := by
  refine ⟨f, A, e, F, ?_⟩
  unfold mb at h
  cases q : ma e with
  | ok d e1 => rw [q] at h; exact fun p xs H1 F1 F2 n S1 a b r => go d e1 p xs H1 F1 F2 n S1 a b r (h.from S1)
  | exc c d e1 => rw [q] at h; exact h
  | bad => rw [q] at h; exact h
/-- statements -/
theorem FinS.bE {E : Ends} {ma : M D} {k : D → M Fl} (h : FinS g W f A H E (mb ma k e)) (F : FR g f A H σ e) {G : VK}
    (go : ∀ d e1 v H1, FR g f A H1 σ e1 → Step A H H1 → R g A H1 d v → FinS g W f A H1 E (k d e1) → G v H1) : rdE g W ma σ H G := by
  refine ⟨f, A, e, F, ?_⟩
  unfold mb at h
  cases q : ma e with
  | ok d e1 => rw [q] at h; exact fun v H1 F1 S1 r => go d e1 v H1 F1 S1 r (h.from (F.mono S1))
  | exc c d e1 => rw [q] at h; exact fun cls dd H' F' S x => h _ _ cls dd H' F' (F.mono S) x
  | bad => rw [q] at h; exact h
theorem FinS.bT {E : Ends} {ma : M Bool} {k : Bool → M Fl} (h : FinS g W f A H E (mb ma k e)) (F : FR g f A H σ e) {G : Bool → Hp → Prop}
    (go : ∀ d e1 H1, FR g f A H1 σ e1 → Step A H H1 → FinS g W f A H1 E (k d e1) → G d H1) : rdT g W ma σ H G := by
  refine ⟨f, A, e, F, ?_⟩
  unfold mb at h
  cases q : ma e with
  | ok d e1 => rw [q] at h; exact fun H1 F1 S1 => go d e1 H1 F1 S1 (h.from (F.mono S1))
  | exc c d e1 => rw [q] at h; exact fun cls dd H' F' S x => h _ _ cls dd H' F' (F.mono S) x
  | bad => rw [q] at h; exact h
theorem FinS.bA {E : Ends} {ma : M (List D)} {k : List D → M Fl} (h : FinS g W f A H E (mb ma k e)) (F : FR g f A H σ e) {G : List V → Hp → Prop}
    (go : ∀ d e1 v H1, FR g f A H1 σ e1 → Step A H H1 → RL g A H1 d v → FinS g W f A H1 E (k d e1) → G v H1) : rdA g W ma σ H G := by
  refine ⟨f, A, e, F, ?_⟩
  unfold mb at h
  cases q : ma e with
  | ok d e1 => rw [q] at h; exact fun v H1 F1 S1 r => go d e1 v H1 F1 S1 r (h.from (F.mono S1))
  | exc c d e1 => rw [q] at h; exact fun cls dd H' F' S x => h _ _ cls dd H' F' (F.mono S) x
  | bad => rw [q] at h; exact h
theorem FinS.bF {E : Ends} {ma : M (List D)} {k : List D → M Fl} (h : FinS g W f A H E (mb ma k e)) (F : FR g f A H σ e) {G : VK}
    (go : ∀ ds e1 p xs H1, FR g f A H1 σ e1 → FR g f (add1 A p) H1 σ e1 → ¬ A p → Step A H H1 → H p = none → H1 p = some (.lst xs) → RL g (add1 A p) H1 ds xs → FinS g W f A H E (k ds e1) → G (.ref p) H1) : rdF g W ma σ H G := by
  refine ⟨f, A, e, F, ?_⟩
  unfold mb at h
  cases q : ma e with
  | ok d e1 => rw [q] at h; exact fun p xs H1 F1 F2 n S1 a b r => go d e1 p xs H1 F1 F2 n S1 a b r h
  | exc c d e1 => rw [q] at h; exact fun cls dd H' F' S x => h _ _ cls dd H' F' (F.mono S) x
  | bad => rw [q] at h; exact h
theorem Fin.mo {o : Option β} (h : Fin g W f A σ H ok (mo o e)) : ∃ b, o = some b ∧ ok b e := by
  cases o with
  | none => exact h.elim
  | some b => exact ⟨b, rfl, h⟩
theorem FinS.mo {E : Ends} {α : Type} {o : Option α} {k : α → M Fl} (h : FinS g W f A H E (mb (Fw.mo o) k e)) : ∃ b, o = some b ∧ FinS g W f A H E (k b e) := by
  cases o with
  | none => exact h.elim
  | some b => exact ⟨b, rfl, h⟩
theorem Fin.mo2 {α : Type} {o : Option α} {k : α → M β} (h : Fin g W f A σ H ok (mb (Fw.mo o) k e)) : ∃ b, o = some b ∧ Fin g W f A σ H ok (k b e) := by
  cases o with
  | none => exact h.elim
  | some b => exact ⟨b, rfl, h⟩
end
end Fw
namespace Fw
open L2 PyProof.Rows PySem PySem.Spec
/-! ## B1. names, constants -/
theorem FR.at {g : GC} {f : Fx} {A : Addr → Prop} {H : Hp} {σ : Sv} {e : Ev} (F : FR g f A H σ e) {i : Nat} {s : Sl} (h : e[i]? = some s) : ∃ o, σ[i]? = some o ∧ SlRel g f A H i o s := by
  have hi : i < σ.length := by rw [F.len]; exact (List.getElem?_eq_some_iff.mp h).1
  exact ⟨σ[i], List.getElem?_eq_getElem hi, F.sl i s _ h (List.getElem?_eq_getElem hi)⟩
def mVar (i : Nat) : M D := fun e => match e[i]? with
  | some (.val d) => .ok d e
  | _ => .bad
def mC (d : D) : M D := fun e => .ok d e
section
variable {g : GC} {X : Cx} {W : WK}
theorem c_var (i : Nat) {x : Str} {pos : Pos} (h : PE X (.Name x pos) (tVar i)) : CE g X W (.Name x pos) (mVar i) := PE.imp h fun σ H Q ⟨f, A, e, F, h⟩ => by
  unfold mVar at h
  split at h
  · rename_i d q
    obtain ⟨o, h1, _, v, h2, h3⟩ := F.at q
    exact ⟨v, by rw [h1, h2], h v H F .refl h3⟩
  · exact h.elim
theorem c_con {ex : Expr} {v : V} {d : D} (h : PE X ex (tC v)) (r : ∀ A H, R g A H d v) : CE g X W ex (mC d) := PE.imp h fun σ H Q ⟨f, A, e, F, h⟩ => h v H F .refl (r A H)
theorem c_int {i : Int} {j pos} : CE g X W (.Constant (.int i) j pos) (mC (.int i)) := c_con pe_int fun _ _ => rfl
theorem c_bl {i : Bool} {j pos} : CE g X W (.Constant (.bool i) j pos) (mC (.bl i)) := c_con pe_bl fun _ _ => rfl
theorem c_non {j pos} : CE g X W (.Constant .none j pos) (mC .non) := c_con pe_non fun _ _ => rfl
theorem c_str {i : Str} {j pos} : CE g X W (.Constant (.str i) j pos) (mC (.str i)) := c_con pe_str fun _ _ => rfl
end
/-! ## B2. operands, operators by values -/
/-- as R, but a list itself may be one of those avoided -/
def Rt (g : GC) (A : Addr → Prop) (H : Hp) : D → V → Prop
  | .lst ds, v => ∃ a xs, v = .ref a ∧ H a = some (.lst xs) ∧ RL g A H ds xs
  | .dct ks ds, v => ∃ a xs, v = .ref a ∧ Rd H a (.dK (ks.zip xs)) ∧ ks.length = xs.length ∧ RL g A H ds xs
  | d, v => R g A H d v
theorem R.rt {g : GC} {A : Addr → Prop} {H : Hp} : ∀ {d : D} {v : V}, R g A H d v → Rt g A H d v
  | .lst ds, _, ⟨a, xs, e, h, _, r⟩ => ⟨a, xs, e, h, r⟩
  | .non, _, r => r
  | .bl _, _, r => r
  | .int _, _, r => r
  | .str _, _, r => r
  | .ty _, _, r => r
  | .tup _, _, r => r
  | .obj _ _, _, r => r
  | .scr _, _, r => r
  | .dct ks ds, _, ⟨a, o, xs, e, h, hl, r⟩ => ⟨a, xs, e, .inr ⟨o, h⟩, hl, r⟩
  | .exn _ _, _, r => r
def RtL (g : GC) (A : Addr → Prop) (H : Hp) : List D → List V → Prop
  | [], xs => xs = []
  | d :: ds, xs => ∃ y ys, xs = y :: ys ∧ Rt g A H d y ∧ RtL g A H ds ys
abbrev Al (A : Addr → Prop) (H : Hp) : Prop := ∀ a, A a → ∃ o, H a = some o ∧ isMut o = true
def OS (g : GC) (r : R2) (op : D → D → Option D) : Prop := ∀ A H d1 d2 d v1 v2 Q, Al A H → Rt g A H d1 v1 → Rt g A H d2 v2 → op d1 d2 = some d → (∀ v H', Same H H' → R g A H' d v → Q v H') → r v1 v2 H Q
def US (g : GC) (r : V → Hp → VK → Prop) (op : D → Option D) : Prop := ∀ A H d1 d v1 Q, Al A H → Rt g A H d1 v1 → op d1 = some d → (∀ v H', Same H H' → R g A H' d v → Q v H') → r v1 H Q
def LS (g : GC) (r : List V → Hp → VK → Prop) (op : List D → Option D) : Prop := ∀ A H ds d vs Q, Al A H → RtL g A H ds vs → op ds = some d → (∀ v H', Same H H' → R g A H' d v → Q v H') → r vs H Q
/-- .. that gives a new list -/
def FS (g : GC) (r : List V → Hp → VK → Prop) (op : List D → Option (List D)) : Prop := ∀ A H ds es vs Q, Al A H → RtL g A H ds vs → op ds = some es → (∀ p xs H', H p = none → Same H H' → (∀ b o, b ≠ p → H' b = some o → H b = some o) → H' p = some (.lst xs) → RL g A H es xs → Q (.ref p) H') → r vs H Q
def FS2 (g : GC) (r : R2) (op : D → D → Option (List D)) : Prop := ∀ A H d1 d2 es v1 v2 Q, Al A H → Rt g A H d1 v1 → Rt g A H d2 v2 → op d1 d2 = some es → (∀ p xs, H p = none → RL g A H es xs → Q (.ref p) (upd H p (.lst xs))) → r v1 v2 H Q
/-- an operand: an expression, or a name, whatever its slot holds -/
inductive Od where
  | e (m : M D) | n (i : Nat)
def Sl.dat : Sl → Option D
  | .val d => some d
  | .box d => some d
  | .pbox d => some d
  | .emp => none
def mN (i : Nat) : M D := fun e => match e[i]? with
  | some s => (match s.dat with
    | some d => .ok d e
    | none => .bad)
  | none => .bad
def rdO (g : GC) (W : WK) : Od → TE
  | .e m => rdE g W m
  | .n i => tVar i
abbrev CO (g : GC) (X : Cx) (W : WK) (e : Expr) (o : Od) : Prop := PE X e (rdO g W o)
theorem FR.rt {g : GC} {f : Fx} {A : Addr → Prop} {H : Hp} {σ : Sv} {e : Ev} (F : FR g f A H σ e) {i : Nat} {s : Sl} {d : D} (h : e[i]? = some s) (q : s.dat = some d) : ∃ v, σ[i]? = some (some v) ∧ Rt g A H d v := by
  obtain ⟨o, h1, h2⟩ := F.at h
  cases s with
  | emp => cases q
  | val d' => cases q; obtain ⟨_, v, e1, r⟩ := h2; exact ⟨v, by rw [h1, e1], r.rt⟩
  | box d' =>
    cases q; obtain ⟨_, p, e1, _, _, r⟩ := h2
    cases d with
    | lst ds => obtain ⟨xs, h3, r⟩ := r; exact ⟨_, by rw [h1, e1], p, xs, rfl, h3, r⟩
    | dct ks ds => obtain ⟨xs, h3, hl, r⟩ := r; exact ⟨_, by rw [h1, e1], p, xs, rfl, .inl h3, hl, r⟩
    | _ => exact r.elim
  | pbox d' =>
    cases q; obtain ⟨p, _, e1, _, r⟩ := h2
    cases d with
    | lst ds => obtain ⟨xs, h3, r⟩ := r; exact ⟨_, by rw [h1, e1], p, xs, rfl, h3, r⟩
    | dct ks ds => obtain ⟨xs, h3, hl, r⟩ := r; exact ⟨_, by rw [h1, e1], p, xs, rfl, .inl h3, hl, r⟩
    | _ => exact r.elim
theorem Fin.bN {g : GC} {W : WK} {f : Fx} {A : Addr → Prop} {σ : Sv} {H : Hp} {e : Ev} {β : Type} {ok : β → Ev → Prop} {i : Nat} {k : D → M β} (h : Fin g W f A σ H ok (mb (mN i) k e)) (F : FR g f A H σ e) : ∃ d v, σ[i]? = some (some v) ∧ Rt g A H d v ∧ Fin g W f A σ H ok (k d e) := by
  unfold mb mN at h
  cases q : e[i]? with
  | none => rw [q] at h; exact h.elim
  | some s =>
    rw [q] at h
    cases q2 : s.dat with
    | none => simp only [q2] at h; exact h.elim
    | some d =>
      simp only [q2] at h
      obtain ⟨v, h1, h2⟩ := F.rt q q2
      exact ⟨d, v, h1, h2, h⟩
/-- two operands: expressions from the left, then what the names hold -/
def mO2 {β : Type} (a b : Od) (k : D → D → M β) : M β := match a, b with
  | .e m, .e m' => mb m fun x => mb m' fun y => k x y
  | .e m, .n j => mb m fun x => mb (mN j) fun y => k x y
  | .n i, .e m' => mb (mN i) fun _ => mb m' fun y => mb (mN i) fun x => k x y
  | .n i, .n j => mb (mN i) fun x => mb (mN j) fun y => k x y
theorem Fin.b2 {g : GC} {W : WK} {f : Fx} {A : Addr → Prop} {σ : Sv} {H : Hp} {e : Ev} {β : Type} {ok : β → Ev → Prop} {a b : Od} {k : D → D → M β} (h : Fin g W f A σ H ok (mO2 a b k e)) (F : FR g f A H σ e) {G : V → V → Hp → Prop}
    (go : ∀ d1 d2 e1 v1 v2 H1, FR g f A H1 σ e1 → Step A H H1 → Rt g A H1 d1 v1 → Rt g A H1 d2 v2 → Fin g W f A σ H1 ok (k d1 d2 e1) → G v1 v2 H1) : rdO g W a σ H fun x H1 => rdO g W b σ H1 fun y H2 => G x y H2 := by
  cases a with
  | e m =>
    cases b with
    | e m' =>
      refine Fin.bE h F fun d1 e1 v1 H1 F1 S1 R1 h1 => ?_
      refine Fin.bE h1 F1 fun d2 e2 v2 H2 F2 S2 R2 h2 => ?_
      exact go d1 d2 e2 v1 v2 H2 F2 (S1.trans S2) (F1.r S2 R1).rt R2.rt h2
    | n j =>
      refine Fin.bE h F fun d1 e1 v1 H1 F1 S1 R1 h1 => ?_
      obtain ⟨d2, v2, q, R2, h2⟩ := Fin.bN h1 F1
      exact ⟨v2, q, go d1 d2 e1 v1 v2 H1 F1 S1 R1.rt R2 h2⟩
  | n i =>
    cases b with
    | e m' =>
      obtain ⟨_, v1, hv, _, h⟩ := Fin.bN h F
      refine ⟨v1, hv, ?_⟩
      refine Fin.bE h F fun d2 e2 v2 H2 F2 S2 R2 h2 => ?_
      obtain ⟨d1, v1', q, R1, h3⟩ := Fin.bN h2 F2
      rw [hv] at q; cases q
      exact go d1 d2 e2 v1 v2 H2 F2 S2 R1 R2.rt h3
    | n j =>
      obtain ⟨d1, v1, q1, R1, h1⟩ := Fin.bN h F
      obtain ⟨d2, v2, q2, R2, h2⟩ := Fin.bN h1 F
      exact ⟨v1, q1, v2, q2, go d1 d2 e v1 v2 H F .refl R1 R2 h2⟩
def mOp (op : D → D → Option D) (a b : Od) : M D := mO2 a b fun x y => mo (op x y)
def mOpF (op : D → D → Option (List D)) (a b : Od) : M (List D) := mO2 a b fun x y => mo (op x y)
def mO1 {β : Type} (a : Od) (k : D → M β) : M β := match a with
  | .e m => mb m k
  | .n i => mb (mN i) k
def mUn (op : D → Option D) (a : Od) : M D := mO1 a fun x => mo (op x)
section
variable {g : GC} {X : Cx} {W : WK}
theorem co_e {a : Expr} {m : M D} (h : CE g X W a m) : CO g X W a (.e m) := h
theorem co_n (i : Nat) {x : Str} {pos : Pos} (h : PE X (.Name x pos) (tVar i)) : CO g X W (.Name x pos) (.n i) := h
theorem Fin.b1 {f : Fx} {A : Addr → Prop} {σ : Sv} {H : Hp} {e : Ev} {β : Type} {ok : β → Ev → Prop} {a : Od} {k : D → M β} (h : Fin g W f A σ H ok (mO1 a k e)) (F : FR g f A H σ e) {G : V → Hp → Prop}
    (go : ∀ d1 e1 v1 H1, FR g f A H1 σ e1 → Step A H H1 → Rt g A H1 d1 v1 → Fin g W f A σ H1 ok (k d1 e1) → G v1 H1) : rdO g W a σ H G := by
  cases a with
  | e m => exact Fin.bE h F fun d1 e1 v1 H1 F1 S1 R1 h1 => go d1 e1 v1 H1 F1 S1 R1.rt h1
  | n i =>
    obtain ⟨d1, v1, hv, r, h⟩ := Fin.bN h F
    exact ⟨v1, hv, go d1 e v1 H F .refl r h⟩
theorem t_op {r : R2} {op : D → D → Option D} {a b : Od} (ho : OS g r op) : ∀ σ H Q, rdE g W (mOp op a b) σ H Q → tOp r (rdO g W a) (rdO g W b) σ H Q := fun σ H Q ⟨f, A, e, F, h⟩ =>
  Fin.b2 h F fun d1 d2 e2 v1 v2 H2 F2 S2 R1 R2 h2 => by
    obtain ⟨d, q, h3⟩ := Fin.mo h2
    exact ho A H2 d1 d2 d v1 v2 Q F2.al R1 R2 q fun v H3 s r => h3 v H3 (F2.same s) (S2.trans (.of s)) r
theorem t_opF {r : R2} {op : D → D → Option (List D)} {a b : Od} (ho : FS2 g r op) : ∀ σ H Q, rdF g W (mOpF op a b) σ H Q → tOp r (rdO g W a) (rdO g W b) σ H Q := fun σ H Q ⟨f, A, e, F, h⟩ =>
  Fin.b2 h F fun d1 d2 e2 v1 v2 H2 F2 S2 R1 R2 h2 => by
    obtain ⟨d, q, h3⟩ := Fin.mo h2
    exact ho A H2 d1 d2 d v1 v2 Q F2.al R1 R2 q fun p xs hp r => h3 p xs _ (F2.same (Same.new hp)) (F2.new hp) (F2.nA hp) (S2.trans (.of (Same.new hp))) (by
      cases z : H p with
      | none => rfl
      | some o => obtain ⟨o', q⟩ := S2.un p o z; rw [hp] at q; cases q) upd_same (RL.mono (Mono.new F2 hp) d r)
theorem c_op {op : Operator} {r : R2} {a b : Expr} {ma mb' : Od} {o : D → D → Option D} {pos : Pos} (hr : OpR X (binaryOp op) r) (ho : OS g r o) (ha : CO g X W a ma) (hb : CO g X W b mb') : CE g X W (.BinOp a op b pos) (mOp o ma mb') :=
  PE.imp (pe_op hr ha hb) (t_op ho)
theorem cf_op {op : Operator} {r : R2} {a b : Expr} {ma mb' : Od} {o : D → D → Option (List D)} {pos : Pos} (hr : OpR X (binaryOp op) r) (ho : FS2 g r o) (ha : CO g X W a ma) (hb : CO g X W b mb') : CF g X W (.BinOp a op b pos) (mOpF o ma mb') :=
  PE.imp (pe_op hr ha hb) (t_opF ho)
theorem c_cmp {op : CmpOp} {r : R2} {a b : Expr} {ma mb' : Od} {o : D → D → Option D} {pos : Pos} (hr : OpR X (compareOp op) r) (ho : OS g r o) (ha : CO g X W a ma) (hb : CO g X W b mb') (hm : behindInMarks op b = false) : CE g X W (.Compare a [op] [b] pos) (mOp o ma mb') :=
  PE.imp (pe_cmpR hr ha hb hm) (t_op ho)
theorem c_un {op : UnaryOp} {r : V → Hp → VK → Prop} {a : Expr} {ma : Od} {o : D → Option D} {pos : Pos} (hr : UnR X (unaryOp op) r) (ho : US g r o) (ha : CO g X W a ma) : CE g X W (.UnaryOp op a pos) (mUn o ma) :=
  PE.imp (pe_un hr ha) fun σ H Q ⟨f, A, e, F, h⟩ => Fin.b1 h F fun d1 e1 v1 H1 F1 S1 R1 h1 => by
    obtain ⟨d, q, h3⟩ := Fin.mo h1
    exact ho A H1 d1 d v1 Q F1.al R1 q fun v H3 s r => h3 v H3 (F1.same s) (S1.trans (.of s)) r
/-! tests -/
def dB : D → Option Bool
  | .bl b => some b
  | _ => none
/-- a comparison, as a test -/
def mCmp (op : D → D → Option D) (a b : Od) : M Bool := mO2 a b fun x y => mo ((op x y).bind dB)
theorem ct_cmp {op : CmpOp} {r : R2} {a b : Expr} {ma mb' : Od} {o : D → D → Option D} {pos : Pos} (hr : OpR X (compareOp op) r) (ho : OS g r o) (ha : CO g X W a ma) (hb : CO g X W b mb') (hm : behindInMarks op b = false) : CT g X W (.Compare a [op] [b] pos) (mCmp o ma mb') :=
  PT.imp (pt_cmpR hr ha hb hm) fun σ H Q ⟨f, A, e, F, h⟩ => Fin.b2 h F fun d1 d2 e2 v1 v2 H2 F2 S2 R1 R2 h2 => by
    obtain ⟨b, q, h3⟩ := Fin.mo h2
    cases z : o d1 d2 with
    | none => rw [z] at q; cases q
    | some d =>
      rw [z] at q
      refine ho A H2 d1 d2 d v1 v2 _ F2.al R1 R2 z fun v H3 s r => ?_
      cases d with
      | bl c => cases q; exact ⟨_, r, h3 H3 (F2.same s) (S2.trans (.of s))⟩
      | _ => cases q
/-- a op b op' c -/
def mChain (o o' : D → D → Option D) (a b c : Od) : M D := mO2 a b fun x y => mb (mo ((o x y).bind dB)) fun k => if k = true then mO1 c fun z => mo (o' y z) else mp (.bl false)
end
/-! the operators -/
theorem OpR.or {X : Cx} {f : Value → Value → Sem Value} {r r' : R2} (h : OpR X f r) (h' : OpR X f r') : OpR X f (fun x y H Q => r x y H Q ∨ r' x y H Q) := fun pins s σ H x y v u Q I rx ry q =>
  q.elim (h pins s σ H x y v u Q I rx ry) (h' pins s σ H x y v u Q I rx ry)
def dAdd : D → D → Option D
  | .int i, .int j => some (.int (i + j))
  | .str x, .str y => if x.length + y.length ≤ 1000000 then some (.str (x ++ y)) else none
  | .lst xs, .lst ys => if xs.length + ys.length ≤ 1000000 then some (.lst (xs ++ ys)) else none
  | .tup xs, .tup ys => if xs ≠ [] ∧ xs.length + ys.length ≤ 1000000 then some (.tup (xs ++ ys)) else none
  | _, _ => none
theorem million : (1000000 : Nat) ≤ sizeLine := by rw [sizeLine_eq]; decide
theorem Mono.same {A : Addr → Prop} {H H' : Hp} (al : Al A H) (s : Same H H') : Mono A H A H' := ⟨al, fun a o h _ => s a o h, fun _ _ h _ => h⟩
theorem Al.no {A : Addr → Prop} {H : Hp} (al : Al A H) {p : Addr} (h : H p = none) : ¬ A p := fun z => by
  obtain ⟨o, q, _⟩ := al p z
  rw [h] at q; cases q
theorem RL.nil_iff {g : GC} {A : Addr → Prop} {H : Hp} {ds : List D} {xs : List V} (r : RL g A H ds xs) : xs = [] ↔ ds = [] := by
  have := RL.length r
  constructor
  · intro h; rw [h] at this; exact List.eq_nil_of_length_eq_zero this.symm
  · intro h; rw [h] at this; exact List.eq_nil_of_length_eq_zero this
abbrev rAddAll (K : PySem.W.Frag) : R2 := fun x y H Q => (rI0 fun i j => V.int (i + j)) x y H Q ∨ ((∃ i j, x = .str i ∧ y = .str j ∧ i.length + j.length ≤ sizeLine ∧ Q (.str (i ++ j)) H) ∨ (rCat x y H Q ∨ rCatT K x y H Q))
theorem or_add {X : Cx} : OpR X (binaryOp .Add) (rAddAll X.K) := OpR.or op_add (OpR.or op_add_str (OpR.or op_cat op_catT))
theorem os_add {g : GC} : OS g (rAddAll g.K) dAdd := fun A H d1 d2 d v1 v2 Q al r1 r2 q k => by
  cases d1 with
  | int i =>
    cases d2 with
    | int j => cases q; exact .inl ⟨i, j, r1, r2, k _ H (Same.refl H) rfl⟩
    | _ => cases q
  | str x =>
    cases d2 with
    | str y =>
      simp only [dAdd] at q
      split at q
      · rename_i hz; cases q; exact .inr (.inl ⟨x, y, r1, r2, Nat.le_trans hz million, k _ H (Same.refl H) rfl⟩)
      · cases q
    | _ => cases q
  | lst xs =>
    cases d2 with
    | lst ys =>
      simp only [dAdd] at q
      split at q
      · rename_i hz; cases q
        obtain ⟨a, us, e1, h1, l1⟩ := r1
        obtain ⟨b, ws, e2, h2, l2⟩ := r2
        refine .inr (.inr (.inl ⟨a, b, us, ws, e1, e2, h1, h2, by rw [RL.length l1, RL.length l2]; exact Nat.le_trans hz million, fun p hp => ?_⟩))
        have m := Mono.same al (Same.new (o := .lst (us ++ ws)) hp)
        exact k _ _ (Same.new hp) ⟨p, _, rfl, upd_same, Al.no al hp, RL.append (RL.mono m _ l1) (RL.mono m _ l2)⟩
      · cases q
    | _ => cases q
  | tup xs =>
    cases d2 with
    | tup ys =>
      simp only [dAdd] at q
      split at q
      · rename_i hz; cases q
        obtain ⟨a, us, e1, h1, l1⟩ := r1
        obtain ⟨b, ws, e2, h2, l2⟩ := r2
        refine .inr (.inr (.inr ⟨a, b, us, ws, e1, e2, h1, h2, fun z => hz.1 ((RL.nil_iff l1).mp z), by rw [RL.length l1, RL.length l2]; exact Nat.le_trans hz.2 million, fun z => ?_, fun z p hp => ?_⟩))
        · subst e1
          refine k _ _ (Same.refl H) ⟨a, us, rfl, h1, ?_⟩
          rw [(RL.nil_iff l2).mp z, List.append_nil]
          exact l1
        · have m := Mono.same al (Same.new (o := .tup (us ++ ws)) hp)
          exact k _ _ (Same.new hp) ⟨p, _, rfl, SqT.of upd_same, RL.append (RL.mono m _ l1) (RL.mono m _ l2)⟩
      · cases q
    | _ => cases q
  | _ => cases q
def dI (op : Int → Int → Option D) : D → D → Option D
  | .int i, .int j => op i j
  | _, _ => none
theorem os_I {g : GC} {C : Int → Int → Prop} {h : Int → Int → V} {op : Int → Int → Option D} (hc : ∀ i j d, op i j = some d → C i j ∧ ∀ A H, R g A H d (h i j)) : OS g (rI C h) (dI op) := fun A H d1 d2 d v1 v2 Q al r1 r2 q k => by
  cases d1 with
  | int i =>
    cases d2 with
    | int j => exact ⟨i, j, r1, r2, (hc i j d q).1, k _ H (Same.refl H) ((hc i j d q).2 A H)⟩
    | _ => cases q
  | _ => cases q
theorem os_I0 {g : GC} {h : Int → Int → V} {op : Int → Int → Option D} (hc : ∀ i j d, op i j = some d → ∀ A H, R g A H d (h i j)) : OS g (rI0 h) (dI op) := fun A H d1 d2 d v1 v2 Q al r1 r2 q k => by
  cases d1 with
  | int i =>
    cases d2 with
    | int j => exact ⟨i, j, r1, r2, k _ H (Same.refl H) (hc i j d q A H)⟩
    | _ => cases q
  | _ => cases q
def dSub : D → D → Option D := dI fun i j => some (.int (i - j))
theorem os_sub {g : GC} : OS g (rI0 fun i j => .int (i - j)) dSub := os_I0 fun i j d q A H => by cases q; rfl
def iLt (i j : Int) : Bool := decide (i < j)
def iLe (i j : Int) : Bool := decide (i ≤ j)
def dLt : D → D → Option D := dI fun i j => some (.bl (decide (i < j)))
def dLe : D → D → Option D := dI fun i j => some (.bl (decide (i ≤ j)))
def dGt : D → D → Option D := dI fun i j => some (.bl (decide (j < i)))
def dGe : D → D → Option D := dI fun i j => some (.bl (decide (j ≤ i)))
theorem os_lt {g : GC} : OS g (rI0 fun i j => .bl (decide (i < j))) dLt := os_I0 fun i j d q A H => by cases q; rfl
theorem os_le {g : GC} : OS g (rI0 fun i j => .bl (decide (i ≤ j))) dLe := os_I0 fun i j d q A H => by cases q; rfl
theorem os_gt {g : GC} : OS g (rI0 fun i j => .bl (decide (j < i))) dGt := os_I0 fun i j d q A H => by cases q; rfl
theorem os_ge {g : GC} : OS g (rI0 fun i j => .bl (decide (j ≤ i))) dGe := os_I0 fun i j d q A H => by cases q; rfl
end Fw
namespace Fw
open L2 PyProof.Rows PySem PySem.Spec
/-! products, quotients -/
def mulOk (i j : Int) : Bool := (decide (i.natAbs < 18446744073709551616) || decide (j.natAbs < 18446744073709551616)) || decide (i.natAbs.log2 + j.natAbs.log2 < 1000000)
theorem mulOk_ok {i j : Int} (h : mulOk i j = true) : CMul i j ∨ CMulW i j := by
  unfold mulOk at h
  simp only [Bool.or_eq_true, decide_eq_true_eq] at h
  unfold CMul
  rcases h with (h | h) | h
  · left; left; omega
  · left; right; omega
  · right; exact h
def dMul : D → D → Option D
  | .int i, .int j => if mulOk i j = true then some (.int (i * j)) else none
  | .lst xs, .int k => if k ≤ 1000000 ∧ 0 ≤ k ∧ xs.length * k.toNat ≤ 1000000 then some (.lst (List.replicate k.toNat xs).flatten) else none
  | _, _ => none
theorem RL.rep {g : GC} {A : Addr → Prop} {H : Hp} {ds : List D} {xs : List V} (r : RL g A H ds xs) : ∀ n : Nat, RL g A H (List.replicate n ds).flatten (List.replicate n xs).flatten
  | 0 => by simp [RL]
  | n + 1 => by
    rw [List.replicate_succ, List.replicate_succ, List.flatten_cons, List.flatten_cons]
    exact RL.append r (RL.rep r n)
abbrev rMulAll : R2 := fun x y H Q => (rI CMul fun i j => V.int (i * j)) x y H Q ∨ ((rI CMulW fun i j => V.int (i * j)) x y H Q ∨ rRep x y H Q)
theorem or_mul {X : Cx} : OpR X (binaryOp .Mult) rMulAll := OpR.or op_mul (OpR.or op_mulW op_rep)
theorem os_mul {g : GC} : OS g rMulAll dMul := fun A H d1 d2 d v1 v2 Q al r1 r2 q k => by
  cases d1 with
  | int i =>
    cases d2 with
    | int j =>
      simp only [dMul] at q
      split at q
      · rename_i h; cases q
        rcases mulOk_ok h with c | c
        · exact .inl ⟨i, j, r1, r2, c, k _ H (Same.refl H) rfl⟩
        · exact .inr (.inl ⟨i, j, r1, r2, c, k _ H (Same.refl H) rfl⟩)
      · cases q
    | _ => cases q
  | lst xs =>
    cases d2 with
    | int j =>
      simp only [dMul] at q
      split at q
      · rename_i hz; cases q
        obtain ⟨a, us, e1, h1, l1⟩ := r1
        refine .inr (.inr ⟨a, j, us, e1, r2, h1, by omega, by omega, by rw [RL.length l1]; exact Nat.le_trans hz.2.2 million, fun p hp => ?_⟩)
        have m := Mono.same al (Same.new (o := .lst (List.replicate j.toNat us).flatten) hp)
        exact k _ _ (Same.new hp) ⟨p, _, rfl, upd_same, Al.no al hp, RL.rep (RL.mono m _ l1) _⟩
      · cases q
    | _ => cases q
  | _ => cases q
def CDivG (_ j : Int) : Prop := j ≠ 0 ∧ j.natAbs.log2 < 9000
theorem op_fdivG {X : Cx} : OpR X (binaryOp .FloorDiv) (rI CDivG fun i j => .int (i.fdiv j)) := opI fun i j _ _ _ _ _ hc q => floordiv_int hc.1 q (.inl (PyProof.noPylong_of_log2 hc.2))
def iFdiv (i j : Int) : Option D := if j = 0 then none else if j.natAbs.log2 < 9000 then some (.int (if 0 < j then i / j else i.fdiv j)) else none
def dFdiv : D → D → Option D := dI iFdiv
theorem os_fdiv {g : GC} : OS g (rI CDivG fun i j => .int (i.fdiv j)) dFdiv := os_I fun i j d q => by
  unfold iFdiv at q
  split at q
  · cases q
  · rename_i h0
    split at q
    · rename_i h1; cases q
      refine ⟨⟨h0, h1⟩, fun A H => ?_⟩
      show V.int _ = V.int _
      split
      · rename_i h2; rw [Int.fdiv_eq_ediv_of_nonneg i (by omega)]
      · rfl
    · cases q
def iMod (i j : Int) : Option D := if j = 0 then none else some (.int (if 0 < j then i % j else i.fmod j))
def dMod : D → D → Option D := dI iMod
theorem os_mod {g : GC} : OS g (rI (fun _ j => j ≠ 0) fun i j => .int (i.fmod j)) dMod := os_I fun i j d q => by
  unfold iMod at q
  split at q
  · cases q
  · rename_i h0; cases q
    refine ⟨h0, fun A H => ?_⟩
    show V.int _ = V.int _
    split
    · rename_i h2; rw [Int.fmod_eq_emod_of_nonneg i (by omega)]
    · rfl
def iPow (i j : Int) : Option D := if 0 ≤ j ∧ j ≤ 1000000 ∧ i.natAbs < 18446744073709551616 then some (.int (i ^ j.toNat)) else none
def dPow : D → D → Option D := dI iPow
theorem os_pow {g : GC} : OS g (rI CPow fun i j => .int (i ^ j.toNat)) dPow := os_I fun i j d q => by
  unfold iPow at q
  split at q
  · rename_i h; cases q; exact ⟨⟨h.1, h.2.1, h.2.2⟩, fun A H => rfl⟩
  · cases q
def dNeg : D → Option D
  | .int i => some (.int (-i))
  | _ => none
theorem us_neg {g : GC} : US g (rU fun i => .int (-i)) dNeg := fun A H d1 d v1 Q al r1 q k => by
  cases d1 with
  | int i => cases q; exact ⟨i, r1, k _ H (Same.refl H) rfl⟩
  | _ => cases q
end Fw
namespace Fw
open L2 PyProof.Rows PySem PySem.Spec
/-! equality -/
mutual
def py : D → Option PyData
  | .non => some .none
  | .bl b => some (.bool b)
  | .int i => some (.int i)
  | .str x => some (.str x)
  | .tup ds => (pyL ds).map PyData.tuple
  | .lst ds => (pyL ds).map PyData.list
  | _ => none
def pyL : List D → Option (List PyData)
  | [] => some []
  | d :: ds => match py d with
    | some p => (match pyL ds with
      | some ps => some (p :: ps)
      | none => none)
    | none => none
end
theorem py_tup (ds : List D) : py (.tup ds) = (pyL ds).map PyData.tuple := by rw [py]
theorem py_lst (ds : List D) : py (.lst ds) = (pyL ds).map PyData.list := by rw [py]
theorem pyL_cons (d : D) (ds : List D) : pyL (d :: ds) = match py d with
    | some p => (match pyL ds with
      | some ps => some (p :: ps)
      | none => none)
    | none => none := by rw [pyL]
theorem map_some {α β : Type} {f : α → β} {o : Option α} {b : β} (h : o.map f = some b) : ∃ a, o = some a ∧ b = f a := by
  cases o with
  | none => cases h
  | some a => exact ⟨a, rfl, (Option.some.inj h).symm⟩
theorem pyL_inv {d : D} {ds : List D} {ps : List PyData} (h : pyL (d :: ds) = some ps) : ∃ p qs, py d = some p ∧ pyL ds = some qs ∧ ps = p :: qs := by
  rw [pyL_cons] at h
  cases z : py d with
  | none => rw [z] at h; cases h
  | some p =>
    rw [z] at h
    cases z2 : pyL ds with
    | none => rw [z2] at h; cases h
    | some p2 => rw [z2] at h; exact ⟨p, p2, rfl, rfl, (Option.some.inj h).symm⟩
mutual
theorem R.dp {g : GC} {A : Addr → Prop} {H : Hp} : ∀ (d : D) (v : V) (p : PyData), R g A H d v → py d = some p → Dp g.K H v p
  | .non, v, p, r, q => by
    have e : PyData.none = p := Option.some.inj q
    rw [← e, show v = .non from r]; exact .non
  | .bl b, v, p, r, q => by
    have e : PyData.bool b = p := Option.some.inj q
    rw [← e, show v = .bl b from r]; exact .bl b
  | .int b, v, p, r, q => by
    have e : PyData.int b = p := Option.some.inj q
    rw [← e, show v = .int b from r]; exact .int b
  | .str b, v, p, r, q => by
    have e : PyData.str b = p := Option.some.inj q
    rw [← e, show v = .str b from r]; exact .str b
  | .tup ds, v, p, r, q => by
    obtain ⟨a, xs, e, h1, r⟩ := r
    rw [py_tup] at q
    obtain ⟨ps, z, e2⟩ := map_some q
    rw [e, e2]; exact .tup h1 (RL.dp ds xs ps r z)
  | .lst ds, v, p, r, q => by
    obtain ⟨a, xs, e, h1, n, r⟩ := r
    rw [py_lst] at q
    obtain ⟨ps, z, e2⟩ := map_some q
    rw [e, e2]; exact .lst (SqL.of h1) (RL.dp ds xs ps r z)
  | .ty _, _, _, _, q => by exact nomatch (show (none : Option PyData) = some _ from q)
  | .obj _ _, _, _, _, q => by exact nomatch (show (none : Option PyData) = some _ from q)
  | .scr _, _, _, _, q => by exact nomatch (show (none : Option PyData) = some _ from q)
  | .dct _ _, _, _, _, q => by exact nomatch (show (none : Option PyData) = some _ from q)
  | .exn _ _, _, _, _, q => by exact nomatch (show (none : Option PyData) = some _ from q)
theorem RL.dp {g : GC} {A : Addr → Prop} {H : Hp} : ∀ (ds : List D) (vs : List V) (ps : List PyData), RL g A H ds vs → pyL ds = some ps → DpAll g.K H vs ps
  | [], vs, ps, r, q => by
    have e : ([] : List PyData) = ps := Option.some.inj q
    rw [← e, show vs = [] from r]; exact .nil
  | d :: ds, vs, ps, r, q => by
    obtain ⟨y, ys, e, r, t⟩ := r
    obtain ⟨p, qs, z, z2, e2⟩ := pyL_inv q
    rw [e, e2]; exact .cons (R.dp d y p r z) (RL.dp ds ys qs t z2)
end
theorem Rt.dp {g : GC} {A : Addr → Prop} {H : Hp} (d : D) (v : V) (p : PyData) (r : Rt g A H d v) (q : py d = some p) : Dp g.K H v p := by
  cases d with
  | lst ds =>
    obtain ⟨a, xs, e, h1, r⟩ := r
    rw [py_lst] at q
    obtain ⟨ps, z, e2⟩ := map_some q
    rw [e, e2]; exact .lst (SqL.of h1) (RL.dp ds xs ps r z)
  | non => exact R.dp (A := A) _ v p r q
  | bl _ => exact R.dp (A := A) _ v p r q
  | int _ => exact R.dp (A := A) _ v p r q
  | str _ => exact R.dp (A := A) _ v p r q
  | ty _ => exact R.dp (A := A) _ v p r q
  | tup _ => exact R.dp (A := A) _ v p r q
  | obj _ _ => exact R.dp (A := A) _ v p r q
  | scr _ => exact R.dp (A := A) _ v p r q
  | dct _ _ => exact nomatch (show (none : Option PyData) = some _ from q)
  | exn _ _ => exact R.dp (A := A) _ v p r q
def eqData (d1 d2 : D) : Option Bool := match py d1 with
  | some p => (match py d2 with
    | some q => (if SeqAt.shaped p = true ∧ SeqAt.shaped q = true then some (PyData.eqv p q) else none)
    | none => none)
  | none => none
def sEq : D → D → Option Bool
  | .int i, .int j => some (decide (i = j))
  | .str i, .str j => some (decide (i = j))
  | .bl i, .bl j => some (decide (i = j))
  | _, _ => none
def bEq (d1 d2 : D) : Option Bool := match sEq d1 d2 with
  | some b => some b
  | none => eqData d1 d2
def dEq (d1 d2 : D) : Option D := (bEq d1 d2).map D.bl
def dNe (d1 d2 : D) : Option D := (bEq d1 d2).map fun b => D.bl (!b)
abbrev rEqAll (K : PySem.W.Frag) : R2 := fun x y H Q => rEq x y H Q ∨ rEqD K x y H Q
abbrev rNeAll (K : PySem.W.Frag) : R2 := fun x y H Q => rNe x y H Q ∨ rNeD K x y H Q
theorem or_eq {X : Cx} (hu : X.A.units + 64 < cLine) : OpR X (compareOp .Eq) (rEqAll X.K) := OpR.or op_eq (op_eqD hu)
theorem or_ne {X : Cx} (hu : X.A.units + 64 < cLine) : OpR X (compareOp .NotEq) (rNeAll X.K) := OpR.or op_ne (op_neD hu)
theorem sEq_cases {d1 d2 : D} {b : Bool} (q : sEq d1 d2 = some b) : (∃ i j, d1 = .int i ∧ d2 = .int j ∧ b = decide (i = j)) ∨ (∃ i j, d1 = .str i ∧ d2 = .str j ∧ b = decide (i = j)) ∨ (∃ i j, d1 = .bl i ∧ d2 = .bl j ∧ b = decide (i = j)) := by
  cases d1 with
  | int i => cases d2 with
    | int j => cases q; exact .inl ⟨_, _, rfl, rfl, rfl⟩
    | _ => cases q
  | str i => cases d2 with
    | str j => cases q; exact .inr (.inl ⟨_, _, rfl, rfl, rfl⟩)
    | _ => cases q
  | bl i => cases d2 with
    | bl j => cases q; exact .inr (.inr ⟨_, _, rfl, rfl, rfl⟩)
    | _ => cases q
  | _ => cases d2 <;> cases q
theorem eq_cases {d1 d2 : D} {b : Bool} (q : bEq d1 d2 = some b) : ((∃ i j, d1 = .int i ∧ d2 = .int j ∧ b = decide (i = j)) ∨ (∃ i j, d1 = .str i ∧ d2 = .str j ∧ b = decide (i = j)) ∨ (∃ i j, d1 = .bl i ∧ d2 = .bl j ∧ b = decide (i = j))) ∨
    ∃ p p', py d1 = some p ∧ py d2 = some p' ∧ SeqAt.shaped p = true ∧ SeqAt.shaped p' = true ∧ b = PyData.eqv p p' := by
  unfold bEq at q
  cases z : sEq d1 d2 with
  | some c => rw [z] at q; cases q; exact .inl (sEq_cases z)
  | none =>
    rw [z] at q
    have q : eqData d1 d2 = some b := q
    unfold eqData at q
    cases z1 : py d1 with
    | none => rw [z1] at q; cases q
    | some p =>
      rw [z1] at q
      cases z2 : py d2 with
      | none => rw [z2] at q; cases q
      | some p' =>
        rw [z2] at q
        have q : (if SeqAt.shaped p = true ∧ SeqAt.shaped p' = true then some (PyData.eqv p p') else none) = some b := q
        by_cases hs : SeqAt.shaped p = true ∧ SeqAt.shaped p' = true
        · rw [if_pos hs] at q; cases q; exact .inr ⟨p, p', rfl, rfl, hs.1, hs.2, rfl⟩
        · rw [if_neg hs] at q; cases q
theorem dec_of {α β : Type} [DecidableEq α] [DecidableEq β] (c : α → β) (inj : ∀ a b, c a = c b → a = b) (i j : α) : decide (c i = c j) = decide (i = j) := by
  by_cases h : i = j
  · subst h; simp
  · rw [decide_eq_false h, decide_eq_false (fun z => h (inj _ _ z))]
theorem os_eq {g : GC} : OS g (rEqAll g.K) dEq := fun A H d1 d2 d v1 v2 Q al r1 r2 q k => by
  unfold dEq at q
  cases z : bEq d1 d2 with
  | none => rw [z] at q; cases q
  | some b =>
    rw [z] at q; cases q
    rcases eq_cases z with (⟨i, j, rfl, rfl, rfl⟩ | ⟨i, j, rfl, rfl, rfl⟩ | ⟨i, j, rfl, rfl, rfl⟩) | ⟨p, p', e1, e2, s1, s2, rfl⟩
    · obtain rfl : v1 = .int i := r1; obtain rfl : v2 = .int j := r2
      exact .inl ⟨rfl, k _ H (Same.refl H) (by show V.bl _ = V.bl _; rw [dec_of V.int (fun _ _ z => by injection z) i j])⟩
    · obtain rfl : v1 = .str i := r1; obtain rfl : v2 = .str j := r2
      exact .inl ⟨rfl, k _ H (Same.refl H) (by show V.bl _ = V.bl _; rw [dec_of V.str (fun _ _ z => by injection z) i j])⟩
    · obtain rfl : v1 = .bl i := r1; obtain rfl : v2 = .bl j := r2
      exact .inl ⟨rfl, k _ H (Same.refl H) (by show V.bl _ = V.bl _; rw [dec_of V.bl (fun _ _ z => by injection z) i j])⟩
    · exact .inr ⟨p, p', Rt.dp d1 _ _ r1 e1, Rt.dp d2 _ _ r2 e2, s1, s2, k _ H (Same.refl H) rfl⟩
theorem os_ne {g : GC} : OS g (rNeAll g.K) dNe := fun A H d1 d2 d v1 v2 Q al r1 r2 q k => by
  unfold dNe at q
  cases z : bEq d1 d2 with
  | none => rw [z] at q; cases q
  | some b =>
    rw [z] at q; cases q
    rcases eq_cases z with (⟨i, j, rfl, rfl, rfl⟩ | ⟨i, j, rfl, rfl, rfl⟩ | ⟨i, j, rfl, rfl, rfl⟩) | ⟨p, p', e1, e2, s1, s2, rfl⟩
    · obtain rfl : v1 = .int i := r1; obtain rfl : v2 = .int j := r2
      exact .inl ⟨rfl, k _ H (Same.refl H) (by show V.bl _ = V.bl _; rw [dec_of V.int (fun _ _ z => by injection z) i j])⟩
    · obtain rfl : v1 = .str i := r1; obtain rfl : v2 = .str j := r2
      exact .inl ⟨rfl, k _ H (Same.refl H) (by show V.bl _ = V.bl _; rw [dec_of V.str (fun _ _ z => by injection z) i j])⟩
    · obtain rfl : v1 = .bl i := r1; obtain rfl : v2 = .bl j := r2
      exact .inl ⟨rfl, k _ H (Same.refl H) (by show V.bl _ = V.bl _; rw [dec_of V.bl (fun _ _ z => by injection z) i j])⟩
    · exact .inr ⟨p, p', Rt.dp d1 _ _ r1 e1, Rt.dp d2 _ _ r2 e2, s1, s2, k _ H (Same.refl H) rfl⟩
end Fw
namespace Fw
open L2 PyProof.Rows PySem PySem.Spec
/-! ## C1. truth, and, or, not, if -/
def dTru : D → Option Bool
  | .non => some false
  | .bl b => some b
  | .int i => some (i != 0)
  | .str x => if x.length ≤ 1000000 then some ((x.length : Int) != 0) else none
  | .lst xs => some (!xs.isEmpty)
  | .tup xs => some (!xs.isEmpty)
  | _ => none
theorem RL.isEmpty {g : GC} {A : Addr → Prop} {H : Hp} {ds : List D} {xs : List V} (r : RL g A H ds xs) : xs.isEmpty = ds.isEmpty := by
  cases ds with
  | nil => rw [show xs = [] from r]; rfl
  | cons d ds => obtain ⟨y, ys, e, _⟩ := r; rw [e]; rfl
theorem Rt.tru {g : GC} {A : Addr → Prop} {H : Hp} {d : D} {v : V} {b : Bool} (r : Rt g A H d v) (q : dTru d = some b) : TruV g.K v H b := by
  cases d with
  | non => rw [show v = .non from r]; cases q; rfl
  | bl c => rw [show v = .bl c from r]; cases q; rfl
  | int c => rw [show v = .int c from r]; cases q; rfl
  | str c =>
    rw [show v = .str c from r]
    simp only [dTru] at q
    by_cases h : c.length ≤ 1000000
    · rw [if_pos h] at q; cases q; exact ⟨Nat.le_trans h million, rfl⟩
    · rw [if_neg h] at q; cases q
  | lst ds =>
    obtain ⟨a, xs, e, h1, r⟩ := r
    rw [e]; cases q
    exact .inl ⟨xs, SqL.of h1, by rw [RL.isEmpty r]⟩
  | tup ds =>
    obtain ⟨a, xs, e, h1, r⟩ := r
    rw [e]; cases q
    exact .inr (.inl ⟨xs, h1, by rw [RL.isEmpty r]⟩)
  | _ => exact nomatch (show (none : Option Bool) = some b from q)
def mTru (a : Od) : M Bool := mO1 a fun d => mo (dTru d)
def mAnd (a b : M Bool) : M Bool := mb a fun c => if c = true then b else mp false
def mOr (a b : M Bool) : M Bool := mb a fun c => if c = true then mp true else b
def mNot (a : M Bool) : M Bool := mb a fun c => mp (!c)
def mIf {α : Type} (c : M Bool) (a b : M α) : M α := mb c fun c => if c = true then a else b
section
variable {g : GC} {X : Cx} {W : WK} {a b c : Expr} {rest : List Expr} {pos : Pos}
theorem ct_tru {m : Od} (h : CO g X W a m) (hK : X.K = g.K) (he : ∀ whole, isTrue a X.env whole = (do let v ← whole; standAt a.pos; holding [v] (truthy v))) : CT g X W a (mTru m) :=
  PT.imp (pt_truth h he) fun σ H Q ⟨f, A, e, F, h⟩ => Fin.b1 h F fun d1 e1 v1 H1 F1 S1 R1 h1 => by
    obtain ⟨b, q, h3⟩ := Fin.mo h1
    exact ⟨b, by rw [hK]; exact Rt.tru R1 q, h3 H1 F1 S1⟩
abbrev CW (g : GC) (X : Cx) (W : WK) (e : Expr) (m : M Bool) : Prop := PW X e (rdT g W m)
theorem PW.imp {X : Cx} {e : Expr} {t u : TT} (h : PW X e t) (i : ∀ σ H Q, u σ H Q → t σ H Q) : PW X e u := ⟨fun wh pins s σ H Q I q => h.run wh pins s σ H Q I (i _ _ _ q)⟩
theorem cw_one {op : BoolOp} {m : M Bool} (h : CT g X W a m) : (op = .And → CW g X W (.BoolOp .And [a] pos) m) ∧ (op = .Or → CW g X W (.BoolOp .Or [a] pos) m) := ⟨fun _ => pw_and1 h, fun _ => pw_or1 h⟩
theorem cw_and1 {m : M Bool} (h : CT g X W a m) : CW g X W (.BoolOp .And [a] pos) m := pw_and1 h
theorem cw_or1 {m : M Bool} (h : CT g X W a m) : CW g X W (.BoolOp .Or [a] pos) m := pw_or1 h
theorem t_and {m m' : M Bool} : ∀ σ H Q, rdT g W (mAnd m m') σ H Q → tAnd (rdT g W m) (rdT g W m') σ H Q := fun σ H Q ⟨f, A, e, F, h⟩ => by
  refine Fin.bT h F fun d e1 H1 F1 S1 h1 => ?_
  cases d with
  | true => exact ⟨f, A, e1, F1, by
      rw [if_pos rfl] at h1
      generalize m' e1 = r at h1
      cases r with
      | ok b e2 => exact fun H2 F2 S2 => h1 H2 F2 (S1.trans S2)
      | exc c d e2 => exact h1
      | bad => exact h1⟩
  | false => exact h1 H1 F1 S1
theorem t_or {m m' : M Bool} : ∀ σ H Q, rdT g W (mOr m m') σ H Q → tOr (rdT g W m) (rdT g W m') σ H Q := fun σ H Q ⟨f, A, e, F, h⟩ => by
  refine Fin.bT h F fun d e1 H1 F1 S1 h1 => ?_
  cases d with
  | false => exact ⟨f, A, e1, F1, by
      rw [if_neg Bool.false_ne_true] at h1
      generalize m' e1 = r at h1
      cases r with
      | ok b e2 => exact fun H2 F2 S2 => h1 H2 F2 (S1.trans S2)
      | exc c d e2 => exact h1
      | bad => exact h1⟩
  | true => exact h1 H1 F1 S1
theorem cw_and {m m' : M Bool} (ha : CT g X W a m) (hb : CW g X W (.BoolOp .And (b :: rest) pos) m') : CW g X W (.BoolOp .And (a :: b :: rest) pos) (mAnd m m') := PW.imp (pw_and ha hb) t_and
theorem cw_or {m m' : M Bool} (ha : CT g X W a m) (hb : CW g X W (.BoolOp .Or (b :: rest) pos) m') : CW g X W (.BoolOp .Or (a :: b :: rest) pos) (mOr m m') := PW.imp (pw_or ha hb) t_or
theorem ct_w {m : M Bool} (h : CW g X W a m) : CT g X W a m := PW.pt h
theorem ct_not {m : M Bool} (h : CT g X W a m) : CT g X W (.UnaryOp .Not a pos) (mNot m) := PT.imp (pt_not h) fun σ H Q ⟨f, A, e, F, h⟩ =>
  Fin.bT h F fun d e1 H1 F1 S1 h1 => h1 H1 F1 S1
/-- a continuation at a later heap -/
theorem rdE_go {f : Fx} {A : Addr → Prop} {σ : Sv} {H H1 : Hp} {e : Ev} {m : M D} {Q : VK} (F1 : FR g f A H1 σ e) (S1 : Step A H H1)
    (h : Fin g W f A σ H1 (fun d e' => ∀ v H', FR g f A H' σ e' → Step A H H' → R g A H' d v → Q v H') (m e)) : rdE g W m σ H1 Q := ⟨f, A, e, F1, by
  generalize m e = r at h
  cases r with
  | ok b e2 => exact fun v H2 F2 S2 r => h v H2 F2 (S1.trans S2) r
  | exc c d e2 => exact h
  | bad => exact h⟩
theorem rdF_go {f : Fx} {A : Addr → Prop} {σ : Sv} {H H1 : Hp} {e : Ev} {m : M (List D)} {Q : VK} (F1 : FR g f A H1 σ e) (S1 : Step A H H1)
    (h : Fin g W f A σ H1 (fun ds e' => ∀ p xs H', FR g f A H' σ e' → FR g f (add1 A p) H' σ e' → ¬ A p → Step A H H' → H p = none → H' p = some (.lst xs) → RL g (add1 A p) H' ds xs → Q (.ref p) H') (m e)) : rdF g W m σ H1 Q := ⟨f, A, e, F1, by
  generalize m e = r at h
  cases r with
  | ok b e2 => exact fun p xs H2 F2 F3 n S2 hn r => h p xs H2 F2 F3 n (S1.trans S2) (by
      cases z : H p with
      | none => rfl
      | some o => obtain ⟨o', q⟩ := S1.un p o z; rw [hn] at q; cases q) r
  | exc c d e2 => exact h
  | bad => exact h⟩
theorem c_if {mc : M Bool} {ma mb' : M D} (hc : CT g X W c mc) (ha : CE g X W a ma) (hb : CE g X W b mb') : CE g X W (.IfExp c a b pos) (mIf mc ma mb') := PE.imp (pe_ifExp hc ha hb) fun σ H Q ⟨f, A, e, F, h⟩ => by
  refine Fin.bT h F fun d e1 H1 F1 S1 h1 => ?_
  cases d with
  | true => rw [if_pos rfl]; rw [if_pos rfl] at h1; exact rdE_go F1 S1 h1
  | false => rw [if_neg Bool.false_ne_true]; rw [if_neg Bool.false_ne_true] at h1; exact rdE_go F1 S1 h1
theorem cf_if {mc : M Bool} {ma mb' : M (List D)} (hc : CT g X W c mc) (ha : CF g X W a ma) (hb : CF g X W b mb') : CF g X W (.IfExp c a b pos) (mIf mc ma mb') := PE.imp (pe_ifExp hc ha hb) fun σ H Q ⟨f, A, e, F, h⟩ => by
  refine Fin.bT h F fun d e1 H1 F1 S1 h1 => ?_
  cases d with
  | true => rw [if_pos rfl]; rw [if_pos rfl] at h1; exact rdF_go F1 S1 h1
  | false => rw [if_neg Bool.false_ne_true]; rw [if_neg Bool.false_ne_true] at h1; exact rdF_go F1 S1 h1
/-- a new list as a value -/
def mFr (m : M (List D)) : M D := mb m fun ds => mp (.lst ds)
theorem c_fr {m : M (List D)} (h : CF g X W a m) : CE g X W a (mFr m) := PE.imp h fun σ H Q ⟨f, A, e, F, h⟩ =>
  Fin.bF h F fun ds e1 p xs H1 F1 F2 n S1 hn hp r h1 => h1 _ H1 F1 S1 ⟨p, xs, rfl, hp, n, RL.mono ⟨F2.al, fun _ _ q _ => q, fun _ _ z _ => .inl z⟩ ds r⟩
/-! and, or, not as values, by truth -/
def mAndV (a b : M D) : M D := mb a fun x => mb (mo (dTru x)) fun c => if c = true then b else mp x
def mOrV (a b : M D) : M D := mb a fun x => mb (mo (dTru x)) fun c => if c = true then mp x else b
def mNotV (a : Od) : M D := mO1 a fun x => mb (mo (dTru x)) fun c => mp (.bl (!c))
theorem c_one {op : BoolOp} {m : M D} (h : CE g X W a m) : CE g X W (.BoolOp op [a] pos) m := pe_one h
theorem c_and {m m' : M D} (hK : X.K = g.K) (ha : CE g X W a m) (hb : CE g X W (.BoolOp .And (b :: rest) pos) m') : CE g X W (.BoolOp .And (a :: b :: rest) pos) (mAndV m m') := PE.imp (pe_andT ha hb) fun σ H Q ⟨f, A, e, F, h⟩ => by
  refine Fin.bE h F fun d1 e1 v1 H1 F1 S1 R1 h1 => ?_
  obtain ⟨k, q, h2⟩ := Fin.mo2 h1
  refine ⟨k, by rw [hK]; exact Rt.tru R1.rt q, ?_⟩
  cases k with
  | true => rw [if_pos rfl]; rw [if_pos rfl] at h2; exact rdE_go F1 S1 h2
  | false => rw [if_neg Bool.false_ne_true]; rw [if_neg Bool.false_ne_true] at h2; exact h2 v1 H1 F1 S1 R1
theorem c_or {m m' : M D} (hK : X.K = g.K) (ha : CE g X W a m) (hb : CE g X W (.BoolOp .Or (b :: rest) pos) m') : CE g X W (.BoolOp .Or (a :: b :: rest) pos) (mOrV m m') := PE.imp (pe_orT ha hb) fun σ H Q ⟨f, A, e, F, h⟩ => by
  refine Fin.bE h F fun d1 e1 v1 H1 F1 S1 R1 h1 => ?_
  obtain ⟨k, q, h2⟩ := Fin.mo2 h1
  refine ⟨k, by rw [hK]; exact Rt.tru R1.rt q, ?_⟩
  cases k with
  | false => rw [if_neg Bool.false_ne_true]; rw [if_neg Bool.false_ne_true] at h2; exact rdE_go F1 S1 h2
  | true => rw [if_pos rfl]; rw [if_pos rfl] at h2; exact h2 v1 H1 F1 S1 R1
theorem c_not {m : Od} (hK : X.K = g.K) (ha : CO g X W a m) : CE g X W (.UnaryOp .Not a pos) (mNotV m) := PE.imp (pe_notT ha) fun σ H Q ⟨f, A, e, F, h⟩ => Fin.b1 h F fun d1 e1 v1 H1 F1 S1 R1 h1 => by
  obtain ⟨k, q, h2⟩ := Fin.mo2 h1
  exact ⟨k, by rw [hK]; exact Rt.tru R1 q, h2 _ H1 F1 S1 rfl⟩
theorem c_chain {op op' : CmpOp} {r r' : R2} {o o' : D → D → Option D} {ma mb' mc : Od} (hr : OpR X (compareOp op) r) (hr' : OpR X (compareOp op') r') (ho : OS g r o) (ho' : OS g r' o') (ha : CO g X W a ma) (hb : CO g X W b mb') (hc : CO g X W c mc) (hm : lastMarks [op, op'] [b, c] = false)
    (hflat : ∀ x y d, o x y = some d → ∀ A A' H H' v, Rt g A H y v → Rt g A' H' y v) : CE g X W (.Compare a [op, op'] [b, c] pos) (mChain o o' ma mb' mc) :=
  PE.imp (pe_chain hr hr' ha hb hc hm) fun σ H Q ⟨f, A, e, F, h⟩ => Fin.b2 h F fun d1 d2 e2 v1 v2 H2 F2 S2 R1 R2 h2 => by
    obtain ⟨k, q, h3⟩ := Fin.mo2 h2
    cases z : o d1 d2 with
    | none => rw [z] at q; cases q
    | some d =>
      rw [z] at q
      refine ho A H2 d1 d2 d v1 v2 _ F2.al R1 R2 z fun v H3 s r => ?_
      cases d with
      | bl c =>
        cases q
        refine ⟨_, r, ?_⟩
        cases k with
        | true =>
          rw [if_pos rfl]
          have h4 : Fin g W f A σ H2 _ (mO1 mc (fun z => mo (o' d2 z)) e2) := h3
          refine Fin.b1 (h4.from (.of s)) (F2.same s) fun d3 e3 v3 H4 F4 S4 R3 h5 => ?_
          obtain ⟨d', q', h6⟩ := Fin.mo h5
          exact ho' A H4 d2 d3 d' v2 v3 Q F4.al (hflat d1 d2 _ z A A H2 H4 v2 R2) R3 q' fun v H5 s5 r5 => h6 v H5 (F4.same s5) (S2.trans ((Step.of s).trans (S4.trans (.of s5)))) r5
        | false =>
          rw [if_neg Bool.false_ne_true]
          exact h3 _ H3 (F2.same s) (S2.trans (.of s)) rfl
      | _ => cases q
theorem flatI {h : Int → Int → Option D} : ∀ x y d, dI h x y = some d → ∀ A A' H H' v, Rt g A H y v → Rt g A' H' y v := fun x y d q A A' H H' v r => by
  cases x with
  | int i => cases y with
    | int j => exact r
    | _ => cases q
  | _ => cases q
/-- an expression that gives a bool, as a test -/
def mVb (m : M D) : M Bool := mb m fun d => mo (dB d)
theorem ct_val {m : M D} (h : CE g X W a m) (he : ∀ whole, isTrue a X.env whole = (do let v ← whole; standAt a.pos; holding [v] (truthy v))) : CT g X W a (mVb m) := PT.imp (pt_val h he) fun σ H Q ⟨f, A, e, F, h⟩ => by
  refine Fin.bE h F fun d1 e1 v1 H1 F1 S1 R1 h1 => ?_
  obtain ⟨b, q, h3⟩ := Fin.mo h1
  cases d1 with
  | bl c => cases q; exact ⟨_, R1, h3 H1 F1 S1⟩
  | _ => cases q
/-- a test of chained comparisons -/
theorem ct_chain {op op' : CmpOp} {r r' : R2} {o o' : D → D → Option D} {ma mb' mc : Od} (hr : OpR X (compareOp op) r) (hr' : OpR X (compareOp op') r') (ho : OS g r o) (ho' : OS g r' o') (ha : CO g X W a ma) (hb : CO g X W b mb') (hc : CO g X W c mc) (hm : lastMarks [op, op'] [b, c] = false)
    (hflat : ∀ x y d, o x y = some d → ∀ A A' H H' v, Rt g A H y v → Rt g A' H' y v) : CT g X W (.Compare a [op, op'] [b, c] pos) (mVb (mChain o o' ma mb' mc)) :=
  PT.imp (pt_chain hr hr' ha hb hc hm) fun σ H Q h => by
    have key : ∀ Q', rdE g W (mChain o o' ma mb' mc) σ H Q' → tChain r r' (rdO g W ma) (rdO g W mb') (rdO g W mc) σ H Q' := fun Q' ⟨f, A, e, F, h⟩ => Fin.b2 h F fun d1 d2 e2 v1 v2 H2 F2 S2 R1 R2 h2 => by
      obtain ⟨k, q, h3⟩ := Fin.mo2 h2
      cases z : o d1 d2 with
      | none => rw [z] at q; cases q
      | some d =>
        rw [z] at q
        refine ho A H2 d1 d2 d v1 v2 _ F2.al R1 R2 z fun v H3 s r => ?_
        cases d with
        | bl c =>
          cases q
          refine ⟨_, r, ?_⟩
          cases k with
          | true =>
            rw [if_pos rfl]
            have h4 : Fin g W f A σ H2 _ (mO1 mc (fun z => mo (o' d2 z)) e2) := h3
            refine Fin.b1 (h4.from (.of s)) (F2.same s) fun d3 e3 v3 H4 F4 S4 R3 h5 => ?_
            obtain ⟨d', q', h6⟩ := Fin.mo h5
            exact ho' A H4 d2 d3 d' v2 v3 Q' F4.al (hflat d1 d2 _ z A A H2 H4 v2 R2) R3 q' fun v H5 s5 r5 => h6 v H5 (F4.same s5) (S2.trans ((Step.of s).trans (S4.trans (.of s5)))) r5
          | false =>
            rw [if_neg Bool.false_ne_true]
            exact h3 _ H3 (F2.same s) (S2.trans (.of s)) rfl
        | _ => cases q
    obtain ⟨f, A, e, F, h⟩ := h
    refine key _ (Fin.bE h F fun d1 e1 v1 H1 F1 S1 R1 h1 => ?_)
    obtain ⟨b, q, h3⟩ := Fin.mo h1
    cases d1 with
    | bl c => cases q; exact ⟨_, R1, h3 H1 F1 S1⟩
    | _ => cases q
/-! ## C2. arguments, displays -/
def mNil : M (List D) := mp []
def mCons (a : M D) (b : M (List D)) : M (List D) := mb a fun x => mb b fun y => mp (x :: y)
theorem ca_nil : CA g X W [] mNil := PA.imp pa_nil fun σ H Q ⟨f, A, e, F, h⟩ => h [] H F .refl rfl
theorem ca_cons {es : List Expr} {m : M D} {m' : M (List D)} (ha : CE g X W a m) (hr : CA g X W es m') (hs : starEach (a :: es) X.env = (false, eval a X.env) :: starEach es X.env := by rfl) : CA g X W (a :: es) (mCons m m') :=
  PA.imp (pa_cons ha hr hs) fun σ H Q ⟨f, A, e, F, h⟩ => by
    refine Fin.bE h F fun d1 e1 v1 H1 F1 S1 R1 h1 => ?_
    refine Fin.bA h1 F1 fun d2 e2 v2 H2 F2 S2 R2 h2 => ?_
    exact h2 (v1 :: v2) H2 F2 (S1.trans S2) ⟨v1, v2, rfl, F1.r S2 R1, R2⟩
def mTup (m : M (List D)) : M D := mb m fun ds => if ds.length ≤ 1000000 then mp (.tup ds) else fun _ => .bad
theorem Fin.ite {β : Type} {f : Fx} {A : Addr → Prop} {σ : Sv} {H : Hp} {ok : β → Ev → Prop} {e : Ev} {p : Prop} [Decidable p] {m : M β} (h : Fin g W f A σ H ok ((if p then m else fun _ => .bad) e)) : p ∧ Fin g W f A σ H ok (m e) := by
  by_cases q : p
  · rw [if_pos q] at h; exact ⟨q, h⟩
  · rw [if_neg q] at h; exact h.elim
theorem c_tup {es : List Expr} {m : M (List D)} {x1} (h : CA g X W es m) : CE g X W (.Tuple es x1 pos) (mTup m) := PE.imp (pe_tup h) fun σ H Q ⟨f, A, e, F, h⟩ => by
  refine Fin.bA h F fun d1 e1 v1 H1 F1 S1 R1 h1 => ?_
  obtain ⟨z, h2⟩ := Fin.ite h1
  refine ⟨by rw [RL.length R1]; exact Nat.le_trans z million, fun p hp => ?_⟩
  exact h2 _ _ (F1.same (Same.new hp)) (S1.trans (.of (Same.new hp))) ⟨p, v1, rfl, SqT.of upd_same, RL.mono (Mono.same F1.al (Same.new hp)) d1 R1⟩
def mLst (m : M (List D)) : M (List D) := mb m fun ds => if ds.length ≤ 1000000 then mp ds else fun _ => .bad
theorem FR.none_of {f : Fx} {A : Addr → Prop} {H H1 : Hp} {p : Addr} (S1 : Step A H H1) (hp : H1 p = none) : H p = none := by
  cases z : H p with
  | none => rfl
  | some o => obtain ⟨o', q⟩ := S1.un p o z; rw [hp] at q; cases q
theorem cf_lst {es : List Expr} {m : M (List D)} (h : CA g X W es m) : CF g X W (.List es pos) (mLst m) := PE.imp (pe_lst h) fun σ H Q ⟨f, A, e, F, h⟩ => by
  refine Fin.bA h F fun d1 e1 v1 H1 F1 S1 R1 h1 => ?_
  obtain ⟨z, h2⟩ := Fin.ite h1
  refine ⟨by rw [RL.length R1]; exact Nat.le_trans z million, fun p hp => ?_⟩
  exact h2 p v1 _ (F1.same (Same.new hp)) (F1.new hp) (F1.nA hp) (S1.trans (.of (Same.new hp))) (FR.none_of (f := f) S1 hp) upd_same (RL.mono (Mono.new F1 hp) d1 R1)
/-! ## C3. operand lists, calls of built-ins by values -/
def rdOs (g : GC) (W : WK) : List Od → TA
  | [] => tNil
  | o :: os => tCons (rdO g W o) (rdOs g W os)
abbrev COs (g : GC) (X : Cx) (W : WK) (es : List Expr) (os : List Od) : Prop := PA X es (rdOs g W os)
theorem co_nil : COs g X W [] [] := pa_nil
theorem co_cons {es : List Expr} {o : Od} {os : List Od} (ha : CO g X W a o) (hr : COs g X W es os) (hs : starEach (a :: es) X.env = (false, eval a X.env) :: starEach es X.env := by rfl) : COs g X W (a :: es) (o :: os) := pa_cons ha hr hs
def mA1 : List Od → M (List (Sum D Nat))
  | [] => mp []
  | .e m :: os => mb m fun d => mb (mA1 os) fun r => mp (.inl d :: r)
  | .n i :: os => mb (mN i) fun _ => mb (mA1 os) fun r => mp (.inr i :: r)
def mRes : List (Sum D Nat) → M (List D)
  | [] => mp []
  | .inl d :: r => mb (mRes r) fun ds => mp (d :: ds)
  | .inr i :: r => mb (mN i) fun d => mb (mRes r) fun ds => mp (d :: ds)
def mAs (os : List Od) : M (List D) := mb (mA1 os) mRes
def PL (g : GC) (A : Addr → Prop) (H : Hp) (σ : Sv) : List (Sum D Nat) → List V → Prop
  | [], vs => vs = []
  | .inl d :: r, vs => ∃ y ys, vs = y :: ys ∧ R g A H d y ∧ PL g A H σ r ys
  | .inr i :: r, vs => ∃ y ys, vs = y :: ys ∧ σ[i]? = some (some y) ∧ PL g A H σ r ys
theorem mb_assoc {α β γ : Type} (m : M α) (k : α → M β) (l : β → M γ) : mb (mb m k) l = mb m fun x => mb (k x) l := by
  funext e
  unfold mb
  cases m e <;> rfl
theorem mb_mp {α β : Type} (a : α) (k : α → M β) : mb (mp a) k = k a := rfl
section
variable {f : Fx} {A : Addr → Prop} {σ : Sv} {β : Type} {ok : β → Ev → Prop}
theorem bAs1 : ∀ (os : List Od) {H : Hp} {e : Ev} {k : List (Sum D Nat) → M β} {G : List V → Hp → Prop}, Fin g W f A σ H ok (mb (mA1 os) k e) → FR g f A H σ e →
    (∀ ps e1 vs H1, FR g f A H1 σ e1 → Step A H H1 → PL g A H1 σ ps vs → Fin g W f A σ H1 ok (k ps e1) → G vs H1) → rdOs g W os σ H G
  | [], H, e, k, G, h, F, go => go [] e [] H F .refl rfl h
  | .e m :: os, H, e, k, G, h, F, go => by
    unfold mA1 at h
    rw [mb_assoc] at h
    refine Fin.bE h F fun d1 e1 v1 H1 F1 S1 R1 h1 => ?_
    rw [mb_assoc] at h1
    exact bAs1 os h1 F1 fun ps e2 vs H2 F2 S2 p2 h2 => go (.inl d1 :: ps) e2 (v1 :: vs) H2 F2 (S1.trans S2) ⟨v1, vs, rfl, F1.r S2 R1, p2⟩ h2
  | .n i :: os, H, e, k, G, h, F, go => by
    unfold mA1 at h
    rw [mb_assoc] at h
    obtain ⟨d, v1, hv, _, h1⟩ := Fin.bN h F
    rw [mb_assoc] at h1
    exact ⟨v1, hv, bAs1 os h1 F fun ps e2 vs H2 F2 S2 p2 h2 => go (.inr i :: ps) e2 (v1 :: vs) H2 F2 S2 ⟨v1, vs, rfl, hv, p2⟩ h2⟩
theorem bRes : ∀ (ps : List (Sum D Nat)) {H : Hp} {e : Ev} {k : List D → M β} {vs : List V}, Fin g W f A σ H ok (mb (mRes ps) k e) → FR g f A H σ e → PL g A H σ ps vs → ∃ ds, RtL g A H ds vs ∧ Fin g W f A σ H ok (k ds e)
  | [], H, e, k, vs, h, F, p => ⟨[], p, h⟩
  | .inl d :: r, H, e, k, vs, h, F, ⟨y, ys, e1, r1, p⟩ => by
    unfold mRes at h
    rw [mb_assoc] at h
    obtain ⟨ds, r2, h2⟩ := bRes r h F p
    exact ⟨d :: ds, ⟨y, ys, e1, r1.rt, r2⟩, h2⟩
  | .inr i :: r, H, e, k, vs, h, F, ⟨y, ys, e1, r1, p⟩ => by
    unfold mRes at h
    rw [mb_assoc] at h
    obtain ⟨d, v, hv, rt, h1⟩ := Fin.bN h F
    rw [mb_assoc] at h1
    obtain ⟨ds, r2, h2⟩ := bRes r h1 F p
    rw [hv] at r1; cases r1
    exact ⟨d :: ds, ⟨_, ys, e1, rt, r2⟩, h2⟩
theorem Fin.bAs {os : List Od} {H : Hp} {e : Ev} {k : List D → M β} {G : List V → Hp → Prop} (h : Fin g W f A σ H ok (mb (mAs os) k e)) (F : FR g f A H σ e)
    (go : ∀ ds e1 vs H1, FR g f A H1 σ e1 → Step A H H1 → RtL g A H1 ds vs → Fin g W f A σ H1 ok (k ds e1) → G vs H1) : rdOs g W os σ H G := by
  unfold mAs at h
  rw [mb_assoc] at h
  refine bAs1 os h F fun ps e1 vs H1 F1 S1 p1 h1 => ?_
  obtain ⟨ds, r, h2⟩ := bRes ps h1 F1 p1
  exact go ds e1 vs H1 F1 S1 r h2
end
def mCB (op : List D → Option D) (os : List Od) : M D := mb (mAs os) fun ds => mo (op ds)
def mCF (op : List D → Option (List D)) (os : List Od) : M (List D) := mb (mAs os) fun ds => mo (op ds)
theorem t_cb {r : List V → Hp → VK → Prop} {op : List D → Option D} {m : List Od} (ho : LS g r op) : ∀ σ H Q, rdE g W (mCB op m) σ H Q → tCB r (rdOs g W m) σ H Q := fun σ H Q ⟨f, A, e, F, h⟩ =>
  Fin.bAs h F fun d1 e1 v1 H1 F1 S1 R1 h1 => by
    obtain ⟨d, q, h2⟩ := Fin.mo h1
    exact ho A H1 d1 d v1 Q F1.al R1 q fun v H2 s r => h2 v H2 (F1.same s) (S1.trans (.of s)) r
theorem FR.new' {f : Fx} {A : Addr → Prop} {H H' : Hp} {σ : Sv} {e : Ev} (F : FR g f A H σ e) {p : Addr} {xs : List V} (h : H p = none) (s : Same H H') (hp : H' p = some (.lst xs)) : FR g f (add1 A p) H' σ e :=
  F.ext s (fun _ z => .inl z) (fun a o z q => z.elim id fun z => by rw [z, h] at q; cases q) (fun a z n => z.elim (fun z => absurd z n) fun z => ⟨.lst xs, by rw [z]; exact hp, rfl⟩)
theorem t_cf {r : List V → Hp → VK → Prop} {op : List D → Option (List D)} {m : List Od} (ho : FS g r op) : ∀ σ H Q, rdF g W (mCF op m) σ H Q → tCB r (rdOs g W m) σ H Q := fun σ H Q ⟨f, A, e, F, h⟩ =>
  Fin.bAs h F fun d1 e1 v1 H1 F1 S1 R1 h1 => by
    obtain ⟨d, q, h2⟩ := Fin.mo h1
    exact ho A H1 d1 d v1 Q F1.al R1 q fun p xs H' hp s _ hl r => h2 p xs H' (F1.same s) (F1.new' hp s hl) (F1.nA hp) (S1.trans (.of s)) (FR.none_of (f := f) S1 hp) hl (RL.mono ⟨F1.al, fun a u q _ => s a u q, fun a u z q => z.elim id fun z => by rw [z, hp] at q; cases q⟩ d r)
section
variable {id : String} {r : List V → Hp → VK → Prop} {x : Str} {es : List Expr} {op : List D → Option D} {opf : List D → Option (List D)} {m : List Od} {p : Pos}
theorem c_cb (hc : CallR X (.builtin id) r) (ho : LS g r op) (hg : Gl X x) (hm : X.mg x = none) (hv : bootBuiltins x = some (.builtin id)) (ha : COs g X W (a :: es) m)
    (hn : x ≠ "__name__") (hdb : (x == ("__debug__" : Str)) = false) (he : starEach (a :: es) X.env = (false, eval a X.env) :: starEach es X.env := by rfl) (hpl : (backTo pos (starEach es X.env)).any (·.1) = false := by rfl) : CE g X W (.Call (.Name x p) (a :: es) [] pos) (mCB op m) :=
  PE.imp (pe_callB hc hg hm hv ha hn hdb he hpl) (t_cb ho)
theorem c_ct (hc : CallR X (.type id) r) (ho : LS g r op) (hg : Gl X x) (hm : X.mg x = none) (hv : bootBuiltins x = some (.type id)) (ha : COs g X W (a :: es) m)
    (hn : x ≠ "__name__") (hdb : (x == ("__debug__" : Str)) = false) (he : starEach (a :: es) X.env = (false, eval a X.env) :: starEach es X.env := by rfl) (hpl : (backTo pos (starEach es X.env)).any (·.1) = false := by rfl) : CE g X W (.Call (.Name x p) (a :: es) [] pos) (mCB op m) :=
  PE.imp (pe_callTy hc hg hm hv ha hn hdb he hpl) (t_cb ho)
theorem cf_cb (hc : CallR X (.builtin id) r) (ho : FS g r opf) (hg : Gl X x) (hm : X.mg x = none) (hv : bootBuiltins x = some (.builtin id)) (ha : COs g X W (a :: es) m)
    (hn : x ≠ "__name__") (hdb : (x == ("__debug__" : Str)) = false) (he : starEach (a :: es) X.env = (false, eval a X.env) :: starEach es X.env := by rfl) (hpl : (backTo pos (starEach es X.env)).any (·.1) = false := by rfl) : CF g X W (.Call (.Name x p) (a :: es) [] pos) (mCF opf m) :=
  PE.imp (pe_callB hc hg hm hv ha hn hdb he hpl) (t_cf ho)
theorem cf_ct (hc : CallR X (.type id) r) (ho : FS g r opf) (hg : Gl X x) (hm : X.mg x = none) (hv : bootBuiltins x = some (.type id)) (ha : COs g X W (a :: es) m)
    (hn : x ≠ "__name__") (hdb : (x == ("__debug__" : Str)) = false) (he : starEach (a :: es) X.env = (false, eval a X.env) :: starEach es X.env := by rfl) (hpl : (backTo pos (starEach es X.env)).any (·.1) = false := by rfl) : CF g X W (.Call (.Name x p) (a :: es) [] pos) (mCF opf m) :=
  PE.imp (pe_callTy hc hg hm hv ha hn hdb he hpl) (t_cf ho)
end
end
end Fw
namespace Fw
open L2 PyProof.Rows PySem PySem.Spec
/-! ## D1. blocks -/
def mSq (a b : M Fl) : M Fl := fun e => match a e with
  | .ok .nx e' => b e'
  | r => r
section
variable {g : GC} {X : Cx} {W : WK} {st : Stmt} {rest : List Stmt} {ex : Expr} {pos : Pos}
theorem cb_nil : CB g X W [] (mp .nx) := PSs.imp pss_nil fun D σ H ⟨f, A, e, F, h⟩ => h A σ H F (Mono.refl F.al)
theorem t_seq {a b : M Fl} : ∀ D σ H, rdS g W (mSq a b) D σ H → tSeq (rdS g W a) (rdS g W b) D σ H := fun D σ H ⟨f, A, e, F, h⟩ => by
  refine ⟨f, A, e, F, ?_⟩
  unfold mSq at h
  cases q : a e with
  | ok fl e1 =>
    rw [q] at h
    cases fl with
    | nx => exact fun A' σ' H' F' m => ⟨f, A', e1, F', h.from m⟩
    | bk => exact h
    | ct => exact h
    | rt d => exact h
    | rb d => exact h
  | exc c d e1 => rw [q] at h; exact h
  | bad => rw [q] at h; exact h
theorem cb_cons {a b : M Fl} (h1 : CS g X W st a) (h2 : CB g X W rest b) : CB g X W (st :: rest) (mSq a b) := PSs.imp (pss_cons h1 h2) t_seq
theorem cb_one {a : M Fl} (h1 : CS g X W st a) : CB g X W [st] a := pss_one h1
theorem cs_pass : CS g X W (.Pass pos) (mp .nx) := PS.imp ps_pass fun D σ H ⟨f, A, e, F, h⟩ => h A σ H F (Mono.refl F.al)
theorem cs_break : CS g X W (.Break pos) (mp .bk) := PS.imp ps_break fun D σ H ⟨f, A, e, F, h⟩ => h A σ H F (Mono.refl F.al)
theorem cs_cont : CS g X W (.Continue pos) (mp .ct) := PS.imp ps_continue fun D σ H ⟨f, A, e, F, h⟩ => h A σ H F (Mono.refl F.al)
/-- never come to -/
theorem cs_bad : CS g X W st (fun _ => .bad) := PS.imp ps_never fun D σ H ⟨f, A, e, F, h⟩ => h
theorem cb_bad : CB g X W rest (fun _ => .bad) := PSs.imp pss_never fun D σ H ⟨f, A, e, F, h⟩ => h
def mEx (m : M D) : M Fl := mb m fun _ => mp .nx
theorem cs_expr {m : M D} (h : CE g X W ex m) (hs : swapsWith ex none pos.line X.env = pure false := by rfl) : CS g X W (.Expr ex pos) (mEx m) := PS.imp (ps_expr h hs) fun D σ H ⟨f, A, e, F, h⟩ =>
  FinS.bE h F fun d e1 v H1 F1 S1 r h1 => h1 A σ H1 F1 (Mono.refl F1.al)
def mRet (m : M D) : M Fl := mb m fun d => mp (.rt d)
theorem cs_ret {m : M D} (h : CE g X W ex m) : CS g X W (.Return (some ex) pos) (mRet m) := PS.imp (ps_ret h) fun D σ H ⟨f, A, e, F, h⟩ =>
  FinS.bE h F fun d e1 v H1 F1 S1 r h1 => h1 A σ H1 v F1 (Mono.refl F1.al) r
theorem cs_retN : CS g X W (.Return none pos) (mp (.rt .non)) := PS.imp ps_retN fun D σ H ⟨f, A, e, F, h⟩ => h A σ H .non F (Mono.refl F.al) rfl
theorem FR.h0 {f : Fx} {A : Addr → Prop} {H : Hp} {σ : Sv} {e : Ev} (F : FR g f A H σ e) {p : Addr} (h : H p = none) : f.H0 p = none := by
  cases z : f.H0 p with
  | none => rfl
  | some o =>
    have : H p = some o := F.keep p o z fun i q => F.nA h (F.ob p (F.pb i p q).1)
    rw [h] at this; cases this
/-- box slots hold avoided addresses -/
theorem FR.boxA {f : Fx} {A : Addr → Prop} {H : Hp} {σ : Sv} {e : Ev} (F : FR g f A H σ e) {i : Nat} {s : Sl} {p : Addr} (h : e[i]? = some s) (hb : s.isBox = true) (hs : σ[i]? = some (some (.ref p))) : A p := by
  have q := F.sl i s _ h hs
  cases s with
  | emp => cases hb
  | val d => cases hb
  | box d => obtain ⟨_, p', e1, h1, _⟩ := q; cases e1; exact h1
  | pbox d => obtain ⟨p', _, e1, h1, _⟩ := q; cases e1; exact h1
def mRetF (m : M (List D)) : M Fl := mb m fun d => mp (.rb d)
theorem mono_new {f : Fx} {A : Addr → Prop} {H H1 : Hp} {σ : Sv} {e : Ev} (F : FR g f A H σ e) {p : Addr} (S1 : Step A H H1) (hn : H p = none) : Mono A H (add1 A p) H1 :=
  ⟨F.al, S1.st, fun a o z q => z.elim id fun z => by rw [z, hn] at q; cases q⟩
theorem cs_retF {m : M (List D)} (h : CF g X W ex m) : CS g X W (.Return (some ex) pos) (mRetF m) := PS.imp (ps_ret h) fun D σ H ⟨f, A, e, F, h⟩ =>
  FinS.bF h F fun ds e1 p xs H1 F1 F2 n S1 hn hp r h1 => h1 (add1 A p) σ H1 p xs F2 (mono_new F S1 hn) (.inr rfl) (F.h0 hn) (fun i s q hb hs => n (F1.boxA q hb hs)) hp r
def mRetB (i : Nat) : M Fl := fun e => match e[i]? with
  | some (.box (.lst ds)) => .ok (.rb ds) (e.set i .emp)
  | some (.val d) => .ok (.rt d) e
  | _ => .bad
theorem get_set {α : Type} {l : List α} {i j : Nat} {x y : α} (h : (l.set i x)[j]? = some y) : (i = j ∧ i < l.length ∧ y = x) ∨ (i ≠ j ∧ l[j]? = some y) := by
  by_cases q : i = j
  · subst q
    by_cases hl : i < l.length
    · rw [List.getElem?_set_self hl] at h; exact .inl ⟨rfl, hl, (Option.some.inj h).symm⟩
    · rw [List.getElem?_eq_none (by rw [List.length_set]; omega)] at h; cases h
  · rw [List.getElem?_set_ne q] at h; exact .inr ⟨q, h⟩
/-- a slot is emptied -/
theorem FR.emp {f : Fx} {A : Addr → Prop} {H : Hp} {σ : Sv} {e : Ev} (F : FR g f A H σ e) {i : Nat} (h : f.pa i = none) : FR g f A H σ (e.set i .emp) where
  len := by rw [List.length_set]; exact F.len
  sl := fun j s o h1 h2 => by
    rcases get_set h1 with ⟨rfl, _, rfl⟩ | ⟨_, h1⟩
    · exact h
    · exact F.sl j s o h1 h2
  inj := fun a b s t p h1 h2 b1 b2 s1 s2 => by
    rcases get_set h1 with ⟨_, _, rfl⟩ | ⟨_, h1⟩
    · cases b1
    · rcases get_set h2 with ⟨_, _, rfl⟩ | ⟨_, h2⟩
      · cases b2
      · exact F.inj a b s t p h1 h2 b1 b2 s1 s2
  nt := fun a s p h1 b1 s1 => by
    rcases get_set h1 with ⟨_, _, rfl⟩ | ⟨_, h1⟩
    · cases b1
    · exact F.nt a s p h1 b1 s1
  tp := F.tp
  ob := F.ob
  ob0 := F.ob0
  pb := fun i p q => by rw [List.length_set]; exact F.pb i p q
  al := F.al
  keep := F.keep
theorem cs_retB (i : Nat) {x : Str} {p : Pos} (h : PE X (.Name x p) (tVar i)) : CS g X W (.Return (some (.Name x p)) pos) (mRetB i) := PS.imp (ps_ret h) fun D σ H ⟨f, A, e, F, h⟩ => by
  unfold mRetB at h
  split at h
  · rename_i ds q
    obtain ⟨o, h1, h2, p, h3, hA, h0, xs, h4, h5⟩ := F.at q
    refine ⟨.ref p, by rw [h1, h3], h A σ H p xs (F.emp h2) (Mono.refl F.al) hA h0 (fun j s hj hb hs => ?_) h4 h5⟩
    rcases get_set hj with ⟨_, _, rfl⟩ | ⟨ne, hj⟩
    · cases hb
    · exact ne (F.inj i j _ s p q hj rfl hb (by rw [h1, h3]) hs)
  · rename_i d q
    obtain ⟨o, h1, _, v, h3, h5⟩ := F.at q
    exact ⟨v, by rw [h1, h3], h A σ H v F (Mono.refl F.al) h5⟩
  · exact h.elim
theorem cs_if {c : Expr} {a b : List Stmt} {mc : M Bool} {ma mb' : M Fl} (hc : CT g X W c mc) (ha : CB g X W a ma) (hb : CB g X W b mb') : CS g X W (.If c a b pos) (mIf mc ma mb') := PS.imp (ps_if hc ha hb) fun D σ H ⟨f, A, e, F, h⟩ =>
  FinS.bT h F fun d e1 H1 F1 S1 h1 => by
    cases d with
    | true => exact ⟨f, A, e1, F1, h1⟩
    | false => exact ⟨f, A, e1, F1, h1⟩
/-! ## D2. stores to names -/
def setV (i : Nat) (d : D) : M Unit := fun e => match e[i]? with
  | some (.pbox _) => .bad
  | some _ => .ok () (e.set i (.val d))
  | none => .bad
def setB (i : Nat) (d : D) : M Unit := fun e => match e[i]? with
  | some (.pbox _) => .bad
  | some _ => .ok () (e.set i (.box d))
  | none => .bad
theorem FR.pa0 {f : Fx} {A : Addr → Prop} {H : Hp} {σ : Sv} {e : Ev} (F : FR g f A H σ e) {i : Nat} {s : Sl} (h : e[i]? = some s) (n : ∀ d, s ≠ .pbox d) : f.pa i = none := by
  obtain ⟨o, _, q⟩ := F.at h
  cases s with
  | emp => exact q
  | val d => exact q.1
  | box d => exact q.1
  | pbox d => exact absurd rfl (n d)
theorem FR.setV {f : Fx} {A : Addr → Prop} {H : Hp} {σ : Sv} {e : Ev} (F : FR g f A H σ e) {i : Nat} {d : D} {v : V} (h : f.pa i = none) (r : R g A H d v) : FR g f A H (σ.set i (some v)) (e.set i (.val d)) where
  len := by rw [List.length_set, List.length_set]; exact F.len
  sl := fun j s o h1 h2 => by
    rcases get_set h1 with ⟨rfl, _, rfl⟩ | ⟨n, h1⟩
    · rcases get_set h2 with ⟨_, _, rfl⟩ | ⟨n, _⟩
      · exact ⟨h, v, rfl, r⟩
      · exact absurd rfl n
    · rw [List.getElem?_set_ne n] at h2
      exact F.sl j s o h1 h2
  inj := fun a b s t p h1 h2 b1 b2 s1 s2 => by
    rcases get_set h1 with ⟨_, _, rfl⟩ | ⟨n1, h1⟩
    · cases b1
    · rcases get_set h2 with ⟨_, _, rfl⟩ | ⟨n2, h2⟩
      · cases b2
      · rw [List.getElem?_set_ne n1] at s1; rw [List.getElem?_set_ne n2] at s2
        exact F.inj a b s t p h1 h2 b1 b2 s1 s2
  nt := fun a s p h1 b1 s1 => by
    rcases get_set h1 with ⟨_, _, rfl⟩ | ⟨n1, h1⟩
    · cases b1
    · rw [List.getElem?_set_ne n1] at s1
      exact F.nt a s p h1 b1 s1
  tp := F.tp
  ob := F.ob
  ob0 := F.ob0
  pb := fun i p q => by rw [List.length_set]; exact F.pb i p q
  al := F.al
  keep := F.keep
theorem setV_inv {f : Fx} {A : Addr → Prop} {H : Hp} {σ : Sv} {e : Ev} (F : FR g f A H σ e) {i : Nat} {d : D} : Fw.setV i d e = .bad ∨ (f.pa i = none ∧ Fw.setV i d e = .ok () (e.set i (.val d))) := by
  unfold Fw.setV
  cases q : e[i]? with
  | none => exact .inl rfl
  | some s =>
    cases s with
    | pbox d => exact .inl rfl
    | emp => exact .inr ⟨F.pa0 q (fun _ z => by cases z), rfl⟩
    | val d => exact .inr ⟨F.pa0 q (fun _ z => by cases z), rfl⟩
    | box d => exact .inr ⟨F.pa0 q (fun _ z => by cases z), rfl⟩
theorem FR.setB {f : Fx} {A : Addr → Prop} {H : Hp} {σ : Sv} {e : Ev} {p : Addr} (F0 : FR g f A H σ e) (F : FR g f (add1 A p) H σ e) {i : Nat} {d : D} (h : f.pa i = none) (nA : ¬ A p) (h0 : f.H0 p = none) (r : Bx g (add1 A p) H d p) : FR g f (add1 A p) H (σ.set i (some (.ref p))) (e.set i (.box d)) where
  len := by rw [List.length_set, List.length_set]; exact F.len
  sl := fun j s o h1 h2 => by
    rcases get_set h1 with ⟨rfl, _, rfl⟩ | ⟨n, h1⟩
    · rcases get_set h2 with ⟨_, _, rfl⟩ | ⟨n, _⟩
      · exact ⟨h, p, rfl, .inr rfl, h0, r⟩
      · exact absurd rfl n
    · rw [List.getElem?_set_ne n] at h2
      exact F.sl j s o h1 h2
  inj := fun a b s t q h1 h2 b1 b2 s1 s2 => by
    rcases get_set h1 with ⟨rfl, l1, rfl⟩ | ⟨n1, h1⟩
    · rcases get_set h2 with ⟨rfl, _, rfl⟩ | ⟨n2, h2⟩
      · rfl
      · rw [List.getElem?_set_ne n2] at s2
        rw [List.getElem?_set_self (by rw [F.len]; exact l1)] at s1
        cases s1
        exact absurd (F0.boxA h2 b2 s2) nA
    · rw [List.getElem?_set_ne n1] at s1
      rcases get_set h2 with ⟨rfl, l2, rfl⟩ | ⟨n2, h2⟩
      · rw [List.getElem?_set_self (by rw [F.len]; exact l2)] at s2
        cases s2
        exact absurd (F0.boxA h1 b1 s1) nA
      · rw [List.getElem?_set_ne n2] at s2
        exact F.inj a b s t q h1 h2 b1 b2 s1 s2
  nt := fun a s q h1 b1 s1 => by
    rcases get_set h1 with ⟨rfl, l1, rfl⟩ | ⟨n1, h1⟩
    · rw [List.getElem?_set_self (by rw [F.len]; exact l1)] at s1
      cases s1
      cases z : f.T p with
      | none => rfl
      | some o => exact absurd (F0.tp p o z).1 nA
    · rw [List.getElem?_set_ne n1] at s1
      exact F.nt a s q h1 b1 s1
  tp := F.tp
  ob := F.ob
  ob0 := F.ob0
  pb := fun i p q => by rw [List.length_set]; exact F.pb i p q
  al := F.al
  keep := F.keep
def mSet (i : Nat) (m : M D) : M Fl := mb m fun d => mb (Fw.setV i d) fun _ => mp .nx
def mSetB (i : Nat) (m : M (List D)) : M Fl := mb m fun d => mb (Fw.setB i (.lst d)) fun _ => mp .nx
theorem cs_set (i : Nat) {x : Str} {m : M D} {p : Pos} (h : PS X (.Assign [.Name x p] ex pos) (tAsg (rdE g W m) (gName i))) : CS g X W (.Assign [.Name x p] ex pos) (mSet i m) := PS.imp h fun D σ H ⟨f, A, e, F, h⟩ =>
  FinS.bE h F fun d e1 v H1 F1 S1 r h1 => by
    rcases setV_inv F1 (i := i) (d := d) with q | ⟨hp, q⟩
    · unfold mb at h1; rw [q] at h1; exact h1.elim
    · unfold mb at h1; rw [q] at h1; exact h1 A _ H1 (F1.setV hp r) (Mono.refl F1.al)
theorem setB_inv {f : Fx} {A : Addr → Prop} {H : Hp} {σ : Sv} {e : Ev} (F : FR g f A H σ e) {i : Nat} {d : D} : Fw.setB i d e = .bad ∨ (f.pa i = none ∧ Fw.setB i d e = .ok () (e.set i (.box d))) := by
  unfold Fw.setB
  cases q : e[i]? with
  | none => exact .inl rfl
  | some s =>
    cases s with
    | pbox d => exact .inl rfl
    | emp => exact .inr ⟨F.pa0 q (fun _ z => by cases z), rfl⟩
    | val d => exact .inr ⟨F.pa0 q (fun _ z => by cases z), rfl⟩
    | box d => exact .inr ⟨F.pa0 q (fun _ z => by cases z), rfl⟩
theorem cs_setB (i : Nat) {x : Str} {m : M (List D)} {p : Pos} (h : PS X (.Assign [.Name x p] ex pos) (tAsg (rdF g W m) (gName i))) : CS g X W (.Assign [.Name x p] ex pos) (mSetB i m) := PS.imp h fun D σ H ⟨f, A, e, F, h⟩ =>
  FinS.bF h F fun ds e1 p xs H1 F1 F2 n S1 hn hp r h1 => by
    rcases setB_inv F1 (i := i) (d := .lst ds) with q | ⟨hpa, q⟩
    · unfold mb at h1; rw [q] at h1; exact h1.elim
    · unfold mb at h1; rw [q] at h1
      exact h1 (add1 A p) _ H1 (F1.setB F2 hpa n (F.h0 hn) ⟨xs, hp, r⟩) (mono_new F S1 hn)
/-! a box becomes a value -/
def mUb (i : Nat) (m : M Fl) : M Fl := fun e => match e[i]? with
  | some (.box (.lst d)) => m (e.set i (.val (.lst d)))
  | _ => m e
theorem Bx.r {A A' : Addr → Prop} {H : Hp} {p : Addr} (m : Mono A H A' H) (n : ¬ A' p) {ds : List D} : Bx g A H (.lst ds) p → R g A' H (.lst ds) (.ref p)
  | ⟨xs, h, r⟩ => ⟨p, xs, rfl, h, n, RL.mono m ds r⟩
theorem FR.unbox {f : Fx} {A : Addr → Prop} {H : Hp} {σ : Sv} {e : Ev} (F : FR g f A H σ e) {i : Nat} {d : List D} (h : e[i]? = some (.box (.lst d))) : ∃ A', FR g f A' H σ (e.set i (.val (.lst d))) ∧ Mono A H A' H := by
  obtain ⟨o, h1, h2, p, h3, hA, h0, hb⟩ := F.at h
  have m : Mono A H (fun a => A a ∧ a ≠ p) H := ⟨F.al, fun _ _ q _ => q, fun _ _ z _ => z.1⟩
  refine ⟨fun a => A a ∧ a ≠ p, ⟨by rw [List.length_set]; exact F.len, fun j s o' q1 q2 => ?_, fun a b s t q q1 q2 b1 b2 s1 s2 => ?_, fun a s q q1 b1 s1 => ?_, fun a u z => ⟨⟨(F.tp a u z).1, fun q => by rw [q, F.nt i _ p h rfl (by rw [h1, h3])] at z; cases z⟩, (F.tp a u z).2⟩, fun a z => ⟨F.ob a z, fun q => ?_⟩, F.ob0, fun i p q => by rw [List.length_set]; exact F.pb i p q, fun a z => F.al a z.1, F.keep⟩, m⟩
  · rcases get_set q1 with ⟨rfl, _, rfl⟩ | ⟨n, q1⟩
    · rw [h1] at q2; cases q2
      exact ⟨h2, _, h3, Bx.r m (fun z => z.2 rfl) hb⟩
    · have q3 := F.sl j s o' q1 q2
      have np : ∀ p', s.isBox = true → o' = some (.ref p') → p' ≠ p := fun p' hb' eo z => n (F.inj i j _ s p h q1 rfl hb' (by rw [h1, h3]) (by rw [q2, eo, z]))
      cases s with
      | emp => exact q3
      | val d => obtain ⟨a, v, b, c⟩ := q3; exact ⟨a, v, b, R.mono m d c⟩
      | box d => obtain ⟨a, p', b, c, c0, dd⟩ := q3; exact ⟨a, p', b, ⟨c, np p' rfl b⟩, c0, Bx.mono m (fun _ z => z) dd⟩
      | pbox d => obtain ⟨p', a, b, c, dd⟩ := q3; exact ⟨p', a, b, ⟨c, np p' rfl b⟩, Bx.mono m (fun _ z => z) dd⟩
  · rcases get_set q1 with ⟨_, _, rfl⟩ | ⟨_, q1⟩
    · cases b1
    · rcases get_set q2 with ⟨_, _, rfl⟩ | ⟨_, q2⟩
      · cases b2
      · exact F.inj a b s t q q1 q2 b1 b2 s1 s2
  · rcases get_set q1 with ⟨_, _, rfl⟩ | ⟨_, q1⟩
    · cases b1
    · exact F.nt a s q q1 b1 s1
  · obtain ⟨o, q2⟩ := F.ob0 a z
    rw [q, h0] at q2; cases q2
theorem t_ub {i : Nat} {m : M Fl} : ∀ D σ H, rdS g W (mUb i m) D σ H → rdS g W m D σ H := fun D σ H ⟨f, A, e, F, h⟩ => by
  unfold mUb at h
  split at h
  · rename_i d q
    obtain ⟨A', F', m'⟩ := F.unbox q
    exact ⟨f, A', _, F', h.from m'⟩
  · exact ⟨f, A, e, F, h⟩
theorem cs_ub (i : Nat) {m : M Fl} (h : CS g X W st m) : CS g X W st (mUb i m) := PS.imp h t_ub
theorem cb_ub (i : Nat) {m : M Fl} (h : CB g X W rest m) : CB g X W rest (mUb i m) := PSs.imp h t_ub
end
end Fw
namespace Fw
open L2 PyProof.Rows PySem PySem.Spec
/-! ## E1. while -/
def mWh (c : M Bool) (b : M Fl) : Nat → M Fl
  | 0 => fun _ => .bad
  | n + 1 => fun e => match c e with
    | .ok true e1 => (match b e1 with
      | .ok .nx e2 => mWh c b n e2
      | .ok .ct e2 => mWh c b n e2
      | .ok .bk e2 => .ok .nx e2
      | r => r)
    | .ok false e1 => .ok .nx e1
    | .exc k d e1 => .exc k d e1
    | .bad => .bad
section
variable {g : GC} {X : Cx} {W : WK} {st : Stmt} {rest : List Stmt} {ex : Expr} {pos : Pos}
theorem cs_while (n : Nat) {c : Expr} {body : List Stmt} {mc : M Bool} {mb' : M Fl} (hp : PassesOwn (model X.prog X.w) X.A X.env X.xe) (hc : CT g X W c mc) (hb : CB g X W body mb') : CS g X W (.While c body [] pos) (mWh mc mb' n) :=
  PS.imp (ps_while hp hc hb) fun D σ H ⟨f, A, e, F, h⟩ => by
    refine ⟨fun m σ' H' => ∃ A' e', FR g f A' H' σ' e' ∧ FinS g W f A' H' D (mWh mc mb' m e'), ⟨n, A, e, F, h⟩, ?_⟩
    rintro m σ H ⟨A, e, F, h⟩
    cases m with
    | zero => exact h.elim
    | succ m =>
      unfold mWh at h
      refine ⟨f, A, e, F, ?_⟩
      cases q : mc e with
      | ok b e1 =>
        rw [q] at h
        intro H1 F1 S1
        cases b with
        | true =>
          rw [if_pos rfl]
          refine ⟨fun σ' H' => ∃ A' e', FR g f A' H' σ' e' ∧ FinS g W f A' H' D (mWh mc mb' m e'), fun σ' H' h' => ⟨m, Nat.lt_succ_self m, h'⟩, f, A, e1, F1, ?_⟩
          have h : FinS g W f A H D (match mb' e1 with
            | .ok .nx e2 => mWh mc mb' m e2
            | .ok .ct e2 => mWh mc mb' m e2
            | .ok .bk e2 => .ok .nx e2
            | r => r) := h
          have h := h.from (F.mono S1)
          cases q2 : mb' e1 with
          | ok fl e2 =>
            rw [q2] at h
            cases fl with
            | nx => exact fun A' σ' H' F' m' => ⟨A', e2, F', h.from m'⟩
            | ct => exact fun A' σ' H' F' m' => ⟨A', e2, F', h.from m'⟩
            | bk => exact fun A' σ' H' F' m' => h A' σ' H' F' m'
            | rt d => exact h
            | rb d => exact h
          | exc k d e2 => rw [q2] at h; exact h
          | bad => rw [q2] at h; exact h.elim
        | false =>
          rw [if_neg Bool.false_ne_true]
          exact h A σ H1 F1 (F.mono S1)
      | exc k d e1 =>
        rw [q] at h
        exact fun cls dd H' F' S x => h A σ cls dd H' F' (F.mono S) x
      | bad => rw [q] at h; exact h.elim
/-! ## E2. targets -/
def FinG (g : GC) (f : Fx) (A : Addr → Prop) (σ : Sv) (H : Hp) (sl : List Nat) (Q : Sv → Hp → Prop) : Rs Unit → Prop
  | .ok _ e' => ∀ σ' H', FR g f A H' σ' e' → Step A H H' → (∀ j : Nat, j ∉ sl → σ'[j]? = σ[j]?) → σ'.length = σ.length → Q σ' H'
  | _ => False
/-- a target; sl: the slots that it stores to -/
def rdG (g : GC) (sl : List Nat) (bd : D → M Unit) : TG := fun v σ H Q => ∃ f A e d, FR g f A H σ e ∧ R g A H d v ∧ FinG g f A σ H sl Q (bd d e)
def rdGs (g : GC) (sl : List Nat) (bd : List D → M Unit) : TGs := fun vs σ H Q => ∃ f A e ds, FR g f A H σ e ∧ RL g A H ds vs ∧ FinG g f A σ H sl Q (bd ds e)
abbrev CG (g : GC) (X : Cx) (e : Expr) (sl : List Nat) (bd : D → M Unit) : Prop := PG X e (rdG g sl bd)
abbrev CGs (g : GC) (X : Cx) (e : List Expr) (sl : List Nat) (bd : List D → M Unit) : Prop := PGs X e (rdGs g sl bd)
theorem PG.imp {X : Cx} {e : Expr} {t u : TG} (h : PG X e t) (i : ∀ v σ H Q, u v σ H Q → t v σ H Q) : PG X e u := ⟨fun pins s σ H v u' Q I r q => h.run pins s σ H v u' Q I r (i _ _ _ _ q)⟩
theorem PGs.imp {X : Cx} {e : List Expr} {t u : TGs} (h : PGs X e t) (i : ∀ v σ H Q, u v σ H Q → t v σ H Q) : PGs X e u := ⟨fun pins s σ H v u' Q I r q => h.run pins s σ H v u' Q I r (i _ _ _ _ q)⟩
theorem cg_name (i : Nat) {x : Str} {p : Pos} (h : PG X (.Name x p) (gName i)) : CG g X (.Name x p) [i] (Fw.setV i) := PG.imp h fun v σ H Q ⟨f, A, e, d, F, r, h⟩ => by
  rcases setV_inv F (i := i) (d := d) with q | ⟨hp, q⟩
  · rw [q] at h; exact h.elim
  · rw [q] at h; exact h _ H (F.setV hp r) .refl (fun j hj => List.getElem?_set_ne (by simpa using Ne.symm (by simpa using hj))) (List.length_set)
def gsNil : List D → M Unit
  | [] => mp ()
  | _ => fun _ => .bad
def gsCons (b : D → M Unit) (bs : List D → M Unit) : List D → M Unit
  | d :: ds => mb (b d) fun _ => bs ds
  | [] => fun _ => .bad
def gTupD (n : Nat) (bs : List D → M Unit) : D → M Unit
  | .tup ds => if ds.length = n then bs ds else fun _ => .bad
  | _ => fun _ => .bad
theorem cgs_nil : CGs g X [] [] gsNil := PGs.imp pgs_nil fun vs σ H Q ⟨f, A, e, ds, F, r, h⟩ => by
  cases ds with
  | nil => exact ⟨r, h σ H F .refl (fun _ _ => rfl) rfl⟩
  | cons d ds => exact h.elim
theorem cgs_cons {e : Expr} {es : List Expr} {l1 l2 : List Nat} {b : D → M Unit} {bs : List D → M Unit} (h1 : CG g X e l1 b) (h2 : CGs g X es l2 bs) (hs : (assignEach (e :: es) X.env).map (·.2) = assign e X.env :: (assignEach es X.env).map (·.2) := by rfl) : CGs g X (e :: es) (l1 ++ l2) (gsCons b bs) :=
  PGs.imp (pgs_cons h1 h2 hs) fun vs σ H Q ⟨f, A, e, ds, F, r, h⟩ => by
    cases ds with
    | nil => exact h.elim
    | cons d ds =>
      obtain ⟨y, ys, e1, r1, r2⟩ := r
      refine ⟨y, ys, e1, f, A, e, d, F, r1, ?_⟩
      have h : FinG g f A σ H (l1 ++ l2) Q (mb (b d) (fun _ => bs ds) e) := h
      unfold mb at h
      cases q : b d e with
      | ok u e1 =>
        rw [q] at h
        refine fun σ' H' F' m sm ln => ⟨f, A, e1, ds, F', F.rl m r2, ?_⟩
        have h : FinG g f A σ H (l1 ++ l2) Q (bs ds e1) := h
        generalize bs ds e1 = rs at h
        cases rs with
        | ok u2 e2 => exact fun σ2 H2 F2 m2 sm2 ln2 => h σ2 H2 F2 (m.trans m2) (fun j hj => (sm2 j fun z => hj (List.mem_append_right _ z)).trans (sm j fun z => hj (List.mem_append_left _ z))) (ln2.trans ln)
        | exc _ _ _ => exact h
        | bad => exact h
      | exc _ _ _ => rw [q] at h; exact h
      | bad => rw [q] at h; exact h
theorem cg_tup {es : List Expr} {k : Nat} {sl : List Nat} {bs : List D → M Unit} {n : Nat} {p : Pos} (hc : X.calm = true) (hK : X.K = g.K) (h : CGs g X es sl bs) (hn : (assignEach es X.env).length = n := by rfl) (hst : (assignEach es X.env).findIdx? (·.1) = none := by rfl) : CG g X (.Tuple es k p) sl (gTupD n bs) :=
  PG.imp (pg_tup hc h hn hst) fun v σ H Q ⟨f, A, e, d, F, r, h⟩ => by
    cases d with
    | tup ds =>
      obtain ⟨a, xs, e1, h1, r⟩ := r
      have h : FinG g f A σ H sl Q ((if ds.length = n then bs ds else fun _ => .bad) e) := h
      by_cases hl : ds.length = n
      · rw [if_pos hl] at h
        exact ⟨a, xs, e1, by rw [hK]; exact h1, by rw [RL.length r]; exact hl, f, A, e, ds, F, r, h⟩
      · rw [if_neg hl] at h; exact h.elim
    | _ => exact h.elim
/-- target = value -/
def mAsg (m : M D) (bd : D → M Unit) : M Fl := mb m fun d e => match bd d e with
  | .ok _ e' => .ok .nx e'
  | _ => .bad
theorem cs_asg {tg : Expr} {m : M D} {sl : List Nat} {bd : D → M Unit} (he : CE g X W ex m) (hg : CG g X tg sl bd) (hs : swapsWithSole [tg] ex pos.line X.env = pure false := by rfl) (hw : swappedStores [tg] ex X.env = pure none := by rfl)
    (h1 : (assignEach [tg] X.env).map (·.2) = [assign tg X.env] := by rfl) : CS g X W (.Assign [tg] ex pos) (mAsg m bd) := PS.imp (ps_asg he hg hs hw h1) fun D σ H ⟨f, A, e, F, h⟩ =>
  FinS.bE h F fun d e1 v H1 F1 S1 r h1 => by
    refine ⟨f, A, e1, d, F1, r, ?_⟩
    cases q : bd d e1 with
    | ok u e2 => simp only [q] at h1; exact fun σ' H' F' m _ _ => h1 A σ' H' F' (F1.mono m)
    | exc c k e' => simp only [q] at h1; exact h1
    | bad => simp only [q] at h1; exact h1
/-! ## E3. for -/
/-- an iterator J over the items ds, from (A, H) on -/
def Wlk (g : GC) (A : Addr → Prop) (H : Hp) (J : It) (ds : List D) : Prop := ∀ (A' : Addr → Prop) (H' : Hp) (i : Nat), Mono A H A' H' → Al A' H' →
  (∀ d, ds[i]? = some d → J.go i H' ∧ ∀ x H2, J.yld i H' x H2 → Same H' H2 ∧ R g A' H2 d x) ∧ (ds.length ≤ i → J.stop i H')
def rdI (g : GC) (W : WK) (m : M (List D)) : TI := fun σ H Rk => ∃ f A e, FR g f A H σ e ∧ Fin g W f A σ H (fun ds e' => ∀ J H', FR g f A H' σ e' → Step A H H' → Wlk g A H' J ds → Rk J H') (m e)
abbrev CI (g : GC) (X : Cx) (W : WK) (tg it : Expr) (m : M (List D)) : Prop := PI X tg it (rdI g W m)
theorem PI.imp {X : Cx} {tg it : Expr} {t u : TI} (h : PI X tg it t) (i : ∀ σ H Q, u σ H Q → t σ H Q) : PI X tg it u := ⟨fun pins s σ H Rk I q => h.run pins s σ H Rk I (i _ _ _ q)⟩
def mFl (bd : D → M Unit) (b : M Fl) : List D → M Fl
  | [] => mp .nx
  | d :: ds => fun e => match bd d e with
    | .ok _ e1 => (match b e1 with
      | .ok .nx e2 => mFl bd b ds e2
      | .ok .ct e2 => mFl bd b ds e2
      | .ok .bk e2 => .ok .nx e2
      | r => r)
    | _ => .bad
def mFor (mi : M (List D)) (bd : D → M Unit) (b : M Fl) : M Fl := mb mi fun ds => mFl bd b ds
theorem FinS.bI {f : Fx} {A : Addr → Prop} {σ : Sv} {H : Hp} {e : Ev} {E : Ends} {ma : M (List D)} {k : List D → M Fl} (h : FinS g W f A H E (mb ma k e)) (F : FR g f A H σ e) {G : It → Hp → Prop}
    (go : ∀ ds e1 J H1, FR g f A H1 σ e1 → Step A H H1 → Wlk g A H1 J ds → FinS g W f A H1 E (k ds e1) → G J H1) : rdI g W ma σ H G := by
  refine ⟨f, A, e, F, ?_⟩
  unfold mb at h
  cases q : ma e with
  | ok d e1 => rw [q] at h; exact fun J H1 F1 S1 r => go d e1 J H1 F1 S1 r (h.from (F.mono S1))
  | exc c d e1 => rw [q] at h; exact fun cls dd H' F' S x => h _ _ cls dd H' F' (F.mono S) x
  | bad => rw [q] at h; exact h
theorem cs_for {tg iter : Expr} {body : List Stmt} {mi : M (List D)} {bd : D → M Unit} {mb' : M Fl} (hp : PassesOwn (model X.prog X.w) X.A X.env X.xe) (hc : X.calm = true) (hi : CI g X W tg iter mi) {sl : List Nat} (hg : CG g X tg sl bd) (hb : CB g X W body mb')
    (hs : ∀ x, foldedSetIterable iter X.env x = pure x := by intro _; rfl) : CS g X W (.For tg iter body [] pos) (mFor mi bd mb') := PS.imp (ps_for hp hc hi hg hb hs) fun D σ H ⟨f, A, e, F, h⟩ =>
  FinS.bI h F fun ds e1 J H1 F1 S1 wk h1 => by
    refine ⟨fun i m σ' H' => m = ds.length - i ∧ i ≤ ds.length ∧ ∃ A' e', FR g f A' H' σ' e' ∧ Mono A H1 A' H' ∧ FinS g W f A' H' D (mFl bd mb' (ds.drop i) e'), ⟨ds.length, rfl, Nat.zero_le _, A, e1, F1, Mono.refl F1.al, h1⟩, ?_⟩
    rintro i m σ2 H2 ⟨rfl, hi, A2, e2, F2, M2, h2⟩
    obtain ⟨w1, w2⟩ := wk A2 H2 i M2 F2.al
    by_cases hlt : i < ds.length
    · right
      have hd : ds[i]? = some ds[i] := List.getElem?_eq_getElem hlt
      obtain ⟨g1, g2⟩ := w1 _ hd
      refine ⟨g1, fun σ' H' => ∃ A' e', FR g f A' H' σ' e' ∧ Mono A H1 A' H' ∧ FinS g W f A' H' D (mFl bd mb' (ds.drop (i + 1)) e'), fun σ' H' q => ⟨ds.length - (i + 1), by omega, rfl, hlt, q⟩, fun x H3 y => ?_⟩
      obtain ⟨s3, r3⟩ := g2 x H3 y
      have F3 := F2.same s3
      have M3 : Mono A2 H2 A2 H3 := Mono.same F2.al s3
      refine ⟨f, A2, e2, ds[i], F3, r3, ?_⟩
      rw [List.drop_eq_getElem_cons hlt] at h2
      have h2 := h2.from M3
      unfold mFl at h2
      cases q : bd ds[i] e2 with
      | ok u e3 =>
        rw [q] at h2
        intro σ4 H4 F4 S4 _ _
        have M4 := F3.mono S4
        have h2 : FinS g W f A2 H3 D (match mb' e3 with
            | .ok .nx e2 => mFl bd mb' (ds.drop (i + 1)) e2
            | .ok .ct e2 => mFl bd mb' (ds.drop (i + 1)) e2
            | .ok .bk e2 => .ok .nx e2
            | r => r) := h2
        have h4 := h2.from M4
        have MM : Mono A H1 A2 H4 := M2.trans (M3.trans M4)
        refine ⟨f, A2, e3, F4, ?_⟩
        cases q2 : mb' e3 with
        | ok fl e4 =>
          rw [q2] at h4
          cases fl with
          | nx => exact fun A' σ' H' F' m' => ⟨A', e4, F', MM.trans m', h4.from m'⟩
          | ct => exact fun A' σ' H' F' m' => ⟨A', e4, F', MM.trans m', h4.from m'⟩
          | bk => exact fun A' σ' H' F' m' => h4 A' σ' H' F' m'
          | rt d => exact h4
          | rb d => exact h4
        | exc k d e4 => rw [q2] at h4; exact h4
        | bad => rw [q2] at h4; exact h4.elim
      | exc c d e' => rw [q] at h2; exact h2.elim
      | bad => rw [q] at h2; exact h2.elim
    · have e0 : i = ds.length := by omega
      left
      refine ⟨w2 (by omega), ?_⟩
      rw [e0, List.drop_length] at h2
      exact h2 A2 σ2 H2 F2 (Mono.refl F2.al)
end
end Fw
namespace Fw
open L2 PyProof.Rows PySem PySem.Spec
/-! ## F1. a def's promise, where no repr is under way -/
structure FnG (P : Program) (w : World) (K : PySem.W.Frag) (mg : Str → Option Value) (base : Heap) (k : Nat) (f : Addr) (fd : FuncData) (ps : List Str) (sp : Sp) : Prop where
  len : ∀ vs H Q E, sp vs H Q E → vs.length = ps.length
  run : ∀ (A : Around) (outer : List Env) (s : Shared) (H : Hp) (args : Args) (us : List Value) (vs : List V) (Q : VK) (E : XK), Room k A → A.guards = some [] →
    Env0 P w K mg base A outer s H → BindsTo s fd args (ps.zip us) → Vals vs us → sp vs H Q E → codeAny (model P w) A (.call (.ref f) args) (CR (L2.CX P w) outer P w H s Q E) s
theorem FnG.mono {P : Program} {w : World} {K : PySem.W.Frag} {mg : Str → Option Value} {base : Heap} {j k : Nat} {f : Addr} {fd : FuncData} {ps : List Str} {sp : Sp} (F : FnG P w K mg base j f fd ps sp) (h : j ≤ k) : FnG P w K mg base k f fd ps sp :=
  ⟨F.len, fun A o s H as us vs Q E r => F.run A o s H as us vs Q E (r.mono h)⟩
theorem guards_deeper (A : Around) (env : Env) : (A.deeper env).guards = A.guards := rfl
theorem FnG.of {P : Program} {w : World} {K : PySem.W.Frag} {mg : Str → Option Value} {base : Heap} {x qual : Str} {params : Arguments} {body : List Stmt} {scope : Scope} {dvs : List V} {kws : List (Str × V)} {f : Addr} {fd : FuncData} {N ps : List Str} {k : Nat} {sp : Sp}
    (F : FunD K x qual params body scope dvs kws f fd) (S : FnScope N ps scope) (len : ∀ vs H Q E, sp vs H Q E → vs.length = ps.length)
    (hbody : ∀ (cdv : Value) (A : Around) (outer : List Env) (s : Shared) (H : Hp) (vs : List V) (Q : VK) (E : XK), Room k (A.deeper (envOfC qual scope s.heap.objs.size f cdv)) → A.guards = some [] → sp vs H Q E →
      ∃ t, PSs (cxOf (L2.CX P w) P w K mg base N qual scope f cdv A outer s H E) body t ∧ t ⟨fun _ H' => Q .non H', Q, fun _ _ => False, fun _ _ => False⟩ (L2.start N vs) H) : FnG P w K mg base (k + 1) f fd ps sp := by
  obtain ⟨oc, od, dV, kV, doc, pm, an, cdv, ct, osl, rfl, lk, hcd, _, _⟩ := F.ex
  refine ⟨len, fun A outer s H args us vs Q E room gd ev binds rel hsp => ?_⟩
  have kin : K.In s.heap := ev.mod.kin.keeps fun b o q => (ev.bs b o q).1
  refine codeAny_call_function room.depth (kin _ _ lk) rfl S.co S.gen rfl (PySem.W.codeRec_of kin hcd) (binds _ _ _ _ ?_)
  refine wpAny_newFunctionEnv_cells S.kind (fun ⟨n, v⟩ hy => ?_) fun env he s1 ic => ?_
  · exact (S.par n (List.of_mem_zip hy).1).imp id fun q => ⟨q, PySem.W.cellsFrom_some _ _ _ (.inl q)⟩
  · subst he
    refine ⟨(ev.mod.nolimit.keeps fun b o q => (ev.bs b o q).1).keeps ic.toInCall.keep, codeAny_func ?_⟩
    obtain ⟨t, ht, hq⟩ := hbody cdv A outer s H vs Q E (room.deeper _) gd hsp
    refine wpAny_mono (ht.run [] s1 (L2.start N vs) H _ (inv_start S room.hd ev (len _ _ _ _ hsp) rel ic) hq) (fun fl s' z => ?_) fun _ _ z => z
    cases fl with
    | ret u => obtain ⟨v, σ', H', J, rv, q⟩ := z; exact ⟨v, H', J.os, J.bare, J.base, J.hok, rv, q⟩
    | next => obtain ⟨σ', H', J, q⟩ := z; exact ⟨.non, H', J.os, J.bare, J.base, J.hok, rfl, q⟩
    | brk => obtain ⟨_, _, _, q⟩ := z; exact q.elim
    | cont => obtain ⟨_, _, _, q⟩ := z; exact q.elim
section
variable {X : Cx} {k : Nat} {f : Addr} {fd : FuncData} {ps : List Str} {sp : Sp} {W : WK} {x : Str} {p pos : Pos} {e : Expr} {es : List Expr} {t : TA}
theorem run_g {pins : List (Addr × Obj)} {σ : Sv} {H : Hp} {s : Shared} {Q : VK} {args : Args} {us : List Value} {vs : List V} (F : FnG X.prog X.w X.K X.mg X.base k f fd ps sp) (hr : Room k X.A) (gd : X.A.guards = some []) (tk : Takes X W)
    (I : Inv X pins σ H s) (hb : BindsTo s fd args (ps.zip us)) (r : Vals vs us) (h : sp vs H Q (WE W σ)) : wpAny (model X.prog X.w) X.A (call (.ref f) args.pos args.kw) (EP X pins σ Q) X.xe s := by
  refine wpAny_call (codeAny_mono (F.run X.A X.stack s H args us vs Q (WE W σ) hr gd I.env0 hb r h) fun r s' hq => ?_)
  cases r with
  | error e => exact passAt tk σ pins H s e s' I hq
  | ok fl => cases fl with
    | ret u => exact I.after hq
    | next => exact hq.elim
    | brk => exact hq.elim
    | cont => exact hq.elim
/-- f(e, ..) -/
def tCg (sp : Sp) (W : WK) (t : TA) : TE := fun σ H Q => t σ H fun vs H1 => sp vs H1 Q (WE W σ)
theorem pe_callG (F : FnG X.prog X.w X.K X.mg X.base k f fd ps sp) (hr : Room k X.A) (gd : X.A.guards = some []) (hg : Gl X x) (hm : X.mg x = some (.ref f)) (hk : PySem.W.keepIn X.K (.ref f) = true) (hb : Binds X.K fd ps []) (tk : Takes X W) (ha : PA X (e :: es) t)
    (hdb : (x == ("__debug__" : Str)) = false) (he : starEach (e :: es) X.env = (false, eval e X.env) :: starEach es X.env := by rfl) (hpl : (backTo pos (starEach es X.env)).any (·.1) = false := by rfl) : PE X (.Call (.Name x p) (e :: es) [] pos) (tCg sp W t) := by
  refine ⟨fun pins s σ H Q I h => wpAny_Call_Name_kw (ld_glob I hg hm ?_ hdb)⟩
  refine PySem.W.callWith_K (h₀ := X.base) I.ok.mod.kin hk (thn (ha.run pos pins s σ H _ I h) fun us s1 ⟨vs, H1, I1, r, q⟩ => ⟨I1.kIn, ?_⟩) he hpl
  have hl : us.length = ps.length := by rw [← r.length]; exact F.len _ _ _ _ q
  have b := hb s1 us I1.kIn (by rw [List.append_nil]; exact hl)
  rw [List.append_nil] at b
  exact run_g (args := ⟨us, []⟩) F hr gd tk I1 b r q
theorem pe_callG0 (F : FnG X.prog X.w X.K X.mg X.base k f fd [] sp) (hr : Room k X.A) (gd : X.A.guards = some []) (hg : Gl X x) (hm : X.mg x = some (.ref f)) (hk : PySem.W.keepIn X.K (.ref f) = true) (hb : Binds X.K fd [] []) (tk : Takes X W)
    (hdb : (x == ("__debug__" : Str)) = false) : PE X (.Call (.Name x p) [] [] pos) (tCg sp W tNil) := by
  refine ⟨fun pins s σ H Q I h => wpAny_Call_Name_kw (ld_glob I hg hm ?_ hdb)⟩
  exact PySem.W.callWith_K0 I.kIn hk (run_g (args := ⟨[], []⟩) F hr gd tk I (hb s [] I.kIn rfl) .nil h)
end
/-! ## F2. defs by what they compute -/
inductive RV where
  | v (d : D) | b (ds : List D)
abbrev Fn := List Sl → Rs RV
def mkFn (np nl : Nat) (body : M Fl) : Fn := fun as => if as.length = np then
  (match body (as ++ List.replicate (nl - np) .emp) with
  | .ok (.rt d) e => .ok (.v d) (e.take np)
  | .ok (.rb ds) e => .ok (.b ds) (e.take np)
  | .ok .nx e => .ok (.v .non) (e.take np)
  | .exc c d e => .exc c d (e.take np)
  | _ => .bad) else .bad
def Sl.isP : Sl → Bool
  | .pbox _ => true
  | _ => false
/-- the arguments -/
def ArgR (g : GC) (OB : Addr → Prop) (H : Hp) : Sl → V → Prop
  | .val d, v => R g OB H d v
  | .pbox d, v => ∃ p, v = .ref p ∧ OB p ∧ Bx g OB H d p
  | _, _ => False
structure ArgsR (g : GC) (OB : Addr → Prop) (H : Hp) (as : List Sl) (vs : List V) : Prop where
  len : as.length = vs.length
  rel : ∀ (i : Nat) s v, as[i]? = some s → vs[i]? = some v → ArgR g OB H s v
  inj : ∀ (i j : Nat) s t (p : Addr), as[i]? = some s → as[j]? = some t → s.isP = true → t.isP = true → vs[i]? = some (.ref p) → vs[j]? = some (.ref p) → i = j
structure PostA (g : GC) (OB OB' : Addr → Prop) (H H' : Hp) (as as' : List Sl) (vs : List V) : Prop where
  keep : ∀ a o, H a = some o → (∀ (i : Nat) s, as[i]? = some s → s.isP = true → vs[i]? ≠ some (.ref a)) → H' a = some o
  box : ∀ (i : Nat) d, as[i]? = some (.pbox d) → ∃ d' p, as'[i]? = some (.pbox d') ∧ vs[i]? = some (.ref p) ∧ Bx g OB' H' d' p
  al : Al OB H'
def FinA (g : GC) (OB : Addr → Prop) (H : Hp) (as : List Sl) (vs : List V) (Q : VK) (E : XK) : Rs RV → Prop
  | .ok (.v d) as' => ∀ v H', PostA g OB OB H H' as as' vs → R g OB H' d v → Q v H'
  | .ok (.b ds) as' => ∀ p xs H', PostA g OB (add1 OB p) H H' as as' vs → H p = none → H' p = some (.lst xs) → RL g (add1 OB p) H' ds xs → Q (.ref p) H'
  | .exc c d as' => ∀ cls dd H', PostA g OB OB H H' as as' vs → ExR g OB H' c d cls dd → E cls dd H'
  | .bad => False
def spF (g : GC) (np : Nat) (fn : Fn) : Sp := fun vs H Q E => vs.length = np ∧ ∃ OB as, Al OB H ∧ ArgsR g OB H as vs ∧ FinA g OB H as vs Q E (fn as)
def fxOf (OB : Addr → Prop) (H : Hp) (as : List Sl) (vs : List V) : Fx := ⟨fun _ => none, OB, fun i => match as[i]? with
  | some (.pbox _) => (match vs[i]? with
    | some (.ref p) => some p
    | _ => none)
  | _ => none, H⟩
theorem fxOf_pa {OB : Addr → Prop} {H : Hp} {as : List Sl} {vs : List V} {i : Nat} {p : Addr} (h : (fxOf OB H as vs).pa i = some p) : ∃ d, as[i]? = some (.pbox d) ∧ vs[i]? = some (.ref p) := by
  simp only [fxOf] at h
  cases q : as[i]? with
  | none => rw [q] at h; cases h
  | some s =>
    rw [q] at h
    cases s with
    | pbox d =>
      cases q2 : vs[i]? with
      | none => simp only [q2] at h; cases h
      | some v =>
        simp only [q2] at h
        cases v with
        | ref a => cases h; exact ⟨d, rfl, rfl⟩
        | _ => cases h
    | _ => cases h
theorem fxOf_none {OB : Addr → Prop} {H : Hp} {as : List Sl} {vs : List V} {i : Nat} (h : ∀ d, as[i]? ≠ some (.pbox d)) : (fxOf OB H as vs).pa i = none := by
  cases z : (fxOf OB H as vs).pa i with
  | none => rfl
  | some p => obtain ⟨d, q, _⟩ := fxOf_pa z; exact absurd q (h d)
section
variable {g : GC}
theorem start_get {N : List Str} {vs : List V} {i : Nat} {o : Option V} (h : (L2.start N vs)[i]? = some o) : (∃ v, vs[i]? = some v ∧ o = some v) ∨ (vs.length ≤ i ∧ o = none) := by
  unfold L2.start at h
  by_cases hi : i < vs.length
  · rw [List.getElem?_append_left (by simpa using hi), List.getElem?_map] at h
    cases q : vs[i]? with
    | none => rw [q] at h; cases h
    | some v => rw [q] at h; cases h; exact .inl ⟨v, rfl, rfl⟩
  · rw [List.getElem?_append_right (by simpa using hi), List.getElem?_replicate] at h
    split at h
    · cases h; exact .inr ⟨by omega, rfl⟩
    · cases h
theorem app_get {as : List Sl} {n i : Nat} {s : Sl} (h : (as ++ List.replicate n Sl.emp)[i]? = some s) : as[i]? = some s ∨ (as.length ≤ i ∧ s = .emp) := by
  by_cases hi : i < as.length
  · rw [List.getElem?_append_left hi] at h; exact .inl h
  · rw [List.getElem?_append_right (by omega), List.getElem?_replicate] at h
    split at h
    · cases h; exact .inr ⟨by omega, rfl⟩
    · cases h
theorem FR.init {OB : Addr → Prop} {H : Hp} {as : List Sl} {vs : List V} {N : List Str} {nl : Nat} (hN : N.length = nl) (hl : as.length ≤ nl) (al : Al OB H) (r : ArgsR g OB H as vs) : FR g (fxOf OB H as vs) OB H (L2.start N vs) (as ++ List.replicate (nl - as.length) .emp) where
  len := by unfold L2.start; rw [List.length_append, List.length_append, List.length_map, List.length_replicate, List.length_replicate, hN, r.len]
  sl := fun i s o h1 h2 => by
    rcases app_get h1 with h1 | ⟨hi, rfl⟩
    · rcases start_get h2 with ⟨v, hv, rfl⟩ | ⟨hi, _⟩
      · have q := r.rel i s v h1 hv
        cases s with
        | emp => exact q.elim
        | val d => exact ⟨fxOf_none (fun d z => by rw [h1] at z; cases z), v, rfl, q⟩
        | box d => exact q.elim
        | pbox d =>
          obtain ⟨p, rfl, q1, q2⟩ := q
          refine ⟨p, ?_, rfl, q1, q2⟩
          simp only [fxOf, h1, hv]
      · have := (List.getElem?_eq_some_iff.mp h1).1
        rw [r.len] at this; omega
    · exact fxOf_none (fun d z => by
        have := (List.getElem?_eq_some_iff.mp z).1
        omega)
  inj := fun i j s t p h1 h2 b1 b2 s1 s2 => by
    rcases app_get h1 with h1 | ⟨_, rfl⟩
    · rcases app_get h2 with h2 | ⟨_, rfl⟩
      · rcases start_get s1 with ⟨v, hv, e⟩ | ⟨_, e⟩
        · cases e
          rcases start_get s2 with ⟨v', hv', e'⟩ | ⟨_, e'⟩
          · cases e'
            have q1 := r.rel i s _ h1 hv
            have q2 := r.rel j t _ h2 hv'
            refine r.inj i j s t p h1 h2 ?_ ?_ hv hv'
            · cases s with
              | pbox d => rfl
              | box d => exact q1.elim
              | _ => cases b1
            · cases t with
              | pbox d => rfl
              | box d => exact q2.elim
              | _ => cases b2
          · cases e'
        · cases e
      · cases b2
    · cases b1
  nt := fun _ _ _ _ _ _ => rfl
  tp := fun _ _ z => by cases z
  ob := fun _ h => h
  ob0 := fun a h => let ⟨o, q, _⟩ := al a h; ⟨o, q⟩
  pb := fun i p h => by
    obtain ⟨d, h1, h2⟩ := fxOf_pa h
    obtain ⟨p', e, q, _⟩ := r.rel i _ _ h1 h2
    cases e
    refine ⟨q, ?_⟩
    rw [List.length_append]
    have := (List.getElem?_eq_some_iff.mp h1).1
    omega
  al := al
  keep := fun a o h _ => h
/-- behind the body -/
theorem FR.post {OB : Addr → Prop} {H : Hp} {as : List Sl} {vs : List V} {A' : Addr → Prop} {H' : Hp} {σ' : Sv} {e' : Ev} (r : ArgsR g OB H as vs) (F : FR g (fxOf OB H as vs) A' H' σ' e') {OB' : Addr → Prop} (sub : ∀ a, OB' a → A' a) : PostA g OB OB' H H' as (e'.take as.length) vs where
  keep := fun a o h n => F.keep a o h fun i z => by
    obtain ⟨d, h1, h2⟩ := fxOf_pa z
    exact n i _ h1 rfl h2
  box := fun i d h => by
    have hi := (List.getElem?_eq_some_iff.mp h).1
    have hiv : i < vs.length := by rw [← r.len]; exact hi
    have hv : vs[i]? = some vs[i] := List.getElem?_eq_getElem hiv
    obtain ⟨p, e, _, _⟩ := r.rel i _ _ h hv
    rw [e] at hv
    have hp : (fxOf OB H as vs).pa i = some p := by simp only [fxOf, h, hv]
    have he : i < e'.length := (F.pb i p hp).2
    have hs : e'[i]? = some e'[i] := List.getElem?_eq_getElem he
    obtain ⟨o, h1, q⟩ := F.at hs
    cases z : e'[i] with
    | emp => rw [z] at q; rw [show (fxOf OB H as vs).pa i = none from q] at hp; cases hp
    | val d' => rw [z] at q; rw [q.1] at hp; cases hp
    | box d' => rw [z] at q; rw [q.1] at hp; cases hp
    | pbox d' =>
      rw [z] at q hs
      obtain ⟨p', q1, q2, q3, q4⟩ := q
      rw [hp] at q1; cases q1
      refine ⟨d', p, by rw [List.getElem?_take_of_lt hi]; exact hs, hv, Bx.mono ⟨F.al, fun _ _ z _ => z, fun a _ z _ => sub a z⟩ (fun _ z => z) q4⟩
  al := fun a h => F.al a (F.ob a h)
theorem R.less {A A' : Addr → Prop} {H : Hp} {d : D} {v : V} (al : Al A H) (h : ∀ a, A' a → A a) (r : R g A H d v) : R g A' H d v := R.mono ⟨al, fun _ _ z _ => z, fun a _ z _ => h a z⟩ d r
theorem RL.less {A A' : Addr → Prop} {H : Hp} {d : List D} {v : List V} (al : Al A H) (h : ∀ a, A' a → A a) (r : RL g A H d v) : RL g A' H d v := RL.mono ⟨al, fun _ _ z _ => z, fun a _ z _ => h a z⟩ d r
theorem ExR.less {A A' : Addr → Prop} {H : Hp} {c : Nat} {d : D} {cls : Value} {dd : Option Addr} (al : Al A H) (h : ∀ a, A' a → A a) (r : ExR g A H c d cls dd) : ExR g A' H c d cls dd := by
  unfold ExR at r ⊢
  refine ⟨r.1, ?_⟩
  have r := r.2
  cases q : g.cf c with
  | nil => simp only [q] at r ⊢; exact r
  | cons x l =>
    simp only [q] at r ⊢
    obtain ⟨a, v, h1, h2, h3⟩ := r
    exact ⟨a, v, h1, h2, R.less al h h3⟩
/-- THE RULE for a def -/
theorem FnG.by {P : Program} {w : World} {mg : Str → Option Value} {base : Heap} {x qual : Str} {params : Arguments} {body : List Stmt} {scope : Scope} {dvs : List V} {kws : List (Str × V)} {f : Addr} {fd : FuncData} {N ps : List Str} {k np nl : Nat} {m : M Fl}
    (F : FunD g.K x qual params body scope dvs kws f fd) (S : FnScope N ps scope) (hp : ps.length = np) (hN : N.length = nl) (hle : np ≤ nl)
    (hbody : ∀ (cdv : Value) (A : Around) (outer : List Env) (s : Shared) (H : Hp) (E : XK), Room k (A.deeper (envOfC qual scope s.heap.objs.size f cdv)) → A.guards = some [] →
      CB g (cxOf (L2.CX P w) P w g.K mg base N qual scope f cdv A outer s H E) (fun cls d _ H => E cls d H) body m) : FnG P w g.K mg base (k + 1) f fd ps (spF g np (mkFn np nl m)) := by
  refine FnG.of F S (fun vs H Q E h => h.1.trans hp.symm) fun cdv A outer s H vs Q E hr gd h => ⟨_, hbody cdv A outer s H E hr gd, ?_⟩
  obtain ⟨hl, OB, as, al, r, h⟩ := h
  have hla : as.length = np := r.len.trans hl
  unfold mkFn at h
  rw [if_pos hla] at h
  refine ⟨fxOf OB H as vs, OB, as ++ List.replicate (nl - np) .emp, by
    have := FR.init (g := g) (N := N) (nl := nl) hN (by omega) al r
    rw [hla] at this; exact this, ?_⟩
  generalize m (as ++ List.replicate (nl - np) .emp) = res at h
  have post : ∀ {A' OB' : Addr → Prop} {H' : Hp} {σ' : Sv} {e' : Ev}, FR g (fxOf OB H as vs) A' H' σ' e' → (∀ a, OB' a → A' a) → PostA g OB OB' H H' as (e'.take np) vs := fun F z => by rw [← hla]; exact FR.post r F z
  cases res with
  | ok fl e =>
    cases fl with
    | nx => exact fun A' σ' H' F' _ => h _ H' (post F' F'.ob) rfl
    | bk => exact h.elim
    | ct => exact h.elim
    | rt d => exact fun A' σ' H' v F' _ q => h v H' (post F' F'.ob) (R.less F'.al F'.ob q)
    | rb ds => exact fun A' σ' H' p xs F' _ hA h0 hb hp q => h p xs H' (post F' fun a z => z.elim (F'.ob a) fun z => by rw [z]; exact hA) h0 hp (RL.less F'.al (fun a z => z.elim (F'.ob a) fun z => by rw [z]; exact hA) q)
  | exc c d e => exact fun A' σ' cls dd H' F' _ x => h cls dd H' (post F' F'.ob) (ExR.less F'.al F'.ob x)
  | bad => exact h.elim
end
end Fw
namespace Fw
open L2 PyProof.Rows PySem PySem.Spec
/-! ## G1. calls of defs -/
def argOf (e : Ev) : Sum D Nat → Option Sl
  | .inl d => some (.val d)
  | .inr i => match e[i]? with
    | some (.val d) => some (.val d)
    | some (.box d) => some (.pbox d)
    | some (.pbox d) => some (.pbox d)
    | _ => none
def argsOf (e : Ev) : List (Sum D Nat) → Option (List Sl)
  | [] => some []
  | a :: r => match argOf e a with
    | some s => (match argsOf e r with
      | some l => some (s :: l)
      | none => none)
    | none => none
def Sl.put : Sl → D → Sl
  | .box _, d => .box d
  | .pbox _, d => .pbox d
  | s, _ => s
def put1 (i : Nat) (d : D) (e : Ev) : Ev := match e[i]? with
  | some s => e.set i (s.put d)
  | none => e
def wb : List (Sum D Nat) → List Sl → Ev → Ev
  | .inr i :: ps, .pbox d :: as, e => wb ps as (put1 i d e)
  | .inr _ :: ps, .val _ :: as, e => wb ps as e
  | .inr _ :: ps, .box _ :: as, e => wb ps as e
  | .inr _ :: ps, .emp :: as, e => wb ps as e
  | .inl _ :: ps, _ :: as, e => wb ps as e
  | _, [], e => e
  | [], _, e => e
def nums : List (Sum D Nat) → List Nat
  | [] => []
  | .inl _ :: r => nums r
  | .inr i :: r => i :: nums r
def nodupB : List Nat → Bool
  | [] => true
  | i :: r => !r.contains i && nodupB r
theorem mem_nums {j k : Nat} : ∀ {ps : List (Sum D Nat)}, ps[k]? = some (.inr j) → j ∈ nums ps := by
  intro ps
  induction ps generalizing k with
  | nil => intro h; simp at h
  | cons a r ih =>
    intro h
    cases k with
    | zero => simp at h; subst h; exact List.mem_cons_self
    | succ k =>
      have := ih (k := k) (by simpa using h)
      cases a with
      | inl d => exact this
      | inr i => exact List.mem_cons_of_mem _ this
theorem put1_get {i j : Nat} {d : D} {e : Ev} {s : Sl} (h : (put1 i d e)[j]? = some s) : (i = j ∧ ∃ s0, e[j]? = some s0 ∧ s = s0.put d) ∨ (i ≠ j ∧ e[j]? = some s) := by
  unfold put1 at h
  cases q : e[i]? with
  | none =>
    rw [q] at h
    by_cases z : i = j
    · subst z; have h : e[i]? = some s := h; rw [q] at h; cases h
    · exact .inr ⟨z, h⟩
  | some s0 =>
    rw [q] at h
    rcases get_set h with ⟨rfl, _, rfl⟩ | ⟨n, h⟩
    · exact .inl ⟨rfl, s0, q, rfl⟩
    · exact .inr ⟨n, h⟩
theorem wb_get : ∀ (ps : List (Sum D Nat)) (as : List Sl) (e : Ev) {j : Nat} {s : Sl}, nodupB (nums ps) = true → (wb ps as e)[j]? = some s →
    (∃ (k : Nat) (d : D) (s0 : Sl), ps[k]? = some (.inr j) ∧ as[k]? = some (.pbox d) ∧ e[j]? = some s0 ∧ s = s0.put d) ∨ (e[j]? = some s ∧ ∀ (k : Nat) (d : D), ps[k]? = some (.inr j) → as[k]? ≠ some (.pbox d))
  | [], as, e, j, s, _, h => .inr ⟨by cases as <;> exact h, fun k d z => by simp at z⟩
  | a :: ps, [], e, j, s, _, h => .inr ⟨by cases a <;> exact h, fun k d _ z => by simp at z⟩
  | .inl x :: ps, t :: as, e, j, s, n, h => by
    rcases wb_get ps as e n h with ⟨k, d, s0, h1, h2, h3⟩ | ⟨h1, h2⟩
    · exact .inl ⟨k + 1, d, s0, by simpa using h1, by simpa using h2, h3⟩
    · refine .inr ⟨h1, fun k d z1 z2 => ?_⟩
      cases k with
      | zero => simp at z1
      | succ k => exact h2 k d (by simpa using z1) (by simpa using z2)
  | .inr i :: ps, t :: as, e, j, s, n, h => by
    have n1 : i ∉ nums ps ∧ nodupB (nums ps) = true := by
      have n : (!(nums ps).contains i && nodupB (nums ps)) = true := n
      rw [Bool.and_eq_true] at n
      refine ⟨fun z => ?_, n.2⟩
      have := n.1
      rw [List.contains_iff_mem.mpr z] at this; cases this
    have other : ∀ {e' : Ev}, (wb ps as e')[j]? = some s → (∀ d, t ≠ .pbox d) → e' = e → (∃ (k : Nat) (d : D) (s0 : Sl), (Sum.inr i :: ps)[k]? = some (.inr j) ∧ (t :: as)[k]? = some (.pbox d) ∧ e[j]? = some s0 ∧ s = s0.put d) ∨ (e[j]? = some s ∧ ∀ (k : Nat) (d : D), (Sum.inr i :: ps)[k]? = some (.inr j) → (t :: as)[k]? ≠ some (.pbox d)) := by
      intro e' h nt ee
      rcases wb_get ps as e' n1.2 h with ⟨k, d, s0, h1, h2, h3⟩ | ⟨h1, h2⟩
      · exact .inl ⟨k + 1, d, s0, by simpa using h1, by simpa using h2, ee ▸ h3⟩
      · refine .inr ⟨ee ▸ h1, fun k d z1 z2 => ?_⟩
        cases k with
        | zero => simp at z2; exact nt d z2
        | succ k => exact h2 k d (by simpa using z1) (by simpa using z2)
    cases t with
    | pbox d =>
      rcases wb_get ps as _ n1.2 (show (wb ps as (put1 i d e))[j]? = some s from h) with ⟨k, d', s0, h1, h2, h3, h4⟩ | ⟨h1, h2⟩
      · have hj : i ≠ j := fun z => n1.1 (z ▸ mem_nums h1)
        rcases put1_get h3 with ⟨z, _⟩ | ⟨_, h3⟩
        · exact absurd z hj
        · exact .inl ⟨k + 1, d', s0, by simpa using h1, by simpa using h2, h3, h4⟩
      · rcases put1_get h1 with ⟨rfl, s0, h3, h4⟩ | ⟨hj, h3⟩
        · exact .inl ⟨0, d, s0, rfl, rfl, h3, h4⟩
        · refine .inr ⟨h3, fun k d' z1 z2 => ?_⟩
          cases k with
          | zero => simp at z1; exact hj z1
          | succ k => exact h2 k d' (by simpa using z1) (by simpa using z2)
    | emp => exact other (e' := e) (show (wb ps as e)[j]? = some s from h) (fun _ z => by cases z) rfl
    | val _ => exact other (e' := e) (show (wb ps as e)[j]? = some s from h) (fun _ z => by cases z) rfl
    | box _ => exact other (e' := e) (show (wb ps as e)[j]? = some s from h) (fun _ z => by cases z) rfl
theorem put1_length (i : Nat) (d : D) (e : Ev) : (put1 i d e).length = e.length := by
  unfold put1
  cases e[i]? with
  | none => rfl
  | some s => exact List.length_set
theorem wb_length : ∀ (ps : List (Sum D Nat)) (as : List Sl) (e : Ev), (wb ps as e).length = e.length
  | [], as, e => by cases as <;> rfl
  | a :: ps, [], e => by cases a <;> rfl
  | .inl x :: ps, t :: as, e => wb_length ps as e
  | .inr i :: ps, .pbox d :: as, e => (wb_length ps as _).trans (put1_length i d e)
  | .inr i :: ps, .emp :: as, e => wb_length ps as e
  | .inr i :: ps, .val _ :: as, e => wb_length ps as e
  | .inr i :: ps, .box _ :: as, e => wb_length ps as e
theorem argsOf_get : ∀ {ps : List (Sum D Nat)} {as : List Sl} {e : Ev} {k : Nat} {s : Sl}, argsOf e ps = some as → as[k]? = some s → ∃ a, ps[k]? = some a ∧ argOf e a = some s := by
  intro ps
  induction ps with
  | nil => intro as e k s h h2; cases h; simp at h2
  | cons a r ih =>
    intro as e k s h h2
    unfold argsOf at h
    cases q : argOf e a with
    | none => rw [q] at h; cases h
    | some s0 =>
      rw [q] at h
      cases q2 : argsOf e r with
      | none => rw [q2] at h; cases h
      | some l =>
        rw [q2] at h; cases h
        cases k with
        | zero => simp at h2; subst h2; exact ⟨a, rfl, q⟩
        | succ k => obtain ⟨a', z1, z2⟩ := ih (k := k) q2 (by simpa using h2); exact ⟨a', by simpa using z1, z2⟩
theorem argsOf_get' : ∀ {ps : List (Sum D Nat)} {as : List Sl} {e : Ev} {k : Nat} {a : Sum D Nat}, argsOf e ps = some as → ps[k]? = some a → ∃ s, as[k]? = some s ∧ argOf e a = some s := by
  intro ps
  induction ps with
  | nil => intro as e k s h h2; simp at h2
  | cons a r ih =>
    intro as e k s h h2
    unfold argsOf at h
    cases q : argOf e a with
    | none => rw [q] at h; cases h
    | some s0 =>
      rw [q] at h
      cases q2 : argsOf e r with
      | none => rw [q2] at h; cases h
      | some l =>
        rw [q2] at h; cases h
        cases k with
        | zero => simp at h2; subst h2; exact ⟨s0, rfl, q⟩
        | succ k => obtain ⟨a', z1, z2⟩ := ih (k := k) q2 (by simpa using h2); exact ⟨a', by simpa using z1, z2⟩
section
variable {g : GC}
theorem PL.get {A : Addr → Prop} {H : Hp} {σ : Sv} : ∀ {ps : List (Sum D Nat)} {vs : List V} {k : Nat} {a : Sum D Nat}, PL g A H σ ps vs → ps[k]? = some a → ∃ v, vs[k]? = some v ∧ (match a with
    | .inl d => R g A H d v
    | .inr i => σ[i]? = some (some v))
  | [], vs, k, a, _, h => by simp at h
  | .inl d :: r, vs, k, a, ⟨y, ys, e, q, p⟩, h => by
    subst e
    cases k with
    | zero => simp at h; subst h; exact ⟨y, rfl, q⟩
    | succ k => obtain ⟨v, z1, z2⟩ := PL.get (k := k) p (by simpa using h); exact ⟨v, by simpa using z1, z2⟩
  | .inr i :: r, vs, k, a, ⟨y, ys, e, q, p⟩, h => by
    subst e
    cases k with
    | zero => simp at h; subst h; exact ⟨y, rfl, q⟩
    | succ k => obtain ⟨v, z1, z2⟩ := PL.get (k := k) p (by simpa using h); exact ⟨v, by simpa using z1, z2⟩
theorem PL.length {A : Addr → Prop} {H : Hp} {σ : Sv} : ∀ {ps : List (Sum D Nat)} {vs : List V}, PL g A H σ ps vs → vs.length = ps.length
  | [], vs, h => by rw [show vs = [] from h]; rfl
  | .inl d :: r, vs, ⟨y, ys, e, q, p⟩ => by subst e; rw [List.length_cons, List.length_cons, PL.length p]
  | .inr i :: r, vs, ⟨y, ys, e, q, p⟩ => by subst e; rw [List.length_cons, List.length_cons, PL.length p]
theorem argsOf_length : ∀ {ps : List (Sum D Nat)} {as : List Sl} {e : Ev}, argsOf e ps = some as → as.length = ps.length := by
  intro ps
  induction ps with
  | nil => intro as e h; cases h; rfl
  | cons a r ih =>
    intro as e h
    unfold argsOf at h
    cases q : argOf e a with
    | none => rw [q] at h; cases h
    | some s0 =>
      rw [q] at h
      cases q2 : argsOf e r with
      | none => rw [q2] at h; cases h
      | some l => rw [q2] at h; cases h; rw [List.length_cons, List.length_cons, ih q2]
/-- an argument that is a passed box comes of a box slot -/
theorem argOf_box {e : Ev} {a : Sum D Nat} {d : D} (h : argOf e a = some (.pbox d)) : ∃ i s, a = .inr i ∧ e[i]? = some s ∧ s.isBox = true ∧ s.dat = some d := by
  cases a with
  | inl x => cases h
  | inr i =>
    unfold argOf at h
    cases q : e[i]? with
    | none => simp only [q] at h; cases h
    | some s =>
      simp only [q] at h
      cases s with
      | emp => cases h
      | val x => cases h
      | box x => cases h; exact ⟨i, _, rfl, q, rfl, rfl⟩
      | pbox x => cases h; exact ⟨i, _, rfl, q, rfl, rfl⟩
theorem args_rel {f : Fx} {A : Addr → Prop} {H : Hp} {σ : Sv} {e : Ev} {ps : List (Sum D Nat)} {as : List Sl} {vs : List V} (F : FR g f A H σ e) (p : PL g A H σ ps vs) (ha : argsOf e ps = some as) (nd : nodupB (nums ps) = true) : ArgsR g A H as vs where
  len := by rw [argsOf_length ha, PL.length p]
  rel := fun i s v h1 h2 => by
    obtain ⟨a, q1, q2⟩ := argsOf_get ha h1
    obtain ⟨v', q3, q4⟩ := PL.get p q1
    rw [h2] at q3; cases q3
    cases a with
    | inl d => cases q2; exact q4
    | inr j =>
      unfold argOf at q2
      cases q5 : e[j]? with
      | none => simp only [q5] at q2; cases q2
      | some s0 =>
        simp only [q5] at q2
        obtain ⟨o, z1, z2⟩ := F.at q5
        rw [q4] at z1; cases z1
        cases s0 with
        | emp => cases q2
        | val d => cases q2; obtain ⟨_, v', z, r⟩ := z2; cases z; exact r
        | box d => cases q2; obtain ⟨_, p', z, r1, _, r2⟩ := z2; cases z; exact ⟨p', rfl, r1, r2⟩
        | pbox d => cases q2; obtain ⟨p', _, z, r1, r2⟩ := z2; cases z; exact ⟨p', rfl, r1, r2⟩
  inj := fun i j s t p' h1 h2 b1 b2 v1 v2 => by
    obtain ⟨a, q1, q2⟩ := argsOf_get ha h1
    obtain ⟨b, q3, q4⟩ := argsOf_get ha h2
    cases s with
    | pbox d =>
      cases t with
      | pbox d' =>
        obtain ⟨i1, s1, rfl, w1, x1, _⟩ := argOf_box q2
        obtain ⟨j1, t1, rfl, w2, x2, _⟩ := argOf_box q4
        obtain ⟨v, y1, y2⟩ := PL.get p q1
        obtain ⟨v', y3, y4⟩ := PL.get p q3
        rw [v1] at y1; cases y1
        rw [v2] at y3; cases y3
        have := F.inj i1 j1 s1 t1 p' w1 w2 x1 x2 y2 y4
        subst this
        -- the same slot at two places
        have key : ∀ (ps : List (Sum D Nat)) (i j : Nat), nodupB (nums ps) = true → ps[i]? = some (.inr i1) → ps[j]? = some (.inr i1) → i = j := by
          intro ps
          induction ps with
          | nil => intro i j _ h _; simp at h
          | cons a r ih =>
            intro i j nd h1 h2
            have nd' : nodupB (nums r) = true := by
              cases a with
              | inl _ => exact nd
              | inr _ => exact (Bool.and_eq_true_iff.mp (show (_ && nodupB (nums r)) = true from nd)).2
            have ni : ∀ {k : Nat}, r[k]? = some (.inr i1) → a ≠ .inr i1 := fun {k} hk z => by
              subst z
              have := (Bool.and_eq_true_iff.mp (show (!(nums r).contains i1 && nodupB (nums r)) = true from nd)).1
              rw [List.contains_iff_mem.mpr (mem_nums hk)] at this; cases this
            cases i with
            | zero => cases j with
              | zero => rfl
              | succ j => simp at h1 h2; exact absurd h1 (ni h2)
            | succ i => cases j with
              | zero => simp at h1 h2; exact absurd h2 (ni h1)
              | succ j => rw [ih i j nd' (by simpa using h1) (by simpa using h2)]
        exact key ps i j nd q1 q3
      | _ => cases b2
    | _ => cases b1
/-- behind a call -/
theorem FR.call {f : Fx} {A A' : Addr → Prop} {H H' : Hp} {σ : Sv} {e : Ev} {ps : List (Sum D Nat)} {as as' : List Sl} {vs : List V} (F : FR g f A H σ e) (p : PL g A H σ ps vs) (ha : argsOf e ps = some as) (nd : nodupB (nums ps) = true)
    (post : PostA g A A' H H' as as' vs) (h1 : ∀ a, A a → A' a) (h2 : ∀ a o, A' a → H a = some o → A a) (al' : Al A' H') : FR g f A' H' σ (wb ps as' e) ∧ Step A H H' := by
  -- a passed box is an avoided one, and known by its slot
  have pbx : ∀ (i : Nat) (s : Sl) (a : Addr), as[i]? = some s → s.isP = true → vs[i]? = some (.ref a) → ∃ j s0, ps[i]? = some (.inr j) ∧ e[j]? = some s0 ∧ s0.isBox = true ∧ σ[j]? = some (some (.ref a)) := fun i s a z1 z2 z3 => by
    obtain ⟨b, q1, q2⟩ := argsOf_get ha z1
    cases s with
    | pbox d =>
      obtain ⟨j, s0, rfl, w1, w2, _⟩ := argOf_box q2
      obtain ⟨v, y1, y2⟩ := PL.get p q1
      rw [z3] at y1; cases y1
      exact ⟨j, s0, q1, w1, w2, y2⟩
    | _ => cases z2
  have st : ∀ a o, H a = some o → ¬ A a → H' a = some o := fun a o z n => post.keep a o z fun i s z1 z2 z3 => by
    obtain ⟨j, s0, _, w1, w2, w3⟩ := pbx i s a z1 z2 z3
    exact n (F.boxA w1 w2 w3)
  have un : ∀ a o, H a = some o → ∃ o', H' a = some o' := fun a o z => by
    by_cases n : A a
    · obtain ⟨o', q, _⟩ := post.al a n; exact ⟨o', q⟩
    · exact ⟨o, st a o z n⟩
  have m : Mono A H A' H' := ⟨F.al, st, h2⟩
  have bx : ∀ {j : Nat} {s : Sl}, (wb ps as' e)[j]? = some s → s.isBox = true → ∃ s0, e[j]? = some s0 ∧ s0.isBox = true := fun {j s} z hb => by
    rcases wb_get ps as' e nd z with ⟨k, d, s0, _, _, q3, q4⟩ | ⟨q1, _⟩
    · subst q4
      refine ⟨s0, q3, ?_⟩
      cases s0 with
      | emp => cases hb
      | val _ => cases hb
      | box _ => rfl
      | pbox _ => rfl
    · exact ⟨s, q1, hb⟩
  have two : ∀ (i j : Nat) (s t : Sl) (a : Addr), (wb ps as' e)[i]? = some s → (wb ps as' e)[j]? = some t → s.isBox = true → t.isBox = true → σ[i]? = some (some (.ref a)) → σ[j]? = some (some (.ref a)) → i = j := fun i j s t a z1 z2 b1 b2 s1 s2 => by
    obtain ⟨s0, y1, y2⟩ := bx z1 b1
    obtain ⟨t0, y3, y4⟩ := bx z2 b2
    exact F.inj i j s0 t0 a y1 y3 y2 y4 s1 s2
  refine ⟨⟨by rw [wb_length]; exact F.len, fun j s o z1 z2 => ?_, fun i j s t a z1 z2 b1 b2 s1 s2 => ?_, fun i s a z1 b1 s1 => ?_, fun a u z => ⟨h1 a (F.tp a u z).1, post.keep a u (F.tp a u z).2 fun i s z1 z2 z3 => by
    obtain ⟨j, s0, _, w1, w2, w3⟩ := pbx i s a z1 z2 z3
    rw [F.nt j s0 a w1 w2 w3] at z; cases z⟩, fun a z => h1 a (F.ob a z), F.ob0, fun i p z => by rw [wb_length]; exact F.pb i p z, al', fun a o z n => ?_⟩, ⟨st, un⟩⟩
  · rcases wb_get ps as' e nd z1 with ⟨k, d, s0, q1, q2, q3, q4⟩ | ⟨q1, q2⟩
    · subst q4
      have rel := F.sl j s0 o q3 z2
      obtain ⟨s1, w1, w2⟩ := argsOf_get' ha q1
      obtain ⟨v, y1, y2⟩ := PL.get p q1
      cases s0 with
      | emp => exact rel
      | val d0 => obtain ⟨a, v, b, c⟩ := rel; exact ⟨a, v, b, R.mono m d0 c⟩
      | box d0 =>
        unfold argOf at w2
        simp only [q3] at w2; cases w2
        obtain ⟨d', p', x1, x2, x3⟩ := post.box k d0 w1
        rw [q2] at x1; cases x1
        rw [y1] at x2; cases x2
        obtain ⟨r0, p1, r1, r2, r3, _⟩ := rel
        rw [y2] at z2; cases z2; cases r1
        exact ⟨r0, p', rfl, h1 _ r2, r3, x3⟩
      | pbox d0 =>
        unfold argOf at w2
        simp only [q3] at w2; cases w2
        obtain ⟨d', p', x1, x2, x3⟩ := post.box k d0 w1
        rw [q2] at x1; cases x1
        rw [y1] at x2; cases x2
        obtain ⟨p1, r0, r1, r2, _⟩ := rel
        rw [y2] at z2; cases z2; cases r1
        exact ⟨p', r0, rfl, h1 _ r2, x3⟩
    · have rel := F.sl j s o q1 z2
      have stay : ∀ a, s.isBox = true → o = some (.ref a) → ∀ u, H a = some u → H' a = some u := fun a hb eo u hu => post.keep a u hu fun i t z3 z4 z5 => by
        obtain ⟨j', s0, w0, w1, w2, w3⟩ := pbx i t a z3 z4 z5
        have : j = j' := F.inj j j' s s0 a q1 w1 hb w2 (by rw [z2, eo]) w3
        subst this
        cases t with
        | pbox d =>
          obtain ⟨d', _, x1, _⟩ := post.box i d z3
          exact q2 i d' w0 x1
        | _ => cases z4
      cases s with
      | emp => exact rel
      | val d0 => obtain ⟨a, v, b, c⟩ := rel; exact ⟨a, v, b, R.mono m d0 c⟩
      | box d0 => obtain ⟨a, p', b, c, c0, dd⟩ := rel; exact ⟨a, p', b, h1 _ c, c0, Bx.mono m (stay p' rfl b) dd⟩
      | pbox d0 => obtain ⟨p', a, b, c, dd⟩ := rel; exact ⟨p', a, b, h1 _ c, Bx.mono m (stay p' rfl b) dd⟩
  · exact two i j s t a z1 z2 b1 b2 s1 s2
  · obtain ⟨s0, y1, y2⟩ := bx z1 b1
    exact F.nt i s0 a y1 y2 s1
  · refine post.keep a o (F.keep a o z n) fun i s z1 z2 z3 => ?_
    obtain ⟨j, s0, _, w1, w2, w3⟩ := pbx i s a z1 z2 z3
    have rel := F.sl j s0 _ w1 w3
    cases s0 with
    | emp => cases w2
    | val _ => cases w2
    | box d => obtain ⟨_, p', r1, _, r3, _⟩ := rel; cases r1; rw [z] at r3; cases r3
    | pbox d => obtain ⟨p', r0, r1, _⟩ := rel; cases r1; exact n j r0
theorem PostA.less {A A' : Addr → Prop} {H H' : Hp} {as as' : List Sl} {vs : List V} (po : PostA g A A' H H' as as' vs) (sub : ∀ a, A a → A' a) (al' : Al A' H') : PostA g A A H H' as as' vs where
  keep := po.keep
  box := fun i d z => by
    obtain ⟨d', p', x1, x2, x3⟩ := po.box i d z
    exact ⟨d', p', x1, x2, Bx.mono ⟨al', fun _ _ z _ => z, fun a _ z _ => sub a z⟩ (fun _ z => z) x3⟩
  al := po.al
def mCall (np : Nat) (fn : Fn) (os : List Od) : M RV := mb (mA1 os) fun ps e => match argsOf e ps with
  | none => .bad
  | some as => if as.length = np then (if nodupB (nums ps) = true then (match fn as with
      | .ok rv as' => .ok rv (wb ps as' e)
      | .exc c d as' => .exc c d (wb ps as' e)
      | .bad => .bad) else .bad) else .bad
def RV.d : RV → D
  | .v d => d
  | .b ds => .lst ds
def mCv (np : Nat) (fn : Fn) (os : List Od) : M D := mb (mCall np fn os) fun rv => mp rv.d
def RV.l : RV → Option (List D)
  | .v _ => none
  | .b ds => some ds
def mCl (np : Nat) (fn : Fn) (os : List Od) : M (List D) := mb (mCall np fn os) fun rv => mo rv.l
section
variable {X : Cx} {W : WK}
theorem t_call {np : Nat} {fn : Fn} {os : List Od} : ∀ σ H Q, rdE g W (mCv np fn os) σ H Q → tCg (spF g np fn) W (rdOs g W os) σ H Q := fun σ H Q ⟨f, A, e, F, h⟩ => by
  unfold mCv mCall at h
  rw [mb_assoc] at h
  refine bAs1 os h F fun ps e1 vs H1 F1 S1 p1 h1 => ?_
  unfold mb at h1
  cases ha : argsOf e1 ps with
  | none => simp only [ha] at h1; exact h1.elim
  | some as =>
    simp only [ha] at h1
    by_cases hl : as.length = np
    · rw [if_pos hl] at h1
      by_cases nd : nodupB (nums ps) = true
      · rw [if_pos nd] at h1
        have r := args_rel F1 p1 ha nd
        refine ⟨by rw [← r.len]; exact hl, A, as, F1.al, r, ?_⟩
        cases q : fn as with
        | ok rv as' =>
          simp only [q] at h1
          cases rv with
          | v d =>
              intro v H' po rr
              obtain ⟨F2, S2⟩ := F1.call p1 ha nd po (fun _ z => z) (fun _ _ z _ => z) po.al
              exact h1 v H' F2 (S1.trans S2) rr
          | b ds =>
              intro p xs H' po hn hp rr
              have sub : ∀ a, A a → add1 A p a := fun _ z => .inl z
              have al' : Al (add1 A p) H' := fun a z => z.elim (po.al a) fun z => ⟨.lst xs, by rw [z]; exact hp, rfl⟩
              have po' := po.less sub al'
              obtain ⟨F2, S2⟩ := F1.call p1 ha nd po' (fun _ z => z) (fun _ _ z _ => z) po.al
              exact h1 _ H' F2 (S1.trans S2) ⟨p, xs, rfl, hp, F1.nA hn, RL.less al' sub rr⟩
        | exc c d as' =>
          simp only [q] at h1
          intro cls dd H' po x
          obtain ⟨F2, S2⟩ := F1.call p1 ha nd po (fun _ z => z) (fun _ _ z _ => z) po.al
          exact h1 cls dd H' F2 S2 x
        | bad => simp only [q] at h1; exact h1.elim
      · rw [if_neg nd] at h1; exact h1.elim
    · rw [if_neg hl] at h1; exact h1.elim
theorem t_callF {np : Nat} {fn : Fn} {os : List Od} : ∀ σ H Q, rdF g W (mCl np fn os) σ H Q → tCg (spF g np fn) W (rdOs g W os) σ H Q := fun σ H Q ⟨f, A, e, F, h⟩ => by
  unfold mCl mCall at h
  rw [mb_assoc] at h
  refine bAs1 os h F fun ps e1 vs H1 F1 S1 p1 h1 => ?_
  unfold mb at h1
  cases ha : argsOf e1 ps with
  | none => simp only [ha] at h1; exact h1.elim
  | some as =>
    simp only [ha] at h1
    by_cases hl : as.length = np
    · rw [if_pos hl] at h1
      by_cases nd : nodupB (nums ps) = true
      · rw [if_pos nd] at h1
        have r := args_rel F1 p1 ha nd
        refine ⟨by rw [← r.len]; exact hl, A, as, F1.al, r, ?_⟩
        cases q : fn as with
        | ok rv as' =>
          simp only [q] at h1
          cases rv with
          | v d => exact h1.elim
          | b ds =>
              intro p xs H' po hn hp rr
              have sub : ∀ a, A a → add1 A p a := fun _ z => .inl z
              have al' : Al (add1 A p) H' := fun a z => z.elim (po.al a) fun z => ⟨.lst xs, by rw [z]; exact hp, rfl⟩
              have po' := po.less sub al'
              obtain ⟨F2, S2⟩ := F1.call p1 ha nd po' (fun _ z => z) (fun _ _ z _ => z) po.al
              obtain ⟨F3, _⟩ := F1.call p1 ha nd po sub (fun a o z q => z.elim id fun z => by rw [z, hn] at q; cases q) al'
              exact h1 p xs H' F2 F3 (F1.nA hn) (S1.trans S2) (FR.none_of (f := f) S1 hn) hp rr
        | exc c d as' =>
          simp only [q] at h1
          intro cls dd H' po x
          obtain ⟨F2, S2⟩ := F1.call p1 ha nd po (fun _ z => z) (fun _ _ z _ => z) po.al
          exact h1 cls dd H' F2 S2 x
        | bad => simp only [q] at h1; exact h1.elim
      · rw [if_neg nd] at h1; exact h1.elim
    · rw [if_neg hl] at h1; exact h1.elim
end
end
end Fw
namespace Fw
open L2 PyProof.Rows PySem PySem.Spec
section
variable {g : GC} {X : Cx} {W : WK}
/-! ## H1. comprehensions -/
def wipeE (e : Ev) : List Nat → Ev
  | [] => e
  | v :: vs => (wipeE e vs).set v .emp
theorem FR.none1 {f : Fx} {A : Addr → Prop} {H : Hp} {σ : Sv} {e : Ev} (F : FR g f A H σ e) {i : Nat} (h : f.pa i = none) : FR g f A H (σ.set i none) (e.set i .emp) where
  len := by rw [List.length_set, List.length_set]; exact F.len
  sl := fun j s o h1 h2 => by
    rcases get_set h1 with ⟨rfl, _, rfl⟩ | ⟨n, h1⟩
    · exact h
    · rw [List.getElem?_set_ne n] at h2
      exact F.sl j s o h1 h2
  inj := fun a b s t p h1 h2 b1 b2 s1 s2 => by
    rcases get_set h1 with ⟨_, _, rfl⟩ | ⟨n1, h1⟩
    · cases b1
    · rcases get_set h2 with ⟨_, _, rfl⟩ | ⟨n2, h2⟩
      · cases b2
      · rw [List.getElem?_set_ne n1] at s1; rw [List.getElem?_set_ne n2] at s2
        exact F.inj a b s t p h1 h2 b1 b2 s1 s2
  nt := fun a s p h1 b1 s1 => by
    rcases get_set h1 with ⟨_, _, rfl⟩ | ⟨n1, h1⟩
    · cases b1
    · rw [List.getElem?_set_ne n1] at s1
      exact F.nt a s p h1 b1 s1
  tp := F.tp
  ob := F.ob
  ob0 := F.ob0
  pb := fun i p q => by rw [List.length_set]; exact F.pb i p q
  al := F.al
  keep := F.keep
theorem FR.wipe {f : Fx} {A : Addr → Prop} {H : Hp} {σ : Sv} {e : Ev} (F : FR g f A H σ e) : ∀ {own : List Nat}, (∀ i ∈ own, f.pa i = none) → FR g f A H (L2.wipe σ own) (wipeE e own)
  | [], _ => F
  | v :: vs, h => (FR.wipe F fun i hi => h i (List.mem_cons_of_mem _ hi)).none1 (h v List.mem_cons_self)
theorem wipe_get {σ : Sv} : ∀ {vs : List Nat} {j : Nat}, j ∉ vs → (L2.wipe σ vs)[j]? = σ[j]?
  | [], _, _ => rfl
  | v :: vs, j, h => by
    unfold L2.wipe
    rw [List.getElem?_set_ne (fun z : v = j => h (by rw [z]; exact List.mem_cons_self))]
    exact wipe_get fun z => h (List.mem_cons_of_mem _ z)
theorem wipe_in {σ : Sv} : ∀ {vs : List Nat} {j : Nat}, j ∈ vs → j < σ.length → (L2.wipe σ vs)[j]? = some none
  | v :: vs, j, h, hl => by
    unfold L2.wipe
    by_cases q : v = j
    · subst q; rw [List.getElem?_set_self (by rw [wipe_length]; exact hl)]
    · rw [List.getElem?_set_ne q]
      rcases List.mem_cons.mp h with z | z
      · exact absurd z.symm q
      · exact wipe_in z hl
theorem wipe_eq {σ σ' : Sv} {vs sl : List Nat} (hl : σ'.length = σ.length) (h : ∀ j : Nat, j ∉ sl → σ'[j]? = σ[j]?) (hs : ∀ j ∈ sl, j ∈ vs) : L2.wipe σ' vs = L2.wipe σ vs := by
  apply List.ext_getElem?
  intro j
  by_cases q : j ∈ vs
  · by_cases hj : j < σ.length
    · rw [wipe_in q hj, wipe_in q (by rw [hl]; exact hj)]
    · rw [List.getElem?_eq_none (by rw [wipe_length]; omega), List.getElem?_eq_none (by rw [wipe_length]; omega)]
  · rw [wipe_get q, wipe_get q]
    exact h j fun z => q (hs j z)
theorem wipe_wipe {σ : Sv} {vs : List Nat} : L2.wipe (L2.wipe σ vs) vs = L2.wipe σ vs := wipe_eq (wipe_length σ vs) (sl := vs) (fun j hj => wipe_get hj) fun _ h => h
theorem wipeE_get {e : Ev} : ∀ {vs : List Nat} {j : Nat}, j ∉ vs → (wipeE e vs)[j]? = e[j]?
  | [], _, _ => rfl
  | v :: vs, j, h => by
    unfold wipeE
    rw [List.getElem?_set_ne (fun z : v = j => h (by rw [z]; exact List.mem_cons_self))]
    exact wipeE_get fun z => h (List.mem_cons_of_mem _ z)
theorem wipeE_length (e : Ev) : ∀ vs : List Nat, (wipeE e vs).length = e.length
  | [] => rfl
  | v :: vs => by unfold wipeE; rw [List.length_set, wipeE_length e vs]
/-- the outer frame's slots behind the block: its own are as they were, the others as the block left them -/
def backE (e e' : Ev) (own : List Nat) : Ev := match own with
  | [] => e'
  | v :: vs => match e[v]? with
    | some s => (backE e e' vs).set v s
    | none => backE e e' vs
theorem backE_length (e e' : Ev) : ∀ own : List Nat, (backE e e' own).length = e'.length
  | [] => rfl
  | v :: vs => by
    unfold backE
    cases e[v]? with
    | none => exact backE_length e e' vs
    | some s => simp only [List.length_set]; exact backE_length e e' vs
theorem backE_get {e e' : Ev} (hl : e'.length = e.length) : ∀ {own : List Nat} {j : Nat} {s : Sl}, (backE e e' own)[j]? = some s → (j ∈ own ∧ e[j]? = some s) ∨ (j ∉ own ∧ e'[j]? = some s)
  | [], j, s, h => .inr ⟨by simp, h⟩
  | v :: vs, j, s, h => by
    unfold backE at h
    have next : (backE e e' vs)[j]? = some s → v ≠ j → (j ∈ v :: vs ∧ e[j]? = some s) ∨ (j ∉ v :: vs ∧ e'[j]? = some s) := fun h n => by
      rcases backE_get hl h with ⟨h1, h2⟩ | ⟨h1, h2⟩
      · exact .inl ⟨List.mem_cons_of_mem _ h1, h2⟩
      · exact .inr ⟨fun z => (List.mem_cons.mp z).elim (fun z => n z.symm) h1, h2⟩
    cases q : e[v]? with
    | none =>
      simp only [q] at h
      by_cases z : v = j
      · subst z
        have := (List.getElem?_eq_some_iff.mp h).1
        rw [backE_length, hl] at this
        rw [List.getElem?_eq_getElem this] at q; cases q
      · exact next h z
    | some s0 =>
      simp only [q] at h
      rcases get_set h with ⟨rfl, _, rfl⟩ | ⟨n, h⟩
      · exact .inl ⟨List.mem_cons_self, q⟩
      · exact next h n
def ownOk (e : Ev) (own : List Nat) : Bool := own.all fun i => match e[i]? with
  | some .emp => true
  | some (.val _) => true
  | _ => false
def mLcL (own : List Nat) (bd : D → M Unit) (t : M Bool) (el : M D) : List D → List D → M (List D)
  | [], acc => fun e => .ok acc e
  | d :: ds, acc => fun e => match bd d e with
    | .ok _ e1 => (match t e1 with
      | .ok true e2 => (match el e2 with
        | .ok y e3 => if acc.length < 1000000 then mLcL own bd t el ds (acc ++ [y]) (wipeE e3 own) else .bad
        | _ => .bad)
      | .ok false e2 => mLcL own bd t el ds acc (wipeE e2 own)
      | _ => .bad)
    | _ => .bad
def mLc (mi : M (List D)) (own : List Nat) (bd : D → M Unit) (t : M Bool) (el : M D) : M (List D) := mb mi fun ds e => if ownOk e own = true then (match mLcL own bd t el ds [] (wipeE e own) with
  | .ok ys e' => .ok ys (backE e e' own)
  | _ => .bad) else .bad
theorem Fin.bI {f : Fx} {A : Addr → Prop} {σ : Sv} {H : Hp} {e : Ev} {β : Type} {ok : β → Ev → Prop} {ma : M (List D)} {k : List D → M β} (h : Fin g W f A σ H ok (mb ma k e)) (F : FR g f A H σ e) {G : It → Hp → Prop}
    (go : ∀ ds e1 J H1, FR g f A H1 σ e1 → Step A H H1 → Wlk g A H1 J ds → Fin g W f A σ H1 ok (k ds e1) → G J H1) : rdI g W ma σ H G := by
  refine ⟨f, A, e, F, ?_⟩
  unfold mb at h
  cases q : ma e with
  | ok d e1 => rw [q] at h; exact fun J H1 F1 S1 r => go d e1 J H1 F1 S1 r (h.from S1)
  | exc c d e1 => rw [q] at h; exact h
  | bad => rw [q] at h; exact h
abbrev W0 : WK := fun _ _ _ _ => False
/-- the temporary list at D, its contents known -/
abbrev Fx.tm (f : Fx) (D : Addr) (ys : List V) : Fx := { f with T := upd f.T D (.lst ys) }
theorem FR.tmp {f : Fx} {A : Addr → Prop} {H : Hp} {σ : Sv} {e : Ev} (F : FR g f A H σ e) {D : Addr} (hD : H D = none) : FR g (f.tm D []) (add1 A D) (upd H D (.lst [])) σ e := by
  have F1 := F.new (xs := []) hD
  refine ⟨F1.len, fun i s o h1 h2 => F1.sl i s o h1 h2, F1.inj, fun i s p h1 b1 s1 => ?_, fun a o h => ?_, F1.ob, F1.ob0, F1.pb, F1.al, F1.keep⟩
  · have : p ≠ D := fun z => F.nA hD (z ▸ F.boxA h1 b1 s1)
    show upd f.T D _ p = none
    rw [upd_ne this]; exact F.nt i s p h1 b1 s1
  · by_cases q : a = D
    · subst q
      have h : upd f.T a (.lst []) a = some o := h
      rw [upd_same] at h; cases h
      exact ⟨.inr rfl, upd_same⟩
    · have h : upd f.T D (.lst []) a = some o := h
      rw [upd_ne q] at h
      exact F1.tp a o h
/-- an item is put behind the temporary list -/
theorem FR.tmApp {f : Fx} {A : Addr → Prop} {H : Hp} {σ : Sv} {e : Ev} {D : Addr} {ys zs : List V} (F : FR g (f.tm D ys) A H σ e) (h0 : f.H0 D = none) (hpa : ∀ i, f.pa i ≠ some D) : FR g (f.tm D zs) A (upd H D (.lst zs)) σ e ∧ Mono A H A (upd H D (.lst zs)) := by
  obtain ⟨hA, hH⟩ := F.tp D (.lst ys) upd_same
  have st : ∀ a o, a ≠ D → H a = some o → upd H D (.lst zs) a = some o := fun a o n h => by rw [upd_ne n]; exact h
  have m : Mono A H A (upd H D (.lst zs)) := ⟨F.al, fun a o h n => st a o (fun z => n (z ▸ hA)) h, fun _ _ h _ => h⟩
  have nb : ∀ {i : Nat} {s : Sl} {p : Addr}, e[i]? = some s → s.isBox = true → σ[i]? = some (some (.ref p)) → p ≠ D := fun {i s p} h b q z => by
    have := F.nt i s p h b q
    rw [z] at this
    have this : upd f.T D (.lst ys) D = none := this
    rw [upd_same] at this; cases this
  refine ⟨⟨F.len, fun i s o h1 h2 => ?_, F.inj, fun i s p h1 b1 s1 => ?_, fun a o h => ?_, F.ob, F.ob0, F.pb, fun a h => ?_, fun a o h n => ?_⟩, m⟩
  · have q := F.sl i s o h1 h2
    cases s with
    | emp => exact q
    | val d => obtain ⟨a, v, b, c⟩ := q; exact ⟨a, v, b, R.mono m d c⟩
    | box d => obtain ⟨a, p, b, c, c0, dd⟩ := q; exact ⟨a, p, b, c, c0, Bx.mono m (fun u hu => st p u (nb h1 rfl (by rw [h2, b])) hu) dd⟩
    | pbox d => obtain ⟨p, a, b, c, dd⟩ := q; exact ⟨p, a, b, c, Bx.mono m (fun u hu => st p u (nb h1 rfl (by rw [h2, b])) hu) dd⟩
  · have n := nb h1 b1 s1
    have := F.nt i s p h1 b1 s1
    show upd f.T D (.lst zs) p = none
    have this : upd f.T D (.lst ys) p = none := this
    rw [upd_ne n] at this ⊢; exact this
  · by_cases q : a = D
    · subst q
      have h : upd f.T a (.lst zs) a = some o := h
      rw [upd_same] at h; cases h
      exact ⟨hA, upd_same⟩
    · have h : upd f.T D (.lst zs) a = some o := h
      rw [upd_ne q] at h
      have := F.tp a o (by show upd f.T D (.lst ys) a = some o; rw [upd_ne q]; exact h)
      exact ⟨this.1, st a o q this.2⟩
  · obtain ⟨o, h1, h2⟩ := F.al a h
    by_cases q : a = D
    · exact ⟨.lst zs, by rw [q]; exact upd_same, rfl⟩
    · exact ⟨o, st a o q h1, h2⟩
  · have q : a ≠ D := fun z => by rw [z] at h; rw [show (f.tm D zs).H0 D = none from h0] at h; cases h
    exact st a o q (F.keep a o h n)
/-- the block's frame becomes the outer one again -/
theorem FR.back {f : Fx} {A : Addr → Prop} {H H' : Hp} {σ : Sv} {e e' : Ev} {own : List Nat} {D : Addr} {ys : List V} (F : FR g f A H σ e) (hD : H D = none) (ho : ownOk e own = true) (F' : FR g (f.tm D ys) (add1 A D) H' (L2.wipe σ own) e')
    (S : Step (add1 A D) (upd H D (.lst [])) H') : FR g f A H' σ (backE e e' own) ∧ FR g f (add1 A D) H' σ (backE e e' own) ∧ Step A H H' := by
  have hl : e'.length = e.length := by rw [← F'.len, wipe_length, F.len]
  have nA := F.nA hD
  have st : Step A H H' := ⟨fun a o h n => S.st a o (by rw [upd_ne (fun z => by rw [z, hD] at h; cases h)]; exact h) fun z => z.elim n fun z => (by rw [z, hD] at h; cases h), fun a o h => S.un a o (by rw [upd_ne (fun z => by rw [z, hD] at h; cases h)]; exact h)⟩
  have nb : ∀ {i : Nat} {s : Sl} {p : Addr}, e'[i]? = some s → s.isBox = true → (L2.wipe σ own)[i]? = some (some (.ref p)) → p ≠ D ∧ f.T p = none := fun {i s p} h b q => by
    have z := F'.nt i s p h b q
    have z : upd f.T D (.lst ys) p = none := z
    have n : p ≠ D := fun y => by rw [y, upd_same] at z; cases z
    rw [upd_ne n] at z
    exact ⟨n, z⟩
  have own_no : ∀ {j : Nat} {s : Sl}, j ∈ own → e[j]? = some s → s.isBox = true → False := fun {j s} hj h b => by
    have q := List.all_eq_true.mp ho j hj
    simp only [h] at q
    cases s with
    | emp => cases b
    | val _ => cases b
    | box _ => cases q
    | pbox _ => cases q
  have fT : f.T D = none := by
    cases z : f.T D with
    | none => rfl
    | some o => have := (F.tp D o z).2; rw [hD] at this; cases this
  have tp : ∀ a o, f.T a = some o → A a ∧ H' a = some o := fun a o h => by
    have n : a ≠ D := fun z => by rw [z, fT] at h; cases h
    exact ⟨(F.tp a o h).1, (F'.tp a o (by show upd f.T D (.lst ys) a = some o; rw [upd_ne n]; exact h)).2⟩
  have all : ∀ (A' : Addr → Prop), (∀ a, A a → A' a) → (∀ a, A' a → add1 A D a) → FR g f A' H' σ (backE e e' own) := fun A' sub sub2 => by
    have m : Mono A H A' H' := ⟨F.al, st.st, fun a o z q => (sub2 a z).elim id fun z => by rw [z, hD] at q; cases q⟩
    have m2 : Mono (add1 A D) H' A' H' := ⟨F'.al, fun _ _ z _ => z, fun a _ z _ => sub2 a z⟩
    have bx : ∀ {j : Nat} {s : Sl}, (backE e e' own)[j]? = some s → s.isBox = true → j ∉ own ∧ e'[j]? = some s := fun {j s} h b => by
      rcases backE_get hl h with ⟨h1, h2⟩ | h
      · exact (own_no h1 h2 b).elim
      · exact h
    refine ⟨by rw [backE_length, hl]; exact F.len, fun j s o h1 h2 => ?_, fun i j s t p h1 h2 b1 b2 s1 s2 => ?_, fun j s p h1 b1 s1 => ?_, fun a o h => ⟨sub a (tp a o h).1, (tp a o h).2⟩, fun a h => sub a (F.ob a h), F.ob0, fun i p h => by rw [backE_length, hl]; exact F.pb i p h, fun a h => F'.al a (sub2 a h), fun a o h n => F'.keep a o h n⟩
    · rcases backE_get hl h1 with ⟨h3, h4⟩ | ⟨h3, h4⟩
      · have q := F.sl j s o h4 h2
        cases s with
        | emp => exact q
        | val d => obtain ⟨a, v, b, c⟩ := q; exact ⟨a, v, b, R.mono m d c⟩
        | box d => exact (own_no h3 h4 rfl).elim
        | pbox d => exact (own_no h3 h4 rfl).elim
      · have h5 : (L2.wipe σ own)[j]? = some o := by rw [wipe_get h3]; exact h2
        have q := F'.sl j s o h4 h5
        cases s with
        | emp => exact q
        | val d => obtain ⟨a, v, b, c⟩ := q; exact ⟨a, v, b, R.mono m2 d c⟩
        | box d =>
          obtain ⟨a, p, b, c, c0, dd⟩ := q
          have n := nb h4 rfl (by rw [h5, b])
          exact ⟨a, p, b, sub p (c.elim id fun z => absurd z n.1), c0, Bx.mono m2 (fun _ z => z) dd⟩
        | pbox d =>
          obtain ⟨p, a, b, c, dd⟩ := q
          have n := nb h4 rfl (by rw [h5, b])
          exact ⟨p, a, b, sub p (c.elim id fun z => absurd z n.1), Bx.mono m2 (fun _ z => z) dd⟩
    · obtain ⟨o1, q1⟩ := bx h1 b1
      obtain ⟨o2, q2⟩ := bx h2 b2
      exact F'.inj i j s t p q1 q2 b1 b2 (by rw [wipe_get o1]; exact s1) (by rw [wipe_get o2]; exact s2)
    · obtain ⟨o1, q1⟩ := bx h1 b1
      exact (nb q1 b1 (by rw [wipe_get o1]; exact s1)).2
  exact ⟨all A (fun _ z => z) (fun _ z => .inl z), all (add1 A D) (fun _ z => .inl z) (fun _ z => z), st⟩
theorem t_lc {own sl : List Nat} {mi : M (List D)} {bd : D → M Unit} {mt : M Bool} {el : M D} (σ : Sv) (H : Hp) (Q : VK) (f : Fx) (A : Addr → Prop) (e : Ev) (F : FR g f A H σ e)
    (h : Fin g W f A σ H (fun ds e' => ∀ p xs H', FR g f A H' σ e' → FR g f (add1 A p) H' σ e' → ¬ A p → Step A H H' → H p = none → H' p = some (.lst xs) → RL g (add1 A p) H' ds xs → Q (.ref p) H') (mLc mi own bd mt el e)) (hsl : ∀ j ∈ sl, j ∈ own) :
    tLc (rdI g W mi) (rdG g sl bd) (rdT g W0 mt) (rdE g W0 el) own σ H Q := by
  refine Fin.bI h F fun ds e1 J H1 F1 S1 wk h1 => ?_
  intro D hD
  by_cases ho : ownOk e1 own = true
  · simp only [if_pos ho] at h1
    have hpa : ∀ i ∈ own, f.pa i = none := fun i hi => by
      have q := List.all_eq_true.mp ho i hi
      cases z : e1[i]? with
      | none => simp only [z] at q; cases q
      | some s =>
        simp only [z] at q
        refine F1.pa0 z fun d y => ?_
        rw [y] at q; cases q
    have h0 := F1.h0 hD
    have hpD : ∀ i, f.pa i ≠ some D := fun i z => F1.nA hD (F1.ob D (F1.pb i D z).1)
    have F2 : FR g (f.tm D []) (add1 A D) (upd H1 D (.lst [])) (L2.wipe σ own) (wipeE e1 own) := FR.wipe (F1.tmp hD) hpa
    generalize hr : mLcL own bd mt el ds [] (wipeE e1 own) = res at h1
    have good : ∃ ys e', res = .ok ys e' ∧ ∀ p xs H', FR g f A H' σ (backE e1 e' own) → FR g f (add1 A p) H' σ (backE e1 e' own) → ¬ A p → Step A H H' → H p = none → H' p = some (.lst xs) → RL g (add1 A p) H' ys xs → Q (.ref p) H' := by
      cases res with
      | ok ys e' => exact ⟨ys, e', rfl, h1⟩
      | exc _ _ _ => exact h1.elim
      | bad => exact h1.elim
    obtain ⟨ys, ef, hres, fin⟩ := good
    refine ⟨fun i m H' => m = ds.length - i ∧ i ≤ ds.length ∧ ∃ e' acc accv, FR g (f.tm D accv) (add1 A D) H' (L2.wipe σ own) e' ∧ Step (add1 A D) (upd H1 D (.lst [])) H' ∧ RL g (add1 A D) H' acc accv ∧ mLcL own bd mt el (ds.drop i) acc e' = .ok ys ef,
      ⟨ds.length, rfl, Nat.zero_le _, _, [], [], F2, .refl, rfl, by rw [List.drop_zero, hr, hres]⟩, ?_⟩
    rintro i m H2 ⟨rfl, hi, e2, acc, accv, F3, S3, r3, run⟩
    have M3 : Mono A H1 (add1 A D) H2 := ⟨F1.al, fun a o z n => S3.st a o (by rw [upd_ne (fun y => by rw [y, hD] at z; cases z)]; exact z) fun y => y.elim n fun y => (by rw [y, hD] at z; cases z), fun a o z q => z.elim id fun z => (by rw [z, hD] at q; cases q)⟩
    obtain ⟨w1, w2⟩ := wk (add1 A D) H2 i M3 F3.al
    have hDl : H2 D = some (.lst accv) := (F3.tp D _ upd_same).2
    by_cases hlt : i < ds.length
    · right
      have hd : ds[i]? = some ds[i] := List.getElem?_eq_getElem hlt
      obtain ⟨g1, g2⟩ := w1 _ hd
      rw [List.drop_eq_getElem_cons hlt] at run
      refine ⟨g1, fun H' => ∃ e' acc accv, FR g (f.tm D accv) (add1 A D) H' (L2.wipe σ own) e' ∧ Step (add1 A D) (upd H1 D (.lst [])) H' ∧ RL g (add1 A D) H' acc accv ∧ mLcL own bd mt el (ds.drop (i + 1)) acc e' = .ok ys ef,
        fun H' q => ⟨ds.length - (i + 1), by omega, rfl, hlt, q⟩, fun x H3 y => ?_⟩
      obtain ⟨s3, rx⟩ := g2 x H3 y
      have F4 := F3.same s3
      refine ⟨f.tm D accv, add1 A D, e2, ds[i], F4, rx, ?_⟩
      unfold mLcL at run
      cases q : bd ds[i] e2 with
      | exc _ _ _ => simp only [q] at run; cases run
      | bad => simp only [q] at run; cases run
      | ok u e3 =>
        simp only [q] at run
        intro σ4 H4 F5 S5 sm ln
        have hw : L2.wipe σ4 own = L2.wipe σ own := by
          rw [← wipe_wipe (σ := σ)]
          exact wipe_eq ln (sl := sl) sm hsl
        refine ⟨hw, f.tm D accv, add1 A D, e3, F5, ?_⟩
        cases q2 : mt e3 with
        | exc _ _ _ => simp only [q2] at run; cases run
        | bad => simp only [q2] at run; cases run
        | ok b e4 =>
          simp only [q2] at run
          intro H5 F6 S6
          have SS : Step (add1 A D) (upd H1 D (.lst [])) H5 := S3.trans ((Step.of s3).trans (S5.trans S6))
          have r5 : RL g (add1 A D) H5 acc accv := F3.rl ((Step.of s3).trans (S5.trans S6)) r3
          cases b with
          | false =>
            simp only at run
            rw [if_neg Bool.false_ne_true]
            refine ⟨wipeE e4 own, acc, accv, ?_, SS, r5, run⟩
            have := FR.wipe F6 (own := own) hpa
            rw [hw] at this; exact this
          | true =>
            simp only at run
            rw [if_pos rfl]
            refine ⟨f.tm D accv, add1 A D, e4, F6, ?_⟩
            cases q3 : el e4 with
            | exc _ _ _ => simp only [q3] at run; cases run
            | bad => simp only [q3] at run; cases run
            | ok yd e5 =>
              simp only [q3] at run
              intro yv H6 F7 S7 ry
              by_cases hz : acc.length < 1000000
              · rw [if_pos hz] at run
                have r6 : RL g (add1 A D) H6 acc accv := F6.rl S7 r5
                obtain ⟨F8, M8⟩ := FR.tmApp (zs := accv ++ [yv]) F7 h0 hpD
                refine ⟨accv, (F7.tp D _ upd_same).2, by rw [RL.length r6]; exact Nat.lt_of_lt_of_le hz million, wipeE e5 own, acc ++ [yd], accv ++ [yv], ?_, ?_, ?_, run⟩
                · have := FR.wipe F8 (own := own) hpa
                  rw [hw] at this; exact this
                · refine SS.trans (S7.trans ⟨fun a o z n => M8.st a o z n, fun a o z => ?_⟩)
                  by_cases y : a = D
                  · exact ⟨_, by rw [y]; exact upd_same⟩
                  · exact ⟨o, by rw [upd_ne y]; exact z⟩
                · exact RL.mono M8 _ (RL.append r6 ⟨yv, [], rfl, ry, rfl⟩)
              · rw [if_neg hz] at run; cases run
    · have e0 : i = ds.length := by omega
      left
      refine ⟨w2 (by omega), ?_⟩
      rw [e0, List.drop_length] at run
      unfold mLcL at run
      cases run
      obtain ⟨B1, B2, B3⟩ := FR.back F1 hD ho F3 S3
      exact fin D accv H2 B1 B2 (F1.nA hD) (S1.trans B3) (FR.none_of (f := f) S1 hD) hDl r3
  · simp only [if_neg ho] at h1; exact h1.elim
theorem cf_lc {elt tg iter : Expr} {ifs : List Expr} {scope : Scope} {own : List (Str × Nat)} {pos : Pos} {mi : M (List D)} {sl : List Nat} {bd : D → M Unit} {mt : M Bool} {el : M D}
    (h : PE X (.ListComp elt [⟨tg, iter, ifs, 0⟩] scope pos) (tLc (rdI g W mi) (rdG g sl bd) (rdT g W0 mt) (rdE g W0 el) (own.map (·.2)))) (hsl : ∀ j ∈ sl, j ∈ own.map (·.2)) : CF g X W (.ListComp elt [⟨tg, iter, ifs, 0⟩] scope pos) (mLc mi (own.map (·.2)) bd mt el) :=
  PE.imp h fun σ H Q ⟨f, A, e, F, h⟩ => t_lc σ H Q f A e F h hsl
end
end Fw
namespace Fw
open L2 PyProof.Rows PySem PySem.Spec
section
variable {g : GC} {X : Cx} {W : WK}
/-! ## I1. what is walked -/
def dItems : D → Option (List D)
  | .lst ds => some ds
  | .tup ds => some ds
  | .scr ns => some (ns.map D.int)
  | .str z => some (z.cps.toList.map fun c => D.str ⟨#[c]⟩)
  | _ => none
def mIt (m : M D) : M (List D) := mb m fun d => mo (dItems d)
abbrev iAny (K : PySem.W.Frag) (tl : TE) : TI := fun σ H Rk => tl σ H fun x H1 => (∃ a, x = .ref a ∧ (∃ xs, SqL K H1 a xs) ∧ Rk (Itl K a) H1) ∨ (∃ a, x = .ref a ∧ (∃ xs, SqT K H1 a xs) ∧ Rk (Itt K a) H1) ∨ ∃ z, x = .str z ∧ Rk (Its z) H1
theorem pi_any {tg l : Expr} {tl : TE} (hl : PE X l tl) : PI X tg l (iAny X.K tl) := by
  refine ⟨fun pins s σ H Rk I h => thn (hl.run pins s σ H _ I h) fun v s1 ⟨x, H1, I1, r1, q1⟩ => ?_⟩
  have new : ∀ b ∈ [s1.heap.objs.size], FpOk X pins H1 b := fun b hb => by
    rw [List.mem_singleton.mp hb]
    exact I1.fpOk (Nat.le_refl _) (I1.hok.fresh (Nat.le_refl _))
  rcases q1 with ⟨a, rfl, ⟨xs, hq⟩, q⟩ | ⟨a, rfl, ⟨xs, hq⟩, q⟩ | ⟨z, rfl, q⟩
  · cases r1
    obtain ⟨its, rv, p, _⟩ := I1.list hq
    exact wpAny_pyIter_list p.isList ⟨_, _, _, _, H1, rfl, I1.kept (t' := s1.toks) fun b o e => Heap.get?_push_of_some _ e, turn_list a _, ⟨_, Heap.get?_push_size _ rfl, rfl, rfl⟩, new, q⟩
  · cases r1
    obtain ⟨its, rv, p, _⟩ := I1.tuple hq
    exact wpAny_pyIter_tuple (show s1.heap.IsTuple a its.toArray from p) ⟨_, _, _, _, H1, rfl, I1.kept (t' := s1.toks) fun b o e => Heap.get?_push_of_some _ e, turn_tuple a _, ⟨_, Heap.get?_push_size _ rfl, rfl, rfl⟩, new, q⟩
  · obtain ⟨t, rfl⟩ := r1
    cases ha : z.cps.all (· < 128)
    · exact wpAny_pyIter_wide ha (pi_one (tk := s1.toks) I1 _ (turn_str _ z t "str_iterator" (.inr rfl)) ⟨_, Heap.get?_push_size _ rfl, rfl, rfl⟩ q)
    · exact wpAny_pyIter_ascii ha (pi_one (tk := s1.toks) I1 _ (turn_str _ z t "str_ascii_iterator" (.inl rfl)) ⟨_, Heap.get?_push_size _ rfl, rfl, rfl⟩ q)
theorem wlk_list {A : Addr → Prop} {H : Hp} {a : Addr} {xs : List V} {ds : List D} (hq : ∀ A' H', Mono A H A' H' → SqL g.K H' a xs) (r : RL g A H ds xs) : Wlk g A H (Itl g.K a) ds := fun A' H' i m al => by
  refine ⟨fun d hd => ?_, fun hi => ⟨xs, hq A' H' m, by rw [RL.length r]; exact hi⟩⟩
  obtain ⟨v, hv, rv⟩ := RL.get (RL.mono m ds r) hd
  refine ⟨⟨xs, v, hq A' H' m, hv⟩, fun x H2 y => ?_⟩
  obtain ⟨rfl, y⟩ := y
  have := y xs (hq A' _ m)
  rw [hv] at this; cases this
  exact ⟨Same.refl _, rv⟩
theorem wlk_tup {A : Addr → Prop} {H : Hp} {a : Addr} {xs : List V} {ds : List D} (hq : ∀ A' H', Mono A H A' H' → SqT g.K H' a xs) (r : RL g A H ds xs) : Wlk g A H (Itt g.K a) ds := fun A' H' i m al => by
  refine ⟨fun d hd => ?_, fun hi => ⟨xs, hq A' H' m, by rw [RL.length r]; exact hi⟩⟩
  obtain ⟨v, hv, rv⟩ := RL.get (RL.mono m ds r) hd
  refine ⟨⟨xs, v, hq A' H' m, hv⟩, fun x H2 y => ?_⟩
  obtain ⟨rfl, y⟩ := y
  have := y xs (hq A' _ m)
  rw [hv] at this; cases this
  exact ⟨Same.refl _, rv⟩
theorem wlk_str {A : Addr → Prop} {H : Hp} {z : Str} : Wlk g A H (Its z) (z.cps.toList.map fun c => D.str ⟨#[c]⟩) := fun A' H' i m al => by
  refine ⟨fun d hd => ?_, fun hi => (show z.cps.size ≤ i by simpa using hi)⟩
  rw [List.getElem?_map] at hd
  cases q : z.cps.toList[i]? with
  | none => rw [q] at hd; cases hd
  | some c =>
    rw [q] at hd; cases hd
    have hi : i < z.cps.size := by simpa using (List.getElem?_eq_some_iff.mp q).1
    refine ⟨hi, fun x H2 y => ?_⟩
    obtain ⟨rfl, c', h1, rfl⟩ := y
    have : z.cps[i]? = some c := by simpa using q
    rw [this] at h1; cases h1
    exact ⟨Same.refl _, rfl⟩
theorem wlk_rng {A : Addr → Prop} {H : Hp} {lo : Int} {n : Nat} : Wlk g A H (Itr lo n) ((List.range n).map fun (i : Nat) => D.int (lo + (i : Int))) := fun A' H' i m al => by
  refine ⟨fun d hd => ?_, fun hi => (show n ≤ i by simpa using hi)⟩
  have hi : i < n := by
    have := (List.getElem?_eq_some_iff.mp hd).1
    simpa using this
  rw [List.getElem?_map, List.getElem?_range hi] at hd
  cases hd
  refine ⟨hi, fun x H2 y => ?_⟩
  obtain ⟨rfl, rfl⟩ := y
  exact ⟨Same.refl _, rfl⟩
theorem wlk_rngC {A : Addr → Prop} {H : Hp} {lo c : Int} {n : Nat} : Wlk g A H (Itc lo c n) ((List.range n).map fun (i : Nat) => D.int (lo + (i : Int) * c)) := fun A' H' i m al => by
  refine ⟨fun d hd => ?_, fun hi => (show n ≤ i by simpa using hi)⟩
  have hi : i < n := by
    have := (List.getElem?_eq_some_iff.mp hd).1
    simpa using this
  rw [List.getElem?_map, List.getElem?_range hi] at hd
  cases hd
  refine ⟨hi, fun x H2 y => ?_⟩
  obtain ⟨rfl, rfl⟩ := y
  exact ⟨Same.refl _, rfl⟩
theorem ci_any {tg l : Expr} {m : M D} (hK : X.K = g.K) (h : CE g X W l m) : CI g X W tg l (mIt m) := PI.imp (pi_any h) fun σ H Q ⟨f, A, e, F, h⟩ => by
  refine Fin.bE h F fun d e1 v H1 F1 S1 r h1 => ?_
  obtain ⟨ds, q, h2⟩ := Fin.mo h1
  rw [hK]
  cases d with
  | lst ds' =>
    cases q
    obtain ⟨a, xs, rfl, ha, n, rl⟩ := r
    exact .inl ⟨a, rfl, ⟨xs, SqL.of ha⟩, h2 _ H1 F1 S1 (wlk_list (fun A' H' m => SqL.of (m.st a _ ha n)) rl)⟩
  | tup ds' =>
    cases q
    obtain ⟨a, xs, rfl, ha, rl⟩ := r
    exact .inr (.inl ⟨a, rfl, ⟨xs, ha⟩, h2 _ H1 F1 S1 (wlk_tup (fun A' H' m => m.sqt ha) rl)⟩)
  | scr ns =>
    cases q
    obtain ⟨a, rfl, ha⟩ := r
    exact .inl ⟨a, rfl, ⟨_, ha.sq⟩, h2 _ H1 F1 S1 (wlk_list (fun A' H' m => (m.lsr ha).sq) (RL.ints ns))⟩
  | str z =>
    cases q
    obtain rfl : v = .str z := r
    exact .inr (.inr ⟨z, rfl, h2 _ H1 F1 S1 wlk_str⟩)
  | _ => cases q
def rngOk (i : Int) : Bool := decide (i.natAbs < 4611686018427387904)
def dR1 : List D → Option (List D)
  | [.int j] => if rngOk j = true then some ((List.range j.toNat).map fun (i : Nat) => D.int (0 + (i : Int))) else none
  | _ => none
def dR2 : List D → Option (List D)
  | [.int i, .int j] => if rngOk i = true ∧ rngOk j = true then some ((List.range (j - i).toNat).map fun (k : Nat) => D.int (i + (k : Int))) else none
  | _ => none
def mIA (op : List D → Option (List D)) (os : List Od) : M (List D) := mb (mAs os) fun ds => mo (op ds)
theorem rngOk_ok {i : Int} (h : rngOk i = true) : -(2 ^ 62) ≤ i ∧ i < 2 ^ 62 := by
  have h : i.natAbs < 4611686018427387904 := of_decide_eq_true h
  constructor
  · show -(4611686018427387904 : Int) ≤ i; omega
  · show i < (4611686018427387904 : Int); omega
theorem ci_range1 {tg a : Expr} {os : List Od} {p pos : Pos} (hg : Gl X "range") (hm : X.mg "range" = none) (ha : COs g X W [a] os) (hs : starEach [a] X.env = [(false, eval a X.env)] := by rfl) : CI g X W tg (.Call (.Name "range" p) [a] [] pos) (mIA dR1 os) := PI.imp (pi_range1 hg hm ha hs) fun σ H Q ⟨f, A, e, F, h⟩ =>
  Fin.bAs h F fun ds e1 vs H1 F1 S1 r h1 => by
    obtain ⟨es, q, h2⟩ := Fin.mo h1
    unfold dR1 at q
    split at q
    · rename_i j
      obtain ⟨y, ys, rfl, rfl, rfl⟩ := r
      by_cases z : rngOk j = true
      · rw [if_pos z] at q; cases q
        exact ⟨j, rfl, (rngOk_ok z).1, (rngOk_ok z).2, h2 _ H1 F1 S1 wlk_rng⟩
      · rw [if_neg z] at q; cases q
    · cases q
theorem ci_range2 {tg a b : Expr} {os : List Od} {p pos : Pos} (hg : Gl X "range") (hm : X.mg "range" = none) (ha : COs g X W [a, b] os) (hs : starEach [a, b] X.env = [(false, eval a X.env), (false, eval b X.env)] := by rfl) (hs2 : starEach [b] X.env = [(false, eval b X.env)] := by rfl) : CI g X W tg (.Call (.Name "range" p) [a, b] [] pos) (mIA dR2 os) := PI.imp (pi_range2 hg hm ha hs hs2) fun σ H Q ⟨f, A, e, F, h⟩ =>
  Fin.bAs h F fun ds e1 vs H1 F1 S1 r h1 => by
    obtain ⟨es, q, h2⟩ := Fin.mo h1
    unfold dR2 at q
    split at q
    · rename_i i j
      obtain ⟨y, ys, rfl, rfl, y', ys', rfl, rfl, rfl⟩ := r
      by_cases z : rngOk i = true ∧ rngOk j = true
      · rw [if_pos z] at q; cases q
        exact ⟨i, j, rfl, ⟨(rngOk_ok z.1).1, (rngOk_ok z.1).2, (rngOk_ok z.2).1, (rngOk_ok z.2).2⟩, h2 _ H1 F1 S1 wlk_rng⟩
      · rw [if_neg z] at q; cases q
    · cases q
/-! ## I2. subscripts -/
def dIx : D → D → Option D
  | .lst ds, .int i => atI ds i
  | .tup ds, .int i => atI ds i
  | .scr ns, .int i => (atI ns i).map D.int
  | .str z, .int i => if z.length ≤ 1000000 then (atI z.cps.toList i).map fun c => D.str ⟨#[c]⟩ else none
  | _, _ => none
theorem RL.atI {A : Addr → Prop} {H : Hp} {ds : List D} {xs : List V} {i : Int} {d : D} (r : RL g A H ds xs) (h : L2.atI ds i = some d) : ∃ v, L2.atI xs i = some v ∧ R g A H d v := by
  unfold L2.atI at h ⊢
  rw [RL.length r]
  cases q : ixN ds.length i with
  | none => rw [q] at h; cases h
  | some j =>
    rw [q] at h
    exact RL.get r h
theorem os_ix : OS g (rIx g.K) dIx := fun A H d1 d2 d v1 v2 Q al r1 r2 q k => by
  cases d1 with
  | lst ds => cases d2 with
    | int i =>
      obtain ⟨a, xs, rfl, ha, rl⟩ := r1
      obtain ⟨v, h1, h2⟩ := RL.atI rl q
      exact .inl ⟨a, xs, i, v, rfl, r2, SqL.of ha, h1, k v H (Same.refl H) h2⟩
    | _ => cases q
  | tup ds => cases d2 with
    | int i =>
      obtain ⟨a, xs, rfl, ha, rl⟩ := r1
      obtain ⟨v, h1, h2⟩ := RL.atI rl q
      exact .inr (.inl ⟨a, xs, i, v, rfl, r2, ha, h1, k v H (Same.refl H) h2⟩)
    | _ => cases q
  | scr ns => cases d2 with
    | int i =>
      obtain ⟨a, rfl, ha⟩ := r1
      obtain ⟨n, h0, rfl⟩ := map_some q
      have h0' : L2.atI (ns.map D.int) i = some (.int n) := by
        unfold L2.atI at h0 ⊢
        rw [List.length_map]
        cases z : ixN ns.length i with
        | none => rw [z] at h0; cases h0
        | some j => rw [z] at h0; simp only [Option.bind_some] at h0 ⊢; rw [List.getElem?_map, h0]; rfl
      obtain ⟨v, h1, h2⟩ := RL.atI (RL.ints (g := g) (A := A) (H := H) ns) h0'
      exact .inl ⟨a, _, i, v, rfl, r2, ha.sq, h1, k v H (Same.refl H) h2⟩
    | _ => cases q
  | str z => cases d2 with
    | int i =>
      simp only [dIx] at q
      by_cases hz : z.length ≤ 1000000
      · rw [if_pos hz] at q
        obtain ⟨c, h0, rfl⟩ := map_some q
        exact .inr (.inr ⟨z, i, c, r1, r2, Nat.le_trans hz million, h0, k _ H (Same.refl H) rfl⟩)
      · rw [if_neg hz] at q; cases q
    | _ => cases q
  | _ => cases q
theorem c_ix {a b : Expr} {oa ob : Od} {pos : Pos} (hK : X.K = g.K) (ha : CO g X W a oa) (hb : CO g X W b ob) (hs : PlainIx b) : CE g X W (.Subscript a b pos) (mOp dIx oa ob) := PE.imp (pe_ix ix_seq ha hb hs) (by rw [hK]; exact t_op os_ix)
/-! ## I3. slices -/
def cutD (ds : List D) (lo hi : Option Int) : List D := (ds.drop (HT.sIx ds.length 0 lo)).take (HT.sIx ds.length ds.length hi - HT.sIx ds.length 0 lo)
theorem RL.cut {A : Addr → Prop} {H : Hp} {ds : List D} {xs : List V} (r : RL g A H ds xs) (lo hi : Option Int) : RL g A H (cutD ds lo hi) (cutV xs lo hi) := by
  unfold cutD cutV
  rw [RL.length r]
  exact RL.take _ (RL.drop _ r)
/-- a part of a slice -/
def mPart : Option (M D) → M (Option Int)
  | none => mp none
  | some m => mb m fun d => match d with
    | .int i => mp (some i)
    | _ => fun _ => .bad
def rdP (g : GC) (W : WK) : Option (M D) → TO
  | none => tNoPart
  | some m => tPart (rdE g W m)
abbrev CP (g : GC) (X : Cx) (W : WK) (e : Option Expr) (m : Option (M D)) : Prop := PO X e (rdP g W m)
theorem cp_none : CP g X W none none := po_none
theorem cp_some {e : Expr} {m : M D} (h : CE g X W e m) : CP g X W (some e) (some m) := po_some h
theorem Fin.bP {f : Fx} {A : Addr → Prop} {σ : Sv} {H : Hp} {e : Ev} {β : Type} {ok : β → Ev → Prop} {m : Option (M D)} {k : Option Int → M β} (h : Fin g W f A σ H ok (mb (mPart m) k e)) (F : FR g f A H σ e) {G : Option Int → Hp → Prop}
    (go : ∀ o e1 H1, FR g f A H1 σ e1 → Step A H H1 → Fin g W f A σ H1 ok (k o e1) → G o H1) : rdP g W m σ H G := by
  cases m with
  | none => exact go none e H F .refl h
  | some m =>
    unfold mPart at h
    rw [mb_assoc] at h
    refine Fin.bE h F fun d e1 v H1 F1 S1 r h1 => ?_
    cases d with
    | int i => exact ⟨i, r, go (some i) e1 H1 F1 S1 h1⟩
    | _ => exact h1.elim
/-- by values: the thing sliced, the two parts -/
def mSl {β : Type} (a : Od) (lo hi : Option (M D)) (op : D → Option Int → Option Int → Option β) : M β := match a with
  | .e m => mb m fun d => mb (mPart lo) fun l => mb (mPart hi) fun u => mo (op d l u)
  | .n i => mb (mN i) fun _ => mb (mPart lo) fun l => mb (mPart hi) fun u => mb (mN i) fun d => mo (op d l u)
def dCutV : D → Option Int → Option Int → Option D
  | .tup ds, lo, hi => if HT.sIx ds.length 0 lo = 0 ∧ HT.sIx ds.length ds.length hi = ds.length then none else some (.tup (cutD ds lo hi))
  | .str z, lo, hi => if z.length ≤ 1000000 then some (.str (cutS z lo hi)) else none
  | .lst ds, lo, hi => some (.lst (cutD ds lo hi))
  | _, _, _ => none
def dCutL : D → Option Int → Option Int → Option (List D)
  | .lst ds, lo, hi => some (cutD ds lo hi)
  | .scr ns, lo, hi => some (cutD (ns.map D.int) lo hi)
  | _, _, _ => none
theorem Fin.bS {f : Fx} {A : Addr → Prop} {σ : Sv} {H : Hp} {e : Ev} {β : Type} {ok : β → Ev → Prop} {a : Od} {lo hi : Option (M D)} {op : D → Option Int → Option Int → Option β} (h : Fin g W f A σ H ok (mSl a lo hi op e)) (F : FR g f A H σ e) {G : V → Option Int → Option Int → Hp → Prop}
    (go : ∀ d l u b e1 v H1, FR g f A H1 σ e1 → Step A H H1 → Rt g A H1 d v → op d l u = some b → ok b e1 → G v l u H1) : rdO g W a σ H fun x H1 => rdP g W lo σ H1 fun l H2 => rdP g W hi σ H2 fun u H3 => G x l u H3 := by
  cases a with
  | e m =>
    refine Fin.bE h F fun d e1 v H1 F1 S1 r h1 => ?_
    refine Fin.bP h1 F1 fun l e2 H2 F2 S2 h2 => ?_
    refine Fin.bP h2 F2 fun u e3 H3 F3 S3 h3 => ?_
    obtain ⟨b, q, h4⟩ := Fin.mo h3
    exact go d l u b e3 v H3 F3 (S1.trans (S2.trans S3)) (F1.r (S2.trans S3) r).rt q h4
  | n i =>
    obtain ⟨_, v, hv, _, h1⟩ := Fin.bN h F
    refine ⟨v, hv, ?_⟩
    refine Fin.bP h1 F fun l e2 H2 F2 S2 h2 => ?_
    refine Fin.bP h2 F2 fun u e3 H3 F3 S3 h3 => ?_
    obtain ⟨d, v', hv', r, h4⟩ := Fin.bN h3 F3
    rw [hv] at hv'; cases hv'
    obtain ⟨b, q, h5⟩ := Fin.mo h4
    exact go d l u b e3 v H3 F3 (S2.trans S3) r q h5
abbrev rSlAll (K : PySem.W.Frag) : V → Option Int → Option Int → Hp → VK → Prop := fun x lo hi H Q => rSlL K x lo hi H Q ∨ (rSlT K x lo hi H Q ∨ rSlS x lo hi H Q)
theorem c_sl {a : Expr} {lo hi : Option Expr} {oa : Od} {ml mh : Option (M D)} {pos p2 : Pos} (hK : X.K = g.K) (ha : CO g X W a oa) (hl : CP g X W lo ml) (hh : CP g X W hi mh) : CE g X W (.Subscript a (.Slice lo hi none p2) pos) (mSl oa ml mh dCutV) :=
  PE.imp (pe_slice (SlR.or sl_list (SlR.or sl_tup sl_str)) ha hl hh) fun σ H Q ⟨f, A, e, F, h⟩ => Fin.bS h F fun d l u b e1 v H1 F1 S1 r q h1 => by
    rw [hK]
    cases d with
    | lst ds =>
      cases q
      obtain ⟨a, xs, rfl, ha, rl⟩ := r
      refine .inl ⟨a, xs, rfl, SqL.of ha, fun p hp => ?_⟩
      exact h1 _ _ (F1.same (Same.new hp)) (S1.trans (.of (Same.new hp))) ⟨p, _, rfl, upd_same, F1.nA hp, RL.cut (RL.mono (Mono.same F1.al (Same.new hp)) ds rl) l u⟩
    | tup ds =>
      obtain ⟨a, xs, rfl, ha, rl⟩ := r
      simp only [dCutV] at q
      by_cases z : HT.sIx ds.length 0 l = 0 ∧ HT.sIx ds.length ds.length u = ds.length
      · rw [if_pos z] at q; cases q
      · rw [if_neg z] at q; cases q
        refine .inr (.inl ⟨a, xs, rfl, ha, by rw [RL.length rl]; exact z, fun p hp => ?_⟩)
        exact h1 _ _ (F1.same (Same.new hp)) (S1.trans (.of (Same.new hp))) ⟨p, _, rfl, SqT.of upd_same, RL.cut (RL.mono (Mono.same F1.al (Same.new hp)) ds rl) l u⟩
    | str z =>
      simp only [dCutV] at q
      by_cases hz : z.length ≤ 1000000
      · rw [if_pos hz] at q; cases q
        exact .inr (.inr ⟨z, r, Nat.le_trans hz million, h1 _ H1 F1 S1 rfl⟩)
      · rw [if_neg hz] at q; cases q
    | _ => cases q
theorem cf_sl {a : Expr} {lo hi : Option Expr} {oa : Od} {ml mh : Option (M D)} {pos p2 : Pos} (hK : X.K = g.K) (ha : CO g X W a oa) (hl : CP g X W lo ml) (hh : CP g X W hi mh) : CF g X W (.Subscript a (.Slice lo hi none p2) pos) (mSl oa ml mh dCutL) :=
  PE.imp (pe_slice sl_list ha hl hh) fun σ H Q ⟨f, A, e, F, h⟩ => Fin.bS h F fun d l u b e1 v H1 F1 S1 r q h1 => by
    rw [hK]
    have fin : ∀ (a : Addr) (xs : List V) (ds : List D), v = .ref a → SqL g.K H1 a xs → RL g A H1 ds xs → b = cutD ds l u → rSlL g.K v l u H1 Q := fun a xs ds ev hq rl eb => by
      refine ⟨a, xs, ev, hq, fun p hp => ?_⟩
      rw [eb] at h1
      exact h1 p _ _ (F1.same (Same.new hp)) (F1.new hp) (F1.nA hp) (S1.trans (.of (Same.new hp))) (FR.none_of (f := f) S1 hp) upd_same (RL.mono (Mono.new F1 hp) _ (RL.cut rl l u))
    cases d with
    | lst ds => cases q; obtain ⟨a, xs, ev, ha, rl⟩ := r; exact fin a xs ds ev (SqL.of ha) rl rfl
    | scr ns => cases q; obtain ⟨a, ev, ha⟩ := r; exact fin a _ _ ev ha.sq (RL.ints ns) rfl
    | _ => cases q
end
end Fw
namespace Fw
open L2 PyProof.Rows PySem PySem.Spec
section
variable {g : GC} {X : Cx} {W : WK}
/-! ## J1. a list that a slot alone holds is changed -/
theorem FR.put {f : Fx} {A : Addr → Prop} {H : Hp} {σ : Sv} {e : Ev} (F : FR g f A H σ e) {i : Nat} {s : Sl} {p : Addr} {ds : List D} {xs : List V} (h : e[i]? = some s) (hb : s.isBox = true) (hs : σ[i]? = some (some (.ref p))) (r : RL g A H ds xs) :
    FR g f A (upd H p (.lst xs)) σ (e.set i (s.put (.lst ds))) ∧ Step A H (upd H p (.lst xs)) := by
  have hA := F.boxA h hb hs
  have st : ∀ a o, a ≠ p → H a = some o → upd H p (.lst xs) a = some o := fun a o n z => by rw [upd_ne n]; exact z
  have sp : Step A H (upd H p (.lst xs)) := ⟨fun a o z n => st a o (fun y => n (y ▸ hA)) z, fun a o z => by
    by_cases y : a = p
    · exact ⟨.lst xs, by rw [y]; exact upd_same⟩
    · exact ⟨o, st a o y z⟩⟩
  have m := F.mono sp
  have kb : (s.put (.lst ds)).isBox = true := by
    cases s with
    | emp => cases hb
    | val _ => cases hb
    | box _ => rfl
    | pbox _ => rfl
  have hi : i < e.length := (List.getElem?_eq_some_iff.mp h).1
  have bx : ∀ {j : Nat} {t : Sl}, (e.set i (s.put (.lst ds)))[j]? = some t → t.isBox = true → ∃ t0, e[j]? = some t0 ∧ t0.isBox = true := fun {j t} z b => by
    rcases get_set z with ⟨rfl, _, _⟩ | ⟨_, z⟩
    · exact ⟨s, h, hb⟩
    · exact ⟨t, z, b⟩
  refine ⟨⟨by rw [List.length_set]; exact F.len, fun j t o z1 z2 => ?_, fun a b t u q z1 z2 b1 b2 s1 s2 => ?_, fun a t q z1 b1 s1 => ?_, fun a o z => ?_, F.ob, F.ob0, fun a q z => by rw [List.length_set]; exact F.pb a q z, fun a z => ?_, fun a o z n => ?_⟩, sp⟩
  · rcases get_set z1 with ⟨rfl, _, rfl⟩ | ⟨n, z1⟩
    · have q := F.sl i s o h z2
      rw [hs] at z2; cases z2
      cases s with
      | emp => cases hb
      | val _ => cases hb
      | box d => obtain ⟨a, p', b, c, c0, _⟩ := q; cases b; exact ⟨a, p, rfl, c, c0, xs, upd_same, RL.mono m ds r⟩
      | pbox d => obtain ⟨p', a, b, c, _⟩ := q; cases b; exact ⟨p, a, rfl, c, xs, upd_same, RL.mono m ds r⟩
    · have q := F.sl j t o z1 z2
      have np : ∀ p', t.isBox = true → o = some (.ref p') → p' ≠ p := fun p' hb' eo y => n (F.inj i j s t p h z1 hb hb' hs (by rw [z2, eo, y]))
      cases t with
      | emp => exact q
      | val d => obtain ⟨a, v, b, c⟩ := q; exact ⟨a, v, b, R.mono m d c⟩
      | box d => obtain ⟨a, p', b, c, c0, dd⟩ := q; exact ⟨a, p', b, c, c0, Bx.mono m (fun u z => st p' u (np p' rfl b) z) dd⟩
      | pbox d => obtain ⟨p', a, b, c, dd⟩ := q; exact ⟨p', a, b, c, Bx.mono m (fun u z => st p' u (np p' rfl b) z) dd⟩
  · obtain ⟨t0, y1, y2⟩ := bx z1 b1
    obtain ⟨u0, y3, y4⟩ := bx z2 b2
    exact F.inj a b t0 u0 q y1 y3 y2 y4 s1 s2
  · obtain ⟨t0, y1, y2⟩ := bx z1 b1
    exact F.nt a t0 q y1 y2 s1
  · have q := F.tp a o z
    refine ⟨q.1, st a o (fun y => ?_) q.2⟩
    have := F.nt i s p h hb hs
    rw [← y, z] at this; cases this
  · obtain ⟨o, q1, q2⟩ := F.al a z
    by_cases y : a = p
    · exact ⟨.lst xs, by rw [y]; exact upd_same, rfl⟩
    · exact ⟨o, st a o y q1, q2⟩
  · refine st a o (fun y => ?_) (F.keep a o z n)
    have q := F.sl i s _ h hs
    cases s with
    | emp => cases hb
    | val _ => cases hb
    | box d => obtain ⟨_, p', b, _, c0, _⟩ := q; cases b; rw [y, c0] at z; cases z
    | pbox d => obtain ⟨p', b0, b, _⟩ := q; cases b; exact n i (y ▸ b0)
/-- the list of a slot -/
def lstOf : Sl → Option (List D)
  | .box (.lst ds) => some ds
  | .pbox (.lst ds) => some ds
  | _ => none
theorem FR.lst {f : Fx} {A : Addr → Prop} {H : Hp} {σ : Sv} {e : Ev} (F : FR g f A H σ e) {i : Nat} {s : Sl} {ds : List D} (h : e[i]? = some s) (q : lstOf s = some ds) : s.isBox = true ∧ ∃ p xs, σ[i]? = some (some (.ref p)) ∧ H p = some (.lst xs) ∧ RL g A H ds xs := by
  obtain ⟨o, h1, h2⟩ := F.at h
  cases s with
  | emp => cases q
  | val _ => cases q
  | box d =>
    cases d with
    | lst ds' => cases q; obtain ⟨_, p, e1, _, _, xs, h3, h4⟩ := h2; exact ⟨rfl, p, xs, by rw [h1, e1], h3, h4⟩
    | _ => cases q
  | pbox d =>
    cases d with
    | lst ds' => cases q; obtain ⟨p, _, e1, _, xs, h3, h4⟩ := h2; exact ⟨rfl, p, xs, by rw [h1, e1], h3, h4⟩
    | _ => cases q
/-- what a method does to the list of slot i -/
def chB (i : Nat) (op : List D → Option (List D)) : M Unit := fun e => match e[i]? with
  | some s => (match lstOf s with
    | some ds => (match op ds with
      | some ds' => .ok () (e.set i (s.put (.lst ds')))
      | none => .bad)
    | none => .bad)
  | none => .bad
theorem chB_inv {i : Nat} {op : List D → Option (List D)} {e : Ev} : chB i op e = .bad ∨ ∃ s ds ds', e[i]? = some s ∧ lstOf s = some ds ∧ op ds = some ds' ∧ chB i op e = .ok () (e.set i (s.put (.lst ds'))) := by
  unfold chB
  cases q : e[i]? with
  | none => exact .inl rfl
  | some s =>
    cases q2 : lstOf s with
    | none => left; simp only [q2]
    | some ds =>
      cases q3 : op ds with
      | none => left; simp only [q2, q3]
      | some ds' => exact .inr ⟨s, ds, ds', rfl, q2, q3, by simp only [q2, q3]⟩
def hasB (i : Nat) : M Unit := fun e => match e[i]? with
  | some s => (match lstOf s with
    | some _ => .ok () e
    | none => .bad)
  | none => .bad
theorem hasB_inv {i : Nat} {e : Ev} : hasB i e = .bad ∨ ∃ s ds, e[i]? = some s ∧ lstOf s = some ds ∧ hasB i e = .ok () e := by
  unfold hasB
  cases q : e[i]? with
  | none => exact .inl rfl
  | some s =>
    cases q2 : lstOf s with
    | none => left; simp only [q2]
    | some ds => exact .inr ⟨s, ds, rfl, q2, by simp only [q2]⟩
def lim (n : Nat) (ds : List D) : Option (List D) := if ds.length ≤ n then some ds else none
/-- x.append(e) -/
def mApp (i : Nat) (m : M D) : M D := mb (hasB i) fun _ => mb m fun d => mb (chB i fun ds => lim 1000000 (ds ++ [d])) fun _ => mp .non
theorem c_app (i : Nat) {x : Str} {a : Expr} {m : M D} {p apos cpos : Pos} (hK : X.K = g.K)
    (h : PE X (.Call (.Attribute (.Name x p) "append" apos) [a] [] cpos) (tBM X.K "list" rAppend (tVar i) (tCons (rdE g W m) tNil))) : CE g X W (.Call (.Attribute (.Name x p) "append" apos) [a] [] cpos) (mApp i m) :=
  PE.imp h fun σ H Q ⟨f, A, e, F, h⟩ => by
    rcases hasB_inv (i := i) (e := e) with z | ⟨s, ds, z1, z2, z3⟩
    · unfold mApp mb at h; rw [z] at h; exact h.elim
    · have e2 : mApp i m e = mb m (fun d => mb (chB i fun ds => lim 1000000 (ds ++ [d])) fun _ => mp D.non) e := by
        unfold mApp
        conv => lhs; unfold mb; rw [z3]
        rfl
      rw [e2] at h
      obtain ⟨_, p1, xs, y1, y2, y3⟩ := F.lst z1 z2
      refine ⟨.ref p1, y1, .inl ⟨rfl, xs, SqL.of y2⟩, ?_⟩
      refine Fin.bE h F fun d e1 v H1 F1 S1 r h1 => ?_
      unfold mb at h1
      rcases chB_inv (i := i) (op := fun ds => lim 1000000 (ds ++ [d])) (e := e1) with w | ⟨s', es, es', w1, w2, w3, w4⟩
      · rw [w] at h1; exact h1.elim
      · rw [w4] at h1
        obtain ⟨hb, p2, ys, v1, v2, v3⟩ := F1.lst w1 w2
        rw [y1] at v1; cases v1
        have hl : (es ++ [d]).length ≤ 1000000 ∧ es' = es ++ [d] := by
          unfold lim at w3
          by_cases q : (es ++ [d]).length ≤ 1000000
          · rw [if_pos q] at w3; cases w3; exact ⟨q, rfl⟩
          · rw [if_neg q] at w3; cases w3
        rw [hl.2] at h1
        obtain ⟨F2, S2⟩ := F1.put w1 hb y1 (RL.append v3 (show RL g A H1 [d] [v] from ⟨v, [], rfl, r, rfl⟩))
        refine ⟨p1, ys, v, rfl, rfl, v2, ?_, h1 _ _ F2 (S1.trans S2) rfl⟩
        have := RL.length v3
        have h2 := hl.1
        rw [List.length_append, List.length_singleton] at h2
        have := million
        omega
/-- x[k] = .. -/
def gSt (i : Nat) (mk : M D) : D → M Unit := fun d => mb (hasB i) fun _ => mb mk fun k => match k with
  | .int k => chB i fun ds => (ixN ds.length k).map fun j => ds.set j d
  | _ => fun _ => .bad
theorem cg_st (i : Nat) {x : Str} {b : Expr} {mk : M D} {p pos : Pos} (hx : PE X (.Name x p) (tVar i)) (hk : CE g X W b mk)
    (ha : ∀ v, assign (.Subscript (.Name x p) b pos) X.env v = (do
      let ov ← holding [v] (eval (.Name x p) X.env)
      let iv ← holding [v, ov] (eval b X.env)
      standAt pos
      holding [v, ov, iv] (setItem ov iv v)
      release [v, ov, iv] []) := by intro _; rfl) : CG g X (.Subscript (.Name x p) b pos) [] (gSt i mk) := PG.imp (pg_sub hx hk set_list ha) fun v σ H Q ⟨f, A, e, d, F, r, h⟩ => by
  rcases hasB_inv (i := i) (e := e) with z | ⟨s, ds, z1, z2, z3⟩
  · unfold gSt mb at h; rw [z] at h; exact h.elim
  · obtain ⟨_, p1, xs, y1, y2, y3⟩ := F.lst z1 z2
    refine ⟨.ref p1, y1, f, A, e, F, ?_⟩
    unfold gSt mb at h
    rw [z3] at h
    cases q : mk e with
    | exc _ _ _ => simp only [q] at h; exact h.elim
    | bad => simp only [q] at h; exact h.elim
    | ok kd e1 =>
      simp only [q] at h
      intro kv H1 F1 S1 rk
      cases kd with
      | int k =>
        obtain rfl : kv = .int k := rk
        rcases chB_inv (i := i) (op := fun ds => (ixN ds.length k).map fun j => ds.set j d) (e := e1) with w | ⟨s', es, es', w1, w2, w3, w4⟩
        · simp only [w] at h; exact h.elim
        · simp only [w4] at h
          obtain ⟨j, q3, rfl⟩ := map_some w3
          obtain ⟨hb, p2, ys, v1, v2, v3⟩ := F1.lst w1 w2
          rw [y1] at v1; cases v1
          obtain ⟨F2, S2⟩ := F1.put w1 hb y1 (RL.set (F.r S1 r) j v3)
          exact ⟨p1, ys, k, j, rfl, rfl, v2, by rw [RL.length v3]; exact q3, h σ _ F2 (S1.trans S2) (fun _ _ => rfl) rfl⟩
      | _ => exact h.elim
/-! ## J2. f(a new list) -/
def mC1 (fn : Fn) (m : M (List D)) : M D := mb m fun ds e => match fn [.pbox (.lst ds)] with
  | .ok rv _ => .ok rv.d e
  | .exc c d _ => .exc c d e
  | .bad => .bad
theorem FR.drop {f : Fx} {A : Addr → Prop} {H H' : Hp} {σ : Sv} {e : Ev} {p : Addr} (F1 : FR g f A H σ e) (F2 : FR g f (add1 A p) H σ e) (n : ¬ A p) (k : ∀ a o, H a = some o → a ≠ p → H' a = some o) (h0 : f.H0 p = none) : FR g f A H' σ e := by
  have m : Mono (add1 A p) H A H' := ⟨F2.al, fun a o h z => k a o h fun y => z (.inr y), fun a o z _ => .inl z⟩
  have np : ∀ a, A a → a ≠ p := fun a z y => n (y ▸ z)
  refine ⟨F1.len, fun i s o h1 h2 => ?_, F1.inj, F1.nt, fun a o z => ⟨(F1.tp a o z).1, k a o (F1.tp a o z).2 (np a (F1.tp a o z).1)⟩, F1.ob, F1.ob0, F1.pb, fun a z => ?_, fun a o z n' => k a o (F1.keep a o z n') fun y => by rw [y, h0] at z; cases z⟩
  · have q := F2.sl i s o h1 h2
    have q1 := F1.sl i s o h1 h2
    cases s with
    | emp => exact q
    | val d => obtain ⟨a, v, b, c⟩ := q; exact ⟨a, v, b, R.mono m d c⟩
    | box d =>
      obtain ⟨a, p', b, c, c0, dd⟩ := q
      obtain ⟨_, p1, b1, c1, _⟩ := q1
      rw [b] at b1; cases b1
      exact ⟨a, p', b, c1, c0, Bx.mono m (fun u z => k p' u z (np p' c1)) dd⟩
    | pbox d =>
      obtain ⟨p', a, b, c, dd⟩ := q
      obtain ⟨p1, _, b1, c1, _⟩ := q1
      rw [b] at b1; cases b1
      exact ⟨p', a, b, c1, Bx.mono m (fun u z => k p' u z (np p' c1)) dd⟩
  · obtain ⟨o, q1, q2⟩ := F1.al a z
    exact ⟨o, k a o q1 (np a z), q2⟩
theorem t_call1 {fn : Fn} {m : M (List D)} : ∀ σ H Q, rdE g W (mC1 fn m) σ H Q → tCg (spF g 1 fn) W (tCons (rdF g W m) tNil) σ H Q := fun σ H Q ⟨f, A, e, F, h⟩ => by
  unfold mC1 mb at h
  refine ⟨f, A, e, F, ?_⟩
  cases q : m e with
  | exc c d e1 => simp only [q] at h; exact h
  | bad => simp only [q] at h; exact h
  | ok ds e1 =>
    simp only [q] at h
    intro p xs H1 F1 F2 n S1 hn hp r
    have ar : ArgsR g (add1 A p) H1 [.pbox (.lst ds)] [.ref p] := by
      refine ⟨rfl, fun i s v z1 z2 => ?_, fun i j s t q z1 z2 _ _ _ _ => ?_⟩
      · cases i with
        | zero => cases z1; cases z2; exact ⟨p, rfl, .inr rfl, xs, hp, r⟩
        | succ i => simp at z1
      · cases i with
        | zero => cases j with
          | zero => rfl
          | succ j => simp at z2
        | succ i => simp at z1
    refine ⟨rfl, add1 A p, [.pbox (.lst ds)], F2.al, ar, ?_⟩
    have h0 : f.H0 p = none := F.h0 hn
    have after : ∀ {OB' : Addr → Prop} {as' : List Sl} {H' : Hp}, PostA g (add1 A p) OB' H1 H' [.pbox (.lst ds)] as' [.ref p] → FR g f A H' σ e1 ∧ Step A H H' := fun {OB' as' H'} po => by
      have k : ∀ a o, H1 a = some o → a ≠ p → H' a = some o := fun a o z n => po.keep a o z fun i s z1 z2 z3 => by
        cases i with
        | zero => cases z3; exact n rfl
        | succ i => simp at z1
      refine ⟨FR.drop F1 F2 n k h0, ⟨fun a o z n' => k a o (S1.st a o z n') fun y => (by rw [y, hn] at z; cases z), fun a o z => ?_⟩⟩
      obtain ⟨o1, w⟩ := S1.un a o z
      exact ⟨o1, k a o1 w fun y => by rw [y, hn] at z; cases z⟩
    have less : ∀ {H' : Hp}, Al (add1 A p) H' → ∀ a, A a → add1 A p a := fun _ a z => .inl z
    cases q2 : fn [.pbox (.lst ds)] with
    | bad => simp only [q2] at h; exact h
    | exc c d as' =>
      simp only [q2] at h
      intro cls dd H' po x
      obtain ⟨F3, S3⟩ := after po
      exact h cls dd H' F3 S3 (ExR.less po.al (fun a z => .inl z) x)
    | ok rv as' =>
      simp only [q2] at h
      cases rv with
      | v d =>
        intro v H' po rr
        obtain ⟨F3, S3⟩ := after po
        exact h v H' F3 S3 (R.less po.al (fun a z => .inl z) rr)
      | b es =>
        intro p' ys H' po hn' hp' rr
        obtain ⟨F3, S3⟩ := after po
        have al' : Al (add1 (add1 A p) p') H' := fun a z => z.elim (po.al a) fun z => ⟨.lst ys, by rw [z]; exact hp', rfl⟩
        exact h _ H' F3 S3 ⟨p', ys, rfl, hp', F1.nA hn', RL.less al' (fun a z => .inl (.inl z)) rr⟩
end
end Fw
namespace Fw
open L2 PyProof.Rows PySem PySem.Spec
section
variable {g : GC} {X : Cx} {W : WK}
/-! ## K1. built-ins by values -/
theorem RtL.one {A : Addr → Prop} {H : Hp} {d : D} {vs : List V} (r : RtL g A H [d] vs) : ∃ v, vs = [v] ∧ Rt g A H d v := by
  obtain ⟨y, ys, e, h, t⟩ := r
  rw [show ys = [] from t] at e
  exact ⟨y, e, h⟩
theorem RtL.two {A : Addr → Prop} {H : Hp} {d d' : D} {vs : List V} (r : RtL g A H [d, d'] vs) : ∃ v w, vs = [v, w] ∧ Rt g A H d v ∧ Rt g A H d' w := by
  obtain ⟨y, ys, e, h, t⟩ := r
  obtain ⟨w, e2, h2⟩ := RtL.one t
  exact ⟨y, w, by rw [e, e2], h, h2⟩
/-- of one operand -/
def op1 {β : Type} (f : D → Option β) : List D → Option β
  | [d] => f d
  | _ => none
def op2 {β : Type} (f : D → D → Option β) : List D → Option β
  | [d, e] => f d e
  | _ => none
theorem ls1 {r : List V → Hp → VK → Prop} {f : D → Option D} (h : ∀ A H d d' v Q, Al A H → Rt g A H d v → f d = some d' → (∀ v H', Same H H' → R g A H' d' v → Q v H') → r [v] H Q) : LS g r (op1 f) := fun A H ds d vs Q al rr q k => by
  match ds, q with
  | [x], q => obtain ⟨v, rfl, r1⟩ := RtL.one rr; exact h A H x d v Q al r1 q k
theorem ls2 {r : List V → Hp → VK → Prop} {f : D → D → Option D} (h : ∀ A H d e d' v w Q, Al A H → Rt g A H d v → Rt g A H e w → f d e = some d' → (∀ v H', Same H H' → R g A H' d' v → Q v H') → r [v, w] H Q) : LS g r (op2 f) := fun A H ds d vs Q al rr q k => by
  match ds, q with
  | [x, y], q => obtain ⟨v, w, rfl, r1, r2⟩ := RtL.two rr; exact h A H x y d v w Q al r1 r2 q k
theorem fs1 {r : List V → Hp → VK → Prop} {f : D → Option (List D)} (h : ∀ A H d es v Q, Al A H → Rt g A H d v → f d = some es → (∀ p xs H', H p = none → Same H H' → (∀ b o, b ≠ p → H' b = some o → H b = some o) → H' p = some (.lst xs) → RL g A H es xs → Q (.ref p) H') → r [v] H Q) : FS g r (op1 f) := fun A H ds es vs Q al rr q k => by
  match ds, q with
  | [x], q => obtain ⟨v, rfl, r1⟩ := RtL.one rr; exact h A H x es v Q al r1 q k
theorem upd_only {H : Hp} {p : Addr} {u : HO} : ∀ b o, b ≠ p → upd H p u b = some o → H b = some o := fun b o n h => by rw [upd_ne n] at h; exact h
def dAbs : D → Option D
  | .int i => some (.int (if i < 0 then -i else i))
  | _ => none
theorem ls_abs : LS g (fun xs H Q => ∃ i, xs = [.int i] ∧ Q (.int (if i < 0 then -i else i)) H) (op1 dAbs) := ls1 fun A H d d' v Q al r q k => by
  cases d with
  | int i => cases q; obtain rfl : v = .int i := r; exact ⟨i, rfl, k _ H (Same.refl H) rfl⟩
  | _ => cases q
def dLen : D → Option D
  | .lst ds => some (.int ds.length)
  | .tup ds => some (.int ds.length)
  | .scr ns => some (.int ns.length)
  | .str z => if z.length ≤ 1000000 then some (.int z.length) else none
  | _ => none
theorem ls_len : LS g (fun xs H Q => ∃ x n, xs = [x] ∧ LenV g.K x H n ∧ Q (.int n) H) (op1 dLen) := ls1 fun A H d d' v Q al r q k => by
  cases d with
  | lst ds => cases q; obtain ⟨a, xs, rfl, h1, rl⟩ := r; exact ⟨_, xs.length, rfl, .inl ⟨xs, SqL.of h1, rfl⟩, k _ H (Same.refl H) (by rw [RL.length rl]; rfl)⟩
  | tup ds => cases q; obtain ⟨a, xs, rfl, h1, rl⟩ := r; exact ⟨_, xs.length, rfl, .inr ⟨xs, h1, rfl⟩, k _ H (Same.refl H) (by rw [RL.length rl]; rfl)⟩
  | scr ns => cases q; obtain ⟨a, rfl, h1⟩ := r; exact ⟨_, (ns.map V.int).length, rfl, .inl ⟨_, h1.sq, rfl⟩, k _ H (Same.refl H) (by rw [List.length_map]; rfl)⟩
  | str z =>
    obtain rfl : v = .str z := r
    simp only [dLen] at q
    by_cases hz : z.length ≤ 1000000
    · rw [if_pos hz] at q; cases q; exact ⟨_, z.length, rfl, ⟨Nat.le_trans hz million, rfl⟩, k _ H (Same.refl H) rfl⟩
    · rw [if_neg hz] at q; cases q
  | _ => cases q
def dMax2 : D → D → Option D := dI fun i j => some (.int (if j > i then j else i))
def dMin2 : D → D → Option D := dI fun i j => some (.int (if j < i then j else i))
theorem ls_max2 : LS g (fun xs H Q => ∃ i j, xs = [.int i, .int j] ∧ Q (.int (if j > i then j else i)) H) (op2 dMax2) := ls2 fun A H d e d' v w Q al r r2 q k => by
  cases d with
  | int i => cases e with
    | int j => cases q; obtain rfl : v = .int i := r; obtain rfl : w = .int j := r2; exact ⟨i, j, rfl, k _ H (Same.refl H) rfl⟩
    | _ => cases q
  | _ => cases q
theorem ls_min2 : LS g (fun xs H Q => ∃ i j, xs = [.int i, .int j] ∧ Q (.int (if j < i then j else i)) H) (op2 dMin2) := ls2 fun A H d e d' v w Q al r r2 q k => by
  cases d with
  | int i => cases e with
    | int j => cases q; obtain rfl : v = .int i := r; obtain rfl : w = .int j := r2; exact ⟨i, j, rfl, k _ H (Same.refl H) rfl⟩
    | _ => cases q
  | _ => cases q
def dInt : D → Option D
  | .int i => some (.int i)
  | .bl b => some (.int (if b then 1 else 0))
  | _ => none
theorem ls_int : LS g (fun xs H Q => (∃ i, xs = [.int i] ∧ Q (.int i) H) ∨ ∃ k, xs = [.bl k] ∧ Q (.int (if k then 1 else 0)) H) (op1 dInt) := ls1 fun A H d d' v Q al r q k => by
  cases d with
  | int i => cases q; obtain rfl : v = .int i := r; exact .inl ⟨i, rfl, k _ H (Same.refl H) rfl⟩
  | bl b => cases q; obtain rfl : v = .bl b := r; exact .inr ⟨b, rfl, k _ H (Same.refl H) rfl⟩
  | _ => cases q
def intsD : List D → Option (List Int)
  | [] => some []
  | .int i :: r => (intsD r).map fun l => i :: l
  | _ :: _ => none
theorem intsD_eq : ∀ {ds : List D} {ns : List Int}, intsD ds = some ns → ds = ns.map D.int
  | [], ns, h => by cases h; rfl
  | .int i :: r, ns, h => by
    obtain ⟨l, h1, h2⟩ := map_some (show (intsD r).map (fun l => i :: l) = some ns from h)
    rw [h2, intsD_eq h1]; rfl
  | .non :: _, _, h => nomatch (show (none : Option (List Int)) = some _ from h)
  | .bl _ :: _, _, h => nomatch (show (none : Option (List Int)) = some _ from h)
  | .str _ :: _, _, h => nomatch (show (none : Option (List Int)) = some _ from h)
  | .ty _ :: _, _, h => nomatch (show (none : Option (List Int)) = some _ from h)
  | .tup _ :: _, _, h => nomatch (show (none : Option (List Int)) = some _ from h)
  | .lst _ :: _, _, h => nomatch (show (none : Option (List Int)) = some _ from h)
  | .obj _ _ :: _, _, h => nomatch (show (none : Option (List Int)) = some _ from h)
  | .scr _ :: _, _, h => nomatch (show (none : Option (List Int)) = some _ from h)
  | .dct _ _ :: _, _, h => nomatch (show (none : Option (List Int)) = some _ from h)
  | .exn _ _ :: _, _, h => nomatch (show (none : Option (List Int)) = some _ from h)
def boolsD : List D → Option (List Bool)
  | [] => some []
  | .bl i :: r => (boolsD r).map fun l => i :: l
  | _ :: _ => none
theorem boolsD_eq : ∀ {ds : List D} {ns : List Bool}, boolsD ds = some ns → ds = ns.map D.bl
  | [], ns, h => by cases h; rfl
  | .bl i :: r, ns, h => by
    obtain ⟨l, h1, h2⟩ := map_some (show (boolsD r).map (fun l => i :: l) = some ns from h)
    rw [h2, boolsD_eq h1]; rfl
  | .non :: _, _, h => nomatch (show (none : Option (List Bool)) = some _ from h)
  | .int _ :: _, _, h => nomatch (show (none : Option (List Bool)) = some _ from h)
  | .str _ :: _, _, h => nomatch (show (none : Option (List Bool)) = some _ from h)
  | .ty _ :: _, _, h => nomatch (show (none : Option (List Bool)) = some _ from h)
  | .tup _ :: _, _, h => nomatch (show (none : Option (List Bool)) = some _ from h)
  | .lst _ :: _, _, h => nomatch (show (none : Option (List Bool)) = some _ from h)
  | .obj _ _ :: _, _, h => nomatch (show (none : Option (List Bool)) = some _ from h)
  | .scr _ :: _, _, h => nomatch (show (none : Option (List Bool)) = some _ from h)
  | .dct _ _ :: _, _, h => nomatch (show (none : Option (List Bool)) = some _ from h)
  | .exn _ _ :: _, _, h => nomatch (show (none : Option (List Bool)) = some _ from h)
theorem RL.bls_of {A : Addr → Prop} {H : Hp} : ∀ (ns : List Bool) {xs : List V}, RL g A H (ns.map D.bl) xs → xs = ns.map V.bl
  | [], _, e => e
  | n :: ns, _, ⟨y, ys, e, r, t⟩ => by rw [e, show y = .bl n from r, RL.bls_of ns t]; rfl
def dSum : D → Option D
  | .lst ds => (intsD ds).map fun ns => .int ns.sum
  | _ => none
theorem ls_sum : LS g (rSum g.K) (op1 dSum) := ls1 fun A H d d' v Q al r q k => by
  cases d with
  | lst ds =>
    obtain ⟨ns, h1, rfl⟩ := map_some q
    obtain ⟨a, xs, rfl, h2, rl⟩ := r
    rw [intsD_eq h1] at rl
    rw [RL.ints_of ns rl] at h2
    exact ⟨a, ns, rfl, SqL.of h2, k _ H (Same.refl H) rfl⟩
  | _ => cases q
def dAll : D → Option D
  | .lst ds => (boolsD ds).map fun ns => .bl (ns.all id)
  | _ => none
def dAny : D → Option D
  | .lst ds => (boolsD ds).map fun ns => .bl (ns.any id)
  | _ => none
theorem ls_all : LS g (rAll g.K) (op1 dAll) := ls1 fun A H d d' v Q al r q k => by
  cases d with
  | lst ds =>
    obtain ⟨ns, h1, rfl⟩ := map_some q
    obtain ⟨a, xs, rfl, h2, rl⟩ := r
    rw [boolsD_eq h1] at rl
    rw [RL.bls_of ns rl] at h2
    exact ⟨a, ns, rfl, SqL.of h2, k _ H (Same.refl H) rfl⟩
  | _ => cases q
theorem ls_any : LS g (rAny g.K) (op1 dAny) := ls1 fun A H d d' v Q al r q k => by
  cases d with
  | lst ds =>
    obtain ⟨ns, h1, rfl⟩ := map_some q
    obtain ⟨a, xs, rfl, h2, rl⟩ := r
    rw [boolsD_eq h1] at rl
    rw [RL.bls_of ns rl] at h2
    exact ⟨a, ns, rfl, SqL.of h2, k _ H (Same.refl H) rfl⟩
  | _ => cases q
def dDivmod : D → D → Option D := dI fun i j => if 0 < j ∧ j < 1073741824 then some (.tup [.int (i / j), .int (i % j)]) else none
theorem ls_divmod : LS g (fun xs H Q => ∃ i j, xs = [.int i, .int j] ∧ CDiv i j ∧ ∀ p, H p = none → Q (.ref p) (upd H p (.tup [.int (i / j), .int (i % j)]))) (op2 dDivmod) := ls2 fun A H d e d' v w Q al r r2 q k => by
  cases d with
  | int i => cases e with
    | int j =>
      obtain rfl : v = .int i := r; obtain rfl : w = .int j := r2
      simp only [dDivmod, dI] at q
      by_cases z : 0 < j ∧ j < 1073741824
      · rw [if_pos z] at q; cases q
        exact ⟨i, j, rfl, z, fun p hp => k _ _ (Same.new hp) ⟨p, _, rfl, SqT.of upd_same, _, _, rfl, rfl, _, _, rfl, rfl, rfl⟩⟩
      · rw [if_neg z] at q; cases q
    | _ => cases q
  | _ => cases q
def dTuple : D → Option D
  | .lst ds => some (.tup ds)
  | .tup ds => some (.tup ds)
  | .scr ns => some (.tup (ns.map D.int))
  | _ => none
theorem ls_tuple : LS g (fun xs H Q => ∃ p ys, xs = [.ref p] ∧ ((SqL g.K H p ys ∧ ∀ l, H l = none → Q (.ref l) (upd H l (.tup ys))) ∨ (SqT g.K H p ys ∧ Q (.ref p) H))) (op1 dTuple) := ls1 fun A H d d' v Q al r q k => by
  cases d with
  | lst ds =>
    cases q; obtain ⟨a, xs, rfl, h1, rl⟩ := r
    exact ⟨a, xs, rfl, .inl ⟨SqL.of h1, fun l hl => k _ _ (Same.new hl) ⟨l, xs, rfl, SqT.of upd_same, RL.mono (Mono.same al (Same.new hl)) ds rl⟩⟩⟩
  | tup ds => cases q; obtain ⟨a, xs, rfl, h1, rl⟩ := r; exact ⟨a, xs, rfl, .inr ⟨h1, k _ H (Same.refl H) ⟨a, xs, rfl, h1, rl⟩⟩⟩
  | scr ns =>
    cases q; obtain ⟨a, rfl, h1⟩ := r
    exact ⟨a, _, rfl, .inl ⟨h1.sq, fun l hl => k _ _ (Same.new hl) ⟨l, _, rfl, SqT.of upd_same, RL.ints ns⟩⟩⟩
  | _ => cases q
def dList : D → Option (List D)
  | .lst ds => some ds
  | .tup ds => some ds
  | .scr ns => some (ns.map D.int)
  | _ => none
theorem fs_list : FS g (fun xs H Q => ∃ p ys, xs = [.ref p] ∧ (SqL g.K H p ys ∨ SqT g.K H p ys) ∧ ∀ l, H l = none → Q (.ref l) (upd H l (.lst ys))) (op1 dList) := fs1 fun A H d es v Q al r q k => by
  cases d with
  | lst ds => cases q; obtain ⟨a, xs, rfl, h1, rl⟩ := r; exact ⟨a, xs, rfl, .inl (SqL.of h1), fun l hl => k l xs _ hl (Same.new hl) upd_only upd_same rl⟩
  | tup ds => cases q; obtain ⟨a, xs, rfl, h1, rl⟩ := r; exact ⟨a, xs, rfl, .inr h1, fun l hl => k l xs _ hl (Same.new hl) upd_only upd_same rl⟩
  | scr ns => cases q; obtain ⟨a, rfl, h1⟩ := r; exact ⟨a, _, rfl, .inl h1.sq, fun l hl => k l _ _ hl (Same.new hl) upd_only upd_same (RL.ints ns)⟩
  | _ => cases q
/-- a list and a list, a list so many times: new ones -/
def dCat : D → D → Option (List D)
  | .lst xs, .lst ys => if xs.length + ys.length ≤ 1000000 then some (xs ++ ys) else none
  | _, _ => none
theorem fs_cat : FS2 g rCat dCat := fun A H d1 d2 es v1 v2 Q al r1 r2 q k => by
  cases d1 with
  | lst xs => cases d2 with
    | lst ys =>
      simp only [dCat] at q
      by_cases z : xs.length + ys.length ≤ 1000000
      · rw [if_pos z] at q; cases q
        obtain ⟨a, us, rfl, h1, l1⟩ := r1
        obtain ⟨b, ws, rfl, h2, l2⟩ := r2
        exact ⟨a, b, us, ws, rfl, rfl, h1, h2, by rw [RL.length l1, RL.length l2]; exact Nat.le_trans z million, fun p hp => k p _ hp (RL.append l1 l2)⟩
      · rw [if_neg z] at q; cases q
    | _ => cases q
  | _ => cases q
def dRep : D → D → Option (List D)
  | .lst xs, .int k => if k ≤ 1000000 ∧ 0 ≤ k ∧ xs.length * k.toNat ≤ 1000000 then some (List.replicate k.toNat xs).flatten else none
  | _, _ => none
theorem fs_rep : FS2 g rRep dRep := fun A H d1 d2 es v1 v2 Q al r1 r2 q k => by
  cases d1 with
  | lst xs => cases d2 with
    | int j =>
      simp only [dRep] at q
      by_cases z : j ≤ 1000000 ∧ 0 ≤ j ∧ xs.length * j.toNat ≤ 1000000
      · rw [if_pos z] at q; cases q
        obtain ⟨a, us, rfl, h1, l1⟩ := r1
        exact ⟨a, j, us, rfl, r2, h1, by omega, by omega, by rw [RL.length l1]; exact Nat.le_trans z.2.2 million, fun p hp => k p _ hp (RL.rep l1 _)⟩
      · rw [if_neg z] at q; cases q
    | _ => cases q
  | _ => cases q
/-! isinstance with built-in classes -/
def dTy : D → Option String
  | .non => some "NoneType"
  | .bl _ => some "bool"
  | .int _ => some "int"
  | .str _ => some "str"
  | .lst _ => some "list"
  | .scr _ => some "list"
  | .tup _ => some "tuple"
  | _ => none
theorem Rt.ty {A : Addr → Prop} {H : Hp} {d : D} {v : V} {n : String} (r : Rt g A H d v) (q : dTy d = some n) : TyX g.K H v (.type n) := by
  cases d with
  | non => cases q; rw [show v = .non from r]; exact .base .non
  | bl b => cases q; rw [show v = .bl b from r]; exact .base (.bl b)
  | int b => cases q; rw [show v = .int b from r]; exact .base (.int b)
  | str b => cases q; rw [show v = .str b from r]; exact .base (.str b)
  | lst ds => cases q; obtain ⟨a, xs, rfl, h, _⟩ := r; exact .base (.lst h)
  | scr ns =>
    cases q; obtain ⟨a, rfl, h⟩ := r
    rcases h with ⟨h | ⟨o, h⟩, _⟩ | ⟨o, its, n, h1, h2, _⟩
    · exact .base (.lst h)
    · exact .base (.frz h)
    · exact .kList h1 h2
  | tup ds =>
    cases q; obtain ⟨a, xs, rfl, h, _⟩ := r
    rcases h with (h | ⟨o, h⟩) | ⟨o, its, n, h1, h2, _⟩
    · exact .base (.tup h)
    · exact .fTuple h
    · exact .kTuple h1 h2
  | _ => cases q
def isiT : String → String → Option Bool
  | "int", "int" => some true | "bool", "int" => some true | "str", "int" => some false | "NoneType", "int" => some false | "list", "int" => some false | "tuple", "int" => some false
  | "int", "bool" => some false | "bool", "bool" => some true | "str", "bool" => some false | "NoneType", "bool" => some false | "list", "bool" => some false | "tuple", "bool" => some false
  | "int", "str" => some false | "bool", "str" => some false | "str", "str" => some true | "NoneType", "str" => some false | "list", "str" => some false | "tuple", "str" => some false
  | "int", "tuple" => some false | "bool", "tuple" => some false | "str", "tuple" => some false | "NoneType", "tuple" => some false | "list", "tuple" => some false | "tuple", "tuple" => some true
  | "int", "list" => some false | "bool", "list" => some false | "str", "list" => some false | "NoneType", "list" => some false | "list", "list" => some true | "tuple", "list" => some false
  | _, _ => none
theorem isiT_ok {K : PySem.W.Frag} {a b : String} {c : Bool} (h : isiT a b = some c) : PySem.W.kitOne K (.type a) (.type b) = some c := by
  unfold isiT at h
  split at h <;> first | (cases h; rfl) | cases h
def dIsi : D → D → Option D
  | d, .ty n => match dTy d with
    | some t => (isiT t n).map D.bl
    | none => none
  | _, _ => none
theorem ls_isi : LS g (rIsi g.K) (op2 dIsi) := ls2 fun A H d e d' v w Q al r r2 q k => by
  cases e with
  | ty n =>
    obtain rfl : w = .ty n := r2
    unfold dIsi at q
    cases z : dTy d with
    | none => simp only [z] at q; cases q
    | some t =>
      simp only [z] at q
      obtain ⟨b, h1, rfl⟩ := map_some q
      exact ⟨v, .ty n, .type t, .type n, b, rfl, .ty n, Rt.ty r z, isiT_ok h1, k _ H (Same.refl H) rfl⟩
  | _ => cases d <;> cases q
end
end Fw
namespace Fw
open L2 PyProof.Rows PySem PySem.Spec
section
variable {g : GC} {X : Cx} {W : WK}
/-! ## L1. several names at once -/
/-- an element of a display: a value, a new list -/
inductive Ed where
  | e (m : M D) | f (m : M (List D))
def rdEd (g : GC) (W : WK) : Ed → TE
  | .e m => rdE g W m
  | .f m => rdF g W m
def rdEds (g : GC) (W : WK) : List Ed → TA
  | [] => tNil
  | o :: os => tCons (rdEd g W o) (rdEds g W os)
abbrev CEd (g : GC) (X : Cx) (W : WK) (e : Expr) (d : Ed) : Prop := PE X e (rdEd g W d)
abbrev CEds (g : GC) (X : Cx) (W : WK) (es : List Expr) (os : List Ed) : Prop := PA X es (rdEds g W os)
theorem ed_nil : CEds g X W [] [] := pa_nil
theorem ed_cons {a : Expr} {es : List Expr} {o : Ed} {os : List Ed} (ha : CEd g X W a o) (hr : CEds g X W es os) (hs : starEach (a :: es) X.env = (false, eval a X.env) :: starEach es X.env := by rfl) : CEds g X W (a :: es) (o :: os) := pa_cons ha hr hs
theorem ed_e {a : Expr} {m : M D} (h : CE g X W a m) : CEd g X W a (.e m) := h
theorem ed_f {a : Expr} {m : M (List D)} (h : CF g X W a m) : CEd g X W a (.f m) := h
/-- no exception -/
def nx1 {α : Type} (m : M α) : M α := fun e => match m e with
  | .ok a e' => .ok a e'
  | _ => .bad
def mEds : List Ed → M (List (Sum D (List D)))
  | [] => mp []
  | .e m :: os => mb (nx1 m) fun d => mb (mEds os) fun r => mp (.inl d :: r)
  | .f m :: os => mb (nx1 m) fun d => mb (mEds os) fun r => mp (.inr d :: r)
theorem nx1_ok {α : Type} {m : M α} {e e' : Ev} {a : α} (h : nx1 m e = .ok a e') : m e = .ok a e' := by
  unfold nx1 at h
  cases q : m e with
  | ok b e1 => rw [q] at h; exact h
  | exc _ _ _ => rw [q] at h; cases h
  | bad => rw [q] at h; cases h
theorem mb_ok {α β : Type} {m : M α} {k : α → M β} {e e' : Ev} {b : β} (h : mb m k e = .ok b e') : ∃ a e1, m e = .ok a e1 ∧ k a e1 = .ok b e' := by
  unfold mb at h
  cases q : m e with
  | ok a e1 => rw [q] at h; exact ⟨a, e1, rfl, h⟩
  | exc _ _ _ => rw [q] at h; cases h
  | bad => rw [q] at h; cases h
/-- what was evaluated, the new lists kept as temporaries -/
def PF (g : GC) (T : Hp) (A : Addr → Prop) (H : Hp) : List (Sum D (List D)) → List V → Prop
  | [], vs => vs = []
  | .inl d :: r, vs => ∃ y ys, vs = y :: ys ∧ R g A H d y ∧ PF g T A H r ys
  | .inr ds :: r, vs => ∃ p ys xs, vs = .ref p :: ys ∧ T p = some (.lst xs) ∧ RL g A H ds xs ∧ PF g T A H r ys
def fre : List (Sum D (List D)) → List V → List Addr
  | .inr _ :: r, .ref p :: ys => p :: fre r ys
  | .inl _ :: r, _ :: ys => fre r ys
  | _, _ => []
theorem FR.lessT {f : Fx} {T : Hp} {A : Addr → Prop} {H : Hp} {σ : Sv} {e : Ev} (F : FR g { f with T := T } A H σ e) (h : ∀ a o, f.T a = some o → T a = some o) : FR g f A H σ e := by
  refine ⟨F.len, F.sl, F.inj, fun i s p h1 b1 s1 => ?_, fun a o z => F.tp a o (h a o z), F.ob, F.ob0, F.pb, F.al, F.keep⟩
  have q : T p = none := F.nt i s p h1 b1 s1
  cases z : f.T p with
  | none => rfl
  | some o => rw [h p o z] at q; cases q
theorem Step.none {A : Addr → Prop} {H H1 : Hp} (S : Step A H H1) {a : Addr} (h : H1 a = none) : H a = none := by
  cases q : H a with
  | none => rfl
  | some o => obtain ⟨o', y⟩ := S.un a o q; rw [h] at y; cases y
theorem FR.asT {f : Fx} {A : Addr → Prop} {H : Hp} {σ : Sv} {e : Ev} {p : Addr} {xs : List V} (F1 : FR g f A H σ e) (F2 : FR g f (add1 A p) H σ e) (n : ¬ A p) (hp : H p = some (.lst xs)) : FR g (f.tm p xs) (add1 A p) H σ e := by
  refine ⟨F2.len, F2.sl, F2.inj, fun i s q z1 b1 s1 => ?_, fun a o z => ?_, F2.ob, F2.ob0, F2.pb, F2.al, F2.keep⟩
  · have nq : q ≠ p := fun y => n (y ▸ F1.boxA z1 b1 s1)
    show upd f.T p _ q = none
    rw [upd_ne nq]; exact F2.nt i s q z1 b1 s1
  · by_cases y : a = p
    · subst y
      have z : upd f.T a (.lst xs) a = some o := z
      rw [upd_same] at z; cases z
      exact ⟨.inr rfl, hp⟩
    · have z : upd f.T p (.lst xs) a = some o := z
      rw [upd_ne y] at z
      exact F2.tp a o z
theorem bEds : ∀ (eds : List Ed) {f : Fx} {A : Addr → Prop} {σ : Sv} {H : Hp} {e e1 : Ev} {ps : List (Sum D (List D))} {G : List V → Hp → Prop}, FR g f A H σ e → mEds eds e = .ok ps e1 →
    (∀ T A' vs H', FR g { f with T := T } A' H' σ e1 → (∀ a o, f.T a = some o → T a = some o) → Mono A H A' H' → PF g T A' H' ps vs → (∀ q ∈ fre ps vs, H q = none) → (fre ps vs).Nodup → G vs H') → rdEds g W eds σ H G
  | [], f, A, σ, H, e, e1, ps, G, F, h, go => by
    cases h
    exact go f.T A [] H F (fun _ _ z => z) (Mono.refl F.al) rfl (fun _ z => by simp [fre] at z) (by simp [fre])
  | .e m :: os, f, A, σ, H, e, e1, ps, G, F, h, go => by
    obtain ⟨d, e2, h1, h2⟩ := mb_ok h
    obtain ⟨r, e3, h3, h4⟩ := mb_ok h2
    cases h4
    refine ⟨f, A, e, F, ?_⟩
    rw [nx1_ok h1]
    intro v H1 F1 S1 rv
    refine bEds os F1 h3 fun T A' vs H' F' t1 m' p' q1 q2 => ?_
    exact go T A' (v :: vs) H' F' t1 ((F.mono S1).trans m') ⟨v, vs, rfl, R.mono m' d rv, p'⟩ (fun q z => S1.none (q1 q z)) q2
  | .f m :: os, f, A, σ, H, e, e1, ps, G, F, h, go => by
    obtain ⟨ds, e2, h1, h2⟩ := mb_ok h
    obtain ⟨r, e3, h3, h4⟩ := mb_ok h2
    cases h4
    refine ⟨f, A, e, F, ?_⟩
    rw [nx1_ok h1]
    intro p xs H1 F1 F2 n S1 hn hp rl
    have fT : f.T p = none := by
      cases z : f.T p with
      | none => rfl
      | some o => exact absurd (F1.tp p o z).1 n
    have F3 := FR.asT F1 F2 n hp
    have m1 : Mono A H (add1 A p) H1 := mono_new F S1 hn
    refine bEds os F3 h3 fun T A' vs H' F' t1 m' p' q1 q2 => ?_
    have tp : T p = some (.lst xs) := t1 p _ upd_same
    refine go T A' (.ref p :: vs) H' F' (fun a o z => t1 a o (by show upd f.T p _ a = some o; rw [upd_ne (fun y => by rw [y, fT] at z; cases z)]; exact z)) (m1.trans m') ⟨p, vs, xs, rfl, tp, RL.mono m' ds rl, p'⟩ (fun q z => ?_) ?_
    · rcases List.mem_cons.mp z with rfl | z
      · exact hn
      · exact S1.none (q1 q z)
    · refine List.nodup_cons.mpr ⟨fun z => ?_, q2⟩
      have := q1 p z
      rw [hp] at this; cases this
theorem PF.temp {T : Hp} {A : Addr → Prop} {H : Hp} {q : Addr} : ∀ (ps : List (Sum D (List D))) {vs : List V}, PF g T A H ps vs → q ∈ fre ps vs → ∃ xs, T q = some (.lst xs)
  | [], vs, _, hq => by simp [fre] at hq
  | .inl d :: r, vs, ⟨y, ys, e, _, p⟩, hq => by subst e; exact PF.temp r p hq
  | .inr ds :: r, vs, ⟨p1, ys, xs, e, t, _, p⟩, hq => by
    subst e
    rcases List.mem_cons.mp (show q ∈ p1 :: fre r ys from hq) with rfl | hq
    · exact ⟨xs, t⟩
    · exact PF.temp r p hq
theorem nx1_exc {α : Type} {m : M α} {e e' : Ev} {c : Nat} {d : D} : nx1 m e ≠ .exc c d e' := by
  unfold nx1
  cases m e <;> intro h <;> cases h
/-- the stores -/
def asg1 (i : Nat) : Sum D (List D) → M Unit
  | .inl d => Fw.setV i d
  | .inr ds => Fw.setB i (.lst ds)
theorem FR.setB' {f : Fx} {A : Addr → Prop} {H : Hp} {σ : Sv} {e : Ev} {p : Addr} (F : FR g f A H σ e) {i : Nat} {d : D} (h : f.pa i = none) (hA : A p) (hT : f.T p = none) (h0 : f.H0 p = none) (nb : ∀ (j : Nat) s, e[j]? = some s → s.isBox = true → σ[j]? ≠ some (some (.ref p))) (r : Bx g A H d p) : FR g f A H (σ.set i (some (.ref p))) (e.set i (.box d)) := by
  refine ⟨by rw [List.length_set, List.length_set]; exact F.len, fun j s o h1 h2 => ?_, fun a b s t q h1 h2 b1 b2 s1 s2 => ?_, fun a s q h1 b1 s1 => ?_, F.tp, F.ob, F.ob0, fun i p q => by rw [List.length_set]; exact F.pb i p q, F.al, F.keep⟩
  · rcases get_set h1 with ⟨rfl, _, rfl⟩ | ⟨n, h1⟩
    · rcases get_set h2 with ⟨_, _, rfl⟩ | ⟨n, _⟩
      · exact ⟨h, p, rfl, hA, h0, r⟩
      · exact absurd rfl n
    · rw [List.getElem?_set_ne n] at h2
      exact F.sl j s o h1 h2
  · rcases get_set h1 with ⟨rfl, l1, rfl⟩ | ⟨n1, h1⟩
    · rcases get_set h2 with ⟨rfl, _, rfl⟩ | ⟨n2, h2⟩
      · rfl
      · rw [List.getElem?_set_ne n2] at s2
        rw [List.getElem?_set_self (by rw [F.len]; exact l1)] at s1
        cases s1
        exact absurd s2 (nb b t h2 b2)
    · rw [List.getElem?_set_ne n1] at s1
      rcases get_set h2 with ⟨rfl, l2, rfl⟩ | ⟨n2, h2⟩
      · rw [List.getElem?_set_self (by rw [F.len]; exact l2)] at s2
        cases s2
        exact absurd s1 (nb a s h1 b1)
      · rw [List.getElem?_set_ne n2] at s2
        exact F.inj a b s t q h1 h2 b1 b2 s1 s2
  · rcases get_set h1 with ⟨rfl, l1, rfl⟩ | ⟨n1, h1⟩
    · rw [List.getElem?_set_self (by rw [F.len]; exact l1)] at s1
      cases s1; exact hT
    · rw [List.getElem?_set_ne n1] at s1
      exact F.nt a s q h1 b1 s1
def asgs : List Nat → List (Sum D (List D)) → M Unit
  | [], [] => mp ()
  | i :: is, p :: ps => mb (asg1 i p) fun _ => asgs is ps
  | _, _ => fun _ => .bad
def setσ : List Nat → List V → Sv → Sv
  | i :: is, v :: vs, σ => setσ is vs (σ.set i (some v))
  | _, _, σ => σ
theorem FR.asgs {f : Fx} {A : Addr → Prop} {H : Hp} : ∀ (is : List Nat) (ps : List (Sum D (List D))) {vs : List V} {T : Hp} {σ : Sv} {e e' : Ev}, FR g f A H σ e → PF g T A H ps vs → (∀ q ∈ fre ps vs, f.H0 q = none ∧ f.T q = none ∧ (∀ xs, T q = some (.lst xs) → A q ∧ H q = some (.lst xs)) ∧ ∀ (j : Nat) s, e[j]? = some s → s.isBox = true → σ[j]? ≠ some (some (.ref q))) → (fre ps vs).Nodup → Fw.asgs is ps e = .ok () e' → FR g f A H (setσ is vs σ) e'
  | [], [], vs, T, σ, e, e', F, p, _, _, h => by cases h; exact F
  | i :: is, .inl d :: ps, vs, T, σ, e, e', F, p, q, nd, h => by
    obtain ⟨y, ys, rfl, r, p⟩ := p
    obtain ⟨u, e1, h1, h2⟩ := mb_ok h
    rcases setV_inv F (i := i) (d := d) with z | ⟨hp, z⟩
    · rw [show asg1 i (.inl d) e = Fw.setV i d e from rfl, z] at h1; cases h1
    · rw [show asg1 i (.inl d) e = Fw.setV i d e from rfl, z] at h1; cases h1
      refine FR.asgs is ps (F.setV hp r) p (fun q' hq => ?_) nd h2
      obtain ⟨w1, w2, w3, w4⟩ := q q' hq
      refine ⟨w1, w2, w3, fun j s hj hb hs => ?_⟩
      rcases get_set hj with ⟨_, _, rfl⟩ | ⟨n, hj⟩
      · cases hb
      · rw [List.getElem?_set_ne n] at hs; exact w4 j s hj hb hs
  | i :: is, .inr ds :: ps, vs, T, σ, e, e', F, p, q, nd, h => by
    obtain ⟨p1, ys, xs, rfl, t1, rl, p⟩ := p
    obtain ⟨u, e1, h1, h2⟩ := mb_ok h
    obtain ⟨w1, w2, w3, w4⟩ := q p1 List.mem_cons_self
    obtain ⟨wA, wH⟩ := w3 xs t1
    rcases setB_inv F (i := i) (d := .lst ds) with z | ⟨hp, z⟩
    · rw [show asg1 i (.inr ds) e = Fw.setB i (.lst ds) e from rfl, z] at h1; cases h1
    · rw [show asg1 i (.inr ds) e = Fw.setB i (.lst ds) e from rfl, z] at h1; cases h1
      have nd := List.nodup_cons.mp nd
      refine FR.asgs is ps (F.setB' (d := .lst ds) hp wA w2 w1 w4 ⟨xs, wH, rl⟩) p (fun q' hq => ?_) nd.2 h2
      obtain ⟨u1, u2, u3, u4⟩ := q q' (List.mem_cons_of_mem _ hq)
      refine ⟨u1, u2, u3, fun j s hj hb hs => ?_⟩
      rcases get_set hj with ⟨rfl, hl, rfl⟩ | ⟨n, hj⟩
      · rw [List.getElem?_set_self (by rw [F.len]; exact hl)] at hs
        cases hs; exact nd.1 hq
      · rw [List.getElem?_set_ne n] at hs; exact u4 j s hj hb hs
/-- a, b = x, y; a, b, c = x, y, z -/
def mPar (is : List Nat) (eds : List Ed) : M Fl := mb (nx1 (mEds eds)) fun ps => mb (nx1 (asgs is ps)) fun _ => mp .nx
theorem t_par {is : List Nat} {eds : List Ed} {D : Ends} {σ : Sv} {H : Hp} (h : rdS g W (mPar is eds) D σ H) : rdEds g W eds σ H fun vs H1 => D.nx (setσ is vs σ) H1 := by
  obtain ⟨f, A, e, F, h⟩ := h
  unfold mPar at h
  cases q : nx1 (mEds eds) e with
  | exc c d e1 => exact absurd q nx1_exc
  | bad => unfold mb at h; rw [q] at h; exact h.elim
  | ok ps e1 =>
    unfold mb at h
    simp only [q] at h
    refine bEds eds F (nx1_ok q) fun T A' vs H' F' t1 m' p' q1 q2 => ?_
    cases z : nx1 (asgs is ps) e1 with
    | exc _ _ _ => exact absurd z nx1_exc
    | bad => simp only [z] at h; exact h.elim
    | ok u e2 =>
      simp only [z] at h
      refine h A' _ H' (FR.asgs is ps (F'.lessT t1) p' (fun q hq => ?_) q2 (nx1_ok z)) m'
      have hn := q1 q hq
      refine ⟨F.h0 hn, ?_, fun xs hx => F'.tp q _ hx, fun j s hj hb hs => ?_⟩
      · cases y : f.T q with
        | none => rfl
        | some o => have := (F.tp q o y).2; rw [hn] at this; cases this
      · have y1 : T q = none := F'.nt j s q hj hb hs
        obtain ⟨xs, y2⟩ := PF.temp ps p' hq
        rw [y1] at y2; cases y2
theorem rdEds_mono : ∀ {eds : List Ed} {σ : Sv} {H : Hp} {G G' : List V → Hp → Prop}, (∀ vs H, G vs H → G' vs H) → rdEds g W eds σ H G → rdEds g W eds σ H G'
  | [], σ, H, G, G', i, h => i _ _ h
  | .e m :: os, σ, H, G, G', i, ⟨f, A, e, F, h⟩ => by
    refine ⟨f, A, e, F, ?_⟩
    generalize m e = r at h
    cases r with
    | ok d e' => exact fun v H' F' S r => rdEds_mono (fun vs H z => i _ _ z) (h v H' F' S r)
    | exc c d e' => exact h
    | bad => exact h
  | .f m :: os, σ, H, G, G', i, ⟨f, A, e, F, h⟩ => by
    refine ⟨f, A, e, F, ?_⟩
    generalize m e = r at h
    cases r with
    | ok d e' => exact fun p xs H' F' F2 n S a b r => rdEds_mono (fun vs H z => i _ _ z) (h p xs H' F' F2 n S a b r)
    | exc c d e' => exact h
    | bad => exact h
theorem rdEds_len : ∀ {eds : List Ed} {σ : Sv} {H : Hp} {G : List V → Hp → Prop}, rdEds g W eds σ H G → rdEds g W eds σ H fun vs H1 => vs.length = eds.length ∧ G vs H1
  | [], σ, H, G, h => ⟨rfl, h⟩
  | .e m :: os, σ, H, G, ⟨f, A, e, F, h⟩ => by
    refine ⟨f, A, e, F, ?_⟩
    generalize m e = r at h
    cases r with
    | ok d e' =>
      intro v H' F' S r
      exact rdEds_mono (fun vs H z => ⟨by rw [List.length_cons, List.length_cons, z.1], z.2⟩) (rdEds_len (h v H' F' S r))
    | exc c d e' => exact h
    | bad => exact h
  | .f m :: os, σ, H, G, ⟨f, A, e, F, h⟩ => by
    refine ⟨f, A, e, F, ?_⟩
    generalize m e = r at h
    cases r with
    | ok d e' =>
      intro p xs H' F' F2 n S a b r
      exact rdEds_mono (fun vs H z => ⟨by rw [List.length_cons, List.length_cons, z.1], z.2⟩) (rdEds_len (h p xs H' F' F2 n S a b r))
    | exc c d e' => exact h
    | bad => exact h
theorem cs_par2 (i j : Nat) {st : Stmt} {a b : Ed} (h : PS X st (tPar i j (rdEds g W [a, b]))) : CS g X W st (mPar [i, j] [a, b]) := PS.imp h fun D σ H z =>
  rdEds_mono (fun vs H1 ⟨hl, q⟩ => by
    match vs, hl with
    | [v, w], _ => exact ⟨v, w, rfl, q⟩) (rdEds_len (t_par z))
theorem cs_par3 (i j l : Nat) {st : Stmt} {a b c : Ed} (h : PS X st (tPar3 i j l (rdEds g W [a, b, c]))) : CS g X W st (mPar [i, j, l] [a, b, c]) := PS.imp h fun D σ H z =>
  rdEds_mono (fun vs H1 ⟨hl, q⟩ => by
    match vs, hl with
    | [u, v, w], _ => exact ⟨u, v, w, rfl, q⟩) (rdEds_len (t_par z))
/-! x op= e -/
def mAug (i : Nat) (op : D → D → Option D) (m : M D) : M Fl := mb (mVar i) fun x => mb m fun y => mb (mo (op x y)) fun d => mb (Fw.setV i d) fun _ => mp .nx
theorem cs_aug (i : Nat) {st : Stmt} {r : TIp} {op : D → D → Option D} {m : M D} (ho : OS g r op) (h : PS X st (tAug i (rdE g W m) r)) : CS g X W st (mAug i op m) := PS.imp h fun D σ H ⟨f, A, e, F, h⟩ => by
  unfold mAug at h
  have hv : ∃ d, e[i]? = some (.val d) ∧ FinS g W f A H D (mb m (fun y => mb (mo (op d y)) fun d => mb (Fw.setV i d) fun _ => mp .nx) e) := by
    unfold mb mVar at h
    split at h
    · rename_i d e' q
      split at q
      · rename_i d' q2; cases q; exact ⟨d, q2, h⟩
      · cases q
    · rename_i q
      split at q <;> cases q
    · exact h.elim
  obtain ⟨x, q, h⟩ := hv
  obtain ⟨o, h1, _, v, h2, rx⟩ := F.at q
  refine ⟨v, by rw [h1, h2], ?_⟩
  refine FinS.bE h F fun y e1 w H1 F1 S1 ry h1 => ?_
  obtain ⟨d, q1, h2⟩ := FinS.mo h1
  refine ho A H1 x y d v w _ F1.al (F.r S1 rx).rt ry.rt q1 fun z H2 s rz => ?_
  rcases setV_inv F1 (i := i) (d := d) with q | ⟨hp, q⟩
  · unfold mb at h2; rw [q] at h2; exact h2.elim
  · unfold mb at h2; rw [q] at h2
    exact h2 A _ H2 ((F1.same s).setV hp rz) (Mono.same F1.al s)
end
end Fw
namespace Fw
open L2 PyProof.Rows PySem PySem.Spec
section
variable {g : GC} {X : Cx} {W : WK}
/-! ## M1. repr -/
def rRepr (K : PySem.W.Frag) : List V → Hp → VK → Prop := fun xs H Q => ∃ x d, xs = [x] ∧ Dp K H x d ∧ SeqAt.shaped d = true ∧ d.showable = true ∧ d.shown.length ≤ sizeLine ∧ Q (.str d.shown) H
theorem call_reprD (hu : X.A.units + 65 < cLine) (gd : X.A.guards = some []) : CallR X (.builtin "repr") (rRepr X.K) := by
  intro pins s σ H xs us Q I r h
  obtain ⟨x, d, rfl, hd, sh, sw, sz, q⟩ := h
  obtain ⟨u, rfl, ru⟩ := vals1 r
  cases hd with
  | non => cases ru; exact PySem.P.repr_of_none ⟨.str _, H, I.tok _, ⟨_, rfl⟩, q⟩
  | bl b => cases ru; exact PySem.P.repr_of_bool ⟨.str _, H, I.tok _, ⟨_, rfl⟩, q⟩
  | int i => obtain ⟨t, rfl⟩ := ru; exact PySem.P.repr_of_int (of_decide_eq_true sw) ⟨.str _, H, I.tok _, ⟨_, rfl⟩, q⟩
  | str z => obtain ⟨t, rfl⟩ := ru; exact PySem.P.repr_of_str ⟨.str _, H, I.tok _, ⟨_, rfl⟩, q⟩ sz
  | lst h1 h2 =>
    have ru' := ru
    cases ru
    obtain ⟨as, rd⟩ := Dp.reads I _ _ _ (Dp.lst h1 h2) ru'
    have sh' := Bool.and_eq_true_iff.mp sh
    have dp := of_decide_eq_true sh'.2
    exact repr_of_reads' rd sw (PyData.noDict_hsm (PyData.hasDict_of_canLay _ sh'.1)) gd (by omega) (fun _ _ z => z) (fun h' u tk k => ⟨.str _, H, I.kept k, ⟨_, rfl⟩, q⟩) sz
  | tup h1 h2 =>
    have ru' := ru
    cases ru
    obtain ⟨as, rd⟩ := Dp.reads I _ _ _ (Dp.tup h1 h2) ru'
    have sh' := Bool.and_eq_true_iff.mp sh
    have dp := of_decide_eq_true sh'.2
    exact repr_of_reads' rd sw (PyData.noDict_hsm (PyData.hasDict_of_canLay _ sh'.1)) gd (by omega) (fun _ _ z => z) (fun h' u tk k => ⟨.str _, H, I.kept k, ⟨_, rfl⟩, q⟩) sz
def dRepr (d : D) : Option D := match py d with
  | some p => if SeqAt.shaped p = true ∧ p.showable = true ∧ p.shown.length ≤ 1000000 then some (.str p.shown) else none
  | none => none
theorem ls_repr : LS g (rRepr g.K) (op1 dRepr) := ls1 fun A H d d' v Q al r q k => by
  unfold dRepr at q
  cases z : py d with
  | none => rw [z] at q; cases q
  | some p =>
    rw [z] at q
    have q : (if SeqAt.shaped p = true ∧ p.showable = true ∧ p.shown.length ≤ 1000000 then some (D.str p.shown) else none) = some d' := q
    by_cases c : SeqAt.shaped p = true ∧ p.showable = true ∧ p.shown.length ≤ 1000000
    · rw [if_pos c] at q; cases q
      exact ⟨v, p, rfl, Rt.dp d v p r z, c.1, c.2.1, Nat.le_trans c.2.2 million, k _ H (Same.refl H) rfl⟩
    · rw [if_neg c] at q; cases q
/-! ## M2. f(k = e, ..) -/
abbrev CKs (g : GC) (X : Cx) (W : WK) (ks : List Keyword) (os : List Od) : Prop := PK X ks (rdOs g W os)
theorem ck_nil : CKs g X W [] [] := pk_nil
theorem ck_cons {a : Expr} {nm : Option Str} {kp : Pos} {ks : List Keyword} {o : Od} {os : List Od} (ha : CO g X W a o) (hr : CKs g X W ks os) : CKs g X W (⟨nm, a, kp⟩ :: ks) (o :: os) := pk_cons ha hr
def permL {α : Type} (π : List Nat) (xs : List α) : List α := π.filterMap fun i => xs[i]?
theorem PL.perm {A : Addr → Prop} {H : Hp} {σ : Sv} {ps : List (Sum D Nat)} {vs : List V} (p : PL g A H σ ps vs) : ∀ (π : List Nat), (∀ i ∈ π, i < ps.length) → PL g A H σ (permL π ps) (permL π vs)
  | [], _ => rfl
  | i :: π, h => by
    have ih := PL.perm p π fun j hj => h j (List.mem_cons_of_mem _ hj)
    have hi := h i List.mem_cons_self
    have e1 : ps[i]? = some ps[i] := List.getElem?_eq_getElem hi
    obtain ⟨v, hv, r⟩ := PL.get p e1
    have e2 : permL (i :: π) ps = ps[i] :: permL π ps := by unfold permL; rw [List.filterMap_cons, e1]
    have e3 : permL (i :: π) vs = v :: permL π vs := by unfold permL; rw [List.filterMap_cons, hv]
    rw [e2, e3]
    cases q : ps[i] with
    | inl d => rw [q] at r; exact ⟨v, _, rfl, r, ih⟩
    | inr j => rw [q] at r; exact ⟨v, _, rfl, r, ih⟩
def mCallP (np : Nat) (fn : Fn) (π : List Nat) (os : List Od) : M RV := mb (mA1 os) fun ps e => if ps.length = π.length ∧ (π.all fun i => decide (i < ps.length)) = true then (match argsOf e (permL π ps) with
  | none => .bad
  | some as => if as.length = np then (if nodupB (nums (permL π ps)) = true then (match fn as with
      | .ok rv as' => .ok rv (wb (permL π ps) as' e)
      | .exc c d as' => .exc c d (wb (permL π ps) as' e)
      | .bad => .bad) else .bad) else .bad) else .bad
def mCvP (np : Nat) (fn : Fn) (π : List Nat) (os : List Od) : M D := mb (mCallP np fn π os) fun rv => mp rv.d
theorem t_callP {np : Nat} {fn : Fn} {π : List Nat} {os : List Od} {σ : Sv} {H : Hp} {Q : VK} (h : rdE g W (mCvP np fn π os) σ H Q) : rdOs g W os σ H fun vs H1 => vs.length = π.length ∧ spF g np fn (permL π vs) H1 Q (WE W σ) := by
  obtain ⟨f, A, e, F, h⟩ := h
  unfold mCvP mCallP at h
  rw [mb_assoc] at h
  refine bAs1 os h F fun ps e1 vs H1 F1 S1 p1 h1 => ?_
  unfold mb at h1
  dsimp only at h1
  by_cases hc : ps.length = π.length ∧ (π.all fun i => decide (i < ps.length)) = true
  · rw [if_pos hc] at h1
    refine ⟨(PL.length p1).trans hc.1, ?_⟩
    have p2 := p1.perm π fun i hi => of_decide_eq_true (List.all_eq_true.mp hc.2 i hi)
    generalize permL π ps = ps' at h1 p2
    generalize permL π vs = vs' at p2
    cases ha : argsOf e1 ps' with
    | none => simp only [ha] at h1; exact h1.elim
    | some as =>
      simp only [ha] at h1
      by_cases hl : as.length = np
      · rw [if_pos hl] at h1
        by_cases nd : nodupB (nums ps') = true
        · rw [if_pos nd] at h1
          have r := args_rel F1 p2 ha nd
          refine ⟨by rw [← r.len]; exact hl, A, as, F1.al, r, ?_⟩
          cases q : fn as with
          | ok rv as' =>
            simp only [q] at h1
            cases rv with
            | v d =>
              intro v H' po rr
              obtain ⟨F2, S2⟩ := F1.call p2 ha nd po (fun _ z => z) (fun _ _ z _ => z) po.al
              exact h1 v H' F2 (S1.trans S2) rr
            | b ds =>
              intro p xs H' po hn hp rr
              have sub : ∀ a, A a → add1 A p a := fun _ z => .inl z
              have al' : Al (add1 A p) H' := fun a z => z.elim (po.al a) fun z => ⟨.lst xs, by rw [z]; exact hp, rfl⟩
              obtain ⟨F2, S2⟩ := F1.call p2 ha nd (po.less sub al') (fun _ z => z) (fun _ _ z _ => z) po.al
              exact h1 _ H' F2 (S1.trans S2) ⟨p, xs, rfl, hp, F1.nA hn, RL.less al' sub rr⟩
          | exc c d as' =>
            simp only [q] at h1
            intro cls dd H' po x
            obtain ⟨F2, S2⟩ := F1.call p2 ha nd po (fun _ z => z) (fun _ _ z _ => z) po.al
            exact h1 cls dd H' F2 S2 x
          | bad => simp only [q] at h1; exact h1.elim
        · rw [if_neg nd] at h1; exact h1.elim
      · rw [if_neg hl] at h1; exact h1.elim
  · rw [if_neg hc] at h1; exact h1.elim
/-! ## M3. what a caller knows of a def -/
structure Has (P : Program) (w : World) (K : PySem.W.Frag) (mg : Str → Option Value) (base : Heap) (k : Nat) (x : Str) (ps : List Str) (ar : Arguments) (sp : Sp) : Prop where
  ex : ∃ f fd, FnG P w K mg base k f fd ps sp ∧ mg x = some (.ref f) ∧ PySem.W.keepIn K (.ref f) = true ∧ Binds K fd ps [] ∧
    ∃ (body : List Stmt) (scope : Scope), FunD K x x ar body scope [] [] f fd
section
variable {k np : Nat} {x : Str} {ps : List Str} {ar : Arguments} {fn : Fn} {p pos : Pos} {e : Expr} {es : List Expr}
theorem c_call {os : List Od} (F : Has X.prog X.w X.K X.mg X.base k x ps ar (spF g np fn)) (hr : Room k X.A) (gd : X.A.guards = some []) (hg : Gl X x) (tk : Takes X W) (ha : COs g X W (e :: es) os)
    (hdb : (x == ("__debug__" : Str)) = false) (he : starEach (e :: es) X.env = (false, eval e X.env) :: starEach es X.env := by rfl) (hpl : (backTo pos (starEach es X.env)).any (·.1) = false := by rfl) : CE g X W (.Call (.Name x p) (e :: es) [] pos) (mCv np fn os) := by
  obtain ⟨f, fd, F, hm, hk, hb, _⟩ := F.ex
  exact PE.imp (pe_callG F hr gd hg hm hk hb tk ha hdb he hpl) t_call
theorem cf_call {os : List Od} (F : Has X.prog X.w X.K X.mg X.base k x ps ar (spF g np fn)) (hr : Room k X.A) (gd : X.A.guards = some []) (hg : Gl X x) (tk : Takes X W) (ha : COs g X W (e :: es) os)
    (hdb : (x == ("__debug__" : Str)) = false) (he : starEach (e :: es) X.env = (false, eval e X.env) :: starEach es X.env := by rfl) (hpl : (backTo pos (starEach es X.env)).any (·.1) = false := by rfl) : CF g X W (.Call (.Name x p) (e :: es) [] pos) (mCl np fn os) := by
  obtain ⟨f, fd, F, hm, hk, hb, _⟩ := F.ex
  exact PE.imp (pe_callG F hr gd hg hm hk hb tk ha hdb he hpl) t_callF
theorem c_call1 {m : M (List D)} (F : Has X.prog X.w X.K X.mg X.base k x ps ar (spF g 1 fn)) (hr : Room k X.A) (gd : X.A.guards = some []) (hg : Gl X x) (tk : Takes X W) (ha : CF g X W e m)
    (hdb : (x == ("__debug__" : Str)) = false) (he : starEach [e] X.env = (false, eval e X.env) :: starEach [] X.env := by rfl) : CE g X W (.Call (.Name x p) [e] [] pos) (mC1 fn m) := by
  obtain ⟨f, fd, F, hm, hk, hb, _⟩ := F.ex
  exact PE.imp (pe_callG F hr gd hg hm hk hb tk (pa_cons ha pa_nil he) hdb he rfl) t_call1
/-- all by keywords: π tells, for each parameter, which keyword -/
theorem c_callK {os : List Od} {ks : List Keyword} {π : List Nat} {nms : List Str} (F : Has X.prog X.w X.K X.mg X.base k x ps ar (spF g np fn)) (hr : Room k X.A) (gd : X.A.guards = some []) (hg : Gl X x) (tk : Takes X W) (ha : CKs g X W ks os)
    (hkb : ∀ (fd : FuncData) (f : Addr) (body : List Stmt) (scope : Scope), FunD X.K x x ar body scope [] [] f fd → ∀ (s : Shared) (us : List Value), us.length = π.length → BindsTo s fd ⟨[], nms.zip us⟩ (ps.zip (permL π us)))
    (hall : (backToKw pos (keywordEach ks X.env)).all (·.1.isSome) = true := by rfl) (hks : (backToKw pos (keywordEach ks X.env)).filterMap (·.1) = nms := by rfl)
    (hdb : (x == ("__debug__" : Str)) = false) (hpl : ((backTo pos (starEach [] X.env)).any (·.1) || (backToKw pos (keywordEach ks X.env)).any (·.1.isNone)) = false := by rfl) : CE g X W (.Call (.Name x p) [] ks pos) (mCvP np fn π os) := by
  obtain ⟨f, fd, F, hm, hk, hb, body, scope, FD⟩ := F.ex
  refine ⟨fun pins s σ H Q I h => wpAny_Call_Name_kw (ld_glob I hg hm ?_ hdb)⟩
  refine PySem.W.callWith_KW0 (h₀ := X.base) I.ok.mod.kin hk hall (thn (ha.run pos pins s σ H _ I (t_callP h)) fun us s1 ⟨vs, H1, I1, r, hl, q⟩ => ⟨I1.kIn, ?_⟩) hpl
  rw [hks]
  have perm : ∀ (π : List Nat), Vals (permL π vs) (permL π us) := fun π => by
    induction π with
    | nil => exact .nil
    | cons i π ih =>
      unfold permL
      rw [List.filterMap_cons, List.filterMap_cons]
      cases z : vs[i]? with
      | none => rw [r.none_of z]; exact ih
      | some v => obtain ⟨u, z1, z2⟩ := r.get z; rw [z1]; exact .cons z2 ih
  exact run_g (args := ⟨[], nms.zip us⟩) F hr gd tk I1 (hkb fd f body scope FD s1 us (by rw [← r.length]; exact hl)) (perm π) q
end
/-! ## M4. is None, is True -/
def dIsN : D → Bool
  | .non => true
  | _ => false
theorem R.isN {A : Addr → Prop} {H : Hp} {d : D} {v : V} (r : Rt g A H d v) : decide (v = .non) = dIsN d := by
  cases d with
  | non => rw [show v = .non from r]; rfl
  | bl b => rw [show v = .bl b from r]; rfl
  | int b => rw [show v = .int b from r]; rfl
  | str b => rw [show v = .str b from r]; rfl
  | ty b => rw [show v = .ty b from r]; rfl
  | tup _ => obtain ⟨a, _, rfl, _⟩ := r; rfl
  | lst _ => obtain ⟨a, _, rfl, _⟩ := r; rfl
  | obj _ _ => obtain ⟨a, _, _, rfl, _⟩ := r; rfl
  | scr _ => obtain ⟨a, rfl, _⟩ := r; rfl
  | dct _ _ => obtain ⟨a, _, rfl, _⟩ := r; rfl
  | exn _ _ => obtain ⟨a, _, rfl, _⟩ := r; rfl
def mIsN (a : Od) : M D := mO1 a fun d => mp (.bl (dIsN d))
def mNotN (a : Od) : M D := mO1 a fun d => mp (.bl (!dIsN d))
theorem c_isN {a : Expr} {o : Od} {j} {pos pos' : Pos} (ha : CO g X W a o) : CE g X W (.Compare a [.Is] [.Constant .none j pos'] pos) (mIsN o) := PE.imp (pe_cmp (pc_isN ha)) fun σ H Q ⟨f, A, e, F, h⟩ => Fin.b1 h F fun d e1 v H1 F1 S1 r h1 => h1 _ H1 F1 S1 (by rw [R.isN r]; rfl)
theorem c_notN {a : Expr} {o : Od} {j} {pos pos' : Pos} (ha : CO g X W a o) : CE g X W (.Compare a [.IsNot] [.Constant .none j pos'] pos) (mNotN o) := PE.imp (pe_cmp (pc_notN ha)) fun σ H Q ⟨f, A, e, F, h⟩ => Fin.b1 h F fun d e1 v H1 F1 S1 r h1 => h1 _ H1 F1 S1 (by rw [R.isN r]; rfl)
def mIsNT (a : Od) : M Bool := mO1 a fun d => mp (dIsN d)
def mNotNT (a : Od) : M Bool := mO1 a fun d => mp (!dIsN d)
theorem ct_isN {a : Expr} {o : Od} {j} {pos pos' : Pos} (ha : CO g X W a o) : CT g X W (.Compare a [.Is] [.Constant .none j pos'] pos) (mIsNT o) := PT.imp (pt_cmp (pc_isN ha)) fun σ H Q ⟨f, A, e, F, h⟩ => Fin.b1 h F fun d e1 v H1 F1 S1 r h1 => ⟨_, by rw [R.isN r], h1 H1 F1 S1⟩
theorem ct_notN {a : Expr} {o : Od} {j} {pos pos' : Pos} (ha : CO g X W a o) : CT g X W (.Compare a [.IsNot] [.Constant .none j pos'] pos) (mNotNT o) := PT.imp (pt_cmp (pc_notN ha)) fun σ H Q ⟨f, A, e, F, h⟩ => Fin.b1 h F fun d e1 v H1 F1 S1 r h1 => ⟨_, by rw [R.isN r], h1 H1 F1 S1⟩
end
end Fw
namespace Fw
open L2 PyProof.Rows PySem PySem.Spec
section
variable {g : GC} {X : Cx} {W : WK}
/-! ## N1. joints -/
theorem ts_nil : PTs X [] (rdT g W (mp true)) := ⟨fun pins s σ H Q I h => pts_nil.run pins s σ H Q I (by
  obtain ⟨f, A, e, F, h⟩ := h
  exact h H F .refl)⟩
theorem ts_one {c : Expr} {m : M Bool} (h : CT g X W c m) : PTs X [c] (rdT g W m) := pts_one h
theorem asg_mono {st : Stmt} {t u : TE} {G : TG} (h : PS X st (tAsg t G)) (i : ∀ σ H Q, u σ H Q → t σ H Q) : PS X st (tAsg u G) := ⟨fun pins s σ H D I q => h.run pins s σ H D I (i _ _ _ q)⟩
theorem lc_of {own sl : List Nat} {mi : M (List D)} {bd : D → M Unit} {mt : M Bool} {el : M D} (hsl : ∀ j ∈ sl, j ∈ own) : ∀ σ H Q, rdF g W (mLc mi own bd mt el) σ H Q → tLc (rdI g W mi) (rdG g sl bd) (rdT g W0 mt) (rdE g W0 el) own σ H Q := fun σ H Q ⟨f, A, e, F, h⟩ => t_lc σ H Q f A e F h hsl
theorem fr_of {m : M (List D)} {t : TE} (h : ∀ σ H Q, rdF g W m σ H Q → t σ H Q) : ∀ σ H Q, rdE g W (mFr m) σ H Q → t σ H Q := fun σ H Q ⟨f, A, e, F, z⟩ => h σ H Q (Fin.bF z F fun ds e1 p xs H1 F1 F2 n S1 hn hp r h1 => h1 _ H1 F1 S1 ⟨p, xs, rfl, hp, n, RL.mono ⟨F2.al, fun _ _ q _ => q, fun _ _ z _ => .inl z⟩ ds r⟩)
theorem u64 {k : Nat} {A : Around} (h : Room k A) : A.units + 64 < cLine := h.units
theorem u1 {k : Nat} {A : Around} (h : Room k A) : A.units + 1 < cLine := by have := h.units; omega
theorem u65 {k : Nat} {A : Around} (h : Room k A) : A.units + 65 < cLine := by have := h.un; omega
/-- a boolean: is True, is not True -/
def dIsB : D → D → Option D
  | .bl a, .bl b => some (.bl (decide (a = b)))
  | _, _ => none
def dIsNotB : D → D → Option D
  | .bl a, .bl b => some (.bl (!decide (a = b)))
  | _, _ => none
theorem op_isnotBl : OpR X (compareOp .IsNot) (fun x y H Q => ∃ a b, x = .bl a ∧ y = .bl b ∧ Q (.bl (!decide (a = b))) H) := by
  intro pins s σ H x y v u Q I rx ry h
  obtain ⟨a, b, rfl, rfl, q⟩ := h
  cases rx; cases ry
  cases a <;> cases b <;> exact wpAny_pure ⟨.bl _, H, I, rfl, q⟩
theorem os_isnotB : OS g (fun x y H Q => ∃ a b, x = .bl a ∧ y = .bl b ∧ Q (.bl (!decide (a = b))) H) dIsNotB := fun A H d1 d2 d v1 v2 Q al r1 r2 q k => by
  cases d1 with
  | bl a => cases d2 with
    | bl b => cases q; exact ⟨a, b, r1, r2, k _ H (Same.refl H) rfl⟩
    | _ => cases q
  | _ => cases q
/-! ## N2. x += e -/
def dIAdd : D → D → Option D := dI fun i j => some (.int (i + j))
theorem os_iadd : OS g (ipI fun i j => i + j) dIAdd := os_I0 (h := fun i j => .int (i + j)) fun i j d q A H => by cases q; rfl
theorem os_isub : OS g (ipI fun i j => i - j) dSub := os_I0 (h := fun i j => .int (i - j)) fun i j d q A H => by cases q; rfl
/-- a number in a module's own name -/
theorem c_gint {x : Str} {i : Int} {p : Pos} (hg : Gl X x) (h : ∃ t, X.mg x = some (.int i t)) (hd : (x == ("__debug__" : Str)) = false := by decide +kernel) : CE g X W (.Name x p) (mC (.int i)) := by
  obtain ⟨t, h⟩ := h
  exact c_con (pe_glob (v := .int i) hg h ⟨t, rfl⟩ hd) fun _ _ => rfl
theorem c_gty {x : Str} {y : String} {p : Pos} (hg : Gl X x) (hm : X.mg x = none) (hv : bootBuiltins x = some (.type y)) (hn : x ≠ "__name__" := by decide +kernel) (hd : (x == ("__debug__" : Str)) = false := by decide +kernel) : CE g X W (.Name x p) (mC (.ty y)) :=
  c_con (pe_bltn (v := .ty y) hg hm hv rfl hn hd) fun _ _ => rfl
end
end Fw
namespace Fw
open L2 PyProof.Rows PySem PySem.Spec
/-! ## P1. the law is called with a script: what FnG says at the claim's caller -/
section
variable {P : Program} {w : World} {K : PySem.W.Frag} {mg mb : Str → Option Value} {k : Nat} {fa a : Addr} {fd : FuncData} {x : Str} {sp : Sp} {s1 : Shared} {vs : List Value} {ns : List Int}
abbrev EndQ (s1 : Shared) : Except Value Flow → Shared → Prop := fun r s2 => r = .ok (.ret (.bool true)) ∧ OldK s1.heap s2.heap ∧ s2.os = s1.os ∧ AllBare s2.gens
/-- all that is tracked is the script -/
structure Just (P : Program) (w : World) (K : PySem.W.Frag) (H : Hp) (a : Addr) (h : Heap) : Prop where
  one : ∀ b u, H b = some u → b = a ∧ (∃ o xs, u = .frz o (.lst xs)) ∧ K.lookup a = none
  ok : HOk P w H h
theorem end_core {H : Hp} {us : List Value} (J : Just P w K H a s1.heap) (isL : ∀ b o es ep, s1.heap.get? b = some o → o.data = .dict es ep → b ≠ a)
    (gm : s1.heap.Ns mainGlobals mg) (gb : s1.heap.Ns builtinsNs mb) (bb : ∀ y : Str, y ≠ "__name__" → mb y = bootBuiltins y) (nl : s1.heap.NoLimit) (ng : s1.gens = #[]) (KX : K.In s1.heap) (rm : Room k callerA)
    (F : ∀ base : Heap, K.In base → base.Ns mainGlobals mg → FnG P w K mg base k fa fd [x] sp) (bi : ∀ (s : Shared) (u : Value), BindsTo s fd ⟨[u], []⟩ [(x, u)])
    (prom : sp [.ref a] H (fun v _ => v = .bl true) fun _ _ _ => False) : codeAny (model P w) callerA (.call (.ref fa) ⟨[.ref a], []⟩) (EndQ s1) s1 := by
  have free : ∀ {b o es ep}, s1.heap.get? b = some o → o.data = .dict es ep → H b = none := by
    intro b o es ep e d
    cases z : H b with
    | none => rfl
    | some u => exact absurd (J.one b u z).1 (isL b o es ep e d)
  have down : ∀ {b : Addr} {m : Str → Option Value}, s1.heap.Ns b m → (hidT s1.heap H).Ns b m := by
    rintro b m ⟨o, es, ep, e, d, r⟩
    exact ⟨o, es, ep, hidT_get e (free e d), d, r⟩
  have kin : K.In (hidT s1.heap H) := by
    intro b o e
    refine hidT_get (KX b o e) ?_
    cases z : H b with
    | none => rfl
    | some u =>
      obtain ⟨rfl, _, no⟩ := J.one b u z
      rw [no] at e; cases e
  obtain ⟨mc, c1, c2⟩ := nl
  have md : Mod K mg (hidT s1.heap H) := ⟨kin, down gm, ⟨mb, down gb, bb⟩, mc, down c1, c2⟩
  have ev : Env0 P w K mg (hidT s1.heap H) callerA [] s1 H := by
    refine ⟨rfl, md, fun b o e => of_hidT e, Nat.le_of_eq (hidT_size _ _), trivial, fun b hb => ?_, J.ok, .of_eq ng⟩
    have hb : b ∈ ([] : List Addr) := hb
    cases hb
  have go := (F _ kin (down gm)).run callerA [] s1 H ⟨[.ref a], []⟩ [.ref a] [.ref a] _ _ rm rfl ev (bi s1 (.ref a)) (.cons rfl .nil) prom
  refine codeAny_mono go fun r s2 h => ?_
  cases r with
  | error e =>
    obtain ⟨_, _, _, _, _, _, _, _, _, _, _, _, h⟩ := h
    exact h.elim
  | ok fl => cases fl with
    | ret u =>
      obtain ⟨v, H2, os, bare, un, ok2, rv, q⟩ := h
      cases (show v = .bl true from q)
      cases (show u = Value.bool true from rv)
      refine ⟨rfl, OldK.of_keep fun b o e => ?_, os, bare⟩
      cases z : H b with
      | none =>
        refine un.keep b o e z (fun y => ?_) (by simp)
        have y : b ∈ ([] : List Addr) := y
        cases y
      | some u =>
        obtain ⟨_, ⟨ob, xs, rfl⟩, _⟩ := J.one b u z
        obtain ⟨e1, _⟩ := J.ok b _ z
        obtain ⟨e2, _⟩ := ok2 b _ (un.frzs b ob _ z)
        cases e.symm.trans e1
        exact e2
    | next => exact h.elim
    | brk => exact h.elim
    | cont => exact h.elim
theorem end_call (KX : K.In s1.heap) (gm : s1.heap.Ns mainGlobals mg) (gb : s1.heap.Ns builtinsNs mb) (bb : ∀ y : Str, y ≠ "__name__" → mb y = bootBuiltins y) (nl : s1.heap.NoLimit) (ng : s1.gens = #[])
    (ha : s1.heap.get? a = some { cls := .type "list", data := .seq vs.toArray }) (hi : IntsAre vs ns) (hl : ns.length ≤ sizeLine) (rm : Room k callerA)
    (F : ∀ base : Heap, K.In base → base.Ns mainGlobals mg → FnG P w K mg base k fa fd [x] sp) (bi : ∀ (s : Shared) (u : Value), BindsTo s fd ⟨[u], []⟩ [(x, u)])
    (prom : ∀ H : Hp, SqL K H a (ns.map V.int) → sp [.ref a] H (fun v _ => v = .bl true) fun _ _ _ => False) : codeAny (model P w) callerA (.call (.ref fa) ⟨[.ref a], []⟩) (EndQ s1) s1 := by
  have isL : ∀ b o es ep, s1.heap.get? b = some o → o.data = .dict es ep → b ≠ a := by
    rintro b o es ep e d rfl
    cases e.symm.trans ha
    cases d
  cases hk : K.lookup a with
  | some o =>
    cases (KX a o hk).symm.trans ha
    have J : Just P w K (fun _ => none) a s1.heap := ⟨fun b u z => (by cases z), fun b u z => (by cases z)⟩
    exact end_core (us := vs) J isL gm gb bb nl ng KX rm F bi (prom _ (.inr ⟨_, vs.toArray, _, hk, rfl, rfl, rfl, by rw [List.size_toArray, hi.length]; exact hl, by simpa using vals_ints hi⟩))
  | none =>
    have at_ : ∀ b u, (if b = a then some (HO.frz { cls := .type "list", data := .seq vs.toArray } (.lst (ns.map V.int))) else none) = some u → b = a ∧ u = .frz { cls := .type "list", data := .seq vs.toArray } (.lst (ns.map V.int)) := by
      intro b u z
      split at z
      · cases z; exact ⟨by assumption, rfl⟩
      · cases z
    have J : Just P w K (fun b => if b = a then some (.frz { cls := .type "list", data := .seq vs.toArray } (.lst (ns.map V.int))) else none) a s1.heap := by
      refine ⟨fun b u z => ?_, fun b u z => ?_⟩
      · obtain ⟨rfl, rfl⟩ := at_ b u z
        exact ⟨rfl, ⟨_, _, rfl⟩, hk⟩
      · obtain ⟨rfl, rfl⟩ := at_ b u z
        exact ⟨ha, by rw [List.length_map]; exact hl, vs, _, vals_ints hi, ha⟩
    exact end_core (us := vs) J isL gm gb bb nl ng KX rm F bi (prom _ (.inl (.inr ⟨{ cls := .type "list", data := .seq vs.toArray }, if_pos rfl⟩)))
end
theorem fd_same {K : PySem.W.Frag} {x y x' y' : Str} {pa pa' : Arguments} {b b' : List Stmt} {sc sc' : Scope} {dv dv' : List V} {kw kw' : List (Str × V)} {f : Addr} {fd fd' : FuncData} (F : FunD K x y pa b sc dv kw f fd) (G : FunD K x' y' pa' b' sc' dv' kw' f fd') : fd = fd' := by
  obtain ⟨_, _, _, _, _, _, _, _, _, _, _, l1, _⟩ := F.ex
  obtain ⟨_, _, _, _, _, _, _, _, _, _, _, l2, _⟩ := G.ex
  cases l1.symm.trans l2
  rfl
/-- what a claim's end needs of the mirror of its law -/
theorem spF_law {g : GC} {fn : Fn} {H : Hp} {a : Addr} {ns : List Int} {as' : List Sl} (h : fn [.val (.scr ns)] = .ok (.v (.bl true)) as') (hS : SqL g.K H a (ns.map V.int)) : spF g 1 fn [.ref a] H (fun v _ => v = .bl true) fun _ _ _ => False := by
  refine ⟨rfl, fun _ => False, [.val (.scr ns)], fun _ z => z.elim, ⟨rfl, ?_, ?_⟩, ?_⟩
  · intro i s v e1 e2
    cases i with
    | zero =>
      cases e1; cases e2
      exact ⟨a, rfl, hS.elim (fun z => .inl ⟨z, fun y => y⟩) .inr⟩
    | succ i => cases e1
  · intro i j s t p e1 e2 z1
    cases i with
    | zero => cases e1; cases z1
    | succ i => cases e1
  · rw [h]
    exact fun v H' _ r => r
theorem walk_g {l : PySem.W.OpenLaw} {n k : Nat} {q : Program} {loose : List Str} {XP : (Str → Option Value) → Heap → Prop} {YP : World → Heap → Prop} {d : DefRec} {x : Str} (hn : l.most = some n) (hn2 : n ≤ sizeLine) (hdf : d.params.defaults = []) (rm : Room k callerA)
    (F : ∀ (w : World) (mg : Str → Option Value) (fa : Addr) (h : Heap), YP w h → h.Ns mainGlobals mg → mg d.name = some (.ref fa) → ∃ (K : PySem.W.Frag) (fd : FuncData) (sp : Sp), K.In h ∧ (∀ (s : Shared) (u : Value), BindsTo s fd ⟨[u], []⟩ [(x, u)]) ∧
        (∀ (H : Hp) (a : Addr) (ns : List Int), ns.length ≤ n → SqL K H a (ns.map V.int) → sp [.ref a] H (fun v _ => v = .bl true) fun _ _ _ => False) ∧ ∀ base : Heap, K.In base → base.Ns mainGlobals mg → FnG l.prog w K mg base k fa fd [x] sp) :
    PySem.W.WalkO q loose XP YP l.row.toRowW d [] (fun f vs => PySem.call f vs) := by
  refine Att.attach_call hn hdf fun w s0 s1 mg mb fa o pm cd doc a vs ns G Y ho hd hcd hm hobj hi hlen hg => ?_
  obtain ⟨K, fd, sp, KX, hb, hsp, hF⟩ := F w mg fa _ Y G.T.g hm
  exact end_call KX G.T.g G.T.b G.T.builtins G.T.nolimit hg hobj hi (Nat.le_trans hlen hn2) rm hF hb fun H hS => hsp H a ns hlen hS
end Fw
namespace Fw
open PySem L2
/-! ## S. mirrors, worked out at a known row of slots -/
@[simp high] theorem get_0 {α : Type} {a : α} {l : List α} : (a :: l)[0]? = some a := rfl
@[simp high] theorem get_1 {α : Type} {a : α} {l : List α} {n : Nat} : (a :: l)[n + 1]? = l[n]? := rfl
section
variable {α β : Type} {e : Ev}
@[simp] theorem e_mb {m : M α} {k : α → M β} : mb m k e = (match m e with
  | .ok a e' => k a e'
  | .exc c d e' => .exc c d e'
  | .bad => .bad) := rfl
@[simp] theorem e_mp {a : α} : mp a e = .ok a e := rfl
@[simp] theorem e_mo {a : α} : mo (some a) e = .ok a e := rfl
@[simp] theorem e_mo0 : mo (none : Option α) e = .bad := rfl
@[simp] theorem e_mC {d : D} : mC d e = .ok d e := rfl
@[simp] theorem e_mVar {i : Nat} : mVar i e = (match e[i]? with
  | some (.val d) => .ok d e
  | _ => .bad) := rfl
@[simp] theorem e_mN {i : Nat} : mN i e = (match e[i]? with
  | some s => (match s.dat with
    | some d => .ok d e
    | none => .bad)
  | none => .bad) := rfl
@[simp] theorem e_dat1 {d : D} : Sl.dat (.val d) = some d := rfl
@[simp] theorem e_dat2 {d : D} : Sl.dat (.box d) = some d := rfl
@[simp] theorem e_dat3 {d : D} : Sl.dat (.pbox d) = some d := rfl
@[simp] theorem e_O2ee {m m' : M D} {k : D → D → M β} : mO2 (.e m) (.e m') k e = mb m (fun x => mb m' fun y => k x y) e := rfl
@[simp] theorem e_O2en {m : M D} {j : Nat} {k : D → D → M β} : mO2 (.e m) (.n j) k e = mb m (fun x => mb (mN j) fun y => k x y) e := rfl
@[simp] theorem e_O2ne {i : Nat} {m' : M D} {k : D → D → M β} : mO2 (.n i) (.e m') k e = mb (mN i) (fun _ => mb m' fun y => mb (mN i) fun x => k x y) e := rfl
@[simp] theorem e_O2nn {i j : Nat} {k : D → D → M β} : mO2 (.n i) (.n j) k e = mb (mN i) (fun x => mb (mN j) fun y => k x y) e := rfl
@[simp] theorem e_O1e {m : M D} {k : D → M β} : mO1 (.e m) k e = mb m k e := rfl
@[simp] theorem e_O1n {i : Nat} {k : D → M β} : mO1 (.n i) k e = mb (mN i) k e := rfl
@[simp] theorem e_Op {op : D → D → Option D} {a b : Od} : mOp op a b e = mO2 a b (fun x y => mo (op x y)) e := rfl
@[simp] theorem e_OpF {op : D → D → Option (List D)} {a b : Od} : mOpF op a b e = mO2 a b (fun x y => mo (op x y)) e := rfl
@[simp] theorem e_Un {op : D → Option D} {a : Od} : mUn op a e = mO1 a (fun x => mo (op x)) e := rfl
@[simp] theorem e_Cmp {op : D → D → Option D} {a b : Od} : mCmp op a b e = mO2 a b (fun x y => mo ((op x y).bind dB)) e := rfl
@[simp] theorem e_dB {b : Bool} : dB (.bl b) = some b := rfl
@[simp] theorem e_Chain {o o' : D → D → Option D} {a b c : Od} : mChain o o' a b c e = mO2 a b (fun x y => mb (mo ((o x y).bind dB)) fun k => if k = true then mO1 c fun z => mo (o' y z) else mp (.bl false)) e := rfl
@[simp] theorem e_Tru {a : Od} : mTru a e = mO1 a (fun d => mo (dTru d)) e := rfl
@[simp] theorem e_And {a b : M Bool} : mAnd a b e = (match a e with
  | .ok true e' => b e'
  | .ok false e' => .ok false e'
  | .exc c d e' => .exc c d e'
  | .bad => .bad) := by unfold mAnd mb; cases a e with
    | ok c e' => cases c <;> rfl
    | _ => rfl
@[simp] theorem e_Or {a b : M Bool} : mOr a b e = (match a e with
  | .ok true e' => .ok true e'
  | .ok false e' => b e'
  | .exc c d e' => .exc c d e'
  | .bad => .bad) := by unfold mOr mb; cases a e with
    | ok c e' => cases c <;> rfl
    | _ => rfl
@[simp] theorem e_Not {a : M Bool} : mNot a e = mb a (fun c => mp (!c)) e := rfl
@[simp] theorem e_If {c : M Bool} {a b : M α} : mIf c a b e = (match c e with
  | .ok k e' => if k = true then a e' else b e'
  | .exc c d e' => .exc c d e'
  | .bad => .bad) := by unfold mIf mb; cases c e with
    | ok c e' => cases c <;> rfl
    | _ => rfl
@[simp] theorem e_Fr {m : M (List D)} : mFr m e = mb m (fun ds => mp (.lst ds)) e := rfl
@[simp] theorem e_AndV {a b : M D} : mAndV a b e = (match a e with
  | .ok x e' => (match dTru x with
    | some k => if k = true then b e' else .ok x e'
    | none => .bad)
  | .exc c d e' => .exc c d e'
  | .bad => .bad) := by unfold mAndV mb mo; cases a e with
    | ok x e' =>
      dsimp only
      cases dTru x with
      | none => rfl
      | some k => cases k <;> rfl
    | _ => rfl
@[simp] theorem e_OrV {a b : M D} : mOrV a b e = (match a e with
  | .ok x e' => (match dTru x with
    | some k => if k = true then .ok x e' else b e'
    | none => .bad)
  | .exc c d e' => .exc c d e'
  | .bad => .bad) := by unfold mOrV mb mo; cases a e with
    | ok x e' =>
      dsimp only
      cases dTru x with
      | none => rfl
      | some k => cases k <;> rfl
    | _ => rfl
@[simp] theorem e_NotV {a : Od} : mNotV a e = mO1 a (fun x => mb (mo (dTru x)) fun c => mp (.bl (!c))) e := rfl
@[simp] theorem e_truB {b : Bool} : dTru (.bl b) = some b := rfl
@[simp] theorem e_Nil : mNil e = .ok [] e := rfl
@[simp] theorem e_Cons {a : M D} {b : M (List D)} : mCons a b e = mb a (fun x => mb b fun y => mp (x :: y)) e := rfl
@[simp] theorem e_Tup {m : M (List D)} : mTup m e = (match m e with
  | .ok ds e' => if ds.length ≤ 1000000 then .ok (.tup ds) e' else .bad
  | .exc c d e' => .exc c d e'
  | .bad => .bad) := by unfold mTup mb; cases m e with
    | ok ds e' => dsimp only; split <;> rfl
    | _ => rfl
@[simp] theorem e_Lst {m : M (List D)} : mLst m e = (match m e with
  | .ok ds e' => if ds.length ≤ 1000000 then .ok ds e' else .bad
  | .exc c d e' => .exc c d e'
  | .bad => .bad) := by unfold mLst mb; cases m e with
    | ok ds e' => dsimp only; split <;> rfl
    | _ => rfl
@[simp] theorem e_A1nil : mA1 [] e = .ok [] e := rfl
@[simp] theorem e_A1e {m : M D} {os : List Od} : mA1 (.e m :: os) e = mb m (fun d => mb (mA1 os) fun r => mp (.inl d :: r)) e := rfl
@[simp] theorem e_A1n {i : Nat} {os : List Od} : mA1 (.n i :: os) e = mb (mN i) (fun _ => mb (mA1 os) fun r => mp (.inr i :: r)) e := rfl
@[simp] theorem e_R0 : mRes [] e = .ok [] e := rfl
@[simp] theorem e_R1 {d : D} {r : List (Sum D Nat)} : mRes (.inl d :: r) e = mb (mRes r) (fun ds => mp (d :: ds)) e := rfl
@[simp] theorem e_R2 {i : Nat} {r : List (Sum D Nat)} : mRes (.inr i :: r) e = mb (mN i) (fun d => mb (mRes r) fun ds => mp (d :: ds)) e := rfl
@[simp] theorem e_As {os : List Od} : mAs os e = mb (mA1 os) mRes e := rfl
@[simp] theorem e_CB {op : List D → Option D} {os : List Od} : mCB op os e = mb (mAs os) (fun ds => mo (op ds)) e := rfl
@[simp] theorem e_CF {op : List D → Option (List D)} {os : List Od} : mCF op os e = mb (mAs os) (fun ds => mo (op ds)) e := rfl
@[simp] theorem e_IA {op : List D → Option (List D)} {os : List Od} : mIA op os e = mb (mAs os) (fun ds => mo (op ds)) e := rfl
@[simp] theorem e_op1 {f : D → Option β} {d : D} : op1 f [d] = f d := rfl
@[simp] theorem e_op2 {f : D → D → Option β} {d d' : D} : op2 f [d, d'] = f d d' := rfl
@[simp] theorem e_It {m : M D} : mIt m e = mb m (fun d => mo (dItems d)) e := rfl
@[simp] theorem e_itL {ds : List D} : dItems (.lst ds) = some ds := rfl
@[simp] theorem e_itT {ds : List D} : dItems (.tup ds) = some ds := rfl
@[simp] theorem e_Sq {a b : M Fl} : mSq a b e = (match a e with
  | .ok .nx e' => b e'
  | r => r) := rfl
@[simp] theorem e_Ex {m : M D} : mEx m e = mb m (fun _ => mp .nx) e := rfl
@[simp] theorem e_Ret {m : M D} : mRet m e = mb m (fun d => mp (.rt d)) e := rfl
@[simp] theorem e_RetF {m : M (List D)} : mRetF m e = mb m (fun d => mp (.rb d)) e := rfl
def Sl.isPb : Sl → Bool
  | .pbox _ => true
  | _ => false
/-- a slot that holds a value, or nothing yet -/
def slOf : Option D → Sl
  | none => .emp
  | some d => .val d
@[simp] theorem pb_e : Sl.isPb .emp = false := rfl
@[simp] theorem pb_v {d : D} : Sl.isPb (.val d) = false := rfl
@[simp] theorem pb_b {d : D} : Sl.isPb (.box d) = false := rfl
@[simp] theorem pb_p {d : D} : Sl.isPb (.pbox d) = true := rfl
@[simp] theorem pb_o {o : Option D} : Sl.isPb (slOf o) = false := by cases o <;> rfl
@[simp] theorem e_setV {i : Nat} {d : D} : Fw.setV i d e = (e[i]?).elim .bad (fun s => if s.isPb = true then .bad else .ok () (e.set i (.val d))) := by
  unfold Fw.setV
  cases e[i]? with
  | none => rfl
  | some s => cases s <;> rfl
@[simp] theorem e_setB {i : Nat} {d : D} : Fw.setB i d e = (e[i]?).elim .bad (fun s => if s.isPb = true then .bad else .ok () (e.set i (.box d))) := by
  unfold Fw.setB
  cases e[i]? with
  | none => rfl
  | some s => cases s <;> rfl
@[simp] theorem e_Set {i : Nat} {m : M D} : mSet i m e = mb m (fun d => mb (Fw.setV i d) fun _ => mp .nx) e := rfl
@[simp] theorem e_SetB {i : Nat} {m : M (List D)} : mSetB i m e = mb m (fun d => mb (Fw.setB i (.lst d)) fun _ => mp .nx) e := rfl
@[simp] theorem e_Asg {m : M D} {bd : D → M Unit} : mAsg m bd e = mb m (fun d e => match bd d e with
  | .ok _ e' => .ok .nx e'
  | _ => .bad) e := rfl
@[simp] theorem e_gTup {n : Nat} {bs : List D → M Unit} {ds : List D} : gTupD n bs (.tup ds) e = if ds.length = n then bs ds e else .bad := by unfold gTupD; by_cases h : ds.length = n <;> simp [h]
@[simp] theorem e_gs0 : gsNil [] e = .ok () e := rfl
@[simp] theorem e_gs1 {b : D → M Unit} {bs : List D → M Unit} {d : D} {ds : List D} : gsCons b bs (d :: ds) e = mb (b d) (fun _ => bs ds) e := rfl
@[simp] theorem e_gSt {i : Nat} {mk : M D} {d : D} : gSt i mk d e = mb (hasB i) (fun _ => mb mk fun k => match k with
  | .int k => chB i fun ds => (ixN ds.length k).map fun j => ds.set j d
  | _ => fun _ => .bad) e := rfl
@[simp] theorem e_hasB {i : Nat} : hasB i e = (match e[i]? with
  | some s => (match lstOf s with
    | some _ => .ok () e
    | none => .bad)
  | none => .bad) := rfl
@[simp] theorem e_chB {i : Nat} {op : List D → Option (List D)} : chB i op e = (match e[i]? with
  | some s => (match lstOf s with
    | some ds => (match op ds with
      | some ds' => .ok () (e.set i (s.put (.lst ds')))
      | none => .bad)
    | none => .bad)
  | none => .bad) := rfl
@[simp] theorem e_lo1 {ds : List D} : lstOf (.box (.lst ds)) = some ds := rfl
@[simp] theorem e_lo2 {ds : List D} : lstOf (.pbox (.lst ds)) = some ds := rfl
@[simp] theorem e_pu1 {d d' : D} : Sl.put (.box d) d' = .box d' := rfl
@[simp] theorem e_pu2 {d d' : D} : Sl.put (.pbox d) d' = .pbox d' := rfl
@[simp] theorem e_App {i : Nat} {m : M D} : mApp i m e = mb (hasB i) (fun _ => mb m fun d => mb (chB i fun ds => lim 1000000 (ds ++ [d])) fun _ => mp .non) e := rfl
@[simp] theorem e_nx {m : M α} : nx1 m e = (match m e with
  | .ok a e' => .ok a e'
  | _ => .bad) := rfl
@[simp] theorem e_Eds0 : mEds [] e = .ok [] e := rfl
@[simp] theorem e_Eds1 {m : M D} {os : List Ed} : mEds (.e m :: os) e = mb (nx1 m) (fun d => mb (mEds os) fun r => mp (.inl d :: r)) e := rfl
@[simp] theorem e_Eds2 {m : M (List D)} {os : List Ed} : mEds (.f m :: os) e = mb (nx1 m) (fun d => mb (mEds os) fun r => mp (.inr d :: r)) e := rfl
@[simp] theorem e_as0 : asgs [] [] e = .ok () e := rfl
@[simp] theorem e_as1 {i : Nat} {is : List Nat} {p : Sum D (List D)} {ps : List (Sum D (List D))} : asgs (i :: is) (p :: ps) e = mb (asg1 i p) (fun _ => asgs is ps) e := rfl
@[simp] theorem e_sg1 {i : Nat} {d : D} : asg1 i (.inl d) = Fw.setV i d := rfl
@[simp] theorem e_sg2 {i : Nat} {d : List D} : asg1 i (.inr d) = Fw.setB i (.lst d) := rfl
@[simp] theorem e_Par {is : List Nat} {eds : List Ed} : mPar is eds e = mb (nx1 (mEds eds)) (fun ps => mb (nx1 (asgs is ps)) fun _ => mp .nx) e := rfl
@[simp] theorem e_Aug {i : Nat} {op : D → D → Option D} {m : M D} : mAug i op m e = mb (mVar i) (fun x => mb m fun y => mb (mo (op x y)) fun d => mb (Fw.setV i d) fun _ => mp .nx) e := rfl
@[simp] theorem e_Call {np : Nat} {fn : Fn} {os : List Od} : mCall np fn os e = mb (mA1 os) (fun ps e => match argsOf e ps with
  | none => .bad
  | some as => if as.length = np then (if nodupB (nums ps) = true then (match fn as with
      | .ok rv as' => .ok rv (wb ps as' e)
      | .exc c d as' => .exc c d (wb ps as' e)
      | .bad => .bad) else .bad) else .bad) e := rfl
@[simp] theorem e_Cv {np : Nat} {fn : Fn} {os : List Od} : mCv np fn os e = mb (mCall np fn os) (fun rv => mp rv.d) e := rfl
@[simp] theorem e_Cl {np : Nat} {fn : Fn} {os : List Od} : mCl np fn os e = mb (mCall np fn os) (fun rv => mo rv.l) e := rfl
@[simp] theorem e_C1 {fn : Fn} {m : M (List D)} : mC1 fn m e = mb m (fun ds e => match fn [.pbox (.lst ds)] with
  | .ok rv _ => .ok rv.d e
  | .exc c d _ => .exc c d e
  | .bad => .bad) e := rfl
@[simp] theorem e_CvP {np : Nat} {fn : Fn} {π : List Nat} {os : List Od} : mCvP np fn π os e = mb (mCallP np fn π os) (fun rv => mp rv.d) e := rfl
@[simp] theorem e_CallP {np : Nat} {fn : Fn} {π : List Nat} {os : List Od} : mCallP np fn π os e = mb (mA1 os) (fun ps e => if ps.length = π.length ∧ (π.all fun i => decide (i < ps.length)) = true then (match argsOf e (permL π ps) with
  | none => .bad
  | some as => if as.length = np then (if nodupB (nums (permL π ps)) = true then (match fn as with
      | .ok rv as' => .ok rv (wb (permL π ps) as' e)
      | .exc c d as' => .exc c d (wb (permL π ps) as' e)
      | .bad => .bad) else .bad) else .bad) else .bad) e := rfl
@[simp] theorem e_d1 {d : D} : RV.d (.v d) = d := rfl
@[simp] theorem e_d2 {ds : List D} : RV.d (.b ds) = .lst ds := rfl
@[simp] theorem e_l2 {ds : List D} : RV.l (.b ds) = some ds := rfl
@[simp] theorem e_ar0 : argsOf e [] = some [] := rfl
@[simp] theorem e_arc {a : Sum D Nat} {ps : List (Sum D Nat)} : argsOf e (a :: ps) = (match argOf e a with
  | some s => (match argsOf e ps with
    | some l => some (s :: l)
    | none => none)
  | none => none) := rfl
@[simp] theorem e_ag1 {d : D} : argOf e (.inl d) = some (.val d) := rfl
@[simp] theorem e_ag2 {i : Nat} : argOf e (.inr i) = (match e[i]? with
  | some (.val d) => some (.val d)
  | some (.box d) => some (.pbox d)
  | some (.pbox d) => some (.pbox d)
  | _ => none) := rfl
@[simp] theorem e_wb1 {i : Nat} {ps : List (Sum D Nat)} {d : D} {as : List Sl} : wb (.inr i :: ps) (.pbox d :: as) e = wb ps as (put1 i d e) := rfl
@[simp] theorem e_wb2 {i : Nat} {ps : List (Sum D Nat)} {d : D} {as : List Sl} : wb (.inr i :: ps) (.val d :: as) e = wb ps as e := rfl
@[simp] theorem e_wb4 {as : List Sl} : wb [] as e = e := by cases as <;> rfl
theorem e_wb5 {ps : List (Sum D Nat)} : wb ps [] e = e := by
  cases ps with
  | nil => rfl
  | cons a ps => cases a <;> rfl
@[simp] theorem e_wb3 {d : D} {ps : List (Sum D Nat)} {as : List Sl} : wb (.inl d :: ps) as e = wb ps as.tail e := by
  cases as with
  | nil => rw [List.tail_nil, e_wb5, e_wb5]
  | cons s as => rfl
@[simp] theorem e_put1 {i : Nat} {d : D} : put1 i d e = (match e[i]? with
  | some s => e.set i (s.put d)
  | none => e) := rfl
@[simp] theorem e_pe0 {xs : List α} : permL [] xs = [] := rfl
@[simp] theorem e_pe1 {i : Nat} {π : List Nat} {xs : List α} : permL (i :: π) xs = (match xs[i]? with
  | some x => x :: permL π xs
  | none => permL π xs) := by
  unfold permL
  rw [List.filterMap_cons]
  cases xs[i]? <;> rfl
@[simp] theorem e_nu0 : nums [] = [] := rfl
@[simp] theorem e_nu1 {d : D} {r : List (Sum D Nat)} : nums (.inl d :: r) = nums r := rfl
@[simp] theorem e_nu2 {i : Nat} {r : List (Sum D Nat)} : nums (.inr i :: r) = i :: nums r := rfl
@[simp] theorem e_nd0 : nodupB [] = true := rfl
@[simp] theorem e_nd1 {i : Nat} {r : List Nat} : nodupB (i :: r) = (!r.contains i && nodupB r) := rfl
@[simp] theorem e_For {mi : M (List D)} {bd : D → M Unit} {b : M Fl} : mFor mi bd b e = mb mi (fun ds => mFl bd b ds) e := rfl
end
theorem fn_eq {np nl : Nat} {body : M Fl} {as : List Sl} : mkFn np nl body as = if as.length = np then
  (match body (as ++ List.replicate (nl - np) .emp) with
  | .ok (.rt d) e => .ok (.v d) (e.take np)
  | .ok (.rb ds) e => .ok (.b ds) (e.take np)
  | .ok .nx e => .ok (.v .non) (e.take np)
  | .exc c d e => .exc c d (e.take np)
  | _ => .bad) else .bad := rfl
theorem dMod_pos {i j : Int} (h : 0 < j) : dMod (.int i) (.int j) = some (.int (i % j)) := by
  simp [dMod, dI, iMod, h]; omega
theorem dFdiv_pos {i j : Int} (h : 0 < j) (h2 : j < 1152921504606846976) : dFdiv (.int i) (.int j) = some (.int (i / j)) := by
  have : j.natAbs.log2 < 9000 := by
    have : j.natAbs.log2 < 61 := by rw [Nat.log2_lt (by omega)]; omega
    omega
  simp [dFdiv, dI, iFdiv, h, this]; omega
theorem dDm_pos {i j : Int} (h : 0 < j) (h2 : j < 1073741824) : dDivmod (.int i) (.int j) = some (.tup [.int (i / j), .int (i % j)]) := by
  simp [dDivmod, dI, h, h2]
theorem dMul_l {i j : Int} (h : -18446744073709551616 < i ∧ i < 18446744073709551616) : dMul (.int i) (.int j) = some (.int (i * j)) := by
  have : i.natAbs < 18446744073709551616 := by omega
  simp [dMul, mulOk, this]
theorem dMul_r {i j : Int} (h : -18446744073709551616 < j ∧ j < 18446744073709551616) : dMul (.int i) (.int j) = some (.int (i * j)) := by
  have : j.natAbs < 18446744073709551616 := by omega
  simp [dMul, mulOk, this]
theorem dR1_ok {j : Int} (h : 0 ≤ j ∧ j < 4611686018427387904) : dR1 [.int j] = some ((List.range j.toNat).map fun (i : Nat) => D.int (0 + (i : Int))) := by
  have : j.natAbs < 4611686018427387904 := by omega
  simp [dR1, rngOk, this]
@[simp] theorem dAdd_i {i j : Int} : dAdd (.int i) (.int j) = some (.int (i + j)) := rfl
@[simp] theorem dIAdd_i {i j : Int} : dIAdd (.int i) (.int j) = some (.int (i + j)) := rfl
@[simp] theorem dSub_i {i j : Int} : dSub (.int i) (.int j) = some (.int (i - j)) := rfl
@[simp] theorem dLt_i {i j : Int} : dLt (.int i) (.int j) = some (.bl (decide (i < j))) := rfl
@[simp] theorem dGt_i {i j : Int} : dGt (.int i) (.int j) = some (.bl (decide (j < i))) := rfl
@[simp] theorem dLe_i {i j : Int} : dLe (.int i) (.int j) = some (.bl (decide (i ≤ j))) := rfl
@[simp] theorem dGe_i {i j : Int} : dGe (.int i) (.int j) = some (.bl (decide (j ≤ i))) := rfl
@[simp] theorem dEq_i {i j : Int} : dEq (.int i) (.int j) = some (.bl (decide (i = j))) := rfl
@[simp] theorem dNe_i {i j : Int} : dNe (.int i) (.int j) = some (.bl (!decide (i = j))) := rfl
@[simp] theorem dEq_b {i j : Bool} : dEq (.bl i) (.bl j) = some (.bl (decide (i = j))) := rfl
@[simp] theorem dNe_b {i j : Bool} : dNe (.bl i) (.bl j) = some (.bl (!decide (i = j))) := rfl
@[simp] theorem dEq_s {i j : Str} : dEq (.str i) (.str j) = some (.bl (decide (i = j))) := rfl
@[simp] theorem dNe_s {i j : Str} : dNe (.str i) (.str j) = some (.bl (!decide (i = j))) := rfl
@[simp] theorem dInt_i {i : Int} : dInt (.int i) = some (.int i) := rfl
@[simp] theorem dInt_b {b : Bool} : dInt (.bl b) = some (.int (if b = true then 1 else 0)) := by cases b <;> rfl
@[simp] theorem dNeg_i {i : Int} : dNeg (.int i) = some (.int (-i)) := rfl
@[simp] theorem dAbs_i {i : Int} : dAbs (.int i) = some (.int (if i < 0 then -i else i)) := rfl
@[simp] theorem dLen_l {ds : List D} : dLen (.lst ds) = some (.int (ds.length : Int)) := rfl
@[simp] theorem dLen_t {ds : List D} : dLen (.tup ds) = some (.int (ds.length : Int)) := rfl
@[simp] theorem dLen_s {ns : List Int} : dLen (.scr ns) = some (.int (ns.length : Int)) := rfl
@[simp] theorem dMax_i {i j : Int} : dMax2 (.int i) (.int j) = some (.int (if j > i then j else i)) := rfl
@[simp] theorem dMin_i {i j : Int} : dMin2 (.int i) (.int j) = some (.int (if j < i then j else i)) := rfl
@[simp] theorem e_Lc {mi : M (List D)} {own : List Nat} {bd : D → M Unit} {t : M Bool} {el : M D} {e : Ev} : mLc mi own bd t el e = mb mi (fun ds e => if ownOk e own = true then (match mLcL own bd t el ds [] (wipeE e own) with
  | .ok ys e' => .ok ys (backE e e' own)
  | _ => .bad) else .bad) e := rfl
@[simp] theorem e_wi0 {e : Ev} : wipeE e [] = e := rfl
@[simp] theorem e_wi1 {e : Ev} {v : Nat} {vs : List Nat} : wipeE e (v :: vs) = (wipeE e vs).set v .emp := rfl
@[simp] theorem e_ba0 {e e' : Ev} : backE e e' [] = e' := rfl
@[simp] theorem e_ba1 {e e' : Ev} {v : Nat} {vs : List Nat} : backE e e' (v :: vs) = (match e[v]? with
  | some s => (backE e e' vs).set v s
  | none => backE e e' vs) := rfl
@[simp] theorem e_ow0 {e : Ev} : ownOk e [] = true := rfl
@[simp] theorem e_ow1 {e : Ev} {v : Nat} {vs : List Nat} : ownOk e (v :: vs) = ((match e[v]? with
  | some .emp => true
  | some (.val _) => true
  | _ => false) && ownOk e vs) := rfl
/-- what a comprehension gathers -/
theorem lcl {own : List Nat} {bd : D → M Unit} {t : M Bool} {el : M D} {e : Ev} {tb : D → Bool} {ev : D → D} : ∀ {ds acc : List D}, (∀ d ∈ ds, ∃ e1, bd d e = .ok () e1 ∧ t e1 = .ok (tb d) e1 ∧ (tb d = true → el e1 = .ok (ev d) e1) ∧ wipeE e1 own = e) → acc.length + ds.length ≤ 1000000 → mLcL own bd t el ds acc e = .ok (acc ++ (ds.filter tb).map ev) e
  | [], acc, _, _ => by rw [List.filter_nil, List.map_nil, List.append_nil]; rfl
  | d :: ds, acc, h, hl => by
    obtain ⟨e1, h1, h2, h3, h4⟩ := h d List.mem_cons_self
    have ih := fun acc => lcl (own := own) (bd := bd) (t := t) (el := el) (e := e) (tb := tb) (ev := ev) (ds := ds) (acc := acc) fun d' hd => h d' (List.mem_cons_of_mem _ hd)
    rw [List.length_cons] at hl
    cases q : tb d with
    | true =>
      rw [q] at h2
      show (match bd d e with
        | .ok _ e1 => (match t e1 with
          | .ok true e2 => (match el e2 with
            | .ok y e3 => if acc.length < 1000000 then mLcL own bd t el ds (acc ++ [y]) (wipeE e3 own) else .bad
            | _ => .bad)
          | .ok false e2 => mLcL own bd t el ds acc (wipeE e2 own)
          | _ => .bad)
        | _ => .bad) = _
      simp only [h1, h2, h3 q, h4]
      rw [if_pos (by omega), ih _ (by rw [List.length_append, List.length_singleton]; omega), List.filter_cons, if_pos q, List.map_cons, List.append_assoc, List.singleton_append]
    | false =>
      rw [q] at h2
      show (match bd d e with
        | .ok _ e1 => (match t e1 with
          | .ok true e2 => (match el e2 with
            | .ok y e3 => if acc.length < 1000000 then mLcL own bd t el ds (acc ++ [y]) (wipeE e3 own) else .bad
            | _ => .bad)
          | .ok false e2 => mLcL own bd t el ds acc (wipeE e2 own)
          | _ => .bad)
        | _ => .bad) = _
      simp only [h1, h2, h4]
      rw [ih _ (by omega), List.filter_cons, if_neg (by rw [q]; decide)]
end Fw
namespace Fw
open L2 PyProof.Rows PySem PySem.Spec
section
variable {g : GC} {X : Cx} {W : WK}
/-! ## T1. dicts -/
theorem FR.putO {f : Fx} {A : Addr → Prop} {H : Hp} {σ : Sv} {e : Ev} (F : FR g f A H σ e) {i : Nat} {s : Sl} {p : Addr} {dn : D} {on : HO} (mu : isMut on = true) (h : e[i]? = some s) (hb : s.isBox = true) (hs : σ[i]? = some (some (.ref p))) (r : Mono A H A (upd H p on) → Bx g A (upd H p on) dn p) :
    FR g f A (upd H p on) σ (e.set i (s.put dn)) ∧ Step A H (upd H p on) := by
  have hA := F.boxA h hb hs
  have st : ∀ a o, a ≠ p → H a = some o → upd H p on a = some o := fun a o n z => by rw [upd_ne n]; exact z
  have sp : Step A H (upd H p on) := ⟨fun a o z n => st a o (fun y => n (y ▸ hA)) z, fun a o z => by
    by_cases y : a = p
    · exact ⟨on, by rw [y]; exact upd_same⟩
    · exact ⟨o, st a o y z⟩⟩
  have m := F.mono sp
  have kb : (s.put dn).isBox = true := by
    cases s with
    | emp => cases hb
    | val _ => cases hb
    | box _ => rfl
    | pbox _ => rfl
  have hi : i < e.length := (List.getElem?_eq_some_iff.mp h).1
  have bx : ∀ {j : Nat} {t : Sl}, (e.set i (s.put dn))[j]? = some t → t.isBox = true → ∃ t0, e[j]? = some t0 ∧ t0.isBox = true := fun {j t} z b => by
    rcases get_set z with ⟨rfl, _, _⟩ | ⟨_, z⟩
    · exact ⟨s, h, hb⟩
    · exact ⟨t, z, b⟩
  refine ⟨⟨by rw [List.length_set]; exact F.len, fun j t o z1 z2 => ?_, fun a b t u q z1 z2 b1 b2 s1 s2 => ?_, fun a t q z1 b1 s1 => ?_, fun a o z => ?_, F.ob, F.ob0, fun a q z => by rw [List.length_set]; exact F.pb a q z, fun a z => ?_, fun a o z n => ?_⟩, sp⟩
  · rcases get_set z1 with ⟨rfl, _, rfl⟩ | ⟨n, z1⟩
    · have q := F.sl i s o h z2
      rw [hs] at z2; cases z2
      cases s with
      | emp => cases hb
      | val _ => cases hb
      | box d => obtain ⟨a, p', b, c, c0, _⟩ := q; cases b; exact ⟨a, p, rfl, c, c0, r m⟩
      | pbox d => obtain ⟨p', a, b, c, _⟩ := q; cases b; exact ⟨p, a, rfl, c, r m⟩
    · have q := F.sl j t o z1 z2
      have np : ∀ p', t.isBox = true → o = some (.ref p') → p' ≠ p := fun p' hb' eo y => n (F.inj i j s t p h z1 hb hb' hs (by rw [z2, eo, y]))
      cases t with
      | emp => exact q
      | val d => obtain ⟨a, v, b, c⟩ := q; exact ⟨a, v, b, R.mono m d c⟩
      | box d => obtain ⟨a, p', b, c, c0, dd⟩ := q; exact ⟨a, p', b, c, c0, Bx.mono m (fun u z => st p' u (np p' rfl b) z) dd⟩
      | pbox d => obtain ⟨p', a, b, c, dd⟩ := q; exact ⟨p', a, b, c, Bx.mono m (fun u z => st p' u (np p' rfl b) z) dd⟩
  · obtain ⟨t0, y1, y2⟩ := bx z1 b1
    obtain ⟨u0, y3, y4⟩ := bx z2 b2
    exact F.inj a b t0 u0 q y1 y3 y2 y4 s1 s2
  · obtain ⟨t0, y1, y2⟩ := bx z1 b1
    exact F.nt a t0 q y1 y2 s1
  · have q := F.tp a o z
    refine ⟨q.1, st a o (fun y => ?_) q.2⟩
    have := F.nt i s p h hb hs
    rw [← y, z] at this; cases this
  · obtain ⟨o, q1, q2⟩ := F.al a z
    by_cases y : a = p
    · exact ⟨on, by rw [y]; exact upd_same, mu⟩
    · exact ⟨o, st a o y q1, q2⟩
  · refine st a o (fun y => ?_) (F.keep a o z n)
    have q := F.sl i s _ h hs
    cases s with
    | emp => cases hb
    | val _ => cases hb
    | box d => obtain ⟨_, p', b, _, c0, _⟩ := q; cases b; rw [y, c0] at z; cases z
    | pbox d => obtain ⟨p', b0, b, _⟩ := q; cases b; exact n i (y ▸ b0)
/-- the end of something is locked: a dict that nothing changes any more -/
theorem pss_lock {rest : List Stmt} {t : TS} (h : PSs X rest t) : PSs X rest (fun D σ H => t D σ H ∨ ∃ d u, H d = some u ∧ Mut (some u) ∧ ∀ od, t D σ (upd H d (.frz od u))) := ⟨fun pins s σ H D I q => by
  rcases q with q | ⟨d, u, e, mu, q⟩
  · exact h.run pins s σ H D I q
  · obtain ⟨od, I'⟩ := I.lock e mu
    exact h.run pins s σ _ D I' (q od)⟩
theorem pe_lock {ex : Expr} {t : TE} (h : PE X ex t) : PE X ex (fun σ H Q => t σ H fun v H1 => Q v H1 ∨ ∃ d u, H1 d = some u ∧ Mut (some u) ∧ ∀ od, Q v (upd H1 d (.frz od u))) := ⟨fun pins s σ H Q I q => thn (h.run pins s σ H _ I q) fun u s1 ⟨v, H1, I1, r, q⟩ => by
  rcases q with q | ⟨d, o, e, mu, q⟩
  · exact ⟨v, H1, I1, r, q⟩
  · obtain ⟨od, I'⟩ := I1.lock e mu
    exact ⟨v, _, I', r, q od⟩⟩
/-- a dict in a slot becomes a value -/
def mUbD (i : Nat) (m : M Fl) : M Fl := fun e => match e[i]? with
  | some (.box (.dct ks d)) => m (e.set i (.val (.dct ks d)))
  | _ => m e
theorem FR.unboxD {f : Fx} {A : Addr → Prop} {H : Hp} {σ : Sv} {e : Ev} (F : FR g f A H σ e) {i : Nat} {ks : List Key} {ds : List D} (h : e[i]? = some (.box (.dct ks ds))) : ∃ p u, H p = some u ∧ Mut (some u) ∧ ∀ od, ∃ A', FR g f A' (upd H p (.frz od u)) σ (e.set i (.val (.dct ks ds))) ∧ Mono A H A' (upd H p (.frz od u)) := by
  obtain ⟨o, h1, h2, p, h3, hA, h0, xs, hp, hl, hr⟩ := F.at h
  refine ⟨p, _, hp, trivial, fun od => ⟨fun a => A a ∧ a ≠ p, ?_⟩⟩
  have st : ∀ a o, a ≠ p → H a = some o → upd H p (.frz od (.dK (ks.zip xs))) a = some o := fun a o n z => by rw [upd_ne n]; exact z
  have m : Mono A H (fun a => A a ∧ a ≠ p) (upd H p (.frz od (.dK (ks.zip xs)))) := ⟨F.al, fun a o z n => st a o (fun y => n (y ▸ hA)) z, fun _ _ z _ => z.1⟩
  refine ⟨⟨by rw [List.length_set]; exact F.len, fun j s o' q1 q2 => ?_, fun a b s t q q1 q2 b1 b2 s1 s2 => ?_, fun a s q q1 b1 s1 => ?_, fun a u z => ?_, fun a z => ⟨F.ob a z, fun q => ?_⟩, F.ob0, fun i p q => by rw [List.length_set]; exact F.pb i p q, fun a z => ?_, fun a o z n => ?_⟩, m⟩
  · rcases get_set q1 with ⟨rfl, _, rfl⟩ | ⟨n, q1⟩
    · rw [h1] at q2; cases q2
      exact ⟨h2, _, h3, p, od, xs, rfl, upd_same, hl, RL.mono m ds hr⟩
    · have q3 := F.sl j s o' q1 q2
      have np : ∀ p', s.isBox = true → o' = some (.ref p') → p' ≠ p := fun p' hb' eo z => n (F.inj i j _ s p h q1 rfl hb' (by rw [h1, h3]) (by rw [q2, eo, z]))
      cases s with
      | emp => exact q3
      | val d => obtain ⟨a, v, b, c⟩ := q3; exact ⟨a, v, b, R.mono m d c⟩
      | box d => obtain ⟨a, p', b, c, c0, dd⟩ := q3; exact ⟨a, p', b, ⟨c, np p' rfl b⟩, c0, Bx.mono m (fun u z => st p' u (np p' rfl b) z) dd⟩
      | pbox d => obtain ⟨p', a, b, c, dd⟩ := q3; exact ⟨p', a, b, ⟨c, np p' rfl b⟩, Bx.mono m (fun u z => st p' u (np p' rfl b) z) dd⟩
  · rcases get_set q1 with ⟨_, _, rfl⟩ | ⟨_, q1⟩
    · cases b1
    · rcases get_set q2 with ⟨_, _, rfl⟩ | ⟨_, q2⟩
      · cases b2
      · exact F.inj a b s t q q1 q2 b1 b2 s1 s2
  · rcases get_set q1 with ⟨_, _, rfl⟩ | ⟨_, q1⟩
    · cases b1
    · exact F.nt a s q q1 b1 s1
  · have n : a ≠ p := fun q => by rw [q, F.nt i _ p h rfl (by rw [h1, h3])] at z; cases z
    exact ⟨⟨(F.tp a u z).1, n⟩, st a u n (F.tp a u z).2⟩
  · obtain ⟨o, q2⟩ := F.ob0 a z
    rw [q, h0] at q2; cases q2
  · obtain ⟨o, q1, q2⟩ := F.al a z.1
    exact ⟨o, st a o z.2 q1, q2⟩
  · refine st a o (fun y => ?_) (F.keep a o z n)
    rw [y, h0] at z; cases z
theorem cb_ubD {rest : List Stmt} (i : Nat) {m : M Fl} (h : CB g X W rest m) : CB g X W rest (mUbD i m) := PSs.imp (pss_lock h) fun D σ H ⟨f, A, e, F, h⟩ => by
  unfold mUbD at h
  split at h
  · rename_i ks d q
    obtain ⟨p, u, h1, h2, h3⟩ := F.unboxD q
    refine .inr ⟨p, u, h1, h2, fun od => ?_⟩
    obtain ⟨A', F', m'⟩ := h3 od
    exact ⟨f, A', _, F', h.from m'⟩
  · exact .inl ⟨f, A, e, F, h⟩
/-! keys, what stands at them -/
def keyOf : D → Option Key
  | .int i => some (.inl i)
  | .str x => some (.inr x)
  | _ => none
theorem keyOf_v {A : Addr → Prop} {H : Hp} {d : D} {v : V} {k : Key} (r : Rt g A H d v) (h : keyOf d = some k) : v = kV k := by
  cases d with
  | int i => cases h; exact r
  | str i => cases h; exact r
  | _ => cases h
def dget (ks : List Key) (ds : List D) (k : Key) : Option D := ((ks.zip ds).find? fun p => decide (p.1 = k)).map (·.2)
theorem dget_rel {A : Addr → Prop} {H : Hp} (k : Key) : ∀ (ks : List Key) (ds : List D) (xs : List V), RL g A H ds xs → (∀ d, dget ks ds k = some d → ∃ v, valV (ks.zip xs) k = some v ∧ R g A H d v) ∧ (dget ks ds k = none → valV (ks.zip xs) k = none)
  | [], ds, xs, _ => ⟨fun d h => (by cases ds <;> cases h), fun _ => (by cases xs <;> rfl)⟩
  | _ :: _, [], xs, r => by rw [show xs = [] from r]; exact ⟨fun d h => (by cases h), fun _ => rfl⟩
  | k' :: ks, d' :: ds, _, ⟨y, ys, rfl, r, t⟩ => by
    by_cases e : k' = k
    · refine ⟨fun d h => ⟨y, valV_pos e, ?_⟩, fun h => ?_⟩
      · unfold dget at h
        rw [List.zip_cons_cons, List.find?_cons_of_pos (by simpa using e)] at h
        cases h; exact r
      · unfold dget at h
        rw [List.zip_cons_cons, List.find?_cons_of_pos (by simpa using e)] at h
        cases h
    · have e2 : dget (k' :: ks) (d' :: ds) k = dget ks ds k := by
        unfold dget
        rw [List.zip_cons_cons, List.find?_cons_of_neg (by simpa using e)]
      rw [e2, List.zip_cons_cons, valV_neg e]
      exact dget_rel k ks ds ys t
/-- d[k] -/
def dDix : D → D → Option D
  | .dct ks ds, k => (keyOf k).bind (dget ks ds)
  | _, _ => none
theorem os_dix : OS g (fun x y H Q => ∃ a v, x = .ref a ∧ DGet H a y (some v) ∧ Q v H) dDix := fun A H d1 d2 d v1 v2 Q al r1 r2 q k => by
  cases d1 with
  | dct ks ds =>
    obtain ⟨a, xs, rfl, h1, hl, r⟩ := r1
    have q : (keyOf d2).bind (dget ks ds) = some d := q
    cases z : keyOf d2 with
    | none => rw [z] at q; cases q
    | some kk =>
      have q : dget ks ds kk = some d := by rw [z] at q; exact q
      obtain ⟨v, e, rv⟩ := (dget_rel (g := g) kk ks ds xs r).1 d q
      refine ⟨a, v, rfl, .inl ⟨_, kk, h1, keyOf_v r2 z, e.symm⟩, k v H (Same.refl H) rv⟩
  | _ => cases q
theorem c_dix {a b : Expr} {oa ob : Od} {pos : Pos} (hu : X.A.units + 1 < cLine) (ha : CO g X W a oa) (hb : CO g X W b ob) (hs : NoSl b) : CE g X W (.Subscript a b pos) (mOp dDix oa ob) := PE.imp (pe_dget hu ha hb hs) (t_op os_dix)
/-- k in d -/
def dDin : D → D → Option D
  | k, .dct ks ds => (keyOf k).map fun k => .bl (dget ks ds k).isSome
  | _, _ => none
theorem os_din : OS g (fun y x H Q => ∃ a o, x = .ref a ∧ DGet H a y o ∧ Q (.bl o.isSome) H) dDin := fun A H d1 d2 d v1 v2 Q al r1 r2 q k => by
  cases d2 with
  | dct ks ds =>
    obtain ⟨a, xs, rfl, h1, hl, r⟩ := r2
    obtain ⟨kk, z, rfl⟩ := map_some q
    obtain ⟨x1, x2⟩ := dget_rel (g := g) kk ks ds xs r
    refine ⟨a, valV (ks.zip xs) kk, rfl, .inl ⟨_, kk, h1, keyOf_v r1 z, rfl⟩, ?_⟩
    cases w : dget ks ds kk with
    | none => rw [x2 w]; exact k _ H (Same.refl H) (by rw [w]; rfl)
    | some d => obtain ⟨v, e, _⟩ := x1 d w; rw [e]; exact k _ H (Same.refl H) (by rw [w]; rfl)
  | _ => unfold dDin at q; cases q
theorem c_din {a b : Expr} {oa ob : Od} {pos : Pos} (hu : X.A.units + 1 < cLine) (ha : CO g X W a oa) (hb : CO g X W b ob) (hm : behindInMarks .In b = false := by rfl) : CE g X W (.Compare a [.In] [b] pos) (mOp dDin oa ob) := PE.imp (pe_cmp (pc_din hu ha hb) hm) (t_op os_din)
theorem ct_din {a b : Expr} {oa ob : Od} {pos : Pos} (hu : X.A.units + 1 < cLine) (ha : CO g X W a oa) (hb : CO g X W b ob) (hm : behindInMarks .In b = false := by rfl) : CT g X W (.Compare a [.In] [b] pos) (mCmp dDin oa ob) :=
  PT.imp (pt_cmp (pc_din hu ha hb) hm) fun σ H Q ⟨f, A, e, F, h⟩ => Fin.b2 h F fun d1 d2 e2 v1 v2 H2 F2 S2 R1 R2 h2 => by
    obtain ⟨b, q, h3⟩ := Fin.mo h2
    cases z : dDin d1 d2 with
    | none => rw [z] at q; cases q
    | some d =>
      rw [z] at q
      refine os_din A H2 d1 d2 d v1 v2 (fun x H1 => ∃ c, x = V.bl c ∧ Q c H1) F2.al R1 R2 z fun v H3 s r => ?_
      cases d with
      | bl c => obtain rfl : c = b := Option.some.inj q; exact ⟨c, r, h3 H3 (F2.same s) (S2.trans (.of s))⟩
      | _ => cases q
/-- a new dict -/
def mDn : M D := mp (.dct [] [])
theorem c_dn {pos : Pos} : CE g X W (.Dict [] [] pos) mDn := PE.imp (pe_lock pe_dnewK) fun σ H Q ⟨f, A, e, F, h⟩ p hp => by
  refine .inr ⟨p, _, upd_same, trivial, fun od => ?_⟩
  have s : Same H (upd (upd H p (.dK [])) p (.frz od (.dK []))) := fun b u e => by
    have n : b ≠ p := ne_of_none e hp
    rw [upd_ne n, upd_ne n]; exact e
  exact h _ _ (F.same s) (.of s) ⟨p, od, [], rfl, upd_same, rfl, rfl⟩
/-- x = {} -/
def mSetD (i : Nat) : M Fl := mb (Fw.setB i (.dct [] [])) fun _ => mp .nx
theorem cs_setD (i : Nat) {x : Str} {p pos : Pos} {ex : Expr} (h : PS X (.Assign [.Name x p] ex pos) (tAsg tDNewK (gName i))) : CS g X W (.Assign [.Name x p] ex pos) (mSetD i) := PS.imp h fun D σ H ⟨f, A, e, F, h⟩ p hp => by
  rcases setB_inv F (i := i) (d := .dct [] []) with q | ⟨hpa, q⟩
  · unfold mSetD mb at h; rw [q] at h; exact h.elim
  · unfold mSetD mb at h; rw [q] at h
    have s : Same H (upd H p (.dK [])) := Same.new hp
    have F2 : FR g f (add1 A p) (upd H p (.dK [])) σ e := F.ext s (fun _ z => .inl z) (fun a o z q => z.elim id fun z => by rw [z, hp] at q; cases q) (fun a z n => z.elim (fun z => absurd z n) fun z => ⟨.dK [], by rw [z]; exact upd_same, rfl⟩)
    exact h (add1 A p) _ _ ((F.same s).setB F2 hpa (F.nA hp) (F.h0 hp) ⟨[], upd_same, rfl, rfl⟩) (mono_new F (.of s) hp)
/-- d.get(k, x) -/
def dGet2 (d k z : D) : Option D := match d with
  | .dct ks ds => (keyOf k).map fun k => (dget ks ds k).getD z
  | _ => none
def isDct : D → Option Unit
  | .dct _ _ => some ()
  | _ => none
theorem isDct_ok {d : D} {u : Unit} (h : isDct d = some u) : ∃ ks ds, d = .dct ks ds := by
  cases d with
  | dct ks ds => exact ⟨ks, ds, rfl⟩
  | _ => cases h
theorem dGet2_ok {d k z w : D} (h : dGet2 d k z = some w) : ∃ ks ds kk, d = .dct ks ds ∧ keyOf k = some kk ∧ w = (dget ks ds kk).getD z := by
  cases d with
  | dct ks ds => obtain ⟨kk, e, rfl⟩ := map_some h; exact ⟨ks, ds, kk, rfl, e, rfl⟩
  | _ => cases h
def mGet2 (i : Nat) (mk md : M D) : M D := mb (mN i) fun d => mb (mo (isDct d)) fun _ => mb mk fun k => mb md fun z => mb (mN i) fun d => mo (dGet2 d k z)
theorem dget_some {A : Addr → Prop} {H : Hp} {ks : List Key} {ds : List D} {xs : List V} (r : RL g A H ds xs) {k : Key} {z : D} {v : V} (rz : R g A H z v) : R g A H ((dget ks ds k).getD z) ((valV (ks.zip xs) k).getD v) := by
  obtain ⟨x1, x2⟩ := dget_rel (g := g) k ks ds xs r
  cases w : dget ks ds k with
  | none => rw [x2 w]; exact rz
  | some d => obtain ⟨y, e, ry⟩ := x1 d w; rw [e]; exact ry
theorem c_get2 (i : Nat) {x : Str} {a b : Expr} {mk md : M D} {p apos cpos : Pos} (hu : X.A.units + 1 < cLine) (hx : PE X (.Name x p) (tVar i)) (hk : CE g X W a mk) (hd : CE g X W b md) (m : M2 X (.Name x p) "get" apos a b cpos) : CE g X W (.Call (.Attribute (.Name x p) "get" apos) [a, b] [] cpos) (mGet2 i mk md) :=
  PE.imp (pe_dget2 hu hx hk hd m) fun σ H Q ⟨f, A, e, F, h⟩ => by
    obtain ⟨d0, v0, q0, R0, h⟩ := Fin.bN h F
    refine ⟨v0, q0, ?_⟩
    unfold mb at h
    cases z : isDct d0 with
    | none => rw [z] at h; exact h.elim
    | some u =>
      rw [z] at h
      have h : Fin g W f A σ H _ (mb mk (fun k => mb md fun z => mb (mN i) fun d => mo (dGet2 d k z)) e) := h
      obtain ⟨ks0, ds0, rfl⟩ := isDct_ok z
      obtain ⟨a0, xs0, rfl, h1, _, _⟩ := R0
      refine ⟨a0, rfl, .inl ⟨_, h1⟩, ?_⟩
      refine Fin.bE h F fun k e1 kv H1 F1 S1 r1 h2 => ?_
      refine Fin.bE h2 F1 fun zd e2 zv H2 F2 S2 r2 h3 => ?_
      obtain ⟨d, v, q1, R1, h4⟩ := Fin.bN h3 F2
      rw [q0] at q1; cases q1
      obtain ⟨w, q, h5⟩ := Fin.mo h4
      obtain ⟨ks, ds, kk, rfl, ek, rfl⟩ := dGet2_ok q
      obtain ⟨a1, xs, ea, h6, hl, rr⟩ := R1
      cases ea
      have ev := keyOf_v (F1.r S2 r1).rt ek
      exact ⟨valV (ks.zip xs) kk, .inl ⟨_, kk, h6, ev, rfl⟩, h5 _ H2 F2 (S1.trans S2) (dget_some rr r2)⟩
/-- x[k] = v, x a dict of a slot -/
def repl {α : Type} (k : Key) (d : α) : List Key → List α → List α
  | k' :: ks, x :: xs => (if k' = k then d else x) :: repl k d ks xs
  | _, xs => xs
theorem repl_len {α : Type} (k : Key) (d : α) : ∀ (ks : List Key) (xs : List α), (repl k d ks xs).length = xs.length
  | [], xs => rfl
  | _ :: _, [] => rfl
  | k' :: ks, x :: xs => by show (repl k d ks xs).length + 1 = xs.length + 1; rw [repl_len k d ks xs]
theorem repl_rel {A : Addr → Prop} {H : Hp} {k : Key} {d : D} {v : V} (r : R g A H d v) : ∀ (ks : List Key) (ds : List D) (xs : List V), RL g A H ds xs → RL g A H (repl k d ks ds) (repl k v ks xs)
  | [], ds, xs, t => t
  | _ :: _, [], xs, t => by rw [show xs = [] from t]; exact rfl
  | k' :: ks, e :: ds, _, ⟨y, ys, rfl, r1, t⟩ => by
    show RL g A H ((if k' = k then d else e) :: repl k d ks ds) ((if k' = k then v else y) :: repl k v ks ys)
    by_cases z : k' = k
    · rw [if_pos z, if_pos z]; exact ⟨_, _, rfl, r, repl_rel r ks ds ys t⟩
    · rw [if_neg z, if_neg z]; exact ⟨_, _, rfl, r1, repl_rel r ks ds ys t⟩
theorem repl_zip (k : Key) (v : V) : ∀ (ks : List Key) (xs : List V), (ks.zip xs).map (fun kv => if kv.1 = k then (kv.1, v) else kv) = ks.zip (repl k v ks xs)
  | [], xs => by cases xs <;> rfl
  | _ :: _, [] => rfl
  | k' :: ks, x :: xs => by
    show (if k' = k then (k', v) else (k', x)) :: (ks.zip xs).map (fun kv => if kv.1 = k then (kv.1, v) else kv) = (k', if k' = k then v else x) :: ks.zip (repl k v ks xs)
    rw [repl_zip k v ks xs]
    by_cases z : k' = k
    · rw [if_pos z, if_pos z]
    · rw [if_neg z, if_neg z]
theorem any_zip (k : Key) : ∀ (ks : List Key) (xs : List V), ks.length = xs.length → ((ks.zip xs).any fun kv => decide (kv.1 = k)) = ks.any fun k' => decide (k' = k)
  | [], xs, _ => by cases xs <;> rfl
  | _ :: _, [], h => by simp at h
  | k' :: ks, x :: xs, h => by
    rw [List.zip_cons_cons, List.any_cons, List.any_cons, any_zip k ks xs (by simpa using h)]
def dput (k : Key) (d : D) (ks : List Key) (ds : List D) : List Key × List D := if (ks.any fun k' => decide (k' = k)) = true then (ks, repl k d ks ds) else (ks ++ [k], ds ++ [d])
def dctOf : Sl → Option (List Key × List D)
  | .box (.dct ks ds) => some (ks, ds)
  | .pbox (.dct ks ds) => some (ks, ds)
  | _ => none
theorem FR.dct {f : Fx} {A : Addr → Prop} {H : Hp} {σ : Sv} {e : Ev} (F : FR g f A H σ e) {i : Nat} {s : Sl} {ks : List Key} {ds : List D} (h : e[i]? = some s) (q : dctOf s = some (ks, ds)) : s.isBox = true ∧ ∃ p xs, σ[i]? = some (some (.ref p)) ∧ H p = some (.dK (ks.zip xs)) ∧ ks.length = xs.length ∧ RL g A H ds xs := by
  obtain ⟨o, h1, h2⟩ := F.at h
  cases s with
  | emp => cases q
  | val _ => cases q
  | box d =>
    cases d with
    | dct ks' ds' => cases q; obtain ⟨_, p, e1, _, _, xs, h3, h4, h5⟩ := h2; exact ⟨rfl, p, xs, by rw [h1, e1], h3, h4, h5⟩
    | _ => cases q
  | pbox d =>
    cases d with
    | dct ks' ds' => cases q; obtain ⟨p, _, e1, _, xs, h3, h4, h5⟩ := h2; exact ⟨rfl, p, xs, by rw [h1, e1], h3, h4, h5⟩
    | _ => cases q
def hasD (i : Nat) : M Unit := fun e => match e[i]? with
  | some s => (match dctOf s with
    | some _ => .ok () e
    | none => .bad)
  | none => .bad
def chD (i : Nat) (k : Key) (d : D) : M Unit := fun e => match e[i]? with
  | some s => (match dctOf s with
    | some (ks, ds) => if ks.length < 1000000 then .ok () (e.set i (s.put (.dct (dput k d ks ds).1 (dput k d ks ds).2))) else .bad
    | none => .bad)
  | none => .bad
theorem hasD_inv {i : Nat} {e : Ev} : hasD i e = .bad ∨ ∃ s p, e[i]? = some s ∧ dctOf s = some p ∧ hasD i e = .ok () e := by
  unfold hasD
  cases q : e[i]? with
  | none => exact .inl rfl
  | some s =>
    cases q2 : dctOf s with
    | none => left; simp only [q2]
    | some ds => exact .inr ⟨s, ds, rfl, q2, by simp only [q2]⟩
theorem chD_inv {i : Nat} {k : Key} {d : D} {e : Ev} : chD i k d e = .bad ∨ ∃ s ks ds, e[i]? = some s ∧ dctOf s = some (ks, ds) ∧ ks.length < 1000000 ∧ chD i k d e = .ok () (e.set i (s.put (.dct (dput k d ks ds).1 (dput k d ks ds).2))) := by
  unfold chD
  cases q : e[i]? with
  | none => exact .inl rfl
  | some s =>
    cases q2 : dctOf s with
    | none => left; simp only [q2]
    | some p =>
      by_cases z : p.1.length < 1000000
      · exact .inr ⟨s, p.1, p.2, rfl, q2, z, by simp only [q2]; rw [if_pos z]⟩
      · left; simp only [q2]; rw [if_neg z]
def gStD (i : Nat) (mk : M D) : D → M Unit := fun d => mb (hasD i) fun _ => mb mk fun k => match keyOf k with
  | some k => chD i k d
  | none => fun _ => .bad
theorem cg_stD (i : Nat) {x : Str} {b : Expr} {mk : M D} {p pos : Pos} (hu : X.A.units + 1 < cLine) (hx : PE X (.Name x p) (tVar i)) (hk : CE g X W b mk)
    (ha : ∀ v, assign (.Subscript (.Name x p) b pos) X.env v = (do
      let ov ← holding [v] (eval (.Name x p) X.env)
      let iv ← holding [v, ov] (eval b X.env)
      standAt pos
      holding [v, ov, iv] (setItem ov iv v)
      release [v, ov, iv] []) := by intro _; rfl) : CG g X (.Subscript (.Name x p) b pos) [] (gStD i mk) := PG.imp (pg_sub hx hk (set_dict hu) ha) fun v σ H Q ⟨f, A, e, d, F, r, h⟩ => by
  rcases hasD_inv (i := i) (e := e) with z | ⟨s, ⟨ks0, ds0⟩, z1, z2, z3⟩
  · unfold gStD mb at h; rw [z] at h; exact h.elim
  · obtain ⟨_, p1, xs, y1, y2, _, y3⟩ := F.dct z1 z2
    refine ⟨.ref p1, y1, f, A, e, F, ?_⟩
    unfold gStD mb at h
    rw [z3] at h
    cases q : mk e with
    | exc _ _ _ => simp only [q] at h; exact h.elim
    | bad => simp only [q] at h; exact h.elim
    | ok kd e1 =>
      simp only [q] at h
      intro kv H1 F1 S1 rk
      cases w0 : keyOf kd with
      | none => simp only [w0] at h; exact h.elim
      | some k =>
        simp only [w0] at h
        have ek := keyOf_v rk.rt w0
        rcases chD_inv (i := i) (k := k) (d := d) (e := e1) with w | ⟨s', ks, es, w1, w2, w3, w4⟩
        · simp only [w] at h; exact h.elim
        · simp only [w4] at h
          obtain ⟨hb, p2, ys, v1, v2, hl, v3⟩ := F1.dct w1 w2
          rw [y1] at v1; cases v1
          have rv := F.r S1 r
          have pe : ∃ xs', putK (ks.zip ys) k v = (dput k d ks es).1.zip xs' ∧ (dput k d ks es).1.length = xs'.length ∧ RL g A H1 (dput k d ks es).2 xs' := by
            unfold putK dput
            rw [any_zip k ks ys hl]
            by_cases c : (ks.any fun k' => decide (k' = k)) = true
            · rw [if_pos c, if_pos c]
              exact ⟨repl k v ks ys, repl_zip k v ks ys, by rw [repl_len]; exact hl, repl_rel rv ks es ys v3⟩
            · rw [if_neg c, if_neg c]
              exact ⟨ys ++ [v], by rw [List.zip_append hl]; rfl, by simp [hl], RL.append v3 (show RL g A H1 [d] [v] from ⟨v, [], rfl, rv, rfl⟩)⟩
          obtain ⟨xs', e1', e2', e3'⟩ := pe
          obtain ⟨F2, S2⟩ := F1.putO (dn := .dct (dput k d ks es).1 (dput k d ks es).2) (on := .dK ((dput k d ks es).1.zip xs')) rfl w1 hb y1 fun m => ⟨xs', upd_same, e2', RL.mono m _ e3'⟩
          refine ⟨p1, upd H1 p1 (.dK (putK (ks.zip ys) k v)), rfl, ?_, ?_⟩
          · rw [ek]
            refine DPut.k v2 ?_
            have := million
            rw [List.length_zip, ← hl, Nat.min_self]
            omega
          · rw [e1']
            exact h σ _ F2 (S1.trans S2) (fun _ _ => rfl) rfl
/-- for k in d -/
def kD : Key → D
  | .inl i => .int i
  | .inr x => .str x
def dKeys : D → Option (List D)
  | .dct ks _ => some (ks.map kD)
  | _ => none
def mKeys (m : M D) : M (List D) := mb m fun d => mo (dKeys d)
theorem kD_r {A : Addr → Prop} {H : Hp} (k : Key) : R g A H (kD k) (kV k) := by
  cases k <;> exact rfl
theorem ci_keys {tg e : Expr} {m : M D} (he : CE g X W e m) : CI g X W tg e (mKeys m) := PI.imp (pi_keys he) fun σ H Q ⟨f, A, e, F, h⟩ =>
  Fin.bE h F fun d e1 v H1 F1 S1 r h1 => by
    obtain ⟨es, q, h2⟩ := Fin.mo h1
    cases d with
    | dct ks ds =>
      cases q
      obtain ⟨a, o, xs, rfl, h3, hl, _⟩ := r
      refine ⟨a, o, rfl, .inl ⟨_, h3, h2 _ H1 F1 S1 ?_⟩⟩
      intro A' H' i m al
      have h4 := m.ins rfl h3
      have le : (ks.zip xs).length = ks.length := by rw [List.length_zip, ← hl, Nat.min_self]
      refine ⟨fun d hd => ?_, fun hd => ⟨h4, by rw [le]; rw [List.length_map] at hd; exact hd⟩⟩
      rw [List.getElem?_map] at hd
      obtain ⟨k, hk, rfl⟩ := map_some hd
      have lt : i < ks.length := (List.getElem?_eq_some_iff.mp hk).1
      refine ⟨⟨h4, by rw [le]; exact lt⟩, ?_⟩
      rintro x H2 ⟨rfl, k', v', e1, rfl⟩
      refine ⟨Same.refl _, ?_⟩
      have e2 : ks[i]? = some k' := by
        have := congrArg (Option.map Prod.fst) e1
        rw [← List.getElem?_map, List.map_fst_zip (by omega)] at this
        exact this
      rw [hk] at e2; cases e2
      exact kD_r k
    | _ => cases q
/-- nothing is said of a dict that is not locked: it may change -/
def Und (o : HO) : Prop := ∀ kvs, o ≠ .dK kvs
theorem und_rd {H H' : Hp} (st : ∀ a o, H a = some o → Und o → H' a = some o) {a : Addr} {o : HO} (n : Und o) (h : Rd H a o) : Rd H' a o := h.elim (fun z => .inl (st a o z n)) fun ⟨ob, z⟩ => .inr ⟨ob, st a _ z fun _ y => nomatch y⟩
mutual
theorem R.und {A : Addr → Prop} {H H' : Hp} (st : ∀ a o, H a = some o → Und o → H' a = some o) : ∀ (d : D) {v : V}, R g A H d v → R g A H' d v
  | .non, _, e => e
  | .bl _, _, e => e
  | .int _, _, e => e
  | .str _, _, e => e
  | .ty _, _, e => e
  | .tup ds, _, ⟨a, xs, e, h1, r⟩ => ⟨a, xs, e, h1.elim (fun z => .inl (und_rd st (fun _ y => nomatch y) z)) .inr, RL.und st ds r⟩
  | .lst ds, _, ⟨a, xs, e, h1, n, r⟩ => ⟨a, xs, e, st a _ h1 (fun _ y => nomatch y), n, RL.und st ds r⟩
  | .obj c ds, _, ⟨a, dx, xs, e, h1, hl, r⟩ => ⟨a, dx, xs, e, st a _ h1 (fun _ y => nomatch y), hl, RL.und st ds r⟩
  | .scr _, _, ⟨a, e, h1⟩ => ⟨a, e, h1.elim (fun z => .inl ⟨und_rd st (fun _ y => nomatch y) z.1, z.2⟩) .inr⟩
  | .dct ks ds, _, ⟨a, o, xs, e, h1, hl, r⟩ => ⟨a, o, xs, e, st a _ h1 (fun _ y => nomatch y), hl, RL.und st ds r⟩
  | .exn c ds, _, ⟨a, od, e, h0, h⟩ => ⟨a, od, e, h0, h.imp id fun ⟨dd, xs, h1, h2, h3, r⟩ => ⟨dd, xs, h1, st dd _ h2 (fun _ y => nomatch y), h3, RL.und st ds r⟩⟩
theorem RL.und {A : Addr → Prop} {H H' : Hp} (st : ∀ a o, H a = some o → Und o → H' a = some o) : ∀ (ds : List D) {xs : List V}, RL g A H ds xs → RL g A H' ds xs
  | [], _, e => e
  | d :: ds, _, ⟨y, ys, e, r, t⟩ => ⟨y, ys, e, R.und st d r, RL.und st ds t⟩
end
theorem FR.und {f : Fx} {A : Addr → Prop} {H H' : Hp} {σ : Sv} {e : Ev} {p : Addr} {kvs : List (Key × V)} (F : FR g f A H σ e) (hp : H p = some (.dK kvs)) (np : ¬ A p) (h0 : f.H0 p = none) (k : ∀ a o, H a = some o → a ≠ p → H' a = some o) : FR g f A H' σ e := by
  have st : ∀ a o, H a = some o → Und o → H' a = some o := fun a o z n => k a o z fun y => by
    rw [y, hp] at z; cases z; exact n kvs rfl
  have ap : ∀ a, A a → a ≠ p := fun a z y => np (y ▸ z)
  have bx : ∀ {d : D} {q : Addr}, A q → Bx g A H d q → Bx g A H' d q := fun {d q} hq b => by
    cases d with
    | lst ds => obtain ⟨xs, h1, h2⟩ := b; exact ⟨xs, k q _ h1 (ap q hq), RL.und st ds h2⟩
    | dct ks ds => obtain ⟨xs, h1, hl, h2⟩ := b; exact ⟨xs, k q _ h1 (ap q hq), hl, RL.und st ds h2⟩
    | _ => exact b.elim
  refine ⟨F.len, fun i s o h1 h2 => ?_, F.inj, F.nt, fun a o z => ⟨(F.tp a o z).1, k a o (F.tp a o z).2 (ap a (F.tp a o z).1)⟩, F.ob, F.ob0, F.pb, fun a z => ?_, fun a o z n => k a o (F.keep a o z n) fun y => by rw [y, h0] at z; cases z⟩
  · have q := F.sl i s o h1 h2
    cases s with
    | emp => exact q
    | val d => obtain ⟨a, v, b, c⟩ := q; exact ⟨a, v, b, R.und st d c⟩
    | box d => obtain ⟨a, p', b, c, c0, dd⟩ := q; exact ⟨a, p', b, c, c0, bx c dd⟩
    | pbox d => obtain ⟨p', a, b, c, dd⟩ := q; exact ⟨p', a, b, c, bx c dd⟩
  · obtain ⟨o, q1, q2⟩ := F.al a z
    exact ⟨o, k a o q1 (ap a z), q2⟩
/-- {k: v} -/
def mDi1 (mk mv : M D) : M D := mb mk fun k => mb mv fun v => mo ((keyOf k).map fun k => D.dct [k] [v])
theorem c_di1 {a b : Expr} {mk mv : M D} {pos : Pos} (ha : CE g X W a mk) (hb : CE g X W b mv) : CE g X W (.Dict [some a] [b] pos) (mDi1 mk mv) := PE.imp (pe_lock (pe_disp (pps_cons ha hb pps_nil) rfl rfl (by simp) (by simp))) fun σ H Q ⟨f, A, e, F, h⟩ p hp => by
  have s0 : Same H (upd H p (.dK [])) := Same.new hp
  have F0 := F.same s0
  have h0 : Fin g W f A σ (upd H p (.dK [])) _ (mDi1 mk mv e) := h.from (.of s0)
  refine Fin.bE h0 F0 fun k e1 kv H1 F1 S1 r1 h1 => ?_
  refine Fin.bE h1 F1 fun v e2 vv H2 F2 S2 r2 h2 => ?_
  obtain ⟨w, q, h3⟩ := Fin.mo h2
  obtain ⟨kk, ek, rfl⟩ := map_some q
  have np : ¬ A p := F.nA hp
  have p1 : H1 p = some (.dK []) := S1.st p _ upd_same np
  have p2 : H2 p = some (.dK []) := S2.st p _ p1 np
  refine ⟨p2, [(kk, vv)], ?_, by simp, ?_⟩
  · rw [keyOf_v r1.rt ek]; rfl
  · refine .inr ⟨p, .dK [(kk, vv)], upd_same, trivial, fun od => ?_⟩
    have k2 : ∀ a o, H2 a = some o → a ≠ p → upd (upd H2 p (.dK [(kk, vv)])) p (.frz od (.dK [(kk, vv)])) a = some o := fun a o z n => by rw [upd_ne n, upd_ne n]; exact z
    have st2 : ∀ a o, H2 a = some o → Und o → upd (upd H2 p (.dK [(kk, vv)])) p (.frz od (.dK [(kk, vv)])) a = some o := fun a o z n => k2 a o z fun y => by
      rw [y, p2] at z; cases z; exact n [] rfl
    have F3 := F2.und p2 np (F.h0 hp) k2
    have S3 : Step A H (upd (upd H2 p (.dK [(kk, vv)])) p (.frz od (.dK [(kk, vv)]))) := ⟨fun a o z n => ?_, fun a o z => ?_⟩
    · exact h3 _ _ F3 S3 ⟨p, od, [vv], rfl, upd_same, rfl, vv, [], rfl, R.und st2 v r2, rfl⟩
    · have n1 : a ≠ p := ne_of_none z hp
      exact k2 a o (S2.st a o (S1.st a o (s0 a o z) n) n) n1
    · have n1 : a ≠ p := ne_of_none z hp
      obtain ⟨o1, z1⟩ := S1.un a o (s0 a o z)
      obtain ⟨o2, z2⟩ := S2.un a o1 z1
      exact ⟨o2, k2 a o2 z2 n1⟩
end
end Fw
namespace Fw
open L2 PyProof.Rows PySem PySem.Spec
section
variable {g : GC} {X : Cx} {W : WK}
/-! ## U1. max(l), min(l), sorted(l) of ints -/
def maxI : List Int → Int
  | [] => 0
  | [a] => a
  | a :: l => if maxI l > a then maxI l else a
def minI : List Int → Int
  | [] => 0
  | [a] => a
  | a :: l => if minI l < a then minI l else a
theorem maxI_ok : ∀ {l : List Int} {m : Int}, m ∈ l → (∀ y, y ∈ l → y ≤ m) → m = maxI l
  | [a], m, h, _ => (List.mem_singleton.mp h : m = a)
  | a :: b :: l, m, h, k => by
    have hb : ∀ l : List Int, l ≠ [] → maxI l ∈ l ∧ ∀ y ∈ l, y ≤ maxI l := by
      intro l
      induction l with
      | nil => intro z; exact absurd rfl z
      | cons c l ih =>
        intro _
        cases l with
        | nil => exact ⟨by simp [maxI], by simp [maxI]⟩
        | cons e l =>
          obtain ⟨i1, i2⟩ := ih (by simp)
          show (if maxI (e :: l) > c then maxI (e :: l) else c) ∈ _ ∧ _
          by_cases z : maxI (e :: l) > c
          · refine ⟨by rw [if_pos z]; exact List.mem_cons_of_mem _ i1, fun y hy => ?_⟩
            show y ≤ (if maxI (e :: l) > c then maxI (e :: l) else c)
            rw [if_pos z]
            rcases List.mem_cons.mp hy with rfl | hy
            · omega
            · exact i2 y hy
          · refine ⟨by rw [if_neg z]; exact List.mem_cons_self, fun y hy => ?_⟩
            show y ≤ (if maxI (e :: l) > c then maxI (e :: l) else c)
            rw [if_neg z]
            rcases List.mem_cons.mp hy with rfl | hy
            · omega
            · have := i2 y hy; omega
    obtain ⟨h1, h2⟩ := hb (a :: b :: l) (by simp)
    have := h2 m h
    have := k _ h1
    omega
theorem minI_ok : ∀ {l : List Int} {m : Int}, m ∈ l → (∀ y, y ∈ l → m ≤ y) → m = minI l
  | [a], m, h, _ => (List.mem_singleton.mp h : m = a)
  | a :: b :: l, m, h, k => by
    have hb : ∀ l : List Int, l ≠ [] → minI l ∈ l ∧ ∀ y ∈ l, minI l ≤ y := by
      intro l
      induction l with
      | nil => intro z; exact absurd rfl z
      | cons c l ih =>
        intro _
        cases l with
        | nil => exact ⟨by simp [minI], by simp [minI]⟩
        | cons e l =>
          obtain ⟨i1, i2⟩ := ih (by simp)
          show (if minI (e :: l) < c then minI (e :: l) else c) ∈ _ ∧ _
          by_cases z : minI (e :: l) < c
          · refine ⟨by rw [if_pos z]; exact List.mem_cons_of_mem _ i1, fun y hy => ?_⟩
            show (if minI (e :: l) < c then minI (e :: l) else c) ≤ y
            rw [if_pos z]
            rcases List.mem_cons.mp hy with rfl | hy
            · omega
            · exact i2 y hy
          · refine ⟨by rw [if_neg z]; exact List.mem_cons_self, fun y hy => ?_⟩
            show (if minI (e :: l) < c then minI (e :: l) else c) ≤ y
            rw [if_neg z]
            rcases List.mem_cons.mp hy with rfl | hy
            · omega
            · have := i2 y hy; omega
    obtain ⟨h1, h2⟩ := hb (a :: b :: l) (by simp)
    have := h2 m h
    have := k _ h1
    omega
def listI : D → Option (List Int)
  | .lst ds => intsD ds
  | .scr ns => some ns
  | _ => none
theorem listI_ok {A : Addr → Prop} {H : Hp} {d : D} {v : V} {ns : List Int} (r : Rt g A H d v) (h : listI d = some ns) : ∃ a, v = .ref a ∧ SqL g.K H a (ns.map V.int) := by
  cases d with
  | lst ds =>
    obtain ⟨a, xs, rfl, h2, rl⟩ := r
    have h : intsD ds = some ns := h
    rw [intsD_eq h] at rl
    rw [RL.ints_of ns rl] at h2
    exact ⟨a, rfl, SqL.of h2⟩
  | scr ns' => cases h; obtain ⟨a, rfl, h1⟩ := r; exact ⟨a, rfl, h1.sq⟩
  | _ => cases h
def dMaxL (d : D) : Option D := (listI d).bind fun ns => if ns = [] then none else some (.int (maxI ns))
def dMinL (d : D) : Option D := (listI d).bind fun ns => if ns = [] then none else some (.int (minI ns))
theorem ls_maxL : LS g (rMax g.K) (op1 dMaxL) := ls1 fun A H d d' v Q al r q k => by
  unfold dMaxL at q
  cases z : listI d with
  | none => rw [z] at q; cases q
  | some ns =>
    rw [z] at q
    have q : (if ns = [] then none else some (D.int (maxI ns))) = some d' := q
    by_cases c : ns = []
    · rw [if_pos c] at q; cases q
    · rw [if_neg c] at q; cases q
      obtain ⟨a, rfl, h⟩ := listI_ok r z
      exact ⟨a, ns, rfl, h, List.length_pos_iff.mpr c, fun m h1 h2 => k _ H (Same.refl H) (by rw [maxI_ok h1 h2]; rfl)⟩
theorem ls_minL : LS g (rMin g.K) (op1 dMinL) := ls1 fun A H d d' v Q al r q k => by
  unfold dMinL at q
  cases z : listI d with
  | none => rw [z] at q; cases q
  | some ns =>
    rw [z] at q
    have q : (if ns = [] then none else some (D.int (minI ns))) = some d' := q
    by_cases c : ns = []
    · rw [if_pos c] at q; cases q
    · rw [if_neg c] at q; cases q
      obtain ⟨a, rfl, h⟩ := listI_ok r z
      exact ⟨a, ns, rfl, h, List.length_pos_iff.mpr c, fun m h1 h2 => k _ H (Same.refl H) (by rw [minI_ok h1 h2]; rfl)⟩
/-! sorted -/
def insI (a : Int) : List Int → List Int
  | [] => [a]
  | b :: l => if a ≤ b then a :: b :: l else b :: insI a l
def sortI : List Int → List Int
  | [] => []
  | a :: l => insI a (sortI l)
theorem insI_perm (a : Int) : ∀ l : List Int, (insI a l).Perm (a :: l)
  | [] => .refl _
  | b :: l => by
    unfold insI
    split
    · exact .refl _
    · exact (List.Perm.cons b (insI_perm a l)).trans (List.Perm.swap a b l)
theorem sortI_perm : ∀ l : List Int, (sortI l).Perm l
  | [] => .refl _
  | a :: l => (insI_perm a (sortI l)).trans (List.Perm.cons a (sortI_perm l))
theorem insI_sorted (a : Int) : ∀ l : List Int, l.Pairwise (· ≤ ·) → (insI a l).Pairwise (· ≤ ·)
  | [], _ => by simp [insI]
  | b :: l, h => by
    unfold insI
    obtain ⟨h1, h2⟩ := List.pairwise_cons.mp h
    split
    · rename_i z
      refine List.pairwise_cons.mpr ⟨fun y hy => ?_, h⟩
      rcases List.mem_cons.mp hy with rfl | hy
      · exact z
      · have := h1 y hy; omega
    · rename_i z
      refine List.pairwise_cons.mpr ⟨fun y hy => ?_, insI_sorted a l h2⟩
      have := (insI_perm a l).mem_iff.mp hy
      rcases List.mem_cons.mp this with rfl | hy
      · omega
      · exact h1 y hy
theorem sortI_sorted : ∀ l : List Int, (sortI l).Pairwise (· ≤ ·)
  | [] => .nil
  | a :: l => insI_sorted a _ (sortI_sorted l)
theorem sorted_uniq : ∀ {l m : List Int}, l.Perm m → l.Pairwise (· ≤ ·) → m.Pairwise (· ≤ ·) → l = m
  | [], m, h, _, _ => (List.nil_perm.mp h).symm
  | a :: l, [], h, _, _ => by have := h.length_eq; simp at this
  | a :: l, b :: m, h, s, t => by
    obtain ⟨s1, s2⟩ := List.pairwise_cons.mp s
    obtain ⟨t1, t2⟩ := List.pairwise_cons.mp t
    have e : a = b := by
      have ha := h.mem_iff.mp (List.mem_cons_self (a := a) (l := l))
      have hb := h.mem_iff.mpr (List.mem_cons_self (a := b) (l := m))
      rcases List.mem_cons.mp ha with z | z
      · exact z
      · rcases List.mem_cons.mp hb with y | y
        · exact y.symm
        · have := t1 a z; have := s1 b y; omega
    subst e
    rw [sorted_uniq (List.Perm.cons_inv h) s2 t2]
def dSorted (d : D) : Option (List D) := (listI d).map fun ns => (sortI ns).map D.int
theorem fs_sorted : FS g (rSortedI g.K) (op1 dSorted) := fs1 fun A H d es v Q al r q k => by
  obtain ⟨ns, z, rfl⟩ := map_some (show (listI d).map (fun ns => (sortI ns).map D.int) = some es from q)
  obtain ⟨a, rfl, h⟩ := listI_ok r z
  refine ⟨a, ns, rfl, h, fun ns' p h1 h2 hp => ?_⟩
  have e : ns' = sortI ns := sorted_uniq (h1.trans (sortI_perm ns).symm) h2 (sortI_sorted ns)
  exact k p _ _ hp (Same.new hp) upd_only upd_same (by rw [e]; exact RL.ints _)
/-! x in l -/
def dIn (d l : D) : Option D := match py d with
  | some p => (match l with
    | .lst ds => (match pyL ds with
      | some ps => if SeqAt.shaped p = true ∧ SeqAt.shaped (.list ps) = true then some (.bl (ps.any fun z => PyData.eqv z p)) else none
      | none => none)
    | _ => none)
  | none => none
theorem os_in : OS g (rInD g.K) dIn := fun A H d1 d2 d v1 v2 Q al r1 r2 q k => by
  unfold dIn at q
  cases z1 : py d1 with
  | none => simp only [z1] at q; cases q
  | some p =>
    simp only [z1] at q
    cases d2 with
    | lst ds =>
      cases z2 : pyL ds with
      | none => simp only [z2] at q; cases q
      | some ps =>
        simp only [z2] at q
        by_cases c : SeqAt.shaped p = true ∧ SeqAt.shaped (.list ps) = true
        · rw [if_pos c] at q; cases q
          exact ⟨p, ps, Rt.dp d1 v1 p r1 z1, Rt.dp (.lst ds) v2 (.list ps) r2 (by rw [py_lst, z2]; rfl), c.1, c.2, k _ H (Same.refl H) rfl⟩
        · rw [if_neg c] at q; cases q
    | _ => simp only at q; cases q
def dNotIn (d l : D) : Option D := match dIn d l with
  | some (.bl b) => some (.bl (!b))
  | _ => none
theorem os_notin : OS g (rNotInD g.K) dNotIn := fun A H d1 d2 d v1 v2 Q al r1 r2 q k => by
  unfold dNotIn dIn at q
  cases z1 : py d1 with
  | none => simp only [z1] at q; cases q
  | some p =>
    simp only [z1] at q
    cases d2 with
    | lst ds =>
      cases z2 : pyL ds with
      | none => simp only [z2] at q; cases q
      | some ps =>
        simp only [z2] at q
        by_cases c : SeqAt.shaped p = true ∧ SeqAt.shaped (.list ps) = true
        · rw [if_pos c] at q; cases q
          exact ⟨p, ps, Rt.dp d1 v1 p r1 z1, Rt.dp (.lst ds) v2 (.list ps) r2 (by rw [py_lst, z2]; rfl), c.1, c.2, k _ H (Same.refl H) rfl⟩
        · rw [if_neg c] at q; cases q
    | _ => simp only at q; cases q
end
end Fw
namespace Fw
open L2 PyProof.Rows PySem PySem.Spec
section
variable {g : GC} {X : Cx} {W : WK}
/-! ## V1. list(range(n)) -/
def dLr1 : D → Option (List D)
  | .int j => if -1000000 ≤ j ∧ j ≤ 1000000 then some ((List.range j.toNat).map fun (i : Nat) => D.int (0 + (i : Int))) else none
  | _ => none
def mLr1 (m : M D) : M (List D) := mb m fun d => mo (dLr1 d)
theorem rl_rg {A : Addr → Prop} {H : Hp} (a : Int) : ∀ l : List Nat, RL g A H (l.map fun (i : Nat) => D.int (a + (i : Int))) (l.map fun i => V.int (a + (i : Nat)))
  | [] => rfl
  | _ :: l => ⟨_, _, rfl, rfl, rl_rg a l⟩
theorem cf_lr1 {a : Expr} {m : M D} {p p2 pos pos2 : Pos} (hg : Gl X "list") (hm : X.mg "list" = none) (hg2 : Gl X "range") (hm2 : X.mg "range" = none) (ha : CE g X W a m) (hc : X.calm = true := by rfl)
    (n1 : starEach [a] X.env = (false, eval a X.env) :: starEach [] X.env := by rfl) (n2 : starEach [.Call (.Name "range" p2) [a] [] pos2] X.env = (false, eval (.Call (.Name "range" p2) [a] [] pos2) X.env) :: starEach [] X.env := by rfl) :
    CF g X W (.Call (.Name "list" p) [.Call (.Name "range" p2) [a] [] pos2] [] pos) (mLr1 m) := PE.imp (pe_listRg hc hg hm (prg_1 hg2 hm2 ha n1) n2) fun σ H Q ⟨f, A, e, F, h⟩ =>
  Fin.bE h F fun d e1 v H1 F1 S1 r h1 => by
    obtain ⟨es, q, h3⟩ := Fin.mo h1
    cases d with
    | int j =>
      obtain rfl : v = .int j := r
      have q : (if -1000000 ≤ j ∧ j ≤ 1000000 then some ((List.range j.toNat).map fun (i : Nat) => D.int (0 + (i : Int))) else none) = some es := q
      by_cases c : -1000000 ≤ j ∧ j ≤ 1000000
      · rw [if_pos c] at q; cases q
        refine ⟨j, rfl, ⟨by omega, by omega, by omega, by omega, by omega⟩, fun p hp => ?_⟩
        refine h3 p _ _ (F1.same (Same.new hp)) (F1.new hp) (F1.nA hp) (S1.trans (.of (Same.new hp))) ?_ upd_same ?_
        · cases z : H p with
          | none => rfl
          | some o => obtain ⟨o', q⟩ := S1.un p o z; rw [hp] at q; cases q
        · unfold rgV
          rw [Int.sub_zero]
          exact rl_rg 0 _
      · rw [if_neg c] at q; cases q
    | _ => cases q
/-! ## V2. a, b = a list -/
def gLstD (n : Nat) (bs : List D → M Unit) : D → M Unit
  | .lst ds => if ds.length = n then bs ds else fun _ => .bad
  | _ => fun _ => .bad
theorem cg_lst {es : List Expr} {k : Nat} {sl : List Nat} {bs : List D → M Unit} {n : Nat} {p : Pos} (hc : X.calm = true) (h : CGs g X es sl bs) (hn : (assignEach es X.env).length = n := by rfl) (hst : (assignEach es X.env).findIdx? (·.1) = none := by rfl) : CG g X (.Tuple es k p) sl (gLstD n bs) :=
  PG.imp (pg_lst hc h hn hst) fun v σ H Q ⟨f, A, e, d, F, r, h⟩ => by
    cases d with
    | lst ds =>
      obtain ⟨a, xs, e1, h1, _, r⟩ := r
      have h : FinG g f A σ H sl Q ((if ds.length = n then bs ds else fun _ => .bad) e) := h
      by_cases hl : ds.length = n
      · rw [if_pos hl] at h
        exact ⟨a, xs, e1, SqL.of h1, by rw [RL.length r]; exact hl, f, A, e, ds, F, r, h⟩
      · rw [if_neg hl] at h; exact h.elim
    | _ => exact h.elim
end
end Fw
namespace Fw
open PySem L2
/-! ## W. mirrors of dicts, worked out -/
section
variable {α β : Type} {e : Ev}
@[simp] theorem e_UbD {i : Nat} {m : M Fl} : mUbD i m e = (match e[i]? with
  | some (.box (.dct ks d)) => m (e.set i (.val (.dct ks d)))
  | _ => m e) := rfl
@[simp] theorem e_Ub {i : Nat} {m : M Fl} : mUb i m e = (match e[i]? with
  | some (.box (.lst d)) => m (e.set i (.val (.lst d)))
  | _ => m e) := rfl
@[simp] theorem e_SetD {i : Nat} : mSetD i e = mb (Fw.setB i (.dct [] [])) (fun _ => mp .nx) e := rfl
@[simp] theorem e_Get2 {i : Nat} {mk md : M D} : mGet2 i mk md e = mb (mN i) (fun d => mb (mo (isDct d)) fun _ => mb mk fun k => mb md fun z => mb (mN i) fun d => mo (dGet2 d k z)) e := rfl
@[simp] theorem e_isD {ks : List Key} {ds : List D} : isDct (.dct ks ds) = some () := rfl
@[simp] theorem e_dGet2 {ks : List Key} {ds : List D} {i : Int} {z : D} : dGet2 (.dct ks ds) (.int i) z = some ((dget ks ds (.inl i)).getD z) := rfl
@[simp] theorem e_gStD {i : Nat} {mk : M D} {d : D} : gStD i mk d e = mb (hasD i) (fun _ => mb mk fun k => match keyOf k with
  | some k => chD i k d
  | none => fun _ => .bad) e := rfl
@[simp] theorem e_keyI {i : Int} : keyOf (.int i) = some (.inl i) := rfl
@[simp] theorem e_hasD {i : Nat} : hasD i e = (match e[i]? with
  | some s => (match dctOf s with
    | some _ => .ok () e
    | none => .bad)
  | none => .bad) := rfl
@[simp] theorem e_chD {i : Nat} {k : Key} {d : D} : chD i k d e = (match e[i]? with
  | some s => (match dctOf s with
    | some (ks, ds) => if ks.length < 1000000 then .ok () (e.set i (s.put (.dct (dput k d ks ds).1 (dput k d ks ds).2))) else .bad
    | none => .bad)
  | none => .bad) := rfl
@[simp] theorem e_do1 {ks : List Key} {ds : List D} : dctOf (.box (.dct ks ds)) = some (ks, ds) := rfl
@[simp] theorem e_Keys {m : M D} : mKeys m e = mb m (fun d => mo (dKeys d)) e := rfl
@[simp] theorem e_dKeys {ks : List Key} {ds : List D} : dKeys (.dct ks ds) = some (ks.map kD) := rfl
@[simp] theorem e_din {ks : List Key} {ds : List D} {i : Int} : dDin (.int i) (.dct ks ds) = some (.bl (dget ks ds (.inl i)).isSome) := rfl
@[simp] theorem e_dix {ks : List Key} {ds : List D} {i : Int} : dDix (.dct ks ds) (.int i) = dget ks ds (.inl i) := rfl
@[simp] theorem e_Di1 {mk mv : M D} : mDi1 mk mv e = mb mk (fun k => mb mv fun v => mo ((keyOf k).map fun k => D.dct [k] [v])) e := rfl
@[simp] theorem e_Lr1 {m : M D} : mLr1 m e = mb m (fun d => mo (dLr1 d)) e := rfl
@[simp] theorem e_gLst {n : Nat} {bs : List D → M Unit} {ds : List D} : gLstD n bs (.lst ds) e = if ds.length = n then bs ds e else .bad := by unfold gLstD; by_cases h : ds.length = n <;> simp [h]
@[simp] theorem e_SlE {m : M D} {lo hi : Option (M D)} {op : D → Option Int → Option Int → Option β} : mSl (.e m) lo hi op e = mb m (fun d => mb (mPart lo) fun l => mb (mPart hi) fun u => mo (op d l u)) e := rfl
@[simp] theorem e_Pn : mPart none e = .ok none e := rfl
@[simp] theorem e_Pc {i : Int} : mPart (some (mC (.int i))) e = .ok (some i) e := rfl
end
/-! a dict's entry, behind a store -/
theorem dget_nil (ds : List D) (k : Key) : dget [] ds k = none := by cases ds <;> rfl
theorem dget_cons (k' : Key) (ks : List Key) (d : D) (ds : List D) (k : Key) : dget (k' :: ks) (d :: ds) k = if k' = k then some d else dget ks ds k := by
  unfold dget
  by_cases h : k' = k
  · rw [List.zip_cons_cons, List.find?_cons_of_pos (by simpa using h), if_pos h]; rfl
  · rw [List.zip_cons_cons, List.find?_cons_of_neg (by simpa using h), if_neg h]
theorem dget_repl (k : Key) (d : D) (j : Key) : ∀ (ks : List Key) (ds : List D), ks.length = ds.length → (ks.any fun k' => decide (k' = k)) = true → dget ks (repl k d ks ds) j = if j = k then some d else dget ks ds j
  | [], _, _, h => by simp at h
  | _ :: _, [], h, _ => by simp at h
  | k' :: ks, x :: ds, hl, h => by
    show dget (k' :: ks) ((if k' = k then d else x) :: repl k d ks ds) j = _
    rw [dget_cons, dget_cons]
    by_cases z : k' = k
    · subst z
      by_cases y : k' = j
      · subst y; simp
      · rw [if_neg y, if_neg (fun q => y q.symm), if_neg y]
        by_cases w : (ks.any fun q => decide (q = k')) = true
        · rw [dget_repl k' d j ks ds (by simpa using hl) w, if_neg (fun q => y q.symm)]
        · have e : ∀ (ks : List Key) (ds : List D), ¬ (ks.any fun q => decide (q = k')) = true → repl k' d ks ds = ds := by
            intro ks
            induction ks with
            | nil => intro ds _; rfl
            | cons a ks ih =>
              intro ds h
              cases ds with
              | nil => rfl
              | cons b ds =>
                simp only [List.any_cons, Bool.or_eq_true, decide_eq_true_eq, not_or] at h
                show (if a = k' then d else b) :: repl k' d ks ds = b :: ds
                rw [if_neg h.1, ih ds h.2]
          rw [e ks ds w]
    · rw [if_neg z]
      have h2 : (ks.any fun q => decide (q = k)) = true := by
        simp only [List.any_cons, Bool.or_eq_true, decide_eq_true_eq] at h
        exact h.resolve_left z
      rw [dget_repl k d j ks ds (by simpa using hl) h2]
      by_cases y : k' = j
      · subst y; simp [z]
      · simp [y]
theorem dget_app (j : Key) (k : Key) (d : D) : ∀ (ks : List Key) (ds : List D), ks.length = ds.length → ¬ (ks.any fun k' => decide (k' = k)) = true → dget (ks ++ [k]) (ds ++ [d]) j = if j = k then some d else dget ks ds j
  | [], [], _, _ => by
    show dget [k] [d] j = _
    rw [dget_cons, dget_nil]
    by_cases y : k = j
    · subst y; simp
    · rw [if_neg y, if_neg (fun q => y q.symm)]
  | [], _ :: _, h, _ => by simp at h
  | _ :: _, [], h, _ => by simp at h
  | k' :: ks, x :: ds, hl, h => by
    show dget (k' :: (ks ++ [k])) (x :: (ds ++ [d])) j = _
    simp only [List.any_cons, Bool.or_eq_true, decide_eq_true_eq, not_or] at h
    rw [dget_cons, dget_cons, dget_app j k d ks ds (by simpa using hl) h.2]
    by_cases y : k' = j
    · subst y; simp [h.1]
    · simp [y]
theorem dget_put (k : Key) (d : D) (j : Key) (ks : List Key) (ds : List D) (hl : ks.length = ds.length) : dget (dput k d ks ds).1 (dput k d ks ds).2 j = (if j = k then some d else dget ks ds j) ∧ (dput k d ks ds).1.length = (dput k d ks ds).2.length := by
  unfold dput
  by_cases c : (ks.any fun k' => decide (k' = k)) = true
  · rw [if_pos c]
    exact ⟨dget_repl k d j ks ds hl c, by rw [repl_len]; exact hl⟩
  · rw [if_neg c]
    exact ⟨dget_app j k d ks ds hl c, by simp [hl]⟩
end Fw
/-! ## X1. own errors over any of Python's -/
namespace Fw.Ex
open PyProof.Rows PySem PySem.W PySem.Calls PySem.HandSPX
def refsT (tl : List Value) : List Value → Bool
  | .ref _ :: l => refsT tl l
  | l => l == tl
theorem refsT_split {tl : List Value} : ∀ l : List Value, refsT tl l = true → (∃ a k, l = .ref a :: k ∧ refsT tl k = true) ∨ l = tl := fun l e => by
  match l, e with
  | .ref a :: k, e => exact .inl ⟨a, k, rfl, e⟩
  | [], e => exact .inr (eq_of_beq e)
  | .none :: _, e | .ellipsis :: _, e | .notImplemented :: _, e | .bool _ :: _, e | .int _ _ :: _, e | .float _ _ :: _, e | .str _ _ :: _, e | .bytes _ _ :: _, e | .type _ :: _, e | .builtin _ :: _, e => exact .inr (eq_of_beq e)
/-- one of Python's errors: its mro -/
structure Tl (tl : List Value) (B ni ii : String) : Prop where
  base : ExcBaseFacts B ni ii tl
  pass : ∀ self : Value, refuseLoop self "__setattr__" tl = pure ()
  obj : tl.contains (.type "object") = true
  ne : tl ≠ []
theorem tlV : Tl [.type "ValueError", .type "Exception", .type "BaseException", .type "object"] "ValueError" "ValueError.__new__" "ValueError.__init__" := ⟨F.excBase_ValueError, F.store_ValueError.passes, by decide +kernel, by simp⟩
theorem tlA : Tl [.type "ArithmeticError", .type "Exception", .type "BaseException", .type "object"] "ArithmeticError" "ArithmeticError.__new__" "ArithmeticError.__init__" := ⟨F.excBase_ArithmeticError, F.store_ArithmeticError.passes, by decide +kernel, by simp⟩
theorem tlL : Tl [.type "LookupError", .type "Exception", .type "BaseException", .type "object"] "LookupError" "LookupError.__new__" "LookupError.__init__" := ⟨F.excBase_LookupError, F.store_LookupError.passes, by decide +kernel, by simp⟩
section
variable {tl : List Value} {B ni ii : String}
theorem refsT_pass (T : Tl tl B ni ii) (self : Value) : ∀ l : List Value, refsT tl l = true → refuseLoop self "__setattr__" l = pure ()
  | [], e => by
    rcases refsT_split [] e with ⟨_, _, q, _⟩ | q
    · cases q
    · exact absurd q.symm T.ne
  | x :: l, e => by
    rcases refsT_split (x :: l) e with ⟨a, k, q, h⟩ | q
    · cases q
      rw [refuseLoop_ref]; exact refsT_pass T self _ h
    · rw [q]; exact T.pass self
theorem refsT_has (T : Tl tl B ni ii) (n : String) : ∀ l : List Value, refsT tl l = true → l.contains (.type n) = tl.contains (.type n)
  | [], e => by
    rcases refsT_split [] e with ⟨_, _, q, _⟩ | q
    · cases q
    · exact absurd q.symm T.ne
  | x :: l, e => by
    rcases refsT_split (x :: l) e with ⟨a, k, q, h⟩ | q
    · cases q
      rw [List.contains_cons, refsT_has T n _ h]; rfl
    · rw [q]
theorem refsT_ne (T : Tl tl B ni ii) {l : List Value} (e : refsT tl l = true) : l.isEmpty = false := by
  cases l with
  | nil =>
    rcases refsT_split [] e with ⟨_, _, q, _⟩ | q
    · cases q
    · exact absurd q.symm T.ne
  | cons _ _ => rfl
open Builtin Builtin.ObjectAttr
variable {prog : Program} {w : World} {A : Around} {E : Value → Shared → Prop} {R : Result → Shared → Prop} {hp : Heap} {gs : Array GenState} {dr : Drawn} {tk0 : Nat} {os : OsState}
/-- the first field of a new error -/
theorem put_first (T : Tl tl B ni ii) {K : Frag} {nm : Str} {tk : Tok} {v : Value} {e C : Addr} {fv : Array Value} {cd : ClassData}
    (X : K.In hp) (he : hp.get? e = some { cls := .ref C, data := .fields fv }) (hcd : clsIn K C = some cd) (hm : refsT tl cd.mro = true) (hd : cd.hasDict = true) (hno : findIn K (.ref C) nm = some none)
    (hq : ∀ h' tk' dx, (∀ b o, b ≠ e → hp.get? b = some o → h'.get? b = some o) → hp.objs.size ≤ dx → dx ≠ e → h'.get? e = some { cls := .ref C, dict := some dx, data := .fields fv } →
      h'.Ns1 dx (fun y => if y = nm then some v else none) → R (.ok (.ret .none)) ⟨h', gs, dr, tk', os⟩) :
    codeAny (model prog w) A (.call (.builtin "object.__setattr__") ⟨[.ref e, .str nm tk, v], []⟩) R ⟨hp, gs, dr, tk0, os⟩ := by
  have I : InstAt hp e { cls := .ref C, data := .fields fv } C none := ⟨he, rfl, rfl, trivial⟩
  have S := F.store_object
  have n0 := refsT_ne T hm
  have ob : cd.mro.contains (.type "object") = true := (refsT_has T "object" _ hm).trans T.obj
  have es : e ≠ hp.objs.size := Nat.ne_of_lt (Heap.lt_size he)
  have isO : Looks (model prog w) hp (isInstance (.ref e) (.type "object")) true := I.type.andThen (looks_mroIn X (by unfold mroIn; rw [hcd, Option.bind_some, if_neg (by rw [n0]; decide), ob]))
  refine codeAny_call_builtin S.slot.plain S.entry (@check_slot (model prog w) _ _ ⟨hp, gs, dr, tk0, os⟩ "object.__setattr__" "object" "__setattr__" (.ref e) [.str nm tk, v] [] _ S.kind S.split isO (S.args (.ref e) (.str nm tk) v) ?_)
  have lm : Looks (model prog w) hp (mroOf (.ref C)) cd.mro := (looks_clsIn X hcd).andThen .now
  have ls : Looks (model prog w) hp (storeTaker? none) none := .now
  have lc : Looks (model prog w) hp (classData C) cd := looks_clsIn X hcd
  rw [osa_eq, refuse_eq]
  refine wpAny_bind (wpAny_bind (I.type.at (wpAny_bind (lm.at ?_)))); rw [refsT_pass T _ _ hm]
  refine wpAny_pure (wpAny_bind (I.type.at (wpAny_bind ((looks_findIn X hno).at (wpAny_bind (ls.at ?_))))))
  show wpAny _ _ (storeInOwnDict (.ref e) (.ref C) (.str nm tk) nm v false) _ _ _
  obtain ⟨c1, c2, c3, c4, c5, c6, c7, c8, c9, c10, c11⟩ := cd; dsimp only at hd; subst hd
  unfold storeInOwnDict ownDictForStores
  repeat (first | with_reducible refine store_in_new ?_ ?_ | with_reducible refine wpAny_loadPart_at he ?_ | with_reducible refine lc.at ?_ | wp_step)
  · exact ⟨_, #[], _, (Heap.get?_update_ne _ _ _ _ es.symm).trans (Heap.get?_push_at rfl rfl), rfl, fun z hz => absurd hz (by simp), fun _ => rfl⟩
  · intro h' tk' n' sb
    have e1 : (hp.push { cls := .type "dict", data := .dict #[] }).get? e = some { cls := .ref C, data := .fields fv } := Heap.get?_push_of_some _ he
    refine hq h' tk' hp.objs.size (fun b o hb ho => ?_) (Nat.le_refl _) es.symm ?_ n'
    · exact (sb.2 b (Nat.ne_of_lt (Heap.lt_size ho))).trans ((Heap.get?_update_ne _ _ _ _ hb).trans (Heap.get?_push_of_some _ ho))
    · exact (sb.2 e es).trans (Heap.get?_update_self _ e1 rfl)
end
theorem one_le (v : Value) : [v].length ≤ sizeLine := by
  rw [sizeLine_eq]
  exact (by decide : 1 ≤ 16777216)
theorem ld_loc {M : Model} {s : Shared} {name : Str} {scope : Scope} {L a : Addr} {cd : Value} {m : Str → Option Value} {x : Str} {pos : Pos} {v : Value} {Q : Value → Shared → Prop} {A : Around} {E : Value → Shared → Prop} (hn : s.heap.Ns L m) (hv : m x = some v) (h : Q v s)
    (hk : scope.kind = .function := by rfl) (hl : (envOfC name scope L a cd).kindOf x = some .local := by rfl) (hd : (x == ("__debug__" : Str)) = false := by decide) :
    wpAny M A (eval (.Name x pos) (envOfC name scope L a cd)) Q E s := wpAny_Name (wpAny_loadName_local hk hl hn hv h) hd
/-- a made error with one field -/
structure Made (h h' : Heap) (e C d : Addr) (f : Str) (v : Value) : Prop where
  keep : ∀ b o, h.get? b = some o → h'.get? b = some o
  new : h.objs.size ≤ e
  obj : ∃ oe vs, h'.get? e = some oe ∧ oe.cls = .ref C ∧ oe.dict = some d ∧ oe.data = .fields vs ∧ vs[1]? = some .none
  dbig : h.objs.size ≤ d
  dne : d ≠ e
  ns : h'.Ns1 d (fun y => if y = f then some v else none)
end Fw.Ex
namespace Fw
def mRaise (c : Nat) (m : M D) : M Fl := mb m fun d e => .exc c d e
def mRaise0 (c : Nat) : M Fl := fun e => .exc c .non e
end Fw
namespace Fw.Ex
namespace G
open PyProof.Rows PySem PySem.W PySem.Calls PySem.HandSPX
/-! ## X2. errors that keep given -/
def prm (p1 p2 : Pos) : Arguments := { posonlyargs := [], args := [⟨"self", none, p1⟩, ⟨"given", none, p2⟩], vararg := none, kwonlyargs := [], kw_defaults := [], kwarg := none, defaults := [] }
def bdy (q1 q2 q3 q4 : Pos) : List Stmt := [.Assign [.Attribute (.Name "self" q1) "given" q2] (.Name "given" q3) q4]
def scp : Scope := ⟨.function, [(PySem.Str.ofString "self", .local), (PySem.Str.ofString "given", .local)], false, false, []⟩
/-- what the top says of an error's class at C and of its __init__ at fI -/
structure Txt (tl : List Value) (ni : String) (K : Frag) (C fI : Addr) (qn : Str) : Prop where
  cls : ∃ nm q N bs bm sn sub ab col dd k0 k1 k2 k3 k5, K.lookup C = some (excClassObj nm q C N bs bm true sn sub ab col dd k0 k1 k2 k3 k5 ni) ∧ refsT tl bm = true
  sa : findIn K (.ref C) "__setattr__" = some (some (.builtin "object.__setattr__"))
  no : findIn K (.ref C) "given" = some none
  iC : findIn K (.ref C) "__init__" = some (some (.ref fI))
  tI : typeIn K (.ref fI) = some (.type "function")
  kC : keepIn K (.ref C) = true
  ex : subIn K (.ref C) (.type "BaseException") = some true
  ty : typeIn K (.ref C) = some (.type "type")
  fn : ∃ (fd : FuncData) (p1 p2 q1 q2 q3 q4 : Pos), L2.FunD K "__init__" qn (prm p1 p2) (bdy q1 q2 q3 q4) scp [] [] fI fd
section
variable {tl : List Value} {B ni ii : String} {prog : Program} {w : World} {A : Around} {E : Value → Shared → Prop} {R : Result → Shared → Prop} {s : Shared} {K : Frag} {C fI : Addr} {qn : Str}
theorem init_run (TL : Tl tl B ni ii) (T : Txt tl ni K C fI qn) {e t0 : Addr} {v : Value} (X : K.In s.heap) (hlim : s.heap.NoLimit) (he : s.heap.get? e = some (excO C t0)) (hroom : A.depth < recursionLimit)
    (hq : ∀ h' tk dx, (∀ b o, b ≠ e → s.heap.get? b = some o → h'.get? b = some o) → h'.get? e = some { cls := .ref C, dict := some dx, data := .fields #[.ref t0, .none, .none, .none, .bool false, .none] } → s.heap.objs.size ≤ dx → dx ≠ e →
      h'.Ns1 dx (fun y => if y = "given" then some v else none) → R (.ok (.ret .none)) { s with heap := h', toks := tk }) :
    codeAny (model prog w) A (.call (.ref fI) ⟨[.ref e, v], []⟩) R s := by
  obtain ⟨fd, p1, p2, q1, q2, q3, q4, FD⟩ := T.fn
  obtain ⟨oc, od, dV, kV, doc, pm, an, cdv, ct, osl, rfl, ho, hcd, hD, _⟩ := FD.ex
  have hD : dV = .none := hD.elim (fun z => z.2) fun z => absurd rfl z.1
  subst hD
  obtain ⟨nm, q, N, bs, bm, sn, sub, ab, col, dd, k0, k1, k2, k3, k5, hC, hbm⟩ := T.cls
  have hcl : clsIn K C = some ⟨nm, bs, .ref C :: bm, N, q, true, sn, sub, ab, col, false⟩ := by unfold clsIn; rw [hC] <;> rfl
  refine Att.call_fn (binds := [("self", .ref e), ("given", v)]) X hlim ho hcd hroom (BindsTo.of_eq (by first | rfl | with_unfolding_all rfl)) (by first | rfl | decide | with_unfolding_all rfl) (fun s₁ IC => ?_) rfl rfl rfl
  obtain ⟨h₁, tk₁, rfl⟩ := IC.toInCall.same
  have k : ∀ b o, s.heap.get? b = some o → h₁.get? b = some o := IC.toInCall.keep
  have hn := IC.toInCall.ns
  have X₁ : K.In h₁ := X.keeps k
  have e₁ := k _ _ he
  show wpAny _ _ (execs _ _) _ _ _
  refine wpAny_execs_cons (plainObj_wpAny_Assign_Attribute (ld_loc (v := v) hn (by first | rfl | with_unfolding_all rfl | kernel_rfl) (ld_loc (v := .ref e) hn (by first | rfl | with_unfolding_all rfl | kernel_rfl) ?_)))
  refine set_plain X₁ (ox := excO C t0) (od := none) ⟨e₁, rfl, rfl, trivial⟩ T.sa (put_first TL X₁ e₁ hcl (show refsT tl (.ref C :: bm) = true from hbm) rfl T.no (fun h₃ tk₃ dx k₃ dn dne x₃ n₃ => ?_))
  show wpAny _ _ (execs _ _) _ _ _
  have z : s.heap.objs.size < h₁.objs.size := hn.lt
  exact wpAny_execs_nil (hq h₃ tk₃ dx (fun b o hb q => k₃ b o hb (k b o q)) x₃ (Nat.le_of_lt (Nat.lt_of_lt_of_le z dn)) dne n₃)
theorem made (TL : Tl tl B ni ii) (T : Txt tl ni K C fI qn) {v : Value} (X : K.In s.heap) (hlim : s.heap.NoLimit) (hroom : A.depth + 1 < recursionLimit)
    (hq : ∀ h' tk e d, Made s.heap h' e C d "given" v → R (.ok (.ret (.ref e))) { s with heap := h', toks := tk }) :
    codeAny (model prog w) A (.call (.ref C) ⟨[v], []⟩) R s := by
  obtain ⟨nm, q, N, bs, bm, sn, sub, ab, col, dd, k0, k1, k2, k3, k5, hC, hbm⟩ := T.cls
  obtain ⟨hp, gs, dr, tk, os⟩ := s
  have k : ∀ b o, hp.get? b = some o → ((hp.push (kdv_tup [v])).push (excO C hp.objs.size)).get? b = some o := fun b o q => Heap.get?_push_of_some _ (Heap.get?_push_of_some _ q)
  have ge : ((hp.push (kdv_tup [v])).push (excO C hp.objs.size)).get? (hp.objs.size + 1) = some (excO C hp.objs.size) := by heap_get
  refine call_own TL.base (fun Y => refsT_has TL Y bm hbm) (X _ _ hC) (looks_findIn X T.iC) (fun self => bind_fn X self T.tI) (one_le v) ?_
  refine init_run (s := ⟨(hp.push (kdv_tup [v])).push (excO C hp.objs.size), gs, dr, tk, os⟩) TL T (X.keeps k) (hlim.keeps k) ge ?_ fun h' tk' dx k' hx dn dne hns => ?_
  · show A.depth + 1 < recursionLimit
    exact hroom
  · have old : ∀ b o, hp.get? b = some o → h'.get? b = some o := fun b o q => k' b o (Nat.ne_of_lt (Nat.lt_succ_of_lt (Heap.lt_size q))) (k b o q)
    have z : hp.objs.size + 1 + 1 ≤ dx := by
      first
        | (simpa only [Heap.size_push] using dn)
        | exact dn
        | (have q := dn; rw [Heap.size_push, Heap.size_push] at q; exact q)
    exact ⟨rfl, hq h' tk' (hp.objs.size + 1) dx ⟨old, Nat.le_succ _, ⟨_, _, hx, rfl, rfl, rfl, rfl⟩, Nat.le_trans (Nat.le_trans (Nat.le_succ _) (Nat.le_succ _)) z, dne, hns⟩⟩
end
end G
end Fw.Ex
namespace Fw
open L2 PyProof.Rows PySem PySem.Spec
theorem relO_given {v : V} {v' : Value} (r : RelV v v') (f : Str) : RelO (List.lookup f [(("given" : Str), v)]) (if f = "given" then some v' else none) := by
  by_cases hw : f = "given"
  · subst hw
    rw [if_pos rfl, show List.lookup ("given" : Str) [(("given" : Str), v)] = some v by simp [List.lookup]]
    exact r
  · have qw : (f == ("given" : Str)) = false := by simpa using hw
    rw [if_neg hw, show List.lookup f [(("given" : Str), v)] = none by simp [List.lookup, qw]]
    trivial
section
variable {X : Cx} {C fI : Addr} {tl : List Value} {B ni ii : String} {qn : Str}
/-- X(e) -/
def tMk_given (C : Addr) (ta : TA) : L2.St → Hp → XK → Prop := fun σ H Q => ta σ H fun vs H1 => ∃ v, vs = [v] ∧ ∀ d, H1 d = none → Q (.ref C) (some d) (upd H1 d (.xd [(("given" : Str), v)]))
theorem pmk_given {x : Str} {a : Expr} {ta : TA} {p pos : Pos} {k : Nat} (TL : Ex.Tl tl B ni ii) (T : Ex.G.Txt tl ni X.K C fI qn) (gC : X.mg x = some (.ref C)) (hr : Room k X.A) (ha : PA X [a] ta) (hg : Gl X x) (hdb : (x == ("__debug__" : Str)) = false)
    (he : starEach (a :: []) X.env = (false, eval a X.env) :: starEach [] X.env := by rfl) (hpl : (backTo pos (starEach [] X.env)).any (·.1) = false := by rfl) :
    PMk X (.Call (.Name x p) [a] [] pos) (tMk_given C ta) := by
  intro pins s σ H Q I h
  refine wpAny_Call_Name_kw (ld_glob I hg gC ?_ hdb)
  refine PySem.W.callWith_K (h₀ := X.base) I.ok.mod.kin T.kC (thn (ha.run pos pins s σ H _ I h) fun us s1 hh => ?_) he hpl
  obtain ⟨vs, H1, I1, r1, v, rfl, q1⟩ := hh
  refine ⟨I1.kIn, ?_⟩
  cases r1 with
  | cons rv rn =>
    rename_i v' us'
    cases rn
    have hlim := I1.nolimit
    obtain ⟨hp, gs, dr, tk, os⟩ := s1
    show wpAny _ _ (call (.ref C) [v']) _ _ _
    refine wpAny_call (Ex.G.made TL T I1.kIn hlim (by have := hr.dp; omega) fun h' tk' e d M => ?_)
    show MkP X pins σ Q (.ref e) ⟨h', gs, dr, tk', os⟩
    obtain ⟨oe, fv, hoe, hc, hd, hdat, h1⟩ := M.obj
    have hns := M.ns
    obtain ⟨G', g1, g2⟩ := restrict h' fun b => decide (b ≠ e)
    have gk : ∀ b, b ≠ e → G'.get? b = h'.get? b := fun b hb => g1 b (decide_eq_true hb)
    have ge : G'.get? e = none := g2 e (by simp)
    have old : ∀ b o, hp.get? b = some o → G'.get? b = some o := fun b o q => (gk b (Nat.ne_of_lt (Nat.lt_of_lt_of_le (Heap.lt_size q) M.new))).trans (M.keep b o q)
    have ob : ObjOk X.prog X.w (upd H1 d (.xd [(("given" : Str), v)])) G' d (.xd [(("given" : Str), v)]) := ⟨_, hns.at (fun o q => (gk d M.dne).trans q), fun f => relO_given rv f⟩
    have J : Inv X pins σ (upd H1 d (.xd [(("given" : Str), v)])) ⟨G', gs, dr, tk', os⟩ := I1.laid (t' := tk') old M.dbig ob
    refine ⟨e, oe, fv, ⟨G', gs, dr, tk', os⟩, _, .ref C, some d, rfl, J, fun b o q => ?_, ge, hoe, ⟨hc, hd⟩, hdat, h1, ?_, rfl, I1.bare, raises_own T.ex T.ty, q1 d (I1.hok.fresh M.dbig)⟩
    · by_cases hb : b = e
      · have q' : G'.get? b = some o := q
        rw [hb, ge] at q'; cases q'
      · exact (gk b hb).symm.trans q
    · rw [upd_ne (Ne.symm M.dne)]; exact I1.hok.fresh M.new
end
/-- the class c is an error that keeps given -/
structure Err_given (g : GC) (mg : Str → Option Value) (c : Nat) (x : Str) : Prop where
  glo : mg x = some (.ref (g.ca c))
  fld : g.cf c = [("given" : Str)]
  ex : ∃ tl B ni ii fI qn, Ex.Tl tl B ni ii ∧ Ex.G.Txt tl ni g.K (g.ca c) fI qn
section
variable {g : GC} {X : Cx} {W : WK}
theorem cs_raise_given {c : Nat} {x : Str} {a : Expr} {m : M D} {p pos pos2 : Pos} {k : Nat} (T : Err_given g X.mg c x) (hK : X.K = g.K) (hc : X.calm = true) (hr : Room k X.A) (tk : Takes X W) (ha : CE g X W a m) (hg : Gl X x) (hdb : (x == ("__debug__" : Str)) = false)
    (he : starEach (a :: []) X.env = (false, eval a X.env) :: starEach [] X.env := by rfl) (hpl : (backTo pos (starEach [] X.env)).any (·.1) = false := by rfl) :
    CS g X W (.Raise (some (.Call (.Name x p) [a] [] pos)) none pos2) (mRaise c m) := by
  obtain ⟨tl, B, ni, ii, fI, qn, TL, TX⟩ := T.ex
  rw [← hK] at TX
  refine PS.imp (ps_raise hc tk (pmk_given TL TX T.glo hr (pa_cons ha pa_nil he) hg hdb he hpl)) fun D σ H ⟨f, A, e, F, h⟩ => ?_
  refine FinS.bE h F fun d e1 v H1 F1 S1 r h1 => ?_
  refine ⟨v, rfl, fun dd hd => ?_⟩
  have sm := Same.new (o := .xd [(("given" : Str), v)]) hd
  exact h1 A σ (.ref (g.ca c)) (some dd) _ (F1.same sm) (F1.mono (.of sm)) ⟨rfl, by rw [T.fld]; exact ⟨dd, v, rfl, upd_same, R.mono (Mono.same F1.al sm) d r⟩⟩
end
end Fw
namespace Fw
open L2 PyProof.Rows PySem PySem.Spec
/-! ## X3. try .. except .. as -/
abbrev GC.wx (g : GC) (x : Addr × Nat × Option Addr) : GC := { g with ex := some x }
mutual
def noX : D → Bool
  | .tup ds => noXL ds
  | .lst ds => noXL ds
  | .obj _ ds => noXL ds
  | .dct _ ds => noXL ds
  | .exn _ _ => false
  | .non => true
  | .bl _ => true
  | .int _ => true
  | .str _ => true
  | .ty _ => true
  | .scr _ => true
def noXL : List D → Bool
  | [] => true
  | d :: ds => noX d && noXL ds
end
section
variable {g : GC} {x : Addr × Nat × Option Addr} {A : Addr → Prop} {H : Hp}
mutual
theorem R.inX (hx : g.ex = none) : ∀ (d : D) {v : V}, R g A H d v → R (g.wx x) A H d v
  | .non, _, e => e
  | .bl _, _, e => e
  | .int _, _, e => e
  | .str _, _, e => e
  | .ty _, _, e => e
  | .tup ds, _, ⟨a, xs, e, h1, r⟩ => ⟨a, xs, e, h1, RL.inX hx ds r⟩
  | .lst ds, _, ⟨a, xs, e, h1, n, r⟩ => ⟨a, xs, e, h1, n, RL.inX hx ds r⟩
  | .obj c ds, _, ⟨a, dx, xs, e, h1, hl, r⟩ => ⟨a, dx, xs, e, h1, hl, RL.inX hx ds r⟩
  | .scr _, _, ⟨a, e, h1⟩ => ⟨a, e, h1⟩
  | .dct ks ds, _, ⟨a, o, xs, e, h1, hl, r⟩ => ⟨a, o, xs, e, h1, hl, RL.inX hx ds r⟩
  | .exn c ds, _, ⟨a, od, e, h0, h⟩ => by rw [hx] at h0; cases h0
theorem RL.inX (hx : g.ex = none) : ∀ (ds : List D) {xs : List V}, RL g A H ds xs → RL (g.wx x) A H ds xs
  | [], _, e => e
  | d :: ds, _, ⟨y, ys, e, r, t⟩ => ⟨y, ys, e, R.inX hx d r, RL.inX hx ds t⟩
end
theorem an {a b : Bool} (h : (a && b) = true) : a = true ∧ b = true := Bool.and_eq_true_iff.mp h
mutual
theorem R.outX : ∀ (d : D) {v : V}, noX d = true → R (g.wx x) A H d v → R g A H d v
  | .non, _, _, e => e
  | .bl _, _, _, e => e
  | .int _, _, _, e => e
  | .str _, _, _, e => e
  | .ty _, _, _, e => e
  | .tup ds, _, z, ⟨a, xs, e, h1, r⟩ => ⟨a, xs, e, h1, RL.outX ds (by rw [noX] at z; exact z) r⟩
  | .lst ds, _, z, ⟨a, xs, e, h1, n, r⟩ => ⟨a, xs, e, h1, n, RL.outX ds (by rw [noX] at z; exact z) r⟩
  | .obj c ds, _, z, ⟨a, dx, xs, e, h1, hl, r⟩ => ⟨a, dx, xs, e, h1, hl, RL.outX ds (by rw [noX] at z; exact z) r⟩
  | .scr _, _, _, ⟨a, e, h1⟩ => ⟨a, e, h1⟩
  | .dct ks ds, _, z, ⟨a, o, xs, e, h1, hl, r⟩ => ⟨a, o, xs, e, h1, hl, RL.outX ds (by rw [noX] at z; exact z) r⟩
  | .exn c ds, _, z, _ => by rw [noX] at z; cases z
theorem RL.outX : ∀ (ds : List D) {xs : List V}, noXL ds = true → RL (g.wx x) A H ds xs → RL g A H ds xs
  | [], _, _, e => e
  | d :: ds, _, z, ⟨y, ys, e, r, t⟩ => by
    rw [noXL] at z
    exact ⟨y, ys, e, R.outX d (an z).1 r, RL.outX ds (an z).2 t⟩
end
theorem Bx.inX (hx : g.ex = none) {p : Addr} : ∀ {d : D}, Bx g A H d p → Bx (g.wx x) A H d p
  | .lst ds, ⟨xs, h, r⟩ => ⟨xs, h, RL.inX hx ds r⟩
  | .dct ks ds, ⟨xs, h, hl, r⟩ => ⟨xs, h, hl, RL.inX hx ds r⟩
theorem Bx.outX {p : Addr} : ∀ {d : D}, noX d = true → Bx (g.wx x) A H d p → Bx g A H d p
  | .lst ds, z, ⟨xs, h, r⟩ => ⟨xs, h, RL.outX ds (by rw [noX] at z; exact z) r⟩
  | .dct ks ds, z, ⟨xs, h, hl, r⟩ => ⟨xs, h, hl, RL.outX ds (by rw [noX] at z; exact z) r⟩
def Sl.noX : Sl → Bool
  | .emp => true
  | .val d => Fw.noX d
  | .box d => Fw.noX d
  | .pbox d => Fw.noX d
def forget : Sl → Sl
  | .val _ => .emp
  | s => s
variable {f : Fx} {σ : Sv} {e : Ev}
theorem FR.inX (hx : g.ex = none) (F : FR g f A H σ e) : FR (g.wx x) f A H σ e := ⟨F.len, fun i s o h1 h2 => by
    have q := F.sl i s o h1 h2
    cases s with
    | emp => exact q
    | val d => obtain ⟨a, v, b, c⟩ := q; exact ⟨a, v, b, R.inX hx d c⟩
    | box d => obtain ⟨a, p, b, c, c0, dd⟩ := q; exact ⟨a, p, b, c, c0, Bx.inX hx dd⟩
    | pbox d => obtain ⟨p, a, b, c, dd⟩ := q; exact ⟨p, a, b, c, Bx.inX hx dd⟩, F.inj, F.nt, F.tp, F.ob, F.ob0, F.pb, F.al, F.keep⟩
theorem FR.outX (F : FR (g.wx x) f A H σ e) (z : e.all Sl.noX = true) : FR g f A H σ e := ⟨F.len, fun i s o h1 h2 => by
    have q := F.sl i s o h1 h2
    have w := List.all_eq_true.mp z s (List.mem_of_getElem? h1)
    cases s with
    | emp => exact q
    | val d => obtain ⟨a, v, b, c⟩ := q; exact ⟨a, v, b, R.outX d w c⟩
    | box d => obtain ⟨a, p, b, c, c0, dd⟩ := q; exact ⟨a, p, b, c, c0, Bx.outX w dd⟩
    | pbox d => obtain ⟨p, a, b, c, dd⟩ := q; exact ⟨p, a, b, c, Bx.outX w dd⟩, F.inj, F.nt, F.tp, F.ob, F.ob0, F.pb, F.al, F.keep⟩
theorem map_at {i : Nat} {s : Sl} (h : (e.map forget)[i]? = some s) : ∃ t, e[i]? = some t ∧ s = forget t := by
  rw [List.getElem?_map] at h
  cases q : e[i]? with
  | none => rw [q] at h; cases h
  | some t => rw [q] at h; exact ⟨t, rfl, (Option.some.inj h).symm⟩
theorem fbox {t : Sl} (h : (forget t).isBox = true) : t.isBox = true ∧ forget t = t := by
  cases t with
  | emp => cases h
  | val d => cases h
  | box d => exact ⟨rfl, rfl⟩
  | pbox d => exact ⟨rfl, rfl⟩
theorem FR.forget (F : FR g f A H σ e) : FR g f A H σ (e.map Fw.forget) := ⟨by rw [List.length_map]; exact F.len, fun i s o h1 h2 => by
    obtain ⟨t, h3, rfl⟩ := map_at h1
    have q := F.sl i t o h3 h2
    cases t with
    | emp => exact q
    | val d => exact q.1
    | box d => exact q
    | pbox d => exact q, fun i j s t p h1 h2 b1 b2 s1 s2 => by
      obtain ⟨s', h3, rfl⟩ := map_at h1
      obtain ⟨t', h4, rfl⟩ := map_at h2
      exact F.inj i j s' t' p h3 h4 (fbox b1).1 (fbox b2).1 s1 s2, fun i s p h1 b1 s1 => by
      obtain ⟨s', h3, rfl⟩ := map_at h1
      exact F.nt i s' p h3 (fbox b1).1 s1, F.tp, F.ob, F.ob0, fun i p h => by rw [List.length_map]; exact F.pb i p h, F.al, F.keep⟩
theorem FR.clr (F : FR g f A H σ e) {i : Nat} (h : f.pa i = none) : FR g f A H (σ.set i none) (e.set i .emp) := ⟨by rw [List.length_set, List.length_set]; exact F.len, fun j s o h1 h2 => by
    rcases get_set h1 with ⟨rfl, _, rfl⟩ | ⟨n, h1⟩
    · exact h
    · rw [List.getElem?_set_ne n] at h2
      exact F.sl j s o h1 h2, fun a b s t p h1 h2 b1 b2 s1 s2 => by
    rcases get_set h1 with ⟨_, _, rfl⟩ | ⟨n1, h1⟩
    · cases b1
    · rcases get_set h2 with ⟨_, _, rfl⟩ | ⟨n2, h2⟩
      · cases b2
      · rw [List.getElem?_set_ne n1] at s1; rw [List.getElem?_set_ne n2] at s2
        exact F.inj a b s t p h1 h2 b1 b2 s1 s2, fun a s p h1 b1 s1 => by
    rcases get_set h1 with ⟨_, _, rfl⟩ | ⟨n1, h1⟩
    · cases b1
    · rw [List.getElem?_set_ne n1] at s1
      exact F.nt a s p h1 b1 s1, F.tp, F.ob, F.ob0, fun i p q => by rw [List.length_set]; exact F.pb i p q, F.al, F.keep⟩
/-- behind a suite -/
def endX (i : Nat) : Rs Fl → Rs Fl
  | .ok (.rt d) e => if Fw.noX d = true ∧ ((e.set i .emp).map Fw.forget).all Sl.noX = true then .ok (.rt d) ((e.set i .emp).map Fw.forget) else .bad
  | .ok (.rb ds) e => if noXL ds = true ∧ ((e.set i .emp).map Fw.forget).all Sl.noX = true then .ok (.rb ds) ((e.set i .emp).map Fw.forget) else .bad
  | .ok .nx e => if (e.set i .emp).all Sl.noX = true then .ok .nx (e.set i .emp) else .bad
  | .ok .bk e => if (e.set i .emp).all Sl.noX = true then .ok .bk (e.set i .emp) else .bad
  | .ok .ct e => if (e.set i .emp).all Sl.noX = true then .ok .ct (e.set i .emp) else .bad
  | _ => .bad
abbrev endsX (i : Nat) (D : Ends) : Ends := { nx := fun σ' H' => D.nx (σ'.set i none) H', rt := D.rt, bk := fun σ' H' => D.bk (σ'.set i none) H', ct := fun σ' H' => D.ct (σ'.set i none) H' }
theorem fin_suite {W : WK} {D : Ends} {i : Nat} {r : Rs Fl} (hpa : f.pa i = none) (h : FinS g W f A H D (endX i r)) : FinS (g.wx x) W0 f A H (endsX i D) r := by
  cases r with
  | exc c d e => exact h.elim
  | bad => exact h.elim
  | ok fl e =>
    cases fl with
    | nx =>
      by_cases z : (e.set i .emp).all Sl.noX = true
      · simp only [endX, if_pos z] at h; exact fun A' σ' H' F m => h A' _ H' ((F.clr hpa).outX z) m
      · simp only [endX, if_neg z] at h; exact h.elim
    | bk =>
      by_cases z : (e.set i .emp).all Sl.noX = true
      · simp only [endX, if_pos z] at h; exact fun A' σ' H' F m => h A' _ H' ((F.clr hpa).outX z) m
      · simp only [endX, if_neg z] at h; exact h.elim
    | ct =>
      by_cases z : (e.set i .emp).all Sl.noX = true
      · simp only [endX, if_pos z] at h; exact fun A' σ' H' F m => h A' _ H' ((F.clr hpa).outX z) m
      · simp only [endX, if_neg z] at h; exact h.elim
    | rt d =>
      by_cases z : Fw.noX d = true ∧ ((e.set i .emp).map Fw.forget).all Sl.noX = true
      · simp only [endX, if_pos z] at h; exact fun A' σ' H' v F m q => h A' _ H' v ((F.clr hpa).forget.outX z.2) m (R.outX d z.1 q)
      · simp only [endX, if_neg z] at h; exact h.elim
    | rb ds =>
      by_cases z : noXL ds = true ∧ ((e.set i .emp).map Fw.forget).all Sl.noX = true
      · simp only [endX, if_pos z] at h
        refine fun A' σ' H' p xs F m a b c d q => h A' _ H' p xs ((F.clr hpa).forget.outX z.2) m a b (fun j s h1 b1 s1 => ?_) d (RL.outX ds z.1 q)
        obtain ⟨t, h3, rfl⟩ := map_at h1
        obtain ⟨b2, e2⟩ := fbox b1
        rcases get_set h3 with ⟨_, _, rfl⟩ | ⟨n, h4⟩
        · cases b2
        · rw [List.getElem?_set_ne n] at s1
          exact c j t h4 b2 s1
      · simp only [endX, if_neg z] at h; exact h.elim
end
/-- try: body / except X as n: suite; slot i is n's; mt: which classes the clause takes; fl: which have a field -/
def mTryAs (i : Nat) (mt : Nat → Option Bool) (hf : Nat → Bool) (b s : M Fl) : M Fl := fun e => match b e with
  | .exc c d e1 => (match mt c with
    | some true => (match e1[i]? with
      | some .emp => endX i (s (e1.set i (.val (.exn c (if hf c = true then [d] else [])))))
      | some (.val _) => endX i (s (e1.set i (.val (.exn c (if hf c = true then [d] else [])))))
      | _ => .bad)
    | some false => .exc c d e1
    | none => .bad)
  | r => r
section
variable {g : GC} {X : Cx} {W : WK}
theorem exn_r {A : Addr → Prop} {H : Hp} {c : Nat} {d : D} {a : Addr} {dd : Option Addr} {cls : Value} (hx : g.ex = none) (hf : Nat → Bool) (hc : ∀ c, (hf c = true ∧ ∃ x, g.cf c = [x]) ∨ (hf c = false ∧ g.cf c = [])) (x : ExR g A H c d cls dd) : R (g.wx (a, c, dd)) A H (.exn c (if hf c = true then [d] else [])) (.ref a) := by
  obtain ⟨_, x⟩ := x
  refine ⟨a, dd, rfl, rfl, ?_⟩
  rcases hc c with ⟨h1, n, h2⟩ | ⟨h1, h2⟩
  · rw [h2] at x
    obtain ⟨p, v, rfl, h3, r⟩ := x
    rw [if_pos h1]
    exact .inr ⟨p, [v], rfl, by rw [show (g.wx (a, c, some p)).cf c = [n] from h2]; exact h3, by rw [show (g.wx (a, c, some p)).cf c = [n] from h2]; rfl, v, [], rfl, R.inX hx d r, rfl⟩
  · rw [h2] at x
    rw [if_neg (by rw [h1]; decide)]
    exact .inl ⟨x, rfl, h2⟩
theorem cs_try_as (i : Nat) {x n : Str} {cv : Value} {mt : Nat → Option Bool} {hf : Nat → Bool} {body suite : List Stmt} {b₀ : Stmt} {np pos pos' : Pos} {mb' ms : M Fl} (hx : g.ex = none)
    (hcf : ∀ c, (hf c = true ∧ ∃ x, g.cf c = [x]) ∨ (hf c = false ∧ g.cf c = [])) (ht : ∀ c b, mt c = some b → PySem.W.exmOne X.K (.ref (g.ca c)) cv = some b)
    (hs : X.stack = X.env :: X.outer) (hfr : X.env.frame = some X.env.locals) (hN : X.N.Nodup) (hi : X.N[i]? = some n) (hln : X.env.kindOf n = some .local) (hc : Names X x cv) (tk : Takes X W)
    (hb : ∀ (W : WK) (pn : List (Addr × Obj)) (xe : Value → Shared → Prop), Takes (X.tr pn xe) W → PassesOwn (model X.prog X.w) X.A X.env xe → CB g (X.tr pn xe) W body mb')
    (hsu : ∀ (a : Addr) (oe : Obj) (c : Nat) (d : Option Addr) (pn : List (Addr × Obj)), Zc (.ref (g.ca c)) d oe → (∃ vs, oe.data = .fields vs) → CB (g.wx (a, c, d)) (X.suite a ((a, oe) :: pn)) W0 (b₀ :: suite) ms) :
    CS g X W (.Try body [.ExceptHandler (some (.Name x np)) (some n) (b₀ :: suite) pos'] [] [] pos) (mTryAs i mt hf mb' ms) := by
  refine PS.imp (ps_try_as (tb := fun W => rdS g W mb') (ts := fun a cls d D σ H => ∃ c, cls = .ref (g.ca c) ∧ rdS (g.wx (a, c, d)) W0 ms D σ H) hs hfr hN hi hln hc tk hb (fun a oe cls d pn hz hd => ?_)) fun D σ H ⟨f, A, e, F, h⟩ => ?_
  · exact ⟨fun pins s σ H D I ⟨c, ec, q⟩ => by subst ec; exact (hsu a oe c d pn hz hd).run pins s σ H D I q⟩
  · refine ⟨f, A, e, F, ?_⟩
    unfold mTryAs at h
    cases q : mb' e with
    | ok fl e1 => rw [q] at h; exact h
    | bad => rw [q] at h; exact h
    | exc c d e1 =>
      rw [q] at h
      intro A' σ' cls dd H' F' m ex
      have ecl : cls = .ref (g.ca c) := ex.1
      cases z : mt c with
      | none => simp only [z] at h; exact h.elim
      | some b =>
        refine ⟨b, by rw [ecl]; exact ht c b z, fun hb => ?_, fun hb => ?_⟩
        · subst hb
          simp only [z] at h
          intro a ha
          refine ⟨c, ecl, ?_⟩
          have key : ∀ s0 : Sl, e1[i]? = some s0 → (∀ d, s0 ≠ .pbox d) → FinS g W f A H D (endX i (ms (e1.set i (.val (.exn c (if hf c = true then [d] else [])))))) → rdS (g.wx (a, c, dd)) W0 ms (endsX i D) (σ'.set i (some (.ref a))) H' := fun s0 h0 np hh => by
            have hpa := F'.pa0 h0 np
            exact ⟨f, A', _, (F'.inX hx).setV hpa (exn_r hx hf hcf ex), fin_suite hpa (hh.from m)⟩
          cases w : e1[i]? with
          | none => simp only [w] at h; exact h.elim
          | some s0 =>
            cases s0 with
            | emp => simp only [w] at h; exact key .emp w (fun _ z => nomatch z) h
            | val d0 => simp only [w] at h; exact key (.val d0) w (fun _ z => nomatch z) h
            | box d0 => simp only [w] at h; exact h.elim
            | pbox d0 => simp only [w] at h; exact h.elim
        · subst hb
          simp only [z] at h
          exact h A' σ' cls dd H' F' m ex
end
end Fw
namespace Fw.Ex
open PySem PySem.Spec PySem.Calls PyProof.Rows PySem.W
/-- what a class of errors must say, so that isinstance may ask its instances -/
structure Isi (K : Frag) (D : Addr) : Prop where
  hg : findIn K (.ref D) "__getattribute__" = some (some (.builtin "BaseException.__getattribute__"))
  hk : findIn K (.ref D) "__getattr__" = some none
  hs : subIn K (.ref D) (.type "BaseException") = some true
  hd : hasDictIn K D = true
  ha : findIn K (.ref D) "__class__" = some (some (.builtin "object.__class__"))
  hn : specialIn K (.builtin "object.__class__") "__get__" = some (some (.builtin "getset_descriptor.__get__"))
  ht : takesIn K (.builtin "object.__class__") = some true
  hm : mroIn K D (.type "object") = some true
def isiB (K : Frag) (D : Addr) : Bool := He.eqO (findIn K (.ref D) "__getattribute__") (some (some (.builtin "BaseException.__getattribute__"))) && (He.eqO (findIn K (.ref D) "__getattr__") (some none) && (decide (subIn K (.ref D) (.type "BaseException") = some true) && (hasDictIn K D && (He.eqO (findIn K (.ref D) "__class__") (some (some (.builtin "object.__class__"))) &&
  (He.eqO (specialIn K (.builtin "object.__class__") "__get__") (some (some (.builtin "getset_descriptor.__get__"))) && (decide (takesIn K (.builtin "object.__class__") = some true) && decide (mroIn K D (.type "object") = some true)))))))
theorem isiB_ok {K : Frag} {D : Addr} (h : isiB K D = true) : Isi K D := by
  simp only [isiB, Bool.and_eq_true, decide_eq_true_eq] at h
  obtain ⟨h1, h2, h3, h4, h5, h6, h7, h8⟩ := h
  exact ⟨He.eqO_ok h1, He.eqO_ok h2, h3, h4, He.eqO_ok h5, He.eqO_ok h6, h7, h8⟩
section
variable {prog : Program} {w : World} {A : Around} {E : Value → Shared → Prop} {s : Shared} {K : Frag} {e D : Addr} {oe : Obj} {od : Option Obj}
theorem asks {Q : Option Value → Shared → Prop} (C : Isi K D) (X : K.In s.heap) (I : InstAt s.heap e oe D od) (h : Q (some (.ref D)) { s with toks := s.toks + 1 }) : wpAny (model prog w) A (getAttr? (.ref e) "__class__") Q E s := by
  have fo : findObj K D od "__class__" = some (.bind (.builtin "getset_descriptor.__get__") (.builtin "object.__class__")) := by
    obtain ⟨cd, hc, _⟩ := any_some C.hd
    unfold findObj
    rw [hc, Option.bind_some, C.ha, Option.bind_some]
    simp [C.hn, C.ht]
  obtain ⟨hp, gs, dr, tk, os⟩ := s
  have l0 := I.type (M := model prog w)
  have l1 := looks_findIn (M := model prog w) X C.hg
  have l2 := looks_findIn (M := model prog w) X C.hk
  have l3 := looks_find (M := model prog w) X I fo
  have lb : Looks (model prog w) hp (isInstance (.ref e) (.type "BaseException")) true := l0.andThen (looks_subIn X C.hs)
  have n2 : (Value.builtin "BaseException.__getattribute__" == Value.builtin "object.__getattribute__") = false := by decide +kernel
  unfold getAttr? getAttrBy? getAttrBy
  refine wpAny_bind (wpAny_mkText (wpAny_bind (wpAny_attempt (wpAny_holding (wpAny_bind (l0.at (wpAny_bind (l1.at ?_))))))))
  show wpAny _ _ (if (onTheHeap (Value.ref D) && (Value.builtin "BaseException.__getattribute__" == Value.builtin "object.__getattribute__")) = true then _ else _) _ _ _
  rw [n2, Bool.and_false, if_neg Bool.false_ne_true]
  unfold getAttrByItsOwn hookBefore
  refine wpAny_bind ?_; rw [if_pos (show onTheHeap (Value.ref D) = true from rfl)]
  refine l2.at (wpAny_bind (wpAny_attempt (wpAny_holding ?_)))
  unfold callGetattribute; rw [Bool.false_and, if_neg Bool.false_ne_true]
  unfold boundAndCalled; rw [PySem.F.excAttr_ValueError.ga.bind (.ref e)]
  refine wpAny_bind (wpAny_pure ?_)
  show wpAny _ _ (call (.builtin "BaseException.__getattribute__") [.ref e, .str "__class__" tk]) _ _ _
  refine wpAny_call (codeAny_call_builtin PySem.F.excAttr_ValueError.ga.plain PySem.F.entry_bexc_ga (@check_slot (model prog w) _ _ ⟨hp, gs, dr, tk + 1, os⟩ "BaseException.__getattribute__" "BaseException" "__getattribute__" (.ref e) [.str "__class__" tk] [] _ (by decide +kernel) (by decide +kernel) lb (PySem.F.args_bexc_ga (.ref e) (.str "__class__" tk)) ?_))
  unfold Builtin.«object.__getattribute__»
  refine wpAny_bind (wpAny_of_eq (a := ((Value.ref e : Value), [Value.str "__class__" tk])) (by first | rfl | (simp only [slotArgs]; rfl)) (wpAny_bind (wpAny_pure (wpAny_bind (l0.at (wpAny_bind (l3.at ?_)))))))
  show wpAny _ _ (holding [Value.builtin "object.__class__"] (call (.builtin "getset_descriptor.__get__") [.builtin "object.__class__", .ref e, .ref D]) >>= ret) _ _ _
  refine wpAny_bind (wpAny_holding (wpAny_call (class_get (s := ⟨hp, gs, dr, tk + 1, os⟩) (ox := oe) (od := od) X I C.hm (wpAny_pure ?_))))
  show wpAny _ _ (handedOut (.ref D)) _ _ _
  rw [handedOut_of (v := .ref D) rfl]
  first
    | exact wpAny_pure (wpAny_pure h)
    | exact wpAny_pure h
    | exact wpAny_pure (wpAny_bind (wpAny_pure (wpAny_pure h)))
theorem kitE (C : Isi K D) : KitX K (.ref e) (.ref D) (fun h => ∃ od, InstAt h e oe D od) where
  ty := fun _ _ _ ⟨_, I⟩ => I.type
  it := fun _ _ X _ => by
    obtain ⟨cd, hc, _⟩ := any_some C.hd
    unfold clsIn at hc
    split at hc
    · rename_i ho
      intro A' Q' E' s' k q
      unfold isType loadHead
      exact wpAny_bind (wpAny_loadPart (k _ _ (X _ _ ho)) (wpAny_pure q))
    · cases hc
  ne := fun h tp dd its n sl X htp => by
    obtain ⟨cd, hc, _⟩ := any_some C.hd
    refine Bool.eq_false_iff.mpr fun q => ?_
    obtain rfl : D = tp := Value.ref.inj (beq_iff_eq.mp q)
    unfold clsIn at hc
    split at hc
    · rename_i ho
      cases (X _ _ ho).symm.trans htp
    · cases hc
  ca := fun X ⟨_, I⟩ k => asks C X I k
end
end Fw.Ex
namespace Fw
open L2 PyProof.Rows PySem PySem.Spec
section
variable {g : GC} {X : Cx} {W : WK}
/-! what a suite asks of its error -/
/-- n.f; pf: the classes that keep f -/
def dFld (pf : Nat → Bool) : D → Option D
  | .exn c [d] => if pf c = true then some d else none
  | _ => none
def mXf (pf : Nat → Bool) (m : M D) : M D := mb m fun d => mo (dFld pf d)
theorem PE.never {e : Expr} : PE X e (fun _ _ _ => False) := ⟨fun _ _ _ _ _ _ h => h.elim⟩
theorem c_xf {pf : Nat → Bool} {a : Addr} {oe : Obj} {c : Nat} {d : Option Addr} {pn : List (Addr × Obj)} {e : Expr} {m : M D} {n : Str} {pos : Pos} (T : ∀ c, pf c = true → g.cf c = [n] ∧ XfC X.K (g.ca c) ∧ PySem.W.findIn X.K (.ref (g.ca c)) n = some none)
    (hz : Zc (.ref (g.ca c)) d oe) (hf : ∃ vs, oe.data = .fields vs) (he : CE (g.wx (a, c, d)) (X.suite a ((a, oe) :: pn)) W0 e m) (hb : attributeBase e n X.env (eval e X.env) = eval e X.env := by rfl) :
    CE (g.wx (a, c, d)) (X.suite a ((a, oe) :: pn)) W0 (.Attribute e n pos) (mXf pf m) := by
  cases hp : pf c with
  | true =>
    obtain ⟨hn, T1, T2⟩ := T c hp
    refine PE.imp (pe_xf T1 T2 hz hf he hb) fun σ H Q ⟨f, A, e, F, h⟩ => ?_
    refine Fin.bE h F fun d1 e1 v H1 F1 S1 r h1 => ?_
    obtain ⟨d2, q, h2⟩ := Fin.mo h1
    cases d1 with
    | exn c' ds =>
      obtain ⟨a', od, rfl, h0, h⟩ := r
      have h0 : some (a, c, d) = some (a', c', od) := h0
      cases h0
      match ds, q, h with
      | [d3], q, .inl ⟨_, z, _⟩ => cases z
      | [d3], q, .inr ⟨p, xs, ep, h3, h4, y, ys, exs, r, ey⟩ =>
        have q : (if pf c = true then some d3 else none) = some d2 := q
        rw [if_pos hp] at q
        cases q
        have ey : ys = [] := ey
        subst ey; subst exs
        have hc : (g.wx (a, c, d)).cf c = [n] := hn
        rw [hc] at h3
        exact ⟨rfl, rfl, p, _, y, ep, h3, by simp [List.lookup], h2 y H1 F1 S1 r⟩
    | _ => cases q
  | false =>
    have base : PE (X.suite a ((a, oe) :: pn)) (.Attribute e n pos) (fun σ H _ => rdE (g.wx (a, c, d)) W0 m σ H fun _ _ => False) := ⟨fun pins s σ H Q I h =>
      attr_of hb (thn (he.run pins s σ H _ I h) fun u s1 ⟨_, _, _, _, z⟩ => z.elim)⟩
    refine PE.imp base fun σ H Q ⟨f, A, e, F, h⟩ => ?_
    refine Fin.bE h F fun d1 e1 v H1 F1 S1 r h1 => ?_
    obtain ⟨d2, q, h2⟩ := Fin.mo h1
    cases d1 with
    | exn c' ds =>
      obtain ⟨a', od, rfl, h0, _⟩ := r
      have h0 : some (a, c, d) = some (a', c', od) := h0
      cases h0
      match ds, q with
      | [d3], q =>
        have q : (if pf c = true then some d3 else none) = some d2 := q
        rw [if_neg (by rw [hp]; decide)] at q
        cases q
    | _ => cases q
/-- isinstance(n, Y); is: which classes of errors are of it -/
def dIsE (is : Nat → Option Bool) : D → Option D
  | .exn c _ => (is c).map D.bl
  | _ => none
def mIsE (is : Nat → Option Bool) (m : M D) : M D := mb m fun d => mo (dIsE is d)
def rIsX (K : PySem.W.Frag) (D a : Addr) (d : Option Addr) : List V → Hp → VK → Prop := fun xs H Q => ∃ (c : V) (cv : Value) (b : Bool), xs = [.ref a, c] ∧ (d = none ∨ ∃ dd fs, d = some dd ∧ H dd = some (.xd fs)) ∧ (∀ u, RelV c u → u = cv) ∧ PySem.W.kitOne K (.ref D) cv = some b ∧ Q (.bl b) H
theorem call_isX {a D : Addr} {oe : Obj} {d : Option Addr} {pn : List (Addr × Obj)} (C : Ex.Isi X.K D) (hz : Zc (.ref D) d oe) (hf : ∃ vs, oe.data = .fields vs) : CallR (X.suite a ((a, oe) :: pn)) (.builtin "isinstance") (rIsX X.K D a d) := by
  intro pins s σ H xs us Q I r h
  obtain ⟨c, cv, b, rfl, hd, hcv, e, q⟩ := h
  cases r with
  | cons rx rr =>
    cases rr with
    | cons rt rr =>
      cases rr
      cases rx
      obtain rfl := hcv _ rt
      obtain ⟨hget, _⟩ := I.pin (a, oe) (List.mem_append.mpr (.inl List.mem_cons_self))
      obtain ⟨vs, hv⟩ := hf
      have J : ∃ od, PySem.W.InstAt s.heap a oe D od := by
        rcases hd with rfl | ⟨dd, fs, rfl, hdd⟩
        · obtain ⟨oc, od, oda, osl⟩ := oe
          obtain ⟨h1, h2⟩ := hz
          dsimp only at h1 h2 hv
          subst h1; subst h2; subst hv
          exact ⟨none, hget, rfl, rfl, trivial⟩
        · have hx : ObjOk X.prog X.w H s.heap dd (.xd fs) := I.hok dd _ hdd
          obtain ⟨mA, hns, _⟩ := hx
          obtain ⟨od, ho, _⟩ := lookIn_ns hns
          exact ⟨some od, hget, hz.1, by unfold PySem.W.notCls; rw [hv] <;> rfl, by rw [hz.2]; exact ho⟩
      exact PySem.W.kia_one (Ex.kitE C) I.kIn J e (fun z => nomatch z) fun tk => ⟨.bl b, H, I.kept (t' := tk) fun _ _ z => z, rfl, q⟩
theorem c_isE {is : Nat → Option Bool} {a : Addr} {oe : Obj} {c : Nat} {d : Option Addr} {pn : List (Addr × Obj)} {e y : Expr} {m : M D} {c0 : V} {cv : Value} {p pos : Pos} (T : ∀ c b, is c = some b → Ex.Isi X.K (g.ca c) ∧ PySem.W.kitOne X.K (.ref (g.ca c)) cv = some b) (hcv : ∀ u, RelV c0 u → u = cv)
    (hz : Zc (.ref (g.ca c)) d oe) (hf : ∃ vs, oe.data = .fields vs) (hg : Gl (X.suite a ((a, oe) :: pn)) "isinstance") (hm : (X.suite a ((a, oe) :: pn)).mg "isinstance" = none) (he : CE (g.wx (a, c, d)) (X.suite a ((a, oe) :: pn)) W0 e m) (hy : PE (X.suite a ((a, oe) :: pn)) y (tC c0))
    (hs : starEach [e, y] X.env = (false, eval e X.env) :: starEach [y] X.env := by rfl) (hs2 : starEach [y] X.env = (false, eval y X.env) :: starEach [] X.env := by rfl) (hpl : (backTo pos (starEach [y] X.env)).any (·.1) = false := by rfl) :
    CE (g.wx (a, c, d)) (X.suite a ((a, oe) :: pn)) W0 (.Call (.Name "isinstance" p) [e, y] [] pos) (mIsE is m) := by
  have PAs : PA (X.suite a ((a, oe) :: pn)) [e, y] (tCons (rdE (g.wx (a, c, d)) W0 m) (tCons (tC c0) tNil)) := pa_cons he (pa_cons hy pa_nil hs2) hs
  have inv : ∀ {f : Fx} {A : Addr → Prop} {H1 : Hp} {d1 d2 : D} {v : V}, R (g.wx (a, c, d)) A H1 d1 v → dIsE is d1 = some d2 → v = .ref a ∧ (∃ b, is c = some b ∧ d2 = .bl b) ∧ (d = none ∨ ∃ dd fs, d = some dd ∧ H1 dd = some (.xd fs)) := fun {f A H1 d1 d2 v} r q => by
    cases d1 with
    | exn c' ds =>
      obtain ⟨a', od, rfl, h0, h⟩ := r
      have h0 : some (a, c, d) = some (a', c', od) := h0
      cases h0
      obtain ⟨b, q1, q2⟩ := map_some q
      refine ⟨rfl, ⟨b, q1, q2⟩, ?_⟩
      rcases h with ⟨h, _⟩ | ⟨dd, xs, h1, h2, _⟩
      · exact .inl h
      · exact .inr ⟨dd, _, h1, h2⟩
    | _ => cases q
  cases hi : is c with
  | some b =>
    obtain ⟨T1, T2⟩ := T c b hi
    refine PE.imp (pe_callB (call_isX T1 hz hf) hg hm (by decide +kernel) PAs (by decide +kernel) (by decide +kernel) hs hpl) fun σ H Q ⟨f, A, e, F, h⟩ => ?_
    refine Fin.bE h F fun d1 e1 v H1 F1 S1 r h1 => ?_
    obtain ⟨d2, q, h2⟩ := Fin.mo h1
    obtain ⟨rfl, ⟨b', q1, rfl⟩, hd⟩ := inv (f := f) r q
    rw [hi] at q1; cases q1
    exact ⟨c0, cv, b, rfl, hd, hcv, T2, h2 _ H1 F1 S1 rfl⟩
  | none =>
    have nev : CallR (X.suite a ((a, oe) :: pn)) (.builtin "isinstance") (fun _ _ _ => False) := fun _ _ _ _ _ _ _ _ _ h => h.elim
    refine PE.imp (pe_callB nev hg hm (by decide +kernel) PAs (by decide +kernel) (by decide +kernel) hs hpl) fun σ H Q ⟨f, A, e, F, h⟩ => ?_
    refine Fin.bE h F fun d1 e1 v H1 F1 S1 r h1 => ?_
    obtain ⟨d2, q, h2⟩ := Fin.mo h1
    obtain ⟨_, ⟨b', q1, _⟩, _⟩ := inv (f := f) r q
    rw [hi] at q1; cases q1
end
end Fw
/-! ## X4. the head's facts, some of one's own -/
namespace Fw
open L2 PyProof.Rows PySem PySem.Spec
def obsX (fa : List He.Fa) (ex : List (PySem.W.Frag → Bool)) (fn : List He.DefD) (K : PySem.W.Frag) : He.AlD := ((He.obsD fa fn K).1 && ex.all fun f => f K, (He.obsD fa fn K).2)
def SaysX (fa : List He.Fa) (ex : List (PySem.W.Frag → Bool)) (fn : List He.DefD) (K : PySem.W.Frag) : Prop := obsX fa ex fn K = He.valD fn
theorem SaysX.d {fa : List He.Fa} {ex : List (PySem.W.Frag → Bool)} {fn : List He.DefD} {K : PySem.W.Frag} (c : SaysX fa ex fn K) : He.SaysD fa fn K := by
  have c1 : ((He.obsD fa fn K).1 && ex.all fun f => f K) = true := congrArg (fun z : He.AlD => z.1) c
  have c2 : (obsX fa ex fn K).2 = (He.valD fn).2 := congrArg (fun z : He.AlD => z.2) (show obsX fa ex fn K = He.valD fn from c)
  exact Prod.ext (Bool.and_eq_true_iff.mp c1).1 c2
theorem SaysX.x {fa : List He.Fa} {ex : List (PySem.W.Frag → Bool)} {fn : List He.DefD} {K : PySem.W.Frag} (c : SaysX fa ex fn K) (i : Nat) {f : PySem.W.Frag → Bool} (h : ex[i]? = some f) : f K = true := by
  have c1 : ((He.obsD fa fn K).1 && ex.all fun f => f K) = true := congrArg (fun z : He.AlD => z.1) c
  exact List.all_eq_true.mp (Bool.and_eq_true_iff.mp c1).2 f (List.mem_of_getElem? h)
def obsXG (n : Nat) (fa : List He.Fa) (ex : List (PySem.W.Frag → Bool)) (fn : List He.DefD) (g : Addr → Option Obj) : He.AlD := obsX fa ex fn (He.frG g (He.asD g n))
def hookX (n : Nat) (fa : List He.Fa) (ex : List (PySem.W.Frag → Bool)) (fn : List He.DefD) : PySem.W.Hook where
  α := He.AlD
  obs := fun s => obsXG n fa ex fn s.heap.get?
  val := fun _ => He.valD fn
  says := fun _ h => ∃ K : PySem.W.Frag, K.In h ∧ SaysX fa ex fn K
  of := fun _ _ e => ⟨_, He.frG_in, e⟩
  keeps := fun _ _ _ ⟨K, hK, c⟩ k => ⟨K, PySem.W.Frag.In.keeps hK k, c⟩
theorem obsXG_eq {n : Nat} {fa : List He.Fa} {ex : List (PySem.W.Frag → Bool)} {fn : List He.DefD} {g : Addr → Option Obj} {s : Shared} (h : ∀ a, g a = s.heap.get? a) : obsXG n fa ex fn g = (hookX n fa ex fn).obs s := by
  have e : g = s.heap.get? := funext h
  rw [e] <;> rfl
/-- what the top must say of an error's class x that keeps f, over Python's B -/
def clsB (tl : List Value) (ni : String) (K : PySem.W.Frag) (C : Addr) : Bool := match K.lookup C with
  | some ⟨.type t, _, .cls cd, sl⟩ => (match cd.mro, sl.toList with
    | .ref C' :: bm, [_, _, _, _, some (.builtin n), _] => decide (t = "type") && (decide (C' = C) && (decide (n = ni) && (!cd.hasDel && (cd.hasDict && Ex.refsT tl bm))))
    | _, _ => false)
  | _ => false
theorem clsB_ok {tl : List Value} {ni : String} {K : PySem.W.Frag} {C : Addr} (q : clsB tl ni K C = true) : ∃ nm q N bs bm sn sub ab col dd k0 k1 k2 k3 k5, K.lookup C = some (excClassObj nm q C N bs bm true sn sub ab col dd k0 k1 k2 k3 k5 ni) ∧ Ex.refsT tl bm = true := by
  unfold clsB at q
  split at q
  · rename_i t dd cd sl ho
    split at q
    · rename_i C' bm k0 k1 k2 k3 n k5 hm hs
      simp only [Bool.and_eq_true, decide_eq_true_eq, Bool.not_eq_true'] at q
      obtain ⟨rfl, rfl, rfl, hdel, hd, ht⟩ := q
      obtain ⟨nm, bs, mro, ns, qn, hd', sn, sub, ab, col, del⟩ := cd
      dsimp only at hm hdel hd
      subst hm; subst hdel; subst hd
      have hsl : sl = #[k0, k1, k2, k3, some (.builtin n), k5] := by
        obtain ⟨l⟩ := sl
        simp only at hs
        rw [hs]
      subst hsl
      exact ⟨nm, qn, ns, bs, bm, sn, sub, ab, col, dd, k0, k1, k2, k3, k5, ho, ht⟩
    · cases q
  · cases q
def errB (tl : List Value) (ni : String) (f x : Str) (K : PySem.W.Frag) : Bool := clsB tl ni K (He.ga K x) && (He.eqO (PySem.W.findIn K (.ref (He.ga K x)) "__setattr__") (some (some (.builtin "object.__setattr__"))) && (He.eqO (PySem.W.findIn K (.ref (He.ga K x)) f) (some none) &&
  (He.eqO (PySem.W.findIn K (.ref (He.ga K x)) "__init__") (some (some (.ref (He.fAd K (x, some "__init__"))))) && (decide (PySem.W.typeIn K (.ref (He.fAd K (x, some "__init__"))) = some (.type "function")) && (PySem.W.keepIn K (.ref (He.ga K x)) &&
  (decide (PySem.W.subIn K (.ref (He.ga K x)) (.type "BaseException") = some true) && decide (PySem.W.typeIn K (.ref (He.ga K x)) = some (.type "type"))))))))
/-- kitOne, exmOne -/
def kitB (x : Str) (cv : PySem.W.Frag → Value) (b : Bool) (K : PySem.W.Frag) : Bool := decide (PySem.W.kitOne K (.ref (He.ga K x)) (cv K) = some b)
def exmB (x : Str) (cv : PySem.W.Frag → Value) (b : Bool) (K : PySem.W.Frag) : Bool := decide (PySem.W.exmOne K (.ref (He.ga K x)) (cv K) = some b)
def xfNo (x f : Str) (K : PySem.W.Frag) : Bool := xfB K (He.ga K x) && He.eqO (PySem.W.findIn K (.ref (He.ga K x)) f) (some none)
def isiX (x : Str) (K : PySem.W.Frag) : Bool := Ex.isiB K (He.ga K x)
theorem txt_given {tl : List Value} {ni : String} {x qn : Str} {K : PySem.W.Frag} {fd : FuncData} {p1 p2 q1 q2 q3 q4 : Pos} (h : errB tl ni "given" x K = true) (F : L2.FunD K "__init__" qn (Ex.G.prm p1 p2) (Ex.G.bdy q1 q2 q3 q4) Ex.G.scp [] [] (He.fAd K (x, some "__init__")) fd) : Ex.G.Txt tl ni K (He.ga K x) (He.fAd K (x, some "__init__")) qn := by
  simp only [errB, Bool.and_eq_true, decide_eq_true_eq] at h
  obtain ⟨h1, h2, h3, h4, h5, h6, h7, h8⟩ := h
  exact ⟨clsB_ok h1, He.eqO_ok h2, He.eqO_ok h3, He.eqO_ok h4, h5, h6, h7, h8, fd, p1, p2, q1, q2, q3, q4, F⟩
end Fw
namespace Fw
open L2 PyProof.Rows PySem PySem.Spec
/-! ## Z1. in, of flat things -/
def flD : D → Option V
  | .non => some .non
  | .bl b => some (.bl b)
  | .int i => some (.int i)
  | .str x => some (.str x)
  | _ => none
def flL : List D → Option (List V)
  | [] => some []
  | d :: ds => match flD d with
    | some v => (match flL ds with
      | some vs => some (v :: vs)
      | none => none)
    | none => none
section
variable {g : GC} {X : Cx} {W : WK}
theorem flD_ok {A : Addr → Prop} {H : Hp} {d : D} {v x : V} (r : R g A H d v) (h : flD d = some x) : v = x ∧ flatV x = true := by
  cases d with
  | non => cases h; exact ⟨r, rfl⟩
  | bl b => cases h; exact ⟨r, rfl⟩
  | int b => cases h; exact ⟨r, rfl⟩
  | str b => cases h; exact ⟨r, rfl⟩
  | _ => cases h
theorem flL_ok {A : Addr → Prop} {H : Hp} : ∀ {ds : List D} {vs xs : List V}, RL g A H ds xs → flL ds = some vs → xs = vs ∧ vs.all flatV = true
  | [], vs, xs, r, h => by cases h; exact ⟨r, rfl⟩
  | d :: ds, vs, xs, ⟨y, ys, e, r, t⟩, h => by
    unfold flL at h
    cases q : flD d with
    | none => rw [q] at h; cases h
    | some v =>
      rw [q] at h
      cases q2 : flL ds with
      | none => rw [q2] at h; cases h
      | some ws =>
        rw [q2] at h; cases h
        obtain ⟨e1, f1⟩ := flD_ok r q
        obtain ⟨e2, f2⟩ := flL_ok t q2
        subst e1; subst e2
        exact ⟨e, by rw [List.all_cons, f1, f2]; rfl⟩
def itemsF : D → Option (List V)
  | .tup ds => flL ds
  | .lst ds => flL ds
  | .scr ns => some (ns.map V.int)
  | _ => none
def dInF (neg : Bool) (d l : D) : Option D := match flD d with
  | some x => (match itemsF l with
    | some vs => some (.bl (if neg = true then !inV x vs else inV x vs))
    | none => none)
  | none => none
theorem ints_flat (ns : List Int) : (ns.map V.int).all flatV = true := by
  rw [List.all_map]; exact List.all_eq_true.mpr fun _ _ => rfl
theorem os_inF {neg : Bool} : OS g (rIn g.K neg) (dInF neg) := fun A H d1 d2 d v1 v2 Q al r1 r2 q k => by
  unfold dInF at q
  cases q1 : flD d1 with
  | none => rw [q1] at q; cases q
  | some x =>
    simp only [q1] at q
    cases q2 : itemsF d2 with
    | none => simp only [q2] at q; cases q
    | some vs =>
      simp only [q2] at q
      cases q
      have r1' : R g A H d1 v1 := by
        cases d1 with
        | lst _ => cases q1
        | dct _ _ => cases q1
        | _ => exact r1
      obtain ⟨rfl, f1⟩ := flD_ok r1' q1
      cases d2 with
      | tup ds =>
        obtain ⟨a, xs, rfl, h, rl⟩ := r2
        obtain ⟨rfl, f2⟩ := flL_ok rl q2
        exact ⟨a, xs, rfl, .inr h, f1, f2, k _ H (Same.refl H) rfl⟩
      | lst ds =>
        obtain ⟨a, xs, rfl, h, rl⟩ := r2
        obtain ⟨rfl, f2⟩ := flL_ok rl q2
        exact ⟨a, xs, rfl, .inl (SqL.of h), f1, f2, k _ H (Same.refl H) rfl⟩
      | scr ns =>
        obtain ⟨a, rfl, h⟩ := r2
        cases q2
        exact ⟨a, _, rfl, .inl h.sq, f1, ints_flat ns, k _ H (Same.refl H) rfl⟩
      | _ => cases q2
theorem OS.or {r r' : R2} {o o' : D → D → Option D} (h : OS g r o) (h' : OS g r' o') : OS g (fun x y H Q => r x y H Q ∨ r' x y H Q) (fun a b => match o a b with
  | some d => some d
  | none => o' a b) := fun A H d1 d2 d v1 v2 Q al r1 r2 q k => by
  cases z : o d1 d2 with
  | some e => simp only [z] at q; cases q; exact .inl (h A H d1 d2 _ v1 v2 Q al r1 r2 z k)
  | none => simp only [z] at q; exact .inr (h' A H d1 d2 d v1 v2 Q al r1 r2 q k)
def dInA (a b : D) : Option D := match dInF false a b with
  | some d => some d
  | none => dIn a b
def dNotInA (a b : D) : Option D := match dInF true a b with
  | some d => some d
  | none => dNotIn a b
theorem or_in (hu : X.A.units + 65 < cLine) : OpR X (compareOp .In) (fun x y H Q => rIn X.K false x y H Q ∨ rInD X.K x y H Q) := OpR.or op_in_seq (op_inD hu)
theorem or_notin (hu : X.A.units + 65 < cLine) : OpR X (compareOp .NotIn) (fun x y H Q => rIn X.K true x y H Q ∨ rNotInD X.K x y H Q) := OpR.or op_notIn_seq (op_notInD hu)
theorem os_inA : OS g (fun x y H Q => rIn g.K false x y H Q ∨ rInD g.K x y H Q) dInA := OS.or os_inF os_in
theorem os_notinA : OS g (fun x y H Q => rIn g.K true x y H Q ∨ rNotInD g.K x y H Q) dNotInA := OS.or os_inF os_notin
end
end Fw
/-! star displays, xs[::-1], sorted of a tuple -/
namespace L2
open PySem PySem.Spec PyProof.Rows
section
variable {X : Cx} {e st : Expr} {te ts : TE} {p2 pos : Pos}
/-- xs[::-1] of a list -/
def rRevL (K : PySem.W.Frag) : R2 := fun x y H Q => ∃ a xs, x = .ref a ∧ y = .int (-1) ∧ SqL K H a xs ∧ ∀ p, H p = none → Q (.ref p) (upd H p (.lst xs.reverse))
theorem pe_rev (he : PE X e te) (hs : PE X st ts) : PE X (.Subscript e (.Slice none none (some st) p2) pos) (tOp (rRevL X.K) te ts) := by
  refine ⟨fun pins s σ H Q I h => ?_⟩
  refine Subscript_ (thn (he.run pins s σ H _ I h) fun v s1 ⟨x, H1, I1, r1, q1⟩ => ?_)
  refine wpAny_Slice ?_
  rw [evalPart_none, evalPart_some]
  refine wpAny_pure (wpAny_pure ?_)
  refine thn (hs.run pins s1 σ H1 _ I1 q1) fun vl s3 ⟨y, H3, I3, ry, q3⟩ => ?_
  obtain ⟨a, xs, rfl, rfl, hx, q⟩ := q3
  obtain rfl : v = Value.ref a := r1
  obtain ⟨t, rfl⟩ := ry
  have I4 : Inv X pins σ H3 { s3 with heap := s3.heap.push { cls := .type "slice", data := .fields #[.none, .none, .int (-1) t] } } := I3.kept (t' := s3.toks) fun b ob q => Heap.get?_push_of_some _ q
  obtain ⟨its, r, ht, hz⟩ := I4.list hx
  have hlen := r.length
  show wpAny (model X.prog X.w) X.A (subscriptTail e (.Slice none none (some st) p2) (.ref a) (.ref s3.heap.objs.size)) (EP X pins σ Q) X.xe { s3 with heap := s3.heap.push { cls := .type "slice", data := .fields #[.none, .none, .int (-1) t] } }
  refine tail_any (ops := [.ref a, .ref s3.heap.objs.size]) ht.isList.typeIs slot_list_getitem.lookup ?_ (by with_unfolding_all rfl)
  refine wpAny_getItem_list_slice ht.isList (Heap.IsSliceOf.new ..) .none .none (.int (-1) t) (by decide) ?_ (by rw [List.size_toArray] <;> omega)
  rw [PySem.W.krv_pick]
  refine ⟨.ref _, _, I4.laid (t' := s3.toks) (o := .lst xs.reverse) (fun b ob q => Heap.get?_push_of_some _ q) (Nat.le_refl _) ?_, rfl, q _ (I4.hok.fresh (Nat.le_refl _))⟩
  refine ⟨by rw [List.length_reverse]; exact hz, its.reverse, 0, r.reverse, ?_⟩
  have e : its.toArray.toList.reverse.toArray = its.reverse.toArray := by simp
  rw [e]
  exact Heap.get?_push_size _ rfl
/-- sorted(t), a tuple of ints -/
def rSortedTp (K : PySem.W.Frag) : List V → Hp → VK → Prop := fun vs H Q => ∃ (a : Addr) (ns : List Int), vs = [V.ref a] ∧ SqT K H a (ns.map V.int) ∧
  ∀ (ns' : List Int) (p : Addr), ns'.Perm ns → ns'.Pairwise (· ≤ ·) → H p = none → Q (.ref p) (upd H p (.lst (ns'.map V.int)))
theorem cr_sortedTp : CallR X (.builtin "sorted") (rSortedTp X.K) := by
  intro pins s σ H vs us Q I r h
  obtain ⟨a, ns, rfl, hs, q⟩ := h
  obtain ⟨its, rv, ht, hz⟩ := I.tuple hs
  rw [Vals.ref1 r]
  have hi := rv.ints
  have hz' : its.length ≤ sizeLine := by rw [← rv.length]; exact hz
  obtain ⟨o, ho, hc, n, hd⟩ := ht
  refine Calls.call_function_entry kind_sorted plain_sorted entry_sorted (args_sorted1 _) ?_
  unfold Builtin.«sorted»
  refine wpAny_bind (m := checkCount "sorted" 1 1 _) (wpAny_pure ?_)
  refine wpAny_bind (wpAny_collect_seq a (.inr rfl) ho hc hd (fun h' hk => ?_) (by rw [List.size_toArray]; exact hz'))
  have e : its.toArray.toList = its := by simp
  rw [e]
  refine wpAny_bind (wpAny_newList ?_ hz')
  have I2 : Inv X pins σ H { s with heap := h' } := I.kept (t' := s.toks) hk
  have hoL : (h'.push (seqObj "list" its.toArray 0)).get? h'.objs.size = some (seqObj "list" its.toArray 0) := Heap.get?_push_size _ rfl
  refine wpAny_bind (wpAny_holding (wpAny_call_entry slot_list_sort ⟨_, hoL, rfl⟩ entry_list_sort (SrtO.list_sort_ord SrtO.swo_int hoL hz' (fun h2 => SrtO.ints_sortable hi h2) fun out h1 h2 => ⟨_, rfl, ?_⟩) (args_list_sort _)))
  obtain ⟨k1, k2, k3⟩ := SrtO.ints_out hi h1 h2
  obtain ⟨ep, he'⟩ := PyProof.Rows.sortedHeap_at (vs := its) (out := out.toArray) hoL
  have hlen : ((out.map SrtO.iv).map V.int).length ≤ sizeLine := by
    rw [List.length_map, k2.length_eq]
    rw [List.length_map] at hz
    exact hz
  refine wpAny_pure ⟨_, rfl, ?_⟩
  refine ⟨.ref _, upd H h'.objs.size (.lst ((out.map SrtO.iv).map V.int)), I2.laid (t' := s.toks) (fun b u hu => ?_) (Nat.le_refl _) ⟨hlen, out, ep, vals_of_ints k1, he'⟩, rfl, q _ _ k2 k3 (I2.hok.fresh (Nat.le_refl _))⟩
  have hu' : h'.get? b = some u := hu
  have hlt := Heap.lt_size hu'
  rw [PyProof.Rows.sortedHeap_old (Nat.ne_of_lt hlt) (by rw [size_push']; exact Nat.lt_succ_of_lt hlt)]
  exact Heap.get?_push_of_some _ hu'
end
end L2
namespace Fw
open L2 PyProof.Rows PySem PySem.Spec
section
variable {g : GC} {X : Cx} {W : WK} {a : Expr} {pos : Pos}
def mStar (m : M D) (r : M (List D)) : M (List D) := mb m fun d => mb (mo (dList d)) fun ds => mb r fun ys => mp (ds ++ ys)
theorem ca_star {es : List Expr} {m : M D} {m' : M (List D)} {p : Pos} (hK : X.K = g.K) (ha : CE g X W a m) (hr : CA g X W es m') (hs : starEach (.Starred a p :: es) X.env = (true, eval a X.env) :: starEach es X.env := by rfl) : CA g X W (.Starred a p :: es) (mStar m m') :=
  PA.imp (StX.pa_star ha hr hs) fun σ H Q ⟨f, A, e, F, h⟩ => by
    rw [hK]
    refine Fin.bE h F fun d1 e1 v1 H1 F1 S1 R1 h1 => ?_
    obtain ⟨ds, q, h2⟩ := Fin.mo2 h1
    have fin : ∀ (b : Addr) (xs : List V), v1 = .ref b → (SqT g.K H1 b xs ∨ SqL g.K H1 b xs) → RL g A H1 ds xs → ∃ p xs, v1 = V.ref p ∧ (SqT g.K H1 p xs ∨ SqL g.K H1 p xs) ∧ rdA g W m' σ H1 fun ys H2 => Q (xs ++ ys) H2 := fun b xs ev hq rl => by
      refine ⟨b, xs, ev, hq, ?_⟩
      refine Fin.bA h2 F1 fun d2 e2 v2 H2 F2 S2 R2 h3 => ?_
      exact h3 (xs ++ v2) H2 F2 (S1.trans S2) (RL.append (F1.rl S2 rl) R2)
    have r := R1.rt
    cases d1 with
    | lst ds => cases q; obtain ⟨b, xs, ev, h1, rl⟩ := r; exact fin b xs ev (.inr (SqL.of h1)) rl
    | tup ds => cases q; obtain ⟨b, xs, ev, h1, rl⟩ := r; exact fin b xs ev (.inl h1) rl
    | scr ns => cases q; obtain ⟨b, ev, h1⟩ := r; exact fin b _ ev (.inr h1.sq) (RL.ints ns)
    | _ => cases q
theorem RL.reverse {A : Addr → Prop} {H : Hp} : ∀ {ds : List D} {xs : List V}, RL g A H ds xs → RL g A H ds.reverse xs.reverse
  | [], _, e => by rw [show _ = [] from e]; exact rfl
  | d :: ds, _, ⟨y, ys, e, r, t⟩ => by rw [e, List.reverse_cons, List.reverse_cons]; exact RL.append (RL.reverse t) ⟨y, [], rfl, r, rfl⟩
def dRev : D → D → Option (List D)
  | .lst ds, .int i => if i = -1 then some ds.reverse else none
  | _, _ => none
theorem fs_rev : FS2 g (rRevL g.K) dRev := fun A H d1 d2 es v1 v2 Q al r1 r2 q k => by
  cases d1 with
  | lst xs => cases d2 with
    | int i =>
      simp only [dRev] at q
      by_cases z : i = -1
      · rw [if_pos z] at q; cases q
        obtain ⟨a, us, rfl, h1, l1⟩ := r1
        subst z
        exact ⟨a, us, rfl, r2, SqL.of h1, fun p hp => k p _ hp (RL.reverse l1)⟩
      · rw [if_neg z] at q; cases q
    | _ => cases q
  | _ => cases q
theorem cf_rev {st : Expr} {oa ob : Od} {p2 : Pos} (hK : X.K = g.K) (ha : CO g X W a oa) (hb : CO g X W st ob) : CF g X W (.Subscript a (.Slice none none (some st) p2) pos) (mOpF dRev oa ob) :=
  PE.imp (pe_rev ha hb) (by rw [hK]; exact t_opF fs_rev)
def dSortedT : D → Option (List D)
  | .tup ds => (intsD ds).map fun ns => (sortI ns).map D.int
  | _ => none
theorem RL.int_inv {A : Addr → Prop} {H : Hp} : ∀ {ns : List Int} {xs : List V}, RL g A H (ns.map D.int) xs → xs = ns.map V.int
  | [], _, e => e
  | n :: ns, _, ⟨y, ys, e, r, t⟩ => by rw [e, RL.int_inv t, List.map_cons]; exact congrArg (· :: _) r
theorem fs_sortedT : FS g (rSortedTp g.K) (op1 dSortedT) := fs1 fun A H d es v Q al r q k => by
  cases d with
  | tup ds =>
    obtain ⟨ns, z, rfl⟩ := map_some (show (intsD ds).map (fun ns => (sortI ns).map D.int) = some es from q)
    obtain ⟨a, xs, rfl, h, rl⟩ := r
    rw [intsD_eq z] at rl
    rw [RL.int_inv rl] at h
    refine ⟨a, ns, rfl, h, fun ns' p h1 h2 hp => ?_⟩
    have e : ns' = sortI ns := sorted_uniq (h1.trans (sortI_perm ns).symm) h2 (sortI_sorted ns)
    exact k p _ _ hp (Same.new hp) upd_only upd_same (by rw [e]; exact RL.ints _)
  | _ => cases q
def dSortedA (d : D) : Option (List D) := match d with
  | .tup _ => dSortedT d
  | _ => dSorted d
abbrev rSortedA (K : PySem.W.Frag) : List V → Hp → VK → Prop := fun vs H Q => rSortedI K vs H Q ∨ rSortedTp K vs H Q
theorem cr_sortedA {X : Cx} : CallR X (.builtin "sorted") (rSortedA X.K) := fun pins s σ H vs us Q I r h => by
  rcases h with h | h
  · exact cr_sortedI pins s σ H vs us Q I r h
  · exact cr_sortedTp pins s σ H vs us Q I r h
theorem fs_sortedA : FS g (rSortedA g.K) (op1 dSortedA) := fs1 fun A H d es v Q al r q k => by
  cases d with
  | tup ds => exact .inr (fs_sortedT A H [.tup ds] es [v] Q al ⟨v, [], rfl, r, rfl⟩ q k)
  | lst ds => exact .inl (fs_sorted A H [.lst ds] es [v] Q al ⟨v, [], rfl, r, rfl⟩ q k)
  | scr ds => exact .inl (fs_sorted A H [.scr ds] es [v] Q al ⟨v, [], rfl, r, rfl⟩ q k)
  | _ => cases q
end
end Fw
namespace Fw
open L2 PyProof.Rows PySem PySem.Spec
def m_is_integer (n : Nat) : M Fl :=
  (mRet (mAndV (mCB (op2 dIsi) [(.e (mVar 0)), (.e (mC (.ty "int")))]) (mNotV (.e (mCB (op2 dIsi) [(.e (mVar 0)), (.e (mC (.ty "bool")))])))))
def f_is_integer (n : Nat) : Fn := mkFn 1 1 (m_is_integer n)
def m_is_between (n : Nat) : M Fl :=
  (mRet (mAndV (mCv 1 (f_is_integer n) [(.e (mVar 0))]) (mChain dLe dLe (.e (mVar 1)) (.e (mVar 0)) (.e (mVar 2)))))
def f_is_between (n : Nat) : Fn := mkFn 3 3 (m_is_between n)
def m_check_many (n : Nat) : M Fl :=
  (mIf (mNot (mTru (.e (mCv 3 (f_is_between n) [(.e (mVar 0)), (.e (mC (.int 2))), (.e (mC (.int 4)))]))))
    (fun _ => .bad)
    (mp .nx))
def f_check_many (n : Nat) : Fn := mkFn 1 1 (m_check_many n)
def m_check_sum (n : Nat) : M Fl :=
  (mIf (mNot (mTru (.e (mCv 3 (f_is_between n) [(.e (mVar 0)), (.e (mVar 1)), (.e (mC (.int 10000)))]))))
    (fun _ => .bad)
    (mp .nx))
def f_check_sum (n : Nat) : Fn := mkFn 2 2 (m_check_sum n)
def c_divisors_of_1 (n : Nat) : M Bool :=
  (mCmp dLe (.e (mOp dMul (.e (mVar 3)) (.e (mVar 3)))) (.e (mVar 0)))
def b_divisors_of_1 (n : Nat) : M Fl :=
  (mSq (mIf (mCmp dEq (.e (mOp dMod (.e (mVar 0)) (.e (mVar 3)))) (.e (mC (.int 0))))
    (mSq (mEx (mApp 1 (mVar 3)))
    (mIf (mCmp dNe (.e (mOp dMul (.e (mVar 3)) (.e (mVar 3)))) (.e (mVar 0)))
    (mEx (mApp 2 (mOp dFdiv (.e (mVar 0)) (.e (mVar 3)))))
    (mp .nx)))
    (mp .nx))
    (mAug 3 dIAdd (mC (.int 1))))
def m_divisors_of (n : Nat) : M Fl :=
  (mSq (mPar [1, 2, 3] [.f (mLst mNil), .f (mLst mNil), .e (mC (.int 1))])
    (mSq (mWh (c_divisors_of_1 n)
    (b_divisors_of_1 n) n)
    (mRetF (mOpF dCat (.n 1) (.e (mFr (mOpF dRev (.n 2) (.e (mUn dNeg (.e (mC (.int 1))))))))))))
def f_divisors_of (n : Nat) : Fn := mkFn 1 4 (m_divisors_of n)
def b_count_two_1 (n : Nat) : M Fl :=
  (mIf (mCmp dEq (.e (mOp dMod (.e (mVar 2)) (.e (mC (.int 2))))) (.e (mC (.int 1))))
    (mAug 1 dIAdd (mIf (mCmp dEq (.e (mOp dMod (.e (mVar 2)) (.e (mC (.int 4))))) (.e (mC (.int 1)))) (mC (.int 4)) (mUn dNeg (.e (mC (.int 4))))))
    (mp .nx))
def m_count_two (n : Nat) : M Fl :=
  (mSq (mIf (mCmp dEq (.e (mVar 0)) (.e (mC (.int 0))))
    (mRet (mC (.int 1)))
    (mp .nx))
    (mSq (mSet 1 (mC (.int 0)))
    (mSq (mFor (mIt (mFr (mCl 1 (f_divisors_of n) [(.e (mVar 0))]))) (Fw.setV 2)
    (b_count_two_1 n))
    (mRet (mVar 1)))))
def f_count_two (n : Nat) : Fn := mkFn 1 3 (m_count_two n)
def m_count_four (n : Nat) : M Fl :=
  (mSq (mIf (mCmp dEq (.e (mVar 0)) (.e (mC (.int 0))))
    (mRet (mC (.int 1)))
    (mp .nx))
    (mRet (mOp dMul (.e (mC (.int 8))) (.e (mCB (op1 dSum) [(.e (mFr (mLc (mIt (mFr (mCl 1 (f_divisors_of n) [(.e (mVar 0))]))) [1] (Fw.setV 1) (mCmp dNe (.e (mOp dMod (.e (mVar 1)) (.e (mC (.int 4))))) (.e (mC (.int 0)))) (mVar 1))))])))))
def f_count_four (n : Nat) : Fn := mkFn 1 2 (m_count_four n)
def c_root_of_1 (n : Nat) : M Bool :=
  (mCmp dLe (.e (mOp dMul (.e (mVar 2)) (.e (mVar 2)))) (.e (mVar 0)))
def b_root_of_1 (n : Nat) : M Fl :=
  (mSet 2 (mOp dMul (.e (mC (.int 2))) (.e (mVar 2))))
def c_root_of_2 (n : Nat) : M Bool :=
  (mCmp dGt (.e (mOp dSub (.e (mVar 2)) (.e (mVar 1)))) (.e (mC (.int 1))))
def b_root_of_2 (n : Nat) : M Fl :=
  (mSq (mSet 3 (mOp dFdiv (.e (mOp dAdd (.e (mVar 1)) (.e (mVar 2)))) (.e (mC (.int 2)))))
    (mIf (mCmp dLe (.e (mOp dMul (.e (mVar 3)) (.e (mVar 3)))) (.e (mVar 0)))
    (mSet 1 (mVar 3))
    (mSet 2 (mVar 3))))
def m_root_of (n : Nat) : M Fl :=
  (mSq (mAsg (mTup (mCons (mC (.int 0)) (mCons (mC (.int 1)) mNil))) (gTupD 2 (gsCons (Fw.setV 1) (gsCons (Fw.setV 2) gsNil))))
    (mSq (mWh (c_root_of_1 n)
    (b_root_of_1 n) n)
    (mSq (mWh (c_root_of_2 n)
    (b_root_of_2 n) n)
    (mRet (mVar 1)))))
def f_root_of (n : Nat) : Fn := mkFn 1 4 (m_root_of n)
def m_count_three (n : Nat) : M Fl :=
  (mSq (mSet 1 (mCv 1 (f_root_of n) [(.e (mVar 0))]))
    (mRet (mCB (op1 dSum) [(.e (mFr (mLc (mIA dR2 [(.e (mUn dNeg (.e (mVar 1)))), (.e (mOp dAdd (.e (mVar 1)) (.e (mC (.int 1)))))]) [2] (Fw.setV 2) (mp true) (mCv 1 (f_count_two n) [(.e (mOp dSub (.e (mVar 0)) (.e (mOp dMul (.e (mVar 2)) (.e (mVar 2))))))]))))])))
def f_count_three (n : Nat) : Fn := mkFn 1 3 (m_count_three n)
def m_count_squares (n : Nat) : M Fl :=
  (mSq (mEx (mCv 1 (f_check_many n) [(.e (mVar 0))]))
    (mSq (mEx (mCv 2 (f_check_sum n) [(.e (mVar 1)), (.e (mC (.int 0)))]))
    (mSq (mIf (mCmp dEq (.e (mVar 0)) (.e (mC (.int 2))))
    (mRet (mCv 1 (f_count_two n) [(.e (mVar 1))]))
    (mp .nx))
    (mRet (mIf (mCmp dEq (.e (mVar 0)) (.e (mC (.int 4)))) (mCv 1 (f_count_four n) [(.e (mVar 1))]) (mCv 1 (f_count_three n) [(.e (mVar 1))]))))))
def f_count_squares (n : Nat) : Fn := mkFn 2 2 (m_count_squares n)
def m_is_square (n : Nat) : M Fl :=
  (mRet (mAndV (mOp dGe (.e (mVar 0)) (.e (mC (.int 0)))) (mOp dEq (.e (mOp dMul (.e (mCv 1 (f_root_of n) [(.e (mVar 0))])) (.e (mCv 1 (f_root_of n) [(.e (mVar 0))])))) (.e (mVar 0)))))
def f_is_square (n : Nat) : Fn := mkFn 1 1 (m_is_square n)
def c_found_squares_1 (n : Nat) (self : Fn) : M Bool :=
  (mCmp dLe (.e (mOp dMul (.e (mOp dMul (.e (mVar 0)) (.e (mVar 3)))) (.e (mVar 3)))) (.e (mVar 1)))
def b_found_squares_1 (n : Nat) (self : Fn) : M Fl :=
  (mSq (mSet 4 (mCv 3 self [(.e (mOp dSub (.e (mVar 0)) (.e (mC (.int 1))))), (.e (mOp dSub (.e (mVar 1)) (.e (mOp dMul (.e (mVar 3)) (.e (mVar 3)))))), (.e (mVar 3))]))
    (mSq (mIf (mNotNT (.e (mVar 4)))
    (mRet (mTup (mCons (mVar 3) (mStar (mVar 4) mNil))))
    (mp .nx))
    (mAug 3 dIAdd (mC (.int 1)))))
def m_found_squares (n : Nat) (self : Fn) : M Fl :=
  (mSq (mIf (mCmp dEq (.e (mVar 0)) (.e (mC (.int 1))))
    (mRet (mIf (mAnd (mTru (.e (mCv 1 (f_is_square n) [(.e (mVar 1))]))) (mCmp dGe (.e (mCv 1 (f_root_of n) [(.e (mVar 1))])) (.e (mVar 2)))) (mTup (mCons (mCv 1 (f_root_of n) [(.e (mVar 1))]) mNil)) (mC .non)))
    (mp .nx))
    (mSq (mIf (mAnd (mCmp dEq (.e (mVar 0)) (.e (mC (.int 2)))) (mCmp dEq (.e (mCv 1 (f_count_two n) [(.e (mVar 1))])) (.e (mC (.int 0)))))
    (mRet (mC .non))
    (mp .nx))
    (mSq (mSet 3 (mVar 2))
    (mSq (mWh (c_found_squares_1 n self)
    (b_found_squares_1 n self) n)
    (mRet (mC .non))))))
def f_found_squares (n : Nat) : Nat → Fn
  | 0 => mkFn 3 5 (fun _ => .bad)
  | k + 1 => mkFn 3 5 (m_found_squares n (f_found_squares n k))
def m_squares_for (n : Nat) : M Fl :=
  (mSq (mEx (mCv 1 (f_check_many n) [(.e (mVar 0))]))
    (mSq (mEx (mCv 2 (f_check_sum n) [(.e (mVar 1)), (.e (mC (.int 0)))]))
    (mRet (mCv 3 (f_found_squares n 4) [(.e (mVar 0)), (.e (mVar 1)), (.e (mC (.int 0)))]))))
def f_squares_for (n : Nat) : Fn := mkFn 2 2 (m_squares_for n)
def m__law_dip (n : Nat) : M Fl :=
  (mSq (mAsg (mOp dAdd (.e (mOp dIx (.n 0) (.e (mC (.int 2))))) (.e (mC (.int 1)))) (gSt 0 (mC (.int 2))))
    (mSq (mIf (mCmp dGt (.e (mOp dIx (.n 0) (.e (mC (.int 0))))) (.e (mC (.int 0))))
    (mSq (mAsg (mCB (op2 dDivmod) [(.e (mOp dIx (.n 0) (.e (mC (.int 0))))), (.e (mVar 1))]) (gTupD 2 (gsCons (gSt 0 (mC (.int 0))) (gsCons (Fw.setV 2) gsNil))))
    (mRet (mVar 2)))
    (mp .nx))
    (mSq (mSet 3 (mOp dAdd (.e (mC (.int 20011))) (.e (mOp dMul (.e (mC (.int 2))) (.e (mOp dIx (.n 0) (.e (mC (.int 2)))))))))
    (mSq (mAsg (mOp dMod (.e (mCB (op1 dInt) [(.e (mOp dAdd (.e (mOp dAdd (.e (mOp dMul (.e (mOp dIx (.n 0) (.e (mC (.int 1))))) (.e (mVar 3)))) (.e (mOp dMul (.e (mC (.int 70001))) (.e (mOp dIx (.n 0) (.e (mC (.int 2))))))))) (.e (mC (.int 1)))))])) (.e (mC (.int 2147483399)))) (gSt 0 (mC (.int 1))))
    (mRet (mOp dMod (.e (mCB (op1 dInt) [(.e (mOp dFdiv (.e (mOp dIx (.n 0) (.e (mC (.int 1))))) (.e (mC (.int 640)))))])) (.e (mVar 1))))))))
def f__law_dip (n : Nat) : Fn := mkFn 2 4 (m__law_dip n)
def b__law_counts_1 (n : Nat) : M Fl :=
  (mIf (mCmp dLe (.e (mOp dMul (.e (mVar 2)) (.e (mVar 2)))) (.e (mVar 0)))
    (mAsg (mOp dAdd (.e (mOp dIx (.n 1) (.e (mOp dMul (.e (mVar 2)) (.e (mVar 2)))))) (.e (mC (.int 1)))) (gSt 1 (mOp dMul (.e (mVar 2)) (.e (mVar 2)))))
    (mp .nx))
def b__law_counts_2 (n : Nat) : M Fl :=
  (mSq (mSet 7 (mOp dMul (.e (mOp dIx (.n 1) (.e (mVar 2)))) (.e (mOp dIx (.e (mOp dIx (.n 3) (.e (mUn dNeg (.e (mC (.int 1))))))) (.e (mVar 6))))))
    (mAsg (mOp dAdd (.e (mOp dIx (.n 5) (.e (mOp dAdd (.e (mVar 2)) (.e (mVar 6)))))) (.e (mVar 7))) (gSt 5 (mOp dAdd (.e (mVar 2)) (.e (mVar 6))))))
def b__law_counts_3 (n : Nat) : M Fl :=
  (mIf (mCmp dGt (.e (mOp dIx (.n 1) (.e (mVar 2)))) (.e (mC (.int 0))))
    (mFor (mIA dR1 [(.e (mOp dSub (.e (mOp dAdd (.e (mVar 0)) (.e (mC (.int 1))))) (.e (mVar 2))))]) (Fw.setV 6)
    (b__law_counts_2 n))
    (mp .nx))
def b__law_counts_4 (n : Nat) : M Fl :=
  (mSq (mSetB 5 (mOpF dRep (.e (mFr (mLst (mCons (mC (.int 0)) mNil)))) (.e (mOp dAdd (.e (mVar 0)) (.e (mC (.int 1)))))))
    (mSq (mFor (mIA dR1 [(.e (mOp dAdd (.e (mVar 0)) (.e (mC (.int 1)))))]) (Fw.setV 2)
    (b__law_counts_3 n))
    (mUb 5 (mEx (mApp 3 (mVar 5))))))
def m__law_counts (n : Nat) : M Fl :=
  (mSq (mSetB 1 (mOpF dRep (.e (mFr (mLst (mCons (mC (.int 0)) mNil)))) (.e (mOp dAdd (.e (mVar 0)) (.e (mC (.int 1)))))))
    (mSq (mFor (mIA dR2 [(.e (mOp dSub (.e (mC (.int 0))) (.e (mVar 0)))), (.e (mOp dAdd (.e (mVar 0)) (.e (mC (.int 1)))))]) (Fw.setV 2)
    (b__law_counts_1 n))
    (mUb 1 (mSq (mSetB 3 (mLst (mCons (mVar 1) mNil)))
    (mSq (mFor (mIA dR1 [(.e (mC (.int 3)))]) (Fw.setV 4)
    (b__law_counts_4 n))
    (mRetF (mSl (.n 3) (some (mC (.int 1))) none dCutL)))))))
def f__law_counts (n : Nat) : Fn := mkFn 1 8 (m__law_counts n)
def c__law_divisors_1 (n : Nat) : M Bool :=
  (mCmp dLe (.e (mOp dMul (.e (mVar 2)) (.e (mVar 2)))) (.e (mVar 0)))
def b__law_divisors_1 (n : Nat) : M Fl :=
  (mSq (mIf (mCmp dEq (.e (mOp dMod (.e (mCB (op1 dInt) [(.e (mVar 0))])) (.e (mVar 2)))) (.e (mC (.int 0))))
    (mSq (mEx (mApp 1 (mVar 2)))
    (mIf (mCmp dNe (.e (mOp dMul (.e (mVar 2)) (.e (mVar 2)))) (.e (mVar 0)))
    (mEx (mApp 1 (mOp dFdiv (.e (mVar 0)) (.e (mVar 2)))))
    (mp .nx)))
    (mp .nx))
    (mSet 2 (mOp dAdd (.e (mVar 2)) (.e (mC (.int 1))))))
def m__law_divisors (n : Nat) : M Fl :=
  (mSq (mSetB 1 (mLst mNil))
    (mSq (mSet 2 (mC (.int 1)))
    (mSq (mWh (c__law_divisors_1 n)
    (b__law_divisors_1 n) n)
    (mRetB 1))))
def f__law_divisors (n : Nat) : Fn := mkFn 1 3 (m__law_divisors n)
def c__law_shared_1 (n : Nat) : M Bool :=
  (mCmp dGt (.e (mVar 1)) (.e (mC (.int 0))))
def b__law_shared_1 (n : Nat) : M Fl :=
  (mPar [0, 1] [.e (mVar 1), .e (mOp dMod (.e (mCB (op1 dInt) [(.e (mVar 0))])) (.e (mCB (op1 dInt) [(.e (mVar 1))])))])
def m__law_shared (n : Nat) : M Fl :=
  (mSq (mPar [0, 1] [.e (mCB (op1 dAbs) [(.e (mVar 0))]), .e (mCB (op1 dAbs) [(.e (mVar 1))])])
    (mSq (mWh (c__law_shared_1 n)
    (b__law_shared_1 n) n)
    (mRet (mVar 0))))
def f__law_shared (n : Nat) : Fn := mkFn 2 2 (m__law_shared n)
def c__law_is_three_1 (n : Nat) : M Bool :=
  (mAnd (mCmp dGt (.e (mVar 0)) (.e (mC (.int 0)))) (mCmp dEq (.e (mOp dMod (.e (mCB (op1 dInt) [(.e (mVar 0))])) (.e (mC (.int 4))))) (.e (mC (.int 0)))))
def b__law_is_three_1 (n : Nat) : M Fl :=
  (mSet 0 (mOp dFdiv (.e (mVar 0)) (.e (mC (.int 4)))))
def m__law_is_three (n : Nat) : M Fl :=
  (mSq (mWh (c__law_is_three_1 n)
    (b__law_is_three_1 n) n)
    (mRet (mOp dNe (.e (mOp dMod (.e (mCB (op1 dInt) [(.e (mVar 0))])) (.e (mC (.int 8))))) (.e (mC (.int 7))))))
def f__law_is_three (n : Nat) : Fn := mkFn 1 1 (m__law_is_three n)
def m__law_found_right (n : Nat) : M Fl :=
  (mSq (mSet 3 (mCv 2 (f_squares_for n) [(.e (mVar 0)), (.e (mVar 1))]))
    (mSq (mIf (mOr (mCmp dNe (.e (mCvP 2 (f_squares_for n) [1, 0] [(.e (mVar 1)), (.e (mVar 0))])) (.e (mVar 3))) (mCmp dNe (.e (mNotN (.e (mVar 3)))) (.e (mVar 2))))
    (mRet (mC (.bl false)))
    (mp .nx))
    (mSq (mIf (mIsNT (.e (mVar 3)))
    (mRet (mC (.bl true)))
    (mp .nx))
    (mSq (mIf (mOr (mNot (mTru (.e (mCB (op2 dIsi) [(.e (mVar 3)), (.e (mC (.ty "tuple")))])))) (mOr (mCmp dNe (.e (mCB (op1 dLen) [(.e (mVar 3))])) (.e (mVar 0))) (mOr (mCmp dNe (.e (mFr (mCF (op1 dList) [(.e (mVar 3))]))) (.e (mFr (mCF (op1 dSortedA) [(.e (mVar 3))])))) (mCmp dLt (.e (mOp dIx (.e (mVar 3)) (.e (mC (.int 0))))) (.e (mC (.int 0)))))))
    (mRet (mC (.bl false)))
    (mp .nx))
    (mRet (mOp dEq (.e (mCB (op1 dSum) [(.e (mFr (mLc (mIt (mVar 3)) [4] (Fw.setV 4) (mp true) (mOp dMul (.e (mVar 4)) (.e (mVar 4))))))])) (.e (mVar 1))))))))
def f__law_found_right (n : Nat) : Fn := mkFn 3 5 (m__law_found_right n)
def m__law_one_of (n : Nat) : M Fl :=
  (mRet (mOp dIx (.e (mVar 1)) (.e (mCv 2 (f__law_dip n) [(.n 0), (.e (mCB (op1 dLen) [(.e (mVar 1))]))]))))
def f__law_one_of (n : Nat) : Fn := mkFn 2 2 (m__law_one_of n)
def b__law_right_1 (n : Nat) : M Fl :=
  (mSq (mIf (mCmp dNe (.e (mFr (mLc (mIA dR1 [(.e (mOp dAdd (.e (mVar 1)) (.e (mC (.int 1)))))]) [14] (Fw.setV 14) (mp true) (mCv 2 (f_count_squares n) [(.e (mVar 3)), (.e (mVar 14))])))) (.e (mOp dIx (.e (mVar 2)) (.e (mOp dSub (.e (mVar 3)) (.e (mC (.int 2))))))))
    (mRet (mC (.bl false)))
    (mp .nx))
    (mIf (mNot (mTru (.e (mCv 3 (f__law_found_right n) [(.e (mVar 3)), (.e (mVar 1)), (.e (mOp dGt (.e (mOp dIx (.e (mOp dIx (.e (mVar 2)) (.e (mOp dSub (.e (mVar 3)) (.e (mC (.int 2))))))) (.e (mVar 1)))) (.e (mC (.int 0)))))]))))
    (mRet (mC (.bl false)))
    (mp .nx)))
def b__law_right_2 (n : Nat) : M Fl :=
  (mSq (mSet 13 (mOp dMul (.e (mCv 2 (f_count_squares n) [(.e (mVar 3)), (.e (mVar 10))])) (.e (mCv 2 (f_count_squares n) [(.e (mVar 3)), (.e (mVar 11))]))))
    (mIf (mCmp dNe (.e (mOp dMul (.e (mVar 12)) (.e (mCv 2 (f_count_squares n) [(.e (mVar 3)), (.e (mOp dMul (.e (mVar 10)) (.e (mVar 11))))])))) (.e (mVar 13)))
    (mRet (mC (.bl false)))
    (mp .nx)))
def m__law_right (n : Nat) : M Fl :=
  (mSq (mSet 1 (mCv 2 (f__law_dip n) [(.n 0), (.e (mC (.int 30)))]))
    (mSq (mSet 2 (mFr (mCl 1 (f__law_counts n) [(.e (mVar 1))])))
    (mSq (mFor (mIt (mFr (mLst (mCons (mC (.int 2)) (mCons (mC (.int 3)) (mCons (mC (.int 4)) mNil)))))) (Fw.setV 3)
    (b__law_right_1 n))
    (mSq (mSet 4 (mOp dAdd (.e (mC (.int 1))) (.e (mCv 2 (f__law_dip n) [(.n 0), (.e (mCv 2 (f__law_one_of n) [(.n 0), (.e (mFr (mLst (mCons (mC (.int 200)) (mCons (mC (.int 2000)) (mCons (mC (.int 9999)) mNil))))))]))]))))
    (mSq (mSet 5 (mFr (mCl 1 (f__law_divisors n) [(.e (mVar 4))])))
    (mSq (mSet 6 (mOp dMul (.e (mC (.int 4))) (.e (mOp dSub (.e (mCB (op1 dLen) [(.e (mFr (mLc (mIt (mVar 5)) [14] (Fw.setV 14) (mCmp dEq (.e (mOp dMod (.e (mCB (op1 dInt) [(.e (mVar 14))])) (.e (mC (.int 4))))) (.e (mC (.int 1)))) (mVar 14))))])) (.e (mCB (op1 dLen) [(.e (mFr (mLc (mIt (mVar 5)) [14] (Fw.setV 14) (mCmp dEq (.e (mOp dMod (.e (mCB (op1 dInt) [(.e (mVar 14))])) (.e (mC (.int 4))))) (.e (mC (.int 3)))) (mVar 14))))]))))))
    (mSq (mSet 7 (mOp dMul (.e (mC (.int 8))) (.e (mCB (op1 dSum) [(.e (mFr (mLc (mIt (mVar 5)) [14] (Fw.setV 14) (mCmp dNe (.e (mOp dMod (.e (mCB (op1 dInt) [(.e (mVar 14))])) (.e (mC (.int 4))))) (.e (mC (.int 0)))) (mVar 14))))]))))
    (mSq (mSet 8 (mFr (mLst (mCons (mCv 2 (f_count_squares n) [(.e (mC (.int 2))), (.e (mVar 4))]) (mCons (mCvP 2 (f_count_squares n) [1, 0] [(.e (mVar 4)), (.e (mC (.int 4)))]) mNil)))))
    (mSq (mIf (mOr (mCmp dNe (.e (mCB (op1 dRepr) [(.e (mVar 8))])) (.e (mCB (op1 dRepr) [(.e (mFr (mLst (mCons (mVar 6) (mCons (mVar 7) mNil)))))]))) (mNot (mTru (.e (mCv 3 (f__law_found_right n) [(.e (mC (.int 2))), (.e (mVar 4)), (.e (mOp dGt (.e (mVar 6)) (.e (mC (.int 0)))))])))))
    (mRet (mC (.bl false)))
    (mp .nx))
    (mSq (mSet 9 (mOp dAdd (.e (mC (.int 1))) (.e (mCv 2 (f__law_dip n) [(.n 0), (.e (mC (.int 700)))]))))
    (mSq (mIf (mOr (mNot (mTru (.e (mCv 3 (f__law_found_right n) [(.e (mC (.int 3))), (.e (mVar 9)), (.e (mCv 1 (f__law_is_three n) [(.e (mVar 9))]))])))) (mNot (mTru (.e (mCv 3 (f__law_found_right n) [(.e (mC (.int 4))), (.e (mVar 9)), (.e (mC (.bl true)))])))))
    (mRet (mC (.bl false)))
    (mp .nx))
    (mSq (mPar [10, 11] [.e (mOp dAdd (.e (mC (.int 1))) (.e (mCv 2 (f__law_dip n) [(.n 0), (.e (mC (.int 90)))]))), .e (mOp dAdd (.e (mC (.int 1))) (.e (mCv 2 (f__law_dip n) [(.n 0), (.e (mC (.int 90)))])))])
    (mSq (mIf (mCmp dEq (.e (mCv 2 (f__law_shared n) [(.e (mVar 10)), (.e (mVar 11))])) (.e (mC (.int 1))))
    (mFor (mIt (mFr (mLst (mCons (mTup (mCons (mC (.int 2)) (mCons (mC (.int 4)) mNil))) (mCons (mTup (mCons (mC (.int 4)) (mCons (mC (.int 8)) mNil))) mNil))))) (gTupD 2 (gsCons (Fw.setV 3) (gsCons (Fw.setV 12) gsNil)))
    (b__law_right_2 n))
    (mp .nx))
    (mRet (mOp dEq (.e (mOp dGt (.e (mCv 2 (f_count_squares n) [(.e (mC (.int 3))), (.e (mVar 9))])) (.e (mC (.int 0))))) (.e (mCv 1 (f__law_is_three n) [(.e (mVar 9))])))))))))))))))))
def f__law_right (n : Nat) : Fn := mkFn 1 15 (m__law_right n)
def b__law_well_1 (n : Nat) : M Fl :=
  (mSet 3 (mOp dMod (.e (mCB (op1 dInt) [(.e (mOp dAdd (.e (mOp dAdd (.e (mOp dMul (.e (mVar 3)) (.e (mC (.int 24611))))) (.e (mOp dMul (.e (mVar 4)) (.e (mC (.int 7))))))) (.e (mC (.int 307)))))])) (.e (mC (.int 2147483399)))))
def m__law_well (n : Nat) : M Fl :=
  (mSq (mSet 2 (mIf (mCmp dLt (.e (mVar 1)) (.e (mCB (op1 dLen) [(.e (mVar 0))]))) (mOp dIx (.e (mVar 0)) (.e (mVar 1))) (mOp dAdd (.e (mOp dMul (.e (mC (.int 13))) (.e (mVar 1)))) (.e (mC (.int 6))))))
    (mSq (mSet 3 (mOp dAdd (.e (mC (.int 50021))) (.e (mOp dMul (.e (mC (.int 6007))) (.e (mVar 1))))))
    (mSq (mFor (mIt (mFr (mOpF dCat (.e (mFr (mSl (.e (mVar 0)) none (some (mC (.int 5))) dCutL))) (.e (mFr (mLst (mCons (mVar 2) mNil))))))) (Fw.setV 4)
    (b__law_well_1 n))
    (mRetF (mLst (mCons (mIf (mOr (mCmp dLt (.e (mVar 2)) (.e (mC (.int 0)))) (mCmp dGe (.e (mVar 2)) (.e (mOp dPow (.e (mC (.int 10))) (.e (mC (.int 18))))))) (mCB (op1 dAbs) [(.e (mVar 2))]) (mC (.int 0))) (mCons (mVar 3) (mCons (mC (.int 0)) mNil))))))))
def f__law_well (n : Nat) : Fn := mkFn 2 5 (m__law_well n)
def m_law (n : Nat) : M Fl :=
  (mSq (mSet 1 (mFr (mLst (mCons (mCv 2 (f_count_squares n) [(.e (mC (.int 2))), (.e (mC (.int 25)))]) (mCons (mCv 2 (f_count_squares n) [(.e (mC (.int 3))), (.e (mC (.int 9)))]) (mCons (mCv 2 (f_count_squares n) [(.e (mC (.int 4))), (.e (mC (.int 5)))]) (mCons (mCv 2 (f_count_squares n) [(.e (mC (.int 2))), (.e (mC (.int 0)))]) mNil)))))))
    (mSq (mIf (mCmp dNe (.e (mFr (mOpF dCat (.e (mVar 1)) (.e (mFr (mLst (mCons (mCv 2 (f_count_squares n) [(.e (mC (.int 4))), (.e (mOp dPow (.e (mC (.int 10))) (.e (mC (.int 4)))))]) mNil))))))) (.e (mFr (mLst (mCons (mC (.int 12)) (mCons (mC (.int 30)) (mCons (mC (.int 48)) (mCons (mC (.int 1)) (mCons (mC (.int 18744)) mNil)))))))))
    (mRet (mC (.bl false)))
    (mp .nx))
    (mSq (mIf (mCmp dNe (.e (mFr (mLst (mCons (mCv 2 (f_squares_for n) [(.e (mC (.int 2))), (.e (mC (.int 7)))]) (mCons (mCv 2 (f_squares_for n) [(.e (mC (.int 3))), (.e (mC (.int 28)))]) (mCons (mCv 2 (f_squares_for n) [(.e (mC (.int 4))), (.e (mC (.int 0)))]) mNil)))))) (.e (mFr (mLst (mCons (mC .non) (mCons (mC .non) (mCons (mTup (mCons (mC (.int 0)) (mCons (mC (.int 0)) (mCons (mC (.int 0)) (mCons (mC (.int 0)) mNil))))) mNil)))))))
    (mRet (mC (.bl false)))
    (mp .nx))
    (mRet (mCB (op1 dAll) [(.e (mFr (mLc (mIA dR1 [(.e (mCB (op2 dMax2) [(.e (mC (.int 2))), (.e (mCB (op2 dMin2) [(.e (mCB (op1 dLen) [(.e (mVar 0))])), (.e (mC (.int 3)))]))]))]) [2] (Fw.setV 2) (mp true) (mC1 (f__law_right n) (mCl 2 (f__law_well n) [(.e (mVar 0)), (.e (mVar 2))])))))])))))
def f_law (n : Nat) : Fn := mkFn 1 3 (m_law n)
end Fw
namespace Fw
open L2 PyProof.Rows PySem PySem.Spec
def top (i : Nat) : Stmt := PySem.Challenge.pw_formworld_k66_whole_squares_counted_and.main.body.getD i (.Pass ⟨0, 0, 0, 0⟩)
def dd (x : Str) (i : Nat) : He.DefD := ⟨(x, none), x, x, defArgs (top i), defBody (top i), defScope (top i), [], []⟩
def di (x : Str) (i : Nat) : He.DefD := ⟨(x, some "__init__"), "__init__", x ++ ".__init__", defArgs (inClass (top i) 0), defBody (inClass (top i) 0), defScope (inClass (top i) 0), [], []⟩
def fns : List He.DefD := [dd "is_integer" 4, dd "is_between" 5, dd "check_many" 15, dd "check_sum" 14, dd "divisors_of" 9, dd "count_two" 16, dd "count_four" 18, dd "root_of" 7, dd "count_three" 17, dd "count_squares" 20, dd "is_square" 8, dd "found_squares" 19, dd "squares_for" 21, dd "_law_dip" 24, dd "_law_counts" 27, dd "_law_divisors" 28, dd "_law_shared" 26, dd "_law_is_three" 29, dd "_law_found_right" 30, dd "_law_one_of" 25] ++ [dd "_law_right" 31, dd "_law_well" 23, dd "law" 32]
def fas : List He.Fa := [.glo "is_integer", .glo "is_between", .glo "check_many", .glo "check_sum", .glo "divisors_of", .glo "count_two", .glo "count_four", .glo "root_of", .glo "count_three", .glo "count_squares", .glo "is_square", .glo "found_squares", .glo "squares_for", .glo "_law_dip", .glo "_law_counts", .glo "_law_divisors", .glo "_law_shared", .glo "_law_is_three", .glo "_law_found_right", .glo "_law_one_of"] ++ [.glo "_law_right", .glo "_law_well", .glo "law", .free "int", .free "isinstance", .free "bool", .int "LEAST_MANY" 2, .int "MOST_MANY" 4, .int "MOST_SUM" 10000, .free "sum", .free "range", .free "divmod", .free "abs", .free "tuple", .free "len", .free "list", .free "sorted", .free "repr", .free "min", .free "max"] ++ [.free "all"]
def loose : List Str := (["WrongValue", "InvalidNumber", "is_integer", "is_between", "root_of", "is_square", "divisors_of", "MOST_SUM", "LEAST_MANY", "MOST_MANY", "check_sum", "check_many"] : List Str) ++ (["count_two", "count_three", "count_four", "found_squares", "count_squares", "squares_for", "_law_well", "_law_dip", "_law_one_of", "_law_shared", "_law_counts", "_law_divisors"] : List Str) ++ (["_law_is_three", "_law_found_right", "_law_right"] : List Str)
def exs : List (PySem.W.Frag → Bool) := []
def gc (K : PySem.W.Frag) : GC := ⟨K, fun c => match c with
  | _ => 0, fun c => match c with
  | _ => [], none⟩
structure Tx (g : GC) (mg : Str → Option Value) : Prop where
  says : SaysX fas exs fns g.K
  ns : ∃ h, g.K.In h ∧ h.Ns mainGlobals mg
  gc : g = gc g.K
theorem Tx.ca {g : GC} {mg : Str → Option Value} (T : Tx g mg) : g.ca = (Fw.gc g.K).ca := congrArg GC.ca T.gc
theorem Tx.cf {g : GC} {mg : Str → Option Value} (T : Tx g mg) : g.cf = (Fw.gc g.K).cf := congrArg GC.cf T.gc
theorem Tx.gx {g : GC} {mg : Str → Option Value} (T : Tx g mg) : g.ex = none := congrArg GC.ex T.gc
theorem Tx.glo {g : GC} {mg : Str → Option Value} (T : Tx g mg) (i : Nat) {x : Str} (h : fas[i]? = some (.glo x)) : mg x = some (.ref (He.fAd g.K (x, none))) := let ⟨_, X, G⟩ := T.ns; He.glo_ok X G (T.says.d.fact i h)
theorem Tx.g_int {g : GC} {mg : Str → Option Value} (T : Tx g mg) : mg "int" = none := let ⟨h, X, G⟩ := T.ns; He.free_ok X G (T.says.d.fact 23 rfl)
theorem Tx.g_isinstance {g : GC} {mg : Str → Option Value} (T : Tx g mg) : mg "isinstance" = none := let ⟨h, X, G⟩ := T.ns; He.free_ok X G (T.says.d.fact 24 rfl)
theorem Tx.g_bool {g : GC} {mg : Str → Option Value} (T : Tx g mg) : mg "bool" = none := let ⟨h, X, G⟩ := T.ns; He.free_ok X G (T.says.d.fact 25 rfl)
theorem Tx.g_LEAST_MANY {g : GC} {mg : Str → Option Value} (T : Tx g mg) : ∃ t, mg "LEAST_MANY" = some (.int 2 t) := let ⟨h, X, G⟩ := T.ns; He.int_ok X G (T.says.d.fact 26 rfl)
theorem Tx.g_MOST_MANY {g : GC} {mg : Str → Option Value} (T : Tx g mg) : ∃ t, mg "MOST_MANY" = some (.int 4 t) := let ⟨h, X, G⟩ := T.ns; He.int_ok X G (T.says.d.fact 27 rfl)
theorem Tx.g_MOST_SUM {g : GC} {mg : Str → Option Value} (T : Tx g mg) : ∃ t, mg "MOST_SUM" = some (.int 10000 t) := let ⟨h, X, G⟩ := T.ns; He.int_ok X G (T.says.d.fact 28 rfl)
theorem Tx.g_sum {g : GC} {mg : Str → Option Value} (T : Tx g mg) : mg "sum" = none := let ⟨h, X, G⟩ := T.ns; He.free_ok X G (T.says.d.fact 29 rfl)
theorem Tx.g_range {g : GC} {mg : Str → Option Value} (T : Tx g mg) : mg "range" = none := let ⟨h, X, G⟩ := T.ns; He.free_ok X G (T.says.d.fact 30 rfl)
theorem Tx.g_divmod {g : GC} {mg : Str → Option Value} (T : Tx g mg) : mg "divmod" = none := let ⟨h, X, G⟩ := T.ns; He.free_ok X G (T.says.d.fact 31 rfl)
theorem Tx.g_abs {g : GC} {mg : Str → Option Value} (T : Tx g mg) : mg "abs" = none := let ⟨h, X, G⟩ := T.ns; He.free_ok X G (T.says.d.fact 32 rfl)
theorem Tx.g_tuple {g : GC} {mg : Str → Option Value} (T : Tx g mg) : mg "tuple" = none := let ⟨h, X, G⟩ := T.ns; He.free_ok X G (T.says.d.fact 33 rfl)
theorem Tx.g_len {g : GC} {mg : Str → Option Value} (T : Tx g mg) : mg "len" = none := let ⟨h, X, G⟩ := T.ns; He.free_ok X G (T.says.d.fact 34 rfl)
theorem Tx.g_list {g : GC} {mg : Str → Option Value} (T : Tx g mg) : mg "list" = none := let ⟨h, X, G⟩ := T.ns; He.free_ok X G (T.says.d.fact 35 rfl)
theorem Tx.g_sorted {g : GC} {mg : Str → Option Value} (T : Tx g mg) : mg "sorted" = none := let ⟨h, X, G⟩ := T.ns; He.free_ok X G (T.says.d.fact 36 rfl)
theorem Tx.g_repr {g : GC} {mg : Str → Option Value} (T : Tx g mg) : mg "repr" = none := let ⟨h, X, G⟩ := T.ns; He.free_ok X G (T.says.d.fact 37 rfl)
theorem Tx.g_min {g : GC} {mg : Str → Option Value} (T : Tx g mg) : mg "min" = none := let ⟨h, X, G⟩ := T.ns; He.free_ok X G (T.says.d.fact 38 rfl)
theorem Tx.g_max {g : GC} {mg : Str → Option Value} (T : Tx g mg) : mg "max" = none := let ⟨h, X, G⟩ := T.ns; He.free_ok X G (T.says.d.fact 39 rfl)
theorem Tx.g_all {g : GC} {mg : Str → Option Value} (T : Tx g mg) : mg "all" = none := let ⟨h, X, G⟩ := T.ns; He.free_ok X G (T.says.d.fact 40 rfl)
section
variable {P : Program} {w : World} {mg : Str → Option Value} {base : Heap} {g : GC}
theorem K_kb_count_squares_number_many {K : PySem.W.Frag} : ∀ (fd : FuncData) (f : Addr) (body : List Stmt) (scope : Scope), FunD K "count_squares" "count_squares" (defArgs (top 20)) body scope [] [] f fd → ∀ (s : Shared) (us : List Value), us.length = [1, 0].length → BindsTo s fd ⟨[], (["number", "many"] : List Str).zip us⟩ ((["many", "number"] : List Str).zip (permL [1, 0] us)) := by
  intro fd f body scope F s us hl
  obtain ⟨oc, od, dV, kV, doc, pm, an, cdv, ct, osl, rfl, lk, hcd, hD, hK⟩ := F.ex
  rcases hD with ⟨_, rfl⟩ | ⟨e, _⟩
  · match us, hl with
    | [_, _], _ => exact .of_eq rfl
  · exact absurd rfl e
theorem K_kb_squares_for_number_many {K : PySem.W.Frag} : ∀ (fd : FuncData) (f : Addr) (body : List Stmt) (scope : Scope), FunD K "squares_for" "squares_for" (defArgs (top 21)) body scope [] [] f fd → ∀ (s : Shared) (us : List Value), us.length = [1, 0].length → BindsTo s fd ⟨[], (["number", "many"] : List Str).zip us⟩ ((["many", "number"] : List Str).zip (permL [1, 0] us)) := by
  intro fd f body scope F s us hl
  obtain ⟨oc, od, dV, kV, doc, pm, an, cdv, ct, osl, rfl, lk, hcd, hD, hK⟩ := F.ex
  rcases hD with ⟨_, rfl⟩ | ⟨e, _⟩
  · match us, hl with
    | [_, _], _ => exact .of_eq rfl
  · exact absurd rfl e
def N_is_integer : List Str := ["value"]
theorem sc_is_integer : FnScope N_is_integer ["value"] (defScope (top 4)) := ⟨rfl, rfl, rfl, by decide +kernel, rfl, by decide +kernel, by decide +kernel⟩
theorem ok_is_integer (n : Nat) (T : Tx g mg) : Has P w g.K mg base 1 "is_integer" ["value"] (defArgs (top 4)) (spF g 1 (f_is_integer n)) := by
  obtain ⟨fd, F⟩ := T.says.d.def_ 0 (d := dd "is_integer" 4) rfl
  have F : FunD g.K "is_integer" "is_integer" (defArgs (top 4)) (defBody (top 4)) (defScope (top 4)) [] [] (He.fAd g.K ("is_integer", none)) fd := F
  have nd := sc_is_integer.nd
  refine ⟨_, fd, FnG.by (k := 0) F sc_is_integer rfl rfl (by decide) (fun cdv A outer s H E hr gd => ?_), T.glo 0 rfl, F.kp, F.bindsN (fun _ _ _ _ _ _ us hl => match us, hl with | [_], _ => rfl), _, _, F⟩
  have tk : Takes (cxOf (L2.CX P w) P w g.K mg base N_is_integer "is_integer" (defScope (top 4)) (He.fAd g.K ("is_integer", none)) cdv A outer s H E) (fun cls d _ H => E cls d H) := takes_of rfl rfl rfl rfl
  have po : PassesOwn (model P w) (A.deeper (envOfC "is_integer" (defScope (top 4)) s.heap.objs.size (He.fAd g.K ("is_integer", none)) cdv)) (envOfC "is_integer" (defScope (top 4)) s.heap.objs.size (He.fAd g.K ("is_integer", none)) cdv) (cxOf (L2.CX P w) P w g.K mg base N_is_integer "is_integer" (defScope (top 4)) (He.fAd g.K ("is_integer", none)) cdv A outer s H E).xe := passes_of (X := cxOf (L2.CX P w) P w g.K mg base N_is_integer "is_integer" (defScope (top 4)) (He.fAd g.K ("is_integer", none)) cdv A outer s H E) rfl
  exact (cb_one (cs_ret (c_and rfl (c_cb call_isi ls_isi (by rfl) T.g_isinstance (by decide +kernel) (co_cons (co_e (c_var 0 (pv 0))) (co_cons (co_e (c_gty (by rfl) T.g_int (by decide +kernel))) co_nil)) (by decide +kernel) (by decide +kernel)) (c_one (c_not rfl (co_e (c_cb call_isi ls_isi (by rfl) T.g_isinstance (by decide +kernel) (co_cons (co_e (c_var 0 (pv 0))) (co_cons (co_e (c_gty (by rfl) T.g_bool (by decide +kernel))) co_nil)) (by decide +kernel) (by decide +kernel))))))))
def N_is_between : List Str := ["value", "low", "high"]
theorem sc_is_between : FnScope N_is_between ["value", "low", "high"] (defScope (top 5)) := ⟨rfl, rfl, rfl, by decide +kernel, rfl, by decide +kernel, by decide +kernel⟩
theorem ok_is_between (n : Nat) (T : Tx g mg) (H_is_integer : Has P w g.K mg base 1 "is_integer" ["value"] (defArgs (top 4)) (spF g 1 (f_is_integer n))) : Has P w g.K mg base 2 "is_between" ["value", "low", "high"] (defArgs (top 5)) (spF g 3 (f_is_between n)) := by
  obtain ⟨fd, F⟩ := T.says.d.def_ 1 (d := dd "is_between" 5) rfl
  have F : FunD g.K "is_between" "is_between" (defArgs (top 5)) (defBody (top 5)) (defScope (top 5)) [] [] (He.fAd g.K ("is_between", none)) fd := F
  have nd := sc_is_between.nd
  refine ⟨_, fd, FnG.by (k := 1) F sc_is_between rfl rfl (by decide) (fun cdv A outer s H E hr gd => ?_), T.glo 1 rfl, F.kp, F.bindsN (fun _ _ _ _ _ _ us hl => match us, hl with | [_, _, _], _ => rfl), _, _, F⟩
  have tk : Takes (cxOf (L2.CX P w) P w g.K mg base N_is_between "is_between" (defScope (top 5)) (He.fAd g.K ("is_between", none)) cdv A outer s H E) (fun cls d _ H => E cls d H) := takes_of rfl rfl rfl rfl
  have po : PassesOwn (model P w) (A.deeper (envOfC "is_between" (defScope (top 5)) s.heap.objs.size (He.fAd g.K ("is_between", none)) cdv)) (envOfC "is_between" (defScope (top 5)) s.heap.objs.size (He.fAd g.K ("is_between", none)) cdv) (cxOf (L2.CX P w) P w g.K mg base N_is_between "is_between" (defScope (top 5)) (He.fAd g.K ("is_between", none)) cdv A outer s H E).xe := passes_of (X := cxOf (L2.CX P w) P w g.K mg base N_is_between "is_between" (defScope (top 5)) (He.fAd g.K ("is_between", none)) cdv A outer s H E) rfl
  exact (cb_one (cs_ret (c_and rfl (c_call H_is_integer (hr.mono (by decide)) gd (by rfl) tk (co_cons (co_e (c_var 0 (pv 0))) co_nil) (by decide +kernel)) (c_one (c_chain op_le op_le os_le os_le (co_e (c_var 1 (pv 1))) (co_e (c_var 0 (pv 0))) (co_e (c_var 2 (pv 2))) (by with_unfolding_all rfl) flatI)))))
def N_check_many : List Str := ["value"]
theorem sc_check_many : FnScope N_check_many ["value"] (defScope (top 15)) := ⟨rfl, rfl, rfl, by decide +kernel, rfl, by decide +kernel, by decide +kernel⟩
theorem ok_check_many (n : Nat) (T : Tx g mg) (H_is_between : Has P w g.K mg base 2 "is_between" ["value", "low", "high"] (defArgs (top 5)) (spF g 3 (f_is_between n))) : Has P w g.K mg base 3 "check_many" ["value"] (defArgs (top 15)) (spF g 1 (f_check_many n)) := by
  obtain ⟨fd, F⟩ := T.says.d.def_ 2 (d := dd "check_many" 15) rfl
  have F : FunD g.K "check_many" "check_many" (defArgs (top 15)) (defBody (top 15)) (defScope (top 15)) [] [] (He.fAd g.K ("check_many", none)) fd := F
  have nd := sc_check_many.nd
  refine ⟨_, fd, FnG.by (k := 2) F sc_check_many rfl rfl (by decide) (fun cdv A outer s H E hr gd => ?_), T.glo 2 rfl, F.kp, F.bindsN (fun _ _ _ _ _ _ us hl => match us, hl with | [_], _ => rfl), _, _, F⟩
  have tk : Takes (cxOf (L2.CX P w) P w g.K mg base N_check_many "check_many" (defScope (top 15)) (He.fAd g.K ("check_many", none)) cdv A outer s H E) (fun cls d _ H => E cls d H) := takes_of rfl rfl rfl rfl
  have po : PassesOwn (model P w) (A.deeper (envOfC "check_many" (defScope (top 15)) s.heap.objs.size (He.fAd g.K ("check_many", none)) cdv)) (envOfC "check_many" (defScope (top 15)) s.heap.objs.size (He.fAd g.K ("check_many", none)) cdv) (cxOf (L2.CX P w) P w g.K mg base N_check_many "check_many" (defScope (top 15)) (He.fAd g.K ("check_many", none)) cdv A outer s H E).xe := passes_of (X := cxOf (L2.CX P w) P w g.K mg base N_check_many "check_many" (defScope (top 15)) (He.fAd g.K ("check_many", none)) cdv A outer s H E) rfl
  exact (cb_one (cs_if (ct_not (ct_tru (co_e (c_call H_is_between (hr.mono (by decide)) gd (by rfl) tk (co_cons (co_e (c_var 0 (pv 0))) (co_cons (co_e (c_gint (by rfl) T.g_LEAST_MANY)) (co_cons (co_e (c_gint (by rfl) T.g_MOST_MANY)) co_nil))) (by decide +kernel))) rfl (by intro _; rfl)))
    (cb_one cs_bad)
    cb_nil))
def N_check_sum : List Str := ["value", "least"]
theorem sc_check_sum : FnScope N_check_sum ["value", "least"] (defScope (top 14)) := ⟨rfl, rfl, rfl, by decide +kernel, rfl, by decide +kernel, by decide +kernel⟩
theorem ok_check_sum (n : Nat) (T : Tx g mg) (H_is_between : Has P w g.K mg base 2 "is_between" ["value", "low", "high"] (defArgs (top 5)) (spF g 3 (f_is_between n))) : Has P w g.K mg base 3 "check_sum" ["value", "least"] (defArgs (top 14)) (spF g 2 (f_check_sum n)) := by
  obtain ⟨fd, F⟩ := T.says.d.def_ 3 (d := dd "check_sum" 14) rfl
  have F : FunD g.K "check_sum" "check_sum" (defArgs (top 14)) (defBody (top 14)) (defScope (top 14)) [] [] (He.fAd g.K ("check_sum", none)) fd := F
  have nd := sc_check_sum.nd
  refine ⟨_, fd, FnG.by (k := 2) F sc_check_sum rfl rfl (by decide) (fun cdv A outer s H E hr gd => ?_), T.glo 3 rfl, F.kp, F.bindsN (fun _ _ _ _ _ _ us hl => match us, hl with | [_, _], _ => rfl), _, _, F⟩
  have tk : Takes (cxOf (L2.CX P w) P w g.K mg base N_check_sum "check_sum" (defScope (top 14)) (He.fAd g.K ("check_sum", none)) cdv A outer s H E) (fun cls d _ H => E cls d H) := takes_of rfl rfl rfl rfl
  have po : PassesOwn (model P w) (A.deeper (envOfC "check_sum" (defScope (top 14)) s.heap.objs.size (He.fAd g.K ("check_sum", none)) cdv)) (envOfC "check_sum" (defScope (top 14)) s.heap.objs.size (He.fAd g.K ("check_sum", none)) cdv) (cxOf (L2.CX P w) P w g.K mg base N_check_sum "check_sum" (defScope (top 14)) (He.fAd g.K ("check_sum", none)) cdv A outer s H E).xe := passes_of (X := cxOf (L2.CX P w) P w g.K mg base N_check_sum "check_sum" (defScope (top 14)) (He.fAd g.K ("check_sum", none)) cdv A outer s H E) rfl
  exact (cb_one (cs_if (ct_not (ct_tru (co_e (c_call H_is_between (hr.mono (by decide)) gd (by rfl) tk (co_cons (co_e (c_var 0 (pv 0))) (co_cons (co_e (c_var 1 (pv 1))) (co_cons (co_e (c_gint (by rfl) T.g_MOST_SUM)) co_nil))) (by decide +kernel))) rfl (by intro _; rfl)))
    (cb_one cs_bad)
    cb_nil))
def N_divisors_of : List Str := ["value", "low", "high", "step"]
theorem sc_divisors_of : FnScope N_divisors_of ["value"] (defScope (top 9)) := ⟨rfl, rfl, rfl, by decide +kernel, rfl, by decide +kernel, by decide +kernel⟩
theorem ok_divisors_of (n : Nat) (T : Tx g mg) : Has P w g.K mg base 1 "divisors_of" ["value"] (defArgs (top 9)) (spF g 1 (f_divisors_of n)) := by
  obtain ⟨fd, F⟩ := T.says.d.def_ 4 (d := dd "divisors_of" 9) rfl
  have F : FunD g.K "divisors_of" "divisors_of" (defArgs (top 9)) (defBody (top 9)) (defScope (top 9)) [] [] (He.fAd g.K ("divisors_of", none)) fd := F
  have nd := sc_divisors_of.nd
  refine ⟨_, fd, FnG.by (k := 0) F sc_divisors_of rfl rfl (by decide) (fun cdv A outer s H E hr gd => ?_), T.glo 4 rfl, F.kp, F.bindsN (fun _ _ _ _ _ _ us hl => match us, hl with | [_], _ => rfl), _, _, F⟩
  have tk : Takes (cxOf (L2.CX P w) P w g.K mg base N_divisors_of "divisors_of" (defScope (top 9)) (He.fAd g.K ("divisors_of", none)) cdv A outer s H E) (fun cls d _ H => E cls d H) := takes_of rfl rfl rfl rfl
  have po : PassesOwn (model P w) (A.deeper (envOfC "divisors_of" (defScope (top 9)) s.heap.objs.size (He.fAd g.K ("divisors_of", none)) cdv)) (envOfC "divisors_of" (defScope (top 9)) s.heap.objs.size (He.fAd g.K ("divisors_of", none)) cdv) (cxOf (L2.CX P w) P w g.K mg base N_divisors_of "divisors_of" (defScope (top 9)) (He.fAd g.K ("divisors_of", none)) cdv A outer s H E).xe := passes_of (X := cxOf (L2.CX P w) P w g.K mg base N_divisors_of "divisors_of" (defScope (top 9)) (He.fAd g.K ("divisors_of", none)) cdv A outer s H E) rfl
  exact (cb_cons (cs_par3 1 2 3 (ps_par3 (i := 1) (j := 2) (l := 3) (by rfl) nd rfl rfl rfl (by decide) (by decide) (by decide) rfl rfl rfl (ed_cons (ed_f (cf_lst ca_nil)) (ed_cons (ed_f (cf_lst ca_nil)) (ed_cons (ed_e c_int) ed_nil))) (by rfl)))
    (cb_cons (cs_while n po (ct_cmp op_le os_le (co_e (c_op or_mul os_mul (co_e (c_var 3 (pv 3))) (co_e (c_var 3 (pv 3))))) (co_e (c_var 0 (pv 0))) (by first | exact nomark _ | rfl | with_unfolding_all rfl))
    (cb_cons (cs_if (ct_cmp (or_eq (u64 hr)) os_eq (co_e (c_op op_modN os_mod (co_e (c_var 0 (pv 0))) (co_e (c_var 3 (pv 3))))) (co_e c_int) (by first | exact nomark _ | rfl | with_unfolding_all rfl))
    (cb_cons (cs_expr (c_app 1 rfl (pe_bm PySem.F.plainAttrs_list PySem.F.slot_list_append PySem.F.type_list_append mt_append (pv 1) (pa_cons (c_var 3 (pv 3)) pa_nil))))
    (cb_one (cs_if (ct_cmp (or_ne (u64 hr)) os_ne (co_e (c_op or_mul os_mul (co_e (c_var 3 (pv 3))) (co_e (c_var 3 (pv 3))))) (co_e (c_var 0 (pv 0))) (by first | exact nomark _ | rfl | with_unfolding_all rfl))
    (cb_one (cs_expr (c_app 2 rfl (pe_bm PySem.F.plainAttrs_list PySem.F.slot_list_append PySem.F.type_list_append mt_append (pv 2) (pa_cons (c_op op_fdivG os_fdiv (co_e (c_var 0 (pv 0))) (co_e (c_var 3 (pv 3)))) pa_nil)))))
    cb_nil)))
    cb_nil)
    (cb_one (cs_aug 3 os_iadd (ps_aug (i := 3) nd rfl (by first | exact Or.inl rfl | exact Or.inr rfl) c_int ip_add)))))
    (cb_one (cs_retF (cf_op op_cat fs_cat (co_n 1 (pv 1)) (co_e (c_fr (cf_rev rfl (co_n 2 (pv 2)) (co_e (c_un un_neg us_neg (co_e c_int)))))))))))
def N_count_two : List Str := ["number", "found", "divisor"]
theorem sc_count_two : FnScope N_count_two ["number"] (defScope (top 16)) := ⟨rfl, rfl, rfl, by decide +kernel, rfl, by decide +kernel, by decide +kernel⟩
theorem ok_count_two (n : Nat) (T : Tx g mg) (H_divisors_of : Has P w g.K mg base 1 "divisors_of" ["value"] (defArgs (top 9)) (spF g 1 (f_divisors_of n))) : Has P w g.K mg base 2 "count_two" ["number"] (defArgs (top 16)) (spF g 1 (f_count_two n)) := by
  obtain ⟨fd, F⟩ := T.says.d.def_ 5 (d := dd "count_two" 16) rfl
  have F : FunD g.K "count_two" "count_two" (defArgs (top 16)) (defBody (top 16)) (defScope (top 16)) [] [] (He.fAd g.K ("count_two", none)) fd := F
  have nd := sc_count_two.nd
  refine ⟨_, fd, FnG.by (k := 1) F sc_count_two rfl rfl (by decide) (fun cdv A outer s H E hr gd => ?_), T.glo 5 rfl, F.kp, F.bindsN (fun _ _ _ _ _ _ us hl => match us, hl with | [_], _ => rfl), _, _, F⟩
  have tk : Takes (cxOf (L2.CX P w) P w g.K mg base N_count_two "count_two" (defScope (top 16)) (He.fAd g.K ("count_two", none)) cdv A outer s H E) (fun cls d _ H => E cls d H) := takes_of rfl rfl rfl rfl
  have po : PassesOwn (model P w) (A.deeper (envOfC "count_two" (defScope (top 16)) s.heap.objs.size (He.fAd g.K ("count_two", none)) cdv)) (envOfC "count_two" (defScope (top 16)) s.heap.objs.size (He.fAd g.K ("count_two", none)) cdv) (cxOf (L2.CX P w) P w g.K mg base N_count_two "count_two" (defScope (top 16)) (He.fAd g.K ("count_two", none)) cdv A outer s H E).xe := passes_of (X := cxOf (L2.CX P w) P w g.K mg base N_count_two "count_two" (defScope (top 16)) (He.fAd g.K ("count_two", none)) cdv A outer s H E) rfl
  exact (cb_cons (cs_if (ct_cmp (or_eq (u64 hr)) os_eq (co_e (c_var 0 (pv 0))) (co_e c_int) (by first | exact nomark _ | rfl | with_unfolding_all rfl))
    (cb_one (cs_ret c_int))
    cb_nil)
    (cb_cons (cs_set 1 (ps_set (i := 1) nd rfl (by first | exact Or.inl rfl | exact Or.inr rfl) c_int))
    (cb_cons (cs_for po (by rfl) (ci_any rfl (c_fr (cf_call H_divisors_of (hr.mono (by decide)) gd (by rfl) tk (co_cons (co_e (c_var 0 (pv 0))) co_nil) (by decide +kernel)))) (cg_name 2 (pg_name (i := 2) nd rfl (by first | exact Or.inl rfl | exact Or.inr rfl)))
    (cb_one (cs_if (ct_cmp (or_eq (u64 hr)) os_eq (co_e (c_op op_modN os_mod (co_e (c_var 2 (pv 2))) (co_e c_int))) (co_e c_int) (by first | exact nomark _ | rfl | with_unfolding_all rfl))
    (cb_one (cs_aug 1 os_iadd (ps_aug (i := 1) nd rfl (by first | exact Or.inl rfl | exact Or.inr rfl) (c_if (ct_cmp (or_eq (u64 hr)) os_eq (co_e (c_op op_modN os_mod (co_e (c_var 2 (pv 2))) (co_e c_int))) (co_e c_int) (by first | exact nomark _ | rfl | with_unfolding_all rfl)) c_int (c_un un_neg us_neg (co_e c_int))) ip_add)))
    cb_nil)))
    (cb_one (cs_ret (c_var 1 (pv 1)))))))
def N_count_four : List Str := ["number", "divisor"]
theorem sc_count_four : FnScope N_count_four ["number"] (defScope (top 18)) := ⟨rfl, rfl, rfl, by decide +kernel, rfl, by decide +kernel, by decide +kernel⟩
theorem ok_count_four (n : Nat) (T : Tx g mg) (H_divisors_of : Has P w g.K mg base 1 "divisors_of" ["value"] (defArgs (top 9)) (spF g 1 (f_divisors_of n))) : Has P w g.K mg base 2 "count_four" ["number"] (defArgs (top 18)) (spF g 1 (f_count_four n)) := by
  obtain ⟨fd, F⟩ := T.says.d.def_ 6 (d := dd "count_four" 18) rfl
  have F : FunD g.K "count_four" "count_four" (defArgs (top 18)) (defBody (top 18)) (defScope (top 18)) [] [] (He.fAd g.K ("count_four", none)) fd := F
  have nd := sc_count_four.nd
  refine ⟨_, fd, FnG.by (k := 1) F sc_count_four rfl rfl (by decide) (fun cdv A outer s H E hr gd => ?_), T.glo 6 rfl, F.kp, F.bindsN (fun _ _ _ _ _ _ us hl => match us, hl with | [_], _ => rfl), _, _, F⟩
  have tk : Takes (cxOf (L2.CX P w) P w g.K mg base N_count_four "count_four" (defScope (top 18)) (He.fAd g.K ("count_four", none)) cdv A outer s H E) (fun cls d _ H => E cls d H) := takes_of rfl rfl rfl rfl
  have po : PassesOwn (model P w) (A.deeper (envOfC "count_four" (defScope (top 18)) s.heap.objs.size (He.fAd g.K ("count_four", none)) cdv)) (envOfC "count_four" (defScope (top 18)) s.heap.objs.size (He.fAd g.K ("count_four", none)) cdv) (cxOf (L2.CX P w) P w g.K mg base N_count_four "count_four" (defScope (top 18)) (He.fAd g.K ("count_four", none)) cdv A outer s H E).xe := passes_of (X := cxOf (L2.CX P w) P w g.K mg base N_count_four "count_four" (defScope (top 18)) (He.fAd g.K ("count_four", none)) cdv A outer s H E) rfl
  exact (cb_cons (cs_if (ct_cmp (or_eq (u64 hr)) os_eq (co_e (c_var 0 (pv 0))) (co_e c_int) (by first | exact nomark _ | rfl | with_unfolding_all rfl))
    (cb_one (cs_ret c_int))
    cb_nil)
    (cb_one (cs_ret (c_op or_mul os_mul (co_e c_int) (co_e (c_cb (cr_sum rfl) ls_sum (by rfl) T.g_sum (by decide +kernel) (co_cons (co_e (c_fr (cf_lc (pe_lc (own := [("divisor", 1)]) (by rfl) nd (ci_any rfl (c_fr (cf_call H_divisors_of (hr.mono (by decide)) gd (by rfl) tk (co_cons (co_e (c_var 0 (pv 0))) co_nil) (by decide +kernel)))) (blkOk_by (own := [("divisor", 1)]) (N := N_count_four) (sc := defScope (top 18)) (by decide +kernel)) (fun _ _ _ _ _ => (cg_name 1 (pg_name (i := 1) nd rfl (by first | exact Or.inl rfl | exact Or.inr rfl)))) (fun _ _ _ _ _ => (ts_one (ct_cmp (or_ne (u64 hr)) os_ne (co_e (c_op op_modN os_mod (co_e (c_var 1 (pv 1))) (co_e c_int))) (co_e c_int) (by first | exact nomark _ | rfl | with_unfolding_all rfl)))) (fun _ _ _ _ _ => (c_var 1 (pv 1)))) (by decide)))) co_nil) (by decide +kernel) (by decide +kernel)))))))
def N_root_of : List Str := ["value", "low", "high", "middle"]
theorem sc_root_of : FnScope N_root_of ["value"] (defScope (top 7)) := ⟨rfl, rfl, rfl, by decide +kernel, rfl, by decide +kernel, by decide +kernel⟩
theorem ok_root_of (n : Nat) (T : Tx g mg) : Has P w g.K mg base 1 "root_of" ["value"] (defArgs (top 7)) (spF g 1 (f_root_of n)) := by
  obtain ⟨fd, F⟩ := T.says.d.def_ 7 (d := dd "root_of" 7) rfl
  have F : FunD g.K "root_of" "root_of" (defArgs (top 7)) (defBody (top 7)) (defScope (top 7)) [] [] (He.fAd g.K ("root_of", none)) fd := F
  have nd := sc_root_of.nd
  refine ⟨_, fd, FnG.by (k := 0) F sc_root_of rfl rfl (by decide) (fun cdv A outer s H E hr gd => ?_), T.glo 7 rfl, F.kp, F.bindsN (fun _ _ _ _ _ _ us hl => match us, hl with | [_], _ => rfl), _, _, F⟩
  have tk : Takes (cxOf (L2.CX P w) P w g.K mg base N_root_of "root_of" (defScope (top 7)) (He.fAd g.K ("root_of", none)) cdv A outer s H E) (fun cls d _ H => E cls d H) := takes_of rfl rfl rfl rfl
  have po : PassesOwn (model P w) (A.deeper (envOfC "root_of" (defScope (top 7)) s.heap.objs.size (He.fAd g.K ("root_of", none)) cdv)) (envOfC "root_of" (defScope (top 7)) s.heap.objs.size (He.fAd g.K ("root_of", none)) cdv) (cxOf (L2.CX P w) P w g.K mg base N_root_of "root_of" (defScope (top 7)) (He.fAd g.K ("root_of", none)) cdv A outer s H E).xe := passes_of (X := cxOf (L2.CX P w) P w g.K mg base N_root_of "root_of" (defScope (top 7)) (He.fAd g.K ("root_of", none)) cdv A outer s H E) rfl
  exact (cb_cons (cs_asg (c_tup (ca_cons c_int (ca_cons c_int ca_nil))) (cg_tup (by rfl) rfl (cgs_cons (cg_name 1 (pg_name (i := 1) nd rfl (by first | exact Or.inl rfl | exact Or.inr rfl))) (cgs_cons (cg_name 2 (pg_name (i := 2) nd rfl (by first | exact Or.inl rfl | exact Or.inr rfl))) cgs_nil))))
    (cb_cons (cs_while n po (ct_cmp op_le os_le (co_e (c_op or_mul os_mul (co_e (c_var 2 (pv 2))) (co_e (c_var 2 (pv 2))))) (co_e (c_var 0 (pv 0))) (by first | exact nomark _ | rfl | with_unfolding_all rfl))
    (cb_one (cs_set 2 (ps_set (i := 2) nd rfl (by first | exact Or.inl rfl | exact Or.inr rfl) (c_op or_mul os_mul (co_e c_int) (co_e (c_var 2 (pv 2))))))))
    (cb_cons (cs_while n po (ct_cmp op_gt os_gt (co_e (c_op op_sub os_sub (co_e (c_var 2 (pv 2))) (co_e (c_var 1 (pv 1))))) (co_e c_int) (by first | exact nomark _ | rfl | with_unfolding_all rfl))
    (cb_cons (cs_set 3 (ps_set (i := 3) nd rfl (by first | exact Or.inl rfl | exact Or.inr rfl) (c_op op_fdivG os_fdiv (co_e (c_op or_add os_add (co_e (c_var 1 (pv 1))) (co_e (c_var 2 (pv 2))))) (co_e c_int))))
    (cb_one (cs_if (ct_cmp op_le os_le (co_e (c_op or_mul os_mul (co_e (c_var 3 (pv 3))) (co_e (c_var 3 (pv 3))))) (co_e (c_var 0 (pv 0))) (by first | exact nomark _ | rfl | with_unfolding_all rfl))
    (cb_one (cs_set 1 (ps_set (i := 1) nd rfl (by first | exact Or.inl rfl | exact Or.inr rfl) (c_var 3 (pv 3)))))
    (cb_one (cs_set 2 (ps_set (i := 2) nd rfl (by first | exact Or.inl rfl | exact Or.inr rfl) (c_var 3 (pv 3)))))))))
    (cb_one (cs_ret (c_var 1 (pv 1)))))))
def N_count_three : List Str := ["number", "most", "own"]
theorem sc_count_three : FnScope N_count_three ["number"] (defScope (top 17)) := ⟨rfl, rfl, rfl, by decide +kernel, rfl, by decide +kernel, by decide +kernel⟩
theorem ok_count_three (n : Nat) (T : Tx g mg) (H_root_of : Has P w g.K mg base 1 "root_of" ["value"] (defArgs (top 7)) (spF g 1 (f_root_of n))) (H_count_two : Has P w g.K mg base 2 "count_two" ["number"] (defArgs (top 16)) (spF g 1 (f_count_two n))) : Has P w g.K mg base 3 "count_three" ["number"] (defArgs (top 17)) (spF g 1 (f_count_three n)) := by
  obtain ⟨fd, F⟩ := T.says.d.def_ 8 (d := dd "count_three" 17) rfl
  have F : FunD g.K "count_three" "count_three" (defArgs (top 17)) (defBody (top 17)) (defScope (top 17)) [] [] (He.fAd g.K ("count_three", none)) fd := F
  have nd := sc_count_three.nd
  refine ⟨_, fd, FnG.by (k := 2) F sc_count_three rfl rfl (by decide) (fun cdv A outer s H E hr gd => ?_), T.glo 8 rfl, F.kp, F.bindsN (fun _ _ _ _ _ _ us hl => match us, hl with | [_], _ => rfl), _, _, F⟩
  have tk : Takes (cxOf (L2.CX P w) P w g.K mg base N_count_three "count_three" (defScope (top 17)) (He.fAd g.K ("count_three", none)) cdv A outer s H E) (fun cls d _ H => E cls d H) := takes_of rfl rfl rfl rfl
  have po : PassesOwn (model P w) (A.deeper (envOfC "count_three" (defScope (top 17)) s.heap.objs.size (He.fAd g.K ("count_three", none)) cdv)) (envOfC "count_three" (defScope (top 17)) s.heap.objs.size (He.fAd g.K ("count_three", none)) cdv) (cxOf (L2.CX P w) P w g.K mg base N_count_three "count_three" (defScope (top 17)) (He.fAd g.K ("count_three", none)) cdv A outer s H E).xe := passes_of (X := cxOf (L2.CX P w) P w g.K mg base N_count_three "count_three" (defScope (top 17)) (He.fAd g.K ("count_three", none)) cdv A outer s H E) rfl
  exact (cb_cons (cs_set 1 (ps_set (i := 1) nd rfl (by first | exact Or.inl rfl | exact Or.inr rfl) (c_call H_root_of (hr.mono (by decide)) gd (by rfl) tk (co_cons (co_e (c_var 0 (pv 0))) co_nil) (by decide +kernel))))
    (cb_one (cs_ret (c_cb (cr_sum rfl) ls_sum (by rfl) T.g_sum (by decide +kernel) (co_cons (co_e (c_fr (cf_lc (pe_lc (own := [("own", 2)]) (by rfl) nd (ci_range2 (by rfl) T.g_range (co_cons (co_e (c_un un_neg us_neg (co_e (c_var 1 (pv 1))))) (co_cons (co_e (c_op or_add os_add (co_e (c_var 1 (pv 1))) (co_e c_int))) co_nil))) (blkOk_by (own := [("own", 2)]) (N := N_count_three) (sc := defScope (top 17)) (by decide +kernel)) (fun _ _ _ _ _ => (cg_name 2 (pg_name (i := 2) nd rfl (by first | exact Or.inl rfl | exact Or.inr rfl)))) (fun _ _ _ _ _ => ts_nil) (fun _ _ _ _ _ => (c_call H_count_two (hr.mono (by decide)) gd (by rfl) takes0 (co_cons (co_e (c_op op_sub os_sub (co_e (c_var 0 (pv 0))) (co_e (c_op or_mul os_mul (co_e (c_var 2 (pv 2))) (co_e (c_var 2 (pv 2))))))) co_nil) (by decide +kernel)))) (by decide)))) co_nil) (by decide +kernel) (by decide +kernel)))))
def N_count_squares : List Str := ["many", "number"]
theorem sc_count_squares : FnScope N_count_squares ["many", "number"] (defScope (top 20)) := ⟨rfl, rfl, rfl, by decide +kernel, rfl, by decide +kernel, by decide +kernel⟩
theorem ok_count_squares (n : Nat) (T : Tx g mg) (H_check_many : Has P w g.K mg base 3 "check_many" ["value"] (defArgs (top 15)) (spF g 1 (f_check_many n))) (H_check_sum : Has P w g.K mg base 3 "check_sum" ["value", "least"] (defArgs (top 14)) (spF g 2 (f_check_sum n))) (H_count_two : Has P w g.K mg base 2 "count_two" ["number"] (defArgs (top 16)) (spF g 1 (f_count_two n))) (H_count_four : Has P w g.K mg base 2 "count_four" ["number"] (defArgs (top 18)) (spF g 1 (f_count_four n))) (H_count_three : Has P w g.K mg base 3 "count_three" ["number"] (defArgs (top 17)) (spF g 1 (f_count_three n))) : Has P w g.K mg base 4 "count_squares" ["many", "number"] (defArgs (top 20)) (spF g 2 (f_count_squares n)) := by
  obtain ⟨fd, F⟩ := T.says.d.def_ 9 (d := dd "count_squares" 20) rfl
  have F : FunD g.K "count_squares" "count_squares" (defArgs (top 20)) (defBody (top 20)) (defScope (top 20)) [] [] (He.fAd g.K ("count_squares", none)) fd := F
  have nd := sc_count_squares.nd
  refine ⟨_, fd, FnG.by (k := 3) F sc_count_squares rfl rfl (by decide) (fun cdv A outer s H E hr gd => ?_), T.glo 9 rfl, F.kp, F.bindsN (fun _ _ _ _ _ _ us hl => match us, hl with | [_, _], _ => rfl), _, _, F⟩
  have tk : Takes (cxOf (L2.CX P w) P w g.K mg base N_count_squares "count_squares" (defScope (top 20)) (He.fAd g.K ("count_squares", none)) cdv A outer s H E) (fun cls d _ H => E cls d H) := takes_of rfl rfl rfl rfl
  have po : PassesOwn (model P w) (A.deeper (envOfC "count_squares" (defScope (top 20)) s.heap.objs.size (He.fAd g.K ("count_squares", none)) cdv)) (envOfC "count_squares" (defScope (top 20)) s.heap.objs.size (He.fAd g.K ("count_squares", none)) cdv) (cxOf (L2.CX P w) P w g.K mg base N_count_squares "count_squares" (defScope (top 20)) (He.fAd g.K ("count_squares", none)) cdv A outer s H E).xe := passes_of (X := cxOf (L2.CX P w) P w g.K mg base N_count_squares "count_squares" (defScope (top 20)) (He.fAd g.K ("count_squares", none)) cdv A outer s H E) rfl
  exact (cb_cons (cs_expr (c_call H_check_many (hr.mono (by decide)) gd (by rfl) tk (co_cons (co_e (c_var 0 (pv 0))) co_nil) (by decide +kernel)))
    (cb_cons (cs_expr (c_call H_check_sum (hr.mono (by decide)) gd (by rfl) tk (co_cons (co_e (c_var 1 (pv 1))) (co_cons (co_e c_int) co_nil)) (by decide +kernel)))
    (cb_cons (cs_if (ct_cmp (or_eq (u64 hr)) os_eq (co_e (c_var 0 (pv 0))) (co_e (c_gint (by rfl) T.g_LEAST_MANY)) (by first | exact nomark _ | rfl | with_unfolding_all rfl))
    (cb_one (cs_ret (c_call H_count_two (hr.mono (by decide)) gd (by rfl) tk (co_cons (co_e (c_var 1 (pv 1))) co_nil) (by decide +kernel))))
    cb_nil)
    (cb_one (cs_ret (c_if (ct_cmp (or_eq (u64 hr)) os_eq (co_e (c_var 0 (pv 0))) (co_e (c_gint (by rfl) T.g_MOST_MANY)) (by first | exact nomark _ | rfl | with_unfolding_all rfl)) (c_call H_count_four (hr.mono (by decide)) gd (by rfl) tk (co_cons (co_e (c_var 1 (pv 1))) co_nil) (by decide +kernel)) (c_call H_count_three (hr.mono (by decide)) gd (by rfl) tk (co_cons (co_e (c_var 1 (pv 1))) co_nil) (by decide +kernel))))))))
def N_is_square : List Str := ["value"]
theorem sc_is_square : FnScope N_is_square ["value"] (defScope (top 8)) := ⟨rfl, rfl, rfl, by decide +kernel, rfl, by decide +kernel, by decide +kernel⟩
theorem ok_is_square (n : Nat) (T : Tx g mg) (H_root_of : Has P w g.K mg base 1 "root_of" ["value"] (defArgs (top 7)) (spF g 1 (f_root_of n))) : Has P w g.K mg base 2 "is_square" ["value"] (defArgs (top 8)) (spF g 1 (f_is_square n)) := by
  obtain ⟨fd, F⟩ := T.says.d.def_ 10 (d := dd "is_square" 8) rfl
  have F : FunD g.K "is_square" "is_square" (defArgs (top 8)) (defBody (top 8)) (defScope (top 8)) [] [] (He.fAd g.K ("is_square", none)) fd := F
  have nd := sc_is_square.nd
  refine ⟨_, fd, FnG.by (k := 1) F sc_is_square rfl rfl (by decide) (fun cdv A outer s H E hr gd => ?_), T.glo 10 rfl, F.kp, F.bindsN (fun _ _ _ _ _ _ us hl => match us, hl with | [_], _ => rfl), _, _, F⟩
  have tk : Takes (cxOf (L2.CX P w) P w g.K mg base N_is_square "is_square" (defScope (top 8)) (He.fAd g.K ("is_square", none)) cdv A outer s H E) (fun cls d _ H => E cls d H) := takes_of rfl rfl rfl rfl
  have po : PassesOwn (model P w) (A.deeper (envOfC "is_square" (defScope (top 8)) s.heap.objs.size (He.fAd g.K ("is_square", none)) cdv)) (envOfC "is_square" (defScope (top 8)) s.heap.objs.size (He.fAd g.K ("is_square", none)) cdv) (cxOf (L2.CX P w) P w g.K mg base N_is_square "is_square" (defScope (top 8)) (He.fAd g.K ("is_square", none)) cdv A outer s H E).xe := passes_of (X := cxOf (L2.CX P w) P w g.K mg base N_is_square "is_square" (defScope (top 8)) (He.fAd g.K ("is_square", none)) cdv A outer s H E) rfl
  exact (cb_one (cs_ret (c_and rfl (c_cmp op_ge os_ge (co_e (c_var 0 (pv 0))) (co_e c_int) (by first | exact nomark _ | rfl | with_unfolding_all rfl)) (c_one (c_cmp (or_eq (u64 hr)) os_eq (co_e (c_op or_mul os_mul (co_e (c_call H_root_of (hr.mono (by decide)) gd (by rfl) tk (co_cons (co_e (c_var 0 (pv 0))) co_nil) (by decide +kernel))) (co_e (c_call H_root_of (hr.mono (by decide)) gd (by rfl) tk (co_cons (co_e (c_var 0 (pv 0))) co_nil) (by decide +kernel))))) (co_e (c_var 0 (pv 0))) (by first | exact nomark _ | rfl | with_unfolding_all rfl))))))
def N_found_squares : List Str := ["many", "number", "least", "own", "rest"]
theorem sc_found_squares : FnScope N_found_squares ["many", "number", "least"] (defScope (top 19)) := ⟨rfl, rfl, rfl, by decide +kernel, rfl, by decide +kernel, by decide +kernel⟩
theorem ok_found_squares (n : Nat) (T : Tx g mg) (H_count_two : Has P w g.K mg base 2 "count_two" ["number"] (defArgs (top 16)) (spF g 1 (f_count_two n))) (H_is_square : Has P w g.K mg base 2 "is_square" ["value"] (defArgs (top 8)) (spF g 1 (f_is_square n))) (H_root_of : Has P w g.K mg base 1 "root_of" ["value"] (defArgs (top 7)) (spF g 1 (f_root_of n))) : ∀ k : Nat, Has P w g.K mg base (3 + k) "found_squares" ["many", "number", "least"] (defArgs (top 19)) (spF g 3 (f_found_squares n k)) := by
  obtain ⟨fd, F⟩ := T.says.d.def_ 11 (d := dd "found_squares" 19) rfl
  have F : FunD g.K "found_squares" "found_squares" (defArgs (top 19)) (defBody (top 19)) (defScope (top 19)) [] [] (He.fAd g.K ("found_squares", none)) fd := F
  have nd := sc_found_squares.nd
  intro k
  induction k with
  | zero =>
    refine ⟨_, fd, FnG.by (k := 2) F sc_found_squares rfl rfl (by decide) (fun cdv A outer s H E hr gd => ?_), T.glo 11 rfl, F.kp, F.bindsN (fun _ _ _ _ _ _ us hl => match us, hl with | [_, _, _], _ => rfl), _, _, F⟩
    exact cb_bad
  | succ k H_found_squares =>
    refine ⟨_, fd, FnG.by (k := 3 + k) F sc_found_squares rfl rfl (by decide) (fun cdv A outer s H E hr gd => ?_), T.glo 11 rfl, F.kp, F.bindsN (fun _ _ _ _ _ _ us hl => match us, hl with | [_, _, _], _ => rfl), _, _, F⟩
    have tk : Takes (cxOf (L2.CX P w) P w g.K mg base N_found_squares "found_squares" (defScope (top 19)) (He.fAd g.K ("found_squares", none)) cdv A outer s H E) (fun cls d _ H => E cls d H) := takes_of rfl rfl rfl rfl
    have po : PassesOwn (model P w) (A.deeper (envOfC "found_squares" (defScope (top 19)) s.heap.objs.size (He.fAd g.K ("found_squares", none)) cdv)) (envOfC "found_squares" (defScope (top 19)) s.heap.objs.size (He.fAd g.K ("found_squares", none)) cdv) (cxOf (L2.CX P w) P w g.K mg base N_found_squares "found_squares" (defScope (top 19)) (He.fAd g.K ("found_squares", none)) cdv A outer s H E).xe := passes_of (X := cxOf (L2.CX P w) P w g.K mg base N_found_squares "found_squares" (defScope (top 19)) (He.fAd g.K ("found_squares", none)) cdv A outer s H E) rfl
    exact (cb_cons (cs_if (ct_cmp (or_eq (u64 hr)) os_eq (co_e (c_var 0 (pv 0))) (co_e c_int) (by first | exact nomark _ | rfl | with_unfolding_all rfl))
    (cb_one (cs_ret (c_if (ct_w (cw_and (ct_tru (co_e (c_call H_is_square (hr.mono (by omega)) gd (by rfl) tk (co_cons (co_e (c_var 1 (pv 1))) co_nil) (by decide +kernel))) rfl (by intro _; rfl)) (cw_and1 (ct_cmp op_ge os_ge (co_e (c_call H_root_of (hr.mono (by omega)) gd (by rfl) tk (co_cons (co_e (c_var 1 (pv 1))) co_nil) (by decide +kernel))) (co_e (c_var 2 (pv 2))) (by first | exact nomark _ | rfl | with_unfolding_all rfl))))) (c_tup (ca_cons (c_call H_root_of (hr.mono (by omega)) gd (by rfl) tk (co_cons (co_e (c_var 1 (pv 1))) co_nil) (by decide +kernel)) ca_nil)) c_non)))
    cb_nil)
    (cb_cons (cs_if (ct_w (cw_and (ct_cmp (or_eq (u64 hr)) os_eq (co_e (c_var 0 (pv 0))) (co_e (c_gint (by rfl) T.g_LEAST_MANY)) (by first | exact nomark _ | rfl | with_unfolding_all rfl)) (cw_and1 (ct_cmp (or_eq (u64 hr)) os_eq (co_e (c_call H_count_two (hr.mono (by omega)) gd (by rfl) tk (co_cons (co_e (c_var 1 (pv 1))) co_nil) (by decide +kernel))) (co_e c_int) (by first | exact nomark _ | rfl | with_unfolding_all rfl)))))
    (cb_one (cs_ret c_non))
    cb_nil)
    (cb_cons (cs_set 3 (ps_set (i := 3) nd rfl (by first | exact Or.inl rfl | exact Or.inr rfl) (c_var 2 (pv 2))))
    (cb_cons (cs_while n po (ct_cmp op_le os_le (co_e (c_op or_mul os_mul (co_e (c_op or_mul os_mul (co_e (c_var 0 (pv 0))) (co_e (c_var 3 (pv 3))))) (co_e (c_var 3 (pv 3))))) (co_e (c_var 1 (pv 1))) (by first | exact nomark _ | rfl | with_unfolding_all rfl))
    (cb_cons (cs_set 4 (ps_set (i := 4) nd rfl (by first | exact Or.inl rfl | exact Or.inr rfl) (c_call H_found_squares (hr.mono (by omega)) gd (by rfl) tk (co_cons (co_e (c_op op_sub os_sub (co_e (c_var 0 (pv 0))) (co_e c_int))) (co_cons (co_e (c_op op_sub os_sub (co_e (c_var 1 (pv 1))) (co_e (c_op or_mul os_mul (co_e (c_var 3 (pv 3))) (co_e (c_var 3 (pv 3))))))) (co_cons (co_e (c_var 3 (pv 3))) co_nil))) (by decide +kernel))))
    (cb_cons (cs_if (ct_notN (co_e (c_var 4 (pv 4))))
    (cb_one (cs_ret (c_tup (ca_cons (c_var 3 (pv 3)) (ca_star rfl (c_var 4 (pv 4)) ca_nil)))))
    cb_nil)
    (cb_one (cs_aug 3 os_iadd (ps_aug (i := 3) nd rfl (by first | exact Or.inl rfl | exact Or.inr rfl) c_int ip_add))))))
    (cb_one (cs_ret c_non))))))
def N_squares_for : List Str := ["many", "number"]
theorem sc_squares_for : FnScope N_squares_for ["many", "number"] (defScope (top 21)) := ⟨rfl, rfl, rfl, by decide +kernel, rfl, by decide +kernel, by decide +kernel⟩
theorem ok_squares_for (n : Nat) (T : Tx g mg) (H_check_many : Has P w g.K mg base 3 "check_many" ["value"] (defArgs (top 15)) (spF g 1 (f_check_many n))) (H_check_sum : Has P w g.K mg base 3 "check_sum" ["value", "least"] (defArgs (top 14)) (spF g 2 (f_check_sum n))) (H_found_squares : Has P w g.K mg base 7 "found_squares" ["many", "number", "least"] (defArgs (top 19)) (spF g 3 (f_found_squares n 4))) : Has P w g.K mg base 8 "squares_for" ["many", "number"] (defArgs (top 21)) (spF g 2 (f_squares_for n)) := by
  obtain ⟨fd, F⟩ := T.says.d.def_ 12 (d := dd "squares_for" 21) rfl
  have F : FunD g.K "squares_for" "squares_for" (defArgs (top 21)) (defBody (top 21)) (defScope (top 21)) [] [] (He.fAd g.K ("squares_for", none)) fd := F
  have nd := sc_squares_for.nd
  refine ⟨_, fd, FnG.by (k := 7) F sc_squares_for rfl rfl (by decide) (fun cdv A outer s H E hr gd => ?_), T.glo 12 rfl, F.kp, F.bindsN (fun _ _ _ _ _ _ us hl => match us, hl with | [_, _], _ => rfl), _, _, F⟩
  have tk : Takes (cxOf (L2.CX P w) P w g.K mg base N_squares_for "squares_for" (defScope (top 21)) (He.fAd g.K ("squares_for", none)) cdv A outer s H E) (fun cls d _ H => E cls d H) := takes_of rfl rfl rfl rfl
  have po : PassesOwn (model P w) (A.deeper (envOfC "squares_for" (defScope (top 21)) s.heap.objs.size (He.fAd g.K ("squares_for", none)) cdv)) (envOfC "squares_for" (defScope (top 21)) s.heap.objs.size (He.fAd g.K ("squares_for", none)) cdv) (cxOf (L2.CX P w) P w g.K mg base N_squares_for "squares_for" (defScope (top 21)) (He.fAd g.K ("squares_for", none)) cdv A outer s H E).xe := passes_of (X := cxOf (L2.CX P w) P w g.K mg base N_squares_for "squares_for" (defScope (top 21)) (He.fAd g.K ("squares_for", none)) cdv A outer s H E) rfl
  exact (cb_cons (cs_expr (c_call H_check_many (hr.mono (by decide)) gd (by rfl) tk (co_cons (co_e (c_var 0 (pv 0))) co_nil) (by decide +kernel)))
    (cb_cons (cs_expr (c_call H_check_sum (hr.mono (by decide)) gd (by rfl) tk (co_cons (co_e (c_var 1 (pv 1))) (co_cons (co_e c_int) co_nil)) (by decide +kernel)))
    (cb_one (cs_ret (c_call H_found_squares (hr.mono (by decide)) gd (by rfl) tk (co_cons (co_e (c_var 0 (pv 0))) (co_cons (co_e (c_var 1 (pv 1))) (co_cons (co_e c_int) co_nil))) (by decide +kernel))))))
def N__law_dip : List Str := ["_law_well_here", "_law_sides", "_law_digit", "_law_by"]
theorem sc__law_dip : FnScope N__law_dip ["_law_well_here", "_law_sides"] (defScope (top 24)) := ⟨rfl, rfl, rfl, by decide +kernel, rfl, by decide +kernel, by decide +kernel⟩
theorem ok__law_dip (n : Nat) (T : Tx g mg) : Has P w g.K mg base 1 "_law_dip" ["_law_well_here", "_law_sides"] (defArgs (top 24)) (spF g 2 (f__law_dip n)) := by
  obtain ⟨fd, F⟩ := T.says.d.def_ 13 (d := dd "_law_dip" 24) rfl
  have F : FunD g.K "_law_dip" "_law_dip" (defArgs (top 24)) (defBody (top 24)) (defScope (top 24)) [] [] (He.fAd g.K ("_law_dip", none)) fd := F
  have nd := sc__law_dip.nd
  refine ⟨_, fd, FnG.by (k := 0) F sc__law_dip rfl rfl (by decide) (fun cdv A outer s H E hr gd => ?_), T.glo 13 rfl, F.kp, F.bindsN (fun _ _ _ _ _ _ us hl => match us, hl with | [_, _], _ => rfl), _, _, F⟩
  have tk : Takes (cxOf (L2.CX P w) P w g.K mg base N__law_dip "_law_dip" (defScope (top 24)) (He.fAd g.K ("_law_dip", none)) cdv A outer s H E) (fun cls d _ H => E cls d H) := takes_of rfl rfl rfl rfl
  have po : PassesOwn (model P w) (A.deeper (envOfC "_law_dip" (defScope (top 24)) s.heap.objs.size (He.fAd g.K ("_law_dip", none)) cdv)) (envOfC "_law_dip" (defScope (top 24)) s.heap.objs.size (He.fAd g.K ("_law_dip", none)) cdv) (cxOf (L2.CX P w) P w g.K mg base N__law_dip "_law_dip" (defScope (top 24)) (He.fAd g.K ("_law_dip", none)) cdv A outer s H E).xe := passes_of (X := cxOf (L2.CX P w) P w g.K mg base N__law_dip "_law_dip" (defScope (top 24)) (He.fAd g.K ("_law_dip", none)) cdv A outer s H E) rfl
  exact (cb_cons (cs_asg (c_op or_add os_add (co_e (c_ix rfl (co_n 0 (pv 0)) (co_e c_int) (fun _ _ => rfl))) (co_e c_int)) (cg_st (W := fun cls d _ H => E cls d H) 0 (pv 0) c_int))
    (cb_cons (cs_if (ct_cmp op_gt os_gt (co_e (c_ix rfl (co_n 0 (pv 0)) (co_e c_int) (fun _ _ => rfl))) (co_e c_int) (by first | exact nomark _ | rfl | with_unfolding_all rfl))
    (cb_cons (cs_asg (c_cb call_divmod ls_divmod (by rfl) T.g_divmod (by decide +kernel) (co_cons (co_e (c_ix rfl (co_n 0 (pv 0)) (co_e c_int) (fun _ _ => rfl))) (co_cons (co_e (c_var 1 (pv 1))) co_nil)) (by decide +kernel) (by decide +kernel)) (cg_tup (by rfl) rfl (cgs_cons (cg_st (W := fun cls d _ H => E cls d H) 0 (pv 0) c_int) (cgs_cons (cg_name 2 (pg_name (i := 2) nd rfl (by first | exact Or.inl rfl | exact Or.inr rfl))) cgs_nil))))
    (cb_one (cs_ret (c_var 2 (pv 2)))))
    cb_nil)
    (cb_cons (cs_set 3 (ps_set (i := 3) nd rfl (by first | exact Or.inl rfl | exact Or.inr rfl) (c_op or_add os_add (co_e c_int) (co_e (c_op or_mul os_mul (co_e c_int) (co_e (c_ix rfl (co_n 0 (pv 0)) (co_e c_int) (fun _ _ => rfl))))))))
    (cb_cons (cs_asg (c_op op_modN os_mod (co_e (c_ct call_int1 ls_int (by rfl) T.g_int (by decide +kernel) (co_cons (co_e (c_op or_add os_add (co_e (c_op or_add os_add (co_e (c_op or_mul os_mul (co_e (c_ix rfl (co_n 0 (pv 0)) (co_e c_int) (fun _ _ => rfl))) (co_e (c_var 3 (pv 3))))) (co_e (c_op or_mul os_mul (co_e c_int) (co_e (c_ix rfl (co_n 0 (pv 0)) (co_e c_int) (fun _ _ => rfl))))))) (co_e c_int))) co_nil) (by decide +kernel) (by decide +kernel))) (co_e c_int)) (cg_st (W := fun cls d _ H => E cls d H) 0 (pv 0) c_int))
    (cb_one (cs_ret (c_op op_modN os_mod (co_e (c_ct call_int1 ls_int (by rfl) T.g_int (by decide +kernel) (co_cons (co_e (c_op op_fdivG os_fdiv (co_e (c_ix rfl (co_n 0 (pv 0)) (co_e c_int) (fun _ _ => rfl))) (co_e c_int))) co_nil) (by decide +kernel) (by decide +kernel))) (co_e (c_var 1 (pv 1))))))))))
def N__law_counts : List Str := ["_law_most", "_law_ones", "_law_k", "_law_found", "_law_turn", "_law_later", "_law_j", "_law_more"]
theorem sc__law_counts : FnScope N__law_counts ["_law_most"] (defScope (top 27)) := ⟨rfl, rfl, rfl, by decide +kernel, rfl, by decide +kernel, by decide +kernel⟩
theorem ok__law_counts (n : Nat) (T : Tx g mg) : Has P w g.K mg base 1 "_law_counts" ["_law_most"] (defArgs (top 27)) (spF g 1 (f__law_counts n)) := by
  obtain ⟨fd, F⟩ := T.says.d.def_ 14 (d := dd "_law_counts" 27) rfl
  have F : FunD g.K "_law_counts" "_law_counts" (defArgs (top 27)) (defBody (top 27)) (defScope (top 27)) [] [] (He.fAd g.K ("_law_counts", none)) fd := F
  have nd := sc__law_counts.nd
  refine ⟨_, fd, FnG.by (k := 0) F sc__law_counts rfl rfl (by decide) (fun cdv A outer s H E hr gd => ?_), T.glo 14 rfl, F.kp, F.bindsN (fun _ _ _ _ _ _ us hl => match us, hl with | [_], _ => rfl), _, _, F⟩
  have tk : Takes (cxOf (L2.CX P w) P w g.K mg base N__law_counts "_law_counts" (defScope (top 27)) (He.fAd g.K ("_law_counts", none)) cdv A outer s H E) (fun cls d _ H => E cls d H) := takes_of rfl rfl rfl rfl
  have po : PassesOwn (model P w) (A.deeper (envOfC "_law_counts" (defScope (top 27)) s.heap.objs.size (He.fAd g.K ("_law_counts", none)) cdv)) (envOfC "_law_counts" (defScope (top 27)) s.heap.objs.size (He.fAd g.K ("_law_counts", none)) cdv) (cxOf (L2.CX P w) P w g.K mg base N__law_counts "_law_counts" (defScope (top 27)) (He.fAd g.K ("_law_counts", none)) cdv A outer s H E).xe := passes_of (X := cxOf (L2.CX P w) P w g.K mg base N__law_counts "_law_counts" (defScope (top 27)) (He.fAd g.K ("_law_counts", none)) cdv A outer s H E) rfl
  exact (cb_cons (cs_setB 1 (ps_set (i := 1) nd rfl (by first | exact Or.inl rfl | exact Or.inr rfl) (cf_op op_rep fs_rep (co_e (c_fr (cf_lst (ca_cons c_int ca_nil)))) (co_e (c_op or_add os_add (co_e (c_var 0 (pv 0))) (co_e c_int))))))
    (cb_cons (cs_for po (by rfl) (ci_range2 (by rfl) T.g_range (co_cons (co_e (c_op op_sub os_sub (co_e c_int) (co_e (c_var 0 (pv 0))))) (co_cons (co_e (c_op or_add os_add (co_e (c_var 0 (pv 0))) (co_e c_int))) co_nil))) (cg_name 2 (pg_name (i := 2) nd rfl (by first | exact Or.inl rfl | exact Or.inr rfl)))
    (cb_one (cs_if (ct_cmp op_le os_le (co_e (c_op or_mul os_mul (co_e (c_var 2 (pv 2))) (co_e (c_var 2 (pv 2))))) (co_e (c_var 0 (pv 0))) (by first | exact nomark _ | rfl | with_unfolding_all rfl))
    (cb_one (cs_asg (c_op or_add os_add (co_e (c_ix rfl (co_n 1 (pv 1)) (co_e (c_op or_mul os_mul (co_e (c_var 2 (pv 2))) (co_e (c_var 2 (pv 2))))) (fun _ _ => rfl))) (co_e c_int)) (cg_st (W := fun cls d _ H => E cls d H) 1 (pv 1) (c_op or_mul os_mul (co_e (c_var 2 (pv 2))) (co_e (c_var 2 (pv 2)))))))
    cb_nil)))
    (cb_ub 1 (cb_cons (cs_setB 3 (ps_set (i := 3) nd rfl (by first | exact Or.inl rfl | exact Or.inr rfl) (cf_lst (ca_cons (c_var 1 (pv 1)) ca_nil))))
    (cb_cons (cs_for po (by rfl) (ci_range1 (by rfl) T.g_range (co_cons (co_e c_int) co_nil)) (cg_name 4 (pg_name (i := 4) nd rfl (by first | exact Or.inl rfl | exact Or.inr rfl)))
    (cb_cons (cs_setB 5 (ps_set (i := 5) nd rfl (by first | exact Or.inl rfl | exact Or.inr rfl) (cf_op op_rep fs_rep (co_e (c_fr (cf_lst (ca_cons c_int ca_nil)))) (co_e (c_op or_add os_add (co_e (c_var 0 (pv 0))) (co_e c_int))))))
    (cb_cons (cs_for po (by rfl) (ci_range1 (by rfl) T.g_range (co_cons (co_e (c_op or_add os_add (co_e (c_var 0 (pv 0))) (co_e c_int))) co_nil)) (cg_name 2 (pg_name (i := 2) nd rfl (by first | exact Or.inl rfl | exact Or.inr rfl)))
    (cb_one (cs_if (ct_cmp op_gt os_gt (co_e (c_ix rfl (co_n 1 (pv 1)) (co_e (c_var 2 (pv 2))) (fun _ _ => rfl))) (co_e c_int) (by first | exact nomark _ | rfl | with_unfolding_all rfl))
    (cb_one (cs_for po (by rfl) (ci_range1 (by rfl) T.g_range (co_cons (co_e (c_op op_sub os_sub (co_e (c_op or_add os_add (co_e (c_var 0 (pv 0))) (co_e c_int))) (co_e (c_var 2 (pv 2))))) co_nil)) (cg_name 6 (pg_name (i := 6) nd rfl (by first | exact Or.inl rfl | exact Or.inr rfl)))
    (cb_cons (cs_set 7 (ps_set (i := 7) nd rfl (by first | exact Or.inl rfl | exact Or.inr rfl) (c_op or_mul os_mul (co_e (c_ix rfl (co_n 1 (pv 1)) (co_e (c_var 2 (pv 2))) (fun _ _ => rfl))) (co_e (c_ix rfl (co_e (c_ix rfl (co_n 3 (pv 3)) (co_e (c_un un_neg us_neg (co_e c_int))) (fun _ _ => rfl))) (co_e (c_var 6 (pv 6))) (fun _ _ => rfl))))))
    (cb_one (cs_asg (c_op or_add os_add (co_e (c_ix rfl (co_n 5 (pv 5)) (co_e (c_op or_add os_add (co_e (c_var 2 (pv 2))) (co_e (c_var 6 (pv 6))))) (fun _ _ => rfl))) (co_e (c_var 7 (pv 7)))) (cg_st (W := fun cls d _ H => E cls d H) 5 (pv 5) (c_op or_add os_add (co_e (c_var 2 (pv 2))) (co_e (c_var 6 (pv 6))))))))))
    cb_nil)))
    (cb_ub 5 (cb_one (cs_expr (c_app 3 rfl (pe_bm PySem.F.plainAttrs_list PySem.F.slot_list_append PySem.F.type_list_append mt_append (pv 3) (pa_cons (c_var 5 (pv 5)) pa_nil)))))))))
    (cb_one (cs_retF (cf_sl rfl (co_n 3 (pv 3)) (cp_some c_int) cp_none))))))))
def N__law_divisors : List Str := ["_law_number_here", "_law_found", "_law_step"]
theorem sc__law_divisors : FnScope N__law_divisors ["_law_number_here"] (defScope (top 28)) := ⟨rfl, rfl, rfl, by decide +kernel, rfl, by decide +kernel, by decide +kernel⟩
theorem ok__law_divisors (n : Nat) (T : Tx g mg) : Has P w g.K mg base 1 "_law_divisors" ["_law_number_here"] (defArgs (top 28)) (spF g 1 (f__law_divisors n)) := by
  obtain ⟨fd, F⟩ := T.says.d.def_ 15 (d := dd "_law_divisors" 28) rfl
  have F : FunD g.K "_law_divisors" "_law_divisors" (defArgs (top 28)) (defBody (top 28)) (defScope (top 28)) [] [] (He.fAd g.K ("_law_divisors", none)) fd := F
  have nd := sc__law_divisors.nd
  refine ⟨_, fd, FnG.by (k := 0) F sc__law_divisors rfl rfl (by decide) (fun cdv A outer s H E hr gd => ?_), T.glo 15 rfl, F.kp, F.bindsN (fun _ _ _ _ _ _ us hl => match us, hl with | [_], _ => rfl), _, _, F⟩
  have tk : Takes (cxOf (L2.CX P w) P w g.K mg base N__law_divisors "_law_divisors" (defScope (top 28)) (He.fAd g.K ("_law_divisors", none)) cdv A outer s H E) (fun cls d _ H => E cls d H) := takes_of rfl rfl rfl rfl
  have po : PassesOwn (model P w) (A.deeper (envOfC "_law_divisors" (defScope (top 28)) s.heap.objs.size (He.fAd g.K ("_law_divisors", none)) cdv)) (envOfC "_law_divisors" (defScope (top 28)) s.heap.objs.size (He.fAd g.K ("_law_divisors", none)) cdv) (cxOf (L2.CX P w) P w g.K mg base N__law_divisors "_law_divisors" (defScope (top 28)) (He.fAd g.K ("_law_divisors", none)) cdv A outer s H E).xe := passes_of (X := cxOf (L2.CX P w) P w g.K mg base N__law_divisors "_law_divisors" (defScope (top 28)) (He.fAd g.K ("_law_divisors", none)) cdv A outer s H E) rfl
  exact (cb_cons (cs_setB 1 (ps_set (i := 1) nd rfl (by first | exact Or.inl rfl | exact Or.inr rfl) (cf_lst ca_nil)))
    (cb_cons (cs_set 2 (ps_set (i := 2) nd rfl (by first | exact Or.inl rfl | exact Or.inr rfl) c_int))
    (cb_cons (cs_while n po (ct_cmp op_le os_le (co_e (c_op or_mul os_mul (co_e (c_var 2 (pv 2))) (co_e (c_var 2 (pv 2))))) (co_e (c_var 0 (pv 0))) (by first | exact nomark _ | rfl | with_unfolding_all rfl))
    (cb_cons (cs_if (ct_cmp (or_eq (u64 hr)) os_eq (co_e (c_op op_modN os_mod (co_e (c_ct call_int1 ls_int (by rfl) T.g_int (by decide +kernel) (co_cons (co_e (c_var 0 (pv 0))) co_nil) (by decide +kernel) (by decide +kernel))) (co_e (c_var 2 (pv 2))))) (co_e c_int) (by first | exact nomark _ | rfl | with_unfolding_all rfl))
    (cb_cons (cs_expr (c_app 1 rfl (pe_bm PySem.F.plainAttrs_list PySem.F.slot_list_append PySem.F.type_list_append mt_append (pv 1) (pa_cons (c_var 2 (pv 2)) pa_nil))))
    (cb_one (cs_if (ct_cmp (or_ne (u64 hr)) os_ne (co_e (c_op or_mul os_mul (co_e (c_var 2 (pv 2))) (co_e (c_var 2 (pv 2))))) (co_e (c_var 0 (pv 0))) (by first | exact nomark _ | rfl | with_unfolding_all rfl))
    (cb_one (cs_expr (c_app 1 rfl (pe_bm PySem.F.plainAttrs_list PySem.F.slot_list_append PySem.F.type_list_append mt_append (pv 1) (pa_cons (c_op op_fdivG os_fdiv (co_e (c_var 0 (pv 0))) (co_e (c_var 2 (pv 2)))) pa_nil)))))
    cb_nil)))
    cb_nil)
    (cb_one (cs_set 2 (ps_set (i := 2) nd rfl (by first | exact Or.inl rfl | exact Or.inr rfl) (c_op or_add os_add (co_e (c_var 2 (pv 2))) (co_e c_int)))))))
    (cb_one (cs_retB 1 (pv 1))))))
def N__law_shared : List Str := ["_law_one", "_law_two"]
theorem sc__law_shared : FnScope N__law_shared ["_law_one", "_law_two"] (defScope (top 26)) := ⟨rfl, rfl, rfl, by decide +kernel, rfl, by decide +kernel, by decide +kernel⟩
theorem ok__law_shared (n : Nat) (T : Tx g mg) : Has P w g.K mg base 1 "_law_shared" ["_law_one", "_law_two"] (defArgs (top 26)) (spF g 2 (f__law_shared n)) := by
  obtain ⟨fd, F⟩ := T.says.d.def_ 16 (d := dd "_law_shared" 26) rfl
  have F : FunD g.K "_law_shared" "_law_shared" (defArgs (top 26)) (defBody (top 26)) (defScope (top 26)) [] [] (He.fAd g.K ("_law_shared", none)) fd := F
  have nd := sc__law_shared.nd
  refine ⟨_, fd, FnG.by (k := 0) F sc__law_shared rfl rfl (by decide) (fun cdv A outer s H E hr gd => ?_), T.glo 16 rfl, F.kp, F.bindsN (fun _ _ _ _ _ _ us hl => match us, hl with | [_, _], _ => rfl), _, _, F⟩
  have tk : Takes (cxOf (L2.CX P w) P w g.K mg base N__law_shared "_law_shared" (defScope (top 26)) (He.fAd g.K ("_law_shared", none)) cdv A outer s H E) (fun cls d _ H => E cls d H) := takes_of rfl rfl rfl rfl
  have po : PassesOwn (model P w) (A.deeper (envOfC "_law_shared" (defScope (top 26)) s.heap.objs.size (He.fAd g.K ("_law_shared", none)) cdv)) (envOfC "_law_shared" (defScope (top 26)) s.heap.objs.size (He.fAd g.K ("_law_shared", none)) cdv) (cxOf (L2.CX P w) P w g.K mg base N__law_shared "_law_shared" (defScope (top 26)) (He.fAd g.K ("_law_shared", none)) cdv A outer s H E).xe := passes_of (X := cxOf (L2.CX P w) P w g.K mg base N__law_shared "_law_shared" (defScope (top 26)) (He.fAd g.K ("_law_shared", none)) cdv A outer s H E) rfl
  exact (cb_cons (cs_par2 0 1 (ps_par (i := 0) (j := 1) (by rfl) nd rfl rfl (by decide) rfl rfl (ed_cons (ed_e (c_cb call_abs ls_abs (by rfl) T.g_abs (by decide +kernel) (co_cons (co_e (c_var 0 (pv 0))) co_nil) (by decide +kernel) (by decide +kernel))) (ed_cons (ed_e (c_cb call_abs ls_abs (by rfl) T.g_abs (by decide +kernel) (co_cons (co_e (c_var 1 (pv 1))) co_nil) (by decide +kernel) (by decide +kernel))) ed_nil)) (by rfl)))
    (cb_cons (cs_while n po (ct_cmp op_gt os_gt (co_e (c_var 1 (pv 1))) (co_e c_int) (by first | exact nomark _ | rfl | with_unfolding_all rfl))
    (cb_one (cs_par2 0 1 (ps_par (i := 0) (j := 1) (by rfl) nd rfl rfl (by decide) rfl rfl (ed_cons (ed_e (c_var 1 (pv 1))) (ed_cons (ed_e (c_op op_modN os_mod (co_e (c_ct call_int1 ls_int (by rfl) T.g_int (by decide +kernel) (co_cons (co_e (c_var 0 (pv 0))) co_nil) (by decide +kernel) (by decide +kernel))) (co_e (c_ct call_int1 ls_int (by rfl) T.g_int (by decide +kernel) (co_cons (co_e (c_var 1 (pv 1))) co_nil) (by decide +kernel) (by decide +kernel))))) ed_nil)) (by rfl)))))
    (cb_one (cs_ret (c_var 0 (pv 0))))))
def N__law_is_three : List Str := ["_law_number_here"]
theorem sc__law_is_three : FnScope N__law_is_three ["_law_number_here"] (defScope (top 29)) := ⟨rfl, rfl, rfl, by decide +kernel, rfl, by decide +kernel, by decide +kernel⟩
theorem ok__law_is_three (n : Nat) (T : Tx g mg) : Has P w g.K mg base 1 "_law_is_three" ["_law_number_here"] (defArgs (top 29)) (spF g 1 (f__law_is_three n)) := by
  obtain ⟨fd, F⟩ := T.says.d.def_ 17 (d := dd "_law_is_three" 29) rfl
  have F : FunD g.K "_law_is_three" "_law_is_three" (defArgs (top 29)) (defBody (top 29)) (defScope (top 29)) [] [] (He.fAd g.K ("_law_is_three", none)) fd := F
  have nd := sc__law_is_three.nd
  refine ⟨_, fd, FnG.by (k := 0) F sc__law_is_three rfl rfl (by decide) (fun cdv A outer s H E hr gd => ?_), T.glo 17 rfl, F.kp, F.bindsN (fun _ _ _ _ _ _ us hl => match us, hl with | [_], _ => rfl), _, _, F⟩
  have tk : Takes (cxOf (L2.CX P w) P w g.K mg base N__law_is_three "_law_is_three" (defScope (top 29)) (He.fAd g.K ("_law_is_three", none)) cdv A outer s H E) (fun cls d _ H => E cls d H) := takes_of rfl rfl rfl rfl
  have po : PassesOwn (model P w) (A.deeper (envOfC "_law_is_three" (defScope (top 29)) s.heap.objs.size (He.fAd g.K ("_law_is_three", none)) cdv)) (envOfC "_law_is_three" (defScope (top 29)) s.heap.objs.size (He.fAd g.K ("_law_is_three", none)) cdv) (cxOf (L2.CX P w) P w g.K mg base N__law_is_three "_law_is_three" (defScope (top 29)) (He.fAd g.K ("_law_is_three", none)) cdv A outer s H E).xe := passes_of (X := cxOf (L2.CX P w) P w g.K mg base N__law_is_three "_law_is_three" (defScope (top 29)) (He.fAd g.K ("_law_is_three", none)) cdv A outer s H E) rfl
  exact (cb_cons (cs_while n po (ct_w (cw_and (ct_cmp op_gt os_gt (co_e (c_var 0 (pv 0))) (co_e c_int) (by first | exact nomark _ | rfl | with_unfolding_all rfl)) (cw_and1 (ct_cmp (or_eq (u64 hr)) os_eq (co_e (c_op op_modN os_mod (co_e (c_ct call_int1 ls_int (by rfl) T.g_int (by decide +kernel) (co_cons (co_e (c_var 0 (pv 0))) co_nil) (by decide +kernel) (by decide +kernel))) (co_e c_int))) (co_e c_int) (by first | exact nomark _ | rfl | with_unfolding_all rfl)))))
    (cb_one (cs_set 0 (ps_set (i := 0) nd rfl (by first | exact Or.inl rfl | exact Or.inr rfl) (c_op op_fdivG os_fdiv (co_e (c_var 0 (pv 0))) (co_e c_int))))))
    (cb_one (cs_ret (c_cmp (or_ne (u64 hr)) os_ne (co_e (c_op op_modN os_mod (co_e (c_ct call_int1 ls_int (by rfl) T.g_int (by decide +kernel) (co_cons (co_e (c_var 0 (pv 0))) co_nil) (by decide +kernel) (by decide +kernel))) (co_e c_int))) (co_e c_int) (by first | exact nomark _ | rfl | with_unfolding_all rfl)))))
def N__law_found_right : List Str := ["_law_count_here", "_law_number_here", "_law_is_due", "_law_told", "_law_each"]
theorem sc__law_found_right : FnScope N__law_found_right ["_law_count_here", "_law_number_here", "_law_is_due"] (defScope (top 30)) := ⟨rfl, rfl, rfl, by decide +kernel, rfl, by decide +kernel, by decide +kernel⟩
theorem ok__law_found_right (n : Nat) (T : Tx g mg) (H_squares_for : Has P w g.K mg base 8 "squares_for" ["many", "number"] (defArgs (top 21)) (spF g 2 (f_squares_for n))) : Has P w g.K mg base 9 "_law_found_right" ["_law_count_here", "_law_number_here", "_law_is_due"] (defArgs (top 30)) (spF g 3 (f__law_found_right n)) := by
  obtain ⟨fd, F⟩ := T.says.d.def_ 18 (d := dd "_law_found_right" 30) rfl
  have F : FunD g.K "_law_found_right" "_law_found_right" (defArgs (top 30)) (defBody (top 30)) (defScope (top 30)) [] [] (He.fAd g.K ("_law_found_right", none)) fd := F
  have nd := sc__law_found_right.nd
  refine ⟨_, fd, FnG.by (k := 8) F sc__law_found_right rfl rfl (by decide) (fun cdv A outer s H E hr gd => ?_), T.glo 18 rfl, F.kp, F.bindsN (fun _ _ _ _ _ _ us hl => match us, hl with | [_, _, _], _ => rfl), _, _, F⟩
  have tk : Takes (cxOf (L2.CX P w) P w g.K mg base N__law_found_right "_law_found_right" (defScope (top 30)) (He.fAd g.K ("_law_found_right", none)) cdv A outer s H E) (fun cls d _ H => E cls d H) := takes_of rfl rfl rfl rfl
  have po : PassesOwn (model P w) (A.deeper (envOfC "_law_found_right" (defScope (top 30)) s.heap.objs.size (He.fAd g.K ("_law_found_right", none)) cdv)) (envOfC "_law_found_right" (defScope (top 30)) s.heap.objs.size (He.fAd g.K ("_law_found_right", none)) cdv) (cxOf (L2.CX P w) P w g.K mg base N__law_found_right "_law_found_right" (defScope (top 30)) (He.fAd g.K ("_law_found_right", none)) cdv A outer s H E).xe := passes_of (X := cxOf (L2.CX P w) P w g.K mg base N__law_found_right "_law_found_right" (defScope (top 30)) (He.fAd g.K ("_law_found_right", none)) cdv A outer s H E) rfl
  exact (cb_cons (cs_set 3 (ps_set (i := 3) nd rfl (by first | exact Or.inl rfl | exact Or.inr rfl) (c_call H_squares_for (hr.mono (by decide)) gd (by rfl) tk (co_cons (co_e (c_var 0 (pv 0))) (co_cons (co_e (c_var 1 (pv 1))) co_nil)) (by decide +kernel))))
    (cb_cons (cs_if (ct_w (cw_or (ct_cmp (or_ne (u64 hr)) os_ne (co_e (c_callK (π := [1, 0]) (nms := ["number", "many"]) H_squares_for (hr.mono (by decide)) gd (by rfl) tk (ck_cons (co_e (c_var 1 (pv 1))) (ck_cons (co_e (c_var 0 (pv 0))) ck_nil)) K_kb_squares_for_number_many (hdb := by decide +kernel))) (co_e (c_var 3 (pv 3))) (by first | exact nomark _ | rfl | with_unfolding_all rfl)) (cw_or1 (ct_cmp (or_ne (u64 hr)) os_ne (co_e (c_notN (co_e (c_var 3 (pv 3))))) (co_e (c_var 2 (pv 2))) (by first | exact nomark _ | rfl | with_unfolding_all rfl)))))
    (cb_one (cs_ret c_bl))
    cb_nil)
    (cb_cons (cs_if (ct_isN (co_e (c_var 3 (pv 3))))
    (cb_one (cs_ret c_bl))
    cb_nil)
    (cb_cons (cs_if (ct_w (cw_or (ct_not (ct_tru (co_e (c_cb call_isi ls_isi (by rfl) T.g_isinstance (by decide +kernel) (co_cons (co_e (c_var 3 (pv 3))) (co_cons (co_e (c_gty (by rfl) T.g_tuple (by decide +kernel))) co_nil)) (by decide +kernel) (by decide +kernel))) rfl (by intro _; rfl))) (cw_or (ct_cmp (or_ne (u64 hr)) os_ne (co_e (c_cb call_len ls_len (by rfl) T.g_len (by decide +kernel) (co_cons (co_e (c_var 3 (pv 3))) co_nil) (by decide +kernel) (by decide +kernel))) (co_e (c_var 0 (pv 0))) (by first | exact nomark _ | rfl | with_unfolding_all rfl)) (cw_or (ct_cmp (or_ne (u64 hr)) os_ne (co_e (c_fr (cf_ct call_list_of fs_list (by rfl) T.g_list (by decide +kernel) (co_cons (co_e (c_var 3 (pv 3))) co_nil) (by decide +kernel) (by decide +kernel)))) (co_e (c_fr (cf_cb cr_sortedA fs_sortedA (by rfl) T.g_sorted (by decide +kernel) (co_cons (co_e (c_var 3 (pv 3))) co_nil) (by decide +kernel) (by decide +kernel)))) (by first | exact nomark _ | rfl | with_unfolding_all rfl)) (cw_or1 (ct_cmp op_lt os_lt (co_e (c_ix rfl (co_e (c_var 3 (pv 3))) (co_e c_int) (fun _ _ => rfl))) (co_e c_int) (by first | exact nomark _ | rfl | with_unfolding_all rfl)))))))
    (cb_one (cs_ret c_bl))
    cb_nil)
    (cb_one (cs_ret (c_cmp (or_eq (u64 hr)) os_eq (co_e (c_cb (cr_sum rfl) ls_sum (by rfl) T.g_sum (by decide +kernel) (co_cons (co_e (c_fr (cf_lc (pe_lc (own := [("_law_each", 4)]) (by rfl) nd (ci_any rfl (c_var 3 (pv 3))) (blkOk_by (own := [("_law_each", 4)]) (N := N__law_found_right) (sc := defScope (top 30)) (by decide +kernel)) (fun _ _ _ _ _ => (cg_name 4 (pg_name (i := 4) nd rfl (by first | exact Or.inl rfl | exact Or.inr rfl)))) (fun _ _ _ _ _ => ts_nil) (fun _ _ _ _ _ => (c_op or_mul os_mul (co_e (c_var 4 (pv 4))) (co_e (c_var 4 (pv 4)))))) (by decide)))) co_nil) (by decide +kernel) (by decide +kernel))) (co_e (c_var 1 (pv 1))) (by first | exact nomark _ | rfl | with_unfolding_all rfl))))))))
def N__law_one_of : List Str := ["_law_well_here", "_law_some"]
theorem sc__law_one_of : FnScope N__law_one_of ["_law_well_here", "_law_some"] (defScope (top 25)) := ⟨rfl, rfl, rfl, by decide +kernel, rfl, by decide +kernel, by decide +kernel⟩
theorem ok__law_one_of (n : Nat) (T : Tx g mg) (H__law_dip : Has P w g.K mg base 1 "_law_dip" ["_law_well_here", "_law_sides"] (defArgs (top 24)) (spF g 2 (f__law_dip n))) : Has P w g.K mg base 2 "_law_one_of" ["_law_well_here", "_law_some"] (defArgs (top 25)) (spF g 2 (f__law_one_of n)) := by
  obtain ⟨fd, F⟩ := T.says.d.def_ 19 (d := dd "_law_one_of" 25) rfl
  have F : FunD g.K "_law_one_of" "_law_one_of" (defArgs (top 25)) (defBody (top 25)) (defScope (top 25)) [] [] (He.fAd g.K ("_law_one_of", none)) fd := F
  have nd := sc__law_one_of.nd
  refine ⟨_, fd, FnG.by (k := 1) F sc__law_one_of rfl rfl (by decide) (fun cdv A outer s H E hr gd => ?_), T.glo 19 rfl, F.kp, F.bindsN (fun _ _ _ _ _ _ us hl => match us, hl with | [_, _], _ => rfl), _, _, F⟩
  have tk : Takes (cxOf (L2.CX P w) P w g.K mg base N__law_one_of "_law_one_of" (defScope (top 25)) (He.fAd g.K ("_law_one_of", none)) cdv A outer s H E) (fun cls d _ H => E cls d H) := takes_of rfl rfl rfl rfl
  have po : PassesOwn (model P w) (A.deeper (envOfC "_law_one_of" (defScope (top 25)) s.heap.objs.size (He.fAd g.K ("_law_one_of", none)) cdv)) (envOfC "_law_one_of" (defScope (top 25)) s.heap.objs.size (He.fAd g.K ("_law_one_of", none)) cdv) (cxOf (L2.CX P w) P w g.K mg base N__law_one_of "_law_one_of" (defScope (top 25)) (He.fAd g.K ("_law_one_of", none)) cdv A outer s H E).xe := passes_of (X := cxOf (L2.CX P w) P w g.K mg base N__law_one_of "_law_one_of" (defScope (top 25)) (He.fAd g.K ("_law_one_of", none)) cdv A outer s H E) rfl
  exact (cb_one (cs_ret (c_ix rfl (co_e (c_var 1 (pv 1))) (co_e (c_call H__law_dip (hr.mono (by decide)) gd (by rfl) tk (co_cons (co_n 0 (pv 0)) (co_cons (co_e (c_cb call_len ls_len (by rfl) T.g_len (by decide +kernel) (co_cons (co_e (c_var 1 (pv 1))) co_nil) (by decide +kernel) (by decide +kernel))) co_nil)) (by decide +kernel))) (fun _ _ => rfl))))
def N__law_right : List Str := ["_law_well_here", "_law_most", "_law_counts_here", "_law_count_here", "_law_number_here", "_law_some", "_law_two", "_law_four", "_law_told", "_law_small", "_law_one", "_law_other_one", "_law_by", "_law_both", "_law_k"]
theorem sc__law_right : FnScope N__law_right ["_law_well_here"] (defScope (top 31)) := ⟨rfl, rfl, rfl, by decide +kernel, rfl, by decide +kernel, by decide +kernel⟩
theorem ok__law_right (n : Nat) (T : Tx g mg) (H__law_dip : Has P w g.K mg base 1 "_law_dip" ["_law_well_here", "_law_sides"] (defArgs (top 24)) (spF g 2 (f__law_dip n))) (H__law_counts : Has P w g.K mg base 1 "_law_counts" ["_law_most"] (defArgs (top 27)) (spF g 1 (f__law_counts n))) (H__law_divisors : Has P w g.K mg base 1 "_law_divisors" ["_law_number_here"] (defArgs (top 28)) (spF g 1 (f__law_divisors n))) (H_count_squares : Has P w g.K mg base 4 "count_squares" ["many", "number"] (defArgs (top 20)) (spF g 2 (f_count_squares n))) (H__law_shared : Has P w g.K mg base 1 "_law_shared" ["_law_one", "_law_two"] (defArgs (top 26)) (spF g 2 (f__law_shared n))) (H__law_is_three : Has P w g.K mg base 1 "_law_is_three" ["_law_number_here"] (defArgs (top 29)) (spF g 1 (f__law_is_three n))) (H__law_found_right : Has P w g.K mg base 9 "_law_found_right" ["_law_count_here", "_law_number_here", "_law_is_due"] (defArgs (top 30)) (spF g 3 (f__law_found_right n))) (H__law_one_of : Has P w g.K mg base 2 "_law_one_of" ["_law_well_here", "_law_some"] (defArgs (top 25)) (spF g 2 (f__law_one_of n))) : Has P w g.K mg base 10 "_law_right" ["_law_well_here"] (defArgs (top 31)) (spF g 1 (f__law_right n)) := by
  obtain ⟨fd, F⟩ := T.says.d.def_ 20 (d := dd "_law_right" 31) rfl
  have F : FunD g.K "_law_right" "_law_right" (defArgs (top 31)) (defBody (top 31)) (defScope (top 31)) [] [] (He.fAd g.K ("_law_right", none)) fd := F
  have nd := sc__law_right.nd
  refine ⟨_, fd, FnG.by (k := 9) F sc__law_right rfl rfl (by decide) (fun cdv A outer s H E hr gd => ?_), T.glo 20 rfl, F.kp, F.bindsN (fun _ _ _ _ _ _ us hl => match us, hl with | [_], _ => rfl), _, _, F⟩
  have tk : Takes (cxOf (L2.CX P w) P w g.K mg base N__law_right "_law_right" (defScope (top 31)) (He.fAd g.K ("_law_right", none)) cdv A outer s H E) (fun cls d _ H => E cls d H) := takes_of rfl rfl rfl rfl
  have po : PassesOwn (model P w) (A.deeper (envOfC "_law_right" (defScope (top 31)) s.heap.objs.size (He.fAd g.K ("_law_right", none)) cdv)) (envOfC "_law_right" (defScope (top 31)) s.heap.objs.size (He.fAd g.K ("_law_right", none)) cdv) (cxOf (L2.CX P w) P w g.K mg base N__law_right "_law_right" (defScope (top 31)) (He.fAd g.K ("_law_right", none)) cdv A outer s H E).xe := passes_of (X := cxOf (L2.CX P w) P w g.K mg base N__law_right "_law_right" (defScope (top 31)) (He.fAd g.K ("_law_right", none)) cdv A outer s H E) rfl
  exact (cb_cons (cs_set 1 (ps_set (i := 1) nd rfl (by first | exact Or.inl rfl | exact Or.inr rfl) (c_call H__law_dip (hr.mono (by decide)) gd (by rfl) tk (co_cons (co_n 0 (pv 0)) (co_cons (co_e c_int) co_nil)) (by decide +kernel))))
    (cb_cons (cs_set 2 (ps_set (i := 2) nd rfl (by first | exact Or.inl rfl | exact Or.inr rfl) (c_fr (cf_call H__law_counts (hr.mono (by decide)) gd (by rfl) tk (co_cons (co_e (c_var 1 (pv 1))) co_nil) (by decide +kernel)))))
    (cb_cons (cs_for po (by rfl) (ci_any rfl (c_fr (cf_lst (ca_cons c_int (ca_cons c_int (ca_cons c_int ca_nil)))))) (cg_name 3 (pg_name (i := 3) nd rfl (by first | exact Or.inl rfl | exact Or.inr rfl)))
    (cb_cons (cs_if (ct_cmp (or_ne (u64 hr)) os_ne (co_e (c_fr (cf_lc (pe_lc (own := [("_law_k", 14)]) (by rfl) nd (ci_range1 (by rfl) T.g_range (co_cons (co_e (c_op or_add os_add (co_e (c_var 1 (pv 1))) (co_e c_int))) co_nil)) (blkOk_by (own := [("_law_k", 14)]) (N := N__law_right) (sc := defScope (top 31)) (by decide +kernel)) (fun _ _ _ _ _ => (cg_name 14 (pg_name (i := 14) nd rfl (by first | exact Or.inl rfl | exact Or.inr rfl)))) (fun _ _ _ _ _ => ts_nil) (fun _ _ _ _ _ => (c_call H_count_squares (hr.mono (by decide)) gd (by rfl) takes0 (co_cons (co_e (c_var 3 (pv 3))) (co_cons (co_e (c_var 14 (pv 14))) co_nil)) (by decide +kernel)))) (by decide)))) (co_e (c_ix rfl (co_e (c_var 2 (pv 2))) (co_e (c_op op_sub os_sub (co_e (c_var 3 (pv 3))) (co_e c_int))) (fun _ _ => rfl))) (by first | exact nomark _ | rfl | with_unfolding_all rfl))
    (cb_one (cs_ret c_bl))
    cb_nil)
    (cb_one (cs_if (ct_not (ct_tru (co_e (c_call H__law_found_right (hr.mono (by decide)) gd (by rfl) tk (co_cons (co_e (c_var 3 (pv 3))) (co_cons (co_e (c_var 1 (pv 1))) (co_cons (co_e (c_cmp op_gt os_gt (co_e (c_ix rfl (co_e (c_ix rfl (co_e (c_var 2 (pv 2))) (co_e (c_op op_sub os_sub (co_e (c_var 3 (pv 3))) (co_e c_int))) (fun _ _ => rfl))) (co_e (c_var 1 (pv 1))) (fun _ _ => rfl))) (co_e c_int) (by first | exact nomark _ | rfl | with_unfolding_all rfl))) co_nil))) (by decide +kernel))) rfl (by intro _; rfl)))
    (cb_one (cs_ret c_bl))
    cb_nil))))
    (cb_cons (cs_set 4 (ps_set (i := 4) nd rfl (by first | exact Or.inl rfl | exact Or.inr rfl) (c_op or_add os_add (co_e c_int) (co_e (c_call H__law_dip (hr.mono (by decide)) gd (by rfl) tk (co_cons (co_n 0 (pv 0)) (co_cons (co_e (c_call H__law_one_of (hr.mono (by decide)) gd (by rfl) tk (co_cons (co_n 0 (pv 0)) (co_cons (co_e (c_fr (cf_lst (ca_cons c_int (ca_cons c_int (ca_cons c_int ca_nil)))))) co_nil)) (by decide +kernel))) co_nil)) (by decide +kernel))))))
    (cb_cons (cs_set 5 (ps_set (i := 5) nd rfl (by first | exact Or.inl rfl | exact Or.inr rfl) (c_fr (cf_call H__law_divisors (hr.mono (by decide)) gd (by rfl) tk (co_cons (co_e (c_var 4 (pv 4))) co_nil) (by decide +kernel)))))
    (cb_cons (cs_set 6 (ps_set (i := 6) nd rfl (by first | exact Or.inl rfl | exact Or.inr rfl) (c_op or_mul os_mul (co_e c_int) (co_e (c_op op_sub os_sub (co_e (c_cb call_len ls_len (by rfl) T.g_len (by decide +kernel) (co_cons (co_e (c_fr (cf_lc (pe_lc (own := [("_law_k", 14)]) (by rfl) nd (ci_any rfl (c_var 5 (pv 5))) (blkOk_by (own := [("_law_k", 14)]) (N := N__law_right) (sc := defScope (top 31)) (by decide +kernel)) (fun _ _ _ _ _ => (cg_name 14 (pg_name (i := 14) nd rfl (by first | exact Or.inl rfl | exact Or.inr rfl)))) (fun _ _ _ _ _ => (ts_one (ct_cmp (or_eq (u64 hr)) os_eq (co_e (c_op op_modN os_mod (co_e (c_ct call_int1 ls_int (by rfl) T.g_int (by decide +kernel) (co_cons (co_e (c_var 14 (pv 14))) co_nil) (by decide +kernel) (by decide +kernel))) (co_e c_int))) (co_e c_int) (by first | exact nomark _ | rfl | with_unfolding_all rfl)))) (fun _ _ _ _ _ => (c_var 14 (pv 14)))) (by decide)))) co_nil) (by decide +kernel) (by decide +kernel))) (co_e (c_cb call_len ls_len (by rfl) T.g_len (by decide +kernel) (co_cons (co_e (c_fr (cf_lc (pe_lc (own := [("_law_k", 14)]) (by rfl) nd (ci_any rfl (c_var 5 (pv 5))) (blkOk_by (own := [("_law_k", 14)]) (N := N__law_right) (sc := defScope (top 31)) (by decide +kernel)) (fun _ _ _ _ _ => (cg_name 14 (pg_name (i := 14) nd rfl (by first | exact Or.inl rfl | exact Or.inr rfl)))) (fun _ _ _ _ _ => (ts_one (ct_cmp (or_eq (u64 hr)) os_eq (co_e (c_op op_modN os_mod (co_e (c_ct call_int1 ls_int (by rfl) T.g_int (by decide +kernel) (co_cons (co_e (c_var 14 (pv 14))) co_nil) (by decide +kernel) (by decide +kernel))) (co_e c_int))) (co_e c_int) (by first | exact nomark _ | rfl | with_unfolding_all rfl)))) (fun _ _ _ _ _ => (c_var 14 (pv 14)))) (by decide)))) co_nil) (by decide +kernel) (by decide +kernel))))))))
    (cb_cons (cs_set 7 (ps_set (i := 7) nd rfl (by first | exact Or.inl rfl | exact Or.inr rfl) (c_op or_mul os_mul (co_e c_int) (co_e (c_cb (cr_sum rfl) ls_sum (by rfl) T.g_sum (by decide +kernel) (co_cons (co_e (c_fr (cf_lc (pe_lc (own := [("_law_k", 14)]) (by rfl) nd (ci_any rfl (c_var 5 (pv 5))) (blkOk_by (own := [("_law_k", 14)]) (N := N__law_right) (sc := defScope (top 31)) (by decide +kernel)) (fun _ _ _ _ _ => (cg_name 14 (pg_name (i := 14) nd rfl (by first | exact Or.inl rfl | exact Or.inr rfl)))) (fun _ _ _ _ _ => (ts_one (ct_cmp (or_ne (u64 hr)) os_ne (co_e (c_op op_modN os_mod (co_e (c_ct call_int1 ls_int (by rfl) T.g_int (by decide +kernel) (co_cons (co_e (c_var 14 (pv 14))) co_nil) (by decide +kernel) (by decide +kernel))) (co_e c_int))) (co_e c_int) (by first | exact nomark _ | rfl | with_unfolding_all rfl)))) (fun _ _ _ _ _ => (c_var 14 (pv 14)))) (by decide)))) co_nil) (by decide +kernel) (by decide +kernel))))))
    (cb_cons (cs_set 8 (ps_set (i := 8) nd rfl (by first | exact Or.inl rfl | exact Or.inr rfl) (c_fr (cf_lst (ca_cons (c_call H_count_squares (hr.mono (by decide)) gd (by rfl) tk (co_cons (co_e c_int) (co_cons (co_e (c_var 4 (pv 4))) co_nil)) (by decide +kernel)) (ca_cons (c_callK (π := [1, 0]) (nms := ["number", "many"]) H_count_squares (hr.mono (by decide)) gd (by rfl) tk (ck_cons (co_e (c_var 4 (pv 4))) (ck_cons (co_e c_int) ck_nil)) K_kb_count_squares_number_many (hdb := by decide +kernel)) ca_nil))))))
    (cb_cons (cs_if (ct_w (cw_or (ct_cmp (or_ne (u64 hr)) os_ne (co_e (c_cb (call_reprD (u65 hr) gd) ls_repr (by rfl) T.g_repr (by decide +kernel) (co_cons (co_e (c_var 8 (pv 8))) co_nil) (by decide +kernel) (by decide +kernel))) (co_e (c_cb (call_reprD (u65 hr) gd) ls_repr (by rfl) T.g_repr (by decide +kernel) (co_cons (co_e (c_fr (cf_lst (ca_cons (c_var 6 (pv 6)) (ca_cons (c_var 7 (pv 7)) ca_nil))))) co_nil) (by decide +kernel) (by decide +kernel))) (by first | exact nomark _ | rfl | with_unfolding_all rfl)) (cw_or1 (ct_not (ct_tru (co_e (c_call H__law_found_right (hr.mono (by decide)) gd (by rfl) tk (co_cons (co_e c_int) (co_cons (co_e (c_var 4 (pv 4))) (co_cons (co_e (c_cmp op_gt os_gt (co_e (c_var 6 (pv 6))) (co_e c_int) (by first | exact nomark _ | rfl | with_unfolding_all rfl))) co_nil))) (by decide +kernel))) rfl (by intro _; rfl))))))
    (cb_one (cs_ret c_bl))
    cb_nil)
    (cb_cons (cs_set 9 (ps_set (i := 9) nd rfl (by first | exact Or.inl rfl | exact Or.inr rfl) (c_op or_add os_add (co_e c_int) (co_e (c_call H__law_dip (hr.mono (by decide)) gd (by rfl) tk (co_cons (co_n 0 (pv 0)) (co_cons (co_e c_int) co_nil)) (by decide +kernel))))))
    (cb_cons (cs_if (ct_w (cw_or (ct_not (ct_tru (co_e (c_call H__law_found_right (hr.mono (by decide)) gd (by rfl) tk (co_cons (co_e c_int) (co_cons (co_e (c_var 9 (pv 9))) (co_cons (co_e (c_call H__law_is_three (hr.mono (by decide)) gd (by rfl) tk (co_cons (co_e (c_var 9 (pv 9))) co_nil) (by decide +kernel))) co_nil))) (by decide +kernel))) rfl (by intro _; rfl))) (cw_or1 (ct_not (ct_tru (co_e (c_call H__law_found_right (hr.mono (by decide)) gd (by rfl) tk (co_cons (co_e c_int) (co_cons (co_e (c_var 9 (pv 9))) (co_cons (co_e c_bl) co_nil))) (by decide +kernel))) rfl (by intro _; rfl))))))
    (cb_one (cs_ret c_bl))
    cb_nil)
    (cb_cons (cs_par2 10 11 (ps_par (i := 10) (j := 11) (by rfl) nd rfl rfl (by decide) rfl rfl (ed_cons (ed_e (c_op or_add os_add (co_e c_int) (co_e (c_call H__law_dip (hr.mono (by decide)) gd (by rfl) tk (co_cons (co_n 0 (pv 0)) (co_cons (co_e c_int) co_nil)) (by decide +kernel))))) (ed_cons (ed_e (c_op or_add os_add (co_e c_int) (co_e (c_call H__law_dip (hr.mono (by decide)) gd (by rfl) tk (co_cons (co_n 0 (pv 0)) (co_cons (co_e c_int) co_nil)) (by decide +kernel))))) ed_nil)) (by rfl)))
    (cb_cons (cs_if (ct_cmp (or_eq (u64 hr)) os_eq (co_e (c_call H__law_shared (hr.mono (by decide)) gd (by rfl) tk (co_cons (co_e (c_var 10 (pv 10))) (co_cons (co_e (c_var 11 (pv 11))) co_nil)) (by decide +kernel))) (co_e c_int) (by first | exact nomark _ | rfl | with_unfolding_all rfl))
    (cb_one (cs_for po (by rfl) (ci_any rfl (c_fr (cf_lst (ca_cons (c_tup (ca_cons c_int (ca_cons c_int ca_nil))) (ca_cons (c_tup (ca_cons c_int (ca_cons c_int ca_nil))) ca_nil))))) (cg_tup (by rfl) rfl (cgs_cons (cg_name 3 (pg_name (i := 3) nd rfl (by first | exact Or.inl rfl | exact Or.inr rfl))) (cgs_cons (cg_name 12 (pg_name (i := 12) nd rfl (by first | exact Or.inl rfl | exact Or.inr rfl))) cgs_nil)))
    (cb_cons (cs_set 13 (ps_set (i := 13) nd rfl (by first | exact Or.inl rfl | exact Or.inr rfl) (c_op or_mul os_mul (co_e (c_call H_count_squares (hr.mono (by decide)) gd (by rfl) tk (co_cons (co_e (c_var 3 (pv 3))) (co_cons (co_e (c_var 10 (pv 10))) co_nil)) (by decide +kernel))) (co_e (c_call H_count_squares (hr.mono (by decide)) gd (by rfl) tk (co_cons (co_e (c_var 3 (pv 3))) (co_cons (co_e (c_var 11 (pv 11))) co_nil)) (by decide +kernel))))))
    (cb_one (cs_if (ct_cmp (or_ne (u64 hr)) os_ne (co_e (c_op or_mul os_mul (co_e (c_var 12 (pv 12))) (co_e (c_call H_count_squares (hr.mono (by decide)) gd (by rfl) tk (co_cons (co_e (c_var 3 (pv 3))) (co_cons (co_e (c_op or_mul os_mul (co_e (c_var 10 (pv 10))) (co_e (c_var 11 (pv 11))))) co_nil)) (by decide +kernel))))) (co_e (c_var 13 (pv 13))) (by first | exact nomark _ | rfl | with_unfolding_all rfl))
    (cb_one (cs_ret c_bl))
    cb_nil)))))
    cb_nil)
    (cb_one (cs_ret (c_cmp (or_eq (u64 hr)) os_eq (co_e (c_cmp op_gt os_gt (co_e (c_call H_count_squares (hr.mono (by decide)) gd (by rfl) tk (co_cons (co_e c_int) (co_cons (co_e (c_var 9 (pv 9))) co_nil)) (by decide +kernel))) (co_e c_int) (by first | exact nomark _ | rfl | with_unfolding_all rfl))) (co_e (c_call H__law_is_three (hr.mono (by decide)) gd (by rfl) tk (co_cons (co_e (c_var 9 (pv 9))) co_nil) (by decide +kernel))) (by first | exact nomark _ | rfl | with_unfolding_all rfl)))))))))))))))))
def N__law_well : List Str := ["_law_cells", "_law_turn", "_law_cell", "_law_stirred", "_law_each"]
theorem sc__law_well : FnScope N__law_well ["_law_cells", "_law_turn"] (defScope (top 23)) := ⟨rfl, rfl, rfl, by decide +kernel, rfl, by decide +kernel, by decide +kernel⟩
theorem ok__law_well (n : Nat) (T : Tx g mg) : Has P w g.K mg base 1 "_law_well" ["_law_cells", "_law_turn"] (defArgs (top 23)) (spF g 2 (f__law_well n)) := by
  obtain ⟨fd, F⟩ := T.says.d.def_ 21 (d := dd "_law_well" 23) rfl
  have F : FunD g.K "_law_well" "_law_well" (defArgs (top 23)) (defBody (top 23)) (defScope (top 23)) [] [] (He.fAd g.K ("_law_well", none)) fd := F
  have nd := sc__law_well.nd
  refine ⟨_, fd, FnG.by (k := 0) F sc__law_well rfl rfl (by decide) (fun cdv A outer s H E hr gd => ?_), T.glo 21 rfl, F.kp, F.bindsN (fun _ _ _ _ _ _ us hl => match us, hl with | [_, _], _ => rfl), _, _, F⟩
  have tk : Takes (cxOf (L2.CX P w) P w g.K mg base N__law_well "_law_well" (defScope (top 23)) (He.fAd g.K ("_law_well", none)) cdv A outer s H E) (fun cls d _ H => E cls d H) := takes_of rfl rfl rfl rfl
  have po : PassesOwn (model P w) (A.deeper (envOfC "_law_well" (defScope (top 23)) s.heap.objs.size (He.fAd g.K ("_law_well", none)) cdv)) (envOfC "_law_well" (defScope (top 23)) s.heap.objs.size (He.fAd g.K ("_law_well", none)) cdv) (cxOf (L2.CX P w) P w g.K mg base N__law_well "_law_well" (defScope (top 23)) (He.fAd g.K ("_law_well", none)) cdv A outer s H E).xe := passes_of (X := cxOf (L2.CX P w) P w g.K mg base N__law_well "_law_well" (defScope (top 23)) (He.fAd g.K ("_law_well", none)) cdv A outer s H E) rfl
  exact (cb_cons (cs_set 2 (ps_set (i := 2) nd rfl (by first | exact Or.inl rfl | exact Or.inr rfl) (c_if (ct_cmp op_lt os_lt (co_e (c_var 1 (pv 1))) (co_e (c_cb call_len ls_len (by rfl) T.g_len (by decide +kernel) (co_cons (co_e (c_var 0 (pv 0))) co_nil) (by decide +kernel) (by decide +kernel))) (by first | exact nomark _ | rfl | with_unfolding_all rfl)) (c_ix rfl (co_e (c_var 0 (pv 0))) (co_e (c_var 1 (pv 1))) (fun _ _ => rfl)) (c_op or_add os_add (co_e (c_op or_mul os_mul (co_e c_int) (co_e (c_var 1 (pv 1))))) (co_e c_int)))))
    (cb_cons (cs_set 3 (ps_set (i := 3) nd rfl (by first | exact Or.inl rfl | exact Or.inr rfl) (c_op or_add os_add (co_e c_int) (co_e (c_op or_mul os_mul (co_e c_int) (co_e (c_var 1 (pv 1))))))))
    (cb_cons (cs_for po (by rfl) (ci_any rfl (c_fr (cf_op op_cat fs_cat (co_e (c_fr (cf_sl rfl (co_e (c_var 0 (pv 0))) cp_none (cp_some c_int)))) (co_e (c_fr (cf_lst (ca_cons (c_var 2 (pv 2)) ca_nil))))))) (cg_name 4 (pg_name (i := 4) nd rfl (by first | exact Or.inl rfl | exact Or.inr rfl)))
    (cb_one (cs_set 3 (ps_set (i := 3) nd rfl (by first | exact Or.inl rfl | exact Or.inr rfl) (c_op op_modN os_mod (co_e (c_ct call_int1 ls_int (by rfl) T.g_int (by decide +kernel) (co_cons (co_e (c_op or_add os_add (co_e (c_op or_add os_add (co_e (c_op or_mul os_mul (co_e (c_var 3 (pv 3))) (co_e c_int))) (co_e (c_op or_mul os_mul (co_e (c_var 4 (pv 4))) (co_e c_int))))) (co_e c_int))) co_nil) (by decide +kernel) (by decide +kernel))) (co_e c_int))))))
    (cb_one (cs_retF (cf_lst (ca_cons (c_if (ct_w (cw_or (ct_cmp op_lt os_lt (co_e (c_var 2 (pv 2))) (co_e c_int) (by first | exact nomark _ | rfl | with_unfolding_all rfl)) (cw_or1 (ct_cmp op_ge os_ge (co_e (c_var 2 (pv 2))) (co_e (c_op op_pow os_pow (co_e c_int) (co_e c_int))) (by first | exact nomark _ | rfl | with_unfolding_all rfl))))) (c_cb call_abs ls_abs (by rfl) T.g_abs (by decide +kernel) (co_cons (co_e (c_var 2 (pv 2))) co_nil) (by decide +kernel) (by decide +kernel)) c_int) (ca_cons (c_var 3 (pv 3)) (ca_cons c_int ca_nil)))))))))
def N_law : List Str := ["_law_cells", "_law_told", "_law_turn"]
theorem sc_law : FnScope N_law ["_law_cells"] (defScope (top 32)) := ⟨rfl, rfl, rfl, by decide +kernel, rfl, by decide +kernel, by decide +kernel⟩
theorem ok_law (n : Nat) (T : Tx g mg) (H_count_squares : Has P w g.K mg base 4 "count_squares" ["many", "number"] (defArgs (top 20)) (spF g 2 (f_count_squares n))) (H_squares_for : Has P w g.K mg base 8 "squares_for" ["many", "number"] (defArgs (top 21)) (spF g 2 (f_squares_for n))) (H__law_right : Has P w g.K mg base 10 "_law_right" ["_law_well_here"] (defArgs (top 31)) (spF g 1 (f__law_right n))) (H__law_well : Has P w g.K mg base 1 "_law_well" ["_law_cells", "_law_turn"] (defArgs (top 23)) (spF g 2 (f__law_well n))) : Has P w g.K mg base 11 "law" ["_law_cells"] (defArgs (top 32)) (spF g 1 (f_law n)) := by
  obtain ⟨fd, F⟩ := T.says.d.def_ 22 (d := dd "law" 32) rfl
  have F : FunD g.K "law" "law" (defArgs (top 32)) (defBody (top 32)) (defScope (top 32)) [] [] (He.fAd g.K ("law", none)) fd := F
  have nd := sc_law.nd
  refine ⟨_, fd, FnG.by (k := 10) F sc_law rfl rfl (by decide) (fun cdv A outer s H E hr gd => ?_), T.glo 22 rfl, F.kp, F.bindsN (fun _ _ _ _ _ _ us hl => match us, hl with | [_], _ => rfl), _, _, F⟩
  have tk : Takes (cxOf (L2.CX P w) P w g.K mg base N_law "law" (defScope (top 32)) (He.fAd g.K ("law", none)) cdv A outer s H E) (fun cls d _ H => E cls d H) := takes_of rfl rfl rfl rfl
  have po : PassesOwn (model P w) (A.deeper (envOfC "law" (defScope (top 32)) s.heap.objs.size (He.fAd g.K ("law", none)) cdv)) (envOfC "law" (defScope (top 32)) s.heap.objs.size (He.fAd g.K ("law", none)) cdv) (cxOf (L2.CX P w) P w g.K mg base N_law "law" (defScope (top 32)) (He.fAd g.K ("law", none)) cdv A outer s H E).xe := passes_of (X := cxOf (L2.CX P w) P w g.K mg base N_law "law" (defScope (top 32)) (He.fAd g.K ("law", none)) cdv A outer s H E) rfl
  exact (cb_cons (cs_set 1 (ps_set (i := 1) nd rfl (by first | exact Or.inl rfl | exact Or.inr rfl) (c_fr (cf_lst (ca_cons (c_call H_count_squares (hr.mono (by decide)) gd (by rfl) tk (co_cons (co_e c_int) (co_cons (co_e c_int) co_nil)) (by decide +kernel)) (ca_cons (c_call H_count_squares (hr.mono (by decide)) gd (by rfl) tk (co_cons (co_e c_int) (co_cons (co_e c_int) co_nil)) (by decide +kernel)) (ca_cons (c_call H_count_squares (hr.mono (by decide)) gd (by rfl) tk (co_cons (co_e c_int) (co_cons (co_e c_int) co_nil)) (by decide +kernel)) (ca_cons (c_call H_count_squares (hr.mono (by decide)) gd (by rfl) tk (co_cons (co_e c_int) (co_cons (co_e c_int) co_nil)) (by decide +kernel)) ca_nil))))))))
    (cb_cons (cs_if (ct_cmp (or_ne (u64 hr)) os_ne (co_e (c_fr (cf_op op_cat fs_cat (co_e (c_var 1 (pv 1))) (co_e (c_fr (cf_lst (ca_cons (c_call H_count_squares (hr.mono (by decide)) gd (by rfl) tk (co_cons (co_e c_int) (co_cons (co_e (c_op op_pow os_pow (co_e c_int) (co_e c_int))) co_nil)) (by decide +kernel)) ca_nil))))))) (co_e (c_fr (cf_lst (ca_cons c_int (ca_cons c_int (ca_cons c_int (ca_cons c_int (ca_cons c_int ca_nil)))))))) (by first | exact nomark _ | rfl | with_unfolding_all rfl))
    (cb_one (cs_ret c_bl))
    cb_nil)
    (cb_cons (cs_if (ct_cmp (or_ne (u64 hr)) os_ne (co_e (c_fr (cf_lst (ca_cons (c_call H_squares_for (hr.mono (by decide)) gd (by rfl) tk (co_cons (co_e c_int) (co_cons (co_e c_int) co_nil)) (by decide +kernel)) (ca_cons (c_call H_squares_for (hr.mono (by decide)) gd (by rfl) tk (co_cons (co_e c_int) (co_cons (co_e c_int) co_nil)) (by decide +kernel)) (ca_cons (c_call H_squares_for (hr.mono (by decide)) gd (by rfl) tk (co_cons (co_e c_int) (co_cons (co_e c_int) co_nil)) (by decide +kernel)) ca_nil)))))) (co_e (c_fr (cf_lst (ca_cons c_non (ca_cons c_non (ca_cons (c_tup (ca_cons c_int (ca_cons c_int (ca_cons c_int (ca_cons c_int ca_nil))))) ca_nil)))))) (by first | exact nomark _ | rfl | with_unfolding_all rfl))
    (cb_one (cs_ret c_bl))
    cb_nil)
    (cb_one (cs_ret (c_cb (cr_all rfl) ls_all (by rfl) T.g_all (by decide +kernel) (co_cons (co_e (c_fr (cf_lc (pe_lc (own := [("_law_turn", 2)]) (by rfl) nd (ci_range1 (by rfl) T.g_range (co_cons (co_e (c_cb (call_max2 rfl) ls_max2 (by rfl) T.g_max (by decide +kernel) (co_cons (co_e c_int) (co_cons (co_e (c_cb (call_min2 rfl) ls_min2 (by rfl) T.g_min (by decide +kernel) (co_cons (co_e (c_cb call_len ls_len (by rfl) T.g_len (by decide +kernel) (co_cons (co_e (c_var 0 (pv 0))) co_nil) (by decide +kernel) (by decide +kernel))) (co_cons (co_e c_int) co_nil)) (by decide +kernel) (by decide +kernel))) co_nil)) (by decide +kernel) (by decide +kernel))) co_nil)) (blkOk_by (own := [("_law_turn", 2)]) (N := N_law) (sc := defScope (top 32)) (by decide +kernel)) (fun _ _ _ _ _ => (cg_name 2 (pg_name (i := 2) nd rfl (by first | exact Or.inl rfl | exact Or.inr rfl)))) (fun _ _ _ _ _ => ts_nil) (fun _ _ _ _ _ => (c_call1 H__law_right (hr.mono (by decide)) gd (by rfl) takes0 (cf_call H__law_well (hr.mono (by decide)) gd (by rfl) takes0 (co_cons (co_e (c_var 0 (pv 0))) (co_cons (co_e (c_var 2 (pv 2))) co_nil)) (by decide +kernel)) (by decide +kernel)))) (by decide)))) co_nil) (by decide +kernel) (by decide +kernel)))))))
end
theorem all_has {P : Program} {w : World} {mg : Str → Option Value} {base : Heap} {g : GC} (n : Nat) (T : Tx g mg) : Has P w g.K mg base 11 "law" ["_law_cells"] (defArgs (top 32)) (spF g 1 (f_law n)) := by
  have H_is_integer := ok_is_integer (P := P) (w := w) (base := base) n T
  have H_is_between := ok_is_between (P := P) (w := w) (base := base) n T H_is_integer
  have H_check_many := ok_check_many (P := P) (w := w) (base := base) n T H_is_between
  have H_check_sum := ok_check_sum (P := P) (w := w) (base := base) n T H_is_between
  have H_divisors_of := ok_divisors_of (P := P) (w := w) (base := base) n T
  have H_count_two := ok_count_two (P := P) (w := w) (base := base) n T H_divisors_of
  have H_count_four := ok_count_four (P := P) (w := w) (base := base) n T H_divisors_of
  have H_root_of := ok_root_of (P := P) (w := w) (base := base) n T
  have H_count_three := ok_count_three (P := P) (w := w) (base := base) n T H_root_of H_count_two
  have H_count_squares := ok_count_squares (P := P) (w := w) (base := base) n T H_check_many H_check_sum H_count_two H_count_four H_count_three
  have H_is_square := ok_is_square (P := P) (w := w) (base := base) n T H_root_of
  have H_found_squares := ok_found_squares (P := P) (w := w) (base := base) n T H_count_two H_is_square H_root_of 4
  have H_squares_for := ok_squares_for (P := P) (w := w) (base := base) n T H_check_many H_check_sum H_found_squares
  have H__law_dip := ok__law_dip (P := P) (w := w) (base := base) n T
  have H__law_counts := ok__law_counts (P := P) (w := w) (base := base) n T
  have H__law_divisors := ok__law_divisors (P := P) (w := w) (base := base) n T
  have H__law_shared := ok__law_shared (P := P) (w := w) (base := base) n T
  have H__law_is_three := ok__law_is_three (P := P) (w := w) (base := base) n T
  have H__law_found_right := ok__law_found_right (P := P) (w := w) (base := base) n T H_squares_for
  have H__law_one_of := ok__law_one_of (P := P) (w := w) (base := base) n T H__law_dip
  have H__law_right := ok__law_right (P := P) (w := w) (base := base) n T H__law_dip H__law_counts H__law_divisors H_count_squares H__law_shared H__law_is_three H__law_found_right H__law_one_of
  have H__law_well := ok__law_well (P := P) (w := w) (base := base) n T
  have H_law := ok_law (P := P) (w := w) (base := base) n T H_count_squares H_squares_for H__law_right H__law_well
  exact H_law
end Fw
namespace Fw
open PySem L2
/-! ## Y. for plain proofs -/
theorem wh_eq {c : M Bool} {b : M Fl} {n : Nat} {e : Ev} : mWh c b (n + 1) e = (match c e with
    | .ok true e1 => (match b e1 with
      | .ok .nx e2 => mWh c b n e2
      | .ok .ct e2 => mWh c b n e2
      | .ok .bk e2 => .ok .nx e2
      | r => r)
    | .ok false e1 => .ok .nx e1
    | .exc k d e1 => .exc k d e1
    | .bad => .bad) := rfl
theorem fl_eq {bd : D → M Unit} {b : M Fl} {d : D} {ds : List D} {e : Ev} : mFl bd b (d :: ds) e = (match bd d e with
    | .ok _ e1 => (match b e1 with
      | .ok .nx e2 => mFl bd b ds e2
      | .ok .ct e2 => mFl bd b ds e2
      | .ok .bk e2 => .ok .nx e2
      | r => r)
    | _ => .bad) := rfl
theorem fl_nil {bd : D → M Unit} {b : M Fl} {e : Ev} : mFl bd b [] e = .ok .nx e := rfl
theorem lc_eq {own : List Nat} {bd : D → M Unit} {t : M Bool} {el : M D} {d : D} {ds acc : List D} {e : Ev} : mLcL own bd t el (d :: ds) acc e = (match bd d e with
        | .ok _ e1 => (match t e1 with
          | .ok true e2 => (match el e2 with
            | .ok y e3 => if acc.length < 1000000 then mLcL own bd t el ds (acc ++ [y]) (wipeE e3 own) else .bad
            | _ => .bad)
          | .ok false e2 => mLcL own bd t el ds acc (wipeE e2 own)
          | _ => .bad)
        | _ => .bad) := rfl
theorem lc_nil {own : List Nat} {bd : D → M Unit} {t : M Bool} {el : M D} {acc : List D} {e : Ev} : mLcL own bd t el [] acc e = .ok acc e := rfl
theorem sq_to {a b : M Fl} {e e1 : Ev} {R : Rs Fl} (h1 : a e = .ok .nx e1) (h2 : b e1 = R) : mSq a b e = R := by
  unfold mSq; rw [h1]; exact h2
theorem sq_rt {a b : M Fl} {e e1 : Ev} {d : D} (h1 : a e = .ok (.rt d) e1) : mSq a b e = .ok (.rt d) e1 := by
  unfold mSq; rw [h1]
theorem if_t {c : M Bool} {a b : M Fl} {e e1 : Ev} {R : Rs Fl} (h1 : c e = .ok true e1) (h2 : a e1 = R) : mIf c a b e = R := by
  rw [e_If, h1]; exact h2
theorem if_f {c : M Bool} {a b : M Fl} {e e1 : Ev} {R : Rs Fl} (h1 : c e = .ok false e1) (h2 : b e1 = R) : mIf c a b e = R := by
  rw [e_If, h1]; exact h2
theorem fl_to {bd : D → M Unit} {b : M Fl} {d : D} {ds : List D} {e e1 e2 : Ev} {R : Rs Fl} (h1 : bd d e = .ok () e1) (h2 : b e1 = .ok .nx e2) (h3 : mFl bd b ds e2 = R) : mFl bd b (d :: ds) e = R := by
  rw [fl_eq, h1]; simp only [h2]; exact h3
theorem fl_rt {bd : D → M Unit} {b : M Fl} {d d' : D} {ds : List D} {e e1 e2 : Ev} (h1 : bd d e = .ok () e1) (h2 : b e1 = .ok (.rt d') e2) : mFl bd b (d :: ds) e = .ok (.rt d') e2 := by
  rw [fl_eq, h1]; simp only [h2]
theorem wh_to {c : M Bool} {b : M Fl} {n : Nat} {e e1 e2 : Ev} {R : Rs Fl} (h1 : c e = .ok true e1) (h2 : b e1 = .ok .nx e2) (h3 : mWh c b n e2 = R) : mWh c b (n + 1) e = R := by
  rw [wh_eq, h1]; simp only [h2]; exact h3
theorem wh_end {c : M Bool} {b : M Fl} {n : Nat} {e e1 : Ev} (h1 : c e = .ok false e1) : mWh c b (n + 1) e = .ok .nx e1 := by
  rw [wh_eq, h1]
theorem Np.o {x : Sl} (h : x = .emp ∨ ∃ d, x = .val d) : ∃ o, x = slOf o := by
  rcases h with rfl | ⟨d, rfl⟩
  · exact ⟨none, rfl⟩
  · exact ⟨some d, rfl⟩
def Np (x : Sl) : Prop := x = .emp ∨ ∃ d, x = .val d
theorem Np.e : Np .emp := .inl rfl
theorem Np.v (d : D) : Np (.val d) := .inr ⟨d, rfl⟩
theorem dIx_ok {ds : List D} {r : Int} (h0 : 0 ≤ r) (h1 : r < ds.length) : ∃ d ∈ ds, dIx (.lst ds) (.int r) = some d := by
  have hr : r.toNat < ds.length := by omega
  refine ⟨ds[r.toNat], List.getElem_mem hr, ?_⟩
  show L2.atI ds r = _
  unfold L2.atI ixN
  rw [if_pos h0, if_pos h1]
  exact List.getElem?_eq_getElem hr
theorem dIx_scr {ns : List Int} {r : Int} (h0 : 0 ≤ r) (h1 : r < ns.length) : ∃ i, dIx (.scr ns) (.int r) = some (.int i) := by
  have hr : r.toNat < ns.length := by omega
  refine ⟨ns[r.toNat], ?_⟩
  show (L2.atI ns r).map D.int = _
  unfold L2.atI ixN
  rw [if_pos h0, if_pos h1]
  show (ns[r.toNat]?).map D.int = _
  rw [List.getElem?_eq_getElem hr]
  rfl
/-- the first so many of the script -/
theorem cut_scr (ns : List Int) (k : Int) : ∃ L : List Int, dCutL (.scr ns) none (some k) = some (L.map D.int) := by
  refine ⟨(ns.drop (HT.sIx (ns.map D.int).length 0 none)).take (HT.sIx (ns.map D.int).length (ns.map D.int).length (some k) - HT.sIx (ns.map D.int).length 0 none), ?_⟩
  show some (cutD (ns.map D.int) none (some k)) = _
  unfold cutD
  rw [List.map_take, List.map_drop]
theorem log2_le {n a : Nat} (h : n < 2 ^ a) : n.log2 ≤ a := by
  by_cases z : n = 0
  · subst z; simp
  · exact Nat.le_of_lt ((Nat.log2_lt z).mpr h)
theorem dMul_w {i j : Int} {a b : Nat} (h : i.natAbs < 2 ^ a) (h' : j.natAbs < 2 ^ b) (hab : a + b < 1000000) : dMul (.int i) (.int j) = some (.int (i * j)) := by
  have h1 := log2_le h
  have h2 := log2_le h'
  have : mulOk i j = true := by
    unfold mulOk
    rw [Bool.or_eq_true]
    right
    exact decide_eq_true (by omega)
  simp [dMul, this]
@[simp] theorem jx2a {a b : D} : dIx (.tup [a, b]) (.int 0) = some a := rfl
@[simp] theorem jx2b {a b : D} : dIx (.tup [a, b]) (.int 1) = some b := rfl
@[simp] theorem jx3a {a b c : D} : dIx (.tup [a, b, c]) (.int 0) = some a := rfl
@[simp] theorem jx3b {a b c : D} : dIx (.tup [a, b, c]) (.int 1) = some b := rfl
@[simp] theorem jx3c {a b c : D} : dIx (.tup [a, b, c]) (.int 2) = some c := rfl
@[simp] theorem e_TryAs {i : Nat} {mt : Nat → Option Bool} {hf : Nat → Bool} {b s : M Fl} {e : Ev} : mTryAs i mt hf b s e = (match b e with
  | .exc c d e1 => (match mt c with
    | some true => (match e1[i]? with
      | some .emp => endX i (s (e1.set i (.val (.exn c (if hf c = true then [d] else [])))))
      | some (.val _) => endX i (s (e1.set i (.val (.exn c (if hf c = true then [d] else [])))))
      | _ => .bad)
    | some false => .exc c d e1
    | none => .bad)
  | r => r) := rfl
@[simp] theorem e_Raise {c : Nat} {m : M D} {e : Ev} : mRaise c m e = mb m (fun d e => .exc c d e) e := rfl
@[simp] theorem e_Xf {pf : Nat → Bool} {m : M D} {e : Ev} : mXf pf m e = mb m (fun d => mo (dFld pf d)) e := rfl
@[simp] theorem e_IsE {is : Nat → Option Bool} {m : M D} {e : Ev} : mIsE is m e = mb m (fun d => mo (dIsE is d)) e := rfl
@[simp] theorem e_Vb {m : M D} {e : Ev} : mVb m e = mb m (fun d => mo (dB d)) e := rfl
@[simp] theorem e_NotNT {a : Od} {e : Ev} : mNotNT a e = mO1 a (fun d => mp (!dIsN d)) e := rfl
@[simp] theorem e_IsNT {a : Od} {e : Ev} : mIsNT a e = mO1 a (fun d => mp (dIsN d)) e := rfl
@[simp] theorem isN_n : dIsN .non = true := rfl
@[simp] theorem isN_t {ds : List D} : dIsN (.tup ds) = false := rfl
@[simp] theorem isN_i {i : Int} : dIsN (.int i) = false := rfl
@[simp] theorem isi_i {i : Int} : dIsi (.int i) (.ty "int") = some (.bl true) := rfl
@[simp] theorem isi_b {i : Int} : dIsi (.int i) (.ty "bool") = some (.bl false) := rfl
theorem endX_rt {i : Nat} {d : D} {e : Ev} : endX i (.ok (.rt d) e) = if Fw.noX d = true ∧ ((e.set i .emp).map Fw.forget).all Sl.noX = true then .ok (.rt d) ((e.set i .emp).map Fw.forget) else .bad := rfl
theorem endX_nx {i : Nat} {e : Ev} : endX i (.ok .nx e) = if (e.set i .emp).all Sl.noX = true then .ok .nx (e.set i .emp) else .bad := rfl
@[simp] theorem noX_n : noX .non = true := rfl
@[simp] theorem noX_b {b : Bool} : noX (.bl b) = true := rfl
@[simp] theorem noX_i {b : Int} : noX (.int b) = true := rfl
@[simp] theorem noX_s {b : Str} : noX (.str b) = true := rfl
@[simp] theorem noX_c {b : List Int} : noX (.scr b) = true := rfl
@[simp] theorem noX_t {b : List D} : noX (.tup b) = noXL b := by rw [noX]
@[simp] theorem noX_l {b : List D} : noX (.lst b) = noXL b := by rw [noX]
@[simp] theorem noXL_0 : noXL [] = true := rfl
@[simp] theorem noXL_1 {d : D} {ds : List D} : noXL (d :: ds) = (noX d && noXL ds) := by rw [noXL]
@[simp] theorem slX_e : Sl.noX .emp = true := rfl
@[simp] theorem slX_v {d : D} : Sl.noX (.val d) = noX d := rfl
@[simp] theorem slX_b {d : D} : Sl.noX (.box d) = noX d := rfl
@[simp] theorem slX_p {d : D} : Sl.noX (.pbox d) = noX d := rfl
@[simp] theorem fg_e : forget .emp = .emp := rfl
@[simp] theorem fg_v {d : D} : forget (.val d) = .emp := rfl
@[simp] theorem fg_b {d : D} : forget (.box d) = .box d := rfl
@[simp] theorem fg_p {d : D} : forget (.pbox d) = .pbox d := rfl
theorem in2 {x a b : Int} : dInA (.int x) (.tup [.int a, .int b]) = some (.bl (decide (x = a) || decide (x = b))) := by
  show some (D.bl ((a == x) || ((b == x) || false))) = _
  rw [Bool.or_false]
  have h : ∀ u w : Int, (u == w) = decide (w = u) := fun u w => by
    by_cases z : w = u
    · subst z; simp
    · rw [decide_eq_false z, beq_eq_false_iff_ne]; exact fun y => z y.symm
  rw [h, h]
end Fw
namespace Fw
open PySem L2
/-! ## comprehensions, ranges, plainly -/
theorem lc_fm {α : Type} {own : List Nat} {bd : D → M Unit} {t : M Bool} {el : M D} {e : Ev} (dt : α → D) (p : α → Bool) (f : α → D) : ∀ (L : List α) (acc : List D),
    (∀ x ∈ L, ∃ e1, bd (dt x) e = .ok () e1 ∧ ∃ e2, t e1 = .ok (p x) e2 ∧ (p x = false → wipeE e2 own = e) ∧ (p x = true → ∃ e3, el e2 = .ok (f x) e3 ∧ wipeE e3 own = e)) →
    acc.length + L.length ≤ 1000000 → mLcL own bd t el (L.map dt) acc e = .ok (acc ++ (L.filter p).map f) e
  | [], acc, _, _ => by simp [lc_nil]
  | x :: L, acc, h, hl => by
    rw [List.length_cons] at hl
    obtain ⟨e1, b1, e2, b2, b3, b4⟩ := h x List.mem_cons_self
    have ht := fun y hy => h y (List.mem_cons_of_mem _ hy)
    rw [List.map_cons, lc_eq, b1]
    simp only [b2]
    by_cases z : p x = true
    · obtain ⟨e3, b5, b6⟩ := b4 z
      rw [z]
      simp only [b5]
      have hl' : (acc ++ [f x]).length + L.length ≤ 1000000 := by rw [List.length_append, List.length_singleton]; omega
      rw [if_pos (by omega), b6, lc_fm dt p f L (acc ++ [f x]) ht hl', List.filter_cons_of_pos z]
      simp
    · have z : p x = false := by simpa using z
      rw [z]
      simp only [b3 z]
      rw [lc_fm dt p f L acc ht (by omega), List.filter_cons_of_neg (by simp [z])]
theorem lc_map {α : Type} {own : List Nat} {bd : D → M Unit} {el : M D} {e : Ev} (dt : α → D) (f : α → D) (L : List α)
    (h : ∀ x ∈ L, ∃ e1, bd (dt x) e = .ok () e1 ∧ ∃ e3, el e1 = .ok (f x) e3 ∧ wipeE e3 own = e) (hl : L.length ≤ 1000000) : mLcL own bd (mp true) el (L.map dt) [] e = .ok (L.map f) e := by
  rw [lc_fm dt (fun _ => true) f L [] (fun x hx => by
    obtain ⟨e1, b1, e3, b2, b3⟩ := h x hx
    exact ⟨e1, b1, e1, rfl, by simp, fun _ => ⟨e3, b2, b3⟩⟩) (by simpa using hl)]
  rw [List.filter_eq_self.mpr (by simp)]; simp
theorem dR2_ok {i j : Int} (hi : -4611686018427387904 < i ∧ i < 4611686018427387904) (hj : -4611686018427387904 < j ∧ j < 4611686018427387904) : dR2 [.int i, .int j] = some ((List.range (j - i).toNat).map fun (k : Nat) => D.int (i + (k : Int))) := by
  have h1 : i.natAbs < 4611686018427387904 := by omega
  have h2 : j.natAbs < 4611686018427387904 := by omega
  simp [dR2, rngOk, h1, h2]
theorem intsD_map : ∀ L : List Int, intsD (L.map D.int) = some L
  | [] => rfl
  | a :: L => by simp [intsD, intsD_map L]
theorem dSum_map (L : List Int) : dSum (.lst (L.map D.int)) = some (.int L.sum) := by simp [dSum, intsD_map]
end Fw
namespace Fw
open PySem L2
/-! ## rows of ints, equal to themselves -/
theorem pyL_ints : ∀ L : List Int, pyL (L.map D.int) = some (L.map PyData.int)
  | [] => by simp [pyL]
  | a :: L => by simp [pyL, py, pyL_ints L]
theorem lay_ints : ∀ L : List Int, PyData.canLayAll0 (L.map PyData.int) = true
  | [] => by simp [PyData.canLayAll0]
  | a :: L => by simp [PyData.canLayAll0, PyData.canLay0, lay_ints L]
theorem dep_ints : ∀ L : List Int, PyData.depthAll (L.map PyData.int) ≤ 1
  | [] => by simp [PyData.depthAll]
  | a :: L => by have := dep_ints L; simp [PyData.depthAll, PyData.depth]; omega
theorem eqA_ints : ∀ L : List Int, PyData.eqvAll (L.map PyData.int) (L.map PyData.int) = true
  | [] => by simp [PyData.eqvAll]
  | a :: L => by simp [PyData.eqvAll, PyData.eqv, eqA_ints L]
theorem sh_l (L : List Int) : SeqAt.shaped (.list (L.map PyData.int)) = true := by
  have := dep_ints L
  simp [SeqAt.shaped, PyData.canLay0, PyData.depth, lay_ints]; omega
theorem sh_t (L : List Int) : SeqAt.shaped (.tuple (L.map PyData.int)) = true := by
  have := dep_ints L
  simp [SeqAt.shaped, PyData.canLay0, PyData.depth, lay_ints]; omega
theorem eqd_l (L : List Int) : eqData (.lst (L.map D.int)) (.lst (L.map D.int)) = some true := by
  have e : py (.lst (L.map D.int)) = some (.list (L.map PyData.int)) := by simp [py, pyL_ints]
  unfold eqData
  rw [e]
  show (if SeqAt.shaped (.list (L.map PyData.int)) = true ∧ SeqAt.shaped (.list (L.map PyData.int)) = true then some (PyData.eqv (.list (L.map PyData.int)) (.list (L.map PyData.int))) else none) = _
  rw [if_pos ⟨sh_l L, sh_l L⟩, PyData.eqv, eqA_ints]
theorem eqd_t (L : List Int) : eqData (.tup (L.map D.int)) (.tup (L.map D.int)) = some true := by
  have e : py (.tup (L.map D.int)) = some (.tuple (L.map PyData.int)) := by simp [py, pyL_ints]
  unfold eqData
  rw [e]
  show (if SeqAt.shaped (.tuple (L.map PyData.int)) = true ∧ SeqAt.shaped (.tuple (L.map PyData.int)) = true then some (PyData.eqv (.tuple (L.map PyData.int)) (.tuple (L.map PyData.int))) else none) = _
  rw [if_pos ⟨sh_t L, sh_t L⟩, PyData.eqv, eqA_ints]
theorem dNe_ls (L : List Int) : dNe (.lst (L.map D.int)) (.lst (L.map D.int)) = some (.bl false) := by
  show (eqData _ _).map (fun b => D.bl (!b)) = _
  rw [eqd_l]; rfl
theorem dNe_ts (L : List Int) : dNe (.tup (L.map D.int)) (.tup (L.map D.int)) = some (.bl false) := by
  show (eqData _ _).map (fun b => D.bl (!b)) = _
  rw [eqd_t]; rfl
theorem dEq_ls (L : List Int) : dEq (.lst (L.map D.int)) (.lst (L.map D.int)) = some (.bl true) := by
  show (eqData _ _).map D.bl = _
  rw [eqd_l]; rfl
theorem dEq_ts (L : List Int) : dEq (.tup (L.map D.int)) (.tup (L.map D.int)) = some (.bl true) := by
  show (eqData _ _).map D.bl = _
  rw [eqd_t]; rfl
theorem dNe_nn : dNe .non .non = some (.bl false) := by rfl
theorem sortI_id {L : List Int} (h : L.Pairwise (· ≤ ·)) : sortI L = L := sorted_uniq (sortI_perm L) (sortI_sorted L) h
theorem dSrt_t {L : List Int} (h : L.Pairwise (· ≤ ·)) : dSortedA (.tup (L.map D.int)) = some (L.map D.int) := by
  show (intsD (L.map D.int)).map (fun ns => (sortI ns).map D.int) = _
  rw [intsD_map]
  show some ((sortI L).map D.int) = _
  rw [sortI_id h]
@[simp] theorem e_NotN {a : Od} {e : Ev} : mNotN a e = mO1 a (fun d => mp (.bl (!dIsN d))) e := rfl
@[simp] theorem e_IsN {a : Od} {e : Ev} : mIsN a e = mO1 a (fun d => mp (.bl (dIsN d))) e := rfl
theorem ix_0t {d : D} {ds : List D} : dIx (.tup (d :: ds)) (.int 0) = some d := by
  show L2.atI (d :: ds) 0 = _
  unfold L2.atI ixN
  rw [if_pos (by omega), if_pos (by rw [List.length_cons]; omega)]
  rfl
end Fw
namespace Fw
open PySem L2 PyProof.Rows PySem.Spec
/-! ## R. how long a repr is -/
mutual
/-- data of ints, truths, None, lists, tuples -/
def flatP : PyData → Bool
  | .none => true
  | .bool _ => true
  | .int i => decide (i.natAbs.log2 < 1920)
  | .str _ => false
  | .list xs => flatPs xs
  | .tuple xs => flatPs xs
  | .dict _ => false
def flatPs : List PyData → Bool
  | [] => true
  | x :: xs => flatP x && flatPs xs
end
mutual
def szP : PyData → Nat
  | .none => 4
  | .bool _ => 5
  | .int _ => 700
  | .str _ => 0
  | .list xs => szPs xs + 2
  | .tuple xs => szPs xs + 4
  | .dict _ => 0
def szPs : List PyData → Nat
  | [] => 0
  | x :: xs => szP x + 2 + szPs xs
end
theorem nat_str (n : Nat) (h : n < 2 ^ 1920) : (PySem.Str.ofString n.repr).length ≤ 600 := by
  have e : (PySem.Str.ofString n.repr).length = n.repr.length := by
    rw [PySem.Str.ofString_eq_toList]
    show (((n.repr).toList.map Char.toNat).toArray).size = _
    rw [Nat.repr_eq_ofList_toDigits]
    simp
  rw [e]
  have b : (2 : Nat) ^ 1920 ≤ 10 ^ 600 := by decide +kernel
  exact (Nat.length_repr_le_iff (by omega)).mpr (by omega)
theorem int_str (i : Int) (h : i.natAbs.log2 < 1920) : (PySem.Str.ofString (toString i)).length ≤ 700 := by
  have hb : i.natAbs < 2 ^ 1920 := by
    by_cases z : i.natAbs = 0
    · rw [z]; exact Nat.two_pow_pos 1920
    · exact (Nat.log2_lt z).mp h
  cases i with
  | ofNat n =>
    have := nat_str n (by simpa using hb)
    show (PySem.Str.ofString (n.repr)).length ≤ 700
    omega
  | negSucc n =>
    have := nat_str (n + 1) (by simpa using hb)
    show (PySem.Str.ofString ("-" ++ (n + 1).repr)).length ≤ 700
    have e : (PySem.Str.ofString ("-" ++ (n + 1).repr)).length = (PySem.Str.ofString (n + 1).repr).length + 1 := by
      rw [PySem.Str.ofString_eq_toList, PySem.Str.ofString_eq_toList]
      show ((("-" ++ (n + 1).repr).toList.map Char.toNat).toArray).size = ((((n + 1).repr).toList.map Char.toNat).toArray).size + 1
      simp
    omega
theorem textFrom_le : ∀ (ts : List PySem.Str) (k : Nat) (acc : PySem.Str), (textFrom k acc ts).length ≤ acc.length + (ts.map fun t => t.length + 2).sum
  | [], k, acc => by simp [textFrom]
  | t :: r, k, acc => by
    have ih := textFrom_le r (k + 1) (acc ++ (if k > 0 then ", " else "" : String) ++ t)
    have e : (acc ++ (if k > 0 then ", " else "" : String) ++ t).length ≤ acc.length + 2 + t.length := by
      rw [PySem.Str.length_append, PySem.Str.length_append]
      have : (PySem.Str.ofString (if k > 0 then ", " else "")).length ≤ 2 := by split <;> decide +kernel
      omega
    show (textFrom (k + 1) (acc ++ (if k > 0 then ", " else "" : String) ++ t) r).length ≤ _
    simp only [List.map_cons, List.sum_cons]
    omega
theorem join_le : ∀ (ts : List PySem.Str), (PySem.Str.join ", " ts).length ≤ (ts.map fun t => t.length + 2).sum
  | [] => by decide +kernel
  | t :: r => by
    have h := join_length_add (t :: r) (by simp)
    have : piled (t :: r) = ((t :: r).map fun t => t.length + 2).sum := by
      unfold piled
      first | rfl | simp
    omega
mutual
theorem shown_le : ∀ p : PyData, flatP p = true → p.shown.length ≤ szP p ∧ p.showable = true
  | .none, _ => ⟨by simp only [PyData.shown, szP]; decide +kernel, by simp only [PyData.showable]⟩
  | .bool b, _ => ⟨by cases b <;> simp only [PyData.shown, szP] <;> decide +kernel, by simp only [PyData.showable]⟩
  | .int i, h => by
    simp only [flatP, decide_eq_true_eq] at h
    exact ⟨by simp only [PyData.shown, szP]; exact int_str i h, by simp only [PyData.showable]; exact decide_eq_true h⟩
  | .str _, h => by simp only [flatP] at h; cases h
  | .dict _, h => by simp only [flatP] at h; cases h
  | .list xs, h => by
    simp only [flatP] at h
    obtain ⟨h1, h2⟩ := shownA_le xs h
    refine ⟨?_, by simp only [PyData.showable]; exact h2⟩
    simp only [PyData.shown, szP]
    unfold listText
    rw [PySem.Str.length_append]
    have := textFrom_le (PyData.shownAll xs) 0 "["
    have e1 : (PySem.Str.ofString "[").length = 1 := by decide +kernel
    have e2 : (PySem.Str.ofString "]").length = 1 := by decide +kernel
    omega
  | .tuple xs, h => by
    simp only [flatP] at h
    obtain ⟨h1, h2⟩ := shownA_le xs h
    refine ⟨?_, by simp only [PyData.showable]; exact h2⟩
    simp only [PyData.shown, szP]
    unfold tupleText
    rw [PySem.Str.length_append, PySem.Str.length_append]
    have := join_le (PyData.shownAll xs)
    have e1 : (PySem.Str.ofString "(").length = 1 := by decide +kernel
    have e2 : ∀ b : Bool, (PySem.Str.ofString (if b = true then ",)" else ")")).length ≤ 2 := by intro b; cases b <;> decide +kernel
    have := e2 ((PyData.shownAll xs).length == 1)
    omega
theorem shownA_le : ∀ ps : List PyData, flatPs ps = true → ((PyData.shownAll ps).map fun t => t.length + 2).sum ≤ szPs ps ∧ PyData.showableAll ps = true
  | [], _ => ⟨by simp only [PyData.shownAll, szPs]; exact Nat.le_refl _, by simp only [PyData.showableAll]⟩
  | p :: ps, h => by
    simp only [flatPs, Bool.and_eq_true] at h
    obtain ⟨h1, h2⟩ := shown_le p h.1
    obtain ⟨h3, h4⟩ := shownA_le ps h.2
    refine ⟨?_, by simp only [PyData.showableAll]; rw [h2, h4]; rfl⟩
    simp only [PyData.shownAll, szPs, List.map_cons, List.sum_cons]
    omega
end
theorem dRepr_some {d : D} {p : PyData} (h : py d = some p) (s : SeqAt.shaped p = true) (f : flatP p = true) (z : szP p ≤ 1000000) : dRepr d = some (.str p.shown) := by
  obtain ⟨h1, h2⟩ := shown_le p f
  unfold dRepr
  rw [h]
  show (if SeqAt.shaped p = true ∧ p.showable = true ∧ p.shown.length ≤ 1000000 then some (D.str p.shown) else none) = _
  rw [if_pos ⟨s, h2, by omega⟩]
end Fw
namespace Fw
open PySem L2
/-! ## roots -/
def Rt2 (v r : Int) : Prop := 0 ≤ r ∧ r * r ≤ v ∧ v < (r + 1) * (r + 1)
theorem Rt2.uniq {v r s : Int} (h : Rt2 v r) (h' : Rt2 v s) : r = s := by
  obtain ⟨h1, h2, h3⟩ := h
  obtain ⟨k1, k2, k3⟩ := h'
  rcases Int.lt_trichotomy r s with z | z | z
  · have : (r + 1) * (r + 1) ≤ s * s := Int.mul_le_mul (by omega) (by omega) (by omega) (by omega)
    omega
  · exact z
  · have : (s + 1) * (s + 1) ≤ r * r := Int.mul_le_mul (by omega) (by omega) (by omega) (by omega)
    omega
theorem pw (j : Nat) (h : j ≤ 40) : 1 ≤ (2 : Int) ^ j ∧ (2 : Int) ^ j ≤ 1099511627776 := by
  have e : ((2 ^ j : Nat) : Int) = (2 : Int) ^ j := by rw [Int.natCast_pow]; rfl
  have a : 2 ^ j ≤ 2 ^ 40 := Nat.pow_le_pow_right (by omega) h
  have b : 1 ≤ 2 ^ j := Nat.pow_pos (by omega)
  have c : (2 : Nat) ^ 40 = 1099511627776 := by decide +kernel
  omega
theorem pw2 (j : Nat) : (2 : Int) ^ (j + 1) = 2 * (2 : Int) ^ j := by rw [Int.pow_succ, Int.mul_comm]
theorem h4020 : (2 : Int) ^ (0 + 20) * (2 : Int) ^ (0 + 20) = 1099511627776 := by decide +kernel
theorem root1 {v : Int} (n0 : Nat) (s : Sl) : ∀ (m j n : Nat), j + m ≤ 40 → v < (2 : Int) ^ (j + m) * (2 : Int) ^ (j + m) → m < n → ∃ k, k ≤ 40 ∧ v < (2 : Int) ^ k * (2 : Int) ^ k ∧
    mWh (c_root_of_1 n0) (b_root_of_1 n0) n [.val (.int v), .val (.int 0), .val (.int ((2 : Int) ^ j)), s] = .ok .nx [.val (.int v), .val (.int 0), .val (.int ((2 : Int) ^ k)), s]
  | 0, j, n + 1, hj, hv, hn => by
    obtain ⟨p1, p2⟩ := pw j (by omega)
    refine ⟨j, by omega, hv, ?_⟩
    have z : ¬ (2 : Int) ^ j * (2 : Int) ^ j ≤ v := by rw [Nat.add_zero] at hv; omega
    rw [wh_eq]
    simp (disch := omega) [c_root_of_1, dMul_l, z]
  | m + 1, j, n + 1, hj, hv, hn => by
    obtain ⟨p1, p2⟩ := pw j (by omega)
    by_cases z : (2 : Int) ^ j * (2 : Int) ^ j ≤ v
    · obtain ⟨k, k1, k2, e⟩ := root1 n0 s m (j + 1) n (by omega) (by rw [show j + 1 + m = j + (m + 1) by omega]; exact hv) (by omega)
      refine ⟨k, k1, k2, ?_⟩
      rw [wh_eq]
      simp (disch := omega) [c_root_of_1, b_root_of_1, dMul_l, z]
      rw [← pw2]; exact e
    · refine ⟨j, by omega, by omega, ?_⟩
      rw [wh_eq]
      simp (disch := omega) [c_root_of_1, dMul_l, z]
theorem root2 {v : Int} (n0 : Nat) : ∀ (k n : Nat) (f : Int) (s : Sl), Np s → k ≤ 40 → k + 1 ≤ n → 0 ≤ f ∧ f ≤ 1099511627776 → f * f ≤ v → v < (f + (2 : Int) ^ k) * (f + (2 : Int) ^ k) → v < 1099511627776 → ∃ r h s', Rt2 v r ∧
    mWh (c_root_of_2 n0) (b_root_of_2 n0) n [.val (.int v), .val (.int f), .val (.int (f + (2 : Int) ^ k)), s] = .ok .nx [.val (.int v), .val (.int r), h, s']
  | 0, n + 1, f, s, hs, hk, hn, hf, h1, h2, hv => by
    have e0 : (2 : Int) ^ 0 = 1 := rfl
    rw [e0] at h2 ⊢
    refine ⟨f, .val (.int (f + 1)), s, ⟨by omega, h1, h2⟩, ?_⟩
    have z : ¬ 1 < f + 1 - f := by omega
    rw [wh_eq]
    simp [c_root_of_2, z]
  | k + 1, n + 1, f, s, hs, hk, hn, hf, h1, h2, hv => by
    obtain ⟨p1, p2⟩ := pw k (by omega)
    have e1 := pw2 k
    have hm : (f + (f + 2 ^ (k + 1))) / 2 = f + 2 ^ k := by omega
    have gt : (1 : Int) < f + 2 ^ (k + 1) - f := by omega
    have hx : ∃ x, x = (2 : Int) ^ (k + 1) ∧ 1 ≤ x ∧ x ≤ 2199023255552 := ⟨_, rfl, by omega, by omega⟩
    by_cases z : (f + 2 ^ k) * (f + 2 ^ k) ≤ v
    · have fb : f + 2 ^ k ≤ 1099511627776 := by
        by_cases y : f + 2 ^ k ≤ 1099511627776
        · exact y
        · have : (f + 2 ^ k) * 1 ≤ (f + 2 ^ k) * (f + 2 ^ k) := Int.mul_le_mul_of_nonneg_left (by omega) (by omega)
          omega
      obtain ⟨r, h, s', hr, e⟩ := root2 n0 k n (f + 2 ^ k) (.val (.int (f + 2 ^ k))) (.v _) (by omega) (by omega) ⟨by omega, fb⟩ z (by
        rw [show f + 2 ^ k + 2 ^ k = f + (2 : Int) ^ (k + 1) by omega]; exact h2) hv
      refine ⟨r, h, s', hr, ?_⟩
      rw [show f + 2 ^ k + 2 ^ k = f + (2 : Int) ^ (k + 1) by omega] at e
      rw [← e, wh_eq]
      rcases hs with rfl | ⟨_, rfl⟩ <;> simp (disch := omega) [c_root_of_2, b_root_of_2, dMul_l, dFdiv_pos, z, gt, hm]
    · obtain ⟨r, h, s', hr, e⟩ := root2 n0 k n f (.val (.int (f + 2 ^ k))) (.v _) (by omega) (by omega) hf h1 (by omega) hv
      refine ⟨r, h, s', hr, ?_⟩
      rw [← e, wh_eq]
      rcases hs with rfl | ⟨_, rfl⟩ <;> simp (disch := omega) [c_root_of_2, b_root_of_2, dMul_l, dFdiv_pos, z, gt, hm]
theorem root_ok {v : Int} (h0 : 0 ≤ v) (hv : v < 1099511627776) : ∃ r, Rt2 v r ∧ f_root_of 2000 [.val (.int v)] = .ok (.v (.int r)) [.val (.int v)] := by
  obtain ⟨k, k1, k2, e1⟩ := root1 (v := v) 2000 .emp 20 0 2000 (by omega) (by rw [h4020]; exact hv) (by omega)
  obtain ⟨p1, p2⟩ := pw k k1
  have e1 : mWh (c_root_of_1 2000) (b_root_of_1 2000) 2000 [.val (.int v), .val (.int 0), .val (.int 1), .emp] = .ok .nx [.val (.int v), .val (.int 0), .val (.int ((2 : Int) ^ k)), .emp] := e1
  obtain ⟨r, h, s', hr, e2⟩ := root2 (v := v) 2000 k 2000 0 .emp .e k1 (by omega) (by omega) (by omega) (by
    rw [Int.zero_add]; exact k2) hv
  rw [Int.zero_add] at e2
  refine ⟨r, hr, ?_⟩
  simp [f_root_of, fn_eq, m_root_of, e1, e2]
end Fw
namespace Fw
open PySem L2
/-! ## divisors -/
def dvL (v : Int) : Nat → Int → List Int → List Int → List Int × List Int
  | 0, _, l, h => (l, h)
  | k + 1, s, l, h => if s * s ≤ v then (if v % s = 0 then (if s * s = v then dvL v k (s + 1) (l ++ [s]) h else dvL v k (s + 1) (l ++ [s]) (h ++ [v / s])) else dvL v k (s + 1) l h) else (l, h)
theorem dv_loop {v : Int} (hv : 0 ≤ v ∧ v ≤ 10000) (n0 : Nat) : ∀ (k n : Nat) (s : Int) (l h : List Int), 1 ≤ s → k < n → s + k ≤ 201 → v < (s + k) * (s + k) → l.length ≤ s → h.length ≤ s → ∃ s',
    mWh (c_divisors_of_1 n0) (b_divisors_of_1 n0) n [.val (.int v), .box (.lst (l.map D.int)), .box (.lst (h.map D.int)), .val (.int s)] = .ok .nx [.val (.int v), .box (.lst ((dvL v k s l h).1.map D.int)), .box (.lst ((dvL v k s l h).2.map D.int)), .val (.int s')]
  | 0, n + 1, s, l, h, hs, hk, hb, hvs, hl, hh => by
    have z : ¬ s * s ≤ v := by
      have e : s + ((0 : Nat) : Int) = s := by omega
      rw [e] at hvs; omega
    refine ⟨s, ?_⟩
    rw [wh_eq]
    simp (disch := omega) [c_divisors_of_1, dMul_l, z, dvL]
  | k + 1, n + 1, s, l, h, hs, hk, hb, hvs, hl, hh => by
    by_cases z : s * s ≤ v
    · have hvs' : v < (s + 1 + k) * (s + 1 + k) := by
        have e : s + ((k + 1 : Nat) : Int) = s + 1 + k := by omega
        rw [e] at hvs; exact hvs
      have l1 : (l ++ [s]).length ≤ s + 1 := by rw [List.length_append]; simp; omega
      have h1 : (h ++ [v / s]).length ≤ s + 1 := by rw [List.length_append]; simp; omega
      unfold dvL
      rw [if_pos z]
      by_cases y : v % s = 0
      · rw [if_pos y]
        by_cases x : s * s = v
        · rw [if_pos x]
          obtain ⟨s', e⟩ := dv_loop hv n0 k n (s + 1) (l ++ [s]) h (by omega) (by omega) (by omega) hvs' l1 (by omega)
          refine ⟨s', ?_⟩
          rw [← e, wh_eq]
          simp (disch := omega) [c_divisors_of_1, b_divisors_of_1, dMul_l, dMod_pos, z, y, x, lim]
          rw [if_pos (by omega)]
          simp (disch := omega) [dMul_l, x]
        · rw [if_neg x]
          obtain ⟨s', e⟩ := dv_loop hv n0 k n (s + 1) (l ++ [s]) (h ++ [v / s]) (by omega) (by omega) (by omega) hvs' l1 h1
          refine ⟨s', ?_⟩
          rw [← e, wh_eq]
          simp (disch := omega) [c_divisors_of_1, b_divisors_of_1, dMul_l, dMod_pos, dFdiv_pos, z, y, x, lim]
          rw [if_pos (by omega)]
          simp (disch := omega) [dMul_l, dFdiv_pos, x, lim]
          rw [if_pos (by omega)]
          simp
      · rw [if_neg y]
        obtain ⟨s', e⟩ := dv_loop hv n0 k n (s + 1) l h (by omega) (by omega) (by omega) hvs' (by omega) (by omega)
        refine ⟨s', ?_⟩
        rw [← e, wh_eq]
        simp (disch := omega) [c_divisors_of_1, b_divisors_of_1, dMul_l, dMod_pos, z, y]
    · refine ⟨s, ?_⟩
      unfold dvL
      rw [if_neg z, wh_eq]
      simp (disch := omega) [c_divisors_of_1, dMul_l, z]
end Fw
namespace Fw
open PySem L2
theorem dvL_len {v : Int} : ∀ (k : Nat) (s : Int) (l h : List Int), (dvL v k s l h).1.length ≤ l.length + k ∧ (dvL v k s l h).2.length ≤ h.length + k
  | 0, s, l, h => ⟨Nat.le_refl _, Nat.le_refl _⟩
  | k + 1, s, l, h => by
    unfold dvL
    split
    · split
      · split
        · have := dvL_len (v := v) k (s + 1) (l ++ [s]) h
          simp at this
          omega
        · have := dvL_len (v := v) k (s + 1) (l ++ [s]) (h ++ [v / s])
          simp at this
          omega
      · have := dvL_len (v := v) k (s + 1) l h
        omega
    · exact ⟨by simp, by simp⟩
def dv1 (v : Int) : List Int := (dvL v 101 1 [] []).1
def dv2 (v : Int) : List Int := (dvL v 101 1 [] []).2
theorem div_ok {v : Int} (hv : 0 ≤ v ∧ v ≤ 10000) : f_divisors_of 2000 [.val (.int v)] = .ok (.b ((dv1 v ++ (dv2 v).reverse).map D.int)) [.val (.int v)] := by
  obtain ⟨s', e⟩ := dv_loop hv 2000 101 2000 1 [] [] (by omega) (by omega) (by omega) (by omega) (by simp) (by simp)
  have len := dvL_len (v := v) 101 1 [] []
  simp at len
  have e : mWh (c_divisors_of_1 2000) (b_divisors_of_1 2000) 2000 [.val (.int v), .box (.lst []), .box (.lst []), .val (.int 1)] = .ok .nx [.val (.int v), .box (.lst ((dv1 v).map D.int)), .box (.lst ((dv2 v).map D.int)), .val (.int s')] := e
  have r : dRev (.lst ((dv2 v).map D.int)) (.int (-1)) = some ((dv2 v).map D.int).reverse := rfl
  have c : dCat (.lst ((dv1 v).map D.int)) (.lst ((dv2 v).map D.int).reverse) = some ((dv1 v).map D.int ++ ((dv2 v).map D.int).reverse) := by
    show (if ((dv1 v).map D.int).length + ((dv2 v).map D.int).reverse.length ≤ 1000000 then some ((dv1 v).map D.int ++ ((dv2 v).map D.int).reverse) else none) = _
    rw [if_pos]
    rw [List.length_reverse, List.length_map, List.length_map]
    unfold dv1 dv2
    omega
  simp [f_divisors_of, fn_eq, m_divisors_of, e, r, c]
def sm (w : Int → Int) (L : List Int) : Int := (L.map w).sum
theorem sm_append (w : Int → Int) (a b : List Int) : sm w (a ++ b) = sm w a + sm w b := by simp [sm]
theorem sm_rev (w : Int → Int) (a : List Int) : sm w a.reverse = sm w a := by
  induction a with
  | nil => rfl
  | cons x a ih => rw [List.reverse_cons, sm_append, ih]; simp [sm]; omega
def w2 (d : Int) : Int := if d % 2 = 1 then (if d % 4 = 1 then 4 else -4) else 0
def w4 (d : Int) : Int := if d % 4 = 0 then 0 else d
def S (w : Int → Int) (v : Int) : Int := sm w (dv1 v) + sm w (dv2 v)
def c2 (v : Int) : Int := if v = 0 then 1 else S w2 v
def c4 (v : Int) : Int := if v = 0 then 1 else 8 * S w4 v
theorem two_loop (v : Int) : ∀ (L : List Int) (a : Int) (o : Option D), ∃ o', mFl (Fw.setV 2) (b_count_two_1 2000) (L.map D.int) [.val (.int v), .val (.int a), slOf o] = .ok .nx [.val (.int v), .val (.int (a + sm w2 L)), slOf o']
  | [], a, o => ⟨o, by simp [sm, fl_nil]⟩
  | d :: L, a, o => by
    obtain ⟨o', e⟩ := two_loop v L (a + w2 d) (some (.int d))
    refine ⟨o', ?_⟩
    have e2 : a + sm w2 (d :: L) = a + w2 d + sm w2 L := by simp [sm]; omega
    rw [e2, List.map_cons]
    refine fl_to (e1 := [.val (.int v), .val (.int a), .val (.int d)]) (by simp) ?_ e
    unfold w2
    by_cases z : d % 2 = 1
    · by_cases y : d % 4 = 1
      · simp (disch := omega) [b_count_two_1, dMod_pos, z, y]; rfl
      · simp (disch := omega) [b_count_two_1, dMod_pos, z, y]; rfl
    · simp (disch := omega) [b_count_two_1, dMod_pos, z]; rfl
theorem two_ok {v : Int} (hv : 0 ≤ v ∧ v ≤ 10000) : f_count_two 2000 [.val (.int v)] = .ok (.v (.int (c2 v))) [.val (.int v)] := by
  by_cases z : v = 0
  · subst z; rfl
  · obtain ⟨o', e⟩ := two_loop v (dv1 v ++ (dv2 v).reverse) 0 none
    have e : mFl (Fw.setV 2) (b_count_two_1 2000) ((dv1 v ++ (dv2 v).reverse).map D.int) [.val (.int v), .val (.int 0), .emp] = .ok .nx [.val (.int v), .val (.int (0 + sm w2 (dv1 v ++ (dv2 v).reverse))), slOf o'] := e
    have d := div_ok hv
    have s : 0 + sm w2 (dv1 v ++ (dv2 v).reverse) = c2 v := by
      rw [sm_append, sm_rev]; unfold c2 S; rw [if_neg z]; omega
    rw [s] at e
    generalize (dv1 v ++ (dv2 v).reverse).map D.int = L at e d
    simp [f_count_two, fn_eq, m_count_two, z, d, e]
theorem four_loop (v : Int) : ∀ (L : List Int) (acc : List Int), acc.length + L.length < 1000000 → mLcL [1] (Fw.setV 1) (mCmp dNe (.e (mOp dMod (.e (mVar 1)) (.e (mC (.int 4))))) (.e (mC (.int 0)))) (mVar 1) (L.map D.int) (acc.map D.int) [.val (.int v), .emp] = .ok ((acc ++ L.filter (fun d => !decide (d % 4 = 0))).map D.int) [.val (.int v), .emp]
  | [], acc, h => by simp [lc_nil]
  | d :: L, acc, h => by
    rw [List.map_cons, lc_eq]
    rw [List.length_cons] at h
    by_cases z : d % 4 = 0
    · have e := four_loop v L acc (by omega)
      rw [List.filter_cons_of_neg (by simp [z])]
      simp (disch := omega) [dMod_pos, z, wipeE]
      simpa using e
    · have e := four_loop v L (acc ++ [d]) (by simp; omega)
      have hl : acc.length < 1000000 := by omega
      rw [List.filter_cons_of_pos (by simp [z])]
      simp (disch := omega) [dMod_pos, z, wipeE, hl]
      simpa using e
theorem sm_w4 : ∀ L : List Int, (L.filter (fun d => !decide (d % 4 = 0))).sum = sm w4 L
  | [] => rfl
  | d :: L => by
    have ih := sm_w4 L
    by_cases z : d % 4 = 0
    · rw [List.filter_cons_of_neg (by simp [z]), ih]; simp [sm, w4, z]
    · rw [List.filter_cons_of_pos (by simp [z]), List.sum_cons, ih]; simp [sm, w4, z]
theorem dSum_ints (L : List Int) : dSum (.lst (L.map D.int)) = some (.int L.sum) := by
  have h : ∀ L : List Int, intsD (L.map D.int) = some L := fun L => by
    induction L with
    | nil => rfl
    | cons a L ih => simp [intsD, ih]
  simp [dSum, h]
theorem four_ok {v : Int} (hv : 0 ≤ v ∧ v ≤ 10000) : f_count_four 2000 [.val (.int v)] = .ok (.v (.int (c4 v))) [.val (.int v)] := by
  by_cases z : v = 0
  · subst z; rfl
  · have len := dvL_len (v := v) 101 1 [] []
    simp at len
    have e := four_loop v (dv1 v ++ (dv2 v).reverse) [] (by simp; unfold dv1 dv2; omega)
    have d := div_ok hv
    have s : (((dv1 v ++ (dv2 v).reverse)).filter (fun d => !decide (d % 4 = 0))).sum = S w4 v := by
      rw [sm_w4, sm_append, sm_rev]; rfl
    rw [List.nil_append, List.map_nil] at e
    have ds := dSum_ints ((dv1 v ++ (dv2 v).reverse).filter (fun d => !decide (d % 4 = 0)))
    rw [s] at ds
    generalize ((dv1 v ++ (dv2 v).reverse).filter (fun d => !decide (d % 4 = 0))).map D.int = F at e ds
    generalize (dv1 v ++ (dv2 v).reverse).map D.int = L at e d
    simp (disch := omega) [f_count_four, fn_eq, m_count_four, z, d, e, ds, c4, dMul_l]
end Fw
namespace Fw
open PySem L2
theorem rt_b {v r : Int} (h : Rt2 v r) (hv : v ≤ 10000) : 0 ≤ r ∧ r ≤ 100 := by
  obtain ⟨h1, h2, h3⟩ := h
  refine ⟨h1, ?_⟩
  by_cases z : r ≤ 100
  · exact z
  · have : 101 * 101 ≤ r * r := Int.mul_le_mul (by omega) (by omega) (by omega) (by omega)
    omega
/-- the numbers from -r to r -/
def ow (r : Int) : List Int := (List.range (r + 1 - -r).toNat).map fun k : Nat => -r + (k : Int)
def c3 (v r : Int) : Int := ((ow r).map fun o => c2 (v - o * o)).sum
theorem ow_mem {r o : Int} (h : o ∈ ow r) : -r ≤ o ∧ o ≤ r := by
  obtain ⟨k, hk, rfl⟩ := List.mem_map.mp h
  have := List.mem_range.mp hk
  omega
theorem sq_le {r o : Int} (h : -r ≤ o ∧ o ≤ r) : 0 ≤ o * o ∧ o * o ≤ r * r := by
  by_cases z : 0 ≤ o
  · exact ⟨Int.mul_nonneg z z, Int.mul_le_mul h.2 h.2 z (by omega)⟩
  · have e : o * o = -o * -o := by rw [Int.neg_mul_neg]
    rw [e]
    exact ⟨Int.mul_nonneg (by omega) (by omega), Int.mul_le_mul (by omega) (by omega) (by omega) (by omega)⟩
theorem three_ok {v : Int} (hv : 0 ≤ v ∧ v ≤ 10000) : ∃ r, Rt2 v r ∧ f_count_three 2000 [.val (.int v)] = .ok (.v (.int (c3 v r))) [.val (.int v)] := by
  obtain ⟨r, hr, e⟩ := root_ok (v := v) hv.1 (by omega)
  have rb := rt_b hr hv.2
  refine ⟨r, hr, ?_⟩
  have l : mLcL [2] (Fw.setV 2) (mp true) (mCv 1 (f_count_two 2000) [(.e (mOp dSub (.e (mVar 0)) (.e (mOp dMul (.e (mVar 2)) (.e (mVar 2))))))]) ((ow r).map D.int) [] [.val (.int v), .val (.int r), .emp] = .ok ((ow r).map fun o => D.int (c2 (v - o * o))) [.val (.int v), .val (.int r), .emp] := by
    refine lc_map D.int _ (ow r) (fun o ho => ?_) (by simp [ow]; omega)
    have ob := ow_mem ho
    obtain ⟨s1, s2⟩ := sq_le ob
    have t := two_ok (v := v - o * o) ⟨by have := hr.2.1; omega, by omega⟩
    refine ⟨[.val (.int v), .val (.int r), .val (.int o)], by simp, [.val (.int v), .val (.int r), .val (.int o)], ?_, rfl⟩
    simp (disch := omega) [dMul_l, t]
  have rg : dR2 [.int (-r), .int (r + 1)] = some ((ow r).map D.int) := by
    rw [dR2_ok (by omega) (by omega)]; simp [ow]
  have ds : dSum (.lst ((ow r).map fun o => D.int (c2 (v - o * o)))) = some (.int (c3 v r)) := by
    have := dSum_map ((ow r).map fun o => c2 (v - o * o))
    rw [List.map_map] at this
    exact this
  generalize ((ow r).map fun o => D.int (c2 (v - o * o))) = F at l ds
  generalize (ow r).map D.int = L at l rg
  simp [f_count_three, fn_eq, m_count_three, e, rg, l, ds]
theorem chk_many {k : Int} (h : 2 ≤ k ∧ k ≤ 4) : f_check_many 2000 [.val (.int k)] = .ok (.v .non) [.val (.int k)] := by
  simp [f_check_many, fn_eq, m_check_many, f_is_between, m_is_between, f_is_integer, m_is_integer, h]
theorem chk_sum {v : Int} (h : 0 ≤ v ∧ v ≤ 10000) : f_check_sum 2000 [.val (.int v), .val (.int 0)] = .ok (.v .non) [.val (.int v), .val (.int 0)] := by
  simp [f_check_sum, fn_eq, m_check_sum, f_is_between, m_is_between, f_is_integer, m_is_integer, h]
theorem cs2 {v : Int} (h : 0 ≤ v ∧ v ≤ 10000) : f_count_squares 2000 [.val (.int 2), .val (.int v)] = .ok (.v (.int (c2 v))) [.val (.int 2), .val (.int v)] := by
  have a := chk_many (k := 2) (by omega)
  simp [f_count_squares, fn_eq, m_count_squares, a, chk_sum h, two_ok h]
theorem cs4 {v : Int} (h : 0 ≤ v ∧ v ≤ 10000) : f_count_squares 2000 [.val (.int 4), .val (.int v)] = .ok (.v (.int (c4 v))) [.val (.int 4), .val (.int v)] := by
  have a := chk_many (k := 4) (by omega)
  simp [f_count_squares, fn_eq, m_count_squares, a, chk_sum h, four_ok h]
theorem cs3 {v : Int} (h : 0 ≤ v ∧ v ≤ 10000) : ∃ r, Rt2 v r ∧ f_count_squares 2000 [.val (.int 3), .val (.int v)] = .ok (.v (.int (c3 v r))) [.val (.int 3), .val (.int v)] := by
  have a := chk_many (k := 3) (by omega)
  obtain ⟨r, hr, e⟩ := three_ok h
  exact ⟨r, hr, by simp [f_count_squares, fn_eq, m_count_squares, a, chk_sum h, e]⟩
/-! ## the search -/
/-- what the search may find -/
def Pq : Nat → Int → Int → Prop
  | 0, _, _ => False
  | 1, v, l => ∃ r, 0 ≤ r ∧ l ≤ r ∧ r * r = v
  | k + 2, v, l => (k = 0 → c2 v ≠ 0) ∧ ∃ a, l ≤ a ∧ ((k + 2 : Nat) : Int) * a * a ≤ v ∧ Pq (k + 1) (v - a * a) a
/-- what it gives -/
def Gd : Nat → Int → Int → List Int → Prop
  | 0, v, _, t => t = [] ∧ v = 0
  | k + 1, v, l, t => ∃ a t', t = a :: t' ∧ l ≤ a ∧ Gd k (v - a * a) a t'
def Fs (d k : Nat) (v l : Int) : Prop := (Pq k v l ∧ ∃ t, Gd k v l t ∧ f_found_squares 2000 d [.val (.int k), .val (.int v), .val (.int l)] = .ok (.v (.tup (t.map D.int))) [.val (.int k), .val (.int v), .val (.int l)]) ∨
  (¬ Pq k v l ∧ f_found_squares 2000 d [.val (.int k), .val (.int v), .val (.int l)] = .ok (.v .non) [.val (.int k), .val (.int v), .val (.int l)])
theorem isq {v r : Int} (h0 : 0 ≤ v) (e : f_root_of 2000 [.val (.int v)] = .ok (.v (.int r)) [.val (.int v)]) (rb : 0 ≤ r ∧ r ≤ 100) : f_is_square 2000 [.val (.int v)] = .ok (.v (.bl (decide (r * r = v)))) [.val (.int v)] := by
  simp (disch := omega) [f_is_square, fn_eq, m_is_square, e, h0, dMul_l]
theorem fsq1 {d : Nat} {v l : Int} (hv : 0 ≤ v ∧ v ≤ 10000) : Fs (d + 1) 1 v l := by
  obtain ⟨r, hr, e⟩ := root_ok (v := v) hv.1 (by omega)
  have rb := rt_b hr hv.2
  have q := isq hv.1 e rb
  by_cases z : r * r = v
  · by_cases y : l ≤ r
    · refine .inl ⟨⟨r, rb.1, y, z⟩, [r], ⟨r, [], rfl, y, rfl, by omega⟩, ?_⟩
      simp [f_found_squares, fn_eq, m_found_squares, q, e, z, y]
    · refine .inr ⟨?_, ?_⟩
      · rintro ⟨s, s1, s2, s3⟩
        have : s = r := Rt2.uniq (v := v) ⟨s1, by omega, by have : (s + 1) * (s + 1) = s * s + 2 * s + 1 := by grind
                                                            omega⟩ hr
        omega
      · simp [f_found_squares, fn_eq, m_found_squares, q, e, z, y]
  · refine .inr ⟨?_, ?_⟩
    · rintro ⟨s, s1, s2, s3⟩
      have : s = r := Rt2.uniq (v := v) ⟨s1, by omega, by have : (s + 1) * (s + 1) = s * s + 2 * s + 1 := by grind
                                                          omega⟩ hr
      subst this; exact z s3
    · simp [f_found_squares, fn_eq, m_found_squares, q, z]
end Fw
namespace Fw
open PySem L2
theorem own_le {k : Nat} {v own : Int} (hk : 1 ≤ k) (hv : v ≤ 10000) (h0 : 0 ≤ own) (h : ((k : Int) + 1) * own * own ≤ v) : own ≤ 100 ∧ own * own ≤ v := by
  have h1 : 1 * own ≤ ((k : Int) + 1) * own := Int.mul_le_mul_of_nonneg_right (by omega) h0
  have h2 : 1 * own * own ≤ ((k : Int) + 1) * own * own := Int.mul_le_mul_of_nonneg_right h1 h0
  rw [Int.one_mul] at h2
  refine ⟨?_, by omega⟩
  by_cases z : own ≤ 100
  · exact z
  · have : 101 * 101 ≤ own * own := Int.mul_le_mul (by omega) (by omega) (by omega) (by omega)
    omega
@[simp] theorem e_Star {m : M D} {r : M (List D)} {e : Ev} : mStar m r e = mb m (fun d => mb (mo (dList d)) fun ds => mb r fun ys => mp (ds ++ ys)) e := rfl
@[simp] theorem dList_t {ds : List D} : dList (.tup ds) = some ds := rfl
theorem gd_len : ∀ {k : Nat} {v l : Int} {t : List Int}, Gd k v l t → t.length = k
  | 0, _, _, _, ⟨h, _⟩ => by rw [h]; rfl
  | k + 1, _, _, _, ⟨a, t', h, _, g⟩ => by rw [h, List.length_cons, gd_len g]
theorem fs_loop {d k : Nat} (hk : 1 ≤ k ∧ k ≤ 3) {v l : Int} (hv : 0 ≤ v ∧ v ≤ 10000) (ih : ∀ a, 0 ≤ a → ((k : Int) + 1) * a * a ≤ v → Fs d k (v - a * a) a) : ∀ (m n : Nat) (own : Int) (o : Option D), 0 ≤ own → own ≤ 101 → 101 ≤ own + m → m < n →
    (∃ a t E, own ≤ a ∧ ((k : Int) + 1) * a * a ≤ v ∧ Pq k (v - a * a) a ∧ Gd k (v - a * a) a t ∧
      mWh (c_found_squares_1 2000 (f_found_squares 2000 d)) (b_found_squares_1 2000 (f_found_squares 2000 d)) n [.val (.int ((k : Int) + 1)), .val (.int v), .val (.int l), .val (.int own), slOf o] = .ok (.rt (.tup (.int a :: t.map D.int))) (.val (.int ((k : Int) + 1)) :: .val (.int v) :: .val (.int l) :: E)) ∨
    ((∀ a, own ≤ a → ((k : Int) + 1) * a * a ≤ v → ¬ Pq k (v - a * a) a) ∧ ∃ E,
      mWh (c_found_squares_1 2000 (f_found_squares 2000 d)) (b_found_squares_1 2000 (f_found_squares 2000 d)) n [.val (.int ((k : Int) + 1)), .val (.int v), .val (.int l), .val (.int own), slOf o] = .ok .nx (.val (.int ((k : Int) + 1)) :: .val (.int v) :: .val (.int l) :: E))
  | m, n + 1, own, o, h0, hb, hm, hn => by
    by_cases z : ((k : Int) + 1) * own * own ≤ v
    · obtain ⟨b1, b2⟩ := own_le hk.1 hv.2 h0 z
      have c : c_found_squares_1 2000 (f_found_squares 2000 d) [.val (.int ((k : Int) + 1)), .val (.int v), .val (.int l), .val (.int own), slOf o] = .ok true [.val (.int ((k : Int) + 1)), .val (.int v), .val (.int l), .val (.int own), slOf o] := by
        simp (disch := omega) [c_found_squares_1, dMul_r, z]
      match m, hm, hn with
      | 0, hm, hn => exact absurd hm (by omega)
      | m + 1, hm, hn =>
      rcases ih own h0 z with ⟨p, t, g, e⟩ | ⟨p, e⟩
      · have gl := gd_len g
        have tl : t.length + 1 ≤ 1000000 := by omega
        refine .inl ⟨own, t, [.val (.int own), .val (.tup (t.map D.int))], by omega, z, p, g, ?_⟩
        rw [wh_eq, c]
        simp (disch := omega) [b_found_squares_1, dMul_r, e, tl]
      · have step : b_found_squares_1 2000 (f_found_squares 2000 d) [.val (.int ((k : Int) + 1)), .val (.int v), .val (.int l), .val (.int own), slOf o] = .ok .nx [.val (.int ((k : Int) + 1)), .val (.int v), .val (.int l), .val (.int (own + 1)), slOf (some .non)] := by
          simp (disch := omega) [b_found_squares_1, dMul_r, e]; rfl
        rcases fs_loop hk hv ih m n (own + 1) (some .non) (by omega) (by omega) (by omega) (by omega) with ⟨a, t, E, r1, r2, r3, r4, r5⟩ | ⟨r1, E, r2⟩
        · exact .inl ⟨a, t, E, by omega, r2, r3, r4, wh_to c step r5⟩
        · refine .inr ⟨fun a ha hz => ?_, E, wh_to c step r2⟩
          by_cases y : a = own
          · subst y; exact p
          · exact r1 a (by omega) hz
    · refine .inr ⟨fun a ha hz => ?_, [.val (.int own), slOf o], ?_⟩
      · exfalso
        have h1 : ((k : Int) + 1) * own ≤ ((k : Int) + 1) * a := Int.mul_le_mul_of_nonneg_left ha (by omega)
        have h2 : ((k : Int) + 1) * own * own ≤ ((k : Int) + 1) * a * a := Int.mul_le_mul h1 ha h0 (by
          have : 0 ≤ ((k : Int) + 1) * own := Int.mul_nonneg (by omega) h0
          omega)
        omega
      · have c : c_found_squares_1 2000 (f_found_squares 2000 d) [.val (.int ((k : Int) + 1)), .val (.int v), .val (.int l), .val (.int own), slOf o] = .ok false [.val (.int ((k : Int) + 1)), .val (.int v), .val (.int l), .val (.int own), slOf o] := by
          simp (disch := omega) [c_found_squares_1, dMul_r, z]
        exact wh_end c
theorem fsq_succ {d k : Nat} (hk : 1 ≤ k ∧ k ≤ 3) {v l : Int} (hv : 0 ≤ v ∧ v ≤ 10000) (hl : 0 ≤ l ∧ l ≤ 100) (ih : ∀ a, 0 ≤ a → ((k : Int) + 1) * a * a ≤ v → Fs d k (v - a * a) a) : Fs (d + 1) (k + 1) v l := by
  have ek : ((k + 1 : Nat) : Int) = (k : Int) + 1 := by omega
  have k1 : ¬ (k : Int) + 1 = 1 := by omega
  have k1' : ¬ (k : Int) = 0 := by omega
  have t := two_ok hv
  unfold Fs
  obtain ⟨j, rfl⟩ : ∃ j, k = j + 1 := ⟨k - 1, by omega⟩
  show (((j = 0 → c2 v ≠ 0) ∧ ∃ a, l ≤ a ∧ ((j + 2 : Nat) : Int) * a * a ≤ v ∧ Pq (j + 1) (v - a * a) a) ∧ _) ∨ (¬ ((j = 0 → c2 v ≠ 0) ∧ ∃ a, l ≤ a ∧ ((j + 2 : Nat) : Int) * a * a ≤ v ∧ Pq (j + 1) (v - a * a) a) ∧ _)
  rw [ek]
  generalize hK : ((j + 1 : Nat) : Int) + 1 = K at *
  have fe : f_found_squares 2000 (d + 1) = mkFn 3 5 (m_found_squares 2000 (f_found_squares 2000 d)) := rfl
  by_cases g : K = 2 ∧ c2 v = 0
  · refine .inr ⟨fun h => h.1 (by omega) g.2, ?_⟩
    rw [fe, fn_eq]
    simp [m_found_squares, k1, g.1, g.2, t]
  · have gm : (mIf (mAnd (mCmp dEq (.e (mVar 0)) (.e (mC (.int 2)))) (mCmp dEq (.e (mCv 1 (f_count_two 2000) [(.e (mVar 1))])) (.e (mC (.int 0))))) (mRet (mC .non)) (mp .nx)) [.val (.int K), .val (.int v), .val (.int l), .emp, .emp] = .ok .nx [.val (.int K), .val (.int v), .val (.int l), .emp, .emp] := by
      by_cases y : K = 2
      · have : ¬ c2 v = 0 := fun q => g ⟨y, q⟩
        simp [y, t, this]
      · simp [y]
    have gj : j = 0 → c2 v ≠ 0 := fun h q => g ⟨by omega, q⟩
    have lp := fs_loop hk hv (l := l) (by rw [hK]; exact ih) (l.toNat + 101) 2000 l none hl.1 (by omega) (by omega) (by omega)
    rw [hK] at lp
    rcases lp with ⟨a, t', E, r1, r2, r3, r4, r5⟩ | ⟨r1, E, r2⟩
    · refine .inl ⟨⟨gj, a, r1, r2, r3⟩, a :: t', ⟨a, t', rfl, r1, r4⟩, ?_⟩
      have run : m_found_squares 2000 (f_found_squares 2000 d) [.val (.int K), .val (.int v), .val (.int l), .emp, .emp] = .ok (.rt (.tup (.int a :: t'.map D.int))) (.val (.int K) :: .val (.int v) :: .val (.int l) :: E) := by
        unfold m_found_squares
        refine sq_to (e1 := [.val (.int K), .val (.int v), .val (.int l), .emp, .emp]) (by simp [k1]) ?_
        refine sq_to gm ?_
        refine sq_to (e1 := [.val (.int K), .val (.int v), .val (.int l), .val (.int l), .emp]) (by simp) ?_
        exact sq_rt r5
      rw [fe, fn_eq]
      simp [run]
    · refine .inr ⟨fun ⟨_, a, a1, a2, a3⟩ => r1 a a1 a2 a3, ?_⟩
      have run : m_found_squares 2000 (f_found_squares 2000 d) [.val (.int K), .val (.int v), .val (.int l), .emp, .emp] = .ok (.rt .non) (.val (.int K) :: .val (.int v) :: .val (.int l) :: E) := by
        unfold m_found_squares
        refine sq_to (e1 := [.val (.int K), .val (.int v), .val (.int l), .emp, .emp]) (by simp [k1]) ?_
        refine sq_to gm ?_
        refine sq_to (e1 := [.val (.int K), .val (.int v), .val (.int l), .val (.int l), .emp]) (by simp) ?_
        exact sq_to r2 (by simp)
      rw [fe, fn_eq]
      simp [run]
theorem fsq {k : Nat} : ∀ {d : Nat} {v l : Int}, k < d → k ≤ 3 → 0 ≤ v ∧ v ≤ 10000 → 0 ≤ l ∧ l ≤ 100 → Fs d (k + 1) v l := by
  induction k with
  | zero => intro d v l hd hk hv hl; obtain ⟨d, rfl⟩ : ∃ e, d = e + 1 := ⟨d - 1, by omega⟩; exact fsq1 hv
  | succ k ih =>
    intro d v l hd hk hv hl
    obtain ⟨d, rfl⟩ : ∃ e, d = e + 1 := ⟨d - 1, by omega⟩
    refine fsq_succ ⟨by omega, hk⟩ hv hl fun a ha hz => ?_
    obtain ⟨b1, b2⟩ := own_le (by omega) hv.2 ha hz
    have := sq_le (r := 100) (o := a) (by omega)
    exact ih (by omega) (by omega) ⟨by omega, by omega⟩ ⟨ha, b1⟩
theorem sqf {k : Nat} {v : Int} (hk : 2 ≤ k ∧ k ≤ 4) (hv : 0 ≤ v ∧ v ≤ 10000) : (Pq k v 0 ∧ ∃ t, Gd k v 0 t ∧ f_squares_for 2000 [.val (.int k), .val (.int v)] = .ok (.v (.tup (t.map D.int))) [.val (.int k), .val (.int v)]) ∨
    (¬ Pq k v 0 ∧ f_squares_for 2000 [.val (.int k), .val (.int v)] = .ok (.v .non) [.val (.int k), .val (.int v)]) := by
  have a := chk_many (k := k) (by omega)
  have b := chk_sum hv
  have f := fsq (k := k - 1) (d := 4) (v := v) (l := 0) (by omega) (by omega) hv (by omega)
  rw [show k - 1 + 1 = k by omega] at f
  rcases f with ⟨p, t, g, e⟩ | ⟨p, e⟩
  · exact .inl ⟨p, t, g, by simp [f_squares_for, fn_eq, m_squares_for, a, b, e]⟩
  · exact .inr ⟨p, by simp [f_squares_for, fn_eq, m_squares_for, a, b, e]⟩
end Fw
namespace Fw
open PySem L2
theorem gd_sum : ∀ {k : Nat} {v l : Int} {t : List Int}, Gd k v l t → (t.map fun x => x * x).sum = v
  | 0, v, _, _, ⟨h, z⟩ => by rw [h, z]; rfl
  | k + 1, v, _, _, ⟨a, t', h, _, g⟩ => by
    rw [h, List.map_cons, List.sum_cons, gd_sum g]
    omega
theorem gd_all : ∀ {k : Nat} {v l : Int} {t : List Int}, Gd k v l t → 0 ≤ v ∧ ∀ x ∈ t, x * x ≤ v
  | 0, v, _, _, ⟨h, z⟩ => by rw [h, z]; simp
  | k + 1, v, _, _, ⟨a, t', h, _, g⟩ => by
    obtain ⟨h1, h2⟩ := gd_all g
    have h3 : 0 ≤ a * a := (sq_le (r := if a < 0 then -a else a) (o := a) (by split <;> omega)).1
    refine ⟨by omega, fun x hx => ?_⟩
    rw [h] at hx
    rcases List.mem_cons.mp hx with rfl | hx
    · omega
    · have := h2 x hx; omega
theorem gd_pw : ∀ {k : Nat} {v l : Int} {t : List Int}, Gd k v l t → t.Pairwise (· ≤ ·) ∧ ∀ x ∈ t, l ≤ x
  | 0, v, _, _, ⟨h, z⟩ => by rw [h]; simp
  | k + 1, v, l, _, ⟨a, t', h, hl, g⟩ => by
    obtain ⟨h1, h2⟩ := gd_pw g
    rw [h]
    refine ⟨List.pairwise_cons.mpr ⟨h2, h1⟩, fun x hx => ?_⟩
    rcases List.mem_cons.mp hx with rfl | hx
    · exact hl
    · have := h2 x hx; omega
theorem fright {k : Nat} {v : Int} {due : Bool} (hk : 2 ≤ k ∧ k ≤ 4) (hv : 0 ≤ v ∧ v ≤ 10000) (h : Pq k v 0 ↔ due = true) : f__law_found_right 2000 [.val (.int k), .val (.int v), .val (.bl due)] = .ok (.v (.bl true)) [.val (.int k), .val (.int v), .val (.bl due)] := by
  rcases sqf hk hv with ⟨p, t, g, e⟩ | ⟨p, e⟩
  · have hd : due = true := h.mp p
    subst hd
    have hs := gd_sum g
    obtain ⟨ha1, ha⟩ := gd_all g
    obtain ⟨hp, hn⟩ := gd_pw g
    have hl := gd_len g
    have m : mLcL [4] (Fw.setV 4) (mp true) (mOp dMul (.e (mVar 4)) (.e (mVar 4))) (t.map D.int) [] [.val (.int k), .val (.int v), .val (.bl true), .val (.tup (t.map D.int)), .emp] = .ok (t.map fun x => D.int (x * x)) [.val (.int k), .val (.int v), .val (.bl true), .val (.tup (t.map D.int)), .emp] := by
      refine lc_map D.int _ t (fun x hx => ?_) (by omega)
      have x0 := hn x hx
      have x1 := ha x hx
      have xb : x ≤ 100 := by
        by_cases z : x ≤ 100
        · exact z
        · have : 101 * 101 ≤ x * x := Int.mul_le_mul (by omega) (by omega) (by omega) (by omega)
          omega
      refine ⟨[.val (.int k), .val (.int v), .val (.bl true), .val (.tup (t.map D.int)), .val (.int x)], by simp, [.val (.int k), .val (.int v), .val (.bl true), .val (.tup (t.map D.int)), .val (.int x)], ?_, rfl⟩
      simp (disch := omega) [dMul_l]
    have ds : dSum (.lst (t.map fun x => D.int (x * x))) = some (.int v) := by
      have := dSum_map (t.map fun x => x * x)
      rw [List.map_map, hs] at this
      exact this
    have n1 := dNe_ts t
    have n2 := dNe_ls t
    have srt := dSrt_t hp
    have ix : ∃ a, 0 ≤ a ∧ dIx (.tup (t.map D.int)) (.int 0) = some (.int a) := by
      match t, hl, hn with
      | a :: t', _, hn => exact ⟨a, hn a List.mem_cons_self, ix_0t⟩
      | [], hl, _ => simp at hl; omega
    obtain ⟨a, a0, ix⟩ := ix
    have a0' : ¬ a < 0 := by omega
    have isi : dIsi (.tup (t.map D.int)) (.ty "tuple") = some (.bl true) := rfl
    have len : (t.map D.int).length = k := by rw [List.length_map, hl]
    have dl : dList (.tup (t.map D.int)) = some (t.map D.int) := rfl
    generalize (t.map fun x => D.int (x * x)) = F at m ds
    generalize t.map D.int = T at *
    have run : m__law_found_right 2000 [.val (.int k), .val (.int v), .val (.bl true), .emp, .emp] = .ok (.rt (.bl true)) [.val (.int k), .val (.int v), .val (.bl true), .val (.tup T), .emp] := by
      unfold m__law_found_right
      refine sq_to (e1 := [.val (.int k), .val (.int v), .val (.bl true), .val (.tup T), .emp]) (by simp [e]) ?_
      refine sq_to (e1 := [.val (.int k), .val (.int v), .val (.bl true), .val (.tup T), .emp]) (by simp [e, permL, n1]) ?_
      refine sq_to (e1 := [.val (.int k), .val (.int v), .val (.bl true), .val (.tup T), .emp]) (by simp) ?_
      refine sq_to (e1 := [.val (.int k), .val (.int v), .val (.bl true), .val (.tup T), .emp]) (by simp [isi, len, dl, srt, n2, ix, a0']) ?_
      simp [m, ds]
    simp [f__law_found_right, fn_eq, run]
  · have hd : due = false := by
      cases due with
      | false => rfl
      | true => exact absurd (h.mpr rfl) p
    subst hd
    have run : m__law_found_right 2000 [.val (.int k), .val (.int v), .val (.bl false), .emp, .emp] = .ok (.rt (.bl true)) [.val (.int k), .val (.int v), .val (.bl false), .val .non, .emp] := by
      unfold m__law_found_right
      refine sq_to (e1 := [.val (.int k), .val (.int v), .val (.bl false), .val .non, .emp]) (by simp [e]) ?_
      refine sq_to (e1 := [.val (.int k), .val (.int v), .val (.bl false), .val .non, .emp]) (by simp [e, permL, dNe_nn]) ?_
      exact sq_rt (e1 := [.val (.int k), .val (.int v), .val (.bl false), .val .non, .emp]) (by simp)
    simp [f__law_found_right, fn_eq, run]
end Fw
namespace Fw
open PySem L2
/-! ## quick forms for the kernel -/
noncomputable def wA (d : Nat) : Nat := Bool.rec 0 1 (Nat.beq (d % 4) 1)
noncomputable def wB (d : Nat) : Nat := Bool.rec 0 1 (Nat.beq (d % 4) 3)
noncomputable def wD (d : Nat) : Nat := Bool.rec d 0 (Nat.beq (d % 4) 0)
noncomputable def c2R (v : Nat) (k : Nat) : Nat → Nat → Nat → Nat × Nat :=
  Nat.rec (fun _ p m => (p, m)) (fun _ ih s p m => Bool.rec (p, m) (Bool.rec (ih (s + 1) p m) (Bool.rec (ih (s + 1) (p + wA s + wA (v / s)) (m + wB s + wB (v / s))) (ih (s + 1) (p + wA s) (m + wB s)) (Nat.beq (s * s) v)) (Nat.beq (v % s) 0)) (Nat.ble (s * s) v)) k
noncomputable def c4R (v : Nat) (k : Nat) : Nat → Nat → Nat :=
  Nat.rec (fun _ p => p) (fun _ ih s p => Bool.rec p (Bool.rec (ih (s + 1) p) (Bool.rec (ih (s + 1) (p + wD s + wD (v / s))) (ih (s + 1) (p + wD s)) (Nat.beq (s * s) v)) (Nat.beq (v % s) 0)) (Nat.ble (s * s) v)) k
theorem c2R_s {v k s p m : Nat} : c2R v (k + 1) s p m = (match Nat.ble (s * s) v with
  | false => (p, m)
  | true => (match Nat.beq (v % s) 0 with
    | false => c2R v k (s + 1) p m
    | true => (match Nat.beq (s * s) v with
      | false => c2R v k (s + 1) (p + wA s + wA (v / s)) (m + wB s + wB (v / s))
      | true => c2R v k (s + 1) (p + wA s) (m + wB s)))) := by kernel_rfl
theorem c4R_s {v k s p : Nat} : c4R v (k + 1) s p = (match Nat.ble (s * s) v with
  | false => p
  | true => (match Nat.beq (v % s) 0 with
    | false => c4R v k (s + 1) p
    | true => (match Nat.beq (s * s) v with
      | false => c4R v k (s + 1) (p + wD s + wD (v / s))
      | true => c4R v k (s + 1) (p + wD s)))) := by kernel_rfl
theorem w2_nat (d : Nat) : w2 (d : Int) = 4 * ((wA d : Int) - (wB d : Int)) := by
  unfold w2 wA wB
  have h : d % 4 < 4 := Nat.mod_lt _ (by omega)
  have e4 : (d : Int) % 4 = ((d % 4 : Nat) : Int) := by omega
  have e2 : (d : Int) % 2 = ((d % 4 % 2 : Nat) : Int) := by omega
  rw [e4, e2]
  generalize d % 4 = x at *
  match x, h with
  | 0, _ => rfl
  | 1, _ => rfl
  | 2, _ => rfl
  | 3, _ => rfl
  | n + 4, h => omega
theorem w4_nat (d : Nat) : w4 (d : Int) = (wD d : Int) := by
  unfold w4 wD
  by_cases z : d % 4 = 0
  · have : (d : Int) % 4 = 0 := by omega
    have y : Nat.beq (d % 4) 0 = true := by rw [z]; rfl
    rw [if_pos this, y]; rfl
  · have : ¬ (d : Int) % 4 = 0 := by omega
    have y : Nat.beq (d % 4) 0 = false := by
      cases h : Nat.beq (d % 4) 0 with
      | false => rfl
      | true => exact absurd (Nat.eq_of_beq_eq_true h) z
    rw [if_neg this, y]
theorem bleq {a b : Nat} : Nat.ble a b = true ↔ a ≤ b := by rw [Nat.ble_eq]
theorem beqq {a b : Nat} : Nat.beq a b = true ↔ a = b := ⟨Nat.eq_of_beq_eq_true, fun h => by rw [h]; exact Nat.beq_refl _⟩
theorem ff {b : Bool} {p : Prop} (h : b = true ↔ p) (n : ¬ p) : b = false := by
  cases b with
  | false => rfl
  | true => exact absurd (h.mp rfl) n
theorem c2R_ok (v : Nat) : ∀ (k s p m : Nat) (l h : List Int), 1 ≤ s → sm w2 l + sm w2 h = 4 * ((p : Int) - (m : Int)) →
    sm w2 (dvL v k s l h).1 + sm w2 (dvL v k s l h).2 = 4 * (((c2R v k s p m).1 : Int) - ((c2R v k s p m).2 : Int))
  | 0, s, p, m, l, h, _, e => e
  | k + 1, s, p, m, l, h, hs, e => by
    rw [c2R_s]
    unfold dvL
    have q1 : (s : Int) * s ≤ v ↔ s * s ≤ v := by rw [← Int.natCast_mul]; omega
    have q2 : (v : Int) % s = 0 ↔ v % s = 0 := by rw [← Int.natCast_emod]; omega
    have q3 : (s : Int) * s = v ↔ s * s = v := by rw [← Int.natCast_mul]; omega
    have q4 : (v : Int) / s = ((v / s : Nat) : Int) := (Int.natCast_ediv v s).symm
    have es : (s : Int) + 1 = ((s + 1 : Nat) : Int) := by omega
    by_cases z : s * s ≤ v
    · rw [if_pos (q1.mpr z), bleq.mpr z]
      by_cases y : v % s = 0
      · rw [if_pos (q2.mpr y), beqq.mpr y]
        by_cases x : s * s = v
        · rw [if_pos (q3.mpr x), beqq.mpr x, es]
          refine c2R_ok v k (s + 1) _ _ _ _ (by omega) ?_
          rw [sm_append]
          have : sm w2 [(s : Int)] = 4 * ((wA s : Int) - (wB s : Int)) := by simp [sm, w2_nat]
          omega
        · rw [if_neg (fun w => x (q3.mp w)), ff beqq x, es, q4]
          refine c2R_ok v k (s + 1) _ _ _ _ (by omega) ?_
          rw [sm_append, sm_append]
          have a1 : sm w2 [(s : Int)] = 4 * ((wA s : Int) - (wB s : Int)) := by simp [sm, w2_nat]
          have a2 : sm w2 [((v / s : Nat) : Int)] = 4 * ((wA (v / s) : Int) - (wB (v / s) : Int)) := by
            rw [← w2_nat]; simp [sm]
          omega
      · rw [if_neg (fun w => y (q2.mp w)), ff beqq y, es]
        exact c2R_ok v k (s + 1) _ _ _ _ (by omega) e
    · rw [if_neg (fun w => z (q1.mp w)), ff bleq z]
      exact e
theorem c4R_ok (v : Nat) : ∀ (k s p : Nat) (l h : List Int), 1 ≤ s → sm w4 l + sm w4 h = (p : Int) →
    sm w4 (dvL v k s l h).1 + sm w4 (dvL v k s l h).2 = ((c4R v k s p : Nat) : Int)
  | 0, s, p, l, h, _, e => e
  | k + 1, s, p, l, h, hs, e => by
    rw [c4R_s]
    unfold dvL
    have q1 : (s : Int) * s ≤ v ↔ s * s ≤ v := by rw [← Int.natCast_mul]; omega
    have q2 : (v : Int) % s = 0 ↔ v % s = 0 := by rw [← Int.natCast_emod]; omega
    have q3 : (s : Int) * s = v ↔ s * s = v := by rw [← Int.natCast_mul]; omega
    have q4 : (v : Int) / s = ((v / s : Nat) : Int) := (Int.natCast_ediv v s).symm
    have es : (s : Int) + 1 = ((s + 1 : Nat) : Int) := by omega
    by_cases z : s * s ≤ v
    · rw [if_pos (q1.mpr z), bleq.mpr z]
      by_cases y : v % s = 0
      · rw [if_pos (q2.mpr y), beqq.mpr y]
        by_cases x : s * s = v
        · rw [if_pos (q3.mpr x), beqq.mpr x, es]
          refine c4R_ok v k (s + 1) _ _ _ (by omega) ?_
          rw [sm_append]
          have : sm w4 [(s : Int)] = (wD s : Int) := by simp [sm, w4_nat]
          omega
        · rw [if_neg (fun w => x (q3.mp w)), ff beqq x, es, q4]
          refine c4R_ok v k (s + 1) _ _ _ (by omega) ?_
          rw [sm_append, sm_append]
          have a1 : sm w4 [(s : Int)] = (wD s : Int) := by simp [sm, w4_nat]
          have a2 : sm w4 [((v / s : Nat) : Int)] = (wD (v / s) : Int) := by
            rw [← w4_nat]; simp [sm]
          omega
      · rw [if_neg (fun w => y (q2.mp w)), ff beqq y, es]
        exact c4R_ok v k (s + 1) _ _ _ (by omega) e
    · rw [if_neg (fun w => z (q1.mp w)), ff bleq z]
      exact e
noncomputable def cq (v : Nat) : Nat × Nat := c2R v 101 1 0 0
noncomputable def cf (v : Nat) : Nat := c4R v 101 1 0
theorem c2_cq {v : Nat} (h : v ≠ 0) : c2 (v : Int) = 4 * (((cq v).1 : Int) - ((cq v).2 : Int)) := by
  have := c2R_ok v 101 1 0 0 [] [] (by omega) (by simp [sm])
  have z : ¬ (v : Int) = 0 := by omega
  unfold c2 S dv1 dv2
  rw [if_neg z]
  exact this
theorem c4_cf {v : Nat} (h : v ≠ 0) : c4 (v : Int) = 8 * ((cf v : Nat) : Int) := by
  have := c4R_ok v 101 1 0 [] [] (by omega) (by simp [sm])
  have z : ¬ (v : Int) = 0 := by omega
  unfold c4 S dv1 dv2
  rw [if_neg z]
  exact congrArg (8 * ·) this
end Fw
namespace Fw
open PySem L2
/-! ## two squares, by two pointers -/
noncomputable def tpR (v : Nat) (k : Nat) : Nat → Nat → Bool :=
  Nat.rec (fun _ _ => false) (fun _ ih a b => Bool.rec false (Bool.rec (Bool.rec (ih (a + 1) b) (ih a (b - 1)) (Nat.ble v (a * a + b * b))) true (Nat.beq (a * a + b * b) v)) (Nat.ble a b)) k
theorem tpR_s {v k a b : Nat} : tpR v (k + 1) a b = (match Nat.ble a b with
  | false => false
  | true => (match Nat.beq (a * a + b * b) v with
    | true => true
    | false => (match Nat.ble v (a * a + b * b) with
      | false => tpR v k (a + 1) b
      | true => tpR v k a (b - 1)))) := by kernel_rfl
theorem tpR_ok (v : Nat) : ∀ (k a b : Nat), tpR v k a b = true → ∃ x y, a ≤ x ∧ x ≤ y ∧ x * x + y * y = v
  | 0, a, b, h => nomatch (show false = true from h)
  | k + 1, a, b, h => by
    rw [tpR_s] at h
    cases h1 : Nat.ble a b with
    | false => rw [h1] at h; cases h
    | true =>
      rw [h1] at h
      cases h2 : Nat.beq (a * a + b * b) v with
      | true => exact ⟨a, b, Nat.le_refl _, bleq.mp h1, beqq.mp h2⟩
      | false =>
        rw [h2] at h
        cases h3 : Nat.ble v (a * a + b * b) with
        | false =>
          rw [h3] at h
          obtain ⟨x, y, q1, q2, q3⟩ := tpR_ok v k _ _ h
          exact ⟨x, y, by omega, q2, q3⟩
        | true =>
          rw [h3] at h
          exact tpR_ok v k _ _ h
noncomputable def okV (v r : Nat) : Bool := (fun x : Nat × Nat => Bool.rec (Bool.rec false (tpR v 300 0 r) (Nat.ble x.2 x.1)) true (Nat.beq x.1 x.2)) (cq v)
noncomputable def allV (k : Nat) : Nat → Nat → Bool :=
  Nat.rec (fun _ _ => true) (fun _ ih v r => Bool.rec (Bool.rec false (ih (v + 1) r) (okV v r)) (Bool.rec false (ih (v + 1) (r + 1)) (okV v (r + 1))) (Nat.ble ((r + 1) * (r + 1)) v)) k
theorem okV_s {v r : Nat} : okV v r = (match Nat.beq (cq v).1 (cq v).2 with
  | true => true
  | false => (match Nat.ble (cq v).2 (cq v).1 with
    | true => tpR v 300 0 r
    | false => false)) := by kernel_rfl
theorem allV_s {k v r : Nat} : allV (k + 1) v r = (match Nat.ble ((r + 1) * (r + 1)) v with
  | true => (match okV v (r + 1) with
    | true => allV k (v + 1) (r + 1)
    | false => false)
  | false => (match okV v r with
    | true => allV k (v + 1) r
    | false => false)) := by kernel_rfl
theorem allV_ok : ∀ (k v r : Nat), allV k v r = true → ∀ u, v ≤ u → u < v + k → ∃ r', okV u r' = true
  | 0, v, r, h, u, h1, h2 => by omega
  | k + 1, v, r, h, u, h1, h2 => by
    rw [allV_s] at h
    cases q1 : Nat.ble ((r + 1) * (r + 1)) v with
    | true =>
      rw [q1] at h
      cases q2 : okV v (r + 1) with
      | false => simp only [q2] at h; cases h
      | true =>
        simp only [q2] at h
        by_cases z : u = v
        · subst z; exact ⟨_, q2⟩
        · exact allV_ok k _ _ h u (by omega) (by omega)
    | false =>
      rw [q1] at h
      cases q2 : okV v r with
      | false => simp only [q2] at h; cases h
      | true =>
        simp only [q2] at h
        by_cases z : u = v
        · subst z; exact ⟨_, q2⟩
        · exact allV_ok k _ _ h u (by omega) (by omega)
theorem tab2 : allV 10000 1 1 = true := by decide +kernel
theorem two_tab {v : Nat} (h : 1 ≤ v ∧ v ≤ 10000) : c2 (v : Int) = 0 ∨ (0 < c2 (v : Int) ∧ ∃ x y : Nat, x ≤ y ∧ x * x + y * y = v) := by
  obtain ⟨r, q⟩ := allV_ok 10000 1 1 tab2 v h.1 (by omega)
  rw [okV_s] at q
  rw [c2_cq (by omega)]
  cases h1 : Nat.beq (cq v).1 (cq v).2 with
  | true => left; have := beqq.mp h1; omega
  | false =>
    rw [h1] at q
    cases h2 : Nat.ble (cq v).2 (cq v).1 with
    | false => rw [h2] at q; cases q
    | true =>
      rw [h2] at q
      obtain ⟨x, y, q1, q2, q3⟩ := tpR_ok v _ _ _ q
      have n1 : ¬ (cq v).1 = (cq v).2 := fun w => by rw [beqq.mpr w] at h1; cases h1
      have n2 := bleq.mp h2
      exact .inr ⟨by omega, x, y, q2, q3⟩
theorem c2_nn {v : Int} (h : 0 ≤ v ∧ v ≤ 10000) : 0 ≤ c2 v := by
  by_cases z : v = 0
  · subst z; decide +kernel
  · have e : v = ((v.toNat : Nat) : Int) := by omega
    rw [e]
    rcases two_tab (v := v.toNat) (by omega) with q | ⟨q, _⟩ <;> omega
/-- Pq of two, from a sum of two squares -/
theorem pq2 {v l : Int} {x y : Nat} (hc : c2 v ≠ 0) (hl : l ≤ x) (h : x ≤ y) (e : (x * x + y * y : Nat) = v) : Pq 2 v l := by
  refine ⟨fun _ => hc, x, hl, ?_, y, by omega, by omega, ?_⟩
  · have h1 : x * x ≤ y * y := Nat.mul_le_mul h h
    have e1 : ((0 + 2 : Nat) : Int) * x * x = 2 * ((x * x : Nat) : Int) := by rw [Int.mul_assoc, Int.natCast_mul]; rfl
    rw [e1]; omega
  · have e1 : (y : Int) * y = ((y * y : Nat) : Int) := by rw [Int.natCast_mul]
    have e2 : (x : Int) * x = ((x * x : Nat) : Int) := by rw [Int.natCast_mul]
    rw [e1, e2]; omega
theorem pq2_iff {v : Int} (h : 0 ≤ v ∧ v ≤ 10000) : Pq 2 v 0 ↔ 0 < c2 v := by
  constructor
  · intro p
    have := p.1 rfl
    have := c2_nn h
    omega
  · intro p
    by_cases z : v = 0
    · subst z
      exact pq2 (x := 0) (y := 0) (by decide +kernel) (by omega) (by omega) (by omega)
    · have e : v = ((v.toNat : Nat) : Int) := by omega
      rcases two_tab (v := v.toNat) (by omega) with q | ⟨q, x, y, q1, q2⟩
      · rw [← e] at q; omega
      · exact pq2 (x := x) (y := y) (by omega) (by omega) q1 (by omega)
end Fw
namespace Fw
open PySem L2
noncomputable def pz (u : Nat) : Bool := Bool.rec ((fun x : Nat × Nat => Bool.rec true false (Nat.beq x.1 x.2)) (cq u)) true (Nat.beq u 0)
theorem pz_s {u : Nat} : pz u = (match Nat.beq u 0 with
  | true => true
  | false => (match Nat.beq (cq u).1 (cq u).2 with
    | true => false
    | false => true)) := by kernel_rfl
theorem pz_ok {u : Nat} : pz u = true ↔ c2 (u : Int) ≠ 0 := by
  rw [pz_s]
  cases h : Nat.beq u 0 with
  | true => have := beqq.mp h; subst this; exact ⟨fun _ => by decide +kernel, fun _ => rfl⟩
  | false =>
    have n : u ≠ 0 := fun w => by rw [beqq.mpr w] at h; cases h
    rw [c2_cq n]
    cases h1 : Nat.beq (cq u).1 (cq u).2 with
    | true => have := beqq.mp h1; exact ⟨fun w => (nomatch w), fun w => absurd (by omega) w⟩
    | false =>
      have n1 : ¬ (cq u).1 = (cq u).2 := fun w => by rw [beqq.mpr w] at h1; cases h1
      exact ⟨fun _ => by omega, fun _ => rfl⟩
noncomputable def g3R (v : Nat) (k : Nat) : Nat → Bool :=
  Nat.rec (fun _ => false) (fun _ ih a => Bool.rec false (Bool.rec (ih (a + 1)) (Bool.rec (ih (a + 1)) true (tpR (v - a * a) 60 a 26)) (pz (v - a * a))) (Nat.ble (3 * a * a) v)) k
theorem g3R_s {v k a : Nat} : g3R v (k + 1) a = (match Nat.ble (3 * a * a) v with
  | false => false
  | true => (match pz (v - a * a) with
    | false => g3R v k (a + 1)
    | true => (match tpR (v - a * a) 60 a 26 with
      | true => true
      | false => g3R v k (a + 1)))) := by kernel_rfl
theorem sq3 {a v c : Nat} (hc : 1 ≤ c) (h : c * a * a ≤ v) : a * a ≤ v := by
  have : 1 * a * a ≤ c * a * a := Nat.mul_le_mul_right _ (Nat.mul_le_mul_right _ hc)
  rw [Nat.one_mul] at this
  omega
theorem g3R_ok (v : Nat) : ∀ (k a : Nat) (l : Int), l ≤ a → g3R v k a = true → Pq 3 (v : Int) l
  | 0, a, l, hl, h => nomatch (show false = true from h)
  | k + 1, a, l, hl, h => by
    rw [g3R_s] at h
    cases h1 : Nat.ble (3 * a * a) v with
    | false => rw [h1] at h; cases h
    | true =>
      rw [h1] at h
      have b1 := bleq.mp h1
      have b2 := sq3 (by omega) b1
      cases h2 : pz (v - a * a) with
      | false => rw [h2] at h; exact g3R_ok v k (a + 1) l (by omega) h
      | true =>
        rw [h2] at h
        cases h3 : tpR (v - a * a) 60 a 26 with
        | false => rw [h3] at h; exact g3R_ok v k (a + 1) l (by omega) h
        | true =>
          obtain ⟨x, y, q1, q2, q3⟩ := tpR_ok _ _ _ _ h3
          have c := pz_ok.mp h2
          have e : (v : Int) - (a : Int) * a = ((v - a * a : Nat) : Int) := by rw [← Int.natCast_mul]; omega
          refine ⟨fun w => (nomatch w), a, hl, ?_, ?_⟩
          · have : ((1 + 2 : Nat) : Int) * a * a = ((3 * a * a : Nat) : Int) := by rw [Int.natCast_mul, Int.natCast_mul]
            rw [this]; omega
          · rw [e]
            exact pq2 (x := x) (y := y) c (by omega) q2 (by omega)
noncomputable def g4R (v : Nat) (k : Nat) : Nat → Bool :=
  Nat.rec (fun _ => false) (fun _ ih a => Bool.rec false (Bool.rec (ih (a + 1)) true (g3R (v - a * a) 20 a)) (Nat.ble (4 * a * a) v)) k
theorem g4R_s {v k a : Nat} : g4R v (k + 1) a = (match Nat.ble (4 * a * a) v with
  | false => false
  | true => (match g3R (v - a * a) 20 a with
    | true => true
    | false => g4R v k (a + 1))) := by kernel_rfl
theorem g4R_ok (v : Nat) : ∀ (k a : Nat), g4R v k a = true → Pq 4 (v : Int) 0
  | 0, a, h => nomatch (show false = true from h)
  | k + 1, a, h => by
    rw [g4R_s] at h
    cases h1 : Nat.ble (4 * a * a) v with
    | false => rw [h1] at h; cases h
    | true =>
      rw [h1] at h
      have b1 := bleq.mp h1
      have b2 := sq3 (by omega) b1
      cases h2 : g3R (v - a * a) 20 a with
      | false => rw [h2] at h; exact g4R_ok v k (a + 1) h
      | true =>
        have e : (v : Int) - (a : Int) * a = ((v - a * a : Nat) : Int) := by rw [← Int.natCast_mul]; omega
        refine ⟨fun w => (nomatch w), a, by omega, ?_, ?_⟩
        · have : ((2 + 2 : Nat) : Int) * a * a = ((4 * a * a : Nat) : Int) := by rw [Int.natCast_mul, Int.natCast_mul]
          rw [this]; omega
        · rw [e]; exact g3R_ok _ _ _ _ (by omega) h2
noncomputable def n3R (v : Nat) (k : Nat) : Nat → Bool :=
  Nat.rec (fun _ => false) (fun _ ih a => Bool.rec true (Bool.rec (ih (a + 1)) false (pz (v - a * a))) (Nat.ble (a * a) v)) k
theorem n3R_s {v k a : Nat} : n3R v (k + 1) a = (match Nat.ble (a * a) v with
  | false => true
  | true => (match pz (v - a * a) with
    | true => false
    | false => n3R v k (a + 1))) := by kernel_rfl
theorem n3R_ok (v : Nat) : ∀ (k a : Nat), n3R v k a = true → ∀ b, a ≤ b → b * b ≤ v → c2 ((v - b * b : Nat) : Int) = 0
  | 0, a, h, b, _, _ => nomatch (show false = true from h)
  | k + 1, a, h, b, h1, h2 => by
    rw [n3R_s] at h
    have ab : a * a ≤ b * b := Nat.mul_le_mul h1 h1
    rw [bleq.mpr (show a * a ≤ v by omega)] at h
    cases h3 : pz (v - a * a) with
    | true => rw [h3] at h; cases h
    | false =>
      rw [h3] at h
      by_cases z : b = a
      · subst z
        by_cases w : c2 ((v - b * b : Nat) : Int) = 0
        · exact w
        · rw [pz_ok.mpr w] at h3; cases h3
      · exact n3R_ok v k (a + 1) h b (by omega) h2
/-- three squares by the law -/
noncomputable def i3R (k : Nat) : Nat → Bool :=
  Nat.rec (fun _ => true) (fun _ ih v => Bool.rec (Bool.rec (Bool.rec true false (Nat.beq (v % 8) 7)) (ih (v / 4)) (Nat.beq (v % 4) 0)) true (Nat.beq v 0)) k
theorem i3R_s {v k : Nat} : i3R (k + 1) v = (match Nat.beq v 0 with
  | true => true
  | false => (match Nat.beq (v % 4) 0 with
    | true => i3R k (v / 4)
    | false => (match Nat.beq (v % 8) 7 with
      | true => false
      | false => true))) := by kernel_rfl
noncomputable def row3 (v : Nat) : Bool := Bool.rec (Bool.rec false (Bool.rec false true (g4R v 20 0)) (n3R v 40 0)) (Bool.rec false (Bool.rec false true (g4R v 20 0)) (g3R v 40 0)) (i3R 12 v)
theorem row3_s {v : Nat} : row3 v = (match i3R 12 v with
  | true => (match g3R v 40 0 with
    | true => (match g4R v 20 0 with
      | true => true
      | false => false)
    | false => false)
  | false => (match n3R v 40 0 with
    | true => (match g4R v 20 0 with
      | true => true
      | false => false)
    | false => false)) := by kernel_rfl
noncomputable def all3 (k : Nat) : Nat → Bool :=
  Nat.rec (fun _ => true) (fun _ ih v => Bool.rec false (ih (v + 1)) (row3 v)) k
theorem all3_s {k v : Nat} : all3 (k + 1) v = (match row3 v with
  | true => all3 k (v + 1)
  | false => false) := by kernel_rfl
theorem all3_ok : ∀ (k v : Nat), all3 k v = true → ∀ u, v ≤ u → u < v + k → row3 u = true
  | 0, v, h, u, h1, h2 => by omega
  | k + 1, v, h, u, h1, h2 => by
    rw [all3_s] at h
    cases q : row3 v with
    | false => rw [q] at h; cases h
    | true =>
      rw [q] at h
      by_cases z : u = v
      · subst z; exact q
      · exact all3_ok k _ h u (by omega) (by omega)
theorem tab3 : all3 701 0 = true := by decide +kernel
theorem sum_nn : ∀ {L : List Int}, (∀ x ∈ L, 0 ≤ x) → 0 ≤ L.sum
  | [], _ => by simp
  | a :: L, h => by
    have h1 := h a List.mem_cons_self
    have h2 := sum_nn fun x hx => h x (List.mem_cons_of_mem _ hx)
    rw [List.sum_cons]; omega
theorem sum_pos : ∀ {L : List Int}, (∀ x ∈ L, 0 ≤ x) → (∃ x ∈ L, 0 < x) → 0 < L.sum
  | [], _, ⟨x, hx, _⟩ => nomatch hx
  | a :: L, h, ⟨x, hx, h0⟩ => by
    have h1 := h a List.mem_cons_self
    have h2 := fun x hx => h x (List.mem_cons_of_mem _ hx)
    rw [List.sum_cons]
    rcases List.mem_cons.mp hx with rfl | hx
    · have := sum_nn h2; omega
    · have := sum_pos h2 ⟨x, hx, h0⟩; omega
theorem sum_zero : ∀ {L : List Int}, (∀ x ∈ L, x = 0) → L.sum = 0
  | [], _ => by simp
  | a :: L, h => by
    rw [List.sum_cons, h a List.mem_cons_self, sum_zero fun x hx => h x (List.mem_cons_of_mem _ hx)]; rfl
theorem mem_ow {r o : Int} (h : -r ≤ o ∧ o ≤ r) : o ∈ ow r := by
  refine List.mem_map.mpr ⟨(o + r).toNat, List.mem_range.mpr (by omega), by omega⟩
theorem sqb {r a : Int} {v : Int} (h : Rt2 v r) (h0 : 0 ≤ a) (ha : a * a ≤ v) : a ≤ r := by
  by_cases z : a ≤ r
  · exact z
  · have : (r + 1) * (r + 1) ≤ a * a := Int.mul_le_mul (by omega) (by omega) (by have := h.1; omega) (by omega)
    have := h.2.2
    omega
theorem three_tab {v : Nat} (h : v ≤ 700) {r : Int} (hr : Rt2 (v : Int) r) : (i3R 12 v = true ↔ Pq 3 (v : Int) 0) ∧ (i3R 12 v = true ↔ 0 < c3 v r) ∧ Pq 4 (v : Int) 0 := by
  have q := all3_ok 701 0 tab3 v (by omega) (by omega)
  rw [row3_s] at q
  have nn : ∀ x ∈ ((ow r).map fun o => c2 ((v : Int) - o * o)), 0 ≤ x := by
    intro x hx
    obtain ⟨o, ho, rfl⟩ := List.mem_map.mp hx
    have ob := sq_le (ow_mem ho)
    have := hr.2.1
    exact c2_nn ⟨by omega, by omega⟩
  have four : g4R v 20 0 = true := by
    cases h1 : i3R 12 v with
    | true =>
      rw [h1] at q
      cases h2 : g3R v 40 0 with
      | false => rw [h2] at q; cases q
      | true =>
        rw [h2] at q
        cases h3 : g4R v 20 0 with
        | true => rfl
        | false => rw [h3] at q; cases q
    | false =>
      rw [h1] at q
      cases h2 : n3R v 40 0 with
      | false => rw [h2] at q; cases q
      | true =>
        rw [h2] at q
        cases h3 : g4R v 20 0 with
        | true => rfl
        | false => rw [h3] at q; cases q
  refine ⟨?_, ?_, g4R_ok _ _ _ four⟩ <;> clear four
  all_goals
    cases h1 : i3R 12 v with
    | true =>
      rw [h1] at q
      cases h2 : g3R v 40 0 with
      | false => rw [h2] at q; cases q
      | true =>
        have p := g3R_ok v 40 0 0 (by omega) h2
        first
        | exact ⟨fun _ => p, fun _ => rfl⟩
        | refine ⟨fun _ => ?_, fun _ => rfl⟩
          obtain ⟨_, a, a1, a2, a3⟩ := p
          have a4 := a3.1 rfl
          have sa := sq_le (r := a) (o := a) (by omega)
          have a5 : a * a ≤ v := by
            have : ((1 + 2 : Nat) : Int) * a * a = 3 * (a * a) := by rw [Int.mul_assoc]; rfl
            rw [this] at a2; omega
          refine sum_pos nn ⟨_, List.mem_map.mpr ⟨a, mem_ow ⟨by have := hr.1; omega, sqb hr a1 a5⟩, rfl⟩, ?_⟩
          have := c2_nn (v := (v : Int) - a * a) ⟨by omega, by omega⟩
          omega
    | false =>
      rw [h1] at q
      cases h2 : n3R v 40 0 with
      | false => rw [h2] at q; cases q
      | true =>
        have n := n3R_ok v 40 0 h2
        have n' : ∀ a : Int, a * a ≤ v → c2 ((v : Int) - a * a) = 0 := by
          intro a ha
          have e : (a.natAbs : Int) * a.natAbs = a * a := by rw [← Int.natCast_mul, Int.natAbs_mul_self]
          have e2 : ((a.natAbs * a.natAbs : Nat) : Int) = a * a := by rw [Int.natCast_mul, e]
          have := n a.natAbs (by omega) (by omega)
          rw [show ((v - a.natAbs * a.natAbs : Nat) : Int) = (v : Int) - a * a by omega] at this
          exact this
        refine ⟨fun w => (nomatch w), fun p => ?_⟩
        exfalso
        first
        | (have sz : c3 v r = 0 := by
            refine sum_zero fun x hx => ?_
            obtain ⟨o, ho, rfl⟩ := List.mem_map.mp hx
            have ob := sq_le (ow_mem ho)
            have := hr.2.1
            exact n' o (by omega)
           omega)
        | obtain ⟨_, a, a1, a2, a3⟩ := p
          have sa := sq_le (r := a) (o := a) (by omega)
          have a5 : a * a ≤ v := by
            have : ((1 + 2 : Nat) : Int) * a * a = 3 * (a * a) := by rw [Int.mul_assoc]; rfl
            rw [this] at a2; omega
          exact a3.1 rfl (n' a a5)
end Fw
namespace Fw
open PySem L2
/-! ## products -/
noncomputable def pairOk (a b : Nat) : Bool := Bool.rec true ((fun x y z : Nat × Nat => Bool.rec false (Nat.beq (cf (a * b)) (cf a * cf b)) (Nat.beq (z.1 + x.1 * y.2 + x.2 * y.1) (z.2 + x.1 * y.1 + x.2 * y.2))) (cq a) (cq b) (cq (a * b))) (Nat.beq (Nat.gcd a b) 1)
theorem pairOk_s {a b : Nat} : pairOk a b = (match Nat.beq (Nat.gcd a b) 1 with
  | false => true
  | true => (match Nat.beq ((cq (a * b)).1 + (cq a).1 * (cq b).2 + (cq a).2 * (cq b).1) ((cq (a * b)).2 + (cq a).1 * (cq b).1 + (cq a).2 * (cq b).2) with
    | false => false
    | true => Nat.beq (cf (a * b)) (cf a * cf b))) := by kernel_rfl
noncomputable def rowP (a : Nat) (k : Nat) : Nat → Bool := Nat.rec (fun _ => true) (fun _ ih b => Bool.rec false (ih (b + 1)) (pairOk a b)) k
noncomputable def allP (k : Nat) : Nat → Bool := Nat.rec (fun _ => true) (fun _ ih a => Bool.rec false (ih (a + 1)) (rowP a 90 1)) k
theorem rowP_s {a b k : Nat} : rowP a (k + 1) b = (match pairOk a b with
  | true => rowP a k (b + 1)
  | false => false) := by kernel_rfl
theorem allP_s {a k : Nat} : allP (k + 1) a = (match rowP a 90 1 with
  | true => allP k (a + 1)
  | false => false) := by kernel_rfl
theorem rowP_ok (a : Nat) : ∀ (k b : Nat), rowP a k b = true → ∀ u, b ≤ u → u < b + k → pairOk a u = true
  | 0, b, h, u, h1, h2 => by omega
  | k + 1, b, h, u, h1, h2 => by
    rw [rowP_s] at h
    cases q : pairOk a b with
    | false => rw [q] at h; cases h
    | true =>
      rw [q] at h
      by_cases z : u = b
      · subst z; exact q
      · exact rowP_ok a k _ h u (by omega) (by omega)
theorem allP_ok : ∀ (k a : Nat), allP k a = true → ∀ u, a ≤ u → u < a + k → rowP u 90 1 = true
  | 0, a, h, u, h1, h2 => by omega
  | k + 1, a, h, u, h1, h2 => by
    rw [allP_s] at h
    cases q : rowP a 90 1 with
    | false => rw [q] at h; cases h
    | true =>
      rw [q] at h
      by_cases z : u = a
      · subst z; exact q
      · exact allP_ok k _ h u (by omega) (by omega)
theorem tabP : allP 90 1 = true := by decide +kernel
theorem prod_tab {a b : Nat} (ha : 1 ≤ a ∧ a ≤ 90) (hb : 1 ≤ b ∧ b ≤ 90) (g : Nat.gcd a b = 1) : 4 * c2 ((a : Int) * b) = c2 a * c2 b ∧ 8 * c4 ((a : Int) * b) = c4 a * c4 b := by
  have q := rowP_ok a 90 1 (allP_ok 90 1 tabP a ha.1 (by omega)) b hb.1 (by omega)
  rw [pairOk_s, beqq.mpr g] at q
  have hab : a * b ≠ 0 := by
    have : 0 < a * b := Nat.mul_pos (by omega) (by omega)
    omega
  rw [← Int.natCast_mul, c2_cq hab, c2_cq (by omega), c2_cq (by omega), c4_cf hab, c4_cf (by omega), c4_cf (by omega)]
  cases h1 : Nat.beq ((cq (a * b)).1 + (cq a).1 * (cq b).2 + (cq a).2 * (cq b).1) ((cq (a * b)).2 + (cq a).1 * (cq b).1 + (cq a).2 * (cq b).2) with
  | false => rw [h1] at q; cases q
  | true =>
    rw [h1] at q
    have e1 := beqq.mp h1
    have e2 := beqq.mp q
    generalize cq (a * b) = z at *
    generalize cq a = x at *
    generalize cq b = y at *
    refine ⟨?_, ?_⟩
    · have e3 : ((z.1 : Int) + x.1 * y.2 + x.2 * y.1) = (z.2 + x.1 * y.1 + x.2 * y.2) := by exact_mod_cast e1
      grind
    · rw [e2, Int.natCast_mul]; grind
/-! ## the law's greatest common divisor -/
theorem sh_c {a b : Int} : c__law_shared_1 2000 [.val (.int a), .val (.int b)] = .ok (decide (0 < b)) [.val (.int a), .val (.int b)] := by
  simp [c__law_shared_1]
theorem sh_b {a b : Int} (h : 0 < b) : b__law_shared_1 2000 [.val (.int a), .val (.int b)] = .ok .nx [.val (.int b), .val (.int (a % b))] := by
  simp (disch := omega) [b__law_shared_1, dMod_pos]
theorem gcd_loop : ∀ (n b : Nat), b < n → ∀ a : Nat, mWh (c__law_shared_1 2000) (b__law_shared_1 2000) n [.val (.int a), .val (.int b)] = .ok .nx [.val (.int (Nat.gcd a b)), .val (.int 0)] := by
  intro n
  induction n with
  | zero => intro b h; omega
  | succ n ih =>
    intro b h a
    by_cases z : b = 0
    · subst z
      rw [wh_eq]
      simp [c__law_shared_1]
    · have e := ih (a % b) (by have := Nat.mod_lt a (by omega : 0 < b); omega) b
      have g : Nat.gcd b (a % b) = Nat.gcd a b := by rw [Nat.gcd_comm b, ← Nat.gcd_rec, Nat.gcd_comm]
      rw [g] at e
      have pos : (0 : Int) < b := by omega
      have m : (a : Int) % b = ((a % b : Nat) : Int) := (Int.natCast_emod a b).symm
      have c := sh_c (a := a) (b := b)
      rw [decide_eq_true pos] at c
      have s := sh_b (a := a) pos
      rw [m] at s
      exact wh_to c s e
theorem shared_ok {a b : Nat} (hb : b ≤ 90) : f__law_shared 2000 [.val (.int a), .val (.int b)] = .ok (.v (.int (Nat.gcd a b))) [.val (.int (Nat.gcd a b)), .val (.int 0)] := by
  have e := gcd_loop 2000 b (by omega) a
  have h1 : ¬ (a : Int) < 0 := by omega
  have h2 : ¬ (b : Int) < 0 := by omega
  simp [f__law_shared, fn_eq, m__law_shared, e, h1, h2]
/-! ## is_three -/
theorem i3_c {v : Int} : c__law_is_three_1 2000 [.val (.int v)] = .ok (decide (0 < v ∧ v % 4 = 0)) [.val (.int v)] := by
  by_cases z : 0 < v
  · simp (disch := omega) [c__law_is_three_1, dMod_pos, z]
  · simp (disch := omega) [c__law_is_three_1, dMod_pos, z]
theorem i3_b {v : Int} : b__law_is_three_1 2000 [.val (.int v)] = .ok .nx [.val (.int (v / 4))] := by
  simp (disch := omega) [b__law_is_three_1, dFdiv_pos]
theorem i3_loop : ∀ (k v n : Nat), v < 4 ^ k → k < n → ∃ u : Nat, mWh (c__law_is_three_1 2000) (b__law_is_three_1 2000) n [.val (.int v)] = .ok .nx [.val (.int u)] ∧ decide ((u : Int) % 8 = 7) = !i3R (k + 1) v
  | k, v, n + 1, hv, hn => by
    rw [i3R_s]
    by_cases z : v = 0
    · subst z
      refine ⟨0, ?_, rfl⟩
      rw [wh_eq]
      simp [c__law_is_three_1]
    · rw [ff beqq z]
      have pos : (0 : Int) < v := by omega
      by_cases y : v % 4 = 0
      · rw [beqq.mpr y]
        match k, hv, hn with
        | 0, hv, _ => simp at hv; omega
        | k + 1, hv, hn =>
        obtain ⟨u, e, q⟩ := i3_loop k (v / 4) n (by rw [Nat.pow_succ] at hv; omega) (by omega)
        refine ⟨u, ?_, q⟩
        have m : (v : Int) % 4 = 0 := by omega
        have d : (v : Int) / 4 = ((v / 4 : Nat) : Int) := by omega
        have c := i3_c (v := v)
        rw [decide_eq_true ⟨pos, m⟩] at c
        have s := i3_b (v := v)
        rw [d] at s
        exact wh_to c s e
      · rw [ff beqq y]
        refine ⟨v, ?_, ?_⟩
        · have m : ¬ (v : Int) % 4 = 0 := by omega
          have c := i3_c (v := v)
          rw [decide_eq_false (fun w => m w.2)] at c
          exact wh_end c
        · by_cases x : v % 8 = 7
          · rw [beqq.mpr x, decide_eq_true (by omega)]; rfl
          · rw [ff beqq x, decide_eq_false (by omega)]; rfl
theorem is3_ok {v : Nat} (h : v ≤ 700) : ∃ s, f__law_is_three 2000 [.val (.int v)] = .ok (.v (.bl (i3R 12 v))) s := by
  obtain ⟨u, e, q⟩ := i3_loop 11 v 2000 (by have : (4 : Nat) ^ 11 = 4194304 := by decide +kernel
                                            omega) (by omega)
  refine ⟨[.val (.int u)], ?_⟩
  have q' : i3R 12 v = !decide ((u : Int) % 8 = 7) := by rw [q]; simp
  rw [q']
  simp (disch := omega) [f__law_is_three, fn_eq, m__law_is_three, e, dMod_pos]
end Fw
namespace Fw
open PySem L2
def tb2 : List Int := [1, 4, 4, 0, 4, 8, 0, 0, 4, 4, 8, 0, 0, 8, 0, 0, 4, 8, 4, 0, 8, 0, 0, 0, 0, 12, 8, 0, 0, 8]
def tb3 : List Int := [1, 6, 12, 8, 6, 24, 24, 0, 12, 30, 24, 24, 8, 24, 48, 0, 6, 48, 36, 24, 24, 48, 24, 0, 24, 30, 72, 32, 0, 72]
def tb4 : List Int := [1, 8, 24, 32, 24, 48, 96, 64, 24, 104, 144, 96, 96, 112, 192, 192, 24, 144, 312, 160, 144, 256, 288, 192, 96, 248, 336, 320, 192, 240]
def tD (m : Nat) : List D := [.lst ((tb2.take (m + 1)).map D.int), .lst ((tb3.take (m + 1)).map D.int), .lst ((tb4.take (m + 1)).map D.int)]
theorem lc_0 : f__law_counts 2000 [.val (.int 0)] = .ok (.b (tD 0)) [.val (.int 0)] := by kernel_rfl
theorem lc_1 : f__law_counts 2000 [.val (.int 1)] = .ok (.b (tD 1)) [.val (.int 1)] := by kernel_rfl
theorem lc_2 : f__law_counts 2000 [.val (.int 2)] = .ok (.b (tD 2)) [.val (.int 2)] := by kernel_rfl
theorem lc_3 : f__law_counts 2000 [.val (.int 3)] = .ok (.b (tD 3)) [.val (.int 3)] := by kernel_rfl
theorem lc_4 : f__law_counts 2000 [.val (.int 4)] = .ok (.b (tD 4)) [.val (.int 4)] := by kernel_rfl
theorem lc_5 : f__law_counts 2000 [.val (.int 5)] = .ok (.b (tD 5)) [.val (.int 5)] := by kernel_rfl
theorem lc_6 : f__law_counts 2000 [.val (.int 6)] = .ok (.b (tD 6)) [.val (.int 6)] := by kernel_rfl
theorem lc_7 : f__law_counts 2000 [.val (.int 7)] = .ok (.b (tD 7)) [.val (.int 7)] := by kernel_rfl
theorem lc_8 : f__law_counts 2000 [.val (.int 8)] = .ok (.b (tD 8)) [.val (.int 8)] := by kernel_rfl
theorem lc_9 : f__law_counts 2000 [.val (.int 9)] = .ok (.b (tD 9)) [.val (.int 9)] := by kernel_rfl
theorem lc_10 : f__law_counts 2000 [.val (.int 10)] = .ok (.b (tD 10)) [.val (.int 10)] := by kernel_rfl
theorem lc_11 : f__law_counts 2000 [.val (.int 11)] = .ok (.b (tD 11)) [.val (.int 11)] := by kernel_rfl
theorem lc_12 : f__law_counts 2000 [.val (.int 12)] = .ok (.b (tD 12)) [.val (.int 12)] := by kernel_rfl
theorem lc_13 : f__law_counts 2000 [.val (.int 13)] = .ok (.b (tD 13)) [.val (.int 13)] := by kernel_rfl
theorem lc_14 : f__law_counts 2000 [.val (.int 14)] = .ok (.b (tD 14)) [.val (.int 14)] := by kernel_rfl
theorem lc_15 : f__law_counts 2000 [.val (.int 15)] = .ok (.b (tD 15)) [.val (.int 15)] := by kernel_rfl
theorem lc_16 : f__law_counts 2000 [.val (.int 16)] = .ok (.b (tD 16)) [.val (.int 16)] := by kernel_rfl
theorem lc_17 : f__law_counts 2000 [.val (.int 17)] = .ok (.b (tD 17)) [.val (.int 17)] := by kernel_rfl
theorem lc_18 : f__law_counts 2000 [.val (.int 18)] = .ok (.b (tD 18)) [.val (.int 18)] := by kernel_rfl
theorem lc_19 : f__law_counts 2000 [.val (.int 19)] = .ok (.b (tD 19)) [.val (.int 19)] := by kernel_rfl
theorem lc_20 : f__law_counts 2000 [.val (.int 20)] = .ok (.b (tD 20)) [.val (.int 20)] := by kernel_rfl
theorem lc_21 : f__law_counts 2000 [.val (.int 21)] = .ok (.b (tD 21)) [.val (.int 21)] := by kernel_rfl
theorem lc_22 : f__law_counts 2000 [.val (.int 22)] = .ok (.b (tD 22)) [.val (.int 22)] := by kernel_rfl
theorem lc_23 : f__law_counts 2000 [.val (.int 23)] = .ok (.b (tD 23)) [.val (.int 23)] := by kernel_rfl
theorem lc_24 : f__law_counts 2000 [.val (.int 24)] = .ok (.b (tD 24)) [.val (.int 24)] := by kernel_rfl
theorem lc_25 : f__law_counts 2000 [.val (.int 25)] = .ok (.b (tD 25)) [.val (.int 25)] := by kernel_rfl
theorem lc_26 : f__law_counts 2000 [.val (.int 26)] = .ok (.b (tD 26)) [.val (.int 26)] := by kernel_rfl
theorem lc_27 : f__law_counts 2000 [.val (.int 27)] = .ok (.b (tD 27)) [.val (.int 27)] := by kernel_rfl
theorem lc_28 : f__law_counts 2000 [.val (.int 28)] = .ok (.b (tD 28)) [.val (.int 28)] := by kernel_rfl
theorem lc_29 : f__law_counts 2000 [.val (.int 29)] = .ok (.b (tD 29)) [.val (.int 29)] := by kernel_rfl
theorem counts_ok : ∀ m : Nat, m < 30 → f__law_counts 2000 [.val (.int m)] = .ok (.b (tD m)) [.val (.int m)]
  | 0, _ => lc_0
  | 1, _ => lc_1
  | 2, _ => lc_2
  | 3, _ => lc_3
  | 4, _ => lc_4
  | 5, _ => lc_5
  | 6, _ => lc_6
  | 7, _ => lc_7
  | 8, _ => lc_8
  | 9, _ => lc_9
  | 10, _ => lc_10
  | 11, _ => lc_11
  | 12, _ => lc_12
  | 13, _ => lc_13
  | 14, _ => lc_14
  | 15, _ => lc_15
  | 16, _ => lc_16
  | 17, _ => lc_17
  | 18, _ => lc_18
  | 19, _ => lc_19
  | 20, _ => lc_20
  | 21, _ => lc_21
  | 22, _ => lc_22
  | 23, _ => lc_23
  | 24, _ => lc_24
  | 25, _ => lc_25
  | 26, _ => lc_26
  | 27, _ => lc_27
  | 28, _ => lc_28
  | 29, _ => lc_29
  | n + 30, h => by omega
end Fw
namespace Fw
open PySem L2
/-! ## draws -/
def chest (x y z : Int) : D := .lst [.int x, .int y, .int z]
theorem ix0 {a b c : D} : dIx (.lst [a, b, c]) (.int 0) = some a := rfl
theorem ix1 {a b c : D} : dIx (.lst [a, b, c]) (.int 1) = some b := rfl
theorem ix2 {a b c : D} : dIx (.lst [a, b, c]) (.int 2) = some c := rfl
theorem nx0 : ixN 3 0 = some 0 := rfl
theorem nx1' : ixN 3 1 = some 1 := rfl
theorem nx2 : ixN 3 2 = some 2 := rfl
theorem dip_ok (n : Nat) (k x y z m : Int) (hx : 0 ≤ x) (hy : 0 ≤ y ∧ y < 4294967296) (hz : 0 ≤ z ∧ z ≤ k ∧ k < 1000000000) (hm : 0 < m) (hm2 : m < 1073741824) : ∃ r x' y' z' : Int, 0 ≤ r ∧ r < m ∧ 0 ≤ x' ∧ (0 ≤ y' ∧ y' < 4294967296) ∧ (0 ≤ z' ∧ z' ≤ k + 1) ∧ f__law_dip n [.pbox (chest x y z), .val (.int m)] = .ok (.v (.int r)) [.pbox (chest x' y' z'), .val (.int m)] := by
  by_cases c : 0 < x
  · refine ⟨x % m, x / m, y, z + 1, Int.emod_nonneg _ (by omega), Int.emod_lt_of_pos _ hm, Int.ediv_nonneg hx (by omega), hy, by omega, ?_⟩
    simp [f__law_dip, fn_eq, m__law_dip, chest, ix0, ix1, ix2, nx0, nx1', nx2, dDm_pos hm hm2, c]
  · generalize e : f__law_dip n [.pbox (chest x y z), .val (.int m)] = R
    simp (disch := omega) [f__law_dip, fn_eq, m__law_dip, chest, ix0, ix1, ix2, nx0, nx1', nx2, c, dMod_pos, dFdiv_pos, dMul_l, dMul_r, hm] at e
    subst e
    refine ⟨_, _, _, _, ?a, ?b, hx, ⟨?c, ?d⟩, ⟨?e, ?f⟩, rfl⟩
    case a => exact Int.emod_nonneg _ (by omega)
    case b => exact Int.emod_lt_of_pos _ hm
    case c => exact Int.emod_nonneg _ (by omega)
    case d => exact Int.lt_trans (Int.emod_lt_of_pos _ (by omega)) (by omega)
    case e => omega
    case f => omega
def Ck (k : Int) (c : D) : Prop := ∃ x y z : Int, c = chest x y z ∧ 0 ≤ x ∧ (0 ≤ y ∧ y < 4294967296) ∧ 0 ≤ z ∧ z ≤ k
theorem dip_c {k : Int} {c : D} (h : Ck k c) (hk : k < 1000000) {m : Int} (hm : 0 < m ∧ m < 1073741824) : ∃ r c', 0 ≤ r ∧ r < m ∧ Ck (k + 1) c' ∧ f__law_dip 2000 [.pbox c, .val (.int m)] = .ok (.v (.int r)) [.pbox c', .val (.int m)] := by
  obtain ⟨x, y, z, rfl, h1, h2, h3, h4⟩ := h
  obtain ⟨r, x', y', z', a1, a2, a3, a4, a5, e⟩ := dip_ok 2000 k x y z m h1 h2 ⟨h3, h4, by omega⟩ hm.1 hm.2
  exact ⟨r, _, a1, a2, ⟨x', y', z', rfl, a3, a4, a5.1, a5.2⟩, e⟩
theorem one3 {k : Int} {c : D} (h : Ck k c) (hk : k < 1000) : ∃ r c', 1 ≤ r ∧ r ≤ 9999 ∧ Ck (k + 1) c' ∧ f__law_one_of 2000 [.pbox c, .val (.lst [.int 200, .int 2000, .int 9999])] = .ok (.v (.int r)) [.pbox c', .val (.lst [.int 200, .int 2000, .int 9999])] := by
  obtain ⟨r, c', r1, r2, ck, e⟩ := dip_c h (by omega) (m := 3) (by omega)
  have fin : ∀ j x : Int, r = j → dIx (.lst [.int 200, .int 2000, .int 9999]) (.int j) = some (.int x) → f__law_one_of 2000 [.pbox c, .val (.lst [.int 200, .int 2000, .int 9999])] = .ok (.v (.int x)) [.pbox c', .val (.lst [.int 200, .int 2000, .int 9999])] := fun j x hj hx => by
    subst hj
    simp [f__law_one_of, fn_eq, m__law_one_of, e, hx]
  have : r = 0 ∨ r = 1 ∨ r = 2 := by omega
  rcases this with z | z | z
  · exact ⟨200, c', by omega, by omega, ck, fin 0 200 z rfl⟩
  · exact ⟨2000, c', by omega, by omega, ck, fin 1 2000 z rfl⟩
  · exact ⟨9999, c', by omega, by omega, ck, fin 2 9999 z rfl⟩
/-! ## the law's divisors -/
def ldL (v : Int) : Nat → Int → List Int → List Int
  | 0, _, l => l
  | k + 1, s, l => if s * s ≤ v then (if v % s = 0 then (if s * s = v then ldL v k (s + 1) (l ++ [s]) else ldL v k (s + 1) (l ++ [s] ++ [v / s])) else ldL v k (s + 1) l) else l
theorem ld_loop {v : Int} (hv : 0 ≤ v ∧ v ≤ 10000) (n0 : Nat) : ∀ (k n : Nat) (s : Int) (l : List Int), 1 ≤ s → k < n → s + k ≤ 201 → v < (s + k) * (s + k) → l.length ≤ 2 * s → ∃ s',
    mWh (c__law_divisors_1 n0) (b__law_divisors_1 n0) n [.val (.int v), .box (.lst (l.map D.int)), .val (.int s)] = .ok .nx [.val (.int v), .box (.lst ((ldL v k s l).map D.int)), .val (.int s')]
  | 0, n + 1, s, l, hs, hk, hb, hvs, hl => by
    have z : ¬ s * s ≤ v := by
      have e : s + ((0 : Nat) : Int) = s := by omega
      rw [e] at hvs; omega
    refine ⟨s, ?_⟩
    rw [wh_eq]
    simp (disch := omega) [c__law_divisors_1, dMul_l, z, ldL]
  | k + 1, n + 1, s, l, hs, hk, hb, hvs, hl => by
    by_cases z : s * s ≤ v
    · have hvs' : v < (s + 1 + k) * (s + 1 + k) := by
        have e : s + ((k + 1 : Nat) : Int) = s + 1 + k := by omega
        rw [e] at hvs; exact hvs
      have l1 : (l ++ [s]).length ≤ 2 * (s + 1) := by rw [List.length_append]; simp; omega
      have l2 : (l ++ [s] ++ [v / s]).length ≤ 2 * (s + 1) := by rw [List.length_append, List.length_append]; simp; omega
      unfold ldL
      rw [if_pos z]
      by_cases y : v % s = 0
      · rw [if_pos y]
        by_cases x : s * s = v
        · rw [if_pos x]
          obtain ⟨s', e⟩ := ld_loop hv n0 k n (s + 1) (l ++ [s]) (by omega) (by omega) (by omega) hvs' l1
          refine ⟨s', ?_⟩
          rw [← e, wh_eq]
          simp (disch := omega) [c__law_divisors_1, b__law_divisors_1, dMul_l, dMod_pos, z, y, x, lim]
          rw [if_pos (by omega)]
          simp (disch := omega) [dMul_l, x]
        · rw [if_neg x]
          obtain ⟨s', e⟩ := ld_loop hv n0 k n (s + 1) (l ++ [s] ++ [v / s]) (by omega) (by omega) (by omega) hvs' l2
          refine ⟨s', ?_⟩
          rw [← e, wh_eq]
          simp (disch := omega) [c__law_divisors_1, b__law_divisors_1, dMul_l, dMod_pos, dFdiv_pos, z, y, x, lim]
          rw [if_pos (by omega)]
          simp (disch := omega) [dMul_l, dFdiv_pos, x, lim]
          rw [if_pos (by omega)]
          simp
      · rw [if_neg y]
        obtain ⟨s', e⟩ := ld_loop hv n0 k n (s + 1) l (by omega) (by omega) (by omega) hvs' (by omega)
        refine ⟨s', ?_⟩
        rw [← e, wh_eq]
        simp (disch := omega) [c__law_divisors_1, b__law_divisors_1, dMul_l, dMod_pos, z, y]
    · refine ⟨s, ?_⟩
      unfold ldL
      rw [if_neg z, wh_eq]
      simp (disch := omega) [c__law_divisors_1, dMul_l, z]
def ld (v : Int) : List Int := ldL v 101 1 []
theorem ld_ok {v : Int} (hv : 0 ≤ v ∧ v ≤ 10000) : f__law_divisors 2000 [.val (.int v)] = .ok (.b ((ld v).map D.int)) [.val (.int v)] := by
  obtain ⟨s', e⟩ := ld_loop hv 2000 101 2000 1 [] (by omega) (by omega) (by omega) (by omega) (by simp)
  have e : mWh (c__law_divisors_1 2000) (b__law_divisors_1 2000) 2000 [.val (.int v), .box (.lst []), .val (.int 1)] = .ok .nx [.val (.int v), .box (.lst ((ld v).map D.int)), .val (.int s')] := e
  simp [f__law_divisors, fn_eq, m__law_divisors, e, mRetB]
theorem ld_sum (w : Int → Int) {v : Int} : ∀ (k : Nat) (s : Int) (l0 l h : List Int), sm w l0 = sm w l + sm w h → sm w (ldL v k s l0) = sm w (dvL v k s l h).1 + sm w (dvL v k s l h).2
  | 0, s, l0, l, h, e => e
  | k + 1, s, l0, l, h, e => by
    unfold ldL dvL
    split
    · split
      · split
        · exact ld_sum w k _ _ _ _ (by rw [sm_append, sm_append, e]; omega)
        · exact ld_sum w k _ _ _ _ (by rw [sm_append, sm_append, sm_append, sm_append, e]; omega)
      · exact ld_sum w k _ _ _ _ e
    · exact e
theorem ld_S (w : Int → Int) (v : Int) : sm w (ld v) = S w v := ld_sum w 101 1 [] [] [] rfl
theorem ld_len {v : Int} : ∀ (k : Nat) (s : Int) (l : List Int), (ldL v k s l).length ≤ l.length + 2 * k
  | 0, s, l => Nat.le_refl _
  | k + 1, s, l => by
    unfold ldL
    split
    · split
      · split
        · have := ld_len (v := v) k (s + 1) (l ++ [s]); simp at this; omega
        · have := ld_len (v := v) k (s + 1) (l ++ [s] ++ [v / s]); rw [List.length_append, List.length_append, List.length_singleton, List.length_singleton] at this; omega
      · have := ld_len (v := v) k (s + 1) l; omega
    · omega
theorem ld_mem {v : Int} (hv : 0 ≤ v) : ∀ (k : Nat) (s : Int) (l : List Int), 1 ≤ s → (∀ d ∈ l, 0 ≤ d ∧ d ≤ v) → ∀ d ∈ ldL v k s l, 0 ≤ d ∧ d ≤ v
  | 0, s, l, hs, h => h
  | k + 1, s, l, hs, h => by
    unfold ldL
    split
    · rename_i z
      have sv : s ≤ v := by
        have : s * 1 ≤ s * s := Int.mul_le_mul_of_nonneg_left hs (by omega)
        omega
      have h1 : ∀ d ∈ l ++ [s], 0 ≤ d ∧ d ≤ v := fun d hd => by
        rcases List.mem_append.mp hd with q | q
        · exact h d q
        · rw [List.mem_singleton.mp q]; omega
      have h2 : ∀ d ∈ l ++ [s] ++ [v / s], 0 ≤ d ∧ d ≤ v := fun d hd => by
        rcases List.mem_append.mp hd with q | q
        · exact h1 d q
        · rw [List.mem_singleton.mp q]
          exact ⟨Int.ediv_nonneg hv (by omega), Int.ediv_le_self _ hv⟩
      split
      · split
        · exact ld_mem hv k _ _ (by omega) h1
        · exact ld_mem hv k _ _ (by omega) h2
      · exact ld_mem hv k _ _ (by omega) h
    · exact h
theorem sm_bd {w : Int → Int} {B : Int} (hB : 0 ≤ B) : ∀ (L : List Int), (∀ d ∈ L, -B ≤ w d ∧ w d ≤ B) → -(B * L.length) ≤ sm w L ∧ sm w L ≤ B * L.length
  | [], _ => by simp [sm]
  | d :: L, h => by
    have h1 := h d List.mem_cons_self
    have h2 := sm_bd hB L fun x hx => h x (List.mem_cons_of_mem _ hx)
    have e : sm w (d :: L) = w d + sm w L := by simp [sm]
    have e2 : B * ((d :: L).length : Int) = B + B * (L.length : Int) := by rw [List.length_cons]; grind
    rw [e, e2]; omega
theorem c_bd {v : Int} (hv : 0 ≤ v ∧ v ≤ 10000) : (-100000 ≤ c2 v ∧ c2 v ≤ 100000) ∧ (-100000000 ≤ c4 v ∧ c4 v ≤ 100000000) := by
  have ln : (ld v).length ≤ 202 := by have := ld_len (v := v) 101 1 []; simp at this; exact this
  have mem := ld_mem hv.1 101 1 [] (by omega) (by simp)
  have a := sm_bd (w := w2) (B := 4) (by omega) (ld v) (fun d hd => by unfold w2; (repeat' split) <;> omega)
  have b := sm_bd (w := w4) (B := 10000) (by omega) (ld v) (fun d hd => by
    have := mem d hd
    unfold w4; split <;> omega)
  rw [ld_S] at a b
  unfold c2 c4
  constructor <;> split <;> omega
theorem p40 : (2 : Nat) ^ 40 = 1099511627776 := by decide +kernel
theorem rep2 {a b : Int} (ha : -100000 ≤ a ∧ a ≤ 100000) (hb : -100000000 ≤ b ∧ b ≤ 100000000) : ∃ x, dRepr (.lst [.int a, .int b]) = some (.str x) := by
  have l1 : a.natAbs.log2 < 1920 := Nat.lt_of_le_of_lt (log2_le (n := a.natAbs) (a := 40) (by rw [p40]; omega)) (by omega)
  have l2 : b.natAbs.log2 < 1920 := Nat.lt_of_le_of_lt (log2_le (n := b.natAbs) (a := 40) (by rw [p40]; omega)) (by omega)
  refine ⟨_, dRepr_some (p := .list [.int a, .int b]) rfl rfl ?_ (by simp [szP, szPs])⟩
  simp [flatP, flatPs, l1, l2]
theorem flt2 : ∀ L : List Int, 4 * (((L.filter fun d => decide (d % 4 = 1)).length : Int) - ((L.filter fun d => decide (d % 4 = 3)).length : Int)) = sm w2 L
  | [] => rfl
  | d :: L => by
    have ih := flt2 L
    have e : sm w2 (d :: L) = w2 d + sm w2 L := by simp [sm]
    have c := (by omega : d % 4 = 0 ∨ d % 4 = 1 ∨ d % 4 = 2 ∨ d % 4 = 3)
    have ew : w2 d = if d % 2 = 1 then (if d % 4 = 1 then 4 else -4) else 0 := rfl
    rw [e, ew]
    rcases c with z | z | z | z
    · rw [List.filter_cons_of_neg (by simp [z]), List.filter_cons_of_neg (by simp [z]), if_neg (by omega)]; omega
    · rw [List.filter_cons_of_pos (by simp [z]), List.filter_cons_of_neg (by simp [z]), if_pos (by omega), if_pos z, List.length_cons]; omega
    · rw [List.filter_cons_of_neg (by simp [z]), List.filter_cons_of_neg (by simp [z]), if_neg (by omega)]; omega
    · rw [List.filter_cons_of_neg (by simp [z]), List.filter_cons_of_pos (by simp [z]), if_pos (by omega), if_neg (by omega), List.length_cons]; omega
end Fw
namespace Fw
open PySem L2
def rtS (j : Nat) : Int := if j < 1 then 0 else if j < 4 then 1 else if j < 9 then 2 else if j < 16 then 3 else if j < 25 then 4 else 5
theorem rtS_ok {j : Nat} (h : j < 30) : Rt2 (j : Int) (rtS j) := by
  unfold rtS Rt2
  (repeat' split) <;> omega
def cK (k j : Nat) : Int := match k with
  | 2 => c2 j
  | 3 => c3 j (rtS j)
  | _ => c4 j
def tbK (k : Nat) : List Int := match k with
  | 2 => tb2
  | 3 => tb3
  | _ => tb4
theorem csK {k j : Nat} (hk : 2 ≤ k ∧ k ≤ 4) (hj : j < 30) : f_count_squares 2000 [.val (.int k), .val (.int j)] = .ok (.v (.int (cK k j))) [.val (.int k), .val (.int j)] := by
  have : k = 2 ∨ k = 3 ∨ k = 4 := by omega
  rcases this with rfl | rfl | rfl
  · exact cs2 (by omega)
  · obtain ⟨r, hr, e⟩ := cs3 (v := j) (by omega)
    rw [hr.uniq (rtS_ok hj)] at e
    exact e
  · exact cs4 (by omega)
theorem tab_eq : ∀ m : _root_.Fin 30, ∀ k : _root_.Fin 5, 2 ≤ k.val → (List.range (m.val + 1)).map (cK k.val) = (tbK k.val).take (m.val + 1) := by decide +kernel
theorem tab_at : ∀ m : _root_.Fin 30, ∀ k : _root_.Fin 5, 2 ≤ k.val → (tbK k.val)[m.val]? = some (cK k.val m.val) := by decide +kernel
theorem tab4_pos : ∀ m : _root_.Fin 30, 0 < cK 4 m.val := by decide +kernel
theorem dueK {k m : Nat} (hk : 2 ≤ k ∧ k ≤ 4) (hm : m < 30) : Pq k (m : Int) 0 ↔ decide (0 < cK k m) = true := by
  rw [decide_eq_true_iff]
  have : k = 2 ∨ k = 3 ∨ k = 4 := by omega
  rcases this with rfl | rfl | rfl
  · exact pq2_iff (by omega)
  · obtain ⟨h1, h2, _⟩ := three_tab (v := m) (by omega) (rtS_ok hm)
    exact h1.symm.trans h2
  · obtain ⟨_, _, h3⟩ := three_tab (v := m) (by omega) (rtS_ok hm)
    exact ⟨fun _ => tab4_pos ⟨m, hm⟩, fun _ => h3⟩
theorem ixL {L : List Int} {j : Nat} {x : Int} (h : L[j]? = some x) : dIx (.lst (L.map D.int)) (.int j) = some (.int x) := by
  have hl : j < L.length := by
    by_cases z : j < L.length
    · exact z
    · rw [List.getElem?_eq_none (by omega)] at h; cases h
  show L2.atI (L.map D.int) (j : Int) = _
  unfold L2.atI ixN
  rw [if_pos (by omega), if_pos (by rw [List.length_map]; omega)]
  show (L.map D.int)[(j : Int).toNat]? = _
  rw [Int.toNat_natCast, List.getElem?_map, h]
  rfl
theorem tD_ix {k m : Nat} (hk : 2 ≤ k ∧ k ≤ 4) : dIx (.lst (tD m)) (.int ((k : Int) - 2)) = some (.lst (((tbK k).take (m + 1)).map D.int)) := by
  have : k = 2 ∨ k = 3 ∨ k = 4 := by omega
  rcases this with rfl | rfl | rfl <;> rfl
theorem body1 {k m : Nat} (hk : 2 ≤ k ∧ k ≤ 4) (hm : m < 30) (c : D) : b__law_right_1 2000 [.pbox c, .val (.int m), .val (.lst (tD m)), .val (.int k), .emp, .emp, .emp, .emp, .emp, .emp, .emp, .emp, .emp, .emp, .emp] = .ok .nx [.pbox c, .val (.int m), .val (.lst (tD m)), .val (.int k), .emp, .emp, .emp, .emp, .emp, .emp, .emp, .emp, .emp, .emp, .emp] := by
  have l : mLcL [14] (Fw.setV 14) (mp true) (mCv 2 (f_count_squares 2000) [(.e (mVar 3)), (.e (mVar 14))]) ((List.range (m + 1)).map fun (i : Nat) => D.int (0 + (i : Int))) [] [.pbox c, .val (.int m), .val (.lst (tD m)), .val (.int k), .emp, .emp, .emp, .emp, .emp, .emp, .emp, .emp, .emp, .emp, .emp] = .ok ((List.range (m + 1)).map fun i => D.int (cK k i)) [.pbox c, .val (.int m), .val (.lst (tD m)), .val (.int k), .emp, .emp, .emp, .emp, .emp, .emp, .emp, .emp, .emp, .emp, .emp] := by
    refine lc_map (fun (i : Nat) => D.int (0 + (i : Int))) _ (List.range (m + 1)) (fun j hj => ?_) (by simp; omega)
    have hj := List.mem_range.mp hj
    have e := csK hk (j := j) (by omega)
    refine ⟨[.pbox c, .val (.int m), .val (.lst (tD m)), .val (.int k), .emp, .emp, .emp, .emp, .emp, .emp, .emp, .emp, .emp, .emp, .val (.int (0 + (j : Int)))], by simp, [.pbox c, .val (.int m), .val (.lst (tD m)), .val (.int k), .emp, .emp, .emp, .emp, .emp, .emp, .emp, .emp, .emp, .emp, .val (.int (0 + (j : Int)))], ?_, rfl⟩
    rw [Int.zero_add]
    simp [e]
  have t := tab_eq ⟨m, hm⟩ ⟨k, by omega⟩ hk.1
  have l2 : ((List.range (m + 1)).map fun i => D.int (cK k i)) = ((tbK k).take (m + 1)).map D.int := by
    have t : (List.range (m + 1)).map (cK k) = (tbK k).take (m + 1) := t
    rw [← t, List.map_map]; rfl
  rw [l2] at l
  have r : dR1 [.int ((m : Int) + 1)] = some ((List.range (m + 1)).map fun (i : Nat) => D.int (0 + (i : Int))) := by
    rw [dR1_ok ⟨by omega, by omega⟩]; congr 1
  have ix := tD_ix (m := m) hk
  have a : ((tbK k).take (m + 1))[m]? = some (cK k m) := by
    rw [List.getElem?_take_of_lt (by omega)]; exact tab_at ⟨m, hm⟩ ⟨k, by omega⟩ hk.1
  have ix2 := ixL a
  have ne := dNe_ls ((tbK k).take (m + 1))
  have fr := fright hk (v := m) (by omega) (dueK hk hm)
  generalize ((List.range (m + 1)).map fun (i : Nat) => D.int (0 + (i : Int))) = R at l r
  generalize ((tbK k).take (m + 1)).map D.int = T at *
  unfold b__law_right_1
  refine sq_to (e1 := [.pbox c, .val (.int m), .val (.lst (tD m)), .val (.int k), .emp, .emp, .emp, .emp, .emp, .emp, .emp, .emp, .emp, .emp, .emp]) ?_ ?_
  · simp [r, l, ix, ne]
  · simp [ix, ix2, fr]
end Fw
namespace Fw
open PySem L2
/-- a filter, any slots -/
theorem flt {t : M Bool} {p : Int → Bool} {e e14 : Ev} {L : List Int} (hl : L.length ≤ 1000) (h : ∀ x ∈ L, ∃ e1, Fw.setV 14 (.int x) e = .ok () e1 ∧ t e1 = .ok (p x) e1 ∧ mVar 14 e1 = .ok (.int x) e1 ∧ wipeE e1 [14] = e) :
    mLcL [14] (Fw.setV 14) t (mVar 14) (L.map D.int) [] e = .ok ((L.filter p).map D.int) e := by
  have := lc_fm (own := [14]) (bd := Fw.setV 14) (t := t) (el := mVar 14) (e := e) D.int p D.int L [] (fun x hx => by
    obtain ⟨e1, b1, b2, b3, b4⟩ := h x hx
    exact ⟨e1, b1, e1, b2, fun _ => b4, fun _ => ⟨e1, b3, b4⟩⟩) (by simp; omega)
  simpa using this
theorem st6 {m : Nat} {c : D} {v : Int} (hv : 1 ≤ v ∧ v ≤ 9999) : (mSet 6 (mOp dMul (.e (mC (.int 4))) (.e (mOp dSub (.e (mCB (op1 dLen) [(.e (mFr (mLc (mIt (mVar 5)) [14] (Fw.setV 14) (mCmp dEq (.e (mOp dMod (.e (mCB (op1 dInt) [(.e (mVar 14))])) (.e (mC (.int 4))))) (.e (mC (.int 1)))) (mVar 14))))])) (.e (mCB (op1 dLen) [(.e (mFr (mLc (mIt (mVar 5)) [14] (Fw.setV 14) (mCmp dEq (.e (mOp dMod (.e (mCB (op1 dInt) [(.e (mVar 14))])) (.e (mC (.int 4))))) (.e (mC (.int 3)))) (mVar 14))))])))))) [.pbox c, .val (.int m), .val (.lst (tD m)), .val (.int 4), .val (.int v), .val (.lst ((ld v).map D.int)), .emp, .emp, .emp, .emp, .emp, .emp, .emp, .emp, .emp] = .ok .nx [.pbox c, .val (.int m), .val (.lst (tD m)), .val (.int 4), .val (.int v), .val (.lst ((ld v).map D.int)), .val (.int (c2 v)), .emp, .emp, .emp, .emp, .emp, .emp, .emp, .emp] := by
  have ln : (ld v).length ≤ 1000 := by have := ld_len (v := v) 101 1 []; simp at this; unfold ld; omega
  have f1 := flt (t := (mCmp dEq (.e (mOp dMod (.e (mCB (op1 dInt) [(.e (mVar 14))])) (.e (mC (.int 4))))) (.e (mC (.int 1))))) (p := fun d => decide (d % 4 = 1)) (e := [.pbox c, .val (.int m), .val (.lst (tD m)), .val (.int 4), .val (.int v), .val (.lst ((ld v).map D.int)), .emp, .emp, .emp, .emp, .emp, .emp, .emp, .emp, .emp]) (e14 := []) ln (fun x hx => ⟨[.pbox c, .val (.int m), .val (.lst (tD m)), .val (.int 4), .val (.int v), .val (.lst ((ld v).map D.int)), .emp, .emp, .emp, .emp, .emp, .emp, .emp, .emp, .val (.int x)], by simp, by simp (disch := omega) [dMod_pos], by simp, rfl⟩)
  have f3 := flt (t := (mCmp dEq (.e (mOp dMod (.e (mCB (op1 dInt) [(.e (mVar 14))])) (.e (mC (.int 4))))) (.e (mC (.int 3))))) (p := fun d => decide (d % 4 = 3)) (e := [.pbox c, .val (.int m), .val (.lst (tD m)), .val (.int 4), .val (.int v), .val (.lst ((ld v).map D.int)), .emp, .emp, .emp, .emp, .emp, .emp, .emp, .emp, .emp]) (e14 := []) ln (fun x hx => ⟨[.pbox c, .val (.int m), .val (.lst (tD m)), .val (.int 4), .val (.int v), .val (.lst ((ld v).map D.int)), .emp, .emp, .emp, .emp, .emp, .emp, .emp, .emp, .val (.int x)], by simp, by simp (disch := omega) [dMod_pos], by simp, rfl⟩)
  have s := flt2 (ld v)
  rw [ld_S] at s
  have z : ¬ v = 0 := by omega
  have s2 : c2 v = S w2 v := by unfold c2; rw [if_neg z]
  rw [s2, ← s]
  generalize hA : (ld v).filter (fun d => decide (d % 4 = 1)) = A at *
  generalize hB : (ld v).filter (fun d => decide (d % 4 = 3)) = B at *
  generalize (ld v).map D.int = L at *
  simp (disch := omega) [f1, f3, dMul_l]
theorem st7 {m : Nat} {c : D} {v : Int} (hv : 1 ≤ v ∧ v ≤ 9999) : (mSet 7 (mOp dMul (.e (mC (.int 8))) (.e (mCB (op1 dSum) [(.e (mFr (mLc (mIt (mVar 5)) [14] (Fw.setV 14) (mCmp dNe (.e (mOp dMod (.e (mCB (op1 dInt) [(.e (mVar 14))])) (.e (mC (.int 4))))) (.e (mC (.int 0)))) (mVar 14))))])))) [.pbox c, .val (.int m), .val (.lst (tD m)), .val (.int 4), .val (.int v), .val (.lst ((ld v).map D.int)), .val (.int (c2 v)), .emp, .emp, .emp, .emp, .emp, .emp, .emp, .emp] = .ok .nx [.pbox c, .val (.int m), .val (.lst (tD m)), .val (.int 4), .val (.int v), .val (.lst ((ld v).map D.int)), .val (.int (c2 v)), .val (.int (c4 v)), .emp, .emp, .emp, .emp, .emp, .emp, .emp] := by
  have ln : (ld v).length ≤ 1000 := by have := ld_len (v := v) 101 1 []; simp at this; unfold ld; omega
  have f1 := flt (t := (mCmp dNe (.e (mOp dMod (.e (mCB (op1 dInt) [(.e (mVar 14))])) (.e (mC (.int 4))))) (.e (mC (.int 0))))) (p := fun d => !decide (d % 4 = 0)) (e := [.pbox c, .val (.int m), .val (.lst (tD m)), .val (.int 4), .val (.int v), .val (.lst ((ld v).map D.int)), .val (.int (c2 v)), .emp, .emp, .emp, .emp, .emp, .emp, .emp, .emp]) (e14 := []) ln (fun x hx => ⟨[.pbox c, .val (.int m), .val (.lst (tD m)), .val (.int 4), .val (.int v), .val (.lst ((ld v).map D.int)), .val (.int (c2 v)), .emp, .emp, .emp, .emp, .emp, .emp, .emp, .val (.int x)], by simp, by simp (disch := omega) [dMod_pos], by simp, rfl⟩)
  have s := sm_w4 (ld v)
  rw [ld_S] at s
  have z : ¬ v = 0 := by omega
  have s2 : c4 v = 8 * S w4 v := by unfold c4; rw [if_neg z]
  have ds := dSum_map ((ld v).filter (fun d => !decide (d % 4 = 0)))
  rw [s2, ← s]
  generalize (ld v).filter (fun d => !decide (d % 4 = 0)) = A at *
  generalize (ld v).map D.int = L at *
  simp (disch := omega) [f1, ds, dMul_l]
theorem loop2 {c : D} {a1 a2 a4 a5 a6 a7 a8 : Sl} {u : Int} {a b : Nat} (ha : 1 ≤ a ∧ a ≤ 90) (hb : 1 ≤ b ∧ b ≤ 90) (g : Nat.gcd a b = 1) : ∃ x3 x12 x13, mFl (gTupD 2 (gsCons (Fw.setV 3) (gsCons (Fw.setV 12) gsNil))) (b__law_right_2 2000) [.tup [.int 2, .int 4], .tup [.int 4, .int 8]] [.pbox c, a1, a2, .val (.int 4), a4, a5, a6, a7, a8, .val (.int u), .val (.int a), .val (.int b), .emp, .emp, .emp] = .ok .nx [.pbox c, a1, a2, x3, a4, a5, a6, a7, a8, .val (.int u), .val (.int a), .val (.int b), x12, x13, .emp] := by
  obtain ⟨p2, p4⟩ := prod_tab ha hb g
  have hab : (0 : Int) ≤ (a : Int) * b ∧ (a : Int) * b ≤ 10000 := by
    have h1 : (a : Int) * b ≤ 90 * 90 := Int.mul_le_mul (by omega) (by omega) (by omega) (by omega)
    have h0 : 0 ≤ (a : Int) * b := Int.mul_nonneg (by omega) (by omega)
    omega
  have A2 := cs2 (v := a) (by omega)
  have B2 := cs2 (v := b) (by omega)
  have P2 := cs2 hab
  have A4 := cs4 (v := a) (by omega)
  have B4 := cs4 (v := b) (by omega)
  have P4 := cs4 hab
  obtain ⟨q1, q2⟩ := c_bd (v := a) (by omega)
  generalize hab' : (a : Int) * b = ab at *
  refine ⟨.val (.int 4), .val (.int 8), .val (.int (c4 a * c4 b)), ?_⟩
  refine fl_to (e1 := [.pbox c, a1, a2, .val (.int 2), a4, a5, a6, a7, a8, .val (.int u), .val (.int a), .val (.int b), .val (.int 4), .emp, .emp]) (e2 := [.pbox c, a1, a2, .val (.int 2), a4, a5, a6, a7, a8, .val (.int u), .val (.int a), .val (.int b), .val (.int 4), .val (.int (c2 a * c2 b)), .emp]) (by simp) ?_ ?_
  · unfold b__law_right_2
    refine sq_to (e1 := [.pbox c, a1, a2, .val (.int 2), a4, a5, a6, a7, a8, .val (.int u), .val (.int a), .val (.int b), .val (.int 4), .val (.int (c2 a * c2 b)), .emp]) (by simp (disch := omega) [A2, B2, dMul_l]) ?_
    simp (disch := omega) [hab', P2, dMul_l, p2]
  refine fl_to (e1 := [.pbox c, a1, a2, .val (.int 4), a4, a5, a6, a7, a8, .val (.int u), .val (.int a), .val (.int b), .val (.int 8), .val (.int (c2 a * c2 b)), .emp]) (e2 := [.pbox c, a1, a2, .val (.int 4), a4, a5, a6, a7, a8, .val (.int u), .val (.int a), .val (.int b), .val (.int 8), .val (.int (c4 a * c4 b)), .emp]) (by simp) ?_ rfl
  unfold b__law_right_2
  refine sq_to (e1 := [.pbox c, a1, a2, .val (.int 4), a4, a5, a6, a7, a8, .val (.int u), .val (.int a), .val (.int b), .val (.int 8), .val (.int (c4 a * c4 b)), .emp]) (by simp (disch := omega) [A4, B4, dMul_l]) ?_
  simp (disch := omega) [hab', P4, dMul_l, p4]
end Fw
namespace Fw
open PySem L2
theorem stp2 {F : Fn} {c : D} {m : Int} {T : List D} (ec : F [.val (.int m)] = .ok (.b T) [.val (.int m)]) : (mSet 2 (mFr (mCl 1 F [(.e (mVar 1))]))) [.pbox c, .val (.int m), .emp, .emp, .emp, .emp, .emp, .emp, .emp, .emp, .emp, .emp, .emp, .emp, .emp] = .ok .nx [.pbox c, .val (.int m), .val (.lst T), .emp, .emp, .emp, .emp, .emp, .emp, .emp, .emp, .emp, .emp, .emp, .emp] := by
  simp [ec]
theorem right_ok {c : D} (hc : Ck 0 c) : ∃ s, f__law_right 2000 [.pbox c] = .ok (.v (.bl true)) s := by
  obtain ⟨m', c1, m1, m2, k1, e1⟩ := dip_c hc (by omega) (m := 30) (by omega)
  obtain ⟨m, rfl⟩ : ∃ m : Nat, m' = m := ⟨m'.toNat, by omega⟩
  have hm : m < 30 := by omega
  have ec := counts_ok m hm
  obtain ⟨w, c2', w1, w2, k2, e2⟩ := one3 k1 (by omega)
  obtain ⟨v', c3', v1, v2, k3, e3⟩ := dip_c k2 (by omega) (m := w) (by omega)
  obtain ⟨v, hv⟩ : ∃ v, v = 1 + v' := ⟨_, rfl⟩
  have vb : 1 ≤ v ∧ v ≤ 9999 := by omega
  have el := ld_ok (v := v) (by omega)
  have n2 := cs2 (v := v) (by omega)
  have n4 := cs4 (v := v) (by omega)
  obtain ⟨q1, q2⟩ := c_bd (v := v) (by omega)
  obtain ⟨x, rp⟩ := rep2 q1 q2
  have due : Pq 2 v 0 ↔ decide (0 < c2 v) = true := by rw [decide_eq_true_iff]; exact pq2_iff (by omega)
  have fr : f__law_found_right 2000 [.val (.int 2), .val (.int v), .val (.bl (decide (0 < c2 v)))] = .ok (.v (.bl true)) [.val (.int 2), .val (.int v), .val (.bl (decide (0 < c2 v)))] := fright (k := 2) (by omega) (v := v) (by omega) due
  obtain ⟨u', c4', u1, u2, k4, e4⟩ := dip_c k3 (by omega) (m := 700) (by omega)
  obtain ⟨u, hu⟩ : ∃ u : Nat, 1 + u' = (u : Int) := ⟨(1 + u').toNat, by omega⟩
  have ub : u ≤ 700 := by omega
  obtain ⟨i3s, i3⟩ := is3_ok ub
  obtain ⟨r, hr, n3⟩ := cs3 (v := u) (by omega)
  obtain ⟨t1, t2, t3⟩ := three_tab ub hr
  have fr3 : f__law_found_right 2000 [.val (.int 3), .val (.int u), .val (.bl (i3R 12 u))] = .ok (.v (.bl true)) [.val (.int 3), .val (.int u), .val (.bl (i3R 12 u))] := fright (k := 3) (by omega) (v := u) (by omega) t1.symm
  have fr4 : f__law_found_right 2000 [.val (.int 4), .val (.int u), .val (.bl true)] = .ok (.v (.bl true)) [.val (.int 4), .val (.int u), .val (.bl true)] := fright (k := 4) (by omega) (v := u) (by omega) (due := true) ⟨fun _ => rfl, fun _ => t3⟩
  obtain ⟨a', c5, a1, a2, k5, e5⟩ := dip_c k4 (by omega) (m := 90) (by omega)
  obtain ⟨b', c6, b1, b2, k6, e6⟩ := dip_c k5 (by omega) (m := 90) (by omega)
  obtain ⟨a, ha⟩ : ∃ a : Nat, 1 + a' = (a : Int) := ⟨(1 + a').toNat, by omega⟩
  obtain ⟨b, hb⟩ : ∃ b : Nat, 1 + b' = (b : Int) := ⟨(1 + b').toNat, by omega⟩
  have sh := shared_ok (a := a) (b := b) (by omega)
  have last : decide (0 < c3 (u : Int) r) = i3R 12 u := by
    cases z : i3R 12 u with
    | true => exact decide_eq_true (t2.mp z)
    | false => exact decide_eq_false fun y => by rw [t2.mpr y] at z; cases z
  refine ⟨[.pbox c6], ?_⟩
  have lp : ∃ x3 x12 x13, (mIf (mCmp dEq (.e (mCv 2 (f__law_shared 2000) [(.e (mVar 10)), (.e (mVar 11))])) (.e (mC (.int 1))))
    (mFor (mIt (mFr (mLst (mCons (mTup (mCons (mC (.int 2)) (mCons (mC (.int 4)) mNil))) (mCons (mTup (mCons (mC (.int 4)) (mCons (mC (.int 8)) mNil))) mNil))))) (gTupD 2 (gsCons (Fw.setV 3) (gsCons (Fw.setV 12) gsNil)))
    (b__law_right_2 2000))
    (mp .nx)) [.pbox c6, .val (.int m), .val (.lst (tD m)), .val (.int 4), .val (.int v), .val (.lst ((ld v).map D.int)), .val (.int (c2 v)), .val (.int (c4 v)), .val (.lst [.int (c2 v), .int (c4 v)]), .val (.int u), .val (.int a), .val (.int b), .emp, .emp, .emp] = .ok .nx [.pbox c6, .val (.int m), .val (.lst (tD m)), x3, .val (.int v), .val (.lst ((ld v).map D.int)), .val (.int (c2 v)), .val (.int (c4 v)), .val (.lst [.int (c2 v), .int (c4 v)]), .val (.int u), .val (.int a), .val (.int b), x12, x13, .emp] := by
    by_cases g : Nat.gcd a b = 1
    · obtain ⟨x3, x12, x13, e⟩ := loop2 (c := c6) (a1 := .val (.int m)) (a2 := .val (.lst (tD m))) (a4 := .val (.int v)) (a5 := .val (.lst ((ld v).map D.int))) (a6 := .val (.int (c2 v))) (a7 := .val (.int (c4 v))) (a8 := .val (.lst [.int (c2 v), .int (c4 v)])) (u := u) (a := a) (b := b) (by omega) (by omega) g
      refine ⟨x3, x12, x13, ?_⟩
      refine if_t (e1 := [.pbox c6, .val (.int m), .val (.lst (tD m)), .val (.int 4), .val (.int v), .val (.lst ((ld v).map D.int)), .val (.int (c2 v)), .val (.int (c4 v)), .val (.lst [.int (c2 v), .int (c4 v)]), .val (.int u), .val (.int a), .val (.int b), .emp, .emp, .emp]) (by simp [sh, g]) ?_
      simp [e]
    · refine ⟨.val (.int 4), .emp, .emp, ?_⟩
      have g' : ¬ ((Nat.gcd a b : Nat) : Int) = 1 := by omega
      refine if_f (e1 := [.pbox c6, .val (.int m), .val (.lst (tD m)), .val (.int 4), .val (.int v), .val (.lst ((ld v).map D.int)), .val (.int (c2 v)), .val (.int (c4 v)), .val (.lst [.int (c2 v), .int (c4 v)]), .val (.int u), .val (.int a), .val (.int b), .emp, .emp, .emp]) (by rw [e_Cmp]; simp [sh, g']) ?_
      rfl
  obtain ⟨x3, x12, x13, lp⟩ := lp
  have run : m__law_right 2000 [.pbox c, .emp, .emp, .emp, .emp, .emp, .emp, .emp, .emp, .emp, .emp, .emp, .emp, .emp, .emp] = .ok (.rt (.bl true)) [.pbox c6, .val (.int m), .val (.lst (tD m)), x3, .val (.int v), .val (.lst ((ld v).map D.int)), .val (.int (c2 v)), .val (.int (c4 v)), .val (.lst [.int (c2 v), .int (c4 v)]), .val (.int u), .val (.int a), .val (.int b), x12, x13, .emp] := by
    unfold m__law_right
    refine sq_to (e1 := [.pbox c1, .val (.int m), .emp, .emp, .emp, .emp, .emp, .emp, .emp, .emp, .emp, .emp, .emp, .emp, .emp]) (by simp [e1]) ?_
    refine sq_to (stp2 ec) ?_
    refine sq_to (e1 := [.pbox c1, .val (.int m), .val (.lst (tD m)), .val (.int 4), .emp, .emp, .emp, .emp, .emp, .emp, .emp, .emp, .emp, .emp, .emp]) ?_ ?_
    · have b2 := body1 (k := 2) (by omega) hm c1
      have b3 := body1 (k := 3) (by omega) hm c1
      have b4 := body1 (k := 4) (by omega) hm c1
      have f4 : mFl (Fw.setV 3) (b__law_right_1 2000) [.int 2, .int 3, .int 4] [.pbox c1, .val (.int m), .val (.lst (tD m)), .emp, .emp, .emp, .emp, .emp, .emp, .emp, .emp, .emp, .emp, .emp, .emp] = .ok .nx [.pbox c1, .val (.int m), .val (.lst (tD m)), .val (.int 4), .emp, .emp, .emp, .emp, .emp, .emp, .emp, .emp, .emp, .emp, .emp] := by
        refine fl_to (e1 := [.pbox c1, .val (.int m), .val (.lst (tD m)), .val (.int 2), .emp, .emp, .emp, .emp, .emp, .emp, .emp, .emp, .emp, .emp, .emp]) (by simp) b2 ?_
        refine fl_to (e1 := [.pbox c1, .val (.int m), .val (.lst (tD m)), .val (.int 3), .emp, .emp, .emp, .emp, .emp, .emp, .emp, .emp, .emp, .emp, .emp]) (by simp) b3 ?_
        exact fl_to (e1 := [.pbox c1, .val (.int m), .val (.lst (tD m)), .val (.int 4), .emp, .emp, .emp, .emp, .emp, .emp, .emp, .emp, .emp, .emp, .emp]) (by simp) b4 rfl
      simp [f4]
    refine sq_to (e1 := [.pbox c3', .val (.int m), .val (.lst (tD m)), .val (.int 4), .val (.int v), .emp, .emp, .emp, .emp, .emp, .emp, .emp, .emp, .emp, .emp]) (by rw [hv]; simp [e2, e3]) ?_
    refine sq_to (e1 := [.pbox c3', .val (.int m), .val (.lst (tD m)), .val (.int 4), .val (.int v), .val (.lst ((ld v).map D.int)), .emp, .emp, .emp, .emp, .emp, .emp, .emp, .emp, .emp]) (by simp [el]) ?_
    refine sq_to (st6 vb) ?_
    refine sq_to (st7 vb) ?_
    refine sq_to (e1 := [.pbox c3', .val (.int m), .val (.lst (tD m)), .val (.int 4), .val (.int v), .val (.lst ((ld v).map D.int)), .val (.int (c2 v)), .val (.int (c4 v)), .val (.lst [.int (c2 v), .int (c4 v)]), .emp, .emp, .emp, .emp, .emp, .emp]) (by simp [n2, n4, permL]) ?_
    refine sq_to (e1 := [.pbox c3', .val (.int m), .val (.lst (tD m)), .val (.int 4), .val (.int v), .val (.lst ((ld v).map D.int)), .val (.int (c2 v)), .val (.int (c4 v)), .val (.lst [.int (c2 v), .int (c4 v)]), .emp, .emp, .emp, .emp, .emp, .emp]) (by simp [rp, fr]) ?_
    refine sq_to (e1 := [.pbox c4', .val (.int m), .val (.lst (tD m)), .val (.int 4), .val (.int v), .val (.lst ((ld v).map D.int)), .val (.int (c2 v)), .val (.int (c4 v)), .val (.lst [.int (c2 v), .int (c4 v)]), .val (.int u), .emp, .emp, .emp, .emp, .emp]) (by rw [← hu]; simp [e4]) ?_
    refine sq_to (e1 := [.pbox c4', .val (.int m), .val (.lst (tD m)), .val (.int 4), .val (.int v), .val (.lst ((ld v).map D.int)), .val (.int (c2 v)), .val (.int (c4 v)), .val (.lst [.int (c2 v), .int (c4 v)]), .val (.int u), .emp, .emp, .emp, .emp, .emp]) (by simp [i3, fr3, fr4]) ?_
    refine sq_to (e1 := [.pbox c6, .val (.int m), .val (.lst (tD m)), .val (.int 4), .val (.int v), .val (.lst ((ld v).map D.int)), .val (.int (c2 v)), .val (.int (c4 v)), .val (.lst [.int (c2 v), .int (c4 v)]), .val (.int u), .val (.int a), .val (.int b), .emp, .emp, .emp]) (by rw [← ha, ← hb]; simp [e5, e6]) ?_
    refine sq_to lp ?_
    simp [n3, i3, last]
  simp [f__law_right, fn_eq, run]
end Fw
namespace Fw
open PySem L2
theorem mix_loop (a0 a1 a2 : Sl) : ∀ (L : List Int) (m : Int) (o : Option D), 0 ≤ m ∧ m < 4294967296 → ∃ (m' : Int) (o' : Option D), (0 ≤ m' ∧ m' < 4294967296) ∧ mFl (Fw.setV 4) (b__law_well_1 2000) (L.map D.int) [a0, a1, a2, .val (.int m), slOf o] = .ok .nx [a0, a1, a2, .val (.int m'), slOf o']
  | [], m, o, h => ⟨m, o, h, rfl⟩
  | i :: L, m, o, h => by
    have y1 := Int.emod_nonneg (m * 24611 + i * 7 + 307) (by omega : (2147483399 : Int) ≠ 0)
    have y2 := Int.emod_lt_of_pos (m * 24611 + i * 7 + 307) (by omega : (0 : Int) < 2147483399)
    obtain ⟨m', o', hb, e⟩ := mix_loop a0 a1 a2 L ((m * 24611 + i * 7 + 307) % 2147483399) (some (.int i)) (by omega)
    refine ⟨m', o', hb, ?_⟩
    rw [List.map_cons]
    exact fl_to (e1 := [a0, a1, a2, .val (.int m), .val (.int i)]) (by simp) (by simp (disch := omega) [b__law_well_1, dMul_r, dMod_pos]; rfl) e
theorem pow18 : dPow (.int 10) (.int 18) = some (.int 1000000000000000000) := by kernel_rfl
theorem well_ok (ns : List Int) {t : Int} (h : 0 ≤ t ∧ t < 100) (hn : ns.length ≤ 63) : ∃ ds s, Ck 0 (.lst ds) ∧ f__law_well 2000 [.val (.scr ns), .val (.int t)] = .ok (.b ds) s := by
  obtain ⟨L, hL⟩ := cut_scr ns 5
  have hLl : L.length ≤ 63 := by
    have hL : some (cutD (ns.map D.int) none (some 5)) = some (L.map D.int) := hL
    have e := congrArg List.length (Option.some.inj hL)
    unfold cutD at e
    simp only [List.length_take, List.length_drop, List.length_map] at e
    omega
  obtain ⟨o, ho⟩ : ∃ o, (if t < ns.length then dIx (.scr ns) (.int t) else some (.int (13 * t + 6))) = some (.int o) := by
    by_cases z : t < ns.length
    · obtain ⟨i, e⟩ := dIx_scr h.1 z
      exact ⟨i, by rw [if_pos z, e]⟩
    · exact ⟨_, if_neg z⟩
  obtain ⟨m, o', mb, e⟩ := mix_loop (.val (.scr ns)) (.val (.int t)) (.val (.int o)) (L ++ [o]) (50021 + 6007 * t) none (by omega)
  rw [List.map_append] at e
  have cat : dCat (.lst (L.map D.int)) (.lst [.int o]) = some (L.map D.int ++ [.int o]) := by
    show (if (L.map D.int).length + [D.int o].length ≤ 1000000 then some (L.map D.int ++ [.int o]) else none) = _
    rw [if_pos (by rw [List.length_map, List.length_singleton]; omega)]
  have s1 : (mSet 2 (mIf (mCmp dLt (.e (mVar 1)) (.e (mCB (op1 dLen) [(.e (mVar 0))]))) (mOp dIx (.e (mVar 0)) (.e (mVar 1))) (mOp dAdd (.e (mOp dMul (.e (mC (.int 13))) (.e (mVar 1)))) (.e (mC (.int 6)))))) [.val (.scr ns), .val (.int t), .emp, .emp, .emp] = .ok .nx [.val (.scr ns), .val (.int t), .val (.int o), .emp, .emp] := by
    by_cases z : t < ns.length
    · rw [if_pos z] at ho; simp [z, ho]
    · rw [if_neg z] at ho; cases ho; simp (disch := omega) [z, dMul_l]
  have fin : ∀ x : Int, 0 ≤ x → (mIf (mOr (mCmp dLt (.e (mVar 2)) (.e (mC (.int 0)))) (mCmp dGe (.e (mVar 2)) (.e (mOp dPow (.e (mC (.int 10))) (.e (mC (.int 18))))))) (mCB (op1 dAbs) [(.e (mVar 2))]) (mC (.int 0))) [.val (.scr ns), .val (.int t), .val (.int o), .val (.int m), slOf o'] = .ok (.int x) [.val (.scr ns), .val (.int t), .val (.int o), .val (.int m), slOf o'] →
      ∃ ds s, Ck 0 (.lst ds) ∧ f__law_well 2000 [.val (.scr ns), .val (.int t)] = .ok (.b ds) s := by
    intro x hx ex
    refine ⟨[.int x, .int m, .int 0], [.val (.scr ns), .val (.int t)], ⟨x, m, 0, rfl, hx, mb, by omega, by omega⟩, ?_⟩
    have run : m__law_well 2000 [.val (.scr ns), .val (.int t), .emp, .emp, .emp] = .ok (.rb [.int x, .int m, .int 0]) [.val (.scr ns), .val (.int t), .val (.int o), .val (.int m), slOf o'] := by
      unfold m__law_well
      refine sq_to s1 ?_
      refine sq_to (e1 := [.val (.scr ns), .val (.int t), .val (.int o), .val (.int (50021 + 6007 * t)), .emp]) (by simp (disch := omega) [dMul_l]) ?_
      refine sq_to (e1 := [.val (.scr ns), .val (.int t), .val (.int o), .val (.int m), slOf o']) (by simp [hL, cat]; exact e) ?_
      simp only [e_RetF, e_mb, e_Lst, e_Cons, e_mVar, get_1, get_0, ex, e_mC, e_Nil, e_mp, List.length_cons, List.length_nil, Nat.reduceAdd, Nat.reduceLeDiff, if_true]
    simp [f__law_well, fn_eq, run]
  by_cases big : o < 0 ∨ 1000000000000000000 ≤ o
  · refine fin (if o < 0 then -o else o) (by split <;> omega) ?_
    by_cases y : o < 0
    · simp [y]
    · have : 1000000000000000000 ≤ o := by omega
      simp [pow18, y, this]
  · have y : ¬ o < 0 := by omega
    have y2 : ¬ 1000000000000000000 ≤ o := by omega
    exact fin 0 (by omega) (by simp [pow18, y, y2])
theorem h1 : f_count_squares 2000 [.val (.int 2), .val (.int 25)] = .ok (.v (.int 12)) [.val (.int 2), .val (.int 25)] := by kernel_rfl
theorem h2 : f_count_squares 2000 [.val (.int 3), .val (.int 9)] = .ok (.v (.int 30)) [.val (.int 3), .val (.int 9)] := by kernel_rfl
theorem h3 : f_count_squares 2000 [.val (.int 4), .val (.int 5)] = .ok (.v (.int 48)) [.val (.int 4), .val (.int 5)] := by kernel_rfl
theorem h4 : f_count_squares 2000 [.val (.int 2), .val (.int 0)] = .ok (.v (.int 1)) [.val (.int 2), .val (.int 0)] := by kernel_rfl
theorem h5 : f_count_squares 2000 [.val (.int 4), .val (.int 10000)] = .ok (.v (.int 18744)) [.val (.int 4), .val (.int 10000)] := by kernel_rfl
theorem h6 : f_squares_for 2000 [.val (.int 2), .val (.int 7)] = .ok (.v .non) [.val (.int 2), .val (.int 7)] := by kernel_rfl
theorem h7 : f_squares_for 2000 [.val (.int 3), .val (.int 28)] = .ok (.v .non) [.val (.int 3), .val (.int 28)] := by kernel_rfl
theorem h8 : f_squares_for 2000 [.val (.int 4), .val (.int 0)] = .ok (.v (.tup [.int 0, .int 0, .int 0, .int 0])) [.val (.int 4), .val (.int 0)] := by kernel_rfl
theorem pow4 : dPow (.int 10) (.int 4) = some (.int 10000) := by kernel_rfl
theorem cat5 : dCat (.lst [.int 12, .int 30, .int 48, .int 1]) (.lst [.int 18744]) = some [.int 12, .int 30, .int 48, .int 1, .int 18744] := rfl
theorem ne5 : dNe (.lst [.int 12, .int 30, .int 48, .int 1, .int 18744]) (.lst [.int 12, .int 30, .int 48, .int 1, .int 18744]) = some (.bl false) := by kernel_rfl
theorem ne3 : dNe (.lst [.non, .non, .tup [.int 0, .int 0, .int 0, .int 0]]) (.lst [.non, .non, .tup [.int 0, .int 0, .int 0, .int 0]]) = some (.bl false) := by kernel_rfl
theorem all_true (z : Nat) : dAll (.lst ((List.range z).map fun _ => D.bl true)) = some (.bl true) := by
  have h : ∀ L : List Nat, (boolsD (L.map fun _ => D.bl true)) = some (L.map fun _ => true) := fun L => by
    induction L with
    | nil => rfl
    | cons a L ih => simp [boolsD, ih]
  simp [dAll, h]
theorem plain (ns : List Int) (h : ns.length ≤ 63) : ∃ as, f_law 2000 [.val (.scr ns)] = .ok (.v (.bl true)) as := by
  obtain ⟨z, hz1, hz2, hz⟩ : ∃ z : Nat, 2 ≤ z ∧ z ≤ 3 ∧ (if (if (3 : Int) < ns.length then (3 : Int) else ns.length) > 2 then (if (3 : Int) < ns.length then (3 : Int) else ns.length) else 2) = (z : Int) := by
    refine ⟨max 2 (min ns.length 3), by omega, by omega, ?_⟩
    (repeat' split) <;> omega
  have l : mLcL [2] (Fw.setV 2) (mp true) (mC1 (f__law_right 2000) (mCl 2 (f__law_well 2000) [(.e (mVar 0)), (.e (mVar 2))])) ((List.range z).map fun (i : Nat) => D.int (0 + (i : Int))) [] [.val (.scr ns), .val (.lst [.int 12, .int 30, .int 48, .int 1]), .emp] = .ok ((List.range z).map fun _ => D.bl true) [.val (.scr ns), .val (.lst [.int 12, .int 30, .int 48, .int 1]), .emp] := by
    refine lc_map (fun (i : Nat) => D.int (0 + (i : Int))) (fun _ => D.bl true) (List.range z) (fun j hj => ?_) (by simp; omega)
    have hj := List.mem_range.mp hj
    obtain ⟨cs, s, ck, e⟩ := well_ok ns (t := 0 + (j : Int)) (by omega) h
    obtain ⟨s2, e2⟩ := right_ok ck
    refine ⟨[.val (.scr ns), .val (.lst [.int 12, .int 30, .int 48, .int 1]), .val (.int (0 + (j : Int)))], by simp, [.val (.scr ns), .val (.lst [.int 12, .int 30, .int 48, .int 1]), .val (.int (0 + (j : Int)))], ?_, rfl⟩
    generalize (0 + (j : Int)) = t at *
    simp [e, e2]
  have r : dR1 [.int (z : Int)] = some ((List.range z).map fun (i : Nat) => D.int (0 + (i : Int))) := by
    rw [dR1_ok ⟨by omega, by omega⟩]; congr 1
  have al := all_true z
  generalize ((List.range z).map fun (i : Nat) => D.int (0 + (i : Int))) = R at l r
  generalize ((List.range z).map fun _ => D.bl true) = T at l al
  refine ⟨[.val (.scr ns)], ?_⟩
  have run : m_law 2000 [.val (.scr ns), .emp, .emp] = .ok (.rt (.bl true)) [.val (.scr ns), .val (.lst [.int 12, .int 30, .int 48, .int 1]), .emp] := by
    unfold m_law
    refine sq_to (e1 := [.val (.scr ns), .val (.lst [.int 12, .int 30, .int 48, .int 1]), .emp]) (by simp [h1, h2, h3, h4]) ?_
    refine sq_to (e1 := [.val (.scr ns), .val (.lst [.int 12, .int 30, .int 48, .int 1]), .emp]) (by simp [h5, pow4, cat5, ne5]) ?_
    refine sq_to (e1 := [.val (.scr ns), .val (.lst [.int 12, .int 30, .int 48, .int 1]), .emp]) (by simp [h6, h7, h8, ne3]) ?_
    simp only [e_Ret, e_CB, e_Fr, e_Lc, e_mb, e_IA, e_As, e_A1e, e_A1nil, e_CB, e_mC, e_mp, e_mVar, get_0, e_R1, e_R0, e_op1, e_op2, dLen_s, e_mo, dMin_i, dMax_i, hz, r, ownOk, wipeE]
    simp [l, al]
  simp [f_law, fn_eq, run]
end Fw
namespace Fw
open L2 PyProof.Rows PySem PySem.Spec
abbrev Rw : PySem.W.OpenRow := PySem.W.OpenLaw.row PySem.Challenge.rw_formworld_k66_whole_squares_counted_and
abbrev hk : PySem.W.Hook := Fw.hookX 4 fas exs fns
def seen (s : PySem.W.SharedT) : He.AlD := Fw.obsXG 4 fas exs fns (HandSHeadRun.getT s)
theorem seen_eq (s : PySem.W.SharedT) : seen s = hk.obs s.abs := Fw.obsXG_eq (HandSHeadRun.getT_eq s)
theorem run (w : World) : HandSHeadRun.RunEq Rw (PySem.W.view Rw.prog [32]) hk seen 4000 loose w := by
  intro os
  kernel_rfl
end Fw
open PyProof.Rows PySem PySem.W PySem.Calls
theorem PySem.Challenge.cw_formworld_k66_whole_squares_counted_and_holds : PySem.Challenge.rw_formworld_k66_whole_squares_counted_and.Holds := by
  w_on; o_law
  refine HandSHeadRun.head_any (r := Fw.Rw) (q := view Fw.Rw.prog [32]) (H := Fw.hk) (ob := Fw.seen) (M := 4000) (loose := Fw.loose) (d := HandSHeadRun.topDef Fw.Rw.prog 32) (kwd := []) Fw.seen_eq
    (by kernel_rfl) (fun s => by kernel_rfl) Fw.run (by kernel_rfl) (by kernel_rfl) (by kernel_rfl) (by rfl) (by decide +kernel) (by decide +kernel) ⟨rfl, rfl, rfl, rfl, rfl, by decide +kernel⟩ ?hw ?hc
  case hw => w_witness2
  case hc =>
    refine Fw.walk_g (l := PySem.Challenge.rw_formworld_k66_whole_squares_counted_and) (n := 63) (k := 11) (x := "_law_cells") rfl (by decide) (by kernel_rfl) ⟨rfl, by decide, by decide⟩ ?F
    intro w mg fa h Y G hm
    obtain ⟨K, KX, c⟩ := Y
    have hm : mg ("law" : PySem.Str) = some (.ref fa) := hm
    obtain ⟨fd0, F0⟩ := c.d.def_ 22 (d := Fw.dd "law" 32) rfl
    obtain ⟨f, fd, F1, e, _, _, _, _, FD⟩ := (Fw.all_has (P := (PySem.Challenge.rw_formworld_k66_whole_squares_counted_and).prog) (w := w) (base := h) (g := Fw.gc K) (mg := mg) 2000 ⟨c, ⟨h, KX, G⟩, rfl⟩).ex
    cases hm.symm.trans e
    have b := L2.FunD.bindsA (ps := ["_law_cells"]) FD fun _ _ _ _ _ _ us hl => match us, hl with | [_], _ => rfl
    refine ⟨K, fd, Fw.spF (Fw.gc K) 1 (Fw.f_law 2000), KX, fun s v => b s [v] rfl, fun H a ns hl hS => ?_, fun base kin ns => ?_⟩
    · obtain ⟨as, pl⟩ := Fw.plain ns hl
      exact Fw.spF_law pl hS
    · obtain ⟨f2, fd2, F2, e2, _, _, _, _, FD2⟩ := (Fw.all_has (P := (PySem.Challenge.rw_formworld_k66_whole_squares_counted_and).prog) (w := w) (base := base) (g := Fw.gc K) (mg := mg) 2000 ⟨c, ⟨h, KX, G⟩, rfl⟩).ex
      cases hm.symm.trans e2
      cases Fw.fd_same FD FD2
      exact F2
