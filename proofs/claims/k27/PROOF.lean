import PyProof.Rows.All
import Wide.All
import OpenK.AllK
import Wide.FinOn
import KE.KStateDown
import HandS.Head0
import HandS.Head1
import HandS.Head2
import HandS.HeadEnd
import HandS.HeadHook1
import HandS.HeadHook2
import HandS.ForMost
import HandS.ForExc
import HandS.Defaults
import HandS.Flow
import HandS.IsInst
import HandS.Wide
import HandS.CallSlots
import HandS.Style
import HandS.SortInts
import HandS.Dict
import HandS.Iter
import HandS.Small
import HandS.Deep
import HandS.Conv
import HandS.TryOnly
import KE.KExcInit
import HandS.ExcField
import HandS.ExcIs
import HandS.TryMany
import HandS.Star
import KE.KRevSl
import HandS.Property
import KE.GoesMore
import KE.GoesEnum
import HandS.Text
import HandS.Codes
import PyProof.InstEq
import KE.SortData
import HandS.More
import KE.DataMinMax
import HandS.DictComp
import HandS.OwnEq
import PyProof.EqAt
import PyProof.NeKinds
import KE.KCallOwn
import HandS.FStr
import HandS.TupSets
import HandS.SetFor
import HandS.Strs
import PyProof.Rows.SetFrom
import KE.KDictZip
import KE.DataMinKey
import HandS.SortKw
import HandS.Sort
import KE.KDictCopyH
import HandS.TupAny
import HandS.WideBits
import KE.KIndexOf
import PySem.Challenge.RW_formworld_k27_whole_rules_of_signs
set_option Elab.async false
set_option linter.all false
set_option maxRecDepth 100001
set_option maxHeartbeats 8000001
namespace Fw
open L2 PyProof.Rows PySem PySem.Spec
def obsX (fa : List He.Fa) (ex : List (PySem.W.Frag → Bool)) (fn : List He.DefD) (K : PySem.W.Frag) : He.AlD := ((He.obsD fa fn K).1 && ex.all fun f => f K, (He.obsD fa fn K).2)
end Fw
namespace Fw
open L2 PyProof.Rows PySem PySem.Spec
structure DefP where
  at_ : PySem.W.Frag → Addr
  name : Str
  qual : Str
  params : Arguments
  body : List Stmt
  scope : Scope
def fnP (K : PySem.W.Frag) (d : DefP) : He.FnW := match K.lookup (d.at_ K) with
  | some ⟨_, _, .func fd, _⟩ => some (fd.name, fd.qualname, fd.params, fd.body, fd.scope, fd.globals, fd.closure, fd.builtins)
  | _ => none
def DefP.val (d : DefP) : He.FnW := some (d.name, d.qual, d.params, .stmts d.body, d.scope, mainGlobals, [], builtinsNs)
def DefP.ok (K : PySem.W.Frag) (d : DefP) : Bool := PySem.W.keepIn K (.ref (d.at_ K)) && (match K.lookup (d.at_ K) with
  | some ⟨_, _, .func fd, _⟩ => PySem.W.codeIn K fd.code d.qual && (He.dflB K fd.defaults [] && He.kwdB K fd.kwdefaults [])
  | _ => false)
def obsP (fa : List He.Fa) (ex : List (PySem.W.Frag → Bool)) (fn : List He.DefD) (pn : List DefP) (K : PySem.W.Frag) : He.AlD := ((obsX fa ex fn K).1 && pn.all fun d => d.ok K, (obsX fa ex fn K).2 ++ pn.map (fnP K))
def valP (fn : List He.DefD) (pn : List DefP) : He.AlD := (true, (He.valD fn).2 ++ pn.map DefP.val)
def SaysP (fa : List He.Fa) (ex : List (PySem.W.Frag → Bool)) (fn : List He.DefD) (pn : List DefP) (K : PySem.W.Frag) : Prop := obsP fa ex fn pn K = valP fn pn
end Fw
namespace Fw
open PySem PySem.W PyProof.Rows L2
def frN {β : Type} (n : Nat) (k : Nat → β) : β := match n with
  | 0 => k 0
  | m + 1 => k (Nat.succ m)
def addQ {β : Type} : List Addr → Nat → List Addr → (Nat → List Addr → β) → β
  | [], m, nx, k => k m nx
  | a :: r, m, nx, k => match Nat.beq (Nat.land (Nat.shiftRight m a) 1) 1 with
    | true => addQ r m nx k
    | false => frN (Nat.lor m (Nat.shiftLeft 1 a)) fun m => addQ r m (a :: nx) k
def bq (g : Addr → Option Obj) : Nat → Nat → List Addr → List Addr → Nat → List Addr → List Addr
  | 0, _, _, _, _, acc => acc
  | f + 1, d, [], nx, m, acc => (match d with
    | 0 => acc
    | d + 1 => (match nx with
      | [] => acc
      | a :: r => bq g f d (a :: r) [] m acc))
  | f + 1, d, a :: q, nx, m, acc => (match g a with
    | none => bq g f d q nx m acc
    | some o => (match d with
      | 0 => bq g f 0 q nx m (a :: acc)
      | d + 1 => addQ (He.refsD o) m nx fun m nx => bq g f (d + 1) q nx m (a :: acc)))
def frK {β : Type} (g : Addr → Option Obj) : List Addr → PySem.W.Frag → (PySem.W.Frag → β) → β
  | [], acc, k => k acc
  | a :: r, acc, k => match g a with
    | some o => frK g r ((a, o) :: acc) k
    | none => frK g r acc k
def backK (g : Addr → Option Obj) : List Addr → PySem.W.Frag → PySem.W.Frag
  | [], acc => acc
  | a :: r, acc => match g a with
    | some o => backK g r ((a, o) :: acc)
    | none => backK g r acc
theorem frK_eq {β : Type} (g : Addr → Option Obj) (k : PySem.W.Frag → β) : ∀ (as : List Addr) (acc : PySem.W.Frag), frK g as acc k = k (backK g as acc)
  | [], acc => rfl
  | a :: r, acc => by
    unfold frK backK
    cases g a with
    | some o => exact frK_eq g k r _
    | none => exact frK_eq g k r _
theorem backK_in {h : Heap} : ∀ (as : List Addr) (acc : PySem.W.Frag), acc.In h → (backK h.get? as acc).In h
  | [], acc, H => H
  | a :: r, acc, H => by
    unfold backK
    cases e : h.get? a with
    | none => exact backK_in r acc H
    | some o =>
      refine backK_in r _ fun b p hp => ?_
      have hp : (match b == a with
        | true => some o
        | false => acc.lookup b) = some p := hp
      cases q : b == a with
      | true =>
        rw [q] at hp
        cases hp
        rw [beq_iff_eq.mp q, e]
      | false =>
        rw [q] at hp
        exact H b p hp
theorem in_nil {h : Heap} : PySem.W.Frag.In [] h := fun _ _ e => by cases e
def obsQG (n : Nat) (fa : List He.Fa) (ex : List (PySem.W.Frag → Bool)) (fn : List He.DefD) (pn : List DefP) (g : Addr → Option Obj) : He.AlD := frK g (bq g 20000 n [mainGlobals] [] (Nat.shiftLeft 1 mainGlobals) []) [] fun K => obsP fa ex fn pn K
def hookQ (n : Nat) (fa : List He.Fa) (ex : List (PySem.W.Frag → Bool)) (fn : List He.DefD) (pn : List DefP) : PySem.W.Hook where
  α := He.AlD
  obs := fun s => obsQG n fa ex fn pn s.heap.get?
  val := fun _ => valP fn pn
  says := fun _ h => ∃ K : PySem.W.Frag, K.In h ∧ SaysP fa ex fn pn K
  of := fun w s e => by
    have e : frK s.heap.get? (bq s.heap.get? 20000 n [mainGlobals] [] (Nat.shiftLeft 1 mainGlobals) []) [] (fun K => obsP fa ex fn pn K) = valP fn pn := e
    rw [frK_eq] at e
    exact ⟨_, backK_in _ _ in_nil, e⟩
  keeps := fun _ _ _ ⟨K, hK, c⟩ k => ⟨K, PySem.W.Frag.In.keeps hK k, c⟩
theorem obsQG_eq {n : Nat} {fa : List He.Fa} {ex : List (PySem.W.Frag → Bool)} {fn : List He.DefD} {pn : List DefP} {g : Addr → Option Obj} {s : Shared} (h : ∀ a, g a = s.heap.get? a) : obsQG n fa ex fn pn g = (hookQ n fa ex fn pn).obs s := by
  have e : g = s.heap.get? := funext h
  rw [e] <;> rfl
end Fw
namespace Fw
open L2 PyProof.Rows PySem PySem.Spec
def top (i : Nat) : Stmt := PySem.Challenge.pw_formworld_k27_whole_rules_of_signs.main.body.getD i (.Pass ⟨0, 0, 0, 0⟩)
def dd (x : Str) (i : Nat) : He.DefD := ⟨(x, none), x, x, defArgs (top i), defBody (top i), defScope (top i), [], []⟩
def dp (a : PySem.W.Frag → Addr) (m q : Str) (s : Stmt) : DefP := ⟨a, m, q, defArgs s, defBody s, defScope s⟩
def fns : List He.DefD := [dd "_law_fetch" 24, dd "_law_choose" 25, dd "_law_big" 30, dd "_law_split" 26, dd "_law_rest_sign" 27, dd "_law_symbol" 28, dd "is_integer" 5, dd "is_between" 6, dd "check_signed" 17, dd "prime_divisors" 10, dd "places_for" 19, dd "parted" 12, dd "residue_sign" 13, dd "sign_at" 18, dd "odd_places" 21, dd "is_prime" 11, dd "is_place" 15, dd "check_place" 16, dd "sign" 20, dd "_law_primes_of" 29] ++ [dd "_law_right" 31, dd "_law_chest" 23, dd "law" 32]
def fas : List He.Fa := [.glo "_law_fetch", .glo "_law_choose", .glo "_law_big", .glo "_law_split", .glo "_law_rest_sign", .glo "_law_symbol", .glo "is_integer", .glo "is_between", .glo "check_signed", .glo "prime_divisors", .glo "places_for", .glo "parted", .glo "residue_sign", .glo "sign_at", .glo "odd_places", .glo "is_prime", .glo "is_place", .glo "check_place", .glo "sign", .glo "_law_primes_of"] ++ [.glo "_law_right", .glo "_law_chest", .glo "law", .free "divmod", .free "int", .free "len", .free "min", .free "range", .free "isinstance", .free "bool", .int "MOST_SIGNED" 1000000000, .free "abs", .free "sorted", .free "set", .free "tuple", .int "MOST_PLACE" 1000000000000, .free "repr", .free "max", .free "all"]
def pns : List DefP := []
def loose : List Str := (["WrongValue", "InvalidNumber", "InvalidPlace", "is_integer", "is_between", "MOST_PLACE", "MOST_SIGNED", "prime_divisors", "is_prime", "parted", "residue_sign", "is_place"] : List Str) ++ (["check_place", "check_signed", "sign_at", "places_for", "sign", "odd_places", "_law_chest", "_law_fetch", "_law_choose", "_law_split", "_law_rest_sign", "_law_symbol"] : List Str) ++ (["_law_primes_of", "_law_big", "_law_right"] : List Str)
def exs : List (PySem.W.Frag → Bool) := []
end Fw
namespace Fw
open L2 PyProof.Rows PySem PySem.Spec
abbrev Rw : PySem.W.OpenRow := PySem.W.OpenLaw.row PySem.Challenge.rw_formworld_k27_whole_rules_of_signs
abbrev hk : PySem.W.Hook := Fw.hookQ 7 fas exs fns pns
def seen (s : PySem.W.SharedT) : He.AlD := Fw.obsQG 7 fas exs fns pns (HandSHeadRun.getT s)
theorem seen_eq (s : PySem.W.SharedT) : seen s = hk.obs s.abs := Fw.obsQG_eq (HandSHeadRun.getT_eq s)
theorem runF (w : World) : HandSHeadRun.RunEq Rw (PySem.W.view Rw.prog [32]) hk seen 20000 loose (w.withFollow "special-get-raises" false) := by intro os; kernel_rfl
theorem runT (w : World) : HandSHeadRun.RunEq Rw (PySem.W.view Rw.prog [32]) hk seen 20000 loose (w.withFollow "special-get-raises" true) := by intro os; kernel_rfl
theorem run (w : World) : HandSHeadRun.RunEq Rw (PySem.W.view Rw.prog [32]) hk seen 20000 loose w :=
  PySem.W.byRow2 "special-get-raises" (P := fun w => HandSHeadRun.RunEq Rw (PySem.W.view Rw.prog [32]) hk seen 20000 loose w) runF runT w
end Fw
namespace Fw
open PyProof.Rows PySem PySem.W PySem.Calls
theorem hx1 : opening Rw.prog = plainProg Rw.prog.main.scope.names := by kernel_rfl
theorem hx2 : ∀ s, fenceModules? Rw.prog s = some s := fun s => by kernel_rfl
theorem hx3 : defOf (view Rw.prog [32]) Rw.name = some (HandSHeadRun.topDef Rw.prog 32, []) := by kernel_rfl
theorem hx4 : Rw.prog.theDef Rw.name = some ((HandSHeadRun.topDef Rw.prog 32).params, (HandSHeadRun.topDef Rw.prog 32).body, (HandSHeadRun.topDef Rw.prog 32).scope) := by kernel_rfl
theorem hx5 : kwWritten? (HandSHeadRun.topDef Rw.prog 32).params.kwonlyargs (HandSHeadRun.topDef Rw.prog 32).params.kw_defaults = some [] := by kernel_rfl
theorem hx6 : (!Rw.writes || Rw.records.isEmpty) = true := by rfl
theorem hx7 : Rw.wellSaid = true := by decide +kernel
theorem hx8 : (chainsOk (view Rw.prog [32]) && opensWell Rw.prog && (frees Rw.toRowW && Rw.within.isEmpty)) = true := by decide +kernel
theorem hx9 : Rw.prog.bare := ⟨rfl, rfl, rfl, rfl, rfl, by decide +kernel⟩
theorem headX (call : WalkO (view Rw.prog [32]) loose (XL (view Rw.prog [32]) []) hk.says Rw.toRowW (HandSHeadRun.topDef Rw.prog 32) [] fun f vs => PySem.call f vs) (hw : Rw.toRowW.promised) : Rw.Holds :=
  HandSHeadRun.head_any (r := Fw.Rw) (q := view Fw.Rw.prog [32]) (H := Fw.hk) (ob := Fw.seen) (M := 20000) (loose := Fw.loose) (d := HandSHeadRun.topDef Fw.Rw.prog 32) (kwd := []) Fw.seen_eq hx1 hx2 Fw.run hx3 hx4 hx5 hx6 hx7 hx8 hx9 hw call
end Fw
namespace Fw
open L2 PyProof.Rows PySem PySem.Spec
abbrev Sv := L2.St
inductive D where
  | non | bl (b : Bool) | int (i : Int) | str (x : Str) | ty (n : String)
  | tup (xs : List D) | lst (xs : List D) | obj (c : Nat) (fs : List D) | scr (ns : List Int) | ktu (ns : List Int)
  | dct (ks : List Key) (vs : List D) | dtt (ks : List (List Key)) (vs : List D) | exn (c : Nat) (fs : List D)
structure GC where
  K : PySem.W.Frag
  ca : Nat → Addr
  cf : Nat → List Str
  ex : Option (Addr × Nat × Option Addr) := none
def isMut : HO → Bool
  | .lst _ => true
  | .dK _ => true
  | .dT _ => true
  | .set _ _ => true
  | .ins _ _ _ => true
  | _ => false
def LsR (g : GC) (A : Addr → Prop) (H : Hp) (a : Addr) (xs : List V) : Prop := (Rd H a (.lst xs) ∧ ¬ A a) ∨
  ∃ (o : Obj) (its : Array Value) (n : Nat), g.K.lookup a = some o ∧ o.cls = .type "list" ∧ o.dict = none ∧ o.data = .seq its n ∧ its.size ≤ sizeLine ∧ Vals xs its.toList
def KtR (K : PySem.W.Frag) (a : Addr) (xs : List V) : Prop :=
  ∃ (o : Obj) (its : Array Value) (n : Nat), K.lookup a = some o ∧ o.cls = .type "tuple" ∧ o.dict = none ∧ o.data = .seq its n ∧ its.size ≤ sizeLine ∧ Vals xs its.toList
def KtX (K : PySem.W.Frag) (H : Hp) (a : Addr) (xs : List V) : Prop := KtR K a xs ∨ ∃ o : Obj, H a = some (.frz o (.tup xs)) ∧ o.dict = none
theorem KtX.sq {K : PySem.W.Frag} {H : Hp} {a : Addr} {xs : List V} (h : KtX K H a xs) : SqT K H a xs := h.elim (fun ⟨o, its, n, h1, h2, _, h3⟩ => .inr ⟨o, its, n, h1, h2, h3⟩) fun ⟨o, e, _⟩ => .inl (.inr ⟨o, e⟩)
theorem LsR.sq {g : GC} {A : Addr → Prop} {H : Hp} {a : Addr} {xs : List V} (h : LsR g A H a xs) : SqL g.K H a xs := h.elim (fun z => .inl z.1) .inr
mutual
def R (g : GC) (A : Addr → Prop) (H : Hp) : D → V → Prop
  | .non, v => v = .non
  | .bl b, v => v = .bl b
  | .int i, v => v = .int i
  | .str x, v => v = .str x
  | .ty n, v => v = .ty n
  | .tup ds, v => ∃ a xs, v = .ref a ∧ H a = some (.tup xs) ∧ RL g A H ds xs
  | .lst ds, v => ∃ a xs, v = .ref a ∧ H a = some (.lst xs) ∧ ¬ A a ∧ RL g A H ds xs
  | .obj c ds, v => ∃ a dx xs, v = .ref a ∧ H a = some (.ins (g.ca c) dx ((g.cf c).zip xs)) ∧ ¬ A a ∧ (g.cf c).length = xs.length ∧ RL g A H ds xs
  | .scr ns, v => ∃ a, v = .ref a ∧ LsR g A H a (ns.map V.int)
  | .ktu ns, v => ∃ a, v = .ref a ∧ KtX g.K H a (ns.map V.int)
  | .dct ks ds, v => ∃ a o xs, v = .ref a ∧ H a = some (.frz o (.dK (ks.zip xs))) ∧ ks.length = xs.length ∧ RL g A H ds xs
  | .dtt ks ds, v => ∃ a o xs, v = .ref a ∧ H a = some (.frz o (.dT (ks.zip xs))) ∧ ks.length = xs.length ∧ RL g A H ds xs
  | .exn c ds, v => ∃ a od, v = .ref a ∧ g.ex = some (a, c, od) ∧ ((od = none ∧ ds = [] ∧ g.cf c = []) ∨ ∃ dd xs, od = some dd ∧ H dd = some (.xd ((g.cf c).zip xs)) ∧ (g.cf c).length = xs.length ∧ RL g A H ds xs)
def RL (g : GC) (A : Addr → Prop) (H : Hp) : List D → List V → Prop
  | [], xs => xs = []
  | d :: ds, xs => ∃ y ys, xs = y :: ys ∧ R g A H d y ∧ RL g A H ds ys
end
structure Mono (A : Addr → Prop) (H : Hp) (A' : Addr → Prop) (H' : Hp) : Prop where
  al : ∀ a, A a → ∃ o, H a = some o ∧ isMut o = true
  st : ∀ a o, H a = some o → ¬ A a → H' a = some o
  av : ∀ a o, A' a → H a = some o → A a
theorem Mono.rd {A A' : Addr → Prop} {H H' : Hp} (m : Mono A H A' H') {a : Addr} {o : HO} (n : isMut o = false) (h : Rd H a o) : Rd H' a o := by
  rcases h with h | ⟨ob, h⟩
  · refine .inl (m.st a _ h fun z => ?_)
    obtain ⟨u, e, q⟩ := m.al a z
    rw [h] at e; cases e; rw [n] at q; cases q
  · refine .inr ⟨ob, m.st a _ h fun z => ?_⟩
    obtain ⟨u, e, q⟩ := m.al a z
    rw [h] at e; cases e; cases q
theorem Mono.ins {A A' : Addr → Prop} {H H' : Hp} (m : Mono A H A' H') {a : Addr} {o : HO} (n : isMut o = false) (h : H a = some o) : H' a = some o := by
  refine m.st a _ h fun z => ?_
  obtain ⟨u, e, q⟩ := m.al a z
  rw [h] at e; cases e; rw [n] at q; cases q
theorem Mono.lsr {g : GC} {A A' : Addr → Prop} {H H' : Hp} (m : Mono A H A' H') {a : Addr} {xs : List V} (h : LsR g A H a xs) : LsR g A' H' a xs := by
  rcases h with ⟨h, n⟩ | h
  · rcases h with h | ⟨ob, h⟩
    · exact .inl ⟨.inl (m.st a _ h n), fun z => n (m.av a _ z h)⟩
    · exact .inl ⟨.inr ⟨ob, m.st a _ h n⟩, fun z => n (m.av a _ z h)⟩
  · exact .inr h
mutual
theorem R.mono {g : GC} {A A' : Addr → Prop} {H H' : Hp} (m : Mono A H A' H') : ∀ (d : D) {v : V}, R g A H d v → R g A' H' d v
  | .non, _, e => e
  | .bl _, _, e => e
  | .int _, _, e => e
  | .str _, _, e => e
  | .ty _, _, e => e
  | .tup ds, _, ⟨a, xs, e, h1, r⟩ => ⟨a, xs, e, m.ins rfl h1, RL.mono m ds r⟩
  | .lst ds, _, ⟨a, xs, e, h1, n, r⟩ => ⟨a, xs, e, m.st a _ h1 n, fun z => n (m.av a _ z h1), RL.mono m ds r⟩
  | .obj c ds, _, ⟨a, dx, xs, e, h1, n, hl, r⟩ => ⟨a, dx, xs, e, m.st a _ h1 n, fun z => n (m.av a _ z h1), hl, RL.mono m ds r⟩
  | .scr _, _, ⟨a, e, h1⟩ => ⟨a, e, m.lsr h1⟩
  | .ktu _, _, ⟨a, e, h1⟩ => ⟨a, e, h1.imp id fun ⟨o, x, y⟩ => ⟨o, m.ins rfl x, y⟩⟩
  | .dct ks ds, _, ⟨a, o, xs, e, h1, hl, r⟩ => ⟨a, o, xs, e, m.ins rfl h1, hl, RL.mono m ds r⟩
  | .dtt ks ds, _, ⟨a, o, xs, e, h1, hl, r⟩ => ⟨a, o, xs, e, m.ins rfl h1, hl, RL.mono m ds r⟩
  | .exn c ds, _, ⟨a, od, e, h0, h⟩ => ⟨a, od, e, h0, h.imp id fun ⟨dd, xs, h1, h2, h3, r⟩ => ⟨dd, xs, h1, m.ins rfl h2, h3, RL.mono m ds r⟩⟩
theorem RL.mono {g : GC} {A A' : Addr → Prop} {H H' : Hp} (m : Mono A H A' H') : ∀ (ds : List D) {xs : List V}, RL g A H ds xs → RL g A' H' ds xs
  | [], _, e => e
  | d :: ds, _, ⟨y, ys, e, r, t⟩ => ⟨y, ys, e, R.mono m d r, RL.mono m ds t⟩
end
theorem RL.length {g : GC} {A : Addr → Prop} {H : Hp} : ∀ {ds : List D} {xs : List V}, RL g A H ds xs → xs.length = ds.length
  | [], _, e => by rw [show _ = [] from e]; rfl
  | d :: ds, _, ⟨y, ys, e, r, t⟩ => by rw [e, List.length_cons, List.length_cons, RL.length t]
theorem RL.get {g : GC} {A : Addr → Prop} {H : Hp} : ∀ {ds : List D} {xs : List V} {i : Nat} {d : D}, RL g A H ds xs → ds[i]? = some d → ∃ v, xs[i]? = some v ∧ R g A H d v
  | [], _, _, _, _, h => by simp at h
  | d :: ds, _, 0, _, ⟨y, ys, e, r, t⟩, h => by simp at h; subst h; exact ⟨y, by rw [e]; rfl, r⟩
  | d :: ds, _, i + 1, _, ⟨y, ys, e, r, t⟩, h => by
    obtain ⟨v, h1, h2⟩ := RL.get (i := i) t (by simpa using h)
    exact ⟨v, by rw [e]; simpa using h1, h2⟩
theorem RL.append {g : GC} {A : Addr → Prop} {H : Hp} : ∀ {ds es : List D} {xs ys : List V}, RL g A H ds xs → RL g A H es ys → RL g A H (ds ++ es) (xs ++ ys)
  | [], _, _, _, e, s => by rw [show _ = [] from e]; exact s
  | d :: ds, _, _, _, ⟨y, ys, e, r, t⟩, s => by rw [e]; exact ⟨y, _, rfl, r, RL.append t s⟩
theorem RL.set {g : GC} {A : Addr → Prop} {H : Hp} {d : D} {v : V} (r' : R g A H d v) : ∀ {ds : List D} {xs : List V} (i : Nat), RL g A H ds xs → RL g A H (ds.set i d) (xs.set i v)
  | [], _, _, e => by rw [show _ = [] from e]; exact rfl
  | _ :: ds, _, 0, ⟨y, ys, e, r, t⟩ => by rw [e]; exact ⟨v, ys, rfl, r', t⟩
  | _ :: ds, _, i + 1, ⟨y, ys, e, r, t⟩ => by rw [e]; exact ⟨y, _, rfl, r, RL.set r' i t⟩
theorem RL.drop {g : GC} {A : Addr → Prop} {H : Hp} : ∀ {ds : List D} {xs : List V} (n : Nat), RL g A H ds xs → RL g A H (ds.drop n) (xs.drop n)
  | _, _, 0, r => r
  | [], _, n + 1, e => by rw [show _ = [] from e]; exact rfl
  | d :: ds, _, n + 1, ⟨y, ys, e, r, t⟩ => by rw [e]; exact RL.drop n t
theorem RL.take {g : GC} {A : Addr → Prop} {H : Hp} : ∀ {ds : List D} {xs : List V} (n : Nat), RL g A H ds xs → RL g A H (ds.take n) (xs.take n)
  | _, _, 0, r => by simp [RL]
  | [], _, n + 1, e => by rw [show _ = [] from e]; simp [RL]
  | d :: ds, _, n + 1, ⟨y, ys, e, r, t⟩ => by rw [e]; exact ⟨y, _, rfl, r, RL.take n t⟩
theorem RL.ints {g : GC} {A : Addr → Prop} {H : Hp} : ∀ (ns : List Int), RL g A H (ns.map D.int) (ns.map V.int)
  | [] => rfl
  | n :: ns => ⟨_, _, rfl, rfl, RL.ints ns⟩
theorem RL.ints_of {g : GC} {A : Addr → Prop} {H : Hp} : ∀ (ns : List Int) {xs : List V}, RL g A H (ns.map D.int) xs → xs = ns.map V.int
  | [], _, e => e
  | n :: ns, _, ⟨y, ys, e, r, t⟩ => by rw [e, show y = .int n from r, RL.ints_of ns t]; rfl
inductive Sl where
  | emp | val (d : D) | box (d : D) | pbox (d : D)
abbrev Ev := List Sl
structure Fx where
  T : Hp
  OB : Addr → Prop
  pa : Nat → Option Addr
  H0 : Hp
def Bx (g : GC) (A : Addr → Prop) (H : Hp) : D → Addr → Prop
  | .lst ds, p => ∃ xs, H p = some (.lst xs) ∧ RL g A H ds xs
  | .dct ks ds, p => ∃ xs, H p = some (.dK (ks.zip xs)) ∧ ks.length = xs.length ∧ RL g A H ds xs
  | .dtt ks ds, p => ∃ xs, H p = some (.dT (ks.zip xs)) ∧ ks.length = xs.length ∧ RL g A H ds xs
  | .obj c ds, p => ∃ dx xs, H p = some (.ins (g.ca c) dx ((g.cf c).zip xs)) ∧ (g.cf c).length = xs.length ∧ RL g A H ds xs
  | _, _ => False
def SlRel (g : GC) (f : Fx) (A : Addr → Prop) (H : Hp) (i : Nat) (o : Option V) : Sl → Prop
  | .emp => f.pa i = none
  | .val d => f.pa i = none ∧ ∃ v, o = some v ∧ R g A H d v
  | .box d => f.pa i = none ∧ ∃ p, o = some (.ref p) ∧ A p ∧ f.H0 p = none ∧ Bx g A H d p
  | .pbox d => ∃ p, f.pa i = some p ∧ o = some (.ref p) ∧ A p ∧ Bx g A H d p
def Sl.isBox : Sl → Bool
  | .box _ => true
  | .pbox _ => true
  | _ => false
structure FR (g : GC) (f : Fx) (A : Addr → Prop) (H : Hp) (σ : Sv) (e : Ev) : Prop where
  len : σ.length = e.length
  sl : ∀ (i : Nat) (s : Sl) (o : Option V), e[i]? = some s → σ[i]? = some o → SlRel g f A H i o s
  inj : ∀ (i j : Nat) (s t : Sl) (p : Addr), e[i]? = some s → e[j]? = some t → s.isBox = true → t.isBox = true → σ[i]? = some (some (.ref p)) → σ[j]? = some (some (.ref p)) → i = j
  nt : ∀ (i : Nat) (s : Sl) (p : Addr), e[i]? = some s → s.isBox = true → σ[i]? = some (some (.ref p)) → f.T p = none
  tp : ∀ a o, f.T a = some o → A a ∧ H a = some o
  ob : ∀ a, f.OB a → A a
  ob0 : ∀ a, f.OB a → ∃ o, f.H0 a = some o
  pb : ∀ (i : Nat) (p : Addr), f.pa i = some p → f.OB p ∧ i < e.length
  al : ∀ a, A a → ∃ o, H a = some o ∧ isMut o = true
  keep : ∀ a o, f.H0 a = some o → (∀ i, f.pa i ≠ some a) → H a = some o
structure Step (A : Addr → Prop) (H H' : Hp) : Prop where
  st : ∀ a o, H a = some o → ¬ A a → H' a = some o
  un : ∀ a o, H a = some o → ∃ o', H' a = some o'
theorem Step.refl {A : Addr → Prop} {H : Hp} : Step A H H := ⟨fun _ _ h _ => h, fun _ o h => ⟨o, h⟩⟩
theorem Step.trans {A : Addr → Prop} {H H1 H2 : Hp} (a : Step A H H1) (b : Step A H1 H2) : Step A H H2 :=
  ⟨fun c o h n => b.st c o (a.st c o h n) n, fun c o h => let ⟨o', h'⟩ := a.un c o h; b.un c o' h'⟩
theorem Step.of {A : Addr → Prop} {H H' : Hp} (s : Same H H') : Step A H H' := ⟨fun a o h _ => s a o h, fun a o h => ⟨o, s a o h⟩⟩
theorem FR.mono {g : GC} {f : Fx} {A : Addr → Prop} {H H' : Hp} {σ : Sv} {e : Ev} (F : FR g f A H σ e) (s : Step A H H') : Mono A H A H' := ⟨F.al, s.st, fun _ _ h _ => h⟩
theorem FR.r {g : GC} {f : Fx} {A : Addr → Prop} {H H' : Hp} {σ : Sv} {e : Ev} {d : D} {v : V} (F : FR g f A H σ e) (s : Step A H H') (r : R g A H d v) : R g A H' d v := R.mono (F.mono s) d r
theorem FR.rl {g : GC} {f : Fx} {A : Addr → Prop} {H H' : Hp} {σ : Sv} {e : Ev} {d : List D} {v : List V} (F : FR g f A H σ e) (s : Step A H H') (r : RL g A H d v) : RL g A H' d v := RL.mono (F.mono s) d r
theorem Same.new {H : Hp} {p : Addr} {o : HO} (h : H p = none) : Same H (upd H p o) := fun b u e => by rw [upd_ne (ne_of_none e h)]; exact e
theorem Bx.mono {g : GC} {A A' : Addr → Prop} {H H' : Hp} (m : Mono A H A' H') {p : Addr} : ∀ {d : D}, (∀ o, H p = some o → H' p = some o) → Bx g A H d p → Bx g A' H' d p
  | .lst ds, k, ⟨xs, h, r⟩ => ⟨xs, k _ h, RL.mono m ds r⟩
  | .dct ks ds, k, ⟨xs, h, hl, r⟩ => ⟨xs, k _ h, hl, RL.mono m ds r⟩
  | .dtt ks ds, k, ⟨xs, h, hl, r⟩ => ⟨xs, k _ h, hl, RL.mono m ds r⟩
  | .obj c ds, k, ⟨dx, xs, h, hl, r⟩ => ⟨dx, xs, k _ h, hl, RL.mono m ds r⟩
theorem FR.ext {g : GC} {f : Fx} {A A' : Addr → Prop} {H H' : Hp} {σ : Sv} {e : Ev} (F : FR g f A H σ e) (s : Same H H') (h1 : ∀ a, A a → A' a) (h2 : ∀ a o, A' a → H a = some o → A a) (h3 : ∀ a, A' a → ¬ A a → ∃ o, H' a = some o ∧ isMut o = true) : FR g f A' H' σ e where
  len := F.len
  sl := fun i sl o h h' => by
    have m : Mono A H A' H' := ⟨F.al, fun a o q _ => s a o q, h2⟩
    have q := F.sl i sl o h h'
    cases sl with
    | emp => exact q
    | val d => obtain ⟨q0, v, q1, q2⟩ := q; exact ⟨q0, v, q1, R.mono m d q2⟩
    | box d => obtain ⟨q0, p, q1, q2, q3, q4⟩ := q; exact ⟨q0, p, q1, h1 _ q2, q3, Bx.mono m (fun o => s p o) q4⟩
    | pbox d => obtain ⟨p, q1, q2, q3, q4⟩ := q; exact ⟨p, q1, q2, h1 _ q3, Bx.mono m (fun o => s p o) q4⟩
  inj := F.inj
  nt := F.nt
  tp := fun a o h => ⟨h1 a (F.tp a o h).1, s a o (F.tp a o h).2⟩
  ob := fun a h => h1 a (F.ob a h)
  ob0 := F.ob0
  pb := F.pb
  al := fun a h => by
    by_cases n : A a
    · obtain ⟨o, e, q⟩ := F.al a n; exact ⟨o, s a o e, q⟩
    · exact h3 a h n
  keep := fun a o h n => s a o (F.keep a o h n)
theorem FR.same {g : GC} {f : Fx} {A : Addr → Prop} {H H' : Hp} {σ : Sv} {e : Ev} (F : FR g f A H σ e) (s : Same H H') : FR g f A H' σ e := F.ext s (fun _ h => h) (fun _ _ h _ => h) (fun a h n => absurd h n)
abbrev add1 (A : Addr → Prop) (p : Addr) : Addr → Prop := fun a => A a ∨ a = p
theorem FR.nA {g : GC} {f : Fx} {A : Addr → Prop} {H : Hp} {σ : Sv} {e : Ev} (F : FR g f A H σ e) {p : Addr} (h : H p = none) : ¬ A p := fun z => by
  obtain ⟨o, q, _⟩ := F.al p z
  rw [h] at q; cases q
theorem FR.new {g : GC} {f : Fx} {A : Addr → Prop} {H : Hp} {σ : Sv} {e : Ev} (F : FR g f A H σ e) {p : Addr} {xs : List V} (h : H p = none) : FR g f (add1 A p) (upd H p (.lst xs)) σ e :=
  F.ext (Same.new h) (fun _ z => .inl z) (fun a o z q => z.elim id fun z => by rw [z, h] at q; cases q) (fun a z n => z.elim (fun z => absurd z n) fun z => ⟨.lst xs, by rw [z]; exact upd_same, rfl⟩)
theorem Mono.new {g : GC} {f : Fx} {A : Addr → Prop} {H : Hp} {σ : Sv} {e : Ev} (F : FR g f A H σ e) {p : Addr} {o : HO} (h : H p = none) : Mono A H (add1 A p) (upd H p o) :=
  ⟨F.al, fun a u q _ => Same.new h a u q, fun a u z q => z.elim id fun z => by rw [z, h] at q; cases q⟩
inductive Rs (α : Type) where
  | ok (a : α) (e : Ev)
  | exc (c : Nat) (d : D) (e : Ev)
  | bad
abbrev M (α : Type) := Ev → Rs α
def mp {α : Type} (a : α) : M α := fun e => .ok a e
def mb {α β : Type} (m : M α) (k : α → M β) : M β := fun e => match m e with
  | .ok a e' => k a e'
  | .exc c d e' => .exc c d e'
  | .bad => .bad
def mo {α : Type} : Option α → M α
  | some a => fun e => .ok a e
  | none => fun _ => .bad
abbrev WK := Value → Option Addr → Sv → Hp → Prop
def ExR (g : GC) (A : Addr → Prop) (H : Hp) (c : Nat) (d : D) (cls : Value) (dd : Option Addr) : Prop := cls = .ref (g.ca c) ∧
  match g.cf c with
  | [] => dd = none
  | x :: _ => ∃ a v, dd = some a ∧ H a = some (.xd [(x, v)]) ∧ R g A H d v
def Fin {β : Type} (g : GC) (W : WK) (f : Fx) (A : Addr → Prop) (σ : Sv) (H : Hp) (ok : β → Ev → Prop) : Rs β → Prop
  | .ok b e' => ok b e'
  | .exc c d e' => ∀ cls dd H', FR g f A H' σ e' → Step A H H' → ExR g A H' c d cls dd → W cls dd σ H'
  | .bad => False
def rdE (g : GC) (W : WK) (m : M D) : TE := fun σ H Q => ∃ f A e, FR g f A H σ e ∧ Fin g W f A σ H (fun d e' => ∀ v H', FR g f A H' σ e' → Step A H H' → R g A H' d v → Q v H') (m e)
def rdT (g : GC) (W : WK) (m : M Bool) : TT := fun σ H Q => ∃ f A e, FR g f A H σ e ∧ Fin g W f A σ H (fun d e' => ∀ H', FR g f A H' σ e' → Step A H H' → Q d H') (m e)
def rdA (g : GC) (W : WK) (m : M (List D)) : TA := fun σ H Q => ∃ f A e, FR g f A H σ e ∧ Fin g W f A σ H (fun d e' => ∀ v H', FR g f A H' σ e' → Step A H H' → RL g A H' d v → Q v H') (m e)
def rdF (g : GC) (W : WK) (m : M (List D)) : TE := fun σ H Q => ∃ f A e, FR g f A H σ e ∧
  Fin g W f A σ H (fun ds e' => ∀ p xs H', FR g f A H' σ e' → FR g f (add1 A p) H' σ e' → ¬ A p → Step A H H' → H p = none → H' p = some (.lst xs) → RL g (add1 A p) H' ds xs → Q (.ref p) H') (m e)
inductive Fl where
  | nx | rt (d : D) | rb (ds : List D) | bk | ct
def EndF (g : GC) (f : Fx) (A : Addr → Prop) (H : Hp) (D : Ends) (e' : Ev) : Fl → Prop
  | .nx => ∀ A' σ' H', FR g f A' H' σ' e' → Mono A H A' H' → D.nx σ' H'
  | .bk => ∀ A' σ' H', FR g f A' H' σ' e' → Mono A H A' H' → D.bk σ' H'
  | .ct => ∀ A' σ' H', FR g f A' H' σ' e' → Mono A H A' H' → D.ct σ' H'
  | .rt d => ∀ A' σ' H' v, FR g f A' H' σ' e' → Mono A H A' H' → R g A' H' d v → D.rt v H'
  | .rb ds => ∀ A' σ' H' p xs, FR g f A' H' σ' e' → Mono A H A' H' → A' p → f.H0 p = none → (∀ (i : Nat) s, e'[i]? = some s → s.isBox = true → σ'[i]? ≠ some (some (.ref p))) → H' p = some (.lst xs) → RL g A' H' ds xs → D.rt (.ref p) H'
def FinS (g : GC) (W : WK) (f : Fx) (A : Addr → Prop) (H : Hp) (D : Ends) : Rs Fl → Prop
  | .ok b e' => EndF g f A H D e' b
  | .exc c d e' => ∀ A' σ' cls dd H', FR g f A' H' σ' e' → Mono A H A' H' → ExR g A' H' c d cls dd → W cls dd σ' H'
  | .bad => False
def rdS (g : GC) (W : WK) (m : M Fl) : TS := fun D σ H => ∃ f A e, FR g f A H σ e ∧ FinS g W f A H D (m e)
theorem Mono.trans {A A1 A2 : Addr → Prop} {H H1 H2 : Hp} (m : Mono A H A1 H1) (n : Mono A1 H1 A2 H2) : Mono A H A2 H2 :=
  ⟨m.al, fun a o h z => n.st a o (m.st a o h z) fun q => z (m.av a o q h), fun a o q h => Classical.byContradiction fun z => z (m.av a o (n.av a o q (m.st a o h z)) h)⟩
theorem Mono.refl {A : Addr → Prop} {H : Hp} (al : ∀ a, A a → ∃ o, H a = some o ∧ isMut o = true) : Mono A H A H := ⟨al, fun _ _ h _ => h, fun _ _ h _ => h⟩
theorem FinS.from {g : GC} {W : WK} {f : Fx} {A A1 : Addr → Prop} {H H1 : Hp} {D : Ends} {r : Rs Fl} (h : FinS g W f A H D r) (m : Mono A H A1 H1) : FinS g W f A1 H1 D r := by
  cases r with
  | ok b e' =>
    cases b with
    | nx => exact fun A' σ' H' F n => h A' σ' H' F (m.trans n)
    | bk => exact fun A' σ' H' F n => h A' σ' H' F (m.trans n)
    | ct => exact fun A' σ' H' F n => h A' σ' H' F (m.trans n)
    | rt d => exact fun A' σ' H' v F n => h A' σ' H' v F (m.trans n)
    | rb d => exact fun A' σ' H' p xs F n => h A' σ' H' p xs F (m.trans n)
  | exc c d e' => exact fun A' σ' cls dd H' F n => h A' σ' cls dd H' F (m.trans n)
  | bad => exact h
abbrev CE (g : GC) (X : Cx) (W : WK) (e : Expr) (m : M D) : Prop := PE X e (rdE g W m)
abbrev CT (g : GC) (X : Cx) (W : WK) (e : Expr) (m : M Bool) : Prop := PT X e (rdT g W m)
abbrev CA (g : GC) (X : Cx) (W : WK) (e : List Expr) (m : M (List D)) : Prop := PA X e (rdA g W m)
abbrev CF (g : GC) (X : Cx) (W : WK) (e : Expr) (m : M (List D)) : Prop := PE X e (rdF g W m)
abbrev CS (g : GC) (X : Cx) (W : WK) (s : Stmt) (m : M Fl) : Prop := PS X s (rdS g W m)
abbrev CB (g : GC) (X : Cx) (W : WK) (s : List Stmt) (m : M Fl) : Prop := PSs X s (rdS g W m)
theorem PE.imp {X : Cx} {e : Expr} {t u : TE} (h : PE X e t) (i : ∀ σ H Q, u σ H Q → t σ H Q) : PE X e u := ⟨fun pins s σ H Q I q => h.run pins s σ H Q I (i _ _ _ q)⟩
theorem PT.imp {X : Cx} {e : Expr} {t u : TT} (h : PT X e t) (i : ∀ σ H Q, u σ H Q → t σ H Q) : PT X e u := ⟨fun pins s σ H Q I q => h.run pins s σ H Q I (i _ _ _ q)⟩
theorem PA.imp {X : Cx} {e : List Expr} {t u : TA} (h : PA X e t) (i : ∀ σ H Q, u σ H Q → t σ H Q) : PA X e u := ⟨fun pos pins s σ H Q I q => h.run pos pins s σ H Q I (i _ _ _ q)⟩
theorem PS.imp {X : Cx} {e : Stmt} {t u : TS} (h : PS X e t) (i : ∀ D σ H, u D σ H → t D σ H) : PS X e u := ⟨fun pins s σ H D I q => h.run pins s σ H D I (i _ _ _ q)⟩
theorem PSs.imp {X : Cx} {e : List Stmt} {t u : TS} (h : PSs X e t) (i : ∀ D σ H, u D σ H → t D σ H) : PSs X e u := ⟨fun pins s σ H D I q => h.run pins s σ H D I (i _ _ _ q)⟩
section
variable {g : GC} {W : WK} {f : Fx} {A : Addr → Prop} {σ : Sv} {H H1 : Hp} {e : Ev} {β : Type} {ok : β → Ev → Prop}
theorem Fin.from {r : Rs β} (h : Fin g W f A σ H ok r) (s : Step A H H1) : Fin g W f A σ H1 ok r := by
  cases r with
  | ok b e' => exact h
  | exc c d e' => exact fun cls dd H' F S x => h cls dd H' F (s.trans S) x
  | bad => exact h
theorem Fin.bE {ma : M D} {k : D → M β} (h : Fin g W f A σ H ok (mb ma k e)) (F : FR g f A H σ e) {G : VK}
    (go : ∀ d e1 v H1, FR g f A H1 σ e1 → Step A H H1 → R g A H1 d v → Fin g W f A σ H1 ok (k d e1) → G v H1) : rdE g W ma σ H G := by
  refine ⟨f, A, e, F, ?_⟩
  unfold mb at h
  cases q : ma e with
  | ok d e1 => rw [q] at h; exact fun v H1 F1 S1 r => go d e1 v H1 F1 S1 r (h.from S1)
  | exc c d e1 => rw [q] at h; exact h
  | bad => rw [q] at h; exact h
theorem Fin.bT {ma : M Bool} {k : Bool → M β} (h : Fin g W f A σ H ok (mb ma k e)) (F : FR g f A H σ e) {G : Bool → Hp → Prop}
    (go : ∀ d e1 H1, FR g f A H1 σ e1 → Step A H H1 → Fin g W f A σ H1 ok (k d e1) → G d H1) : rdT g W ma σ H G := by
  refine ⟨f, A, e, F, ?_⟩
  unfold mb at h
  cases q : ma e with
  | ok d e1 => rw [q] at h; exact fun H1 F1 S1 => go d e1 H1 F1 S1 (h.from S1)
  | exc c d e1 => rw [q] at h; exact h
  | bad => rw [q] at h; exact h
theorem Fin.bA {ma : M (List D)} {k : List D → M β} (h : Fin g W f A σ H ok (mb ma k e)) (F : FR g f A H σ e) {G : List V → Hp → Prop}
    (go : ∀ d e1 v H1, FR g f A H1 σ e1 → Step A H H1 → RL g A H1 d v → Fin g W f A σ H1 ok (k d e1) → G v H1) : rdA g W ma σ H G := by
  refine ⟨f, A, e, F, ?_⟩
  unfold mb at h
  cases q : ma e with
  | ok d e1 => rw [q] at h; exact fun v H1 F1 S1 r => go d e1 v H1 F1 S1 r (h.from S1)
  | exc c d e1 => rw [q] at h; exact h
  | bad => rw [q] at h; exact h
theorem Fin.bF {ma : M (List D)} {k : List D → M β} (h : Fin g W f A σ H ok (mb ma k e)) (F : FR g f A H σ e) {G : VK}
    (go : ∀ ds e1 p xs H1, FR g f A H1 σ e1 → FR g f (add1 A p) H1 σ e1 → ¬ A p → Step A H H1 → H p = none → H1 p = some (.lst xs) → RL g (add1 A p) H1 ds xs → Fin g W f A σ H1 ok (k ds e1) → G (.ref p) H1) : rdF g W ma σ H G := by
  refine ⟨f, A, e, F, ?_⟩
  unfold mb at h
  cases q : ma e with
  | ok d e1 => rw [q] at h; exact fun p xs H1 F1 F2 n S1 a b r => go d e1 p xs H1 F1 F2 n S1 a b r (h.from S1)
  | exc c d e1 => rw [q] at h; exact h
  | bad => rw [q] at h; exact h
theorem FinS.bE {E : Ends} {ma : M D} {k : D → M Fl} (h : FinS g W f A H E (mb ma k e)) (F : FR g f A H σ e) {G : VK}
    (go : ∀ d e1 v H1, FR g f A H1 σ e1 → Step A H H1 → R g A H1 d v → FinS g W f A H1 E (k d e1) → G v H1) : rdE g W ma σ H G := by
  refine ⟨f, A, e, F, ?_⟩
  unfold mb at h
  cases q : ma e with
  | ok d e1 => rw [q] at h; exact fun v H1 F1 S1 r => go d e1 v H1 F1 S1 r (h.from (F.mono S1))
  | exc c d e1 => rw [q] at h; exact fun cls dd H' F' S x => h _ _ cls dd H' F' (F.mono S) x
  | bad => rw [q] at h; exact h
theorem FinS.bT {E : Ends} {ma : M Bool} {k : Bool → M Fl} (h : FinS g W f A H E (mb ma k e)) (F : FR g f A H σ e) {G : Bool → Hp → Prop}
    (go : ∀ d e1 H1, FR g f A H1 σ e1 → Step A H H1 → FinS g W f A H1 E (k d e1) → G d H1) : rdT g W ma σ H G := by
  refine ⟨f, A, e, F, ?_⟩
  unfold mb at h
  cases q : ma e with
  | ok d e1 => rw [q] at h; exact fun H1 F1 S1 => go d e1 H1 F1 S1 (h.from (F.mono S1))
  | exc c d e1 => rw [q] at h; exact fun cls dd H' F' S x => h _ _ cls dd H' F' (F.mono S) x
  | bad => rw [q] at h; exact h
theorem FinS.bA {E : Ends} {ma : M (List D)} {k : List D → M Fl} (h : FinS g W f A H E (mb ma k e)) (F : FR g f A H σ e) {G : List V → Hp → Prop}
    (go : ∀ d e1 v H1, FR g f A H1 σ e1 → Step A H H1 → RL g A H1 d v → FinS g W f A H1 E (k d e1) → G v H1) : rdA g W ma σ H G := by
  refine ⟨f, A, e, F, ?_⟩
  unfold mb at h
  cases q : ma e with
  | ok d e1 => rw [q] at h; exact fun v H1 F1 S1 r => go d e1 v H1 F1 S1 r (h.from (F.mono S1))
  | exc c d e1 => rw [q] at h; exact fun cls dd H' F' S x => h _ _ cls dd H' F' (F.mono S) x
  | bad => rw [q] at h; exact h
theorem FinS.bF {E : Ends} {ma : M (List D)} {k : List D → M Fl} (h : FinS g W f A H E (mb ma k e)) (F : FR g f A H σ e) {G : VK}
    (go : ∀ ds e1 p xs H1, FR g f A H1 σ e1 → FR g f (add1 A p) H1 σ e1 → ¬ A p → Step A H H1 → H p = none → H1 p = some (.lst xs) → RL g (add1 A p) H1 ds xs → FinS g W f A H E (k ds e1) → G (.ref p) H1) : rdF g W ma σ H G := by
  refine ⟨f, A, e, F, ?_⟩
  unfold mb at h
  cases q : ma e with
  | ok d e1 => rw [q] at h; exact fun p xs H1 F1 F2 n S1 a b r => go d e1 p xs H1 F1 F2 n S1 a b r h
  | exc c d e1 => rw [q] at h; exact fun cls dd H' F' S x => h _ _ cls dd H' F' (F.mono S) x
  | bad => rw [q] at h; exact h
theorem Fin.mo {o : Option β} (h : Fin g W f A σ H ok (mo o e)) : ∃ b, o = some b ∧ ok b e := by
  cases o with
  | none => exact h.elim
  | some b => exact ⟨b, rfl, h⟩
theorem FinS.mo {E : Ends} {α : Type} {o : Option α} {k : α → M Fl} (h : FinS g W f A H E (mb (Fw.mo o) k e)) : ∃ b, o = some b ∧ FinS g W f A H E (k b e) := by
  cases o with
  | none => exact h.elim
  | some b => exact ⟨b, rfl, h⟩
theorem Fin.mo2 {α : Type} {o : Option α} {k : α → M β} (h : Fin g W f A σ H ok (mb (Fw.mo o) k e)) : ∃ b, o = some b ∧ Fin g W f A σ H ok (k b e) := by
  cases o with
  | none => exact h.elim
  | some b => exact ⟨b, rfl, h⟩
end
end Fw
namespace Fw
open L2 PyProof.Rows PySem PySem.Spec
theorem FR.at {g : GC} {f : Fx} {A : Addr → Prop} {H : Hp} {σ : Sv} {e : Ev} (F : FR g f A H σ e) {i : Nat} {s : Sl} (h : e[i]? = some s) : ∃ o, σ[i]? = some o ∧ SlRel g f A H i o s := by
  have hi : i < σ.length := by rw [F.len]; exact (List.getElem?_eq_some_iff.mp h).1
  exact ⟨σ[i], List.getElem?_eq_getElem hi, F.sl i s _ h (List.getElem?_eq_getElem hi)⟩
def mVar (i : Nat) : M D := fun e => match e[i]? with
  | some (.val d) => .ok d e
  | _ => .bad
def mC (d : D) : M D := fun e => .ok d e
section
variable {g : GC} {X : Cx} {W : WK}
theorem c_var (i : Nat) {x : Str} {pos : Pos} (h : PE X (.Name x pos) (tVar i)) : CE g X W (.Name x pos) (mVar i) := PE.imp h fun σ H Q ⟨f, A, e, F, h⟩ => by
  unfold mVar at h
  split at h
  · rename_i d q
    obtain ⟨o, h1, _, v, h2, h3⟩ := F.at q
    exact ⟨v, by rw [h1, h2], h v H F .refl h3⟩
  · exact h.elim
theorem c_con {ex : Expr} {v : V} {d : D} (h : PE X ex (tC v)) (r : ∀ A H, R g A H d v) : CE g X W ex (mC d) := PE.imp h fun σ H Q ⟨f, A, e, F, h⟩ => h v H F .refl (r A H)
theorem c_int {i : Int} {j pos} : CE g X W (.Constant (.int i) j pos) (mC (.int i)) := c_con pe_int fun _ _ => rfl
theorem c_bl {i : Bool} {j pos} : CE g X W (.Constant (.bool i) j pos) (mC (.bl i)) := c_con pe_bl fun _ _ => rfl
end
def Rt (g : GC) (A : Addr → Prop) (H : Hp) : D → V → Prop
  | .lst ds, v => ∃ a xs, v = .ref a ∧ H a = some (.lst xs) ∧ RL g A H ds xs
  | .dct ks ds, v => ∃ a xs, v = .ref a ∧ Rd H a (.dK (ks.zip xs)) ∧ ks.length = xs.length ∧ RL g A H ds xs
  | .dtt ks ds, v => ∃ a xs, v = .ref a ∧ Rd H a (.dT (ks.zip xs)) ∧ ks.length = xs.length ∧ RL g A H ds xs
  | .obj c ds, v => ∃ a dx xs, v = .ref a ∧ H a = some (.ins (g.ca c) dx ((g.cf c).zip xs)) ∧ (g.cf c).length = xs.length ∧ RL g A H ds xs
  | d, v => R g A H d v
theorem R.rt {g : GC} {A : Addr → Prop} {H : Hp} : ∀ {d : D} {v : V}, R g A H d v → Rt g A H d v
  | .lst ds, _, ⟨a, xs, e, h, _, r⟩ => ⟨a, xs, e, h, r⟩
  | .non, _, r => r
  | .bl _, _, r => r
  | .int _, _, r => r
  | .str _, _, r => r
  | .ty _, _, r => r
  | .tup _, _, r => r
  | .obj c ds, _, ⟨a, dx, xs, e, h, _, hl, r⟩ => ⟨a, dx, xs, e, h, hl, r⟩
  | .scr _, _, r => r
  | .ktu _, _, r => r
  | .dct ks ds, _, ⟨a, o, xs, e, h, hl, r⟩ => ⟨a, xs, e, .inr ⟨o, h⟩, hl, r⟩
  | .dtt ks ds, _, ⟨a, o, xs, e, h, hl, r⟩ => ⟨a, xs, e, .inr ⟨o, h⟩, hl, r⟩
  | .exn _ _, _, r => r
def RtL (g : GC) (A : Addr → Prop) (H : Hp) : List D → List V → Prop
  | [], xs => xs = []
  | d :: ds, xs => ∃ y ys, xs = y :: ys ∧ Rt g A H d y ∧ RtL g A H ds ys
abbrev Al (A : Addr → Prop) (H : Hp) : Prop := ∀ a, A a → ∃ o, H a = some o ∧ isMut o = true
def OS (g : GC) (r : R2) (op : D → D → Option D) : Prop := ∀ A H d1 d2 d v1 v2 Q, Al A H → Rt g A H d1 v1 → Rt g A H d2 v2 → op d1 d2 = some d → (∀ v H', Same H H' → R g A H' d v → Q v H') → r v1 v2 H Q
def US (g : GC) (r : V → Hp → VK → Prop) (op : D → Option D) : Prop := ∀ A H d1 d v1 Q, Al A H → Rt g A H d1 v1 → op d1 = some d → (∀ v H', Same H H' → R g A H' d v → Q v H') → r v1 H Q
def LS (g : GC) (r : List V → Hp → VK → Prop) (op : List D → Option D) : Prop := ∀ A H ds d vs Q, Al A H → RtL g A H ds vs → op ds = some d → (∀ v H', Same H H' → R g A H' d v → Q v H') → r vs H Q
def FS2 (g : GC) (r : R2) (op : D → D → Option (List D)) : Prop := ∀ A H d1 d2 es v1 v2 Q, Al A H → Rt g A H d1 v1 → Rt g A H d2 v2 → op d1 d2 = some es → (∀ p xs, H p = none → RL g A H es xs → Q (.ref p) (upd H p (.lst xs))) → r v1 v2 H Q
inductive Od where
  | e (m : M D) | n (i : Nat)
def Sl.dat : Sl → Option D
  | .val d => some d
  | .box d => some d
  | .pbox d => some d
  | .emp => none
def mN (i : Nat) : M D := fun e => match e[i]? with
  | some s => (match s.dat with
    | some d => .ok d e
    | none => .bad)
  | none => .bad
def rdO (g : GC) (W : WK) : Od → TE
  | .e m => rdE g W m
  | .n i => tVar i
abbrev CO (g : GC) (X : Cx) (W : WK) (e : Expr) (o : Od) : Prop := PE X e (rdO g W o)
theorem FR.rt {g : GC} {f : Fx} {A : Addr → Prop} {H : Hp} {σ : Sv} {e : Ev} (F : FR g f A H σ e) {i : Nat} {s : Sl} {d : D} (h : e[i]? = some s) (q : s.dat = some d) : ∃ v, σ[i]? = some (some v) ∧ Rt g A H d v := by
  obtain ⟨o, h1, h2⟩ := F.at h
  cases s with
  | emp => cases q
  | val d' => cases q; obtain ⟨_, v, e1, r⟩ := h2; exact ⟨v, by rw [h1, e1], r.rt⟩
  | box d' =>
    cases q; obtain ⟨_, p, e1, _, _, r⟩ := h2
    cases d with
    | lst ds => obtain ⟨xs, h3, r⟩ := r; exact ⟨_, by rw [h1, e1], p, xs, rfl, h3, r⟩
    | dct ks ds => obtain ⟨xs, h3, hl, r⟩ := r; exact ⟨_, by rw [h1, e1], p, xs, rfl, .inl h3, hl, r⟩
    | dtt ks ds => obtain ⟨xs, h3, hl, r⟩ := r; exact ⟨_, by rw [h1, e1], p, xs, rfl, .inl h3, hl, r⟩
    | obj c ds => obtain ⟨dx, xs, h3, hl, r⟩ := r; exact ⟨_, by rw [h1, e1], p, dx, xs, rfl, h3, hl, r⟩
    | _ => exact r.elim
  | pbox d' =>
    cases q; obtain ⟨p, _, e1, _, r⟩ := h2
    cases d with
    | lst ds => obtain ⟨xs, h3, r⟩ := r; exact ⟨_, by rw [h1, e1], p, xs, rfl, h3, r⟩
    | dct ks ds => obtain ⟨xs, h3, hl, r⟩ := r; exact ⟨_, by rw [h1, e1], p, xs, rfl, .inl h3, hl, r⟩
    | dtt ks ds => obtain ⟨xs, h3, hl, r⟩ := r; exact ⟨_, by rw [h1, e1], p, xs, rfl, .inl h3, hl, r⟩
    | obj c ds => obtain ⟨dx, xs, h3, hl, r⟩ := r; exact ⟨_, by rw [h1, e1], p, dx, xs, rfl, h3, hl, r⟩
    | _ => exact r.elim
theorem Fin.bN {g : GC} {W : WK} {f : Fx} {A : Addr → Prop} {σ : Sv} {H : Hp} {e : Ev} {β : Type} {ok : β → Ev → Prop} {i : Nat} {k : D → M β} (h : Fin g W f A σ H ok (mb (mN i) k e)) (F : FR g f A H σ e) : ∃ d v, σ[i]? = some (some v) ∧ Rt g A H d v ∧ Fin g W f A σ H ok (k d e) := by
  unfold mb mN at h
  cases q : e[i]? with
  | none => rw [q] at h; exact h.elim
  | some s =>
    rw [q] at h
    cases q2 : s.dat with
    | none => simp only [q2] at h; exact h.elim
    | some d =>
      simp only [q2] at h
      obtain ⟨v, h1, h2⟩ := F.rt q q2
      exact ⟨d, v, h1, h2, h⟩
def mO2 {β : Type} (a b : Od) (k : D → D → M β) : M β := match a, b with
  | .e m, .e m' => mb m fun x => mb m' fun y => k x y
  | .e m, .n j => mb m fun x => mb (mN j) fun y => k x y
  | .n i, .e m' => mb (mN i) fun _ => mb m' fun y => mb (mN i) fun x => k x y
  | .n i, .n j => mb (mN i) fun x => mb (mN j) fun y => k x y
theorem Fin.b2 {g : GC} {W : WK} {f : Fx} {A : Addr → Prop} {σ : Sv} {H : Hp} {e : Ev} {β : Type} {ok : β → Ev → Prop} {a b : Od} {k : D → D → M β} (h : Fin g W f A σ H ok (mO2 a b k e)) (F : FR g f A H σ e) {G : V → V → Hp → Prop}
    (go : ∀ d1 d2 e1 v1 v2 H1, FR g f A H1 σ e1 → Step A H H1 → Rt g A H1 d1 v1 → Rt g A H1 d2 v2 → Fin g W f A σ H1 ok (k d1 d2 e1) → G v1 v2 H1) : rdO g W a σ H fun x H1 => rdO g W b σ H1 fun y H2 => G x y H2 := by
  cases a with
  | e m =>
    cases b with
    | e m' =>
      refine Fin.bE h F fun d1 e1 v1 H1 F1 S1 R1 h1 => ?_
      refine Fin.bE h1 F1 fun d2 e2 v2 H2 F2 S2 R2 h2 => ?_
      exact go d1 d2 e2 v1 v2 H2 F2 (S1.trans S2) (F1.r S2 R1).rt R2.rt h2
    | n j =>
      refine Fin.bE h F fun d1 e1 v1 H1 F1 S1 R1 h1 => ?_
      obtain ⟨d2, v2, q, R2, h2⟩ := Fin.bN h1 F1
      exact ⟨v2, q, go d1 d2 e1 v1 v2 H1 F1 S1 R1.rt R2 h2⟩
  | n i =>
    cases b with
    | e m' =>
      obtain ⟨_, v1, hv, _, h⟩ := Fin.bN h F
      refine ⟨v1, hv, ?_⟩
      refine Fin.bE h F fun d2 e2 v2 H2 F2 S2 R2 h2 => ?_
      obtain ⟨d1, v1', q, R1, h3⟩ := Fin.bN h2 F2
      rw [hv] at q; cases q
      exact go d1 d2 e2 v1 v2 H2 F2 S2 R1 R2.rt h3
    | n j =>
      obtain ⟨d1, v1, q1, R1, h1⟩ := Fin.bN h F
      obtain ⟨d2, v2, q2, R2, h2⟩ := Fin.bN h1 F
      exact ⟨v1, q1, v2, q2, go d1 d2 e v1 v2 H F .refl R1 R2 h2⟩
def mOp (op : D → D → Option D) (a b : Od) : M D := mO2 a b fun x y => mo (op x y)
def mOpF (op : D → D → Option (List D)) (a b : Od) : M (List D) := mO2 a b fun x y => mo (op x y)
def mO1 {β : Type} (a : Od) (k : D → M β) : M β := match a with
  | .e m => mb m k
  | .n i => mb (mN i) k
def mUn (op : D → Option D) (a : Od) : M D := mO1 a fun x => mo (op x)
section
variable {g : GC} {X : Cx} {W : WK}
theorem co_e {a : Expr} {m : M D} (h : CE g X W a m) : CO g X W a (.e m) := h
theorem co_n (i : Nat) {x : Str} {pos : Pos} (h : PE X (.Name x pos) (tVar i)) : CO g X W (.Name x pos) (.n i) := h
theorem Fin.b1 {f : Fx} {A : Addr → Prop} {σ : Sv} {H : Hp} {e : Ev} {β : Type} {ok : β → Ev → Prop} {a : Od} {k : D → M β} (h : Fin g W f A σ H ok (mO1 a k e)) (F : FR g f A H σ e) {G : V → Hp → Prop}
    (go : ∀ d1 e1 v1 H1, FR g f A H1 σ e1 → Step A H H1 → Rt g A H1 d1 v1 → Fin g W f A σ H1 ok (k d1 e1) → G v1 H1) : rdO g W a σ H G := by
  cases a with
  | e m => exact Fin.bE h F fun d1 e1 v1 H1 F1 S1 R1 h1 => go d1 e1 v1 H1 F1 S1 R1.rt h1
  | n i =>
    obtain ⟨d1, v1, hv, r, h⟩ := Fin.bN h F
    exact ⟨v1, hv, go d1 e v1 H F .refl r h⟩
theorem t_op {r : R2} {op : D → D → Option D} {a b : Od} (ho : OS g r op) : ∀ σ H Q, rdE g W (mOp op a b) σ H Q → tOp r (rdO g W a) (rdO g W b) σ H Q := fun σ H Q ⟨f, A, e, F, h⟩ =>
  Fin.b2 h F fun d1 d2 e2 v1 v2 H2 F2 S2 R1 R2 h2 => by
    obtain ⟨d, q, h3⟩ := Fin.mo h2
    exact ho A H2 d1 d2 d v1 v2 Q F2.al R1 R2 q fun v H3 s r => h3 v H3 (F2.same s) (S2.trans (.of s)) r
theorem t_opF {r : R2} {op : D → D → Option (List D)} {a b : Od} (ho : FS2 g r op) : ∀ σ H Q, rdF g W (mOpF op a b) σ H Q → tOp r (rdO g W a) (rdO g W b) σ H Q := fun σ H Q ⟨f, A, e, F, h⟩ =>
  Fin.b2 h F fun d1 d2 e2 v1 v2 H2 F2 S2 R1 R2 h2 => by
    obtain ⟨d, q, h3⟩ := Fin.mo h2
    exact ho A H2 d1 d2 d v1 v2 Q F2.al R1 R2 q fun p xs hp r => h3 p xs _ (F2.same (Same.new hp)) (F2.new hp) (F2.nA hp) (S2.trans (.of (Same.new hp))) (by
      cases z : H p with
      | none => rfl
      | some o => obtain ⟨o', q⟩ := S2.un p o z; rw [hp] at q; cases q) upd_same (RL.mono (Mono.new F2 hp) d r)
theorem c_op {op : Operator} {r : R2} {a b : Expr} {ma mb' : Od} {o : D → D → Option D} {pos : Pos} (hr : OpR X (binaryOp op) r) (ho : OS g r o) (ha : CO g X W a ma) (hb : CO g X W b mb') : CE g X W (.BinOp a op b pos) (mOp o ma mb') :=
  PE.imp (pe_op hr ha hb) (t_op ho)
theorem cf_op {op : Operator} {r : R2} {a b : Expr} {ma mb' : Od} {o : D → D → Option (List D)} {pos : Pos} (hr : OpR X (binaryOp op) r) (ho : FS2 g r o) (ha : CO g X W a ma) (hb : CO g X W b mb') : CF g X W (.BinOp a op b pos) (mOpF o ma mb') :=
  PE.imp (pe_op hr ha hb) (t_opF ho)
theorem c_cmp {op : CmpOp} {r : R2} {a b : Expr} {ma mb' : Od} {o : D → D → Option D} {pos : Pos} (hr : OpR X (compareOp op) r) (ho : OS g r o) (ha : CO g X W a ma) (hb : CO g X W b mb') (hm : behindInMarks op b = false) : CE g X W (.Compare a [op] [b] pos) (mOp o ma mb') :=
  PE.imp (pe_cmpR hr ha hb hm) (t_op ho)
theorem c_un {op : UnaryOp} {r : V → Hp → VK → Prop} {a : Expr} {ma : Od} {o : D → Option D} {pos : Pos} (hr : UnR X (unaryOp op) r) (ho : US g r o) (ha : CO g X W a ma) : CE g X W (.UnaryOp op a pos) (mUn o ma) :=
  PE.imp (pe_un hr ha) fun σ H Q ⟨f, A, e, F, h⟩ => Fin.b1 h F fun d1 e1 v1 H1 F1 S1 R1 h1 => by
    obtain ⟨d, q, h3⟩ := Fin.mo h1
    exact ho A H1 d1 d v1 Q F1.al R1 q fun v H3 s r => h3 v H3 (F1.same s) (S1.trans (.of s)) r
def dB : D → Option Bool
  | .bl b => some b
  | _ => none
def mCmp (op : D → D → Option D) (a b : Od) : M Bool := mO2 a b fun x y => mo ((op x y).bind dB)
theorem ct_cmp {op : CmpOp} {r : R2} {a b : Expr} {ma mb' : Od} {o : D → D → Option D} {pos : Pos} (hr : OpR X (compareOp op) r) (ho : OS g r o) (ha : CO g X W a ma) (hb : CO g X W b mb') (hm : behindInMarks op b = false) : CT g X W (.Compare a [op] [b] pos) (mCmp o ma mb') :=
  PT.imp (pt_cmpR hr ha hb hm) fun σ H Q ⟨f, A, e, F, h⟩ => Fin.b2 h F fun d1 d2 e2 v1 v2 H2 F2 S2 R1 R2 h2 => by
    obtain ⟨b, q, h3⟩ := Fin.mo h2
    cases z : o d1 d2 with
    | none => rw [z] at q; cases q
    | some d =>
      rw [z] at q
      refine ho A H2 d1 d2 d v1 v2 _ F2.al R1 R2 z fun v H3 s r => ?_
      cases d with
      | bl c => cases q; exact ⟨_, r, h3 H3 (F2.same s) (S2.trans (.of s))⟩
      | _ => cases q
def mChain (o o' : D → D → Option D) (a b c : Od) : M D := mO2 a b fun x y => mb (mo ((o x y).bind dB)) fun k => if k = true then mO1 c fun z => mo (o' y z) else mp (.bl false)
end
theorem OpR.or {X : Cx} {f : Value → Value → Sem Value} {r r' : R2} (h : OpR X f r) (h' : OpR X f r') : OpR X f (fun x y H Q => r x y H Q ∨ r' x y H Q) := fun pins s σ H x y v u Q I rx ry q =>
  q.elim (h pins s σ H x y v u Q I rx ry) (h' pins s σ H x y v u Q I rx ry)
def dAdd : D → D → Option D
  | .int i, .int j => some (.int (i + j))
  | .str x, .str y => if x.length + y.length ≤ 1000000 then some (.str (x ++ y)) else none
  | .lst xs, .lst ys => if xs.length + ys.length ≤ 1000000 then some (.lst (xs ++ ys)) else none
  | .tup xs, .tup ys => if xs ≠ [] ∧ xs.length + ys.length ≤ 1000000 then some (.tup (xs ++ ys)) else none
  | _, _ => none
theorem million : (1000000 : Nat) ≤ sizeLine := by rw [sizeLine_eq]; decide
theorem Mono.same {A : Addr → Prop} {H H' : Hp} (al : Al A H) (s : Same H H') : Mono A H A H' := ⟨al, fun a o h _ => s a o h, fun _ _ h _ => h⟩
theorem Al.no {A : Addr → Prop} {H : Hp} (al : Al A H) {p : Addr} (h : H p = none) : ¬ A p := fun z => by
  obtain ⟨o, q, _⟩ := al p z
  rw [h] at q; cases q
theorem RL.nil_iff {g : GC} {A : Addr → Prop} {H : Hp} {ds : List D} {xs : List V} (r : RL g A H ds xs) : xs = [] ↔ ds = [] := by
  have := RL.length r
  constructor
  · intro h; rw [h] at this; exact List.eq_nil_of_length_eq_zero this.symm
  · intro h; rw [h] at this; exact List.eq_nil_of_length_eq_zero this
abbrev rAddAll (K : PySem.W.Frag) : R2 := fun x y H Q => (rI0 fun i j => V.int (i + j)) x y H Q ∨ ((∃ i j, x = .str i ∧ y = .str j ∧ i.length + j.length ≤ sizeLine ∧ Q (.str (i ++ j)) H) ∨ (rCat x y H Q ∨ rCatT K x y H Q))
theorem or_add {X : Cx} : OpR X (binaryOp .Add) (rAddAll X.K) := OpR.or op_add (OpR.or op_add_str (OpR.or op_cat op_catT))
theorem os_add {g : GC} : OS g (rAddAll g.K) dAdd := fun A H d1 d2 d v1 v2 Q al r1 r2 q k => by
  cases d1 with
  | int i =>
    cases d2 with
    | int j => cases q; exact .inl ⟨i, j, r1, r2, k _ H (Same.refl H) rfl⟩
    | _ => cases q
  | str x =>
    cases d2 with
    | str y =>
      simp only [dAdd] at q
      split at q
      · rename_i hz; cases q; exact .inr (.inl ⟨x, y, r1, r2, Nat.le_trans hz million, k _ H (Same.refl H) rfl⟩)
      · cases q
    | _ => cases q
  | lst xs =>
    cases d2 with
    | lst ys =>
      simp only [dAdd] at q
      split at q
      · rename_i hz; cases q
        obtain ⟨a, us, e1, h1, l1⟩ := r1
        obtain ⟨b, ws, e2, h2, l2⟩ := r2
        refine .inr (.inr (.inl ⟨a, b, us, ws, e1, e2, h1, h2, by rw [RL.length l1, RL.length l2]; exact Nat.le_trans hz million, fun p hp => ?_⟩))
        have m := Mono.same al (Same.new (o := .lst (us ++ ws)) hp)
        exact k _ _ (Same.new hp) ⟨p, _, rfl, upd_same, Al.no al hp, RL.append (RL.mono m _ l1) (RL.mono m _ l2)⟩
      · cases q
    | _ => cases q
  | tup xs =>
    cases d2 with
    | tup ys =>
      simp only [dAdd] at q
      split at q
      · rename_i hz; cases q
        obtain ⟨a, us, e1, h1, l1⟩ := r1
        obtain ⟨b, ws, e2, h2, l2⟩ := r2
        refine .inr (.inr (.inr ⟨a, b, us, ws, e1, e2, SqT.of h1, SqT.of h2, fun z => hz.1 ((RL.nil_iff l1).mp z), by rw [RL.length l1, RL.length l2]; exact Nat.le_trans hz.2 million, fun z => ?_, fun z p hp => ?_⟩))
        · subst e1
          refine k _ _ (Same.refl H) ⟨a, us, rfl, h1, ?_⟩
          rw [(RL.nil_iff l2).mp z, List.append_nil]
          exact l1
        · have m := Mono.same al (Same.new (o := .tup (us ++ ws)) hp)
          exact k _ _ (Same.new hp) ⟨p, _, rfl, upd_same, RL.append (RL.mono m _ l1) (RL.mono m _ l2)⟩
      · cases q
    | _ => cases q
  | _ => cases q
def dI (op : Int → Int → Option D) : D → D → Option D
  | .int i, .int j => op i j
  | _, _ => none
theorem os_I {g : GC} {C : Int → Int → Prop} {h : Int → Int → V} {op : Int → Int → Option D} (hc : ∀ i j d, op i j = some d → C i j ∧ ∀ A H, R g A H d (h i j)) : OS g (rI C h) (dI op) := fun A H d1 d2 d v1 v2 Q al r1 r2 q k => by
  cases d1 with
  | int i =>
    cases d2 with
    | int j => exact ⟨i, j, r1, r2, (hc i j d q).1, k _ H (Same.refl H) ((hc i j d q).2 A H)⟩
    | _ => cases q
  | _ => cases q
theorem os_I0 {g : GC} {h : Int → Int → V} {op : Int → Int → Option D} (hc : ∀ i j d, op i j = some d → ∀ A H, R g A H d (h i j)) : OS g (rI0 h) (dI op) := fun A H d1 d2 d v1 v2 Q al r1 r2 q k => by
  cases d1 with
  | int i =>
    cases d2 with
    | int j => exact ⟨i, j, r1, r2, k _ H (Same.refl H) (hc i j d q A H)⟩
    | _ => cases q
  | _ => cases q
def dSub : D → D → Option D := dI fun i j => some (.int (i - j))
theorem os_sub {g : GC} : OS g (rI0 fun i j => .int (i - j)) dSub := os_I0 fun i j d q A H => by cases q; rfl
def dLt : D → D → Option D := dI fun i j => some (.bl (decide (i < j)))
def dLe : D → D → Option D := dI fun i j => some (.bl (decide (i ≤ j)))
def dGt : D → D → Option D := dI fun i j => some (.bl (decide (j < i)))
def dGe : D → D → Option D := dI fun i j => some (.bl (decide (j ≤ i)))
theorem os_lt {g : GC} : OS g (rI0 fun i j => .bl (decide (i < j))) dLt := os_I0 fun i j d q A H => by cases q; rfl
theorem os_le {g : GC} : OS g (rI0 fun i j => .bl (decide (i ≤ j))) dLe := os_I0 fun i j d q A H => by cases q; rfl
theorem os_gt {g : GC} : OS g (rI0 fun i j => .bl (decide (j < i))) dGt := os_I0 fun i j d q A H => by cases q; rfl
theorem os_ge {g : GC} : OS g (rI0 fun i j => .bl (decide (j ≤ i))) dGe := os_I0 fun i j d q A H => by cases q; rfl
end Fw
namespace Fw
open L2 PyProof.Rows PySem PySem.Spec
def mulOk (i j : Int) : Bool := (decide (i.natAbs < 18446744073709551616) || decide (j.natAbs < 18446744073709551616)) || decide (i.natAbs.log2 + j.natAbs.log2 < 1000000)
theorem mulOk_ok {i j : Int} (h : mulOk i j = true) : CMul i j ∨ CMulW i j := by
  unfold mulOk at h
  simp only [Bool.or_eq_true, decide_eq_true_eq] at h
  unfold CMul
  rcases h with (h | h) | h
  · left; left; omega
  · left; right; omega
  · right; exact h
def dMul : D → D → Option D
  | .int i, .int j => if mulOk i j = true then some (.int (i * j)) else none
  | .lst xs, .int k => if k ≤ 1000000 ∧ 0 ≤ k ∧ xs.length * k.toNat ≤ 1000000 then some (.lst (List.replicate k.toNat xs).flatten) else none
  | _, _ => none
theorem RL.rep {g : GC} {A : Addr → Prop} {H : Hp} {ds : List D} {xs : List V} (r : RL g A H ds xs) : ∀ n : Nat, RL g A H (List.replicate n ds).flatten (List.replicate n xs).flatten
  | 0 => by simp [RL]
  | n + 1 => by
    rw [List.replicate_succ, List.replicate_succ, List.flatten_cons, List.flatten_cons]
    exact RL.append r (RL.rep r n)
abbrev rMulAll : R2 := fun x y H Q => (rI CMul fun i j => V.int (i * j)) x y H Q ∨ ((rI CMulW fun i j => V.int (i * j)) x y H Q ∨ rRep x y H Q)
theorem or_mul {X : Cx} : OpR X (binaryOp .Mult) rMulAll := OpR.or op_mul (OpR.or op_mulW op_rep)
theorem os_mul {g : GC} : OS g rMulAll dMul := fun A H d1 d2 d v1 v2 Q al r1 r2 q k => by
  cases d1 with
  | int i =>
    cases d2 with
    | int j =>
      simp only [dMul] at q
      split at q
      · rename_i h; cases q
        rcases mulOk_ok h with c | c
        · exact .inl ⟨i, j, r1, r2, c, k _ H (Same.refl H) rfl⟩
        · exact .inr (.inl ⟨i, j, r1, r2, c, k _ H (Same.refl H) rfl⟩)
      · cases q
    | _ => cases q
  | lst xs =>
    cases d2 with
    | int j =>
      simp only [dMul] at q
      split at q
      · rename_i hz; cases q
        obtain ⟨a, us, e1, h1, l1⟩ := r1
        refine .inr (.inr ⟨a, j, us, e1, r2, h1, by omega, by omega, by rw [RL.length l1]; exact Nat.le_trans hz.2.2 million, fun p hp => ?_⟩)
        have m := Mono.same al (Same.new (o := .lst (List.replicate j.toNat us).flatten) hp)
        exact k _ _ (Same.new hp) ⟨p, _, rfl, upd_same, Al.no al hp, RL.rep (RL.mono m _ l1) _⟩
      · cases q
    | _ => cases q
  | _ => cases q
def CDivG (_ j : Int) : Prop := j ≠ 0 ∧ j.natAbs.log2 < 9000
theorem op_fdivG {X : Cx} : OpR X (binaryOp .FloorDiv) (rI CDivG fun i j => .int (i.fdiv j)) := opI fun i j _ _ _ _ _ hc q => floordiv_int hc.1 q (.inl (PyProof.noPylong_of_log2 hc.2))
def iFdiv (i j : Int) : Option D := if j = 0 then none else if j.natAbs.log2 < 9000 then some (.int (if 0 < j then i / j else i.fdiv j)) else none
def dFdiv : D → D → Option D := dI iFdiv
theorem os_fdiv {g : GC} : OS g (rI CDivG fun i j => .int (i.fdiv j)) dFdiv := os_I fun i j d q => by
  unfold iFdiv at q
  split at q
  · cases q
  · rename_i h0
    split at q
    · rename_i h1; cases q
      refine ⟨⟨h0, h1⟩, fun A H => ?_⟩
      show V.int _ = V.int _
      split
      · rename_i h2; rw [Int.fdiv_eq_ediv_of_nonneg i (by omega)]
      · rfl
    · cases q
def iMod (i j : Int) : Option D := if j = 0 then none else some (.int (if 0 < j then i % j else i.fmod j))
def dMod : D → D → Option D := dI iMod
theorem os_mod {g : GC} : OS g (rI (fun _ j => j ≠ 0) fun i j => .int (i.fmod j)) dMod := os_I fun i j d q => by
  unfold iMod at q
  split at q
  · cases q
  · rename_i h0; cases q
    refine ⟨h0, fun A H => ?_⟩
    show V.int _ = V.int _
    split
    · rename_i h2; rw [Int.fmod_eq_emod_of_nonneg i (by omega)]
    · rfl
def iPow (i j : Int) : Option D := if 0 ≤ j ∧ j ≤ 1000000 ∧ i.natAbs < 18446744073709551616 then some (.int (i ^ j.toNat)) else none
def dPow : D → D → Option D := dI iPow
theorem os_pow {g : GC} : OS g (rI CPow fun i j => .int (i ^ j.toNat)) dPow := os_I fun i j d q => by
  unfold iPow at q
  split at q
  · rename_i h; cases q; exact ⟨⟨h.1, h.2.1, h.2.2⟩, fun A H => rfl⟩
  · cases q
def dNeg : D → Option D
  | .int i => some (.int (-i))
  | _ => none
theorem us_neg {g : GC} : US g (rU fun i => .int (-i)) dNeg := fun A H d1 d v1 Q al r1 q k => by
  cases d1 with
  | int i => cases q; exact ⟨i, r1, k _ H (Same.refl H) rfl⟩
  | _ => cases q
end Fw
namespace Fw
open L2 PyProof.Rows PySem PySem.Spec
mutual
def py : D → Option PyData
  | .non => some .none
  | .bl b => some (.bool b)
  | .int i => some (.int i)
  | .str x => some (.str x)
  | .tup ds => (pyL ds).map PyData.tuple
  | .lst ds => (pyL ds).map PyData.list
  | _ => none
def pyL : List D → Option (List PyData)
  | [] => some []
  | d :: ds => match py d with
    | some p => (match pyL ds with
      | some ps => some (p :: ps)
      | none => none)
    | none => none
end
theorem py_tup (ds : List D) : py (.tup ds) = (pyL ds).map PyData.tuple := by rw [py]
theorem py_lst (ds : List D) : py (.lst ds) = (pyL ds).map PyData.list := by rw [py]
theorem pyL_cons (d : D) (ds : List D) : pyL (d :: ds) = match py d with
    | some p => (match pyL ds with
      | some ps => some (p :: ps)
      | none => none)
    | none => none := by rw [pyL]
theorem map_some {α β : Type} {f : α → β} {o : Option α} {b : β} (h : o.map f = some b) : ∃ a, o = some a ∧ b = f a := by
  cases o with
  | none => cases h
  | some a => exact ⟨a, rfl, (Option.some.inj h).symm⟩
theorem pyL_inv {d : D} {ds : List D} {ps : List PyData} (h : pyL (d :: ds) = some ps) : ∃ p qs, py d = some p ∧ pyL ds = some qs ∧ ps = p :: qs := by
  rw [pyL_cons] at h
  cases z : py d with
  | none => rw [z] at h; cases h
  | some p =>
    rw [z] at h
    cases z2 : pyL ds with
    | none => rw [z2] at h; cases h
    | some p2 => rw [z2] at h; exact ⟨p, p2, rfl, rfl, (Option.some.inj h).symm⟩
mutual
theorem R.dp {g : GC} {A : Addr → Prop} {H : Hp} : ∀ (d : D) (v : V) (p : PyData), R g A H d v → py d = some p → Dp g.K H v p
  | .non, v, p, r, q => by
    have e : PyData.none = p := Option.some.inj q
    rw [← e, show v = .non from r]; exact .non
  | .bl b, v, p, r, q => by
    have e : PyData.bool b = p := Option.some.inj q
    rw [← e, show v = .bl b from r]; exact .bl b
  | .int b, v, p, r, q => by
    have e : PyData.int b = p := Option.some.inj q
    rw [← e, show v = .int b from r]; exact .int b
  | .str b, v, p, r, q => by
    have e : PyData.str b = p := Option.some.inj q
    rw [← e, show v = .str b from r]; exact .str b
  | .tup ds, v, p, r, q => by
    obtain ⟨a, xs, e, h1, r⟩ := r
    rw [py_tup] at q
    obtain ⟨ps, z, e2⟩ := map_some q
    rw [e, e2]; exact .tup (SqT.of h1) (RL.dp ds xs ps r z)
  | .lst ds, v, p, r, q => by
    obtain ⟨a, xs, e, h1, n, r⟩ := r
    rw [py_lst] at q
    obtain ⟨ps, z, e2⟩ := map_some q
    rw [e, e2]; exact .lst (SqL.of h1) (RL.dp ds xs ps r z)
  | .ty _, _, _, _, q => by exact nomatch (show (none : Option PyData) = some _ from q)
  | .obj _ _, _, _, _, q => by exact nomatch (show (none : Option PyData) = some _ from q)
  | .scr _, _, _, _, q => by exact nomatch (show (none : Option PyData) = some _ from q)
  | .ktu _, _, _, _, q => by exact nomatch (show (none : Option PyData) = some _ from q)
  | .dct _ _, _, _, _, q => by exact nomatch (show (none : Option PyData) = some _ from q)
  | .dtt _ _, _, _, _, q => by exact nomatch (show (none : Option PyData) = some _ from q)
  | .exn _ _, _, _, _, q => by exact nomatch (show (none : Option PyData) = some _ from q)
theorem RL.dp {g : GC} {A : Addr → Prop} {H : Hp} : ∀ (ds : List D) (vs : List V) (ps : List PyData), RL g A H ds vs → pyL ds = some ps → DpAll g.K H vs ps
  | [], vs, ps, r, q => by
    have e : ([] : List PyData) = ps := Option.some.inj q
    rw [← e, show vs = [] from r]; exact .nil
  | d :: ds, vs, ps, r, q => by
    obtain ⟨y, ys, e, r, t⟩ := r
    obtain ⟨p, qs, z, z2, e2⟩ := pyL_inv q
    rw [e, e2]; exact .cons (R.dp d y p r z) (RL.dp ds ys qs t z2)
end
theorem Rt.dp {g : GC} {A : Addr → Prop} {H : Hp} (d : D) (v : V) (p : PyData) (r : Rt g A H d v) (q : py d = some p) : Dp g.K H v p := by
  cases d with
  | lst ds =>
    obtain ⟨a, xs, e, h1, r⟩ := r
    rw [py_lst] at q
    obtain ⟨ps, z, e2⟩ := map_some q
    rw [e, e2]; exact .lst (SqL.of h1) (RL.dp ds xs ps r z)
  | non => exact R.dp (A := A) _ v p r q
  | bl _ => exact R.dp (A := A) _ v p r q
  | int _ => exact R.dp (A := A) _ v p r q
  | str _ => exact R.dp (A := A) _ v p r q
  | ty _ => exact R.dp (A := A) _ v p r q
  | tup _ => exact R.dp (A := A) _ v p r q
  | obj _ _ => exact nomatch (show (none : Option PyData) = some _ from q)
  | scr _ => exact R.dp (A := A) _ v p r q
  | ktu _ => exact R.dp (A := A) _ v p r q
  | dct _ _ => exact nomatch (show (none : Option PyData) = some _ from q)
  | dtt _ _ => exact nomatch (show (none : Option PyData) = some _ from q)
  | exn _ _ => exact R.dp (A := A) _ v p r q
def eqData (d1 d2 : D) : Option Bool := match py d1 with
  | some p => (match py d2 with
    | some q => (if SeqAt.shaped p = true ∧ SeqAt.shaped q = true then some (PyData.eqv p q) else none)
    | none => none)
  | none => none
def sEq : D → D → Option Bool
  | .int i, .int j => some (decide (i = j))
  | .str i, .str j => some (decide (i = j))
  | .bl i, .bl j => some (decide (i = j))
  | _, _ => none
def bEq (d1 d2 : D) : Option Bool := match sEq d1 d2 with
  | some b => some b
  | none => eqData d1 d2
def dEq (d1 d2 : D) : Option D := (bEq d1 d2).map D.bl
def dNe (d1 d2 : D) : Option D := (bEq d1 d2).map fun b => D.bl (!b)
abbrev rEqAll (K : PySem.W.Frag) : R2 := fun x y H Q => rEq x y H Q ∨ rEqD K x y H Q
abbrev rNeAll (K : PySem.W.Frag) : R2 := fun x y H Q => rNe x y H Q ∨ rNeD K x y H Q
theorem or_eq {X : Cx} (hu : X.A.units + 64 < cLine) : OpR X (compareOp .Eq) (rEqAll X.K) := OpR.or op_eq (op_eqD hu)
theorem or_ne {X : Cx} (hu : X.A.units + 64 < cLine) : OpR X (compareOp .NotEq) (rNeAll X.K) := OpR.or op_ne (op_neD hu)
theorem sEq_cases {d1 d2 : D} {b : Bool} (q : sEq d1 d2 = some b) : (∃ i j, d1 = .int i ∧ d2 = .int j ∧ b = decide (i = j)) ∨ (∃ i j, d1 = .str i ∧ d2 = .str j ∧ b = decide (i = j)) ∨ (∃ i j, d1 = .bl i ∧ d2 = .bl j ∧ b = decide (i = j)) := by
  cases d1 with
  | int i => cases d2 with
    | int j => cases q; exact .inl ⟨_, _, rfl, rfl, rfl⟩
    | _ => cases q
  | str i => cases d2 with
    | str j => cases q; exact .inr (.inl ⟨_, _, rfl, rfl, rfl⟩)
    | _ => cases q
  | bl i => cases d2 with
    | bl j => cases q; exact .inr (.inr ⟨_, _, rfl, rfl, rfl⟩)
    | _ => cases q
  | _ => cases d2 <;> cases q
theorem eq_cases {d1 d2 : D} {b : Bool} (q : bEq d1 d2 = some b) : ((∃ i j, d1 = .int i ∧ d2 = .int j ∧ b = decide (i = j)) ∨ (∃ i j, d1 = .str i ∧ d2 = .str j ∧ b = decide (i = j)) ∨ (∃ i j, d1 = .bl i ∧ d2 = .bl j ∧ b = decide (i = j))) ∨
    ∃ p p', py d1 = some p ∧ py d2 = some p' ∧ SeqAt.shaped p = true ∧ SeqAt.shaped p' = true ∧ b = PyData.eqv p p' := by
  unfold bEq at q
  cases z : sEq d1 d2 with
  | some c => rw [z] at q; cases q; exact .inl (sEq_cases z)
  | none =>
    rw [z] at q
    have q : eqData d1 d2 = some b := q
    unfold eqData at q
    cases z1 : py d1 with
    | none => rw [z1] at q; cases q
    | some p =>
      rw [z1] at q
      cases z2 : py d2 with
      | none => rw [z2] at q; cases q
      | some p' =>
        rw [z2] at q
        have q : (if SeqAt.shaped p = true ∧ SeqAt.shaped p' = true then some (PyData.eqv p p') else none) = some b := q
        by_cases hs : SeqAt.shaped p = true ∧ SeqAt.shaped p' = true
        · rw [if_pos hs] at q; cases q; exact .inr ⟨p, p', rfl, rfl, hs.1, hs.2, rfl⟩
        · rw [if_neg hs] at q; cases q
theorem dec_of {α β : Type} [DecidableEq α] [DecidableEq β] (c : α → β) (inj : ∀ a b, c a = c b → a = b) (i j : α) : decide (c i = c j) = decide (i = j) := by
  by_cases h : i = j
  · subst h; simp
  · rw [decide_eq_false h, decide_eq_false (fun z => h (inj _ _ z))]
theorem os_eq {g : GC} : OS g (rEqAll g.K) dEq := fun A H d1 d2 d v1 v2 Q al r1 r2 q k => by
  unfold dEq at q
  cases z : bEq d1 d2 with
  | none => rw [z] at q; cases q
  | some b =>
    rw [z] at q; cases q
    rcases eq_cases z with (⟨i, j, rfl, rfl, rfl⟩ | ⟨i, j, rfl, rfl, rfl⟩ | ⟨i, j, rfl, rfl, rfl⟩) | ⟨p, p', e1, e2, s1, s2, rfl⟩
    · obtain rfl : v1 = .int i := r1; obtain rfl : v2 = .int j := r2
      exact .inl ⟨rfl, k _ H (Same.refl H) (by show V.bl _ = V.bl _; rw [dec_of V.int (fun _ _ z => by injection z) i j])⟩
    · obtain rfl : v1 = .str i := r1; obtain rfl : v2 = .str j := r2
      exact .inl ⟨rfl, k _ H (Same.refl H) (by show V.bl _ = V.bl _; rw [dec_of V.str (fun _ _ z => by injection z) i j])⟩
    · obtain rfl : v1 = .bl i := r1; obtain rfl : v2 = .bl j := r2
      exact .inl ⟨rfl, k _ H (Same.refl H) (by show V.bl _ = V.bl _; rw [dec_of V.bl (fun _ _ z => by injection z) i j])⟩
    · exact .inr ⟨p, p', Rt.dp d1 _ _ r1 e1, Rt.dp d2 _ _ r2 e2, s1, s2, k _ H (Same.refl H) rfl⟩
theorem os_ne {g : GC} : OS g (rNeAll g.K) dNe := fun A H d1 d2 d v1 v2 Q al r1 r2 q k => by
  unfold dNe at q
  cases z : bEq d1 d2 with
  | none => rw [z] at q; cases q
  | some b =>
    rw [z] at q; cases q
    rcases eq_cases z with (⟨i, j, rfl, rfl, rfl⟩ | ⟨i, j, rfl, rfl, rfl⟩ | ⟨i, j, rfl, rfl, rfl⟩) | ⟨p, p', e1, e2, s1, s2, rfl⟩
    · obtain rfl : v1 = .int i := r1; obtain rfl : v2 = .int j := r2
      exact .inl ⟨rfl, k _ H (Same.refl H) (by show V.bl _ = V.bl _; rw [dec_of V.int (fun _ _ z => by injection z) i j])⟩
    · obtain rfl : v1 = .str i := r1; obtain rfl : v2 = .str j := r2
      exact .inl ⟨rfl, k _ H (Same.refl H) (by show V.bl _ = V.bl _; rw [dec_of V.str (fun _ _ z => by injection z) i j])⟩
    · obtain rfl : v1 = .bl i := r1; obtain rfl : v2 = .bl j := r2
      exact .inl ⟨rfl, k _ H (Same.refl H) (by show V.bl _ = V.bl _; rw [dec_of V.bl (fun _ _ z => by injection z) i j])⟩
    · exact .inr ⟨p, p', Rt.dp d1 _ _ r1 e1, Rt.dp d2 _ _ r2 e2, s1, s2, k _ H (Same.refl H) rfl⟩
end Fw
namespace Fw
open L2 PyProof.Rows PySem PySem.Spec
def dTru : D → Option Bool
  | .non => some false
  | .bl b => some b
  | .int i => some (i != 0)
  | .str x => if x.length ≤ 1000000 then some ((x.length : Int) != 0) else none
  | .lst xs => some (!xs.isEmpty)
  | .tup xs => some (!xs.isEmpty)
  | _ => none
theorem RL.isEmpty {g : GC} {A : Addr → Prop} {H : Hp} {ds : List D} {xs : List V} (r : RL g A H ds xs) : xs.isEmpty = ds.isEmpty := by
  cases ds with
  | nil => rw [show xs = [] from r]; rfl
  | cons d ds => obtain ⟨y, ys, e, _⟩ := r; rw [e]; rfl
theorem Rt.tru {g : GC} {A : Addr → Prop} {H : Hp} {d : D} {v : V} {b : Bool} (r : Rt g A H d v) (q : dTru d = some b) : TruV g.K v H b := by
  cases d with
  | non => rw [show v = .non from r]; cases q; rfl
  | bl c => rw [show v = .bl c from r]; cases q; rfl
  | int c => rw [show v = .int c from r]; cases q; rfl
  | str c =>
    rw [show v = .str c from r]
    simp only [dTru] at q
    by_cases h : c.length ≤ 1000000
    · rw [if_pos h] at q; cases q; exact ⟨Nat.le_trans h million, rfl⟩
    · rw [if_neg h] at q; cases q
  | lst ds =>
    obtain ⟨a, xs, e, h1, r⟩ := r
    rw [e]; cases q
    exact .inl ⟨xs, SqL.of h1, by rw [RL.isEmpty r]⟩
  | tup ds =>
    obtain ⟨a, xs, e, h1, r⟩ := r
    rw [e]; cases q
    exact .inr (.inl ⟨xs, SqT.of h1, by rw [RL.isEmpty r]⟩)
  | _ => exact nomatch (show (none : Option Bool) = some b from q)
def mTru (a : Od) : M Bool := mO1 a fun d => mo (dTru d)
def mAnd (a b : M Bool) : M Bool := mb a fun c => if c = true then b else mp false
def mOr (a b : M Bool) : M Bool := mb a fun c => if c = true then mp true else b
def mNot (a : M Bool) : M Bool := mb a fun c => mp (!c)
def mIf {α : Type} (c : M Bool) (a b : M α) : M α := mb c fun c => if c = true then a else b
section
variable {g : GC} {X : Cx} {W : WK} {a b c : Expr} {rest : List Expr} {pos : Pos}
theorem ct_tru {m : Od} (h : CO g X W a m) (hK : X.K = g.K) (he : ∀ whole, isTrue a X.env whole = (do let v ← whole; standAt a.pos; holding [v] (truthy v))) : CT g X W a (mTru m) :=
  PT.imp (pt_truth h he) fun σ H Q ⟨f, A, e, F, h⟩ => Fin.b1 h F fun d1 e1 v1 H1 F1 S1 R1 h1 => by
    obtain ⟨b, q, h3⟩ := Fin.mo h1
    exact ⟨b, by rw [hK]; exact Rt.tru R1 q, h3 H1 F1 S1⟩
abbrev CW (g : GC) (X : Cx) (W : WK) (e : Expr) (m : M Bool) : Prop := PW X e (rdT g W m)
theorem PW.imp {X : Cx} {e : Expr} {t u : TT} (h : PW X e t) (i : ∀ σ H Q, u σ H Q → t σ H Q) : PW X e u := ⟨fun wh pins s σ H Q I q => h.run wh pins s σ H Q I (i _ _ _ q)⟩
theorem cw_and1 {m : M Bool} (h : CT g X W a m) : CW g X W (.BoolOp .And [a] pos) m := pw_and1 h
theorem cw_or1 {m : M Bool} (h : CT g X W a m) : CW g X W (.BoolOp .Or [a] pos) m := pw_or1 h
theorem t_and {m m' : M Bool} : ∀ σ H Q, rdT g W (mAnd m m') σ H Q → tAnd (rdT g W m) (rdT g W m') σ H Q := fun σ H Q ⟨f, A, e, F, h⟩ => by
  refine Fin.bT h F fun d e1 H1 F1 S1 h1 => ?_
  cases d with
  | true => exact ⟨f, A, e1, F1, by
      rw [if_pos rfl] at h1
      generalize m' e1 = r at h1
      cases r with
      | ok b e2 => exact fun H2 F2 S2 => h1 H2 F2 (S1.trans S2)
      | exc c d e2 => exact h1
      | bad => exact h1⟩
  | false => exact h1 H1 F1 S1
theorem t_or {m m' : M Bool} : ∀ σ H Q, rdT g W (mOr m m') σ H Q → tOr (rdT g W m) (rdT g W m') σ H Q := fun σ H Q ⟨f, A, e, F, h⟩ => by
  refine Fin.bT h F fun d e1 H1 F1 S1 h1 => ?_
  cases d with
  | false => exact ⟨f, A, e1, F1, by
      rw [if_neg Bool.false_ne_true] at h1
      generalize m' e1 = r at h1
      cases r with
      | ok b e2 => exact fun H2 F2 S2 => h1 H2 F2 (S1.trans S2)
      | exc c d e2 => exact h1
      | bad => exact h1⟩
  | true => exact h1 H1 F1 S1
theorem cw_and {m m' : M Bool} (ha : CT g X W a m) (hb : CW g X W (.BoolOp .And (b :: rest) pos) m') : CW g X W (.BoolOp .And (a :: b :: rest) pos) (mAnd m m') := PW.imp (pw_and ha hb) t_and
theorem cw_or {m m' : M Bool} (ha : CT g X W a m) (hb : CW g X W (.BoolOp .Or (b :: rest) pos) m') : CW g X W (.BoolOp .Or (a :: b :: rest) pos) (mOr m m') := PW.imp (pw_or ha hb) t_or
theorem ct_w {m : M Bool} (h : CW g X W a m) : CT g X W a m := PW.pt h
theorem ct_not {m : M Bool} (h : CT g X W a m) : CT g X W (.UnaryOp .Not a pos) (mNot m) := PT.imp (pt_not h) fun σ H Q ⟨f, A, e, F, h⟩ =>
  Fin.bT h F fun d e1 H1 F1 S1 h1 => h1 H1 F1 S1
theorem rdE_go {f : Fx} {A : Addr → Prop} {σ : Sv} {H H1 : Hp} {e : Ev} {m : M D} {Q : VK} (F1 : FR g f A H1 σ e) (S1 : Step A H H1)
    (h : Fin g W f A σ H1 (fun d e' => ∀ v H', FR g f A H' σ e' → Step A H H' → R g A H' d v → Q v H') (m e)) : rdE g W m σ H1 Q := ⟨f, A, e, F1, by
  generalize m e = r at h
  cases r with
  | ok b e2 => exact fun v H2 F2 S2 r => h v H2 F2 (S1.trans S2) r
  | exc c d e2 => exact h
  | bad => exact h⟩
theorem rdF_go {f : Fx} {A : Addr → Prop} {σ : Sv} {H H1 : Hp} {e : Ev} {m : M (List D)} {Q : VK} (F1 : FR g f A H1 σ e) (S1 : Step A H H1)
    (h : Fin g W f A σ H1 (fun ds e' => ∀ p xs H', FR g f A H' σ e' → FR g f (add1 A p) H' σ e' → ¬ A p → Step A H H' → H p = none → H' p = some (.lst xs) → RL g (add1 A p) H' ds xs → Q (.ref p) H') (m e)) : rdF g W m σ H1 Q := ⟨f, A, e, F1, by
  generalize m e = r at h
  cases r with
  | ok b e2 => exact fun p xs H2 F2 F3 n S2 hn r => h p xs H2 F2 F3 n (S1.trans S2) (by
      cases z : H p with
      | none => rfl
      | some o => obtain ⟨o', q⟩ := S1.un p o z; rw [hn] at q; cases q) r
  | exc c d e2 => exact h
  | bad => exact h⟩
theorem c_if {mc : M Bool} {ma mb' : M D} (hc : CT g X W c mc) (ha : CE g X W a ma) (hb : CE g X W b mb') : CE g X W (.IfExp c a b pos) (mIf mc ma mb') := PE.imp (pe_ifExp hc ha hb) fun σ H Q ⟨f, A, e, F, h⟩ => by
  refine Fin.bT h F fun d e1 H1 F1 S1 h1 => ?_
  cases d with
  | true => rw [if_pos rfl]; rw [if_pos rfl] at h1; exact rdE_go F1 S1 h1
  | false => rw [if_neg Bool.false_ne_true]; rw [if_neg Bool.false_ne_true] at h1; exact rdE_go F1 S1 h1
theorem cf_if {mc : M Bool} {ma mb' : M (List D)} (hc : CT g X W c mc) (ha : CF g X W a ma) (hb : CF g X W b mb') : CF g X W (.IfExp c a b pos) (mIf mc ma mb') := PE.imp (pe_ifExp hc ha hb) fun σ H Q ⟨f, A, e, F, h⟩ => by
  refine Fin.bT h F fun d e1 H1 F1 S1 h1 => ?_
  cases d with
  | true => rw [if_pos rfl]; rw [if_pos rfl] at h1; exact rdF_go F1 S1 h1
  | false => rw [if_neg Bool.false_ne_true]; rw [if_neg Bool.false_ne_true] at h1; exact rdF_go F1 S1 h1
def mFr (m : M (List D)) : M D := mb m fun ds => mp (.lst ds)
theorem c_fr {m : M (List D)} (h : CF g X W a m) : CE g X W a (mFr m) := PE.imp h fun σ H Q ⟨f, A, e, F, h⟩ =>
  Fin.bF h F fun ds e1 p xs H1 F1 F2 n S1 hn hp r h1 => h1 _ H1 F1 S1 ⟨p, xs, rfl, hp, n, RL.mono ⟨F2.al, fun _ _ q _ => q, fun _ _ z _ => .inl z⟩ ds r⟩
def mAndV (a b : M D) : M D := mb a fun x => mb (mo (dTru x)) fun c => if c = true then b else mp x
def mOrV (a b : M D) : M D := mb a fun x => mb (mo (dTru x)) fun c => if c = true then mp x else b
def mNotV (a : Od) : M D := mO1 a fun x => mb (mo (dTru x)) fun c => mp (.bl (!c))
theorem c_one {op : BoolOp} {m : M D} (h : CE g X W a m) : CE g X W (.BoolOp op [a] pos) m := pe_one h
theorem c_and {m m' : M D} (hK : X.K = g.K) (ha : CE g X W a m) (hb : CE g X W (.BoolOp .And (b :: rest) pos) m') : CE g X W (.BoolOp .And (a :: b :: rest) pos) (mAndV m m') := PE.imp (pe_andT ha hb) fun σ H Q ⟨f, A, e, F, h⟩ => by
  refine Fin.bE h F fun d1 e1 v1 H1 F1 S1 R1 h1 => ?_
  obtain ⟨k, q, h2⟩ := Fin.mo2 h1
  refine ⟨k, by rw [hK]; exact Rt.tru R1.rt q, ?_⟩
  cases k with
  | true => rw [if_pos rfl]; rw [if_pos rfl] at h2; exact rdE_go F1 S1 h2
  | false => rw [if_neg Bool.false_ne_true]; rw [if_neg Bool.false_ne_true] at h2; exact h2 v1 H1 F1 S1 R1
theorem c_or {m m' : M D} (hK : X.K = g.K) (ha : CE g X W a m) (hb : CE g X W (.BoolOp .Or (b :: rest) pos) m') : CE g X W (.BoolOp .Or (a :: b :: rest) pos) (mOrV m m') := PE.imp (pe_orT ha hb) fun σ H Q ⟨f, A, e, F, h⟩ => by
  refine Fin.bE h F fun d1 e1 v1 H1 F1 S1 R1 h1 => ?_
  obtain ⟨k, q, h2⟩ := Fin.mo2 h1
  refine ⟨k, by rw [hK]; exact Rt.tru R1.rt q, ?_⟩
  cases k with
  | false => rw [if_neg Bool.false_ne_true]; rw [if_neg Bool.false_ne_true] at h2; exact rdE_go F1 S1 h2
  | true => rw [if_pos rfl]; rw [if_pos rfl] at h2; exact h2 v1 H1 F1 S1 R1
theorem c_not {m : Od} (hK : X.K = g.K) (ha : CO g X W a m) : CE g X W (.UnaryOp .Not a pos) (mNotV m) := PE.imp (pe_notT ha) fun σ H Q ⟨f, A, e, F, h⟩ => Fin.b1 h F fun d1 e1 v1 H1 F1 S1 R1 h1 => by
  obtain ⟨k, q, h2⟩ := Fin.mo2 h1
  exact ⟨k, by rw [hK]; exact Rt.tru R1 q, h2 _ H1 F1 S1 rfl⟩
theorem c_chain {op op' : CmpOp} {r r' : R2} {o o' : D → D → Option D} {ma mb' mc : Od} (hr : OpR X (compareOp op) r) (hr' : OpR X (compareOp op') r') (ho : OS g r o) (ho' : OS g r' o') (ha : CO g X W a ma) (hb : CO g X W b mb') (hc : CO g X W c mc) (hm : lastMarks [op, op'] [b, c] = false)
    (hflat : ∀ x y d, o x y = some d → ∀ A A' H H' v, Rt g A H y v → Rt g A' H' y v) : CE g X W (.Compare a [op, op'] [b, c] pos) (mChain o o' ma mb' mc) :=
  PE.imp (pe_chain hr hr' ha hb hc hm) fun σ H Q ⟨f, A, e, F, h⟩ => Fin.b2 h F fun d1 d2 e2 v1 v2 H2 F2 S2 R1 R2 h2 => by
    obtain ⟨k, q, h3⟩ := Fin.mo2 h2
    cases z : o d1 d2 with
    | none => rw [z] at q; cases q
    | some d =>
      rw [z] at q
      refine ho A H2 d1 d2 d v1 v2 _ F2.al R1 R2 z fun v H3 s r => ?_
      cases d with
      | bl c =>
        cases q
        refine ⟨_, r, ?_⟩
        cases k with
        | true =>
          rw [if_pos rfl]
          have h4 : Fin g W f A σ H2 _ (mO1 mc (fun z => mo (o' d2 z)) e2) := h3
          refine Fin.b1 (h4.from (.of s)) (F2.same s) fun d3 e3 v3 H4 F4 S4 R3 h5 => ?_
          obtain ⟨d', q', h6⟩ := Fin.mo h5
          exact ho' A H4 d2 d3 d' v2 v3 Q F4.al (hflat d1 d2 _ z A A H2 H4 v2 R2) R3 q' fun v H5 s5 r5 => h6 v H5 (F4.same s5) (S2.trans ((Step.of s).trans (S4.trans (.of s5)))) r5
        | false =>
          rw [if_neg Bool.false_ne_true]
          exact h3 _ H3 (F2.same s) (S2.trans (.of s)) rfl
      | _ => cases q
theorem flatI {h : Int → Int → Option D} : ∀ x y d, dI h x y = some d → ∀ A A' H H' v, Rt g A H y v → Rt g A' H' y v := fun x y d q A A' H H' v r => by
  cases x with
  | int i => cases y with
    | int j => exact r
    | _ => cases q
  | _ => cases q
def mNil : M (List D) := mp []
def mCons (a : M D) (b : M (List D)) : M (List D) := mb a fun x => mb b fun y => mp (x :: y)
theorem ca_nil : CA g X W [] mNil := PA.imp pa_nil fun σ H Q ⟨f, A, e, F, h⟩ => h [] H F .refl rfl
theorem ca_cons {es : List Expr} {m : M D} {m' : M (List D)} (ha : CE g X W a m) (hr : CA g X W es m') (hs : starEach (a :: es) X.env = (false, eval a X.env) :: starEach es X.env := by rfl) : CA g X W (a :: es) (mCons m m') :=
  PA.imp (pa_cons ha hr hs) fun σ H Q ⟨f, A, e, F, h⟩ => by
    refine Fin.bE h F fun d1 e1 v1 H1 F1 S1 R1 h1 => ?_
    refine Fin.bA h1 F1 fun d2 e2 v2 H2 F2 S2 R2 h2 => ?_
    exact h2 (v1 :: v2) H2 F2 (S1.trans S2) ⟨v1, v2, rfl, F1.r S2 R1, R2⟩
def mTup (m : M (List D)) : M D := mb m fun ds => if ds.length ≤ 1000000 then mp (.tup ds) else fun _ => .bad
theorem Fin.ite {β : Type} {f : Fx} {A : Addr → Prop} {σ : Sv} {H : Hp} {ok : β → Ev → Prop} {e : Ev} {p : Prop} [Decidable p] {m : M β} (h : Fin g W f A σ H ok ((if p then m else fun _ => .bad) e)) : p ∧ Fin g W f A σ H ok (m e) := by
  by_cases q : p
  · rw [if_pos q] at h; exact ⟨q, h⟩
  · rw [if_neg q] at h; exact h.elim
theorem c_tup {es : List Expr} {m : M (List D)} {x1} (h : CA g X W es m) : CE g X W (.Tuple es x1 pos) (mTup m) := PE.imp (pe_tup h) fun σ H Q ⟨f, A, e, F, h⟩ => by
  refine Fin.bA h F fun d1 e1 v1 H1 F1 S1 R1 h1 => ?_
  obtain ⟨z, h2⟩ := Fin.ite h1
  refine ⟨by rw [RL.length R1]; exact Nat.le_trans z million, fun p hp => ?_⟩
  exact h2 _ _ (F1.same (Same.new hp)) (S1.trans (.of (Same.new hp))) ⟨p, v1, rfl, upd_same, RL.mono (Mono.same F1.al (Same.new hp)) d1 R1⟩
def mLst (m : M (List D)) : M (List D) := mb m fun ds => if ds.length ≤ 1000000 then mp ds else fun _ => .bad
theorem FR.none_of {f : Fx} {A : Addr → Prop} {H H1 : Hp} {p : Addr} (S1 : Step A H H1) (hp : H1 p = none) : H p = none := by
  cases z : H p with
  | none => rfl
  | some o => obtain ⟨o', q⟩ := S1.un p o z; rw [hp] at q; cases q
theorem cf_lst {es : List Expr} {m : M (List D)} (h : CA g X W es m) : CF g X W (.List es pos) (mLst m) := PE.imp (pe_lst h) fun σ H Q ⟨f, A, e, F, h⟩ => by
  refine Fin.bA h F fun d1 e1 v1 H1 F1 S1 R1 h1 => ?_
  obtain ⟨z, h2⟩ := Fin.ite h1
  refine ⟨by rw [RL.length R1]; exact Nat.le_trans z million, fun p hp => ?_⟩
  exact h2 p v1 _ (F1.same (Same.new hp)) (F1.new hp) (F1.nA hp) (S1.trans (.of (Same.new hp))) (FR.none_of (f := f) S1 hp) upd_same (RL.mono (Mono.new F1 hp) d1 R1)
def rdOs (g : GC) (W : WK) : List Od → TA
  | [] => tNil
  | o :: os => tCons (rdO g W o) (rdOs g W os)
abbrev COs (g : GC) (X : Cx) (W : WK) (es : List Expr) (os : List Od) : Prop := PA X es (rdOs g W os)
theorem co_nil : COs g X W [] [] := pa_nil
theorem co_cons {es : List Expr} {o : Od} {os : List Od} (ha : CO g X W a o) (hr : COs g X W es os) (hs : starEach (a :: es) X.env = (false, eval a X.env) :: starEach es X.env := by rfl) : COs g X W (a :: es) (o :: os) := pa_cons ha hr hs
def mA1 : List Od → M (List (Sum D Nat))
  | [] => mp []
  | .e m :: os => mb m fun d => mb (mA1 os) fun r => mp (.inl d :: r)
  | .n i :: os => mb (mN i) fun _ => mb (mA1 os) fun r => mp (.inr i :: r)
def mRes : List (Sum D Nat) → M (List D)
  | [] => mp []
  | .inl d :: r => mb (mRes r) fun ds => mp (d :: ds)
  | .inr i :: r => mb (mN i) fun d => mb (mRes r) fun ds => mp (d :: ds)
def mAs (os : List Od) : M (List D) := mb (mA1 os) mRes
def PL (g : GC) (A : Addr → Prop) (H : Hp) (σ : Sv) : List (Sum D Nat) → List V → Prop
  | [], vs => vs = []
  | .inl d :: r, vs => ∃ y ys, vs = y :: ys ∧ R g A H d y ∧ PL g A H σ r ys
  | .inr i :: r, vs => ∃ y ys, vs = y :: ys ∧ σ[i]? = some (some y) ∧ PL g A H σ r ys
theorem mb_assoc {α β γ : Type} (m : M α) (k : α → M β) (l : β → M γ) : mb (mb m k) l = mb m fun x => mb (k x) l := by
  funext e
  unfold mb
  cases m e <;> rfl
section
variable {f : Fx} {A : Addr → Prop} {σ : Sv} {β : Type} {ok : β → Ev → Prop}
theorem bAs1 : ∀ (os : List Od) {H : Hp} {e : Ev} {k : List (Sum D Nat) → M β} {G : List V → Hp → Prop}, Fin g W f A σ H ok (mb (mA1 os) k e) → FR g f A H σ e →
    (∀ ps e1 vs H1, FR g f A H1 σ e1 → Step A H H1 → PL g A H1 σ ps vs → Fin g W f A σ H1 ok (k ps e1) → G vs H1) → rdOs g W os σ H G
  | [], H, e, k, G, h, F, go => go [] e [] H F .refl rfl h
  | .e m :: os, H, e, k, G, h, F, go => by
    unfold mA1 at h
    rw [mb_assoc] at h
    refine Fin.bE h F fun d1 e1 v1 H1 F1 S1 R1 h1 => ?_
    rw [mb_assoc] at h1
    exact bAs1 os h1 F1 fun ps e2 vs H2 F2 S2 p2 h2 => go (.inl d1 :: ps) e2 (v1 :: vs) H2 F2 (S1.trans S2) ⟨v1, vs, rfl, F1.r S2 R1, p2⟩ h2
  | .n i :: os, H, e, k, G, h, F, go => by
    unfold mA1 at h
    rw [mb_assoc] at h
    obtain ⟨d, v1, hv, _, h1⟩ := Fin.bN h F
    rw [mb_assoc] at h1
    exact ⟨v1, hv, bAs1 os h1 F fun ps e2 vs H2 F2 S2 p2 h2 => go (.inr i :: ps) e2 (v1 :: vs) H2 F2 S2 ⟨v1, vs, rfl, hv, p2⟩ h2⟩
theorem bRes : ∀ (ps : List (Sum D Nat)) {H : Hp} {e : Ev} {k : List D → M β} {vs : List V}, Fin g W f A σ H ok (mb (mRes ps) k e) → FR g f A H σ e → PL g A H σ ps vs → ∃ ds, RtL g A H ds vs ∧ Fin g W f A σ H ok (k ds e)
  | [], H, e, k, vs, h, F, p => ⟨[], p, h⟩
  | .inl d :: r, H, e, k, vs, h, F, ⟨y, ys, e1, r1, p⟩ => by
    unfold mRes at h
    rw [mb_assoc] at h
    obtain ⟨ds, r2, h2⟩ := bRes r h F p
    exact ⟨d :: ds, ⟨y, ys, e1, r1.rt, r2⟩, h2⟩
  | .inr i :: r, H, e, k, vs, h, F, ⟨y, ys, e1, r1, p⟩ => by
    unfold mRes at h
    rw [mb_assoc] at h
    obtain ⟨d, v, hv, rt, h1⟩ := Fin.bN h F
    rw [mb_assoc] at h1
    obtain ⟨ds, r2, h2⟩ := bRes r h1 F p
    rw [hv] at r1; cases r1
    exact ⟨d :: ds, ⟨_, ys, e1, rt, r2⟩, h2⟩
theorem Fin.bAs {os : List Od} {H : Hp} {e : Ev} {k : List D → M β} {G : List V → Hp → Prop} (h : Fin g W f A σ H ok (mb (mAs os) k e)) (F : FR g f A H σ e)
    (go : ∀ ds e1 vs H1, FR g f A H1 σ e1 → Step A H H1 → RtL g A H1 ds vs → Fin g W f A σ H1 ok (k ds e1) → G vs H1) : rdOs g W os σ H G := by
  unfold mAs at h
  rw [mb_assoc] at h
  refine bAs1 os h F fun ps e1 vs H1 F1 S1 p1 h1 => ?_
  obtain ⟨ds, r, h2⟩ := bRes ps h1 F1 p1
  exact go ds e1 vs H1 F1 S1 r h2
end
def mCB (op : List D → Option D) (os : List Od) : M D := mb (mAs os) fun ds => mo (op ds)
def mCF (op : List D → Option (List D)) (os : List Od) : M (List D) := mb (mAs os) fun ds => mo (op ds)
theorem t_cb {r : List V → Hp → VK → Prop} {op : List D → Option D} {m : List Od} (ho : LS g r op) : ∀ σ H Q, rdE g W (mCB op m) σ H Q → tCB r (rdOs g W m) σ H Q := fun σ H Q ⟨f, A, e, F, h⟩ =>
  Fin.bAs h F fun d1 e1 v1 H1 F1 S1 R1 h1 => by
    obtain ⟨d, q, h2⟩ := Fin.mo h1
    exact ho A H1 d1 d v1 Q F1.al R1 q fun v H2 s r => h2 v H2 (F1.same s) (S1.trans (.of s)) r
theorem FR.new' {f : Fx} {A : Addr → Prop} {H H' : Hp} {σ : Sv} {e : Ev} (F : FR g f A H σ e) {p : Addr} {xs : List V} (h : H p = none) (s : Same H H') (hp : H' p = some (.lst xs)) : FR g f (add1 A p) H' σ e :=
  F.ext s (fun _ z => .inl z) (fun a o z q => z.elim id fun z => by rw [z, h] at q; cases q) (fun a z n => z.elim (fun z => absurd z n) fun z => ⟨.lst xs, by rw [z]; exact hp, rfl⟩)
section
variable {id : String} {r : List V → Hp → VK → Prop} {x : Str} {es : List Expr} {op : List D → Option D} {opf : List D → Option (List D)} {m : List Od} {p : Pos}
theorem c_cb (hc : CallR X (.builtin id) r) (ho : LS g r op) (hg : Gl X x) (hm : X.mg x = none) (hv : bootBuiltins x = some (.builtin id)) (ha : COs g X W (a :: es) m)
    (hn : x ≠ "__name__") (hdb : (x == ("__debug__" : Str)) = false) (he : starEach (a :: es) X.env = (false, eval a X.env) :: starEach es X.env := by rfl) (hpl : (backTo pos (starEach es X.env)).any (·.1) = false := by rfl) : CE g X W (.Call (.Name x p) (a :: es) [] pos) (mCB op m) :=
  PE.imp (pe_callB hc hg hm hv ha hn hdb he hpl) (t_cb ho)
theorem c_ct (hc : CallR X (.type id) r) (ho : LS g r op) (hg : Gl X x) (hm : X.mg x = none) (hv : bootBuiltins x = some (.type id)) (ha : COs g X W (a :: es) m)
    (hn : x ≠ "__name__") (hdb : (x == ("__debug__" : Str)) = false) (he : starEach (a :: es) X.env = (false, eval a X.env) :: starEach es X.env := by rfl) (hpl : (backTo pos (starEach es X.env)).any (·.1) = false := by rfl) : CE g X W (.Call (.Name x p) (a :: es) [] pos) (mCB op m) :=
  PE.imp (pe_callTy hc hg hm hv ha hn hdb he hpl) (t_cb ho)
end
end
end Fw
namespace Fw
open L2 PyProof.Rows PySem PySem.Spec
def mSq (a b : M Fl) : M Fl := fun e => match a e with
  | .ok .nx e' => b e'
  | r => r
section
variable {g : GC} {X : Cx} {W : WK} {st : Stmt} {rest : List Stmt} {ex : Expr} {pos : Pos}
theorem cb_nil : CB g X W [] (mp .nx) := PSs.imp pss_nil fun D σ H ⟨f, A, e, F, h⟩ => h A σ H F (Mono.refl F.al)
theorem t_seq {a b : M Fl} : ∀ D σ H, rdS g W (mSq a b) D σ H → tSeq (rdS g W a) (rdS g W b) D σ H := fun D σ H ⟨f, A, e, F, h⟩ => by
  refine ⟨f, A, e, F, ?_⟩
  unfold mSq at h
  cases q : a e with
  | ok fl e1 =>
    rw [q] at h
    cases fl with
    | nx => exact fun A' σ' H' F' m => ⟨f, A', e1, F', h.from m⟩
    | bk => exact h
    | ct => exact h
    | rt d => exact h
    | rb d => exact h
  | exc c d e1 => rw [q] at h; exact h
  | bad => rw [q] at h; exact h
theorem cb_cons {a b : M Fl} (h1 : CS g X W st a) (h2 : CB g X W rest b) : CB g X W (st :: rest) (mSq a b) := PSs.imp (pss_cons h1 h2) t_seq
theorem cb_one {a : M Fl} (h1 : CS g X W st a) : CB g X W [st] a := pss_one h1
theorem cs_break : CS g X W (.Break pos) (mp .bk) := PS.imp ps_break fun D σ H ⟨f, A, e, F, h⟩ => h A σ H F (Mono.refl F.al)
theorem cs_bad : CS g X W st (fun _ => .bad) := PS.imp ps_never fun D σ H ⟨f, A, e, F, h⟩ => h
def mEx (m : M D) : M Fl := mb m fun _ => mp .nx
theorem cs_expr {m : M D} (h : CE g X W ex m) (hs : swapsWith ex none pos.line X.env = pure false := by rfl) : CS g X W (.Expr ex pos) (mEx m) := PS.imp (ps_expr h hs) fun D σ H ⟨f, A, e, F, h⟩ =>
  FinS.bE h F fun d e1 v H1 F1 S1 r h1 => h1 A σ H1 F1 (Mono.refl F1.al)
def mRet (m : M D) : M Fl := mb m fun d => mp (.rt d)
theorem cs_ret {m : M D} (h : CE g X W ex m) : CS g X W (.Return (some ex) pos) (mRet m) := PS.imp (ps_ret h) fun D σ H ⟨f, A, e, F, h⟩ =>
  FinS.bE h F fun d e1 v H1 F1 S1 r h1 => h1 A σ H1 v F1 (Mono.refl F1.al) r
theorem FR.h0 {f : Fx} {A : Addr → Prop} {H : Hp} {σ : Sv} {e : Ev} (F : FR g f A H σ e) {p : Addr} (h : H p = none) : f.H0 p = none := by
  cases z : f.H0 p with
  | none => rfl
  | some o =>
    have : H p = some o := F.keep p o z fun i q => F.nA h (F.ob p (F.pb i p q).1)
    rw [h] at this; cases this
theorem FR.boxA {f : Fx} {A : Addr → Prop} {H : Hp} {σ : Sv} {e : Ev} (F : FR g f A H σ e) {i : Nat} {s : Sl} {p : Addr} (h : e[i]? = some s) (hb : s.isBox = true) (hs : σ[i]? = some (some (.ref p))) : A p := by
  have q := F.sl i s _ h hs
  cases s with
  | emp => cases hb
  | val d => cases hb
  | box d => obtain ⟨_, p', e1, h1, _⟩ := q; cases e1; exact h1
  | pbox d => obtain ⟨p', _, e1, h1, _⟩ := q; cases e1; exact h1
def mRetF (m : M (List D)) : M Fl := mb m fun d => mp (.rb d)
theorem mono_new {f : Fx} {A : Addr → Prop} {H H1 : Hp} {σ : Sv} {e : Ev} (F : FR g f A H σ e) {p : Addr} (S1 : Step A H H1) (hn : H p = none) : Mono A H (add1 A p) H1 :=
  ⟨F.al, S1.st, fun a o z q => z.elim id fun z => by rw [z, hn] at q; cases q⟩
theorem cs_retF {m : M (List D)} (h : CF g X W ex m) : CS g X W (.Return (some ex) pos) (mRetF m) := PS.imp (ps_ret h) fun D σ H ⟨f, A, e, F, h⟩ =>
  FinS.bF h F fun ds e1 p xs H1 F1 F2 n S1 hn hp r h1 => h1 (add1 A p) σ H1 p xs F2 (mono_new F S1 hn) (.inr rfl) (F.h0 hn) (fun i s q hb hs => n (F1.boxA q hb hs)) hp r
theorem get_set {α : Type} {l : List α} {i j : Nat} {x y : α} (h : (l.set i x)[j]? = some y) : (i = j ∧ i < l.length ∧ y = x) ∨ (i ≠ j ∧ l[j]? = some y) := by
  by_cases q : i = j
  · subst q
    by_cases hl : i < l.length
    · rw [List.getElem?_set_self hl] at h; exact .inl ⟨rfl, hl, (Option.some.inj h).symm⟩
    · rw [List.getElem?_eq_none (by rw [List.length_set]; omega)] at h; cases h
  · rw [List.getElem?_set_ne q] at h; exact .inr ⟨q, h⟩
theorem FR.emp {f : Fx} {A : Addr → Prop} {H : Hp} {σ : Sv} {e : Ev} (F : FR g f A H σ e) {i : Nat} (h : f.pa i = none) : FR g f A H σ (e.set i .emp) where
  len := by rw [List.length_set]; exact F.len
  sl := fun j s o h1 h2 => by
    rcases get_set h1 with ⟨rfl, _, rfl⟩ | ⟨_, h1⟩
    · exact h
    · exact F.sl j s o h1 h2
  inj := fun a b s t p h1 h2 b1 b2 s1 s2 => by
    rcases get_set h1 with ⟨_, _, rfl⟩ | ⟨_, h1⟩
    · cases b1
    · rcases get_set h2 with ⟨_, _, rfl⟩ | ⟨_, h2⟩
      · cases b2
      · exact F.inj a b s t p h1 h2 b1 b2 s1 s2
  nt := fun a s p h1 b1 s1 => by
    rcases get_set h1 with ⟨_, _, rfl⟩ | ⟨_, h1⟩
    · cases b1
    · exact F.nt a s p h1 b1 s1
  tp := F.tp
  ob := F.ob
  ob0 := F.ob0
  pb := fun i p q => by rw [List.length_set]; exact F.pb i p q
  al := F.al
  keep := F.keep
theorem cs_if {c : Expr} {a b : List Stmt} {mc : M Bool} {ma mb' : M Fl} (hc : CT g X W c mc) (ha : CB g X W a ma) (hb : CB g X W b mb') : CS g X W (.If c a b pos) (mIf mc ma mb') := PS.imp (ps_if hc ha hb) fun D σ H ⟨f, A, e, F, h⟩ =>
  FinS.bT h F fun d e1 H1 F1 S1 h1 => by
    cases d with
    | true => exact ⟨f, A, e1, F1, h1⟩
    | false => exact ⟨f, A, e1, F1, h1⟩
def setV (i : Nat) (d : D) : M Unit := fun e => match e[i]? with
  | some (.pbox _) => .bad
  | some _ => .ok () (e.set i (.val d))
  | none => .bad
def setB (i : Nat) (d : D) : M Unit := fun e => match e[i]? with
  | some (.pbox _) => .bad
  | some _ => .ok () (e.set i (.box d))
  | none => .bad
theorem FR.pa0 {f : Fx} {A : Addr → Prop} {H : Hp} {σ : Sv} {e : Ev} (F : FR g f A H σ e) {i : Nat} {s : Sl} (h : e[i]? = some s) (n : ∀ d, s ≠ .pbox d) : f.pa i = none := by
  obtain ⟨o, _, q⟩ := F.at h
  cases s with
  | emp => exact q
  | val d => exact q.1
  | box d => exact q.1
  | pbox d => exact absurd rfl (n d)
theorem FR.setV {f : Fx} {A : Addr → Prop} {H : Hp} {σ : Sv} {e : Ev} (F : FR g f A H σ e) {i : Nat} {d : D} {v : V} (h : f.pa i = none) (r : R g A H d v) : FR g f A H (σ.set i (some v)) (e.set i (.val d)) where
  len := by rw [List.length_set, List.length_set]; exact F.len
  sl := fun j s o h1 h2 => by
    rcases get_set h1 with ⟨rfl, _, rfl⟩ | ⟨n, h1⟩
    · rcases get_set h2 with ⟨_, _, rfl⟩ | ⟨n, _⟩
      · exact ⟨h, v, rfl, r⟩
      · exact absurd rfl n
    · rw [List.getElem?_set_ne n] at h2
      exact F.sl j s o h1 h2
  inj := fun a b s t p h1 h2 b1 b2 s1 s2 => by
    rcases get_set h1 with ⟨_, _, rfl⟩ | ⟨n1, h1⟩
    · cases b1
    · rcases get_set h2 with ⟨_, _, rfl⟩ | ⟨n2, h2⟩
      · cases b2
      · rw [List.getElem?_set_ne n1] at s1; rw [List.getElem?_set_ne n2] at s2
        exact F.inj a b s t p h1 h2 b1 b2 s1 s2
  nt := fun a s p h1 b1 s1 => by
    rcases get_set h1 with ⟨_, _, rfl⟩ | ⟨n1, h1⟩
    · cases b1
    · rw [List.getElem?_set_ne n1] at s1
      exact F.nt a s p h1 b1 s1
  tp := F.tp
  ob := F.ob
  ob0 := F.ob0
  pb := fun i p q => by rw [List.length_set]; exact F.pb i p q
  al := F.al
  keep := F.keep
theorem setV_inv {f : Fx} {A : Addr → Prop} {H : Hp} {σ : Sv} {e : Ev} (F : FR g f A H σ e) {i : Nat} {d : D} : Fw.setV i d e = .bad ∨ (f.pa i = none ∧ Fw.setV i d e = .ok () (e.set i (.val d))) := by
  unfold Fw.setV
  cases q : e[i]? with
  | none => exact .inl rfl
  | some s =>
    cases s with
    | pbox d => exact .inl rfl
    | emp => exact .inr ⟨F.pa0 q (fun _ z => by cases z), rfl⟩
    | val d => exact .inr ⟨F.pa0 q (fun _ z => by cases z), rfl⟩
    | box d => exact .inr ⟨F.pa0 q (fun _ z => by cases z), rfl⟩
theorem FR.setB {f : Fx} {A : Addr → Prop} {H : Hp} {σ : Sv} {e : Ev} {p : Addr} (F0 : FR g f A H σ e) (F : FR g f (add1 A p) H σ e) {i : Nat} {d : D} (h : f.pa i = none) (nA : ¬ A p) (h0 : f.H0 p = none) (r : Bx g (add1 A p) H d p) : FR g f (add1 A p) H (σ.set i (some (.ref p))) (e.set i (.box d)) where
  len := by rw [List.length_set, List.length_set]; exact F.len
  sl := fun j s o h1 h2 => by
    rcases get_set h1 with ⟨rfl, _, rfl⟩ | ⟨n, h1⟩
    · rcases get_set h2 with ⟨_, _, rfl⟩ | ⟨n, _⟩
      · exact ⟨h, p, rfl, .inr rfl, h0, r⟩
      · exact absurd rfl n
    · rw [List.getElem?_set_ne n] at h2
      exact F.sl j s o h1 h2
  inj := fun a b s t q h1 h2 b1 b2 s1 s2 => by
    rcases get_set h1 with ⟨rfl, l1, rfl⟩ | ⟨n1, h1⟩
    · rcases get_set h2 with ⟨rfl, _, rfl⟩ | ⟨n2, h2⟩
      · rfl
      · rw [List.getElem?_set_ne n2] at s2
        rw [List.getElem?_set_self (by rw [F.len]; exact l1)] at s1
        cases s1
        exact absurd (F0.boxA h2 b2 s2) nA
    · rw [List.getElem?_set_ne n1] at s1
      rcases get_set h2 with ⟨rfl, l2, rfl⟩ | ⟨n2, h2⟩
      · rw [List.getElem?_set_self (by rw [F.len]; exact l2)] at s2
        cases s2
        exact absurd (F0.boxA h1 b1 s1) nA
      · rw [List.getElem?_set_ne n2] at s2
        exact F.inj a b s t q h1 h2 b1 b2 s1 s2
  nt := fun a s q h1 b1 s1 => by
    rcases get_set h1 with ⟨rfl, l1, rfl⟩ | ⟨n1, h1⟩
    · rw [List.getElem?_set_self (by rw [F.len]; exact l1)] at s1
      cases s1
      cases z : f.T p with
      | none => rfl
      | some o => exact absurd (F0.tp p o z).1 nA
    · rw [List.getElem?_set_ne n1] at s1
      exact F.nt a s q h1 b1 s1
  tp := F.tp
  ob := F.ob
  ob0 := F.ob0
  pb := fun i p q => by rw [List.length_set]; exact F.pb i p q
  al := F.al
  keep := F.keep
def mSet (i : Nat) (m : M D) : M Fl := mb m fun d => mb (Fw.setV i d) fun _ => mp .nx
theorem cs_set (i : Nat) {x : Str} {m : M D} {p : Pos} (h : PS X (.Assign [.Name x p] ex pos) (tAsg (rdE g W m) (gName i))) : CS g X W (.Assign [.Name x p] ex pos) (mSet i m) := PS.imp h fun D σ H ⟨f, A, e, F, h⟩ =>
  FinS.bE h F fun d e1 v H1 F1 S1 r h1 => by
    rcases setV_inv F1 (i := i) (d := d) with q | ⟨hp, q⟩
    · unfold mb at h1; rw [q] at h1; exact h1.elim
    · unfold mb at h1; rw [q] at h1; exact h1 A _ H1 (F1.setV hp r) (Mono.refl F1.al)
theorem setB_inv {f : Fx} {A : Addr → Prop} {H : Hp} {σ : Sv} {e : Ev} (F : FR g f A H σ e) {i : Nat} {d : D} : Fw.setB i d e = .bad ∨ (f.pa i = none ∧ Fw.setB i d e = .ok () (e.set i (.box d))) := by
  unfold Fw.setB
  cases q : e[i]? with
  | none => exact .inl rfl
  | some s =>
    cases s with
    | pbox d => exact .inl rfl
    | emp => exact .inr ⟨F.pa0 q (fun _ z => by cases z), rfl⟩
    | val d => exact .inr ⟨F.pa0 q (fun _ z => by cases z), rfl⟩
    | box d => exact .inr ⟨F.pa0 q (fun _ z => by cases z), rfl⟩
theorem Bx.r {A A' : Addr → Prop} {H : Hp} {p : Addr} (m : Mono A H A' H) (n : ¬ A' p) {ds : List D} : Bx g A H (.lst ds) p → R g A' H (.lst ds) (.ref p)
  | ⟨xs, h, r⟩ => ⟨p, xs, rfl, h, n, RL.mono m ds r⟩
end
end Fw
namespace Fw
open L2 PyProof.Rows PySem PySem.Spec
def mWh (c : M Bool) (b : M Fl) : Nat → M Fl
  | 0 => fun _ => .bad
  | n + 1 => fun e => match c e with
    | .ok true e1 => (match b e1 with
      | .ok .nx e2 => mWh c b n e2
      | .ok .ct e2 => mWh c b n e2
      | .ok .bk e2 => .ok .nx e2
      | r => r)
    | .ok false e1 => .ok .nx e1
    | .exc k d e1 => .exc k d e1
    | .bad => .bad
section
variable {g : GC} {X : Cx} {W : WK} {st : Stmt} {rest : List Stmt} {ex : Expr} {pos : Pos}
theorem cs_while (n : Nat) {c : Expr} {body : List Stmt} {mc : M Bool} {mb' : M Fl} (hp : PassesOwn (model X.prog X.w) X.A X.env X.xe) (hc : CT g X W c mc) (hb : CB g X W body mb') : CS g X W (.While c body [] pos) (mWh mc mb' n) :=
  PS.imp (ps_while hp hc hb) fun D σ H ⟨f, A, e, F, h⟩ => by
    refine ⟨fun m σ' H' => ∃ A' e', FR g f A' H' σ' e' ∧ FinS g W f A' H' D (mWh mc mb' m e'), ⟨n, A, e, F, h⟩, ?_⟩
    rintro m σ H ⟨A, e, F, h⟩
    cases m with
    | zero => exact h.elim
    | succ m =>
      unfold mWh at h
      refine ⟨f, A, e, F, ?_⟩
      cases q : mc e with
      | ok b e1 =>
        rw [q] at h
        intro H1 F1 S1
        cases b with
        | true =>
          rw [if_pos rfl]
          refine ⟨fun σ' H' => ∃ A' e', FR g f A' H' σ' e' ∧ FinS g W f A' H' D (mWh mc mb' m e'), fun σ' H' h' => ⟨m, Nat.lt_succ_self m, h'⟩, f, A, e1, F1, ?_⟩
          have h : FinS g W f A H D (match mb' e1 with
            | .ok .nx e2 => mWh mc mb' m e2
            | .ok .ct e2 => mWh mc mb' m e2
            | .ok .bk e2 => .ok .nx e2
            | r => r) := h
          have h := h.from (F.mono S1)
          cases q2 : mb' e1 with
          | ok fl e2 =>
            rw [q2] at h
            cases fl with
            | nx => exact fun A' σ' H' F' m' => ⟨A', e2, F', h.from m'⟩
            | ct => exact fun A' σ' H' F' m' => ⟨A', e2, F', h.from m'⟩
            | bk => exact fun A' σ' H' F' m' => h A' σ' H' F' m'
            | rt d => exact h
            | rb d => exact h
          | exc k d e2 => rw [q2] at h; exact h
          | bad => rw [q2] at h; exact h.elim
        | false =>
          rw [if_neg Bool.false_ne_true]
          exact h A σ H1 F1 (F.mono S1)
      | exc k d e1 =>
        rw [q] at h
        exact fun cls dd H' F' S x => h A σ cls dd H' F' (F.mono S) x
      | bad => rw [q] at h; exact h.elim
def FinG (g : GC) (f : Fx) (A : Addr → Prop) (σ : Sv) (H : Hp) (sl : List Nat) (Q : Sv → Hp → Prop) : Rs Unit → Prop
  | .ok _ e' => ∀ σ' H', FR g f A H' σ' e' → Step A H H' → (∀ j : Nat, j ∉ sl → σ'[j]? = σ[j]?) → σ'.length = σ.length → Q σ' H'
  | _ => False
def rdG (g : GC) (sl : List Nat) (bd : D → M Unit) : TG := fun v σ H Q => ∃ f A e d, FR g f A H σ e ∧ R g A H d v ∧ FinG g f A σ H sl Q (bd d e)
def rdGs (g : GC) (sl : List Nat) (bd : List D → M Unit) : TGs := fun vs σ H Q => ∃ f A e ds, FR g f A H σ e ∧ RL g A H ds vs ∧ FinG g f A σ H sl Q (bd ds e)
abbrev CG (g : GC) (X : Cx) (e : Expr) (sl : List Nat) (bd : D → M Unit) : Prop := PG X e (rdG g sl bd)
abbrev CGs (g : GC) (X : Cx) (e : List Expr) (sl : List Nat) (bd : List D → M Unit) : Prop := PGs X e (rdGs g sl bd)
theorem PG.imp {X : Cx} {e : Expr} {t u : TG} (h : PG X e t) (i : ∀ v σ H Q, u v σ H Q → t v σ H Q) : PG X e u := ⟨fun pins s σ H v u' Q I r q => h.run pins s σ H v u' Q I r (i _ _ _ _ q)⟩
theorem PGs.imp {X : Cx} {e : List Expr} {t u : TGs} (h : PGs X e t) (i : ∀ v σ H Q, u v σ H Q → t v σ H Q) : PGs X e u := ⟨fun pins s σ H v u' Q I r q => h.run pins s σ H v u' Q I r (i _ _ _ _ q)⟩
theorem cg_name (i : Nat) {x : Str} {p : Pos} (h : PG X (.Name x p) (gName i)) : CG g X (.Name x p) [i] (Fw.setV i) := PG.imp h fun v σ H Q ⟨f, A, e, d, F, r, h⟩ => by
  rcases setV_inv F (i := i) (d := d) with q | ⟨hp, q⟩
  · rw [q] at h; exact h.elim
  · rw [q] at h; exact h _ H (F.setV hp r) .refl (fun j hj => List.getElem?_set_ne (by simpa using Ne.symm (by simpa using hj))) (List.length_set)
def gsNil : List D → M Unit
  | [] => mp ()
  | _ => fun _ => .bad
def gsCons (b : D → M Unit) (bs : List D → M Unit) : List D → M Unit
  | d :: ds => mb (b d) fun _ => bs ds
  | [] => fun _ => .bad
def gTupD (n : Nat) (bs : List D → M Unit) : D → M Unit
  | .tup ds => if ds.length = n then bs ds else fun _ => .bad
  | _ => fun _ => .bad
theorem cgs_nil : CGs g X [] [] gsNil := PGs.imp pgs_nil fun vs σ H Q ⟨f, A, e, ds, F, r, h⟩ => by
  cases ds with
  | nil => exact ⟨r, h σ H F .refl (fun _ _ => rfl) rfl⟩
  | cons d ds => exact h.elim
theorem cgs_cons {e : Expr} {es : List Expr} {l1 l2 : List Nat} {b : D → M Unit} {bs : List D → M Unit} (h1 : CG g X e l1 b) (h2 : CGs g X es l2 bs) (hs : (assignEach (e :: es) X.env).map (·.2) = assign e X.env :: (assignEach es X.env).map (·.2) := by rfl) : CGs g X (e :: es) (l1 ++ l2) (gsCons b bs) :=
  PGs.imp (pgs_cons h1 h2 hs) fun vs σ H Q ⟨f, A, e, ds, F, r, h⟩ => by
    cases ds with
    | nil => exact h.elim
    | cons d ds =>
      obtain ⟨y, ys, e1, r1, r2⟩ := r
      refine ⟨y, ys, e1, f, A, e, d, F, r1, ?_⟩
      have h : FinG g f A σ H (l1 ++ l2) Q (mb (b d) (fun _ => bs ds) e) := h
      unfold mb at h
      cases q : b d e with
      | ok u e1 =>
        rw [q] at h
        refine fun σ' H' F' m sm ln => ⟨f, A, e1, ds, F', F.rl m r2, ?_⟩
        have h : FinG g f A σ H (l1 ++ l2) Q (bs ds e1) := h
        generalize bs ds e1 = rs at h
        cases rs with
        | ok u2 e2 => exact fun σ2 H2 F2 m2 sm2 ln2 => h σ2 H2 F2 (m.trans m2) (fun j hj => (sm2 j fun z => hj (List.mem_append_right _ z)).trans (sm j fun z => hj (List.mem_append_left _ z))) (ln2.trans ln)
        | exc _ _ _ => exact h
        | bad => exact h
      | exc _ _ _ => rw [q] at h; exact h
      | bad => rw [q] at h; exact h
theorem cg_tup {es : List Expr} {k : Nat} {sl : List Nat} {bs : List D → M Unit} {n : Nat} {p : Pos} (hc : X.calm = true) (hK : X.K = g.K) (h : CGs g X es sl bs) (hn : (assignEach es X.env).length = n := by rfl) (hst : (assignEach es X.env).findIdx? (·.1) = none := by rfl) : CG g X (.Tuple es k p) sl (gTupD n bs) :=
  PG.imp (pg_tup hc h hn hst) fun v σ H Q ⟨f, A, e, d, F, r, h⟩ => by
    cases d with
    | tup ds =>
      obtain ⟨a, xs, e1, h1, r⟩ := r
      have h : FinG g f A σ H sl Q ((if ds.length = n then bs ds else fun _ => .bad) e) := h
      by_cases hl : ds.length = n
      · rw [if_pos hl] at h
        exact ⟨a, xs, e1, SqT.of h1, by rw [RL.length r]; exact hl, f, A, e, ds, F, r, h⟩
      · rw [if_neg hl] at h; exact h.elim
    | _ => exact h.elim
def mAsg (m : M D) (bd : D → M Unit) : M Fl := mb m fun d e => match bd d e with
  | .ok _ e' => .ok .nx e'
  | _ => .bad
theorem cs_asg {tg : Expr} {m : M D} {sl : List Nat} {bd : D → M Unit} (he : CE g X W ex m) (hg : CG g X tg sl bd) (hs : swapsWithSole [tg] ex pos.line X.env = pure false := by rfl) (hw : swappedStores [tg] ex X.env = pure none := by rfl)
    (h1 : (assignEach [tg] X.env).map (·.2) = [assign tg X.env] := by rfl) : CS g X W (.Assign [tg] ex pos) (mAsg m bd) := PS.imp (ps_asg he hg hs hw h1) fun D σ H ⟨f, A, e, F, h⟩ =>
  FinS.bE h F fun d e1 v H1 F1 S1 r h1 => by
    refine ⟨f, A, e1, d, F1, r, ?_⟩
    cases q : bd d e1 with
    | ok u e2 => simp only [q] at h1; exact fun σ' H' F' m _ _ => h1 A σ' H' F' (F1.mono m)
    | exc c k e' => simp only [q] at h1; exact h1
    | bad => simp only [q] at h1; exact h1
def Wlk (g : GC) (A : Addr → Prop) (H : Hp) (J : It) (ds : List D) : Prop := ∀ (A' : Addr → Prop) (H' : Hp) (i : Nat), Mono A H A' H' → Al A' H' →
  (∀ d, ds[i]? = some d → J.go i H' ∧ ∀ x H2, J.yld i H' x H2 → Same H' H2 ∧ R g A' H2 d x) ∧ (ds.length = i → J.stop i H')
def rdI (g : GC) (W : WK) (m : M (List D)) : TI := fun σ H Rk => ∃ f A e, FR g f A H σ e ∧ Fin g W f A σ H (fun ds e' => ∀ J H', FR g f A H' σ e' → Step A H H' → Wlk g A H' J ds → Rk J H') (m e)
abbrev CI (g : GC) (X : Cx) (W : WK) (tg it : Expr) (m : M (List D)) : Prop := PI X tg it (rdI g W m)
theorem PI.imp {X : Cx} {tg it : Expr} {t u : TI} (h : PI X tg it t) (i : ∀ σ H Q, u σ H Q → t σ H Q) : PI X tg it u := ⟨fun pins s σ H Rk I q => h.run pins s σ H Rk I (i _ _ _ q)⟩
def mFl (bd : D → M Unit) (b : M Fl) : List D → M Fl
  | [] => mp .nx
  | d :: ds => fun e => match bd d e with
    | .ok _ e1 => (match b e1 with
      | .ok .nx e2 => mFl bd b ds e2
      | .ok .ct e2 => mFl bd b ds e2
      | .ok .bk e2 => .ok .nx e2
      | r => r)
    | _ => .bad
def mFor (mi : M (List D)) (bd : D → M Unit) (b : M Fl) : M Fl := mb mi fun ds => mFl bd b ds
theorem FinS.bI {f : Fx} {A : Addr → Prop} {σ : Sv} {H : Hp} {e : Ev} {E : Ends} {ma : M (List D)} {k : List D → M Fl} (h : FinS g W f A H E (mb ma k e)) (F : FR g f A H σ e) {G : It → Hp → Prop}
    (go : ∀ ds e1 J H1, FR g f A H1 σ e1 → Step A H H1 → Wlk g A H1 J ds → FinS g W f A H1 E (k ds e1) → G J H1) : rdI g W ma σ H G := by
  refine ⟨f, A, e, F, ?_⟩
  unfold mb at h
  cases q : ma e with
  | ok d e1 => rw [q] at h; exact fun J H1 F1 S1 r => go d e1 J H1 F1 S1 r (h.from (F.mono S1))
  | exc c d e1 => rw [q] at h; exact fun cls dd H' F' S x => h _ _ cls dd H' F' (F.mono S) x
  | bad => rw [q] at h; exact h
theorem cs_for {tg iter : Expr} {body : List Stmt} {mi : M (List D)} {bd : D → M Unit} {mb' : M Fl} (hp : PassesOwn (model X.prog X.w) X.A X.env X.xe) (hc : X.calm = true) (hi : CI g X W tg iter mi) {sl : List Nat} (hg : CG g X tg sl bd) (hb : CB g X W body mb')
    (hs : ∀ x, foldedSetIterable iter X.env x = pure x := by intro _; rfl) : CS g X W (.For tg iter body [] pos) (mFor mi bd mb') := PS.imp (ps_for hp hc hi hg hb hs) fun D σ H ⟨f, A, e, F, h⟩ =>
  FinS.bI h F fun ds e1 J H1 F1 S1 wk h1 => by
    refine ⟨fun i m σ' H' => m = ds.length - i ∧ i ≤ ds.length ∧ ∃ A' e', FR g f A' H' σ' e' ∧ Mono A H1 A' H' ∧ FinS g W f A' H' D (mFl bd mb' (ds.drop i) e'), ⟨ds.length, rfl, Nat.zero_le _, A, e1, F1, Mono.refl F1.al, h1⟩, ?_⟩
    rintro i m σ2 H2 ⟨rfl, hi, A2, e2, F2, M2, h2⟩
    obtain ⟨w1, w2⟩ := wk A2 H2 i M2 F2.al
    by_cases hlt : i < ds.length
    · right
      have hd : ds[i]? = some ds[i] := List.getElem?_eq_getElem hlt
      obtain ⟨g1, g2⟩ := w1 _ hd
      refine ⟨g1, fun σ' H' => ∃ A' e', FR g f A' H' σ' e' ∧ Mono A H1 A' H' ∧ FinS g W f A' H' D (mFl bd mb' (ds.drop (i + 1)) e'), fun σ' H' q => ⟨ds.length - (i + 1), by omega, rfl, hlt, q⟩, fun x H3 y => ?_⟩
      obtain ⟨s3, r3⟩ := g2 x H3 y
      have F3 := F2.same s3
      have M3 : Mono A2 H2 A2 H3 := Mono.same F2.al s3
      refine ⟨f, A2, e2, ds[i], F3, r3, ?_⟩
      rw [List.drop_eq_getElem_cons hlt] at h2
      have h2 := h2.from M3
      unfold mFl at h2
      cases q : bd ds[i] e2 with
      | ok u e3 =>
        rw [q] at h2
        intro σ4 H4 F4 S4 _ _
        have M4 := F3.mono S4
        have h2 : FinS g W f A2 H3 D (match mb' e3 with
            | .ok .nx e2 => mFl bd mb' (ds.drop (i + 1)) e2
            | .ok .ct e2 => mFl bd mb' (ds.drop (i + 1)) e2
            | .ok .bk e2 => .ok .nx e2
            | r => r) := h2
        have h4 := h2.from M4
        have MM : Mono A H1 A2 H4 := M2.trans (M3.trans M4)
        refine ⟨f, A2, e3, F4, ?_⟩
        cases q2 : mb' e3 with
        | ok fl e4 =>
          rw [q2] at h4
          cases fl with
          | nx => exact fun A' σ' H' F' m' => ⟨A', e4, F', MM.trans m', h4.from m'⟩
          | ct => exact fun A' σ' H' F' m' => ⟨A', e4, F', MM.trans m', h4.from m'⟩
          | bk => exact fun A' σ' H' F' m' => h4 A' σ' H' F' m'
          | rt d => exact h4
          | rb d => exact h4
        | exc k d e4 => rw [q2] at h4; exact h4
        | bad => rw [q2] at h4; exact h4.elim
      | exc c d e' => rw [q] at h2; exact h2.elim
      | bad => rw [q] at h2; exact h2.elim
    · have e0 : i = ds.length := by omega
      left
      refine ⟨w2 (by omega), ?_⟩
      rw [e0, List.drop_length] at h2
      exact h2 A2 σ2 H2 F2 (Mono.refl F2.al)
end
end Fw
namespace Fw
open L2 PyProof.Rows PySem PySem.Spec
structure FnG (P : Program) (w : World) (K : PySem.W.Frag) (mg : Str → Option Value) (base : Heap) (k : Nat) (f : Addr) (fd : FuncData) (ps : List Str) (sp : Sp) : Prop where
  len : ∀ vs H Q E, sp vs H Q E → vs.length = ps.length
  run : ∀ (A : Around) (outer : List Env) (s : Shared) (H : Hp) (args : Args) (us : List Value) (vs : List V) (Q : VK) (E : XK), Room k A → A.guards = some [] →
    Env0 P w K mg base A outer s H → BindsTo s fd args (ps.zip us) → Vals vs us → sp vs H Q E → codeAny (model P w) A (.call (.ref f) args) (CR (L2.CX P w) outer P w H s Q E) s
theorem FnG.mono {P : Program} {w : World} {K : PySem.W.Frag} {mg : Str → Option Value} {base : Heap} {j k : Nat} {f : Addr} {fd : FuncData} {ps : List Str} {sp : Sp} (F : FnG P w K mg base j f fd ps sp) (h : j ≤ k) : FnG P w K mg base k f fd ps sp :=
  ⟨F.len, fun A o s H as us vs Q E r => F.run A o s H as us vs Q E (r.mono h)⟩
theorem FnG.of {P : Program} {w : World} {K : PySem.W.Frag} {mg : Str → Option Value} {base : Heap} {x qual : Str} {params : Arguments} {body : List Stmt} {scope : Scope} {dvs : List V} {kws : List (Str × V)} {f : Addr} {fd : FuncData} {N ps : List Str} {k : Nat} {sp : Sp}
    (F : FunD K x qual params body scope dvs kws f fd) (S : FnScope N ps scope) (len : ∀ vs H Q E, sp vs H Q E → vs.length = ps.length)
    (hbody : ∀ (cdv : Value) (A : Around) (outer : List Env) (s : Shared) (H : Hp) (vs : List V) (Q : VK) (E : XK), Room k (A.deeper (envOfC qual scope s.heap.objs.size f cdv)) → A.guards = some [] → sp vs H Q E →
      ∃ t, PSs (cxOf (L2.CX P w) P w K mg base N qual scope f cdv A outer s H E) body t ∧ t ⟨fun _ H' => Q .non H', Q, fun _ _ => False, fun _ _ => False⟩ (L2.start N vs) H) : FnG P w K mg base (k + 1) f fd ps sp := by
  obtain ⟨oc, od, dV, kV, doc, pm, an, cdv, ct, osl, rfl, lk, hcd, _, _⟩ := F.ex
  refine ⟨len, fun A outer s H args us vs Q E room gd ev binds rel hsp => ?_⟩
  have kin : K.In s.heap := ev.mod.kin.keeps fun b o q => (ev.bs b o q).1
  refine codeAny_call_function room.depth (kin _ _ lk) rfl S.co S.gen rfl (PySem.W.codeRec_of kin hcd) (binds _ _ _ _ ?_)
  refine wpAny_newFunctionEnv_cells S.kind (fun ⟨n, v⟩ hy => ?_) fun env he s1 ic => ?_
  · exact (S.par n (List.of_mem_zip hy).1).imp id fun q => ⟨q, PySem.W.cellsFrom_some _ _ _ (.inl q)⟩
  · subst he
    refine ⟨(ev.mod.nolimit.keeps fun b o q => (ev.bs b o q).1).keeps ic.toInCall.keep, codeAny_func ?_⟩
    obtain ⟨t, ht, hq⟩ := hbody cdv A outer s H vs Q E (room.deeper _) gd hsp
    refine wpAny_mono (ht.run [] s1 (L2.start N vs) H _ (inv_start S room.hd ev (len _ _ _ _ hsp) rel ic) hq) (fun fl s' z => ?_) fun _ _ z => z
    cases fl with
    | ret u => obtain ⟨v, σ', H', J, rv, q⟩ := z; exact ⟨v, H', J.os, J.bare, J.base, J.hok, rv, q⟩
    | next => obtain ⟨σ', H', J, q⟩ := z; exact ⟨.non, H', J.os, J.bare, J.base, J.hok, rfl, q⟩
    | brk => obtain ⟨_, _, _, q⟩ := z; exact q.elim
    | cont => obtain ⟨_, _, _, q⟩ := z; exact q.elim
section
variable {X : Cx} {k : Nat} {f : Addr} {fd : FuncData} {ps : List Str} {sp : Sp} {W : WK} {x : Str} {p pos : Pos} {e : Expr} {es : List Expr} {t : TA}
theorem run_g {pins : List (Addr × Obj)} {σ : Sv} {H : Hp} {s : Shared} {Q : VK} {args : Args} {us : List Value} {vs : List V} (F : FnG X.prog X.w X.K X.mg X.base k f fd ps sp) (hr : Room k X.A) (gd : X.A.guards = some []) (tk : Takes X W)
    (I : Inv X pins σ H s) (hb : BindsTo s fd args (ps.zip us)) (r : Vals vs us) (h : sp vs H Q (WE W σ)) : wpAny (model X.prog X.w) X.A (call (.ref f) args.pos args.kw) (EP X pins σ Q) X.xe s := by
  refine wpAny_call (codeAny_mono (F.run X.A X.stack s H args us vs Q (WE W σ) hr gd I.env0 hb r h) fun r s' hq => ?_)
  cases r with
  | error e => exact passAt tk σ pins H s e s' I hq
  | ok fl => cases fl with
    | ret u => exact I.after hq
    | next => exact hq.elim
    | brk => exact hq.elim
    | cont => exact hq.elim
def tCg (sp : Sp) (W : WK) (t : TA) : TE := fun σ H Q => t σ H fun vs H1 => sp vs H1 Q (WE W σ)
theorem pe_callG (F : FnG X.prog X.w X.K X.mg X.base k f fd ps sp) (hr : Room k X.A) (gd : X.A.guards = some []) (hg : Gl X x) (hm : X.mg x = some (.ref f)) (hk : PySem.W.keepIn X.K (.ref f) = true) (hb : Binds X.K fd ps []) (tk : Takes X W) (ha : PA X (e :: es) t)
    (hdb : (x == ("__debug__" : Str)) = false) (he : starEach (e :: es) X.env = (false, eval e X.env) :: starEach es X.env := by rfl) (hpl : (backTo pos (starEach es X.env)).any (·.1) = false := by rfl) : PE X (.Call (.Name x p) (e :: es) [] pos) (tCg sp W t) := by
  refine ⟨fun pins s σ H Q I h => wpAny_Call_Name_kw (ld_glob I hg hm ?_ hdb)⟩
  refine PySem.W.callWith_K (h₀ := X.base) I.ok.mod.kin hk (thn (ha.run pos pins s σ H _ I h) fun us s1 ⟨vs, H1, I1, r, q⟩ => ⟨I1.kIn, ?_⟩) he hpl
  have hl : us.length = ps.length := by rw [← r.length]; exact F.len _ _ _ _ q
  have b := hb s1 us I1.kIn (by rw [List.append_nil]; exact hl)
  rw [List.append_nil] at b
  exact run_g (args := ⟨us, []⟩) F hr gd tk I1 b r q
end
inductive RV where
  | v (d : D) | b (ds : List D)
abbrev Fn := List Sl → Rs RV
def mkFn (np nl : Nat) (body : M Fl) : Fn := fun as => if as.length = np then
  (match body (as ++ List.replicate (nl - np) .emp) with
  | .ok (.rt d) e => .ok (.v d) (e.take np)
  | .ok (.rb ds) e => .ok (.b ds) (e.take np)
  | .ok .nx e => .ok (.v .non) (e.take np)
  | .exc c d e => .exc c d (e.take np)
  | _ => .bad) else .bad
def Sl.isP : Sl → Bool
  | .pbox _ => true
  | _ => false
def ArgR (g : GC) (OB : Addr → Prop) (H : Hp) : Sl → V → Prop
  | .val d, v => R g OB H d v
  | .pbox d, v => ∃ p, v = .ref p ∧ OB p ∧ Bx g OB H d p
  | _, _ => False
structure ArgsR (g : GC) (OB : Addr → Prop) (H : Hp) (as : List Sl) (vs : List V) : Prop where
  len : as.length = vs.length
  rel : ∀ (i : Nat) s v, as[i]? = some s → vs[i]? = some v → ArgR g OB H s v
  inj : ∀ (i j : Nat) s t (p : Addr), as[i]? = some s → as[j]? = some t → s.isP = true → t.isP = true → vs[i]? = some (.ref p) → vs[j]? = some (.ref p) → i = j
structure PostA (g : GC) (OB OB' : Addr → Prop) (H H' : Hp) (as as' : List Sl) (vs : List V) : Prop where
  keep : ∀ a o, H a = some o → (∀ (i : Nat) s, as[i]? = some s → s.isP = true → vs[i]? ≠ some (.ref a)) → H' a = some o
  box : ∀ (i : Nat) d, as[i]? = some (.pbox d) → ∃ d' p, as'[i]? = some (.pbox d') ∧ vs[i]? = some (.ref p) ∧ Bx g OB' H' d' p
  al : Al OB H'
def FinA (g : GC) (OB : Addr → Prop) (H : Hp) (as : List Sl) (vs : List V) (Q : VK) (E : XK) : Rs RV → Prop
  | .ok (.v d) as' => ∀ v H', PostA g OB OB H H' as as' vs → R g OB H' d v → Q v H'
  | .ok (.b ds) as' => ∀ p xs H', PostA g OB (add1 OB p) H H' as as' vs → H p = none → H' p = some (.lst xs) → RL g (add1 OB p) H' ds xs → Q (.ref p) H'
  | .exc c d as' => ∀ cls dd H', PostA g OB OB H H' as as' vs → ExR g OB H' c d cls dd → E cls dd H'
  | .bad => False
def spF (g : GC) (np : Nat) (fn : Fn) : Sp := fun vs H Q E => vs.length = np ∧ ∃ OB as, Al OB H ∧ ArgsR g OB H as vs ∧ FinA g OB H as vs Q E (fn as)
def fxOf (OB : Addr → Prop) (H : Hp) (as : List Sl) (vs : List V) : Fx := ⟨fun _ => none, OB, fun i => match as[i]? with
  | some (.pbox _) => (match vs[i]? with
    | some (.ref p) => some p
    | _ => none)
  | _ => none, H⟩
theorem fxOf_pa {OB : Addr → Prop} {H : Hp} {as : List Sl} {vs : List V} {i : Nat} {p : Addr} (h : (fxOf OB H as vs).pa i = some p) : ∃ d, as[i]? = some (.pbox d) ∧ vs[i]? = some (.ref p) := by
  simp only [fxOf] at h
  cases q : as[i]? with
  | none => rw [q] at h; cases h
  | some s =>
    rw [q] at h
    cases s with
    | pbox d =>
      cases q2 : vs[i]? with
      | none => simp only [q2] at h; cases h
      | some v =>
        simp only [q2] at h
        cases v with
        | ref a => cases h; exact ⟨d, rfl, rfl⟩
        | _ => cases h
    | _ => cases h
theorem fxOf_none {OB : Addr → Prop} {H : Hp} {as : List Sl} {vs : List V} {i : Nat} (h : ∀ d, as[i]? ≠ some (.pbox d)) : (fxOf OB H as vs).pa i = none := by
  cases z : (fxOf OB H as vs).pa i with
  | none => rfl
  | some p => obtain ⟨d, q, _⟩ := fxOf_pa z; exact absurd q (h d)
section
variable {g : GC}
theorem start_get {N : List Str} {vs : List V} {i : Nat} {o : Option V} (h : (L2.start N vs)[i]? = some o) : (∃ v, vs[i]? = some v ∧ o = some v) ∨ (vs.length ≤ i ∧ o = none) := by
  unfold L2.start at h
  by_cases hi : i < vs.length
  · rw [List.getElem?_append_left (by simpa using hi), List.getElem?_map] at h
    cases q : vs[i]? with
    | none => rw [q] at h; cases h
    | some v => rw [q] at h; cases h; exact .inl ⟨v, rfl, rfl⟩
  · rw [List.getElem?_append_right (by simpa using hi), List.getElem?_replicate] at h
    split at h
    · cases h; exact .inr ⟨by omega, rfl⟩
    · cases h
theorem app_get {as : List Sl} {n i : Nat} {s : Sl} (h : (as ++ List.replicate n Sl.emp)[i]? = some s) : as[i]? = some s ∨ (as.length ≤ i ∧ s = .emp) := by
  by_cases hi : i < as.length
  · rw [List.getElem?_append_left hi] at h; exact .inl h
  · rw [List.getElem?_append_right (by omega), List.getElem?_replicate] at h
    split at h
    · cases h; exact .inr ⟨by omega, rfl⟩
    · cases h
theorem FR.init {OB : Addr → Prop} {H : Hp} {as : List Sl} {vs : List V} {N : List Str} {nl : Nat} (hN : N.length = nl) (hl : as.length ≤ nl) (al : Al OB H) (r : ArgsR g OB H as vs) : FR g (fxOf OB H as vs) OB H (L2.start N vs) (as ++ List.replicate (nl - as.length) .emp) where
  len := by unfold L2.start; rw [List.length_append, List.length_append, List.length_map, List.length_replicate, List.length_replicate, hN, r.len]
  sl := fun i s o h1 h2 => by
    rcases app_get h1 with h1 | ⟨hi, rfl⟩
    · rcases start_get h2 with ⟨v, hv, rfl⟩ | ⟨hi, _⟩
      · have q := r.rel i s v h1 hv
        cases s with
        | emp => exact q.elim
        | val d => exact ⟨fxOf_none (fun d z => by rw [h1] at z; cases z), v, rfl, q⟩
        | box d => exact q.elim
        | pbox d =>
          obtain ⟨p, rfl, q1, q2⟩ := q
          refine ⟨p, ?_, rfl, q1, q2⟩
          simp only [fxOf, h1, hv]
      · have := (List.getElem?_eq_some_iff.mp h1).1
        rw [r.len] at this; omega
    · exact fxOf_none (fun d z => by
        have := (List.getElem?_eq_some_iff.mp z).1
        omega)
  inj := fun i j s t p h1 h2 b1 b2 s1 s2 => by
    rcases app_get h1 with h1 | ⟨_, rfl⟩
    · rcases app_get h2 with h2 | ⟨_, rfl⟩
      · rcases start_get s1 with ⟨v, hv, e⟩ | ⟨_, e⟩
        · cases e
          rcases start_get s2 with ⟨v', hv', e'⟩ | ⟨_, e'⟩
          · cases e'
            have q1 := r.rel i s _ h1 hv
            have q2 := r.rel j t _ h2 hv'
            refine r.inj i j s t p h1 h2 ?_ ?_ hv hv'
            · cases s with
              | pbox d => rfl
              | box d => exact q1.elim
              | _ => cases b1
            · cases t with
              | pbox d => rfl
              | box d => exact q2.elim
              | _ => cases b2
          · cases e'
        · cases e
      · cases b2
    · cases b1
  nt := fun _ _ _ _ _ _ => rfl
  tp := fun _ _ z => by cases z
  ob := fun _ h => h
  ob0 := fun a h => let ⟨o, q, _⟩ := al a h; ⟨o, q⟩
  pb := fun i p h => by
    obtain ⟨d, h1, h2⟩ := fxOf_pa h
    obtain ⟨p', e, q, _⟩ := r.rel i _ _ h1 h2
    cases e
    refine ⟨q, ?_⟩
    rw [List.length_append]
    have := (List.getElem?_eq_some_iff.mp h1).1
    omega
  al := al
  keep := fun a o h _ => h
theorem FR.post {OB : Addr → Prop} {H : Hp} {as : List Sl} {vs : List V} {A' : Addr → Prop} {H' : Hp} {σ' : Sv} {e' : Ev} (r : ArgsR g OB H as vs) (F : FR g (fxOf OB H as vs) A' H' σ' e') {OB' : Addr → Prop} (sub : ∀ a, OB' a → A' a) : PostA g OB OB' H H' as (e'.take as.length) vs where
  keep := fun a o h n => F.keep a o h fun i z => by
    obtain ⟨d, h1, h2⟩ := fxOf_pa z
    exact n i _ h1 rfl h2
  box := fun i d h => by
    have hi := (List.getElem?_eq_some_iff.mp h).1
    have hiv : i < vs.length := by rw [← r.len]; exact hi
    have hv : vs[i]? = some vs[i] := List.getElem?_eq_getElem hiv
    obtain ⟨p, e, _, _⟩ := r.rel i _ _ h hv
    rw [e] at hv
    have hp : (fxOf OB H as vs).pa i = some p := by simp only [fxOf, h, hv]
    have he : i < e'.length := (F.pb i p hp).2
    have hs : e'[i]? = some e'[i] := List.getElem?_eq_getElem he
    obtain ⟨o, h1, q⟩ := F.at hs
    cases z : e'[i] with
    | emp => rw [z] at q; rw [show (fxOf OB H as vs).pa i = none from q] at hp; cases hp
    | val d' => rw [z] at q; rw [q.1] at hp; cases hp
    | box d' => rw [z] at q; rw [q.1] at hp; cases hp
    | pbox d' =>
      rw [z] at q hs
      obtain ⟨p', q1, q2, q3, q4⟩ := q
      rw [hp] at q1; cases q1
      refine ⟨d', p, by rw [List.getElem?_take_of_lt hi]; exact hs, hv, Bx.mono ⟨F.al, fun _ _ z _ => z, fun a _ z _ => sub a z⟩ (fun _ z => z) q4⟩
  al := fun a h => F.al a (F.ob a h)
theorem R.less {A A' : Addr → Prop} {H : Hp} {d : D} {v : V} (al : Al A H) (h : ∀ a, A' a → A a) (r : R g A H d v) : R g A' H d v := R.mono ⟨al, fun _ _ z _ => z, fun a _ z _ => h a z⟩ d r
theorem RL.less {A A' : Addr → Prop} {H : Hp} {d : List D} {v : List V} (al : Al A H) (h : ∀ a, A' a → A a) (r : RL g A H d v) : RL g A' H d v := RL.mono ⟨al, fun _ _ z _ => z, fun a _ z _ => h a z⟩ d r
theorem ExR.less {A A' : Addr → Prop} {H : Hp} {c : Nat} {d : D} {cls : Value} {dd : Option Addr} (al : Al A H) (h : ∀ a, A' a → A a) (r : ExR g A H c d cls dd) : ExR g A' H c d cls dd := by
  unfold ExR at r ⊢
  refine ⟨r.1, ?_⟩
  have r := r.2
  cases q : g.cf c with
  | nil => simp only [q] at r ⊢; exact r
  | cons x l =>
    simp only [q] at r ⊢
    obtain ⟨a, v, h1, h2, h3⟩ := r
    exact ⟨a, v, h1, h2, R.less al h h3⟩
theorem FnG.by {P : Program} {w : World} {mg : Str → Option Value} {base : Heap} {x qual : Str} {params : Arguments} {body : List Stmt} {scope : Scope} {dvs : List V} {kws : List (Str × V)} {f : Addr} {fd : FuncData} {N ps : List Str} {k np nl : Nat} {m : M Fl}
    (F : FunD g.K x qual params body scope dvs kws f fd) (S : FnScope N ps scope) (hp : ps.length = np) (hN : N.length = nl) (hle : np ≤ nl)
    (hbody : ∀ (cdv : Value) (A : Around) (outer : List Env) (s : Shared) (H : Hp) (E : XK), Room k (A.deeper (envOfC qual scope s.heap.objs.size f cdv)) → A.guards = some [] →
      CB g (cxOf (L2.CX P w) P w g.K mg base N qual scope f cdv A outer s H E) (fun cls d _ H => E cls d H) body m) : FnG P w g.K mg base (k + 1) f fd ps (spF g np (mkFn np nl m)) := by
  refine FnG.of F S (fun vs H Q E h => h.1.trans hp.symm) fun cdv A outer s H vs Q E hr gd h => ⟨_, hbody cdv A outer s H E hr gd, ?_⟩
  obtain ⟨hl, OB, as, al, r, h⟩ := h
  have hla : as.length = np := r.len.trans hl
  unfold mkFn at h
  rw [if_pos hla] at h
  refine ⟨fxOf OB H as vs, OB, as ++ List.replicate (nl - np) .emp, by
    have := FR.init (g := g) (N := N) (nl := nl) hN (by omega) al r
    rw [hla] at this; exact this, ?_⟩
  generalize m (as ++ List.replicate (nl - np) .emp) = res at h
  have post : ∀ {A' OB' : Addr → Prop} {H' : Hp} {σ' : Sv} {e' : Ev}, FR g (fxOf OB H as vs) A' H' σ' e' → (∀ a, OB' a → A' a) → PostA g OB OB' H H' as (e'.take np) vs := fun F z => by rw [← hla]; exact FR.post r F z
  cases res with
  | ok fl e =>
    cases fl with
    | nx => exact fun A' σ' H' F' _ => h _ H' (post F' F'.ob) rfl
    | bk => exact h.elim
    | ct => exact h.elim
    | rt d => exact fun A' σ' H' v F' _ q => h v H' (post F' F'.ob) (R.less F'.al F'.ob q)
    | rb ds => exact fun A' σ' H' p xs F' _ hA h0 hb hp q => h p xs H' (post F' fun a z => z.elim (F'.ob a) fun z => by rw [z]; exact hA) h0 hp (RL.less F'.al (fun a z => z.elim (F'.ob a) fun z => by rw [z]; exact hA) q)
  | exc c d e => exact fun A' σ' cls dd H' F' _ x => h cls dd H' (post F' F'.ob) (ExR.less F'.al F'.ob x)
  | bad => exact h.elim
end
end Fw
namespace Fw
open L2 PyProof.Rows PySem PySem.Spec
def argOf (e : Ev) : Sum D Nat → Option Sl
  | .inl d => some (.val d)
  | .inr i => match e[i]? with
    | some (.val d) => some (.val d)
    | some (.box d) => some (.pbox d)
    | some (.pbox d) => some (.pbox d)
    | _ => none
def argsOf (e : Ev) : List (Sum D Nat) → Option (List Sl)
  | [] => some []
  | a :: r => match argOf e a with
    | some s => (match argsOf e r with
      | some l => some (s :: l)
      | none => none)
    | none => none
def Sl.put : Sl → D → Sl
  | .box _, d => .box d
  | .pbox _, d => .pbox d
  | s, _ => s
def put1 (i : Nat) (d : D) (e : Ev) : Ev := match e[i]? with
  | some s => e.set i (s.put d)
  | none => e
def wb : List (Sum D Nat) → List Sl → Ev → Ev
  | .inr i :: ps, .pbox d :: as, e => wb ps as (put1 i d e)
  | .inr _ :: ps, .val _ :: as, e => wb ps as e
  | .inr _ :: ps, .box _ :: as, e => wb ps as e
  | .inr _ :: ps, .emp :: as, e => wb ps as e
  | .inl _ :: ps, _ :: as, e => wb ps as e
  | _, [], e => e
  | [], _, e => e
def nums : List (Sum D Nat) → List Nat
  | [] => []
  | .inl _ :: r => nums r
  | .inr i :: r => i :: nums r
def nodupB : List Nat → Bool
  | [] => true
  | i :: r => !r.contains i && nodupB r
theorem mem_nums {j k : Nat} : ∀ {ps : List (Sum D Nat)}, ps[k]? = some (.inr j) → j ∈ nums ps := by
  intro ps
  induction ps generalizing k with
  | nil => intro h; simp at h
  | cons a r ih =>
    intro h
    cases k with
    | zero => simp at h; subst h; exact List.mem_cons_self
    | succ k =>
      have := ih (k := k) (by simpa using h)
      cases a with
      | inl d => exact this
      | inr i => exact List.mem_cons_of_mem _ this
theorem put1_get {i j : Nat} {d : D} {e : Ev} {s : Sl} (h : (put1 i d e)[j]? = some s) : (i = j ∧ ∃ s0, e[j]? = some s0 ∧ s = s0.put d) ∨ (i ≠ j ∧ e[j]? = some s) := by
  unfold put1 at h
  cases q : e[i]? with
  | none =>
    rw [q] at h
    by_cases z : i = j
    · subst z; have h : e[i]? = some s := h; rw [q] at h; cases h
    · exact .inr ⟨z, h⟩
  | some s0 =>
    rw [q] at h
    rcases get_set h with ⟨rfl, _, rfl⟩ | ⟨n, h⟩
    · exact .inl ⟨rfl, s0, q, rfl⟩
    · exact .inr ⟨n, h⟩
theorem wb_get : ∀ (ps : List (Sum D Nat)) (as : List Sl) (e : Ev) {j : Nat} {s : Sl}, nodupB (nums ps) = true → (wb ps as e)[j]? = some s →
    (∃ (k : Nat) (d : D) (s0 : Sl), ps[k]? = some (.inr j) ∧ as[k]? = some (.pbox d) ∧ e[j]? = some s0 ∧ s = s0.put d) ∨ (e[j]? = some s ∧ ∀ (k : Nat) (d : D), ps[k]? = some (.inr j) → as[k]? ≠ some (.pbox d))
  | [], as, e, j, s, _, h => .inr ⟨by cases as <;> exact h, fun k d z => by simp at z⟩
  | a :: ps, [], e, j, s, _, h => .inr ⟨by cases a <;> exact h, fun k d _ z => by simp at z⟩
  | .inl x :: ps, t :: as, e, j, s, n, h => by
    rcases wb_get ps as e n h with ⟨k, d, s0, h1, h2, h3⟩ | ⟨h1, h2⟩
    · exact .inl ⟨k + 1, d, s0, by simpa using h1, by simpa using h2, h3⟩
    · refine .inr ⟨h1, fun k d z1 z2 => ?_⟩
      cases k with
      | zero => simp at z1
      | succ k => exact h2 k d (by simpa using z1) (by simpa using z2)
  | .inr i :: ps, t :: as, e, j, s, n, h => by
    have n1 : i ∉ nums ps ∧ nodupB (nums ps) = true := by
      have n : (!(nums ps).contains i && nodupB (nums ps)) = true := n
      rw [Bool.and_eq_true] at n
      refine ⟨fun z => ?_, n.2⟩
      have := n.1
      rw [List.contains_iff_mem.mpr z] at this; cases this
    have other : ∀ {e' : Ev}, (wb ps as e')[j]? = some s → (∀ d, t ≠ .pbox d) → e' = e → (∃ (k : Nat) (d : D) (s0 : Sl), (Sum.inr i :: ps)[k]? = some (.inr j) ∧ (t :: as)[k]? = some (.pbox d) ∧ e[j]? = some s0 ∧ s = s0.put d) ∨ (e[j]? = some s ∧ ∀ (k : Nat) (d : D), (Sum.inr i :: ps)[k]? = some (.inr j) → (t :: as)[k]? ≠ some (.pbox d)) := by
      intro e' h nt ee
      rcases wb_get ps as e' n1.2 h with ⟨k, d, s0, h1, h2, h3⟩ | ⟨h1, h2⟩
      · exact .inl ⟨k + 1, d, s0, by simpa using h1, by simpa using h2, ee ▸ h3⟩
      · refine .inr ⟨ee ▸ h1, fun k d z1 z2 => ?_⟩
        cases k with
        | zero => simp at z2; exact nt d z2
        | succ k => exact h2 k d (by simpa using z1) (by simpa using z2)
    cases t with
    | pbox d =>
      rcases wb_get ps as _ n1.2 (show (wb ps as (put1 i d e))[j]? = some s from h) with ⟨k, d', s0, h1, h2, h3, h4⟩ | ⟨h1, h2⟩
      · have hj : i ≠ j := fun z => n1.1 (z ▸ mem_nums h1)
        rcases put1_get h3 with ⟨z, _⟩ | ⟨_, h3⟩
        · exact absurd z hj
        · exact .inl ⟨k + 1, d', s0, by simpa using h1, by simpa using h2, h3, h4⟩
      · rcases put1_get h1 with ⟨rfl, s0, h3, h4⟩ | ⟨hj, h3⟩
        · exact .inl ⟨0, d, s0, rfl, rfl, h3, h4⟩
        · refine .inr ⟨h3, fun k d' z1 z2 => ?_⟩
          cases k with
          | zero => simp at z1; exact hj z1
          | succ k => exact h2 k d' (by simpa using z1) (by simpa using z2)
    | emp => exact other (e' := e) (show (wb ps as e)[j]? = some s from h) (fun _ z => by cases z) rfl
    | val _ => exact other (e' := e) (show (wb ps as e)[j]? = some s from h) (fun _ z => by cases z) rfl
    | box _ => exact other (e' := e) (show (wb ps as e)[j]? = some s from h) (fun _ z => by cases z) rfl
theorem put1_length (i : Nat) (d : D) (e : Ev) : (put1 i d e).length = e.length := by
  unfold put1
  cases e[i]? with
  | none => rfl
  | some s => exact List.length_set
theorem wb_length : ∀ (ps : List (Sum D Nat)) (as : List Sl) (e : Ev), (wb ps as e).length = e.length
  | [], as, e => by cases as <;> rfl
  | a :: ps, [], e => by cases a <;> rfl
  | .inl x :: ps, t :: as, e => wb_length ps as e
  | .inr i :: ps, .pbox d :: as, e => (wb_length ps as _).trans (put1_length i d e)
  | .inr i :: ps, .emp :: as, e => wb_length ps as e
  | .inr i :: ps, .val _ :: as, e => wb_length ps as e
  | .inr i :: ps, .box _ :: as, e => wb_length ps as e
theorem argsOf_get : ∀ {ps : List (Sum D Nat)} {as : List Sl} {e : Ev} {k : Nat} {s : Sl}, argsOf e ps = some as → as[k]? = some s → ∃ a, ps[k]? = some a ∧ argOf e a = some s := by
  intro ps
  induction ps with
  | nil => intro as e k s h h2; cases h; simp at h2
  | cons a r ih =>
    intro as e k s h h2
    unfold argsOf at h
    cases q : argOf e a with
    | none => rw [q] at h; cases h
    | some s0 =>
      rw [q] at h
      cases q2 : argsOf e r with
      | none => rw [q2] at h; cases h
      | some l =>
        rw [q2] at h; cases h
        cases k with
        | zero => simp at h2; subst h2; exact ⟨a, rfl, q⟩
        | succ k => obtain ⟨a', z1, z2⟩ := ih (k := k) q2 (by simpa using h2); exact ⟨a', by simpa using z1, z2⟩
theorem argsOf_get' : ∀ {ps : List (Sum D Nat)} {as : List Sl} {e : Ev} {k : Nat} {a : Sum D Nat}, argsOf e ps = some as → ps[k]? = some a → ∃ s, as[k]? = some s ∧ argOf e a = some s := by
  intro ps
  induction ps with
  | nil => intro as e k s h h2; simp at h2
  | cons a r ih =>
    intro as e k s h h2
    unfold argsOf at h
    cases q : argOf e a with
    | none => rw [q] at h; cases h
    | some s0 =>
      rw [q] at h
      cases q2 : argsOf e r with
      | none => rw [q2] at h; cases h
      | some l =>
        rw [q2] at h; cases h
        cases k with
        | zero => simp at h2; subst h2; exact ⟨s0, rfl, q⟩
        | succ k => obtain ⟨a', z1, z2⟩ := ih (k := k) q2 (by simpa using h2); exact ⟨a', by simpa using z1, z2⟩
section
variable {g : GC}
theorem PL.get {A : Addr → Prop} {H : Hp} {σ : Sv} : ∀ {ps : List (Sum D Nat)} {vs : List V} {k : Nat} {a : Sum D Nat}, PL g A H σ ps vs → ps[k]? = some a → ∃ v, vs[k]? = some v ∧ (match a with
    | .inl d => R g A H d v
    | .inr i => σ[i]? = some (some v))
  | [], vs, k, a, _, h => by simp at h
  | .inl d :: r, vs, k, a, ⟨y, ys, e, q, p⟩, h => by
    subst e
    cases k with
    | zero => simp at h; subst h; exact ⟨y, rfl, q⟩
    | succ k => obtain ⟨v, z1, z2⟩ := PL.get (k := k) p (by simpa using h); exact ⟨v, by simpa using z1, z2⟩
  | .inr i :: r, vs, k, a, ⟨y, ys, e, q, p⟩, h => by
    subst e
    cases k with
    | zero => simp at h; subst h; exact ⟨y, rfl, q⟩
    | succ k => obtain ⟨v, z1, z2⟩ := PL.get (k := k) p (by simpa using h); exact ⟨v, by simpa using z1, z2⟩
theorem PL.length {A : Addr → Prop} {H : Hp} {σ : Sv} : ∀ {ps : List (Sum D Nat)} {vs : List V}, PL g A H σ ps vs → vs.length = ps.length
  | [], vs, h => by rw [show vs = [] from h]; rfl
  | .inl d :: r, vs, ⟨y, ys, e, q, p⟩ => by subst e; rw [List.length_cons, List.length_cons, PL.length p]
  | .inr i :: r, vs, ⟨y, ys, e, q, p⟩ => by subst e; rw [List.length_cons, List.length_cons, PL.length p]
theorem argsOf_length : ∀ {ps : List (Sum D Nat)} {as : List Sl} {e : Ev}, argsOf e ps = some as → as.length = ps.length := by
  intro ps
  induction ps with
  | nil => intro as e h; cases h; rfl
  | cons a r ih =>
    intro as e h
    unfold argsOf at h
    cases q : argOf e a with
    | none => rw [q] at h; cases h
    | some s0 =>
      rw [q] at h
      cases q2 : argsOf e r with
      | none => rw [q2] at h; cases h
      | some l => rw [q2] at h; cases h; rw [List.length_cons, List.length_cons, ih q2]
theorem argOf_box {e : Ev} {a : Sum D Nat} {d : D} (h : argOf e a = some (.pbox d)) : ∃ i s, a = .inr i ∧ e[i]? = some s ∧ s.isBox = true ∧ s.dat = some d := by
  cases a with
  | inl x => cases h
  | inr i =>
    unfold argOf at h
    cases q : e[i]? with
    | none => simp only [q] at h; cases h
    | some s =>
      simp only [q] at h
      cases s with
      | emp => cases h
      | val x => cases h
      | box x => cases h; exact ⟨i, _, rfl, q, rfl, rfl⟩
      | pbox x => cases h; exact ⟨i, _, rfl, q, rfl, rfl⟩
theorem args_rel {f : Fx} {A : Addr → Prop} {H : Hp} {σ : Sv} {e : Ev} {ps : List (Sum D Nat)} {as : List Sl} {vs : List V} (F : FR g f A H σ e) (p : PL g A H σ ps vs) (ha : argsOf e ps = some as) (nd : nodupB (nums ps) = true) : ArgsR g A H as vs where
  len := by rw [argsOf_length ha, PL.length p]
  rel := fun i s v h1 h2 => by
    obtain ⟨a, q1, q2⟩ := argsOf_get ha h1
    obtain ⟨v', q3, q4⟩ := PL.get p q1
    rw [h2] at q3; cases q3
    cases a with
    | inl d => cases q2; exact q4
    | inr j =>
      unfold argOf at q2
      cases q5 : e[j]? with
      | none => simp only [q5] at q2; cases q2
      | some s0 =>
        simp only [q5] at q2
        obtain ⟨o, z1, z2⟩ := F.at q5
        rw [q4] at z1; cases z1
        cases s0 with
        | emp => cases q2
        | val d => cases q2; obtain ⟨_, v', z, r⟩ := z2; cases z; exact r
        | box d => cases q2; obtain ⟨_, p', z, r1, _, r2⟩ := z2; cases z; exact ⟨p', rfl, r1, r2⟩
        | pbox d => cases q2; obtain ⟨p', _, z, r1, r2⟩ := z2; cases z; exact ⟨p', rfl, r1, r2⟩
  inj := fun i j s t p' h1 h2 b1 b2 v1 v2 => by
    obtain ⟨a, q1, q2⟩ := argsOf_get ha h1
    obtain ⟨b, q3, q4⟩ := argsOf_get ha h2
    cases s with
    | pbox d =>
      cases t with
      | pbox d' =>
        obtain ⟨i1, s1, rfl, w1, x1, _⟩ := argOf_box q2
        obtain ⟨j1, t1, rfl, w2, x2, _⟩ := argOf_box q4
        obtain ⟨v, y1, y2⟩ := PL.get p q1
        obtain ⟨v', y3, y4⟩ := PL.get p q3
        rw [v1] at y1; cases y1
        rw [v2] at y3; cases y3
        have := F.inj i1 j1 s1 t1 p' w1 w2 x1 x2 y2 y4
        subst this
        -- the same slot at two places
        have key : ∀ (ps : List (Sum D Nat)) (i j : Nat), nodupB (nums ps) = true → ps[i]? = some (.inr i1) → ps[j]? = some (.inr i1) → i = j := by
          intro ps
          induction ps with
          | nil => intro i j _ h _; simp at h
          | cons a r ih =>
            intro i j nd h1 h2
            have nd' : nodupB (nums r) = true := by
              cases a with
              | inl _ => exact nd
              | inr _ => exact (Bool.and_eq_true_iff.mp (show (_ && nodupB (nums r)) = true from nd)).2
            have ni : ∀ {k : Nat}, r[k]? = some (.inr i1) → a ≠ .inr i1 := fun {k} hk z => by
              subst z
              have := (Bool.and_eq_true_iff.mp (show (!(nums r).contains i1 && nodupB (nums r)) = true from nd)).1
              rw [List.contains_iff_mem.mpr (mem_nums hk)] at this; cases this
            cases i with
            | zero => cases j with
              | zero => rfl
              | succ j => simp at h1 h2; exact absurd h1 (ni h2)
            | succ i => cases j with
              | zero => simp at h1 h2; exact absurd h2 (ni h1)
              | succ j => rw [ih i j nd' (by simpa using h1) (by simpa using h2)]
        exact key ps i j nd q1 q3
      | _ => cases b2
    | _ => cases b1
theorem FR.call {f : Fx} {A A' : Addr → Prop} {H H' : Hp} {σ : Sv} {e : Ev} {ps : List (Sum D Nat)} {as as' : List Sl} {vs : List V} (F : FR g f A H σ e) (p : PL g A H σ ps vs) (ha : argsOf e ps = some as) (nd : nodupB (nums ps) = true)
    (post : PostA g A A' H H' as as' vs) (h1 : ∀ a, A a → A' a) (h2 : ∀ a o, A' a → H a = some o → A a) (al' : Al A' H') : FR g f A' H' σ (wb ps as' e) ∧ Step A H H' := by
  -- a passed box is an avoided one, and known by its slot
  have pbx : ∀ (i : Nat) (s : Sl) (a : Addr), as[i]? = some s → s.isP = true → vs[i]? = some (.ref a) → ∃ j s0, ps[i]? = some (.inr j) ∧ e[j]? = some s0 ∧ s0.isBox = true ∧ σ[j]? = some (some (.ref a)) := fun i s a z1 z2 z3 => by
    obtain ⟨b, q1, q2⟩ := argsOf_get ha z1
    cases s with
    | pbox d =>
      obtain ⟨j, s0, rfl, w1, w2, _⟩ := argOf_box q2
      obtain ⟨v, y1, y2⟩ := PL.get p q1
      rw [z3] at y1; cases y1
      exact ⟨j, s0, q1, w1, w2, y2⟩
    | _ => cases z2
  have st : ∀ a o, H a = some o → ¬ A a → H' a = some o := fun a o z n => post.keep a o z fun i s z1 z2 z3 => by
    obtain ⟨j, s0, _, w1, w2, w3⟩ := pbx i s a z1 z2 z3
    exact n (F.boxA w1 w2 w3)
  have un : ∀ a o, H a = some o → ∃ o', H' a = some o' := fun a o z => by
    by_cases n : A a
    · obtain ⟨o', q, _⟩ := post.al a n; exact ⟨o', q⟩
    · exact ⟨o, st a o z n⟩
  have m : Mono A H A' H' := ⟨F.al, st, h2⟩
  have bx : ∀ {j : Nat} {s : Sl}, (wb ps as' e)[j]? = some s → s.isBox = true → ∃ s0, e[j]? = some s0 ∧ s0.isBox = true := fun {j s} z hb => by
    rcases wb_get ps as' e nd z with ⟨k, d, s0, _, _, q3, q4⟩ | ⟨q1, _⟩
    · subst q4
      refine ⟨s0, q3, ?_⟩
      cases s0 with
      | emp => cases hb
      | val _ => cases hb
      | box _ => rfl
      | pbox _ => rfl
    · exact ⟨s, q1, hb⟩
  have two : ∀ (i j : Nat) (s t : Sl) (a : Addr), (wb ps as' e)[i]? = some s → (wb ps as' e)[j]? = some t → s.isBox = true → t.isBox = true → σ[i]? = some (some (.ref a)) → σ[j]? = some (some (.ref a)) → i = j := fun i j s t a z1 z2 b1 b2 s1 s2 => by
    obtain ⟨s0, y1, y2⟩ := bx z1 b1
    obtain ⟨t0, y3, y4⟩ := bx z2 b2
    exact F.inj i j s0 t0 a y1 y3 y2 y4 s1 s2
  refine ⟨⟨by rw [wb_length]; exact F.len, fun j s o z1 z2 => ?_, fun i j s t a z1 z2 b1 b2 s1 s2 => ?_, fun i s a z1 b1 s1 => ?_, fun a u z => ⟨h1 a (F.tp a u z).1, post.keep a u (F.tp a u z).2 fun i s z1 z2 z3 => by
    obtain ⟨j, s0, _, w1, w2, w3⟩ := pbx i s a z1 z2 z3
    rw [F.nt j s0 a w1 w2 w3] at z; cases z⟩, fun a z => h1 a (F.ob a z), F.ob0, fun i p z => by rw [wb_length]; exact F.pb i p z, al', fun a o z n => ?_⟩, ⟨st, un⟩⟩
  · rcases wb_get ps as' e nd z1 with ⟨k, d, s0, q1, q2, q3, q4⟩ | ⟨q1, q2⟩
    · subst q4
      have rel := F.sl j s0 o q3 z2
      obtain ⟨s1, w1, w2⟩ := argsOf_get' ha q1
      obtain ⟨v, y1, y2⟩ := PL.get p q1
      cases s0 with
      | emp => exact rel
      | val d0 => obtain ⟨a, v, b, c⟩ := rel; exact ⟨a, v, b, R.mono m d0 c⟩
      | box d0 =>
        unfold argOf at w2
        simp only [q3] at w2; cases w2
        obtain ⟨d', p', x1, x2, x3⟩ := post.box k d0 w1
        rw [q2] at x1; cases x1
        rw [y1] at x2; cases x2
        obtain ⟨r0, p1, r1, r2, r3, _⟩ := rel
        rw [y2] at z2; cases z2; cases r1
        exact ⟨r0, p', rfl, h1 _ r2, r3, x3⟩
      | pbox d0 =>
        unfold argOf at w2
        simp only [q3] at w2; cases w2
        obtain ⟨d', p', x1, x2, x3⟩ := post.box k d0 w1
        rw [q2] at x1; cases x1
        rw [y1] at x2; cases x2
        obtain ⟨p1, r0, r1, r2, _⟩ := rel
        rw [y2] at z2; cases z2; cases r1
        exact ⟨p', r0, rfl, h1 _ r2, x3⟩
    · have rel := F.sl j s o q1 z2
      have stay : ∀ a, s.isBox = true → o = some (.ref a) → ∀ u, H a = some u → H' a = some u := fun a hb eo u hu => post.keep a u hu fun i t z3 z4 z5 => by
        obtain ⟨j', s0, w0, w1, w2, w3⟩ := pbx i t a z3 z4 z5
        have : j = j' := F.inj j j' s s0 a q1 w1 hb w2 (by rw [z2, eo]) w3
        subst this
        cases t with
        | pbox d =>
          obtain ⟨d', _, x1, _⟩ := post.box i d z3
          exact q2 i d' w0 x1
        | _ => cases z4
      cases s with
      | emp => exact rel
      | val d0 => obtain ⟨a, v, b, c⟩ := rel; exact ⟨a, v, b, R.mono m d0 c⟩
      | box d0 => obtain ⟨a, p', b, c, c0, dd⟩ := rel; exact ⟨a, p', b, h1 _ c, c0, Bx.mono m (stay p' rfl b) dd⟩
      | pbox d0 => obtain ⟨p', a, b, c, dd⟩ := rel; exact ⟨p', a, b, h1 _ c, Bx.mono m (stay p' rfl b) dd⟩
  · exact two i j s t a z1 z2 b1 b2 s1 s2
  · obtain ⟨s0, y1, y2⟩ := bx z1 b1
    exact F.nt i s0 a y1 y2 s1
  · refine post.keep a o (F.keep a o z n) fun i s z1 z2 z3 => ?_
    obtain ⟨j, s0, _, w1, w2, w3⟩ := pbx i s a z1 z2 z3
    have rel := F.sl j s0 _ w1 w3
    cases s0 with
    | emp => cases w2
    | val _ => cases w2
    | box d => obtain ⟨_, p', r1, _, r3, _⟩ := rel; cases r1; rw [z] at r3; cases r3
    | pbox d => obtain ⟨p', r0, r1, _⟩ := rel; cases r1; exact n j r0
theorem PostA.less {A A' : Addr → Prop} {H H' : Hp} {as as' : List Sl} {vs : List V} (po : PostA g A A' H H' as as' vs) (sub : ∀ a, A a → A' a) (al' : Al A' H') : PostA g A A H H' as as' vs where
  keep := po.keep
  box := fun i d z => by
    obtain ⟨d', p', x1, x2, x3⟩ := po.box i d z
    exact ⟨d', p', x1, x2, Bx.mono ⟨al', fun _ _ z _ => z, fun a _ z _ => sub a z⟩ (fun _ z => z) x3⟩
  al := po.al
def mCall (np : Nat) (fn : Fn) (os : List Od) : M RV := mb (mA1 os) fun ps e => match argsOf e ps with
  | none => .bad
  | some as => if as.length = np then (if nodupB (nums ps) = true then (match fn as with
      | .ok rv as' => .ok rv (wb ps as' e)
      | .exc c d as' => .exc c d (wb ps as' e)
      | .bad => .bad) else .bad) else .bad
def RV.d : RV → D
  | .v d => d
  | .b ds => .lst ds
def mCv (np : Nat) (fn : Fn) (os : List Od) : M D := mb (mCall np fn os) fun rv => mp rv.d
def RV.l : RV → Option (List D)
  | .v _ => none
  | .b ds => some ds
def mCl (np : Nat) (fn : Fn) (os : List Od) : M (List D) := mb (mCall np fn os) fun rv => mo rv.l
section
variable {X : Cx} {W : WK}
theorem t_call {np : Nat} {fn : Fn} {os : List Od} : ∀ σ H Q, rdE g W (mCv np fn os) σ H Q → tCg (spF g np fn) W (rdOs g W os) σ H Q := fun σ H Q ⟨f, A, e, F, h⟩ => by
  unfold mCv mCall at h
  rw [mb_assoc] at h
  refine bAs1 os h F fun ps e1 vs H1 F1 S1 p1 h1 => ?_
  unfold mb at h1
  cases ha : argsOf e1 ps with
  | none => simp only [ha] at h1; exact h1.elim
  | some as =>
    simp only [ha] at h1
    by_cases hl : as.length = np
    · rw [if_pos hl] at h1
      by_cases nd : nodupB (nums ps) = true
      · rw [if_pos nd] at h1
        have r := args_rel F1 p1 ha nd
        refine ⟨by rw [← r.len]; exact hl, A, as, F1.al, r, ?_⟩
        cases q : fn as with
        | ok rv as' =>
          simp only [q] at h1
          cases rv with
          | v d =>
              intro v H' po rr
              obtain ⟨F2, S2⟩ := F1.call p1 ha nd po (fun _ z => z) (fun _ _ z _ => z) po.al
              exact h1 v H' F2 (S1.trans S2) rr
          | b ds =>
              intro p xs H' po hn hp rr
              have sub : ∀ a, A a → add1 A p a := fun _ z => .inl z
              have al' : Al (add1 A p) H' := fun a z => z.elim (po.al a) fun z => ⟨.lst xs, by rw [z]; exact hp, rfl⟩
              have po' := po.less sub al'
              obtain ⟨F2, S2⟩ := F1.call p1 ha nd po' (fun _ z => z) (fun _ _ z _ => z) po.al
              exact h1 _ H' F2 (S1.trans S2) ⟨p, xs, rfl, hp, F1.nA hn, RL.less al' sub rr⟩
        | exc c d as' =>
          simp only [q] at h1
          intro cls dd H' po x
          obtain ⟨F2, S2⟩ := F1.call p1 ha nd po (fun _ z => z) (fun _ _ z _ => z) po.al
          exact h1 cls dd H' F2 S2 x
        | bad => simp only [q] at h1; exact h1.elim
      · rw [if_neg nd] at h1; exact h1.elim
    · rw [if_neg hl] at h1; exact h1.elim
theorem t_callF {np : Nat} {fn : Fn} {os : List Od} : ∀ σ H Q, rdF g W (mCl np fn os) σ H Q → tCg (spF g np fn) W (rdOs g W os) σ H Q := fun σ H Q ⟨f, A, e, F, h⟩ => by
  unfold mCl mCall at h
  rw [mb_assoc] at h
  refine bAs1 os h F fun ps e1 vs H1 F1 S1 p1 h1 => ?_
  unfold mb at h1
  cases ha : argsOf e1 ps with
  | none => simp only [ha] at h1; exact h1.elim
  | some as =>
    simp only [ha] at h1
    by_cases hl : as.length = np
    · rw [if_pos hl] at h1
      by_cases nd : nodupB (nums ps) = true
      · rw [if_pos nd] at h1
        have r := args_rel F1 p1 ha nd
        refine ⟨by rw [← r.len]; exact hl, A, as, F1.al, r, ?_⟩
        cases q : fn as with
        | ok rv as' =>
          simp only [q] at h1
          cases rv with
          | v d => exact h1.elim
          | b ds =>
              intro p xs H' po hn hp rr
              have sub : ∀ a, A a → add1 A p a := fun _ z => .inl z
              have al' : Al (add1 A p) H' := fun a z => z.elim (po.al a) fun z => ⟨.lst xs, by rw [z]; exact hp, rfl⟩
              have po' := po.less sub al'
              obtain ⟨F2, S2⟩ := F1.call p1 ha nd po' (fun _ z => z) (fun _ _ z _ => z) po.al
              obtain ⟨F3, _⟩ := F1.call p1 ha nd po sub (fun a o z q => z.elim id fun z => by rw [z, hn] at q; cases q) al'
              exact h1 p xs H' F2 F3 (F1.nA hn) (S1.trans S2) (FR.none_of (f := f) S1 hn) hp rr
        | exc c d as' =>
          simp only [q] at h1
          intro cls dd H' po x
          obtain ⟨F2, S2⟩ := F1.call p1 ha nd po (fun _ z => z) (fun _ _ z _ => z) po.al
          exact h1 cls dd H' F2 S2 x
        | bad => simp only [q] at h1; exact h1.elim
      · rw [if_neg nd] at h1; exact h1.elim
    · rw [if_neg hl] at h1; exact h1.elim
end
end
end Fw
namespace Fw
open L2 PyProof.Rows PySem PySem.Spec
section
variable {g : GC} {X : Cx} {W : WK}
def wipeE (e : Ev) : List Nat → Ev
  | [] => e
  | v :: vs => (wipeE e vs).set v .emp
theorem FR.none1 {f : Fx} {A : Addr → Prop} {H : Hp} {σ : Sv} {e : Ev} (F : FR g f A H σ e) {i : Nat} (h : f.pa i = none) : FR g f A H (σ.set i none) (e.set i .emp) where
  len := by rw [List.length_set, List.length_set]; exact F.len
  sl := fun j s o h1 h2 => by
    rcases get_set h1 with ⟨rfl, _, rfl⟩ | ⟨n, h1⟩
    · exact h
    · rw [List.getElem?_set_ne n] at h2
      exact F.sl j s o h1 h2
  inj := fun a b s t p h1 h2 b1 b2 s1 s2 => by
    rcases get_set h1 with ⟨_, _, rfl⟩ | ⟨n1, h1⟩
    · cases b1
    · rcases get_set h2 with ⟨_, _, rfl⟩ | ⟨n2, h2⟩
      · cases b2
      · rw [List.getElem?_set_ne n1] at s1; rw [List.getElem?_set_ne n2] at s2
        exact F.inj a b s t p h1 h2 b1 b2 s1 s2
  nt := fun a s p h1 b1 s1 => by
    rcases get_set h1 with ⟨_, _, rfl⟩ | ⟨n1, h1⟩
    · cases b1
    · rw [List.getElem?_set_ne n1] at s1
      exact F.nt a s p h1 b1 s1
  tp := F.tp
  ob := F.ob
  ob0 := F.ob0
  pb := fun i p q => by rw [List.length_set]; exact F.pb i p q
  al := F.al
  keep := F.keep
theorem FR.wipe {f : Fx} {A : Addr → Prop} {H : Hp} {σ : Sv} {e : Ev} (F : FR g f A H σ e) : ∀ {own : List Nat}, (∀ i ∈ own, f.pa i = none) → FR g f A H (L2.wipe σ own) (wipeE e own)
  | [], _ => F
  | v :: vs, h => (FR.wipe F fun i hi => h i (List.mem_cons_of_mem _ hi)).none1 (h v List.mem_cons_self)
theorem wipe_get {σ : Sv} : ∀ {vs : List Nat} {j : Nat}, j ∉ vs → (L2.wipe σ vs)[j]? = σ[j]?
  | [], _, _ => rfl
  | v :: vs, j, h => by
    unfold L2.wipe
    rw [List.getElem?_set_ne (fun z : v = j => h (by rw [z]; exact List.mem_cons_self))]
    exact wipe_get fun z => h (List.mem_cons_of_mem _ z)
theorem wipe_in {σ : Sv} : ∀ {vs : List Nat} {j : Nat}, j ∈ vs → j < σ.length → (L2.wipe σ vs)[j]? = some none
  | v :: vs, j, h, hl => by
    unfold L2.wipe
    by_cases q : v = j
    · subst q; rw [List.getElem?_set_self (by rw [wipe_length]; exact hl)]
    · rw [List.getElem?_set_ne q]
      rcases List.mem_cons.mp h with z | z
      · exact absurd z.symm q
      · exact wipe_in z hl
theorem wipe_eq {σ σ' : Sv} {vs sl : List Nat} (hl : σ'.length = σ.length) (h : ∀ j : Nat, j ∉ sl → σ'[j]? = σ[j]?) (hs : ∀ j ∈ sl, j ∈ vs) : L2.wipe σ' vs = L2.wipe σ vs := by
  apply List.ext_getElem?
  intro j
  by_cases q : j ∈ vs
  · by_cases hj : j < σ.length
    · rw [wipe_in q hj, wipe_in q (by rw [hl]; exact hj)]
    · rw [List.getElem?_eq_none (by rw [wipe_length]; omega), List.getElem?_eq_none (by rw [wipe_length]; omega)]
  · rw [wipe_get q, wipe_get q]
    exact h j fun z => q (hs j z)
theorem wipe_wipe {σ : Sv} {vs : List Nat} : L2.wipe (L2.wipe σ vs) vs = L2.wipe σ vs := wipe_eq (wipe_length σ vs) (sl := vs) (fun j hj => wipe_get hj) fun _ h => h
def backE (e e' : Ev) (own : List Nat) : Ev := match own with
  | [] => e'
  | v :: vs => match e[v]? with
    | some s => (backE e e' vs).set v s
    | none => backE e e' vs
theorem backE_length (e e' : Ev) : ∀ own : List Nat, (backE e e' own).length = e'.length
  | [] => rfl
  | v :: vs => by
    unfold backE
    cases e[v]? with
    | none => exact backE_length e e' vs
    | some s => simp only [List.length_set]; exact backE_length e e' vs
theorem backE_get {e e' : Ev} (hl : e'.length = e.length) : ∀ {own : List Nat} {j : Nat} {s : Sl}, (backE e e' own)[j]? = some s → (j ∈ own ∧ e[j]? = some s) ∨ (j ∉ own ∧ e'[j]? = some s)
  | [], j, s, h => .inr ⟨by simp, h⟩
  | v :: vs, j, s, h => by
    unfold backE at h
    have next : (backE e e' vs)[j]? = some s → v ≠ j → (j ∈ v :: vs ∧ e[j]? = some s) ∨ (j ∉ v :: vs ∧ e'[j]? = some s) := fun h n => by
      rcases backE_get hl h with ⟨h1, h2⟩ | ⟨h1, h2⟩
      · exact .inl ⟨List.mem_cons_of_mem _ h1, h2⟩
      · exact .inr ⟨fun z => (List.mem_cons.mp z).elim (fun z => n z.symm) h1, h2⟩
    cases q : e[v]? with
    | none =>
      simp only [q] at h
      by_cases z : v = j
      · subst z
        have := (List.getElem?_eq_some_iff.mp h).1
        rw [backE_length, hl] at this
        rw [List.getElem?_eq_getElem this] at q; cases q
      · exact next h z
    | some s0 =>
      simp only [q] at h
      rcases get_set h with ⟨rfl, _, rfl⟩ | ⟨n, h⟩
      · exact .inl ⟨List.mem_cons_self, q⟩
      · exact next h n
def ownOk (e : Ev) (own : List Nat) : Bool := own.all fun i => match e[i]? with
  | some .emp => true
  | some (.val _) => true
  | _ => false
def mLcL (own : List Nat) (bd : D → M Unit) (t : M Bool) (el : M D) : List D → List D → M (List D)
  | [], acc => fun e => .ok acc e
  | d :: ds, acc => fun e => match bd d e with
    | .ok _ e1 => (match t e1 with
      | .ok true e2 => (match el e2 with
        | .ok y e3 => if acc.length < 1000000 then mLcL own bd t el ds (acc ++ [y]) (wipeE e3 own) else .bad
        | _ => .bad)
      | .ok false e2 => mLcL own bd t el ds acc (wipeE e2 own)
      | _ => .bad)
    | _ => .bad
def mLc (mi : M (List D)) (own : List Nat) (bd : D → M Unit) (t : M Bool) (el : M D) : M (List D) := mb mi fun ds e => if ownOk e own = true then (match mLcL own bd t el ds [] (wipeE e own) with
  | .ok ys e' => .ok ys (backE e e' own)
  | _ => .bad) else .bad
theorem Fin.bI {f : Fx} {A : Addr → Prop} {σ : Sv} {H : Hp} {e : Ev} {β : Type} {ok : β → Ev → Prop} {ma : M (List D)} {k : List D → M β} (h : Fin g W f A σ H ok (mb ma k e)) (F : FR g f A H σ e) {G : It → Hp → Prop}
    (go : ∀ ds e1 J H1, FR g f A H1 σ e1 → Step A H H1 → Wlk g A H1 J ds → Fin g W f A σ H1 ok (k ds e1) → G J H1) : rdI g W ma σ H G := by
  refine ⟨f, A, e, F, ?_⟩
  unfold mb at h
  cases q : ma e with
  | ok d e1 => rw [q] at h; exact fun J H1 F1 S1 r => go d e1 J H1 F1 S1 r (h.from S1)
  | exc c d e1 => rw [q] at h; exact h
  | bad => rw [q] at h; exact h
abbrev W0 : WK := fun _ _ _ _ => False
abbrev Fx.tm (f : Fx) (D : Addr) (ys : List V) : Fx := { f with T := upd f.T D (.lst ys) }
theorem FR.tmp {f : Fx} {A : Addr → Prop} {H : Hp} {σ : Sv} {e : Ev} (F : FR g f A H σ e) {D : Addr} (hD : H D = none) : FR g (f.tm D []) (add1 A D) (upd H D (.lst [])) σ e := by
  have F1 := F.new (xs := []) hD
  refine ⟨F1.len, fun i s o h1 h2 => F1.sl i s o h1 h2, F1.inj, fun i s p h1 b1 s1 => ?_, fun a o h => ?_, F1.ob, F1.ob0, F1.pb, F1.al, F1.keep⟩
  · have : p ≠ D := fun z => F.nA hD (z ▸ F.boxA h1 b1 s1)
    show upd f.T D _ p = none
    rw [upd_ne this]; exact F.nt i s p h1 b1 s1
  · by_cases q : a = D
    · subst q
      have h : upd f.T a (.lst []) a = some o := h
      rw [upd_same] at h; cases h
      exact ⟨.inr rfl, upd_same⟩
    · have h : upd f.T D (.lst []) a = some o := h
      rw [upd_ne q] at h
      exact F1.tp a o h
theorem FR.tmApp {f : Fx} {A : Addr → Prop} {H : Hp} {σ : Sv} {e : Ev} {D : Addr} {ys zs : List V} (F : FR g (f.tm D ys) A H σ e) (h0 : f.H0 D = none) (hpa : ∀ i, f.pa i ≠ some D) : FR g (f.tm D zs) A (upd H D (.lst zs)) σ e ∧ Mono A H A (upd H D (.lst zs)) := by
  obtain ⟨hA, hH⟩ := F.tp D (.lst ys) upd_same
  have st : ∀ a o, a ≠ D → H a = some o → upd H D (.lst zs) a = some o := fun a o n h => by rw [upd_ne n]; exact h
  have m : Mono A H A (upd H D (.lst zs)) := ⟨F.al, fun a o h n => st a o (fun z => n (z ▸ hA)) h, fun _ _ h _ => h⟩
  have nb : ∀ {i : Nat} {s : Sl} {p : Addr}, e[i]? = some s → s.isBox = true → σ[i]? = some (some (.ref p)) → p ≠ D := fun {i s p} h b q z => by
    have := F.nt i s p h b q
    rw [z] at this
    have this : upd f.T D (.lst ys) D = none := this
    rw [upd_same] at this; cases this
  refine ⟨⟨F.len, fun i s o h1 h2 => ?_, F.inj, fun i s p h1 b1 s1 => ?_, fun a o h => ?_, F.ob, F.ob0, F.pb, fun a h => ?_, fun a o h n => ?_⟩, m⟩
  · have q := F.sl i s o h1 h2
    cases s with
    | emp => exact q
    | val d => obtain ⟨a, v, b, c⟩ := q; exact ⟨a, v, b, R.mono m d c⟩
    | box d => obtain ⟨a, p, b, c, c0, dd⟩ := q; exact ⟨a, p, b, c, c0, Bx.mono m (fun u hu => st p u (nb h1 rfl (by rw [h2, b])) hu) dd⟩
    | pbox d => obtain ⟨p, a, b, c, dd⟩ := q; exact ⟨p, a, b, c, Bx.mono m (fun u hu => st p u (nb h1 rfl (by rw [h2, b])) hu) dd⟩
  · have n := nb h1 b1 s1
    have := F.nt i s p h1 b1 s1
    show upd f.T D (.lst zs) p = none
    have this : upd f.T D (.lst ys) p = none := this
    rw [upd_ne n] at this ⊢; exact this
  · by_cases q : a = D
    · subst q
      have h : upd f.T a (.lst zs) a = some o := h
      rw [upd_same] at h; cases h
      exact ⟨hA, upd_same⟩
    · have h : upd f.T D (.lst zs) a = some o := h
      rw [upd_ne q] at h
      have := F.tp a o (by show upd f.T D (.lst ys) a = some o; rw [upd_ne q]; exact h)
      exact ⟨this.1, st a o q this.2⟩
  · obtain ⟨o, h1, h2⟩ := F.al a h
    by_cases q : a = D
    · exact ⟨.lst zs, by rw [q]; exact upd_same, rfl⟩
    · exact ⟨o, st a o q h1, h2⟩
  · have q : a ≠ D := fun z => by rw [z] at h; rw [show (f.tm D zs).H0 D = none from h0] at h; cases h
    exact st a o q (F.keep a o h n)
theorem FR.back {f : Fx} {A : Addr → Prop} {H H' : Hp} {σ : Sv} {e e' : Ev} {own : List Nat} {D : Addr} {ys : List V} (F : FR g f A H σ e) (hD : H D = none) (ho : ownOk e own = true) (F' : FR g (f.tm D ys) (add1 A D) H' (L2.wipe σ own) e')
    (S : Step (add1 A D) (upd H D (.lst [])) H') : FR g f A H' σ (backE e e' own) ∧ FR g f (add1 A D) H' σ (backE e e' own) ∧ Step A H H' := by
  have hl : e'.length = e.length := by rw [← F'.len, wipe_length, F.len]
  have nA := F.nA hD
  have st : Step A H H' := ⟨fun a o h n => S.st a o (by rw [upd_ne (fun z => by rw [z, hD] at h; cases h)]; exact h) fun z => z.elim n fun z => (by rw [z, hD] at h; cases h), fun a o h => S.un a o (by rw [upd_ne (fun z => by rw [z, hD] at h; cases h)]; exact h)⟩
  have nb : ∀ {i : Nat} {s : Sl} {p : Addr}, e'[i]? = some s → s.isBox = true → (L2.wipe σ own)[i]? = some (some (.ref p)) → p ≠ D ∧ f.T p = none := fun {i s p} h b q => by
    have z := F'.nt i s p h b q
    have z : upd f.T D (.lst ys) p = none := z
    have n : p ≠ D := fun y => by rw [y, upd_same] at z; cases z
    rw [upd_ne n] at z
    exact ⟨n, z⟩
  have own_no : ∀ {j : Nat} {s : Sl}, j ∈ own → e[j]? = some s → s.isBox = true → False := fun {j s} hj h b => by
    have q := List.all_eq_true.mp ho j hj
    simp only [h] at q
    cases s with
    | emp => cases b
    | val _ => cases b
    | box _ => cases q
    | pbox _ => cases q
  have fT : f.T D = none := by
    cases z : f.T D with
    | none => rfl
    | some o => have := (F.tp D o z).2; rw [hD] at this; cases this
  have tp : ∀ a o, f.T a = some o → A a ∧ H' a = some o := fun a o h => by
    have n : a ≠ D := fun z => by rw [z, fT] at h; cases h
    exact ⟨(F.tp a o h).1, (F'.tp a o (by show upd f.T D (.lst ys) a = some o; rw [upd_ne n]; exact h)).2⟩
  have all : ∀ (A' : Addr → Prop), (∀ a, A a → A' a) → (∀ a, A' a → add1 A D a) → FR g f A' H' σ (backE e e' own) := fun A' sub sub2 => by
    have m : Mono A H A' H' := ⟨F.al, st.st, fun a o z q => (sub2 a z).elim id fun z => by rw [z, hD] at q; cases q⟩
    have m2 : Mono (add1 A D) H' A' H' := ⟨F'.al, fun _ _ z _ => z, fun a _ z _ => sub2 a z⟩
    have bx : ∀ {j : Nat} {s : Sl}, (backE e e' own)[j]? = some s → s.isBox = true → j ∉ own ∧ e'[j]? = some s := fun {j s} h b => by
      rcases backE_get hl h with ⟨h1, h2⟩ | h
      · exact (own_no h1 h2 b).elim
      · exact h
    refine ⟨by rw [backE_length, hl]; exact F.len, fun j s o h1 h2 => ?_, fun i j s t p h1 h2 b1 b2 s1 s2 => ?_, fun j s p h1 b1 s1 => ?_, fun a o h => ⟨sub a (tp a o h).1, (tp a o h).2⟩, fun a h => sub a (F.ob a h), F.ob0, fun i p h => by rw [backE_length, hl]; exact F.pb i p h, fun a h => F'.al a (sub2 a h), fun a o h n => F'.keep a o h n⟩
    · rcases backE_get hl h1 with ⟨h3, h4⟩ | ⟨h3, h4⟩
      · have q := F.sl j s o h4 h2
        cases s with
        | emp => exact q
        | val d => obtain ⟨a, v, b, c⟩ := q; exact ⟨a, v, b, R.mono m d c⟩
        | box d => exact (own_no h3 h4 rfl).elim
        | pbox d => exact (own_no h3 h4 rfl).elim
      · have h5 : (L2.wipe σ own)[j]? = some o := by rw [wipe_get h3]; exact h2
        have q := F'.sl j s o h4 h5
        cases s with
        | emp => exact q
        | val d => obtain ⟨a, v, b, c⟩ := q; exact ⟨a, v, b, R.mono m2 d c⟩
        | box d =>
          obtain ⟨a, p, b, c, c0, dd⟩ := q
          have n := nb h4 rfl (by rw [h5, b])
          exact ⟨a, p, b, sub p (c.elim id fun z => absurd z n.1), c0, Bx.mono m2 (fun _ z => z) dd⟩
        | pbox d =>
          obtain ⟨p, a, b, c, dd⟩ := q
          have n := nb h4 rfl (by rw [h5, b])
          exact ⟨p, a, b, sub p (c.elim id fun z => absurd z n.1), Bx.mono m2 (fun _ z => z) dd⟩
    · obtain ⟨o1, q1⟩ := bx h1 b1
      obtain ⟨o2, q2⟩ := bx h2 b2
      exact F'.inj i j s t p q1 q2 b1 b2 (by rw [wipe_get o1]; exact s1) (by rw [wipe_get o2]; exact s2)
    · obtain ⟨o1, q1⟩ := bx h1 b1
      exact (nb q1 b1 (by rw [wipe_get o1]; exact s1)).2
  exact ⟨all A (fun _ z => z) (fun _ z => .inl z), all (add1 A D) (fun _ z => .inl z) (fun _ z => z), st⟩
theorem t_lc {own sl : List Nat} {mi : M (List D)} {bd : D → M Unit} {mt : M Bool} {el : M D} (σ : Sv) (H : Hp) (Q : VK) (f : Fx) (A : Addr → Prop) (e : Ev) (F : FR g f A H σ e)
    (h : Fin g W f A σ H (fun ds e' => ∀ p xs H', FR g f A H' σ e' → FR g f (add1 A p) H' σ e' → ¬ A p → Step A H H' → H p = none → H' p = some (.lst xs) → RL g (add1 A p) H' ds xs → Q (.ref p) H') (mLc mi own bd mt el e)) (hsl : ∀ j ∈ sl, j ∈ own) :
    tLc (rdI g W mi) (rdG g sl bd) (rdT g W0 mt) (rdE g W0 el) own σ H Q := by
  refine Fin.bI h F fun ds e1 J H1 F1 S1 wk h1 => ?_
  intro D hD
  by_cases ho : ownOk e1 own = true
  · simp only [if_pos ho] at h1
    have hpa : ∀ i ∈ own, f.pa i = none := fun i hi => by
      have q := List.all_eq_true.mp ho i hi
      cases z : e1[i]? with
      | none => simp only [z] at q; cases q
      | some s =>
        simp only [z] at q
        refine F1.pa0 z fun d y => ?_
        rw [y] at q; cases q
    have h0 := F1.h0 hD
    have hpD : ∀ i, f.pa i ≠ some D := fun i z => F1.nA hD (F1.ob D (F1.pb i D z).1)
    have F2 : FR g (f.tm D []) (add1 A D) (upd H1 D (.lst [])) (L2.wipe σ own) (wipeE e1 own) := FR.wipe (F1.tmp hD) hpa
    generalize hr : mLcL own bd mt el ds [] (wipeE e1 own) = res at h1
    have good : ∃ ys e', res = .ok ys e' ∧ ∀ p xs H', FR g f A H' σ (backE e1 e' own) → FR g f (add1 A p) H' σ (backE e1 e' own) → ¬ A p → Step A H H' → H p = none → H' p = some (.lst xs) → RL g (add1 A p) H' ys xs → Q (.ref p) H' := by
      cases res with
      | ok ys e' => exact ⟨ys, e', rfl, h1⟩
      | exc _ _ _ => exact h1.elim
      | bad => exact h1.elim
    obtain ⟨ys, ef, hres, fin⟩ := good
    refine ⟨fun i m H' => m = ds.length - i ∧ i ≤ ds.length ∧ ∃ e' acc accv, FR g (f.tm D accv) (add1 A D) H' (L2.wipe σ own) e' ∧ Step (add1 A D) (upd H1 D (.lst [])) H' ∧ RL g (add1 A D) H' acc accv ∧ mLcL own bd mt el (ds.drop i) acc e' = .ok ys ef,
      ⟨ds.length, rfl, Nat.zero_le _, _, [], [], F2, .refl, rfl, by rw [List.drop_zero, hr, hres]⟩, ?_⟩
    rintro i m H2 ⟨rfl, hi, e2, acc, accv, F3, S3, r3, run⟩
    have M3 : Mono A H1 (add1 A D) H2 := ⟨F1.al, fun a o z n => S3.st a o (by rw [upd_ne (fun y => by rw [y, hD] at z; cases z)]; exact z) fun y => y.elim n fun y => (by rw [y, hD] at z; cases z), fun a o z q => z.elim id fun z => (by rw [z, hD] at q; cases q)⟩
    obtain ⟨w1, w2⟩ := wk (add1 A D) H2 i M3 F3.al
    have hDl : H2 D = some (.lst accv) := (F3.tp D _ upd_same).2
    by_cases hlt : i < ds.length
    · right
      have hd : ds[i]? = some ds[i] := List.getElem?_eq_getElem hlt
      obtain ⟨g1, g2⟩ := w1 _ hd
      rw [List.drop_eq_getElem_cons hlt] at run
      refine ⟨g1, fun H' => ∃ e' acc accv, FR g (f.tm D accv) (add1 A D) H' (L2.wipe σ own) e' ∧ Step (add1 A D) (upd H1 D (.lst [])) H' ∧ RL g (add1 A D) H' acc accv ∧ mLcL own bd mt el (ds.drop (i + 1)) acc e' = .ok ys ef,
        fun H' q => ⟨ds.length - (i + 1), by omega, rfl, hlt, q⟩, fun x H3 y => ?_⟩
      obtain ⟨s3, rx⟩ := g2 x H3 y
      have F4 := F3.same s3
      refine ⟨f.tm D accv, add1 A D, e2, ds[i], F4, rx, ?_⟩
      unfold mLcL at run
      cases q : bd ds[i] e2 with
      | exc _ _ _ => simp only [q] at run; cases run
      | bad => simp only [q] at run; cases run
      | ok u e3 =>
        simp only [q] at run
        intro σ4 H4 F5 S5 sm ln
        have hw : L2.wipe σ4 own = L2.wipe σ own := by
          rw [← wipe_wipe (σ := σ)]
          exact wipe_eq ln (sl := sl) sm hsl
        refine ⟨hw, f.tm D accv, add1 A D, e3, F5, ?_⟩
        cases q2 : mt e3 with
        | exc _ _ _ => simp only [q2] at run; cases run
        | bad => simp only [q2] at run; cases run
        | ok b e4 =>
          simp only [q2] at run
          intro H5 F6 S6
          have SS : Step (add1 A D) (upd H1 D (.lst [])) H5 := S3.trans ((Step.of s3).trans (S5.trans S6))
          have r5 : RL g (add1 A D) H5 acc accv := F3.rl ((Step.of s3).trans (S5.trans S6)) r3
          cases b with
          | false =>
            simp only at run
            rw [if_neg Bool.false_ne_true]
            refine ⟨wipeE e4 own, acc, accv, ?_, SS, r5, run⟩
            have := FR.wipe F6 (own := own) hpa
            rw [hw] at this; exact this
          | true =>
            simp only at run
            rw [if_pos rfl]
            refine ⟨f.tm D accv, add1 A D, e4, F6, ?_⟩
            cases q3 : el e4 with
            | exc _ _ _ => simp only [q3] at run; cases run
            | bad => simp only [q3] at run; cases run
            | ok yd e5 =>
              simp only [q3] at run
              intro yv H6 F7 S7 ry
              by_cases hz : acc.length < 1000000
              · rw [if_pos hz] at run
                have r6 : RL g (add1 A D) H6 acc accv := F6.rl S7 r5
                obtain ⟨F8, M8⟩ := FR.tmApp (zs := accv ++ [yv]) F7 h0 hpD
                refine ⟨accv, (F7.tp D _ upd_same).2, by rw [RL.length r6]; exact Nat.lt_of_lt_of_le hz million, wipeE e5 own, acc ++ [yd], accv ++ [yv], ?_, ?_, ?_, run⟩
                · have := FR.wipe F8 (own := own) hpa
                  rw [hw] at this; exact this
                · refine SS.trans (S7.trans ⟨fun a o z n => M8.st a o z n, fun a o z => ?_⟩)
                  by_cases y : a = D
                  · exact ⟨_, by rw [y]; exact upd_same⟩
                  · exact ⟨o, by rw [upd_ne y]; exact z⟩
                · exact RL.mono M8 _ (RL.append r6 ⟨yv, [], rfl, ry, rfl⟩)
              · rw [if_neg hz] at run; cases run
    · have e0 : i = ds.length := by omega
      left
      refine ⟨w2 (by omega), ?_⟩
      rw [e0, List.drop_length] at run
      unfold mLcL at run
      cases run
      obtain ⟨B1, B2, B3⟩ := FR.back F1 hD ho F3 S3
      exact fin D accv H2 B1 B2 (F1.nA hD) (S1.trans B3) (FR.none_of (f := f) S1 hD) hDl r3
  · simp only [if_neg ho] at h1; exact h1.elim
theorem cf_lc {elt tg iter : Expr} {ifs : List Expr} {scope : Scope} {own : List (Str × Nat)} {pos : Pos} {mi : M (List D)} {sl : List Nat} {bd : D → M Unit} {mt : M Bool} {el : M D}
    (h : PE X (.ListComp elt [⟨tg, iter, ifs, 0⟩] scope pos) (tLc (rdI g W mi) (rdG g sl bd) (rdT g W0 mt) (rdE g W0 el) (own.map (·.2)))) (hsl : ∀ j ∈ sl, j ∈ own.map (·.2)) : CF g X W (.ListComp elt [⟨tg, iter, ifs, 0⟩] scope pos) (mLc mi (own.map (·.2)) bd mt el) :=
  PE.imp h fun σ H Q ⟨f, A, e, F, h⟩ => t_lc σ H Q f A e F h hsl
end
end Fw
namespace Fw
open L2 PyProof.Rows PySem PySem.Spec
section
variable {g : GC} {X : Cx} {W : WK}
def dItems : D → Option (List D)
  | .lst ds => some ds
  | .tup ds => some ds
  | .scr ns => some (ns.map D.int)
  | .ktu ns => some (ns.map D.int)
  | .str z => some (z.cps.toList.map fun c => D.str ⟨#[c]⟩)
  | _ => none
def mIt (m : M D) : M (List D) := mb m fun d => mo (dItems d)
abbrev iAny (K : PySem.W.Frag) (tl : TE) : TI := fun σ H Rk => tl σ H fun x H1 => (∃ a, x = .ref a ∧ (∃ xs, SqL K H1 a xs) ∧ Rk (Itl K a) H1) ∨ (∃ a, x = .ref a ∧ (∃ xs, SqT K H1 a xs) ∧ Rk (Itt K a) H1) ∨ ∃ z, x = .str z ∧ Rk (Its z) H1
theorem pi_any {tg l : Expr} {tl : TE} (hl : PE X l tl) : PI X tg l (iAny X.K tl) := by
  refine ⟨fun pins s σ H Rk I h => thn (hl.run pins s σ H _ I h) fun v s1 ⟨x, H1, I1, r1, q1⟩ => ?_⟩
  have new : ∀ b ∈ [s1.heap.objs.size], FpOk X pins H1 b := fun b hb => by
    rw [List.mem_singleton.mp hb]
    exact I1.fpOk (Nat.le_refl _) (I1.hok.fresh (Nat.le_refl _))
  rcases q1 with ⟨a, rfl, ⟨xs, hq⟩, q⟩ | ⟨a, rfl, ⟨xs, hq⟩, q⟩ | ⟨z, rfl, q⟩
  · cases r1
    obtain ⟨its, rv, p, _⟩ := I1.list hq
    exact wpAny_pyIter_list p.isList ⟨_, _, _, _, H1, rfl, I1.kept (t' := s1.toks) fun b o e => Heap.get?_push_of_some _ e, turn_list a _, ⟨_, Heap.get?_push_size _ rfl, rfl, rfl⟩, new, q⟩
  · cases r1
    obtain ⟨its, rv, p, _⟩ := I1.tuple hq
    exact wpAny_pyIter_tuple (show s1.heap.IsTuple a its.toArray from p) ⟨_, _, _, _, H1, rfl, I1.kept (t' := s1.toks) fun b o e => Heap.get?_push_of_some _ e, turn_tuple a _, ⟨_, Heap.get?_push_size _ rfl, rfl, rfl⟩, new, q⟩
  · obtain ⟨t, rfl⟩ := r1
    cases ha : z.cps.all (· < 128)
    · exact wpAny_pyIter_wide ha (pi_one (tk := s1.toks) I1 _ (turn_str _ z t "str_iterator" (.inr rfl)) ⟨_, Heap.get?_push_size _ rfl, rfl, rfl⟩ q)
    · exact wpAny_pyIter_ascii ha (pi_one (tk := s1.toks) I1 _ (turn_str _ z t "str_ascii_iterator" (.inl rfl)) ⟨_, Heap.get?_push_size _ rfl, rfl, rfl⟩ q)
theorem wlk_list {A : Addr → Prop} {H : Hp} {a : Addr} {xs : List V} {ds : List D} (hq : ∀ A' H', Mono A H A' H' → SqL g.K H' a xs) (r : RL g A H ds xs) : Wlk g A H (Itl g.K a) ds := fun A' H' i m al => by
  refine ⟨fun d hd => ?_, fun hi => have hi := Nat.le_of_eq hi; ⟨xs, hq A' H' m, by rw [RL.length r]; exact hi⟩⟩
  obtain ⟨v, hv, rv⟩ := RL.get (RL.mono m ds r) hd
  refine ⟨⟨xs, v, hq A' H' m, hv⟩, fun x H2 y => ?_⟩
  obtain ⟨rfl, y⟩ := y
  have := y xs (hq A' _ m)
  rw [hv] at this; cases this
  exact ⟨Same.refl _, rv⟩
theorem wlk_tup {A : Addr → Prop} {H : Hp} {a : Addr} {xs : List V} {ds : List D} (hq : ∀ A' H', Mono A H A' H' → SqT g.K H' a xs) (r : RL g A H ds xs) : Wlk g A H (Itt g.K a) ds := fun A' H' i m al => by
  refine ⟨fun d hd => ?_, fun hi => have hi := Nat.le_of_eq hi; ⟨xs, hq A' H' m, by rw [RL.length r]; exact hi⟩⟩
  obtain ⟨v, hv, rv⟩ := RL.get (RL.mono m ds r) hd
  refine ⟨⟨xs, v, hq A' H' m, hv⟩, fun x H2 y => ?_⟩
  obtain ⟨rfl, y⟩ := y
  have := y xs (hq A' _ m)
  rw [hv] at this; cases this
  exact ⟨Same.refl _, rv⟩
theorem wlk_str {A : Addr → Prop} {H : Hp} {z : Str} : Wlk g A H (Its z) (z.cps.toList.map fun c => D.str ⟨#[c]⟩) := fun A' H' i m al => by
  refine ⟨fun d hd => ?_, fun hi => have hi := Nat.le_of_eq hi; (show z.cps.size ≤ i by simpa using hi)⟩
  rw [List.getElem?_map] at hd
  cases q : z.cps.toList[i]? with
  | none => rw [q] at hd; cases hd
  | some c =>
    rw [q] at hd; cases hd
    have hi : i < z.cps.size := by simpa using (List.getElem?_eq_some_iff.mp q).1
    refine ⟨hi, fun x H2 y => ?_⟩
    obtain ⟨rfl, c', h1, rfl⟩ := y
    have : z.cps[i]? = some c := by simpa using q
    rw [this] at h1; cases h1
    exact ⟨Same.refl _, rfl⟩
theorem wlk_rng {A : Addr → Prop} {H : Hp} {lo : Int} {n : Nat} : Wlk g A H (Itr lo n) ((List.range n).map fun (i : Nat) => D.int (lo + (i : Int))) := fun A' H' i m al => by
  refine ⟨fun d hd => ?_, fun hi => have hi := Nat.le_of_eq hi; (show n ≤ i by simpa using hi)⟩
  have hi : i < n := by
    have := (List.getElem?_eq_some_iff.mp hd).1
    simpa using this
  rw [List.getElem?_map, List.getElem?_range hi] at hd
  cases hd
  refine ⟨hi, fun x H2 y => ?_⟩
  obtain ⟨rfl, rfl⟩ := y
  exact ⟨Same.refl _, rfl⟩
theorem ci_any {tg l : Expr} {m : M D} (hK : X.K = g.K) (h : CE g X W l m) : CI g X W tg l (mIt m) := PI.imp (pi_any h) fun σ H Q ⟨f, A, e, F, h⟩ => by
  refine Fin.bE h F fun d e1 v H1 F1 S1 r h1 => ?_
  obtain ⟨ds, q, h2⟩ := Fin.mo h1
  rw [hK]
  cases d with
  | lst ds' =>
    cases q
    obtain ⟨a, xs, rfl, ha, n, rl⟩ := r
    exact .inl ⟨a, rfl, ⟨xs, SqL.of ha⟩, h2 _ H1 F1 S1 (wlk_list (fun A' H' m => SqL.of (m.st a _ ha n)) rl)⟩
  | tup ds' =>
    cases q
    obtain ⟨a, xs, rfl, ha, rl⟩ := r
    exact .inr (.inl ⟨a, rfl, ⟨xs, SqT.of ha⟩, h2 _ H1 F1 S1 (wlk_tup (fun A' H' m => SqT.of (m.ins rfl ha)) rl)⟩)
  | scr ns =>
    cases q
    obtain ⟨a, rfl, ha⟩ := r
    exact .inl ⟨a, rfl, ⟨_, ha.sq⟩, h2 _ H1 F1 S1 (wlk_list (fun A' H' m => (m.lsr ha).sq) (RL.ints ns))⟩
  | ktu ns =>
    cases q
    obtain ⟨a, rfl, ha⟩ := r
    exact .inr (.inl ⟨a, rfl, ⟨_, ha.sq⟩, h2 _ H1 F1 S1 (wlk_tup (fun A' H' m => KtX.sq (ha.imp id fun ⟨o, x, y⟩ => ⟨o, m.ins rfl x, y⟩)) (RL.ints ns))⟩)
  | str z =>
    cases q
    obtain rfl : v = .str z := r
    exact .inr (.inr ⟨z, rfl, h2 _ H1 F1 S1 wlk_str⟩)
  | _ => cases q
def rngOk (i : Int) : Bool := decide (i.natAbs < 4611686018427387904)
def dR1 : List D → Option (List D)
  | [.int j] => if rngOk j = true then some ((List.range j.toNat).map fun (i : Nat) => D.int (0 + (i : Int))) else none
  | _ => none
def mIA (op : List D → Option (List D)) (os : List Od) : M (List D) := mb (mAs os) fun ds => mo (op ds)
theorem rngOk_ok {i : Int} (h : rngOk i = true) : -(2 ^ 62) ≤ i ∧ i < 2 ^ 62 := by
  have h : i.natAbs < 4611686018427387904 := of_decide_eq_true h
  constructor
  · show -(4611686018427387904 : Int) ≤ i; omega
  · show i < (4611686018427387904 : Int); omega
theorem ci_range1 {tg a : Expr} {os : List Od} {p pos : Pos} (hg : Gl X "range") (hm : X.mg "range" = none) (ha : COs g X W [a] os) (hs : starEach [a] X.env = [(false, eval a X.env)] := by rfl) : CI g X W tg (.Call (.Name "range" p) [a] [] pos) (mIA dR1 os) := PI.imp (pi_range1 hg hm ha hs) fun σ H Q ⟨f, A, e, F, h⟩ =>
  Fin.bAs h F fun ds e1 vs H1 F1 S1 r h1 => by
    obtain ⟨es, q, h2⟩ := Fin.mo h1
    unfold dR1 at q
    split at q
    · rename_i j
      obtain ⟨y, ys, rfl, rfl, rfl⟩ := r
      by_cases z : rngOk j = true
      · rw [if_pos z] at q; cases q
        exact ⟨j, rfl, (rngOk_ok z).1, (rngOk_ok z).2, h2 _ H1 F1 S1 wlk_rng⟩
      · rw [if_neg z] at q; cases q
    · cases q
def dIx : D → D → Option D
  | .lst ds, .int i => atI ds i
  | .tup ds, .int i => atI ds i
  | .scr ns, .int i => (atI ns i).map D.int
  | .str z, .int i => if z.length ≤ 1000000 then (atI z.cps.toList i).map fun c => D.str ⟨#[c]⟩ else none
  | _, _ => none
theorem RL.atI {A : Addr → Prop} {H : Hp} {ds : List D} {xs : List V} {i : Int} {d : D} (r : RL g A H ds xs) (h : L2.atI ds i = some d) : ∃ v, L2.atI xs i = some v ∧ R g A H d v := by
  unfold L2.atI at h ⊢
  rw [RL.length r]
  cases q : ixN ds.length i with
  | none => rw [q] at h; cases h
  | some j =>
    rw [q] at h
    exact RL.get r h
theorem os_ix : OS g (rIx g.K) dIx := fun A H d1 d2 d v1 v2 Q al r1 r2 q k => by
  cases d1 with
  | lst ds => cases d2 with
    | int i =>
      obtain ⟨a, xs, rfl, ha, rl⟩ := r1
      obtain ⟨v, h1, h2⟩ := RL.atI rl q
      exact .inl ⟨a, xs, i, v, rfl, r2, SqL.of ha, h1, k v H (Same.refl H) h2⟩
    | _ => cases q
  | tup ds => cases d2 with
    | int i =>
      obtain ⟨a, xs, rfl, ha, rl⟩ := r1
      obtain ⟨v, h1, h2⟩ := RL.atI rl q
      exact .inr (.inl ⟨a, xs, i, v, rfl, r2, (SqT.of ha), h1, k v H (Same.refl H) h2⟩)
    | _ => cases q
  | scr ns => cases d2 with
    | int i =>
      obtain ⟨a, rfl, ha⟩ := r1
      obtain ⟨n, h0, rfl⟩ := map_some q
      have h0' : L2.atI (ns.map D.int) i = some (.int n) := by
        unfold L2.atI at h0 ⊢
        rw [List.length_map]
        cases z : ixN ns.length i with
        | none => rw [z] at h0; cases h0
        | some j => rw [z] at h0; simp only [Option.bind_some] at h0 ⊢; rw [List.getElem?_map, h0]; rfl
      obtain ⟨v, h1, h2⟩ := RL.atI (RL.ints (g := g) (A := A) (H := H) ns) h0'
      exact .inl ⟨a, _, i, v, rfl, r2, ha.sq, h1, k v H (Same.refl H) h2⟩
    | _ => cases q
  | str z => cases d2 with
    | int i =>
      simp only [dIx] at q
      by_cases hz : z.length ≤ 1000000
      · rw [if_pos hz] at q
        obtain ⟨c, h0, rfl⟩ := map_some q
        exact .inr (.inr ⟨z, i, c, r1, r2, Nat.le_trans hz million, h0, k _ H (Same.refl H) rfl⟩)
      · rw [if_neg hz] at q; cases q
    | _ => cases q
  | _ => cases q
theorem c_ix {a b : Expr} {oa ob : Od} {pos : Pos} (hK : X.K = g.K) (ha : CO g X W a oa) (hb : CO g X W b ob) (hs : PlainIx b) : CE g X W (.Subscript a b pos) (mOp dIx oa ob) := PE.imp (pe_ix ix_seq ha hb hs) (by rw [hK]; exact t_op os_ix)
def cutD (ds : List D) (lo hi : Option Int) : List D := (ds.drop (HT.sIx ds.length 0 lo)).take (HT.sIx ds.length ds.length hi - HT.sIx ds.length 0 lo)
theorem RL.cut {A : Addr → Prop} {H : Hp} {ds : List D} {xs : List V} (r : RL g A H ds xs) (lo hi : Option Int) : RL g A H (cutD ds lo hi) (cutV xs lo hi) := by
  unfold cutD cutV
  rw [RL.length r]
  exact RL.take _ (RL.drop _ r)
def mPart : Option (M D) → M (Option Int)
  | none => mp none
  | some m => mb m fun d => match d with
    | .int i => mp (some i)
    | _ => fun _ => .bad
def rdP (g : GC) (W : WK) : Option (M D) → TO
  | none => tNoPart
  | some m => tPart (rdE g W m)
abbrev CP (g : GC) (X : Cx) (W : WK) (e : Option Expr) (m : Option (M D)) : Prop := PO X e (rdP g W m)
theorem cp_none : CP g X W none none := po_none
theorem cp_some {e : Expr} {m : M D} (h : CE g X W e m) : CP g X W (some e) (some m) := po_some h
theorem Fin.bP {f : Fx} {A : Addr → Prop} {σ : Sv} {H : Hp} {e : Ev} {β : Type} {ok : β → Ev → Prop} {m : Option (M D)} {k : Option Int → M β} (h : Fin g W f A σ H ok (mb (mPart m) k e)) (F : FR g f A H σ e) {G : Option Int → Hp → Prop}
    (go : ∀ o e1 H1, FR g f A H1 σ e1 → Step A H H1 → Fin g W f A σ H1 ok (k o e1) → G o H1) : rdP g W m σ H G := by
  cases m with
  | none => exact go none e H F .refl h
  | some m =>
    unfold mPart at h
    rw [mb_assoc] at h
    refine Fin.bE h F fun d e1 v H1 F1 S1 r h1 => ?_
    cases d with
    | int i => exact ⟨i, r, go (some i) e1 H1 F1 S1 h1⟩
    | _ => exact h1.elim
def mSl {β : Type} (a : Od) (lo hi : Option (M D)) (op : D → Option Int → Option Int → Option β) : M β := match a with
  | .e m => mb m fun d => mb (mPart lo) fun l => mb (mPart hi) fun u => mo (op d l u)
  | .n i => mb (mN i) fun _ => mb (mPart lo) fun l => mb (mPart hi) fun u => mb (mN i) fun d => mo (op d l u)
def dCutL : D → Option Int → Option Int → Option (List D)
  | .lst ds, lo, hi => some (cutD ds lo hi)
  | .scr ns, lo, hi => some (cutD (ns.map D.int) lo hi)
  | _, _, _ => none
theorem Fin.bS {f : Fx} {A : Addr → Prop} {σ : Sv} {H : Hp} {e : Ev} {β : Type} {ok : β → Ev → Prop} {a : Od} {lo hi : Option (M D)} {op : D → Option Int → Option Int → Option β} (h : Fin g W f A σ H ok (mSl a lo hi op e)) (F : FR g f A H σ e) {G : V → Option Int → Option Int → Hp → Prop}
    (go : ∀ d l u b e1 v H1, FR g f A H1 σ e1 → Step A H H1 → Rt g A H1 d v → op d l u = some b → ok b e1 → G v l u H1) : rdO g W a σ H fun x H1 => rdP g W lo σ H1 fun l H2 => rdP g W hi σ H2 fun u H3 => G x l u H3 := by
  cases a with
  | e m =>
    refine Fin.bE h F fun d e1 v H1 F1 S1 r h1 => ?_
    refine Fin.bP h1 F1 fun l e2 H2 F2 S2 h2 => ?_
    refine Fin.bP h2 F2 fun u e3 H3 F3 S3 h3 => ?_
    obtain ⟨b, q, h4⟩ := Fin.mo h3
    exact go d l u b e3 v H3 F3 (S1.trans (S2.trans S3)) (F1.r (S2.trans S3) r).rt q h4
  | n i =>
    obtain ⟨_, v, hv, _, h1⟩ := Fin.bN h F
    refine ⟨v, hv, ?_⟩
    refine Fin.bP h1 F fun l e2 H2 F2 S2 h2 => ?_
    refine Fin.bP h2 F2 fun u e3 H3 F3 S3 h3 => ?_
    obtain ⟨d, v', hv', r, h4⟩ := Fin.bN h3 F3
    rw [hv] at hv'; cases hv'
    obtain ⟨b, q, h5⟩ := Fin.mo h4
    exact go d l u b e3 v H3 F3 (S2.trans S3) r q h5
theorem cf_sl {a : Expr} {lo hi : Option Expr} {oa : Od} {ml mh : Option (M D)} {pos p2 : Pos} (hK : X.K = g.K) (ha : CO g X W a oa) (hl : CP g X W lo ml) (hh : CP g X W hi mh) : CF g X W (.Subscript a (.Slice lo hi none p2) pos) (mSl oa ml mh dCutL) :=
  PE.imp (pe_slice sl_list ha hl hh) fun σ H Q ⟨f, A, e, F, h⟩ => Fin.bS h F fun d l u b e1 v H1 F1 S1 r q h1 => by
    rw [hK]
    have fin : ∀ (a : Addr) (xs : List V) (ds : List D), v = .ref a → SqL g.K H1 a xs → RL g A H1 ds xs → b = cutD ds l u → rSlL g.K v l u H1 Q := fun a xs ds ev hq rl eb => by
      refine ⟨a, xs, ev, hq, fun p hp => ?_⟩
      rw [eb] at h1
      exact h1 p _ _ (F1.same (Same.new hp)) (F1.new hp) (F1.nA hp) (S1.trans (.of (Same.new hp))) (FR.none_of (f := f) S1 hp) upd_same (RL.mono (Mono.new F1 hp) _ (RL.cut rl l u))
    cases d with
    | lst ds => cases q; obtain ⟨a, xs, ev, ha, rl⟩ := r; exact fin a xs ds ev (SqL.of ha) rl rfl
    | scr ns => cases q; obtain ⟨a, ev, ha⟩ := r; exact fin a _ _ ev ha.sq (RL.ints ns) rfl
    | _ => cases q
end
end Fw
namespace Fw
open L2 PyProof.Rows PySem PySem.Spec
section
variable {g : GC} {X : Cx} {W : WK}
theorem FR.put {f : Fx} {A : Addr → Prop} {H : Hp} {σ : Sv} {e : Ev} (F : FR g f A H σ e) {i : Nat} {s : Sl} {p : Addr} {ds : List D} {xs : List V} (h : e[i]? = some s) (hb : s.isBox = true) (hs : σ[i]? = some (some (.ref p))) (r : RL g A H ds xs) :
    FR g f A (upd H p (.lst xs)) σ (e.set i (s.put (.lst ds))) ∧ Step A H (upd H p (.lst xs)) := by
  have hA := F.boxA h hb hs
  have st : ∀ a o, a ≠ p → H a = some o → upd H p (.lst xs) a = some o := fun a o n z => by rw [upd_ne n]; exact z
  have sp : Step A H (upd H p (.lst xs)) := ⟨fun a o z n => st a o (fun y => n (y ▸ hA)) z, fun a o z => by
    by_cases y : a = p
    · exact ⟨.lst xs, by rw [y]; exact upd_same⟩
    · exact ⟨o, st a o y z⟩⟩
  have m := F.mono sp
  have kb : (s.put (.lst ds)).isBox = true := by
    cases s with
    | emp => cases hb
    | val _ => cases hb
    | box _ => rfl
    | pbox _ => rfl
  have hi : i < e.length := (List.getElem?_eq_some_iff.mp h).1
  have bx : ∀ {j : Nat} {t : Sl}, (e.set i (s.put (.lst ds)))[j]? = some t → t.isBox = true → ∃ t0, e[j]? = some t0 ∧ t0.isBox = true := fun {j t} z b => by
    rcases get_set z with ⟨rfl, _, _⟩ | ⟨_, z⟩
    · exact ⟨s, h, hb⟩
    · exact ⟨t, z, b⟩
  refine ⟨⟨by rw [List.length_set]; exact F.len, fun j t o z1 z2 => ?_, fun a b t u q z1 z2 b1 b2 s1 s2 => ?_, fun a t q z1 b1 s1 => ?_, fun a o z => ?_, F.ob, F.ob0, fun a q z => by rw [List.length_set]; exact F.pb a q z, fun a z => ?_, fun a o z n => ?_⟩, sp⟩
  · rcases get_set z1 with ⟨rfl, _, rfl⟩ | ⟨n, z1⟩
    · have q := F.sl i s o h z2
      rw [hs] at z2; cases z2
      cases s with
      | emp => cases hb
      | val _ => cases hb
      | box d => obtain ⟨a, p', b, c, c0, _⟩ := q; cases b; exact ⟨a, p, rfl, c, c0, xs, upd_same, RL.mono m ds r⟩
      | pbox d => obtain ⟨p', a, b, c, _⟩ := q; cases b; exact ⟨p, a, rfl, c, xs, upd_same, RL.mono m ds r⟩
    · have q := F.sl j t o z1 z2
      have np : ∀ p', t.isBox = true → o = some (.ref p') → p' ≠ p := fun p' hb' eo y => n (F.inj i j s t p h z1 hb hb' hs (by rw [z2, eo, y]))
      cases t with
      | emp => exact q
      | val d => obtain ⟨a, v, b, c⟩ := q; exact ⟨a, v, b, R.mono m d c⟩
      | box d => obtain ⟨a, p', b, c, c0, dd⟩ := q; exact ⟨a, p', b, c, c0, Bx.mono m (fun u z => st p' u (np p' rfl b) z) dd⟩
      | pbox d => obtain ⟨p', a, b, c, dd⟩ := q; exact ⟨p', a, b, c, Bx.mono m (fun u z => st p' u (np p' rfl b) z) dd⟩
  · obtain ⟨t0, y1, y2⟩ := bx z1 b1
    obtain ⟨u0, y3, y4⟩ := bx z2 b2
    exact F.inj a b t0 u0 q y1 y3 y2 y4 s1 s2
  · obtain ⟨t0, y1, y2⟩ := bx z1 b1
    exact F.nt a t0 q y1 y2 s1
  · have q := F.tp a o z
    refine ⟨q.1, st a o (fun y => ?_) q.2⟩
    have := F.nt i s p h hb hs
    rw [← y, z] at this; cases this
  · obtain ⟨o, q1, q2⟩ := F.al a z
    by_cases y : a = p
    · exact ⟨.lst xs, by rw [y]; exact upd_same, rfl⟩
    · exact ⟨o, st a o y q1, q2⟩
  · refine st a o (fun y => ?_) (F.keep a o z n)
    have q := F.sl i s _ h hs
    cases s with
    | emp => cases hb
    | val _ => cases hb
    | box d => obtain ⟨_, p', b, _, c0, _⟩ := q; cases b; rw [y, c0] at z; cases z
    | pbox d => obtain ⟨p', b0, b, _⟩ := q; cases b; exact n i (y ▸ b0)
def lstOf : Sl → Option (List D)
  | .box (.lst ds) => some ds
  | .pbox (.lst ds) => some ds
  | _ => none
theorem FR.lst {f : Fx} {A : Addr → Prop} {H : Hp} {σ : Sv} {e : Ev} (F : FR g f A H σ e) {i : Nat} {s : Sl} {ds : List D} (h : e[i]? = some s) (q : lstOf s = some ds) : s.isBox = true ∧ ∃ p xs, σ[i]? = some (some (.ref p)) ∧ H p = some (.lst xs) ∧ RL g A H ds xs := by
  obtain ⟨o, h1, h2⟩ := F.at h
  cases s with
  | emp => cases q
  | val _ => cases q
  | box d =>
    cases d with
    | lst ds' => cases q; obtain ⟨_, p, e1, _, _, xs, h3, h4⟩ := h2; exact ⟨rfl, p, xs, by rw [h1, e1], h3, h4⟩
    | _ => cases q
  | pbox d =>
    cases d with
    | lst ds' => cases q; obtain ⟨p, _, e1, _, xs, h3, h4⟩ := h2; exact ⟨rfl, p, xs, by rw [h1, e1], h3, h4⟩
    | _ => cases q
def chB (i : Nat) (op : List D → Option (List D)) : M Unit := fun e => match e[i]? with
  | some s => (match lstOf s with
    | some ds => (match op ds with
      | some ds' => .ok () (e.set i (s.put (.lst ds')))
      | none => .bad)
    | none => .bad)
  | none => .bad
theorem chB_inv {i : Nat} {op : List D → Option (List D)} {e : Ev} : chB i op e = .bad ∨ ∃ s ds ds', e[i]? = some s ∧ lstOf s = some ds ∧ op ds = some ds' ∧ chB i op e = .ok () (e.set i (s.put (.lst ds'))) := by
  unfold chB
  cases q : e[i]? with
  | none => exact .inl rfl
  | some s =>
    cases q2 : lstOf s with
    | none => left; simp only [q2]
    | some ds =>
      cases q3 : op ds with
      | none => left; simp only [q2, q3]
      | some ds' => exact .inr ⟨s, ds, ds', rfl, q2, q3, by simp only [q2, q3]⟩
def hasB (i : Nat) : M Unit := fun e => match e[i]? with
  | some s => (match lstOf s with
    | some _ => .ok () e
    | none => .bad)
  | none => .bad
theorem hasB_inv {i : Nat} {e : Ev} : hasB i e = .bad ∨ ∃ s ds, e[i]? = some s ∧ lstOf s = some ds ∧ hasB i e = .ok () e := by
  unfold hasB
  cases q : e[i]? with
  | none => exact .inl rfl
  | some s =>
    cases q2 : lstOf s with
    | none => left; simp only [q2]
    | some ds => exact .inr ⟨s, ds, rfl, q2, by simp only [q2]⟩
def lim (n : Nat) (ds : List D) : Option (List D) := if ds.length ≤ n then some ds else none
def mApp (i : Nat) (m : M D) : M D := mb (hasB i) fun _ => mb m fun d => mb (chB i fun ds => lim 8000000 (ds ++ [d])) fun _ => mp .non
theorem c_app (i : Nat) {x : Str} {a : Expr} {m : M D} {p apos cpos : Pos} (hK : X.K = g.K)
    (h : PE X (.Call (.Attribute (.Name x p) "append" apos) [a] [] cpos) (tBM X.K "list" rAppend (tVar i) (tCons (rdE g W m) tNil))) : CE g X W (.Call (.Attribute (.Name x p) "append" apos) [a] [] cpos) (mApp i m) :=
  PE.imp h fun σ H Q ⟨f, A, e, F, h⟩ => by
    rcases hasB_inv (i := i) (e := e) with z | ⟨s, ds, z1, z2, z3⟩
    · unfold mApp mb at h; rw [z] at h; exact h.elim
    · have e2 : mApp i m e = mb m (fun d => mb (chB i fun ds => lim 8000000 (ds ++ [d])) fun _ => mp D.non) e := by
        unfold mApp
        conv => lhs; unfold mb; rw [z3]
        rfl
      rw [e2] at h
      obtain ⟨_, p1, xs, y1, y2, y3⟩ := F.lst z1 z2
      refine ⟨.ref p1, y1, .inl ⟨rfl, xs, SqL.of y2⟩, ?_⟩
      refine Fin.bE h F fun d e1 v H1 F1 S1 r h1 => ?_
      unfold mb at h1
      rcases chB_inv (i := i) (op := fun ds => lim 8000000 (ds ++ [d])) (e := e1) with w | ⟨s', es, es', w1, w2, w3, w4⟩
      · rw [w] at h1; exact h1.elim
      · rw [w4] at h1
        obtain ⟨hb, p2, ys, v1, v2, v3⟩ := F1.lst w1 w2
        rw [y1] at v1; cases v1
        have hl : (es ++ [d]).length ≤ 8000000 ∧ es' = es ++ [d] := by
          unfold lim at w3
          by_cases q : (es ++ [d]).length ≤ 8000000
          · rw [if_pos q] at w3; cases w3; exact ⟨q, rfl⟩
          · rw [if_neg q] at w3; cases w3
        rw [hl.2] at h1
        obtain ⟨F2, S2⟩ := F1.put w1 hb y1 (RL.append v3 (show RL g A H1 [d] [v] from ⟨v, [], rfl, r, rfl⟩))
        refine ⟨p1, ys, v, rfl, rfl, v2, ?_, h1 _ _ F2 (S1.trans S2) rfl⟩
        have := RL.length v3
        have h2 := hl.1
        rw [List.length_append, List.length_singleton] at h2
        have : (8000000 : Nat) ≤ sizeLine := by rw [sizeLine_eq]; decide
        omega
def gSt (i : Nat) (mk : M D) : D → M Unit := fun d => mb (hasB i) fun _ => mb mk fun k => match k with
  | .int k => chB i fun ds => (ixN ds.length k).map fun j => ds.set j d
  | _ => fun _ => .bad
theorem cg_st (i : Nat) {x : Str} {b : Expr} {mk : M D} {p pos : Pos} (hx : PE X (.Name x p) (tVar i)) (hk : CE g X W b mk)
    (ha : ∀ v, assign (.Subscript (.Name x p) b pos) X.env v = (do
      let ov ← holding [v] (eval (.Name x p) X.env)
      let iv ← holding [v, ov] (eval b X.env)
      standAt pos
      holding [v, ov, iv] (setItem ov iv v)
      release [v, ov, iv] []) := by intro _; rfl) : CG g X (.Subscript (.Name x p) b pos) [] (gSt i mk) := PG.imp (pg_sub hx hk set_list ha) fun v σ H Q ⟨f, A, e, d, F, r, h⟩ => by
  rcases hasB_inv (i := i) (e := e) with z | ⟨s, ds, z1, z2, z3⟩
  · unfold gSt mb at h; rw [z] at h; exact h.elim
  · obtain ⟨_, p1, xs, y1, y2, y3⟩ := F.lst z1 z2
    refine ⟨.ref p1, y1, f, A, e, F, ?_⟩
    unfold gSt mb at h
    rw [z3] at h
    cases q : mk e with
    | exc _ _ _ => simp only [q] at h; exact h.elim
    | bad => simp only [q] at h; exact h.elim
    | ok kd e1 =>
      simp only [q] at h
      intro kv H1 F1 S1 rk
      cases kd with
      | int k =>
        obtain rfl : kv = .int k := rk
        rcases chB_inv (i := i) (op := fun ds => (ixN ds.length k).map fun j => ds.set j d) (e := e1) with w | ⟨s', es, es', w1, w2, w3, w4⟩
        · simp only [w] at h; exact h.elim
        · simp only [w4] at h
          obtain ⟨j, q3, rfl⟩ := map_some w3
          obtain ⟨hb, p2, ys, v1, v2, v3⟩ := F1.lst w1 w2
          rw [y1] at v1; cases v1
          obtain ⟨F2, S2⟩ := F1.put w1 hb y1 (RL.set (F.r S1 r) j v3)
          exact ⟨p1, ys, k, j, rfl, rfl, v2, by rw [RL.length v3]; exact q3, h σ _ F2 (S1.trans S2) (fun _ _ => rfl) rfl⟩
      | _ => exact h.elim
def mC1 (fn : Fn) (m : M (List D)) : M D := mb m fun ds e => match fn [.pbox (.lst ds)] with
  | .ok rv _ => .ok rv.d e
  | .exc c d _ => .exc c d e
  | .bad => .bad
theorem FR.drop {f : Fx} {A : Addr → Prop} {H H' : Hp} {σ : Sv} {e : Ev} {p : Addr} (F1 : FR g f A H σ e) (F2 : FR g f (add1 A p) H σ e) (n : ¬ A p) (k : ∀ a o, H a = some o → a ≠ p → H' a = some o) (h0 : f.H0 p = none) : FR g f A H' σ e := by
  have m : Mono (add1 A p) H A H' := ⟨F2.al, fun a o h z => k a o h fun y => z (.inr y), fun a o z _ => .inl z⟩
  have np : ∀ a, A a → a ≠ p := fun a z y => n (y ▸ z)
  refine ⟨F1.len, fun i s o h1 h2 => ?_, F1.inj, F1.nt, fun a o z => ⟨(F1.tp a o z).1, k a o (F1.tp a o z).2 (np a (F1.tp a o z).1)⟩, F1.ob, F1.ob0, F1.pb, fun a z => ?_, fun a o z n' => k a o (F1.keep a o z n') fun y => by rw [y, h0] at z; cases z⟩
  · have q := F2.sl i s o h1 h2
    have q1 := F1.sl i s o h1 h2
    cases s with
    | emp => exact q
    | val d => obtain ⟨a, v, b, c⟩ := q; exact ⟨a, v, b, R.mono m d c⟩
    | box d =>
      obtain ⟨a, p', b, c, c0, dd⟩ := q
      obtain ⟨_, p1, b1, c1, _⟩ := q1
      rw [b] at b1; cases b1
      exact ⟨a, p', b, c1, c0, Bx.mono m (fun u z => k p' u z (np p' c1)) dd⟩
    | pbox d =>
      obtain ⟨p', a, b, c, dd⟩ := q
      obtain ⟨p1, _, b1, c1, _⟩ := q1
      rw [b] at b1; cases b1
      exact ⟨p', a, b, c1, Bx.mono m (fun u z => k p' u z (np p' c1)) dd⟩
  · obtain ⟨o, q1, q2⟩ := F1.al a z
    exact ⟨o, k a o q1 (np a z), q2⟩
theorem t_call1 {fn : Fn} {m : M (List D)} : ∀ σ H Q, rdE g W (mC1 fn m) σ H Q → tCg (spF g 1 fn) W (tCons (rdF g W m) tNil) σ H Q := fun σ H Q ⟨f, A, e, F, h⟩ => by
  unfold mC1 mb at h
  refine ⟨f, A, e, F, ?_⟩
  cases q : m e with
  | exc c d e1 => simp only [q] at h; exact h
  | bad => simp only [q] at h; exact h
  | ok ds e1 =>
    simp only [q] at h
    intro p xs H1 F1 F2 n S1 hn hp r
    have ar : ArgsR g (add1 A p) H1 [.pbox (.lst ds)] [.ref p] := by
      refine ⟨rfl, fun i s v z1 z2 => ?_, fun i j s t q z1 z2 _ _ _ _ => ?_⟩
      · cases i with
        | zero => cases z1; cases z2; exact ⟨p, rfl, .inr rfl, xs, hp, r⟩
        | succ i => simp at z1
      · cases i with
        | zero => cases j with
          | zero => rfl
          | succ j => simp at z2
        | succ i => simp at z1
    refine ⟨rfl, add1 A p, [.pbox (.lst ds)], F2.al, ar, ?_⟩
    have h0 : f.H0 p = none := F.h0 hn
    have after : ∀ {OB' : Addr → Prop} {as' : List Sl} {H' : Hp}, PostA g (add1 A p) OB' H1 H' [.pbox (.lst ds)] as' [.ref p] → FR g f A H' σ e1 ∧ Step A H H' := fun {OB' as' H'} po => by
      have k : ∀ a o, H1 a = some o → a ≠ p → H' a = some o := fun a o z n => po.keep a o z fun i s z1 z2 z3 => by
        cases i with
        | zero => cases z3; exact n rfl
        | succ i => simp at z1
      refine ⟨FR.drop F1 F2 n k h0, ⟨fun a o z n' => k a o (S1.st a o z n') fun y => (by rw [y, hn] at z; cases z), fun a o z => ?_⟩⟩
      obtain ⟨o1, w⟩ := S1.un a o z
      exact ⟨o1, k a o1 w fun y => by rw [y, hn] at z; cases z⟩
    have less : ∀ {H' : Hp}, Al (add1 A p) H' → ∀ a, A a → add1 A p a := fun _ a z => .inl z
    cases q2 : fn [.pbox (.lst ds)] with
    | bad => simp only [q2] at h; exact h
    | exc c d as' =>
      simp only [q2] at h
      intro cls dd H' po x
      obtain ⟨F3, S3⟩ := after po
      exact h cls dd H' F3 S3 (ExR.less po.al (fun a z => .inl z) x)
    | ok rv as' =>
      simp only [q2] at h
      cases rv with
      | v d =>
        intro v H' po rr
        obtain ⟨F3, S3⟩ := after po
        exact h v H' F3 S3 (R.less po.al (fun a z => .inl z) rr)
      | b es =>
        intro p' ys H' po hn' hp' rr
        obtain ⟨F3, S3⟩ := after po
        have al' : Al (add1 (add1 A p) p') H' := fun a z => z.elim (po.al a) fun z => ⟨.lst ys, by rw [z]; exact hp', rfl⟩
        exact h _ H' F3 S3 ⟨p', ys, rfl, hp', F1.nA hn', RL.less al' (fun a z => .inl (.inl z)) rr⟩
end
end Fw
namespace Fw
open L2 PyProof.Rows PySem PySem.Spec
section
variable {g : GC} {X : Cx} {W : WK}
theorem RtL.one {A : Addr → Prop} {H : Hp} {d : D} {vs : List V} (r : RtL g A H [d] vs) : ∃ v, vs = [v] ∧ Rt g A H d v := by
  obtain ⟨y, ys, e, h, t⟩ := r
  rw [show ys = [] from t] at e
  exact ⟨y, e, h⟩
theorem RtL.two {A : Addr → Prop} {H : Hp} {d d' : D} {vs : List V} (r : RtL g A H [d, d'] vs) : ∃ v w, vs = [v, w] ∧ Rt g A H d v ∧ Rt g A H d' w := by
  obtain ⟨y, ys, e, h, t⟩ := r
  obtain ⟨w, e2, h2⟩ := RtL.one t
  exact ⟨y, w, by rw [e, e2], h, h2⟩
def op1 {β : Type} (f : D → Option β) : List D → Option β
  | [d] => f d
  | _ => none
def op2 {β : Type} (f : D → D → Option β) : List D → Option β
  | [d, e] => f d e
  | _ => none
theorem ls1 {r : List V → Hp → VK → Prop} {f : D → Option D} (h : ∀ A H d d' v Q, Al A H → Rt g A H d v → f d = some d' → (∀ v H', Same H H' → R g A H' d' v → Q v H') → r [v] H Q) : LS g r (op1 f) := fun A H ds d vs Q al rr q k => by
  match ds, q with
  | [x], q => obtain ⟨v, rfl, r1⟩ := RtL.one rr; exact h A H x d v Q al r1 q k
theorem ls2 {r : List V → Hp → VK → Prop} {f : D → D → Option D} (h : ∀ A H d e d' v w Q, Al A H → Rt g A H d v → Rt g A H e w → f d e = some d' → (∀ v H', Same H H' → R g A H' d' v → Q v H') → r [v, w] H Q) : LS g r (op2 f) := fun A H ds d vs Q al rr q k => by
  match ds, q with
  | [x, y], q => obtain ⟨v, w, rfl, r1, r2⟩ := RtL.two rr; exact h A H x y d v w Q al r1 r2 q k
def dAbs : D → Option D
  | .int i => some (.int (if i < 0 then -i else i))
  | _ => none
theorem ls_abs : LS g (fun xs H Q => ∃ i, xs = [.int i] ∧ Q (.int (if i < 0 then -i else i)) H) (op1 dAbs) := ls1 fun A H d d' v Q al r q k => by
  cases d with
  | int i => cases q; obtain rfl : v = .int i := r; exact ⟨i, rfl, k _ H (Same.refl H) rfl⟩
  | _ => cases q
def dLen : D → Option D
  | .lst ds => some (.int ds.length)
  | .tup ds => some (.int ds.length)
  | .scr ns => some (.int ns.length)
  | .str z => if z.length ≤ 1000000 then some (.int z.length) else none
  | _ => none
theorem ls_len : LS g (fun xs H Q => ∃ x n, xs = [x] ∧ LenV g.K x H n ∧ Q (.int n) H) (op1 dLen) := ls1 fun A H d d' v Q al r q k => by
  cases d with
  | lst ds => cases q; obtain ⟨a, xs, rfl, h1, rl⟩ := r; exact ⟨_, xs.length, rfl, .inl ⟨xs, SqL.of h1, rfl⟩, k _ H (Same.refl H) (by rw [RL.length rl]; rfl)⟩
  | tup ds => cases q; obtain ⟨a, xs, rfl, h1, rl⟩ := r; exact ⟨_, xs.length, rfl, .inr ⟨xs, (SqT.of h1), rfl⟩, k _ H (Same.refl H) (by rw [RL.length rl]; rfl)⟩
  | scr ns => cases q; obtain ⟨a, rfl, h1⟩ := r; exact ⟨_, (ns.map V.int).length, rfl, .inl ⟨_, h1.sq, rfl⟩, k _ H (Same.refl H) (by rw [List.length_map]; rfl)⟩
  | str z =>
    obtain rfl : v = .str z := r
    simp only [dLen] at q
    by_cases hz : z.length ≤ 1000000
    · rw [if_pos hz] at q; cases q; exact ⟨_, z.length, rfl, ⟨Nat.le_trans hz million, rfl⟩, k _ H (Same.refl H) rfl⟩
    · rw [if_neg hz] at q; cases q
  | _ => cases q
def dMax2 : D → D → Option D := dI fun i j => some (.int (if j > i then j else i))
def dMin2 : D → D → Option D := dI fun i j => some (.int (if j < i then j else i))
theorem ls_max2 : LS g (fun xs H Q => ∃ i j, xs = [.int i, .int j] ∧ Q (.int (if j > i then j else i)) H) (op2 dMax2) := ls2 fun A H d e d' v w Q al r r2 q k => by
  cases d with
  | int i => cases e with
    | int j => cases q; obtain rfl : v = .int i := r; obtain rfl : w = .int j := r2; exact ⟨i, j, rfl, k _ H (Same.refl H) rfl⟩
    | _ => cases q
  | _ => cases q
theorem ls_min2 : LS g (fun xs H Q => ∃ i j, xs = [.int i, .int j] ∧ Q (.int (if j < i then j else i)) H) (op2 dMin2) := ls2 fun A H d e d' v w Q al r r2 q k => by
  cases d with
  | int i => cases e with
    | int j => cases q; obtain rfl : v = .int i := r; obtain rfl : w = .int j := r2; exact ⟨i, j, rfl, k _ H (Same.refl H) rfl⟩
    | _ => cases q
  | _ => cases q
def dInt : D → Option D
  | .int i => some (.int i)
  | .bl b => some (.int (if b then 1 else 0))
  | _ => none
theorem ls_int : LS g (fun xs H Q => (∃ i, xs = [.int i] ∧ Q (.int i) H) ∨ ∃ k, xs = [.bl k] ∧ Q (.int (if k then 1 else 0)) H) (op1 dInt) := ls1 fun A H d d' v Q al r q k => by
  cases d with
  | int i => cases q; obtain rfl : v = .int i := r; exact .inl ⟨i, rfl, k _ H (Same.refl H) rfl⟩
  | bl b => cases q; obtain rfl : v = .bl b := r; exact .inr ⟨b, rfl, k _ H (Same.refl H) rfl⟩
  | _ => cases q
def intsD : List D → Option (List Int)
  | [] => some []
  | .int i :: r => (intsD r).map fun l => i :: l
  | _ :: _ => none
theorem intsD_eq : ∀ {ds : List D} {ns : List Int}, intsD ds = some ns → ds = ns.map D.int
  | [], ns, h => by cases h; rfl
  | .int i :: r, ns, h => by
    obtain ⟨l, h1, h2⟩ := map_some (show (intsD r).map (fun l => i :: l) = some ns from h)
    rw [h2, intsD_eq h1]; rfl
  | .non :: _, _, h => nomatch (show (none : Option (List Int)) = some _ from h)
  | .bl _ :: _, _, h => nomatch (show (none : Option (List Int)) = some _ from h)
  | .str _ :: _, _, h => nomatch (show (none : Option (List Int)) = some _ from h)
  | .ty _ :: _, _, h => nomatch (show (none : Option (List Int)) = some _ from h)
  | .tup _ :: _, _, h => nomatch (show (none : Option (List Int)) = some _ from h)
  | .lst _ :: _, _, h => nomatch (show (none : Option (List Int)) = some _ from h)
  | .obj _ _ :: _, _, h => nomatch (show (none : Option (List Int)) = some _ from h)
  | .scr _ :: _, _, h => nomatch (show (none : Option (List Int)) = some _ from h)
  | .ktu _ :: _, _, h => nomatch (show (none : Option (List Int)) = some _ from h)
  | .dct _ _ :: _, _, h => nomatch (show (none : Option (List Int)) = some _ from h)
  | .dtt _ _ :: _, _, h => nomatch (show (none : Option (List Int)) = some _ from h)
  | .exn _ _ :: _, _, h => nomatch (show (none : Option (List Int)) = some _ from h)
def boolsD : List D → Option (List Bool)
  | [] => some []
  | .bl i :: r => (boolsD r).map fun l => i :: l
  | _ :: _ => none
theorem boolsD_eq : ∀ {ds : List D} {ns : List Bool}, boolsD ds = some ns → ds = ns.map D.bl
  | [], ns, h => by cases h; rfl
  | .bl i :: r, ns, h => by
    obtain ⟨l, h1, h2⟩ := map_some (show (boolsD r).map (fun l => i :: l) = some ns from h)
    rw [h2, boolsD_eq h1]; rfl
  | .non :: _, _, h => nomatch (show (none : Option (List Bool)) = some _ from h)
  | .int _ :: _, _, h => nomatch (show (none : Option (List Bool)) = some _ from h)
  | .str _ :: _, _, h => nomatch (show (none : Option (List Bool)) = some _ from h)
  | .ty _ :: _, _, h => nomatch (show (none : Option (List Bool)) = some _ from h)
  | .tup _ :: _, _, h => nomatch (show (none : Option (List Bool)) = some _ from h)
  | .lst _ :: _, _, h => nomatch (show (none : Option (List Bool)) = some _ from h)
  | .obj _ _ :: _, _, h => nomatch (show (none : Option (List Bool)) = some _ from h)
  | .scr _ :: _, _, h => nomatch (show (none : Option (List Bool)) = some _ from h)
  | .ktu _ :: _, _, h => nomatch (show (none : Option (List Bool)) = some _ from h)
  | .dct _ _ :: _, _, h => nomatch (show (none : Option (List Bool)) = some _ from h)
  | .dtt _ _ :: _, _, h => nomatch (show (none : Option (List Bool)) = some _ from h)
  | .exn _ _ :: _, _, h => nomatch (show (none : Option (List Bool)) = some _ from h)
theorem RL.bls_of {A : Addr → Prop} {H : Hp} : ∀ (ns : List Bool) {xs : List V}, RL g A H (ns.map D.bl) xs → xs = ns.map V.bl
  | [], _, e => e
  | n :: ns, _, ⟨y, ys, e, r, t⟩ => by rw [e, show y = .bl n from r, RL.bls_of ns t]; rfl
def dAll : D → Option D
  | .lst ds => (boolsD ds).map fun ns => .bl (ns.all id)
  | _ => none
theorem ls_all : LS g (rAll g.K) (op1 dAll) := ls1 fun A H d d' v Q al r q k => by
  cases d with
  | lst ds =>
    obtain ⟨ns, h1, rfl⟩ := map_some q
    obtain ⟨a, xs, rfl, h2, rl⟩ := r
    rw [boolsD_eq h1] at rl
    rw [RL.bls_of ns rl] at h2
    exact ⟨a, ns, rfl, SqL.of h2, k _ H (Same.refl H) rfl⟩
  | _ => cases q
def dDivmod : D → D → Option D := dI fun i j => if 0 < j ∧ j < 1073741824 then some (.tup [.int (i / j), .int (i % j)]) else none
theorem ls_divmod : LS g (fun xs H Q => ∃ i j, xs = [.int i, .int j] ∧ CDiv i j ∧ ∀ p, H p = none → Q (.ref p) (upd H p (.tup [.int (i / j), .int (i % j)]))) (op2 dDivmod) := ls2 fun A H d e d' v w Q al r r2 q k => by
  cases d with
  | int i => cases e with
    | int j =>
      obtain rfl : v = .int i := r; obtain rfl : w = .int j := r2
      simp only [dDivmod, dI] at q
      by_cases z : 0 < j ∧ j < 1073741824
      · rw [if_pos z] at q; cases q
        exact ⟨i, j, rfl, z, fun p hp => k _ _ (Same.new hp) ⟨p, _, rfl, upd_same, _, _, rfl, rfl, _, _, rfl, rfl, rfl⟩⟩
      · rw [if_neg z] at q; cases q
    | _ => cases q
  | _ => cases q
def dTuple : D → Option D
  | .lst ds => some (.tup ds)
  | .tup ds => some (.tup ds)
  | .scr ns => some (.tup (ns.map D.int))
  | _ => none
theorem ls_tuple : LS g (fun xs H Q => ∃ p ys, xs = [.ref p] ∧ ((SqL g.K H p ys ∧ ∀ l, H l = none → Q (.ref l) (upd H l (.tup ys))) ∨ (SqT g.K H p ys ∧ Q (.ref p) H))) (op1 dTuple) := ls1 fun A H d d' v Q al r q k => by
  cases d with
  | lst ds =>
    cases q; obtain ⟨a, xs, rfl, h1, rl⟩ := r
    exact ⟨a, xs, rfl, .inl ⟨SqL.of h1, fun l hl => k _ _ (Same.new hl) ⟨l, xs, rfl, upd_same, RL.mono (Mono.same al (Same.new hl)) ds rl⟩⟩⟩
  | tup ds => cases q; obtain ⟨a, xs, rfl, h1, rl⟩ := r; exact ⟨a, xs, rfl, .inr ⟨(SqT.of h1), k _ H (Same.refl H) ⟨a, xs, rfl, h1, rl⟩⟩⟩
  | scr ns =>
    cases q; obtain ⟨a, rfl, h1⟩ := r
    exact ⟨a, _, rfl, .inl ⟨h1.sq, fun l hl => k _ _ (Same.new hl) ⟨l, _, rfl, upd_same, RL.ints ns⟩⟩⟩
  | _ => cases q
def dList : D → Option (List D)
  | .lst ds => some ds
  | .tup ds => some ds
  | .scr ns => some (ns.map D.int)
  | _ => none
def dCat : D → D → Option (List D)
  | .lst xs, .lst ys => if xs.length + ys.length ≤ 1000000 then some (xs ++ ys) else none
  | _, _ => none
theorem fs_cat : FS2 g rCat dCat := fun A H d1 d2 es v1 v2 Q al r1 r2 q k => by
  cases d1 with
  | lst xs => cases d2 with
    | lst ys =>
      simp only [dCat] at q
      by_cases z : xs.length + ys.length ≤ 1000000
      · rw [if_pos z] at q; cases q
        obtain ⟨a, us, rfl, h1, l1⟩ := r1
        obtain ⟨b, ws, rfl, h2, l2⟩ := r2
        exact ⟨a, b, us, ws, rfl, rfl, h1, h2, by rw [RL.length l1, RL.length l2]; exact Nat.le_trans z million, fun p hp => k p _ hp (RL.append l1 l2)⟩
      · rw [if_neg z] at q; cases q
    | _ => cases q
  | _ => cases q
def dTy : D → Option String
  | .non => some "NoneType"
  | .bl _ => some "bool"
  | .int _ => some "int"
  | .str _ => some "str"
  | .lst _ => some "list"
  | .scr _ => some "list"
  | .tup _ => some "tuple"
  | _ => none
theorem Rt.ty {A : Addr → Prop} {H : Hp} {d : D} {v : V} {n : String} (r : Rt g A H d v) (q : dTy d = some n) : TyX g.K H v (.type n) := by
  cases d with
  | non => cases q; rw [show v = .non from r]; exact .base .non
  | bl b => cases q; rw [show v = .bl b from r]; exact .base (.bl b)
  | int b => cases q; rw [show v = .int b from r]; exact .base (.int b)
  | str b => cases q; rw [show v = .str b from r]; exact .base (.str b)
  | lst ds => cases q; obtain ⟨a, xs, rfl, h, _⟩ := r; exact .base (.lst h)
  | scr ns =>
    cases q; obtain ⟨a, rfl, h⟩ := r
    rcases h with ⟨h | ⟨o, h⟩, _⟩ | ⟨o, its, n, h1, h2, _⟩
    · exact .base (.lst h)
    · exact .base (.frz h)
    · exact .kList h1 h2
  | tup ds =>
    cases q; obtain ⟨a, xs, rfl, h, _⟩ := r
    exact .base (.tup h)
  | _ => cases q
def isiT : String → String → Option Bool
  | "int", "int" => some true | "bool", "int" => some true | "str", "int" => some false | "NoneType", "int" => some false | "list", "int" => some false | "tuple", "int" => some false
  | "int", "bool" => some false | "bool", "bool" => some true | "str", "bool" => some false | "NoneType", "bool" => some false | "list", "bool" => some false | "tuple", "bool" => some false
  | "int", "str" => some false | "bool", "str" => some false | "str", "str" => some true | "NoneType", "str" => some false | "list", "str" => some false | "tuple", "str" => some false
  | "int", "tuple" => some false | "bool", "tuple" => some false | "str", "tuple" => some false | "NoneType", "tuple" => some false | "list", "tuple" => some false | "tuple", "tuple" => some true
  | "int", "list" => some false | "bool", "list" => some false | "str", "list" => some false | "NoneType", "list" => some false | "list", "list" => some true | "tuple", "list" => some false
  | _, _ => none
theorem isiT_ok {K : PySem.W.Frag} {a b : String} {c : Bool} (h : isiT a b = some c) : PySem.W.kitOne K (.type a) (.type b) = some c := by
  unfold isiT at h
  split at h <;> first | (cases h; rfl) | cases h
def dIsi : D → D → Option D
  | d, .ty n => match dTy d with
    | some t => (isiT t n).map D.bl
    | none => none
  | _, _ => none
theorem ls_isi : LS g (rIsi g.K) (op2 dIsi) := ls2 fun A H d e d' v w Q al r r2 q k => by
  cases e with
  | ty n =>
    obtain rfl : w = .ty n := r2
    unfold dIsi at q
    cases z : dTy d with
    | none => simp only [z] at q; cases q
    | some t =>
      simp only [z] at q
      obtain ⟨b, h1, rfl⟩ := map_some q
      exact ⟨v, .ty n, .type t, .type n, b, rfl, .ty n, Rt.ty r z, isiT_ok h1, k _ H (Same.refl H) rfl⟩
  | _ => cases d <;> cases q
end
end Fw
namespace Fw
open L2 PyProof.Rows PySem PySem.Spec
section
variable {g : GC} {X : Cx} {W : WK}
inductive Ed where
  | e (m : M D) | f (m : M (List D))
def rdEd (g : GC) (W : WK) : Ed → TE
  | .e m => rdE g W m
  | .f m => rdF g W m
def rdEds (g : GC) (W : WK) : List Ed → TA
  | [] => tNil
  | o :: os => tCons (rdEd g W o) (rdEds g W os)
abbrev CEd (g : GC) (X : Cx) (W : WK) (e : Expr) (d : Ed) : Prop := PE X e (rdEd g W d)
abbrev CEds (g : GC) (X : Cx) (W : WK) (es : List Expr) (os : List Ed) : Prop := PA X es (rdEds g W os)
theorem ed_nil : CEds g X W [] [] := pa_nil
theorem ed_cons {a : Expr} {es : List Expr} {o : Ed} {os : List Ed} (ha : CEd g X W a o) (hr : CEds g X W es os) (hs : starEach (a :: es) X.env = (false, eval a X.env) :: starEach es X.env := by rfl) : CEds g X W (a :: es) (o :: os) := pa_cons ha hr hs
theorem ed_e {a : Expr} {m : M D} (h : CE g X W a m) : CEd g X W a (.e m) := h
theorem ed_f {a : Expr} {m : M (List D)} (h : CF g X W a m) : CEd g X W a (.f m) := h
def nx1 {α : Type} (m : M α) : M α := fun e => match m e with
  | .ok a e' => .ok a e'
  | _ => .bad
def mEds : List Ed → M (List (Sum D (List D)))
  | [] => mp []
  | .e m :: os => mb (nx1 m) fun d => mb (mEds os) fun r => mp (.inl d :: r)
  | .f m :: os => mb (nx1 m) fun d => mb (mEds os) fun r => mp (.inr d :: r)
theorem nx1_ok {α : Type} {m : M α} {e e' : Ev} {a : α} (h : nx1 m e = .ok a e') : m e = .ok a e' := by
  unfold nx1 at h
  cases q : m e with
  | ok b e1 => rw [q] at h; exact h
  | exc _ _ _ => rw [q] at h; cases h
  | bad => rw [q] at h; cases h
theorem mb_ok {α β : Type} {m : M α} {k : α → M β} {e e' : Ev} {b : β} (h : mb m k e = .ok b e') : ∃ a e1, m e = .ok a e1 ∧ k a e1 = .ok b e' := by
  unfold mb at h
  cases q : m e with
  | ok a e1 => rw [q] at h; exact ⟨a, e1, rfl, h⟩
  | exc _ _ _ => rw [q] at h; cases h
  | bad => rw [q] at h; cases h
def PF (g : GC) (T : Hp) (A : Addr → Prop) (H : Hp) : List (Sum D (List D)) → List V → Prop
  | [], vs => vs = []
  | .inl d :: r, vs => ∃ y ys, vs = y :: ys ∧ R g A H d y ∧ PF g T A H r ys
  | .inr ds :: r, vs => ∃ p ys xs, vs = .ref p :: ys ∧ T p = some (.lst xs) ∧ RL g A H ds xs ∧ PF g T A H r ys
def fre : List (Sum D (List D)) → List V → List Addr
  | .inr _ :: r, .ref p :: ys => p :: fre r ys
  | .inl _ :: r, _ :: ys => fre r ys
  | _, _ => []
theorem FR.lessT {f : Fx} {T : Hp} {A : Addr → Prop} {H : Hp} {σ : Sv} {e : Ev} (F : FR g { f with T := T } A H σ e) (h : ∀ a o, f.T a = some o → T a = some o) : FR g f A H σ e := by
  refine ⟨F.len, F.sl, F.inj, fun i s p h1 b1 s1 => ?_, fun a o z => F.tp a o (h a o z), F.ob, F.ob0, F.pb, F.al, F.keep⟩
  have q : T p = none := F.nt i s p h1 b1 s1
  cases z : f.T p with
  | none => rfl
  | some o => rw [h p o z] at q; cases q
theorem Step.none {A : Addr → Prop} {H H1 : Hp} (S : Step A H H1) {a : Addr} (h : H1 a = none) : H a = none := by
  cases q : H a with
  | none => rfl
  | some o => obtain ⟨o', y⟩ := S.un a o q; rw [h] at y; cases y
theorem FR.asT {f : Fx} {A : Addr → Prop} {H : Hp} {σ : Sv} {e : Ev} {p : Addr} {xs : List V} (F1 : FR g f A H σ e) (F2 : FR g f (add1 A p) H σ e) (n : ¬ A p) (hp : H p = some (.lst xs)) : FR g (f.tm p xs) (add1 A p) H σ e := by
  refine ⟨F2.len, F2.sl, F2.inj, fun i s q z1 b1 s1 => ?_, fun a o z => ?_, F2.ob, F2.ob0, F2.pb, F2.al, F2.keep⟩
  · have nq : q ≠ p := fun y => n (y ▸ F1.boxA z1 b1 s1)
    show upd f.T p _ q = none
    rw [upd_ne nq]; exact F2.nt i s q z1 b1 s1
  · by_cases y : a = p
    · subst y
      have z : upd f.T a (.lst xs) a = some o := z
      rw [upd_same] at z; cases z
      exact ⟨.inr rfl, hp⟩
    · have z : upd f.T p (.lst xs) a = some o := z
      rw [upd_ne y] at z
      exact F2.tp a o z
theorem bEds : ∀ (eds : List Ed) {f : Fx} {A : Addr → Prop} {σ : Sv} {H : Hp} {e e1 : Ev} {ps : List (Sum D (List D))} {G : List V → Hp → Prop}, FR g f A H σ e → mEds eds e = .ok ps e1 →
    (∀ T A' vs H', FR g { f with T := T } A' H' σ e1 → (∀ a o, f.T a = some o → T a = some o) → Mono A H A' H' → PF g T A' H' ps vs → (∀ q ∈ fre ps vs, H q = none) → (fre ps vs).Nodup → G vs H') → rdEds g W eds σ H G
  | [], f, A, σ, H, e, e1, ps, G, F, h, go => by
    cases h
    exact go f.T A [] H F (fun _ _ z => z) (Mono.refl F.al) rfl (fun _ z => by simp [fre] at z) (by simp [fre])
  | .e m :: os, f, A, σ, H, e, e1, ps, G, F, h, go => by
    obtain ⟨d, e2, h1, h2⟩ := mb_ok h
    obtain ⟨r, e3, h3, h4⟩ := mb_ok h2
    cases h4
    refine ⟨f, A, e, F, ?_⟩
    rw [nx1_ok h1]
    intro v H1 F1 S1 rv
    refine bEds os F1 h3 fun T A' vs H' F' t1 m' p' q1 q2 => ?_
    exact go T A' (v :: vs) H' F' t1 ((F.mono S1).trans m') ⟨v, vs, rfl, R.mono m' d rv, p'⟩ (fun q z => S1.none (q1 q z)) q2
  | .f m :: os, f, A, σ, H, e, e1, ps, G, F, h, go => by
    obtain ⟨ds, e2, h1, h2⟩ := mb_ok h
    obtain ⟨r, e3, h3, h4⟩ := mb_ok h2
    cases h4
    refine ⟨f, A, e, F, ?_⟩
    rw [nx1_ok h1]
    intro p xs H1 F1 F2 n S1 hn hp rl
    have fT : f.T p = none := by
      cases z : f.T p with
      | none => rfl
      | some o => exact absurd (F1.tp p o z).1 n
    have F3 := FR.asT F1 F2 n hp
    have m1 : Mono A H (add1 A p) H1 := mono_new F S1 hn
    refine bEds os F3 h3 fun T A' vs H' F' t1 m' p' q1 q2 => ?_
    have tp : T p = some (.lst xs) := t1 p _ upd_same
    refine go T A' (.ref p :: vs) H' F' (fun a o z => t1 a o (by show upd f.T p _ a = some o; rw [upd_ne (fun y => by rw [y, fT] at z; cases z)]; exact z)) (m1.trans m') ⟨p, vs, xs, rfl, tp, RL.mono m' ds rl, p'⟩ (fun q z => ?_) ?_
    · rcases List.mem_cons.mp z with rfl | z
      · exact hn
      · exact S1.none (q1 q z)
    · refine List.nodup_cons.mpr ⟨fun z => ?_, q2⟩
      have := q1 p z
      rw [hp] at this; cases this
theorem PF.temp {T : Hp} {A : Addr → Prop} {H : Hp} {q : Addr} : ∀ (ps : List (Sum D (List D))) {vs : List V}, PF g T A H ps vs → q ∈ fre ps vs → ∃ xs, T q = some (.lst xs)
  | [], vs, _, hq => by simp [fre] at hq
  | .inl d :: r, vs, ⟨y, ys, e, _, p⟩, hq => by subst e; exact PF.temp r p hq
  | .inr ds :: r, vs, ⟨p1, ys, xs, e, t, _, p⟩, hq => by
    subst e
    rcases List.mem_cons.mp (show q ∈ p1 :: fre r ys from hq) with rfl | hq
    · exact ⟨xs, t⟩
    · exact PF.temp r p hq
theorem nx1_exc {α : Type} {m : M α} {e e' : Ev} {c : Nat} {d : D} : nx1 m e ≠ .exc c d e' := by
  unfold nx1
  cases m e <;> intro h <;> cases h
def asg1 (i : Nat) : Sum D (List D) → M Unit
  | .inl d => Fw.setV i d
  | .inr ds => Fw.setB i (.lst ds)
theorem FR.setB' {f : Fx} {A : Addr → Prop} {H : Hp} {σ : Sv} {e : Ev} {p : Addr} (F : FR g f A H σ e) {i : Nat} {d : D} (h : f.pa i = none) (hA : A p) (hT : f.T p = none) (h0 : f.H0 p = none) (nb : ∀ (j : Nat) s, e[j]? = some s → s.isBox = true → σ[j]? ≠ some (some (.ref p))) (r : Bx g A H d p) : FR g f A H (σ.set i (some (.ref p))) (e.set i (.box d)) := by
  refine ⟨by rw [List.length_set, List.length_set]; exact F.len, fun j s o h1 h2 => ?_, fun a b s t q h1 h2 b1 b2 s1 s2 => ?_, fun a s q h1 b1 s1 => ?_, F.tp, F.ob, F.ob0, fun i p q => by rw [List.length_set]; exact F.pb i p q, F.al, F.keep⟩
  · rcases get_set h1 with ⟨rfl, _, rfl⟩ | ⟨n, h1⟩
    · rcases get_set h2 with ⟨_, _, rfl⟩ | ⟨n, _⟩
      · exact ⟨h, p, rfl, hA, h0, r⟩
      · exact absurd rfl n
    · rw [List.getElem?_set_ne n] at h2
      exact F.sl j s o h1 h2
  · rcases get_set h1 with ⟨rfl, l1, rfl⟩ | ⟨n1, h1⟩
    · rcases get_set h2 with ⟨rfl, _, rfl⟩ | ⟨n2, h2⟩
      · rfl
      · rw [List.getElem?_set_ne n2] at s2
        rw [List.getElem?_set_self (by rw [F.len]; exact l1)] at s1
        cases s1
        exact absurd s2 (nb b t h2 b2)
    · rw [List.getElem?_set_ne n1] at s1
      rcases get_set h2 with ⟨rfl, l2, rfl⟩ | ⟨n2, h2⟩
      · rw [List.getElem?_set_self (by rw [F.len]; exact l2)] at s2
        cases s2
        exact absurd s1 (nb a s h1 b1)
      · rw [List.getElem?_set_ne n2] at s2
        exact F.inj a b s t q h1 h2 b1 b2 s1 s2
  · rcases get_set h1 with ⟨rfl, l1, rfl⟩ | ⟨n1, h1⟩
    · rw [List.getElem?_set_self (by rw [F.len]; exact l1)] at s1
      cases s1; exact hT
    · rw [List.getElem?_set_ne n1] at s1
      exact F.nt a s q h1 b1 s1
def asgs : List Nat → List (Sum D (List D)) → M Unit
  | [], [] => mp ()
  | i :: is, p :: ps => mb (asg1 i p) fun _ => asgs is ps
  | _, _ => fun _ => .bad
def setσ : List Nat → List V → Sv → Sv
  | i :: is, v :: vs, σ => setσ is vs (σ.set i (some v))
  | _, _, σ => σ
theorem FR.asgs {f : Fx} {A : Addr → Prop} {H : Hp} : ∀ (is : List Nat) (ps : List (Sum D (List D))) {vs : List V} {T : Hp} {σ : Sv} {e e' : Ev}, FR g f A H σ e → PF g T A H ps vs → (∀ q ∈ fre ps vs, f.H0 q = none ∧ f.T q = none ∧ (∀ xs, T q = some (.lst xs) → A q ∧ H q = some (.lst xs)) ∧ ∀ (j : Nat) s, e[j]? = some s → s.isBox = true → σ[j]? ≠ some (some (.ref q))) → (fre ps vs).Nodup → Fw.asgs is ps e = .ok () e' → FR g f A H (setσ is vs σ) e'
  | [], [], vs, T, σ, e, e', F, p, _, _, h => by cases h; exact F
  | i :: is, .inl d :: ps, vs, T, σ, e, e', F, p, q, nd, h => by
    obtain ⟨y, ys, rfl, r, p⟩ := p
    obtain ⟨u, e1, h1, h2⟩ := mb_ok h
    rcases setV_inv F (i := i) (d := d) with z | ⟨hp, z⟩
    · rw [show asg1 i (.inl d) e = Fw.setV i d e from rfl, z] at h1; cases h1
    · rw [show asg1 i (.inl d) e = Fw.setV i d e from rfl, z] at h1; cases h1
      refine FR.asgs is ps (F.setV hp r) p (fun q' hq => ?_) nd h2
      obtain ⟨w1, w2, w3, w4⟩ := q q' hq
      refine ⟨w1, w2, w3, fun j s hj hb hs => ?_⟩
      rcases get_set hj with ⟨_, _, rfl⟩ | ⟨n, hj⟩
      · cases hb
      · rw [List.getElem?_set_ne n] at hs; exact w4 j s hj hb hs
  | i :: is, .inr ds :: ps, vs, T, σ, e, e', F, p, q, nd, h => by
    obtain ⟨p1, ys, xs, rfl, t1, rl, p⟩ := p
    obtain ⟨u, e1, h1, h2⟩ := mb_ok h
    obtain ⟨w1, w2, w3, w4⟩ := q p1 List.mem_cons_self
    obtain ⟨wA, wH⟩ := w3 xs t1
    rcases setB_inv F (i := i) (d := .lst ds) with z | ⟨hp, z⟩
    · rw [show asg1 i (.inr ds) e = Fw.setB i (.lst ds) e from rfl, z] at h1; cases h1
    · rw [show asg1 i (.inr ds) e = Fw.setB i (.lst ds) e from rfl, z] at h1; cases h1
      have nd := List.nodup_cons.mp nd
      refine FR.asgs is ps (F.setB' (d := .lst ds) hp wA w2 w1 w4 ⟨xs, wH, rl⟩) p (fun q' hq => ?_) nd.2 h2
      obtain ⟨u1, u2, u3, u4⟩ := q q' (List.mem_cons_of_mem _ hq)
      refine ⟨u1, u2, u3, fun j s hj hb hs => ?_⟩
      rcases get_set hj with ⟨rfl, hl, rfl⟩ | ⟨n, hj⟩
      · rw [List.getElem?_set_self (by rw [F.len]; exact hl)] at hs
        cases hs; exact nd.1 hq
      · rw [List.getElem?_set_ne n] at hs; exact u4 j s hj hb hs
def mPar (is : List Nat) (eds : List Ed) : M Fl := mb (nx1 (mEds eds)) fun ps => mb (nx1 (asgs is ps)) fun _ => mp .nx
theorem t_par {is : List Nat} {eds : List Ed} {D : Ends} {σ : Sv} {H : Hp} (h : rdS g W (mPar is eds) D σ H) : rdEds g W eds σ H fun vs H1 => D.nx (setσ is vs σ) H1 := by
  obtain ⟨f, A, e, F, h⟩ := h
  unfold mPar at h
  cases q : nx1 (mEds eds) e with
  | exc c d e1 => exact absurd q nx1_exc
  | bad => unfold mb at h; rw [q] at h; exact h.elim
  | ok ps e1 =>
    unfold mb at h
    simp only [q] at h
    refine bEds eds F (nx1_ok q) fun T A' vs H' F' t1 m' p' q1 q2 => ?_
    cases z : nx1 (asgs is ps) e1 with
    | exc _ _ _ => exact absurd z nx1_exc
    | bad => simp only [z] at h; exact h.elim
    | ok u e2 =>
      simp only [z] at h
      refine h A' _ H' (FR.asgs is ps (F'.lessT t1) p' (fun q hq => ?_) q2 (nx1_ok z)) m'
      have hn := q1 q hq
      refine ⟨F.h0 hn, ?_, fun xs hx => F'.tp q _ hx, fun j s hj hb hs => ?_⟩
      · cases y : f.T q with
        | none => rfl
        | some o => have := (F.tp q o y).2; rw [hn] at this; cases this
      · have y1 : T q = none := F'.nt j s q hj hb hs
        obtain ⟨xs, y2⟩ := PF.temp ps p' hq
        rw [y1] at y2; cases y2
theorem rdEds_mono : ∀ {eds : List Ed} {σ : Sv} {H : Hp} {G G' : List V → Hp → Prop}, (∀ vs H, G vs H → G' vs H) → rdEds g W eds σ H G → rdEds g W eds σ H G'
  | [], σ, H, G, G', i, h => i _ _ h
  | .e m :: os, σ, H, G, G', i, ⟨f, A, e, F, h⟩ => by
    refine ⟨f, A, e, F, ?_⟩
    generalize m e = r at h
    cases r with
    | ok d e' => exact fun v H' F' S r => rdEds_mono (fun vs H z => i _ _ z) (h v H' F' S r)
    | exc c d e' => exact h
    | bad => exact h
  | .f m :: os, σ, H, G, G', i, ⟨f, A, e, F, h⟩ => by
    refine ⟨f, A, e, F, ?_⟩
    generalize m e = r at h
    cases r with
    | ok d e' => exact fun p xs H' F' F2 n S a b r => rdEds_mono (fun vs H z => i _ _ z) (h p xs H' F' F2 n S a b r)
    | exc c d e' => exact h
    | bad => exact h
theorem rdEds_len : ∀ {eds : List Ed} {σ : Sv} {H : Hp} {G : List V → Hp → Prop}, rdEds g W eds σ H G → rdEds g W eds σ H fun vs H1 => vs.length = eds.length ∧ G vs H1
  | [], σ, H, G, h => ⟨rfl, h⟩
  | .e m :: os, σ, H, G, ⟨f, A, e, F, h⟩ => by
    refine ⟨f, A, e, F, ?_⟩
    generalize m e = r at h
    cases r with
    | ok d e' =>
      intro v H' F' S r
      exact rdEds_mono (fun vs H z => ⟨by rw [List.length_cons, List.length_cons, z.1], z.2⟩) (rdEds_len (h v H' F' S r))
    | exc c d e' => exact h
    | bad => exact h
  | .f m :: os, σ, H, G, ⟨f, A, e, F, h⟩ => by
    refine ⟨f, A, e, F, ?_⟩
    generalize m e = r at h
    cases r with
    | ok d e' =>
      intro p xs H' F' F2 n S a b r
      exact rdEds_mono (fun vs H z => ⟨by rw [List.length_cons, List.length_cons, z.1], z.2⟩) (rdEds_len (h p xs H' F' F2 n S a b r))
    | exc c d e' => exact h
    | bad => exact h
theorem cs_par2 (i j : Nat) {st : Stmt} {a b : Ed} (h : PS X st (tPar i j (rdEds g W [a, b]))) : CS g X W st (mPar [i, j] [a, b]) := PS.imp h fun D σ H z =>
  rdEds_mono (fun vs H1 ⟨hl, q⟩ => by
    match vs, hl with
    | [v, w], _ => exact ⟨v, w, rfl, q⟩) (rdEds_len (t_par z))
theorem cs_par3 (i j l : Nat) {st : Stmt} {a b c : Ed} (h : PS X st (tPar3 i j l (rdEds g W [a, b, c]))) : CS g X W st (mPar [i, j, l] [a, b, c]) := PS.imp h fun D σ H z =>
  rdEds_mono (fun vs H1 ⟨hl, q⟩ => by
    match vs, hl with
    | [u, v, w], _ => exact ⟨u, v, w, rfl, q⟩) (rdEds_len (t_par z))
def mAug (i : Nat) (op : D → D → Option D) (m : M D) : M Fl := mb (mVar i) fun x => mb m fun y => mb (mo (op x y)) fun d => mb (Fw.setV i d) fun _ => mp .nx
theorem cs_aug (i : Nat) {st : Stmt} {r : TIp} {op : D → D → Option D} {m : M D} (ho : OS g r op) (h : PS X st (tAug i (rdE g W m) r)) : CS g X W st (mAug i op m) := PS.imp h fun D σ H ⟨f, A, e, F, h⟩ => by
  unfold mAug at h
  have hv : ∃ d, e[i]? = some (.val d) ∧ FinS g W f A H D (mb m (fun y => mb (mo (op d y)) fun d => mb (Fw.setV i d) fun _ => mp .nx) e) := by
    unfold mb mVar at h
    split at h
    · rename_i d e' q
      split at q
      · rename_i d' q2; cases q; exact ⟨d, q2, h⟩
      · cases q
    · rename_i q
      split at q <;> cases q
    · exact h.elim
  obtain ⟨x, q, h⟩ := hv
  obtain ⟨o, h1, _, v, h2, rx⟩ := F.at q
  refine ⟨v, by rw [h1, h2], ?_⟩
  refine FinS.bE h F fun y e1 w H1 F1 S1 ry h1 => ?_
  obtain ⟨d, q1, h2⟩ := FinS.mo h1
  refine ho A H1 x y d v w _ F1.al (F.r S1 rx).rt ry.rt q1 fun z H2 s rz => ?_
  rcases setV_inv F1 (i := i) (d := d) with q | ⟨hp, q⟩
  · unfold mb at h2; rw [q] at h2; exact h2.elim
  · unfold mb at h2; rw [q] at h2
    exact h2 A _ H2 ((F1.same s).setV hp rz) (Mono.same F1.al s)
end
end Fw
namespace Fw
open L2 PyProof.Rows PySem PySem.Spec
section
variable {g : GC} {X : Cx} {W : WK}
def rRepr (K : PySem.W.Frag) : List V → Hp → VK → Prop := fun xs H Q => ∃ x d, xs = [x] ∧ Dp K H x d ∧ SeqAt.shaped d = true ∧ d.showable = true ∧ d.shown.length ≤ sizeLine ∧ Q (.str d.shown) H
theorem call_reprD (hu : X.A.units + 65 < cLine) (gd : X.A.guards = some []) : CallR X (.builtin "repr") (rRepr X.K) := by
  intro pins s σ H xs us Q I r h
  obtain ⟨x, d, rfl, hd, sh, sw, sz, q⟩ := h
  obtain ⟨u, rfl, ru⟩ := vals1 r
  cases hd with
  | non => cases ru; exact PySem.P.repr_of_none ⟨.str _, H, I.tok _, ⟨_, rfl⟩, q⟩
  | bl b => cases ru; exact PySem.P.repr_of_bool ⟨.str _, H, I.tok _, ⟨_, rfl⟩, q⟩
  | int i => obtain ⟨t, rfl⟩ := ru; exact PySem.P.repr_of_int (of_decide_eq_true sw) ⟨.str _, H, I.tok _, ⟨_, rfl⟩, q⟩
  | str z => obtain ⟨t, rfl⟩ := ru; exact PySem.P.repr_of_str ⟨.str _, H, I.tok _, ⟨_, rfl⟩, q⟩ sz
  | lst h1 h2 =>
    have ru' := ru
    cases ru
    obtain ⟨as, rd⟩ := Dp.reads I _ _ _ (Dp.lst h1 h2) ru'
    have sh' := Bool.and_eq_true_iff.mp sh
    have dp := of_decide_eq_true sh'.2
    exact repr_of_reads' rd sw (PyData.noDict_hsm (PyData.hasDict_of_canLay _ sh'.1)) gd (by omega) (fun _ _ z => z) (fun h' u tk k => ⟨.str _, H, I.kept k, ⟨_, rfl⟩, q⟩) sz
  | tup h1 h2 =>
    have ru' := ru
    cases ru
    obtain ⟨as, rd⟩ := Dp.reads I _ _ _ (Dp.tup h1 h2) ru'
    have sh' := Bool.and_eq_true_iff.mp sh
    have dp := of_decide_eq_true sh'.2
    exact repr_of_reads' rd sw (PyData.noDict_hsm (PyData.hasDict_of_canLay _ sh'.1)) gd (by omega) (fun _ _ z => z) (fun h' u tk k => ⟨.str _, H, I.kept k, ⟨_, rfl⟩, q⟩) sz
def dRepr (d : D) : Option D := match py d with
  | some p => if SeqAt.shaped p = true ∧ p.showable = true ∧ p.shown.length ≤ 1000000 then some (.str p.shown) else none
  | none => none
theorem ls_repr : LS g (rRepr g.K) (op1 dRepr) := ls1 fun A H d d' v Q al r q k => by
  unfold dRepr at q
  cases z : py d with
  | none => rw [z] at q; cases q
  | some p =>
    rw [z] at q
    have q : (if SeqAt.shaped p = true ∧ p.showable = true ∧ p.shown.length ≤ 1000000 then some (D.str p.shown) else none) = some d' := q
    by_cases c : SeqAt.shaped p = true ∧ p.showable = true ∧ p.shown.length ≤ 1000000
    · rw [if_pos c] at q; cases q
      exact ⟨v, p, rfl, Rt.dp d v p r z, c.1, c.2.1, Nat.le_trans c.2.2 million, k _ H (Same.refl H) rfl⟩
    · rw [if_neg c] at q; cases q
abbrev CKs (g : GC) (X : Cx) (W : WK) (ks : List Keyword) (os : List Od) : Prop := PK X ks (rdOs g W os)
theorem ck_nil : CKs g X W [] [] := pk_nil
theorem ck_cons {a : Expr} {nm : Option Str} {kp : Pos} {ks : List Keyword} {o : Od} {os : List Od} (ha : CO g X W a o) (hr : CKs g X W ks os) : CKs g X W (⟨nm, a, kp⟩ :: ks) (o :: os) := pk_cons ha hr
def permL {α : Type} (π : List Nat) (xs : List α) : List α := π.filterMap fun i => xs[i]?
theorem PL.perm {A : Addr → Prop} {H : Hp} {σ : Sv} {ps : List (Sum D Nat)} {vs : List V} (p : PL g A H σ ps vs) : ∀ (π : List Nat), (∀ i ∈ π, i < ps.length) → PL g A H σ (permL π ps) (permL π vs)
  | [], _ => rfl
  | i :: π, h => by
    have ih := PL.perm p π fun j hj => h j (List.mem_cons_of_mem _ hj)
    have hi := h i List.mem_cons_self
    have e1 : ps[i]? = some ps[i] := List.getElem?_eq_getElem hi
    obtain ⟨v, hv, r⟩ := PL.get p e1
    have e2 : permL (i :: π) ps = ps[i] :: permL π ps := by unfold permL; rw [List.filterMap_cons, e1]
    have e3 : permL (i :: π) vs = v :: permL π vs := by unfold permL; rw [List.filterMap_cons, hv]
    rw [e2, e3]
    cases q : ps[i] with
    | inl d => rw [q] at r; exact ⟨v, _, rfl, r, ih⟩
    | inr j => rw [q] at r; exact ⟨v, _, rfl, r, ih⟩
def mCallP (np : Nat) (fn : Fn) (π : List Nat) (os : List Od) : M RV := mb (mA1 os) fun ps e => if ps.length = π.length ∧ (π.all fun i => decide (i < ps.length)) = true then (match argsOf e (permL π ps) with
  | none => .bad
  | some as => if as.length = np then (if nodupB (nums (permL π ps)) = true then (match fn as with
      | .ok rv as' => .ok rv (wb (permL π ps) as' e)
      | .exc c d as' => .exc c d (wb (permL π ps) as' e)
      | .bad => .bad) else .bad) else .bad) else .bad
def mCvP (np : Nat) (fn : Fn) (π : List Nat) (os : List Od) : M D := mb (mCallP np fn π os) fun rv => mp rv.d
theorem t_callP {np : Nat} {fn : Fn} {π : List Nat} {os : List Od} {σ : Sv} {H : Hp} {Q : VK} (h : rdE g W (mCvP np fn π os) σ H Q) : rdOs g W os σ H fun vs H1 => vs.length = π.length ∧ spF g np fn (permL π vs) H1 Q (WE W σ) := by
  obtain ⟨f, A, e, F, h⟩ := h
  unfold mCvP mCallP at h
  rw [mb_assoc] at h
  refine bAs1 os h F fun ps e1 vs H1 F1 S1 p1 h1 => ?_
  unfold mb at h1
  dsimp only at h1
  by_cases hc : ps.length = π.length ∧ (π.all fun i => decide (i < ps.length)) = true
  · rw [if_pos hc] at h1
    refine ⟨(PL.length p1).trans hc.1, ?_⟩
    have p2 := p1.perm π fun i hi => of_decide_eq_true (List.all_eq_true.mp hc.2 i hi)
    generalize permL π ps = ps' at h1 p2
    generalize permL π vs = vs' at p2
    cases ha : argsOf e1 ps' with
    | none => simp only [ha] at h1; exact h1.elim
    | some as =>
      simp only [ha] at h1
      by_cases hl : as.length = np
      · rw [if_pos hl] at h1
        by_cases nd : nodupB (nums ps') = true
        · rw [if_pos nd] at h1
          have r := args_rel F1 p2 ha nd
          refine ⟨by rw [← r.len]; exact hl, A, as, F1.al, r, ?_⟩
          cases q : fn as with
          | ok rv as' =>
            simp only [q] at h1
            cases rv with
            | v d =>
              intro v H' po rr
              obtain ⟨F2, S2⟩ := F1.call p2 ha nd po (fun _ z => z) (fun _ _ z _ => z) po.al
              exact h1 v H' F2 (S1.trans S2) rr
            | b ds =>
              intro p xs H' po hn hp rr
              have sub : ∀ a, A a → add1 A p a := fun _ z => .inl z
              have al' : Al (add1 A p) H' := fun a z => z.elim (po.al a) fun z => ⟨.lst xs, by rw [z]; exact hp, rfl⟩
              obtain ⟨F2, S2⟩ := F1.call p2 ha nd (po.less sub al') (fun _ z => z) (fun _ _ z _ => z) po.al
              exact h1 _ H' F2 (S1.trans S2) ⟨p, xs, rfl, hp, F1.nA hn, RL.less al' sub rr⟩
          | exc c d as' =>
            simp only [q] at h1
            intro cls dd H' po x
            obtain ⟨F2, S2⟩ := F1.call p2 ha nd po (fun _ z => z) (fun _ _ z _ => z) po.al
            exact h1 cls dd H' F2 S2 x
          | bad => simp only [q] at h1; exact h1.elim
        · rw [if_neg nd] at h1; exact h1.elim
      · rw [if_neg hl] at h1; exact h1.elim
  · rw [if_neg hc] at h1; exact h1.elim
structure Has (P : Program) (w : World) (K : PySem.W.Frag) (mg : Str → Option Value) (base : Heap) (k : Nat) (x : Str) (ps : List Str) (ar : Arguments) (sp : Sp) : Prop where
  ex : ∃ f fd, FnG P w K mg base k f fd ps sp ∧ mg x = some (.ref f) ∧ PySem.W.keepIn K (.ref f) = true ∧ Binds K fd ps [] ∧
    ∃ (nm q : Str) (body : List Stmt) (scope : Scope), FunD K nm q ar body scope [] [] f fd
section
variable {k np : Nat} {x : Str} {ps : List Str} {ar : Arguments} {fn : Fn} {p pos : Pos} {e : Expr} {es : List Expr}
theorem c_call {os : List Od} (F : Has X.prog X.w X.K X.mg X.base k x ps ar (spF g np fn)) (hr : Room k X.A) (gd : X.A.guards = some []) (hg : Gl X x) (tk : Takes X W) (ha : COs g X W (e :: es) os)
    (hdb : (x == ("__debug__" : Str)) = false) (he : starEach (e :: es) X.env = (false, eval e X.env) :: starEach es X.env := by rfl) (hpl : (backTo pos (starEach es X.env)).any (·.1) = false := by rfl) : CE g X W (.Call (.Name x p) (e :: es) [] pos) (mCv np fn os) := by
  obtain ⟨f, fd, F, hm, hk, hb, _⟩ := F.ex
  exact PE.imp (pe_callG F hr gd hg hm hk hb tk ha hdb he hpl) t_call
theorem cf_call {os : List Od} (F : Has X.prog X.w X.K X.mg X.base k x ps ar (spF g np fn)) (hr : Room k X.A) (gd : X.A.guards = some []) (hg : Gl X x) (tk : Takes X W) (ha : COs g X W (e :: es) os)
    (hdb : (x == ("__debug__" : Str)) = false) (he : starEach (e :: es) X.env = (false, eval e X.env) :: starEach es X.env := by rfl) (hpl : (backTo pos (starEach es X.env)).any (·.1) = false := by rfl) : CF g X W (.Call (.Name x p) (e :: es) [] pos) (mCl np fn os) := by
  obtain ⟨f, fd, F, hm, hk, hb, _⟩ := F.ex
  exact PE.imp (pe_callG F hr gd hg hm hk hb tk ha hdb he hpl) t_callF
theorem c_call1 {m : M (List D)} (F : Has X.prog X.w X.K X.mg X.base k x ps ar (spF g 1 fn)) (hr : Room k X.A) (gd : X.A.guards = some []) (hg : Gl X x) (tk : Takes X W) (ha : CF g X W e m)
    (hdb : (x == ("__debug__" : Str)) = false) (he : starEach [e] X.env = (false, eval e X.env) :: starEach [] X.env := by rfl) : CE g X W (.Call (.Name x p) [e] [] pos) (mC1 fn m) := by
  obtain ⟨f, fd, F, hm, hk, hb, _⟩ := F.ex
  exact PE.imp (pe_callG F hr gd hg hm hk hb tk (pa_cons ha pa_nil he) hdb he rfl) t_call1
theorem c_callK {os : List Od} {ks : List Keyword} {π : List Nat} {nms : List Str} (F : Has X.prog X.w X.K X.mg X.base k x ps ar (spF g np fn)) (hr : Room k X.A) (gd : X.A.guards = some []) (hg : Gl X x) (tk : Takes X W) (ha : CKs g X W ks os)
    (hkb : ∀ (fd : FuncData) (f : Addr) (nm q : Str) (body : List Stmt) (scope : Scope), FunD X.K nm q ar body scope [] [] f fd → ∀ (s : Shared) (us : List Value), us.length = π.length → BindsTo s fd ⟨[], nms.zip us⟩ (ps.zip (permL π us)))
    (hall : (backToKw pos (keywordEach ks X.env)).all (·.1.isSome) = true := by rfl) (hks : (backToKw pos (keywordEach ks X.env)).filterMap (·.1) = nms := by rfl)
    (hdb : (x == ("__debug__" : Str)) = false) (hpl : ((backTo pos (starEach [] X.env)).any (·.1) || (backToKw pos (keywordEach ks X.env)).any (·.1.isNone)) = false := by rfl) : CE g X W (.Call (.Name x p) [] ks pos) (mCvP np fn π os) := by
  obtain ⟨f, fd, F, hm, hk, hb, nm', q', body, scope, FD⟩ := F.ex
  refine ⟨fun pins s σ H Q I h => wpAny_Call_Name_kw (ld_glob I hg hm ?_ hdb)⟩
  refine PySem.W.callWith_KW0 (h₀ := X.base) I.ok.mod.kin hk hall (thn (ha.run pos pins s σ H _ I (t_callP h)) fun us s1 ⟨vs, H1, I1, r, hl, q⟩ => ⟨I1.kIn, ?_⟩) hpl
  rw [hks]
  have perm : ∀ (π : List Nat), Vals (permL π vs) (permL π us) := fun π => by
    induction π with
    | nil => exact .nil
    | cons i π ih =>
      unfold permL
      rw [List.filterMap_cons, List.filterMap_cons]
      cases z : vs[i]? with
      | none => rw [r.none_of z]; exact ih
      | some v => obtain ⟨u, z1, z2⟩ := r.get z; rw [z1]; exact .cons z2 ih
  exact run_g (args := ⟨[], nms.zip us⟩) F hr gd tk I1 (hkb fd f nm' q' body scope FD s1 us (by rw [← r.length]; exact hl)) (perm π) q
end
end
end Fw
namespace Fw
open L2 PyProof.Rows PySem PySem.Spec
section
variable {g : GC} {X : Cx} {W : WK}
theorem ts_nil : PTs X [] (rdT g W (mp true)) := ⟨fun pins s σ H Q I h => pts_nil.run pins s σ H Q I (by
  obtain ⟨f, A, e, F, h⟩ := h
  exact h H F .refl)⟩
theorem ts_one {c : Expr} {m : M Bool} (h : CT g X W c m) : PTs X [c] (rdT g W m) := pts_one h
theorem u64 {k : Nat} {A : Around} (h : Room k A) : A.units + 64 < cLine := h.units
theorem u1 {k : Nat} {A : Around} (h : Room k A) : A.units + 1 < cLine := by have := h.units; omega
theorem u65 {k : Nat} {A : Around} (h : Room k A) : A.units + 65 < cLine := by have := h.un; omega
def dIAdd : D → D → Option D := dI fun i j => some (.int (i + j))
theorem os_iadd : OS g (ipI fun i j => i + j) dIAdd := os_I0 (h := fun i j => .int (i + j)) fun i j d q A H => by cases q; rfl
theorem c_gint {x : Str} {i : Int} {p : Pos} (hg : Gl X x) (h : ∃ t, X.mg x = some (.int i t)) (hd : (x == ("__debug__" : Str)) = false := by decide +kernel) : CE g X W (.Name x p) (mC (.int i)) := by
  obtain ⟨t, h⟩ := h
  exact c_con (pe_glob (v := .int i) hg h ⟨t, rfl⟩ hd) fun _ _ => rfl
theorem c_gty {x : Str} {y : String} {p : Pos} (hg : Gl X x) (hm : X.mg x = none) (hv : bootBuiltins x = some (.type y)) (hn : x ≠ "__name__" := by decide +kernel) (hd : (x == ("__debug__" : Str)) = false := by decide +kernel) : CE g X W (.Name x p) (mC (.ty y)) :=
  c_con (pe_bltn (v := .ty y) hg hm hv rfl hn hd) fun _ _ => rfl
end
end Fw
namespace Fw
open L2 PyProof.Rows PySem PySem.Spec
section
variable {P : Program} {w : World} {K : PySem.W.Frag} {mg mb : Str → Option Value} {k : Nat} {fa a : Addr} {fd : FuncData} {x : Str} {sp : Sp} {s1 : Shared} {vs : List Value} {ns : List Int}
abbrev EndQ (s1 : Shared) : Except Value Flow → Shared → Prop := fun r s2 => r = .ok (.ret (.bool true)) ∧ OldK s1.heap s2.heap ∧ s2.os = s1.os ∧ AllBare s2.gens
structure Just (P : Program) (w : World) (K : PySem.W.Frag) (H : Hp) (a : Addr) (h : Heap) : Prop where
  one : ∀ b u, H b = some u → b = a ∧ (∃ o xs, u = .frz o (.lst xs)) ∧ K.lookup a = none
  ok : HOk P w H h
theorem end_core {H : Hp} {us : List Value} (J : Just P w K H a s1.heap) (isL : ∀ b o es ep, s1.heap.get? b = some o → o.data = .dict es ep → b ≠ a)
    (gm : s1.heap.Ns mainGlobals mg) (gb : s1.heap.Ns builtinsNs mb) (bb : ∀ y : Str, y ≠ "__name__" → mb y = bootBuiltins y) (nl : s1.heap.NoLimit) (ng : s1.gens = #[]) (KX : K.In s1.heap) (rm : Room k callerA)
    (F : ∀ base : Heap, K.In base → base.Ns mainGlobals mg → FnG P w K mg base k fa fd [x] sp) (bi : ∀ (s : Shared) (u : Value), BindsTo s fd ⟨[u], []⟩ [(x, u)])
    (prom : sp [.ref a] H (fun v _ => v = .bl true) fun _ _ _ => False) : codeAny (model P w) callerA (.call (.ref fa) ⟨[.ref a], []⟩) (EndQ s1) s1 := by
  have free : ∀ {b o es ep}, s1.heap.get? b = some o → o.data = .dict es ep → H b = none := by
    intro b o es ep e d
    cases z : H b with
    | none => rfl
    | some u => exact absurd (J.one b u z).1 (isL b o es ep e d)
  have down : ∀ {b : Addr} {m : Str → Option Value}, s1.heap.Ns b m → (hidT s1.heap H).Ns b m := by
    rintro b m ⟨o, es, ep, e, d, r⟩
    exact ⟨o, es, ep, hidT_get e (free e d), d, r⟩
  have kin : K.In (hidT s1.heap H) := by
    intro b o e
    refine hidT_get (KX b o e) ?_
    cases z : H b with
    | none => rfl
    | some u =>
      obtain ⟨rfl, _, no⟩ := J.one b u z
      rw [no] at e; cases e
  obtain ⟨mc, c1, c2⟩ := nl
  have md : Mod K mg (hidT s1.heap H) := ⟨kin, down gm, ⟨mb, down gb, bb⟩, mc, down c1, c2⟩
  have ev : Env0 P w K mg (hidT s1.heap H) callerA [] s1 H := by
    refine ⟨rfl, md, fun b o e => of_hidT e, Nat.le_of_eq (hidT_size _ _), trivial, fun b hb => ?_, J.ok, .of_eq ng⟩
    have hb : b ∈ ([] : List Addr) := hb
    cases hb
  have go := (F _ kin (down gm)).run callerA [] s1 H ⟨[.ref a], []⟩ [.ref a] [.ref a] _ _ rm rfl ev (bi s1 (.ref a)) (.cons rfl .nil) prom
  refine codeAny_mono go fun r s2 h => ?_
  cases r with
  | error e =>
    obtain ⟨_, _, _, _, _, _, _, _, _, _, _, _, h⟩ := h
    exact h.elim
  | ok fl => cases fl with
    | ret u =>
      obtain ⟨v, H2, os, bare, un, ok2, rv, q⟩ := h
      cases (show v = .bl true from q)
      cases (show u = Value.bool true from rv)
      refine ⟨rfl, OldK.of_keep fun b o e => ?_, os, bare⟩
      cases z : H b with
      | none =>
        refine un.keep b o e z (fun y => ?_) (by simp)
        have y : b ∈ ([] : List Addr) := y
        cases y
      | some u =>
        obtain ⟨_, ⟨ob, xs, rfl⟩, _⟩ := J.one b u z
        obtain ⟨e1, _⟩ := J.ok b _ z
        obtain ⟨e2, _⟩ := ok2 b _ (un.frzs b ob _ z)
        cases e.symm.trans e1
        exact e2
    | next => exact h.elim
    | brk => exact h.elim
    | cont => exact h.elim
theorem end_call (KX : K.In s1.heap) (gm : s1.heap.Ns mainGlobals mg) (gb : s1.heap.Ns builtinsNs mb) (bb : ∀ y : Str, y ≠ "__name__" → mb y = bootBuiltins y) (nl : s1.heap.NoLimit) (ng : s1.gens = #[])
    (ha : s1.heap.get? a = some { cls := .type "list", data := .seq vs.toArray }) (hi : IntsAre vs ns) (hl : ns.length ≤ sizeLine) (rm : Room k callerA)
    (F : ∀ base : Heap, K.In base → base.Ns mainGlobals mg → FnG P w K mg base k fa fd [x] sp) (bi : ∀ (s : Shared) (u : Value), BindsTo s fd ⟨[u], []⟩ [(x, u)])
    (prom : ∀ H : Hp, SqL K H a (ns.map V.int) → sp [.ref a] H (fun v _ => v = .bl true) fun _ _ _ => False) : codeAny (model P w) callerA (.call (.ref fa) ⟨[.ref a], []⟩) (EndQ s1) s1 := by
  have isL : ∀ b o es ep, s1.heap.get? b = some o → o.data = .dict es ep → b ≠ a := by
    rintro b o es ep e d rfl
    cases e.symm.trans ha
    cases d
  cases hk : K.lookup a with
  | some o =>
    cases (KX a o hk).symm.trans ha
    have J : Just P w K (fun _ => none) a s1.heap := ⟨fun b u z => (by cases z), fun b u z => (by cases z)⟩
    exact end_core (us := vs) J isL gm gb bb nl ng KX rm F bi (prom _ (.inr ⟨_, vs.toArray, _, hk, rfl, rfl, rfl, by rw [List.size_toArray, hi.length]; exact hl, by simpa using vals_ints hi⟩))
  | none =>
    have at_ : ∀ b u, (if b = a then some (HO.frz { cls := .type "list", data := .seq vs.toArray } (.lst (ns.map V.int))) else none) = some u → b = a ∧ u = .frz { cls := .type "list", data := .seq vs.toArray } (.lst (ns.map V.int)) := by
      intro b u z
      split at z
      · cases z; exact ⟨by assumption, rfl⟩
      · cases z
    have J : Just P w K (fun b => if b = a then some (.frz { cls := .type "list", data := .seq vs.toArray } (.lst (ns.map V.int))) else none) a s1.heap := by
      refine ⟨fun b u z => ?_, fun b u z => ?_⟩
      · obtain ⟨rfl, rfl⟩ := at_ b u z
        exact ⟨rfl, ⟨_, _, rfl⟩, hk⟩
      · obtain ⟨rfl, rfl⟩ := at_ b u z
        exact ⟨ha, by rw [List.length_map]; exact hl, vs, _, vals_ints hi, ha⟩
    exact end_core (us := vs) J isL gm gb bb nl ng KX rm F bi (prom _ (.inl (.inr ⟨{ cls := .type "list", data := .seq vs.toArray }, if_pos rfl⟩)))
end
theorem fd_same {K : PySem.W.Frag} {x y x' y' : Str} {pa pa' : Arguments} {b b' : List Stmt} {sc sc' : Scope} {dv dv' : List V} {kw kw' : List (Str × V)} {f : Addr} {fd fd' : FuncData} (F : FunD K x y pa b sc dv kw f fd) (G : FunD K x' y' pa' b' sc' dv' kw' f fd') : fd = fd' := by
  obtain ⟨_, _, _, _, _, _, _, _, _, _, _, l1, _⟩ := F.ex
  obtain ⟨_, _, _, _, _, _, _, _, _, _, _, l2, _⟩ := G.ex
  cases l1.symm.trans l2
  rfl
theorem spF_law {g : GC} {fn : Fn} {H : Hp} {a : Addr} {ns : List Int} {as' : List Sl} (h : fn [.val (.scr ns)] = .ok (.v (.bl true)) as') (hS : SqL g.K H a (ns.map V.int)) : spF g 1 fn [.ref a] H (fun v _ => v = .bl true) fun _ _ _ => False := by
  refine ⟨rfl, fun _ => False, [.val (.scr ns)], fun _ z => z.elim, ⟨rfl, ?_, ?_⟩, ?_⟩
  · intro i s v e1 e2
    cases i with
    | zero =>
      cases e1; cases e2
      exact ⟨a, rfl, hS.elim (fun z => .inl ⟨z, fun y => y⟩) .inr⟩
    | succ i => cases e1
  · intro i j s t p e1 e2 z1
    cases i with
    | zero => cases e1; cases z1
    | succ i => cases e1
  · rw [h]
    exact fun v H' _ r => r
theorem walk_g {l : PySem.W.OpenLaw} {n k : Nat} {q : Program} {loose : List Str} {XP : (Str → Option Value) → Heap → Prop} {YP : World → Heap → Prop} {d : DefRec} {x : Str} (hn : l.most = some n) (hn2 : n ≤ sizeLine) (hdf : d.params.defaults = []) (rm : Room k callerA)
    (F : ∀ (w : World) (mg : Str → Option Value) (fa : Addr) (h : Heap), YP w h → h.Ns mainGlobals mg → mg d.name = some (.ref fa) → ∃ (K : PySem.W.Frag) (fd : FuncData) (sp : Sp), K.In h ∧ (∀ (s : Shared) (u : Value), BindsTo s fd ⟨[u], []⟩ [(x, u)]) ∧
        (∀ (H : Hp) (a : Addr) (ns : List Int), ns.length ≤ n → SqL K H a (ns.map V.int) → sp [.ref a] H (fun v _ => v = .bl true) fun _ _ _ => False) ∧ ∀ base : Heap, K.In base → base.Ns mainGlobals mg → FnG l.prog w K mg base k fa fd [x] sp) :
    PySem.W.WalkO q loose XP YP l.row.toRowW d [] (fun f vs => PySem.call f vs) := by
  refine Att.attach_call hn hdf fun w s0 s1 mg mb fa o pm cd doc a vs ns G Y ho hd hcd hm hobj hi hlen hg => ?_
  obtain ⟨K, fd, sp, KX, hb, hsp, hF⟩ := F w mg fa _ Y G.T.g hm
  exact end_call KX G.T.g G.T.b G.T.builtins G.T.nolimit hg hobj hi (Nat.le_trans hlen hn2) rm hF hb fun H hS => hsp H a ns hlen hS
end Fw
namespace Fw
open PySem L2
@[simp high] theorem get_0 {α : Type} {a : α} {l : List α} : (a :: l)[0]? = some a := rfl
@[simp high] theorem get_1 {α : Type} {a : α} {l : List α} {n : Nat} : (a :: l)[n + 1]? = l[n]? := rfl
section
variable {α β : Type} {e : Ev}
@[simp] theorem e_mb {m : M α} {k : α → M β} : mb m k e = (match m e with
  | .ok a e' => k a e'
  | .exc c d e' => .exc c d e'
  | .bad => .bad) := rfl
@[simp] theorem e_mp {a : α} : mp a e = .ok a e := rfl
@[simp] theorem e_mo {a : α} : mo (some a) e = .ok a e := rfl
@[simp] theorem e_mo0 : mo (none : Option α) e = .bad := rfl
@[simp] theorem e_mC {d : D} : mC d e = .ok d e := rfl
@[simp] theorem e_mVar {i : Nat} : mVar i e = (match e[i]? with
  | some (.val d) => .ok d e
  | _ => .bad) := rfl
@[simp] theorem e_mN {i : Nat} : mN i e = (match e[i]? with
  | some s => (match s.dat with
    | some d => .ok d e
    | none => .bad)
  | none => .bad) := rfl
@[simp] theorem e_dat1 {d : D} : Sl.dat (.val d) = some d := rfl
@[simp] theorem e_dat2 {d : D} : Sl.dat (.box d) = some d := rfl
@[simp] theorem e_dat3 {d : D} : Sl.dat (.pbox d) = some d := rfl
@[simp] theorem e_O2ee {m m' : M D} {k : D → D → M β} : mO2 (.e m) (.e m') k e = mb m (fun x => mb m' fun y => k x y) e := rfl
@[simp] theorem e_O2en {m : M D} {j : Nat} {k : D → D → M β} : mO2 (.e m) (.n j) k e = mb m (fun x => mb (mN j) fun y => k x y) e := rfl
@[simp] theorem e_O2ne {i : Nat} {m' : M D} {k : D → D → M β} : mO2 (.n i) (.e m') k e = mb (mN i) (fun _ => mb m' fun y => mb (mN i) fun x => k x y) e := rfl
@[simp] theorem e_O2nn {i j : Nat} {k : D → D → M β} : mO2 (.n i) (.n j) k e = mb (mN i) (fun x => mb (mN j) fun y => k x y) e := rfl
@[simp] theorem e_O1e {m : M D} {k : D → M β} : mO1 (.e m) k e = mb m k e := rfl
@[simp] theorem e_O1n {i : Nat} {k : D → M β} : mO1 (.n i) k e = mb (mN i) k e := rfl
@[simp] theorem e_Op {op : D → D → Option D} {a b : Od} : mOp op a b e = mO2 a b (fun x y => mo (op x y)) e := rfl
@[simp] theorem e_OpF {op : D → D → Option (List D)} {a b : Od} : mOpF op a b e = mO2 a b (fun x y => mo (op x y)) e := rfl
@[simp] theorem e_Un {op : D → Option D} {a : Od} : mUn op a e = mO1 a (fun x => mo (op x)) e := rfl
@[simp] theorem e_Cmp {op : D → D → Option D} {a b : Od} : mCmp op a b e = mO2 a b (fun x y => mo ((op x y).bind dB)) e := rfl
@[simp] theorem e_dB {b : Bool} : dB (.bl b) = some b := rfl
@[simp] theorem e_Chain {o o' : D → D → Option D} {a b c : Od} : mChain o o' a b c e = mO2 a b (fun x y => mb (mo ((o x y).bind dB)) fun k => if k = true then mO1 c fun z => mo (o' y z) else mp (.bl false)) e := rfl
@[simp] theorem e_Tru {a : Od} : mTru a e = mO1 a (fun d => mo (dTru d)) e := rfl
@[simp] theorem e_And {a b : M Bool} : mAnd a b e = (match a e with
  | .ok true e' => b e'
  | .ok false e' => .ok false e'
  | .exc c d e' => .exc c d e'
  | .bad => .bad) := by unfold mAnd mb; cases a e with
    | ok c e' => cases c <;> rfl
    | _ => rfl
@[simp] theorem e_Or {a b : M Bool} : mOr a b e = (match a e with
  | .ok true e' => .ok true e'
  | .ok false e' => b e'
  | .exc c d e' => .exc c d e'
  | .bad => .bad) := by unfold mOr mb; cases a e with
    | ok c e' => cases c <;> rfl
    | _ => rfl
@[simp] theorem e_Not {a : M Bool} : mNot a e = mb a (fun c => mp (!c)) e := rfl
@[simp] theorem e_If {c : M Bool} {a b : M α} : mIf c a b e = (match c e with
  | .ok k e' => if k = true then a e' else b e'
  | .exc c d e' => .exc c d e'
  | .bad => .bad) := by unfold mIf mb; cases c e with
    | ok c e' => cases c <;> rfl
    | _ => rfl
@[simp] theorem e_Fr {m : M (List D)} : mFr m e = mb m (fun ds => mp (.lst ds)) e := rfl
@[simp] theorem e_AndV {a b : M D} : mAndV a b e = (match a e with
  | .ok x e' => (match dTru x with
    | some k => if k = true then b e' else .ok x e'
    | none => .bad)
  | .exc c d e' => .exc c d e'
  | .bad => .bad) := by unfold mAndV mb mo; cases a e with
    | ok x e' =>
      dsimp only
      cases dTru x with
      | none => rfl
      | some k => cases k <;> rfl
    | _ => rfl
@[simp] theorem e_OrV {a b : M D} : mOrV a b e = (match a e with
  | .ok x e' => (match dTru x with
    | some k => if k = true then .ok x e' else b e'
    | none => .bad)
  | .exc c d e' => .exc c d e'
  | .bad => .bad) := by unfold mOrV mb mo; cases a e with
    | ok x e' =>
      dsimp only
      cases dTru x with
      | none => rfl
      | some k => cases k <;> rfl
    | _ => rfl
@[simp] theorem e_NotV {a : Od} : mNotV a e = mO1 a (fun x => mb (mo (dTru x)) fun c => mp (.bl (!c))) e := rfl
@[simp] theorem e_truB {b : Bool} : dTru (.bl b) = some b := rfl
@[simp] theorem e_Nil : mNil e = .ok [] e := rfl
@[simp] theorem e_Cons {a : M D} {b : M (List D)} : mCons a b e = mb a (fun x => mb b fun y => mp (x :: y)) e := rfl
@[simp] theorem e_Tup {m : M (List D)} : mTup m e = (match m e with
  | .ok ds e' => if ds.length ≤ 1000000 then .ok (.tup ds) e' else .bad
  | .exc c d e' => .exc c d e'
  | .bad => .bad) := by unfold mTup mb; cases m e with
    | ok ds e' => dsimp only; split <;> rfl
    | _ => rfl
@[simp] theorem e_Lst {m : M (List D)} : mLst m e = (match m e with
  | .ok ds e' => if ds.length ≤ 1000000 then .ok ds e' else .bad
  | .exc c d e' => .exc c d e'
  | .bad => .bad) := by unfold mLst mb; cases m e with
    | ok ds e' => dsimp only; split <;> rfl
    | _ => rfl
@[simp] theorem e_A1nil : mA1 [] e = .ok [] e := rfl
@[simp] theorem e_A1e {m : M D} {os : List Od} : mA1 (.e m :: os) e = mb m (fun d => mb (mA1 os) fun r => mp (.inl d :: r)) e := rfl
@[simp] theorem e_A1n {i : Nat} {os : List Od} : mA1 (.n i :: os) e = mb (mN i) (fun _ => mb (mA1 os) fun r => mp (.inr i :: r)) e := rfl
@[simp] theorem e_R0 : mRes [] e = .ok [] e := rfl
@[simp] theorem e_R1 {d : D} {r : List (Sum D Nat)} : mRes (.inl d :: r) e = mb (mRes r) (fun ds => mp (d :: ds)) e := rfl
@[simp] theorem e_R2 {i : Nat} {r : List (Sum D Nat)} : mRes (.inr i :: r) e = mb (mN i) (fun d => mb (mRes r) fun ds => mp (d :: ds)) e := rfl
@[simp] theorem e_As {os : List Od} : mAs os e = mb (mA1 os) mRes e := rfl
@[simp] theorem e_CB {op : List D → Option D} {os : List Od} : mCB op os e = mb (mAs os) (fun ds => mo (op ds)) e := rfl
@[simp] theorem e_CF {op : List D → Option (List D)} {os : List Od} : mCF op os e = mb (mAs os) (fun ds => mo (op ds)) e := rfl
@[simp] theorem e_IA {op : List D → Option (List D)} {os : List Od} : mIA op os e = mb (mAs os) (fun ds => mo (op ds)) e := rfl
@[simp] theorem e_op1 {f : D → Option β} {d : D} : op1 f [d] = f d := rfl
@[simp] theorem e_op2 {f : D → D → Option β} {d d' : D} : op2 f [d, d'] = f d d' := rfl
@[simp] theorem e_It {m : M D} : mIt m e = mb m (fun d => mo (dItems d)) e := rfl
@[simp] theorem e_itL {ds : List D} : dItems (.lst ds) = some ds := rfl
@[simp] theorem e_itT {ds : List D} : dItems (.tup ds) = some ds := rfl
@[simp] theorem e_Sq {a b : M Fl} : mSq a b e = (match a e with
  | .ok .nx e' => b e'
  | r => r) := rfl
@[simp] theorem e_Ex {m : M D} : mEx m e = mb m (fun _ => mp .nx) e := rfl
@[simp] theorem e_Ret {m : M D} : mRet m e = mb m (fun d => mp (.rt d)) e := rfl
@[simp] theorem e_RetF {m : M (List D)} : mRetF m e = mb m (fun d => mp (.rb d)) e := rfl
def Sl.isPb : Sl → Bool
  | .pbox _ => true
  | _ => false
def slOf : Option D → Sl
  | none => .emp
  | some d => .val d
@[simp] theorem pb_e : Sl.isPb .emp = false := rfl
@[simp] theorem pb_v {d : D} : Sl.isPb (.val d) = false := rfl
@[simp] theorem pb_b {d : D} : Sl.isPb (.box d) = false := rfl
@[simp] theorem pb_p {d : D} : Sl.isPb (.pbox d) = true := rfl
@[simp] theorem pb_o {o : Option D} : Sl.isPb (slOf o) = false := by cases o <;> rfl
@[simp] theorem e_setV {i : Nat} {d : D} : Fw.setV i d e = (e[i]?).elim .bad (fun s => if s.isPb = true then .bad else .ok () (e.set i (.val d))) := by
  unfold Fw.setV
  cases e[i]? with
  | none => rfl
  | some s => cases s <;> rfl
@[simp] theorem e_setB {i : Nat} {d : D} : Fw.setB i d e = (e[i]?).elim .bad (fun s => if s.isPb = true then .bad else .ok () (e.set i (.box d))) := by
  unfold Fw.setB
  cases e[i]? with
  | none => rfl
  | some s => cases s <;> rfl
@[simp] theorem e_Set {i : Nat} {m : M D} : mSet i m e = mb m (fun d => mb (Fw.setV i d) fun _ => mp .nx) e := rfl
@[simp] theorem e_Asg {m : M D} {bd : D → M Unit} : mAsg m bd e = mb m (fun d e => match bd d e with
  | .ok _ e' => .ok .nx e'
  | _ => .bad) e := rfl
@[simp] theorem e_gTup {n : Nat} {bs : List D → M Unit} {ds : List D} : gTupD n bs (.tup ds) e = if ds.length = n then bs ds e else .bad := by unfold gTupD; by_cases h : ds.length = n <;> simp [h]
@[simp] theorem e_gs0 : gsNil [] e = .ok () e := rfl
@[simp] theorem e_gs1 {b : D → M Unit} {bs : List D → M Unit} {d : D} {ds : List D} : gsCons b bs (d :: ds) e = mb (b d) (fun _ => bs ds) e := rfl
@[simp] theorem e_gSt {i : Nat} {mk : M D} {d : D} : gSt i mk d e = mb (hasB i) (fun _ => mb mk fun k => match k with
  | .int k => chB i fun ds => (ixN ds.length k).map fun j => ds.set j d
  | _ => fun _ => .bad) e := rfl
@[simp] theorem e_hasB {i : Nat} : hasB i e = (match e[i]? with
  | some s => (match lstOf s with
    | some _ => .ok () e
    | none => .bad)
  | none => .bad) := rfl
@[simp] theorem e_chB {i : Nat} {op : List D → Option (List D)} : chB i op e = (match e[i]? with
  | some s => (match lstOf s with
    | some ds => (match op ds with
      | some ds' => .ok () (e.set i (s.put (.lst ds')))
      | none => .bad)
    | none => .bad)
  | none => .bad) := rfl
@[simp] theorem e_lo1 {ds : List D} : lstOf (.box (.lst ds)) = some ds := rfl
@[simp] theorem e_lo2 {ds : List D} : lstOf (.pbox (.lst ds)) = some ds := rfl
@[simp] theorem e_pu1 {d d' : D} : Sl.put (.box d) d' = .box d' := rfl
@[simp] theorem e_pu2 {d d' : D} : Sl.put (.pbox d) d' = .pbox d' := rfl
@[simp] theorem e_App {i : Nat} {m : M D} : mApp i m e = mb (hasB i) (fun _ => mb m fun d => mb (chB i fun ds => lim 8000000 (ds ++ [d])) fun _ => mp .non) e := rfl
@[simp] theorem e_nx {m : M α} : nx1 m e = (match m e with
  | .ok a e' => .ok a e'
  | _ => .bad) := rfl
@[simp] theorem e_Eds0 : mEds [] e = .ok [] e := rfl
@[simp] theorem e_Eds1 {m : M D} {os : List Ed} : mEds (.e m :: os) e = mb (nx1 m) (fun d => mb (mEds os) fun r => mp (.inl d :: r)) e := rfl
@[simp] theorem e_Eds2 {m : M (List D)} {os : List Ed} : mEds (.f m :: os) e = mb (nx1 m) (fun d => mb (mEds os) fun r => mp (.inr d :: r)) e := rfl
@[simp] theorem e_as0 : asgs [] [] e = .ok () e := rfl
@[simp] theorem e_as1 {i : Nat} {is : List Nat} {p : Sum D (List D)} {ps : List (Sum D (List D))} : asgs (i :: is) (p :: ps) e = mb (asg1 i p) (fun _ => asgs is ps) e := rfl
@[simp] theorem e_sg1 {i : Nat} {d : D} : asg1 i (.inl d) = Fw.setV i d := rfl
@[simp] theorem e_sg2 {i : Nat} {d : List D} : asg1 i (.inr d) = Fw.setB i (.lst d) := rfl
@[simp] theorem e_Par {is : List Nat} {eds : List Ed} : mPar is eds e = mb (nx1 (mEds eds)) (fun ps => mb (nx1 (asgs is ps)) fun _ => mp .nx) e := rfl
@[simp] theorem e_Aug {i : Nat} {op : D → D → Option D} {m : M D} : mAug i op m e = mb (mVar i) (fun x => mb m fun y => mb (mo (op x y)) fun d => mb (Fw.setV i d) fun _ => mp .nx) e := rfl
@[simp] theorem e_Call {np : Nat} {fn : Fn} {os : List Od} : mCall np fn os e = mb (mA1 os) (fun ps e => match argsOf e ps with
  | none => .bad
  | some as => if as.length = np then (if nodupB (nums ps) = true then (match fn as with
      | .ok rv as' => .ok rv (wb ps as' e)
      | .exc c d as' => .exc c d (wb ps as' e)
      | .bad => .bad) else .bad) else .bad) e := rfl
@[simp] theorem e_Cv {np : Nat} {fn : Fn} {os : List Od} : mCv np fn os e = mb (mCall np fn os) (fun rv => mp rv.d) e := rfl
@[simp] theorem e_Cl {np : Nat} {fn : Fn} {os : List Od} : mCl np fn os e = mb (mCall np fn os) (fun rv => mo rv.l) e := rfl
@[simp] theorem e_C1 {fn : Fn} {m : M (List D)} : mC1 fn m e = mb m (fun ds e => match fn [.pbox (.lst ds)] with
  | .ok rv _ => .ok rv.d e
  | .exc c d _ => .exc c d e
  | .bad => .bad) e := rfl
@[simp] theorem e_CvP {np : Nat} {fn : Fn} {π : List Nat} {os : List Od} : mCvP np fn π os e = mb (mCallP np fn π os) (fun rv => mp rv.d) e := rfl
@[simp] theorem e_CallP {np : Nat} {fn : Fn} {π : List Nat} {os : List Od} : mCallP np fn π os e = mb (mA1 os) (fun ps e => if ps.length = π.length ∧ (π.all fun i => decide (i < ps.length)) = true then (match argsOf e (permL π ps) with
  | none => .bad
  | some as => if as.length = np then (if nodupB (nums (permL π ps)) = true then (match fn as with
      | .ok rv as' => .ok rv (wb (permL π ps) as' e)
      | .exc c d as' => .exc c d (wb (permL π ps) as' e)
      | .bad => .bad) else .bad) else .bad) else .bad) e := rfl
@[simp] theorem e_d1 {d : D} : RV.d (.v d) = d := rfl
@[simp] theorem e_d2 {ds : List D} : RV.d (.b ds) = .lst ds := rfl
@[simp] theorem e_l2 {ds : List D} : RV.l (.b ds) = some ds := rfl
@[simp] theorem e_ar0 : argsOf e [] = some [] := rfl
@[simp] theorem e_arc {a : Sum D Nat} {ps : List (Sum D Nat)} : argsOf e (a :: ps) = (match argOf e a with
  | some s => (match argsOf e ps with
    | some l => some (s :: l)
    | none => none)
  | none => none) := rfl
@[simp] theorem e_ag1 {d : D} : argOf e (.inl d) = some (.val d) := rfl
@[simp] theorem e_ag2 {i : Nat} : argOf e (.inr i) = (match e[i]? with
  | some (.val d) => some (.val d)
  | some (.box d) => some (.pbox d)
  | some (.pbox d) => some (.pbox d)
  | _ => none) := rfl
@[simp] theorem e_wb1 {i : Nat} {ps : List (Sum D Nat)} {d : D} {as : List Sl} : wb (.inr i :: ps) (.pbox d :: as) e = wb ps as (put1 i d e) := rfl
@[simp] theorem e_wb2 {i : Nat} {ps : List (Sum D Nat)} {d : D} {as : List Sl} : wb (.inr i :: ps) (.val d :: as) e = wb ps as e := rfl
@[simp] theorem e_wb4 {as : List Sl} : wb [] as e = e := by cases as <;> rfl
theorem e_wb5 {ps : List (Sum D Nat)} : wb ps [] e = e := by
  cases ps with
  | nil => rfl
  | cons a ps => cases a <;> rfl
@[simp] theorem e_wb3 {d : D} {ps : List (Sum D Nat)} {as : List Sl} : wb (.inl d :: ps) as e = wb ps as.tail e := by
  cases as with
  | nil => rw [List.tail_nil, e_wb5, e_wb5]
  | cons s as => rfl
@[simp] theorem e_put1 {i : Nat} {d : D} : put1 i d e = (match e[i]? with
  | some s => e.set i (s.put d)
  | none => e) := rfl
@[simp] theorem e_pe0 {xs : List α} : permL [] xs = [] := rfl
@[simp] theorem e_pe1 {i : Nat} {π : List Nat} {xs : List α} : permL (i :: π) xs = (match xs[i]? with
  | some x => x :: permL π xs
  | none => permL π xs) := by
  unfold permL
  rw [List.filterMap_cons]
  cases xs[i]? <;> rfl
@[simp] theorem e_nu0 : nums [] = [] := rfl
@[simp] theorem e_nu1 {d : D} {r : List (Sum D Nat)} : nums (.inl d :: r) = nums r := rfl
@[simp] theorem e_nu2 {i : Nat} {r : List (Sum D Nat)} : nums (.inr i :: r) = i :: nums r := rfl
@[simp] theorem e_nd0 : nodupB [] = true := rfl
@[simp] theorem e_nd1 {i : Nat} {r : List Nat} : nodupB (i :: r) = (!r.contains i && nodupB r) := rfl
@[simp] theorem e_For {mi : M (List D)} {bd : D → M Unit} {b : M Fl} : mFor mi bd b e = mb mi (fun ds => mFl bd b ds) e := rfl
end
theorem fn_eq {np nl : Nat} {body : M Fl} {as : List Sl} : mkFn np nl body as = if as.length = np then
  (match body (as ++ List.replicate (nl - np) .emp) with
  | .ok (.rt d) e => .ok (.v d) (e.take np)
  | .ok (.rb ds) e => .ok (.b ds) (e.take np)
  | .ok .nx e => .ok (.v .non) (e.take np)
  | .exc c d e => .exc c d (e.take np)
  | _ => .bad) else .bad := rfl
theorem dMod_pos {i j : Int} (h : 0 < j) : dMod (.int i) (.int j) = some (.int (i % j)) := by
  simp [dMod, dI, iMod, h]; omega
theorem dFdiv_pos {i j : Int} (h : 0 < j) (h2 : j < 1152921504606846976) : dFdiv (.int i) (.int j) = some (.int (i / j)) := by
  have : j.natAbs.log2 < 9000 := by
    have : j.natAbs.log2 < 61 := by rw [Nat.log2_lt (by omega)]; omega
    omega
  simp [dFdiv, dI, iFdiv, h, this]; omega
theorem dDm_pos {i j : Int} (h : 0 < j) (h2 : j < 1073741824) : dDivmod (.int i) (.int j) = some (.tup [.int (i / j), .int (i % j)]) := by
  simp [dDivmod, dI, h, h2]
theorem dMul_l {i j : Int} (h : -18446744073709551616 < i ∧ i < 18446744073709551616) : dMul (.int i) (.int j) = some (.int (i * j)) := by
  have : i.natAbs < 18446744073709551616 := by omega
  simp [dMul, mulOk, this]
theorem dMul_r {i j : Int} (h : -18446744073709551616 < j ∧ j < 18446744073709551616) : dMul (.int i) (.int j) = some (.int (i * j)) := by
  have : j.natAbs < 18446744073709551616 := by omega
  simp [dMul, mulOk, this]
theorem dR1_ok {j : Int} (h : 0 ≤ j ∧ j < 4611686018427387904) : dR1 [.int j] = some ((List.range j.toNat).map fun (i : Nat) => D.int (0 + (i : Int))) := by
  have : j.natAbs < 4611686018427387904 := by omega
  simp [dR1, rngOk, this]
@[simp] theorem dAdd_i {i j : Int} : dAdd (.int i) (.int j) = some (.int (i + j)) := rfl
@[simp] theorem dIAdd_i {i j : Int} : dIAdd (.int i) (.int j) = some (.int (i + j)) := rfl
@[simp] theorem dSub_i {i j : Int} : dSub (.int i) (.int j) = some (.int (i - j)) := rfl
@[simp] theorem dLt_i {i j : Int} : dLt (.int i) (.int j) = some (.bl (decide (i < j))) := rfl
@[simp] theorem dGt_i {i j : Int} : dGt (.int i) (.int j) = some (.bl (decide (j < i))) := rfl
@[simp] theorem dLe_i {i j : Int} : dLe (.int i) (.int j) = some (.bl (decide (i ≤ j))) := rfl
@[simp] theorem dGe_i {i j : Int} : dGe (.int i) (.int j) = some (.bl (decide (j ≤ i))) := rfl
@[simp] theorem dEq_i {i j : Int} : dEq (.int i) (.int j) = some (.bl (decide (i = j))) := rfl
@[simp] theorem dNe_i {i j : Int} : dNe (.int i) (.int j) = some (.bl (!decide (i = j))) := rfl
@[simp] theorem dEq_b {i j : Bool} : dEq (.bl i) (.bl j) = some (.bl (decide (i = j))) := rfl
@[simp] theorem dNe_b {i j : Bool} : dNe (.bl i) (.bl j) = some (.bl (!decide (i = j))) := rfl
@[simp] theorem dEq_s {i j : Str} : dEq (.str i) (.str j) = some (.bl (decide (i = j))) := rfl
@[simp] theorem dNe_s {i j : Str} : dNe (.str i) (.str j) = some (.bl (!decide (i = j))) := rfl
@[simp] theorem dInt_i {i : Int} : dInt (.int i) = some (.int i) := rfl
@[simp] theorem dInt_b {b : Bool} : dInt (.bl b) = some (.int (if b = true then 1 else 0)) := by cases b <;> rfl
@[simp] theorem dNeg_i {i : Int} : dNeg (.int i) = some (.int (-i)) := rfl
@[simp] theorem dAbs_i {i : Int} : dAbs (.int i) = some (.int (if i < 0 then -i else i)) := rfl
@[simp] theorem dLen_l {ds : List D} : dLen (.lst ds) = some (.int (ds.length : Int)) := rfl
@[simp] theorem dLen_t {ds : List D} : dLen (.tup ds) = some (.int (ds.length : Int)) := rfl
@[simp] theorem dLen_s {ns : List Int} : dLen (.scr ns) = some (.int (ns.length : Int)) := rfl
@[simp] theorem dMax_i {i j : Int} : dMax2 (.int i) (.int j) = some (.int (if j > i then j else i)) := rfl
@[simp] theorem dMin_i {i j : Int} : dMin2 (.int i) (.int j) = some (.int (if j < i then j else i)) := rfl
@[simp] theorem e_Lc {mi : M (List D)} {own : List Nat} {bd : D → M Unit} {t : M Bool} {el : M D} {e : Ev} : mLc mi own bd t el e = mb mi (fun ds e => if ownOk e own = true then (match mLcL own bd t el ds [] (wipeE e own) with
  | .ok ys e' => .ok ys (backE e e' own)
  | _ => .bad) else .bad) e := rfl
@[simp] theorem e_wi0 {e : Ev} : wipeE e [] = e := rfl
@[simp] theorem e_wi1 {e : Ev} {v : Nat} {vs : List Nat} : wipeE e (v :: vs) = (wipeE e vs).set v .emp := rfl
@[simp] theorem e_ba0 {e e' : Ev} : backE e e' [] = e' := rfl
@[simp] theorem e_ba1 {e e' : Ev} {v : Nat} {vs : List Nat} : backE e e' (v :: vs) = (match e[v]? with
  | some s => (backE e e' vs).set v s
  | none => backE e e' vs) := rfl
@[simp] theorem e_ow0 {e : Ev} : ownOk e [] = true := rfl
@[simp] theorem e_ow1 {e : Ev} {v : Nat} {vs : List Nat} : ownOk e (v :: vs) = ((match e[v]? with
  | some .emp => true
  | some (.val _) => true
  | _ => false) && ownOk e vs) := rfl
end Fw
namespace Fw
open L2 PyProof.Rows PySem PySem.Spec
section
variable {g : GC} {X : Cx} {W : WK}
def keyOf : D → Option Key
  | .int i => some (.inl i)
  | .str x => some (.inr x)
  | _ => none
def dctOf : Sl → Option (List Key × List D)
  | .box (.dct ks ds) => some (ks, ds)
  | .pbox (.dct ks ds) => some (ks, ds)
  | _ => none
theorem FR.dct {f : Fx} {A : Addr → Prop} {H : Hp} {σ : Sv} {e : Ev} (F : FR g f A H σ e) {i : Nat} {s : Sl} {ks : List Key} {ds : List D} (h : e[i]? = some s) (q : dctOf s = some (ks, ds)) : s.isBox = true ∧ ∃ p xs, σ[i]? = some (some (.ref p)) ∧ H p = some (.dK (ks.zip xs)) ∧ ks.length = xs.length ∧ RL g A H ds xs := by
  obtain ⟨o, h1, h2⟩ := F.at h
  cases s with
  | emp => cases q
  | val _ => cases q
  | box d =>
    cases d with
    | dct ks' ds' => cases q; obtain ⟨_, p, e1, _, _, xs, h3, h4, h5⟩ := h2; exact ⟨rfl, p, xs, by rw [h1, e1], h3, h4, h5⟩
    | _ => cases q
  | pbox d =>
    cases d with
    | dct ks' ds' => cases q; obtain ⟨p, _, e1, _, xs, h3, h4, h5⟩ := h2; exact ⟨rfl, p, xs, by rw [h1, e1], h3, h4, h5⟩
    | _ => cases q
end
end Fw
namespace Fw
open L2 PyProof.Rows PySem PySem.Spec
section
variable {g : GC} {X : Cx} {W : WK}
end
end Fw
namespace Fw
open L2 PyProof.Rows PySem PySem.Spec
section
variable {g : GC} {X : Cx} {W : WK}
end
end Fw
namespace Fw
open PySem L2
section
variable {α β : Type} {e : Ev}
@[simp] theorem e_keyI {i : Int} : keyOf (.int i) = some (.inl i) := rfl
@[simp] theorem e_do1 {ks : List Key} {ds : List D} : dctOf (.box (.dct ks ds)) = some (ks, ds) := rfl
@[simp] theorem e_SlE {m : M D} {lo hi : Option (M D)} {op : D → Option Int → Option Int → Option β} : mSl (.e m) lo hi op e = mb m (fun d => mb (mPart lo) fun l => mb (mPart hi) fun u => mo (op d l u)) e := rfl
@[simp] theorem e_Pn : mPart none e = .ok none e := rfl
@[simp] theorem e_Pc {i : Int} : mPart (some (mC (.int i))) e = .ok (some i) e := rfl
end
end Fw
namespace Fw.Ex
open PyProof.Rows PySem PySem.W PySem.Calls PySem.HandSPX
def refsT (tl : List Value) : List Value → Bool
  | .ref _ :: l => refsT tl l
  | l => l == tl
theorem refsT_split {tl : List Value} : ∀ l : List Value, refsT tl l = true → (∃ a k, l = .ref a :: k ∧ refsT tl k = true) ∨ l = tl := fun l e => by
  match l, e with
  | .ref a :: k, e => exact .inl ⟨a, k, rfl, e⟩
  | [], e => exact .inr (eq_of_beq e)
  | .none :: _, e | .ellipsis :: _, e | .notImplemented :: _, e | .bool _ :: _, e | .int _ _ :: _, e | .float _ _ :: _, e | .str _ _ :: _, e | .bytes _ _ :: _, e | .type _ :: _, e | .builtin _ :: _, e => exact .inr (eq_of_beq e)
structure Tl (tl : List Value) (B ni ii : String) : Prop where
  base : ExcBaseFacts B ni ii tl
  pass : ∀ self : Value, refuseLoop self "__setattr__" tl = pure ()
  obj : tl.contains (.type "object") = true
  ne : tl ≠ []
section
variable {tl : List Value} {B ni ii : String}
theorem refsT_pass (T : Tl tl B ni ii) (self : Value) : ∀ l : List Value, refsT tl l = true → refuseLoop self "__setattr__" l = pure ()
  | [], e => by
    rcases refsT_split [] e with ⟨_, _, q, _⟩ | q
    · cases q
    · exact absurd q.symm T.ne
  | x :: l, e => by
    rcases refsT_split (x :: l) e with ⟨a, k, q, h⟩ | q
    · cases q
      rw [refuseLoop_ref]; exact refsT_pass T self _ h
    · rw [q]; exact T.pass self
theorem refsT_has (T : Tl tl B ni ii) (n : String) : ∀ l : List Value, refsT tl l = true → l.contains (.type n) = tl.contains (.type n)
  | [], e => by
    rcases refsT_split [] e with ⟨_, _, q, _⟩ | q
    · cases q
    · exact absurd q.symm T.ne
  | x :: l, e => by
    rcases refsT_split (x :: l) e with ⟨a, k, q, h⟩ | q
    · cases q
      rw [List.contains_cons, refsT_has T n _ h]; rfl
    · rw [q]
theorem refsT_ne (T : Tl tl B ni ii) {l : List Value} (e : refsT tl l = true) : l.isEmpty = false := by
  cases l with
  | nil =>
    rcases refsT_split [] e with ⟨_, _, q, _⟩ | q
    · cases q
    · exact absurd q.symm T.ne
  | cons _ _ => rfl
open Builtin Builtin.ObjectAttr
variable {prog : Program} {w : World} {A : Around} {E : Value → Shared → Prop} {R : Result → Shared → Prop} {hp : Heap} {gs : Array GenState} {dr : Drawn} {tk0 : Nat} {os : OsState}
theorem put_first (T : Tl tl B ni ii) {K : Frag} {nm : Str} {tk : Tok} {v : Value} {e C : Addr} {fv : Array Value} {cd : ClassData}
    (X : K.In hp) (he : hp.get? e = some { cls := .ref C, data := .fields fv }) (hcd : clsIn K C = some cd) (hm : refsT tl cd.mro = true) (hd : cd.hasDict = true) (hno : findIn K (.ref C) nm = some none)
    (hq : ∀ h' tk' dx, (∀ b o, b ≠ e → hp.get? b = some o → h'.get? b = some o) → hp.objs.size ≤ dx → dx ≠ e → h'.get? e = some { cls := .ref C, dict := some dx, data := .fields fv } →
      h'.Ns1 dx (fun y => if y = nm then some v else none) → R (.ok (.ret .none)) ⟨h', gs, dr, tk', os⟩) :
    codeAny (model prog w) A (.call (.builtin "object.__setattr__") ⟨[.ref e, .str nm tk, v], []⟩) R ⟨hp, gs, dr, tk0, os⟩ := by
  have I : InstAt hp e { cls := .ref C, data := .fields fv } C none := ⟨he, rfl, rfl, trivial⟩
  have S := F.store_object
  have n0 := refsT_ne T hm
  have ob : cd.mro.contains (.type "object") = true := (refsT_has T "object" _ hm).trans T.obj
  have es : e ≠ hp.objs.size := Nat.ne_of_lt (Heap.lt_size he)
  have isO : Looks (model prog w) hp (isInstance (.ref e) (.type "object")) true := I.type.andThen (looks_mroIn X (by unfold mroIn; rw [hcd, Option.bind_some, if_neg (by rw [n0]; decide), ob]))
  refine codeAny_call_builtin S.slot.plain S.entry (@check_slot (model prog w) _ _ ⟨hp, gs, dr, tk0, os⟩ "object.__setattr__" "object" "__setattr__" (.ref e) [.str nm tk, v] [] _ S.kind S.split isO (S.args (.ref e) (.str nm tk) v) ?_)
  have lm : Looks (model prog w) hp (mroOf (.ref C)) cd.mro := (looks_clsIn X hcd).andThen .now
  have ls : Looks (model prog w) hp (storeTaker? none) none := .now
  have lc : Looks (model prog w) hp (classData C) cd := looks_clsIn X hcd
  rw [osa_eq, refuse_eq]
  refine wpAny_bind (wpAny_bind (I.type.at (wpAny_bind (lm.at ?_)))); rw [refsT_pass T _ _ hm]
  refine wpAny_pure (wpAny_bind (I.type.at (wpAny_bind ((looks_findIn X hno).at (wpAny_bind (ls.at ?_))))))
  show wpAny _ _ (storeInOwnDict (.ref e) (.ref C) (.str nm tk) nm v false) _ _ _
  obtain ⟨c1, c2, c3, c4, c5, c6, c7, c8, c9, c10, c11⟩ := cd; dsimp only at hd; subst hd
  unfold storeInOwnDict ownDictForStores
  repeat (first | with_reducible refine store_in_new ?_ ?_ | with_reducible refine wpAny_loadPart_at he ?_ | with_reducible refine lc.at ?_ | wp_step)
  · exact ⟨_, #[], _, (Heap.get?_update_ne _ _ _ _ es.symm).trans (Heap.get?_push_at rfl rfl), rfl, fun z hz => absurd hz (by simp), fun _ => rfl⟩
  · intro h' tk' n' sb
    have e1 : (hp.push { cls := .type "dict", data := .dict #[] }).get? e = some { cls := .ref C, data := .fields fv } := Heap.get?_push_of_some _ he
    refine hq h' tk' hp.objs.size (fun b o hb ho => ?_) (Nat.le_refl _) es.symm ?_ n'
    · exact (sb.2 b (Nat.ne_of_lt (Heap.lt_size ho))).trans ((Heap.get?_update_ne _ _ _ _ hb).trans (Heap.get?_push_of_some _ ho))
    · exact (sb.2 e es).trans (Heap.get?_update_self _ e1 rfl)
end
theorem one_le (v : Value) : [v].length ≤ sizeLine := by
  rw [sizeLine_eq]
  exact (by decide : 1 ≤ 16777216)
theorem ld_loc {M : Model} {s : Shared} {name : Str} {scope : Scope} {L a : Addr} {cd : Value} {m : Str → Option Value} {x : Str} {pos : Pos} {v : Value} {Q : Value → Shared → Prop} {A : Around} {E : Value → Shared → Prop} (hn : s.heap.Ns L m) (hv : m x = some v) (h : Q v s)
    (hk : scope.kind = .function := by rfl) (hl : (envOfC name scope L a cd).kindOf x = some .local := by rfl) (hd : (x == ("__debug__" : Str)) = false := by decide) :
    wpAny M A (eval (.Name x pos) (envOfC name scope L a cd)) Q E s := wpAny_Name (wpAny_loadName_local hk hl hn hv h) hd
structure Made (h h' : Heap) (e C d : Addr) (f : Str) (v : Value) : Prop where
  keep : ∀ b o, h.get? b = some o → h'.get? b = some o
  new : h.objs.size ≤ e
  obj : ∃ oe vs, h'.get? e = some oe ∧ oe.cls = .ref C ∧ oe.dict = some d ∧ oe.data = .fields vs ∧ vs[1]? = some .none
  dbig : h.objs.size ≤ d
  dne : d ≠ e
  ns : h'.Ns1 d (fun y => if y = f then some v else none)
end Fw.Ex
namespace Fw
end Fw
namespace Fw.Ex
namespace G
open PyProof.Rows PySem PySem.W PySem.Calls PySem.HandSPX
def prm (p1 p2 : Pos) : Arguments := { posonlyargs := [], args := [⟨"self", none, p1⟩, ⟨"given", none, p2⟩], vararg := none, kwonlyargs := [], kw_defaults := [], kwarg := none, defaults := [] }
def bdy (q1 q2 q3 q4 : Pos) : List Stmt := [.Assign [.Attribute (.Name "self" q1) "given" q2] (.Name "given" q3) q4]
def scp : Scope := ⟨.function, [(PySem.Str.ofString "self", .local), (PySem.Str.ofString "given", .local)], false, false, []⟩
structure Txt (tl : List Value) (ni : String) (K : Frag) (C fI : Addr) (qn : Str) : Prop where
  cls : ∃ nm q N bs bm sn sub ab col dd k0 k1 k2 k3 k5, K.lookup C = some (excClassObj nm q C N bs bm true sn sub ab col dd k0 k1 k2 k3 k5 ni) ∧ refsT tl bm = true
  sa : findIn K (.ref C) "__setattr__" = some (some (.builtin "object.__setattr__"))
  no : findIn K (.ref C) "given" = some none
  iC : findIn K (.ref C) "__init__" = some (some (.ref fI))
  tI : typeIn K (.ref fI) = some (.type "function")
  kC : keepIn K (.ref C) = true
  ex : subIn K (.ref C) (.type "BaseException") = some true
  ty : typeIn K (.ref C) = some (.type "type")
  fn : ∃ (fd : FuncData) (p1 p2 q1 q2 q3 q4 : Pos), L2.FunD K "__init__" qn (prm p1 p2) (bdy q1 q2 q3 q4) scp [] [] fI fd
section
variable {tl : List Value} {B ni ii : String} {prog : Program} {w : World} {A : Around} {E : Value → Shared → Prop} {R : Result → Shared → Prop} {s : Shared} {K : Frag} {C fI : Addr} {qn : Str}
theorem init_run (TL : Tl tl B ni ii) (T : Txt tl ni K C fI qn) {e t0 : Addr} {v : Value} (X : K.In s.heap) (hlim : s.heap.NoLimit) (he : s.heap.get? e = some (excO C t0)) (hroom : A.depth < recursionLimit)
    (hq : ∀ h' tk dx, (∀ b o, b ≠ e → s.heap.get? b = some o → h'.get? b = some o) → h'.get? e = some { cls := .ref C, dict := some dx, data := .fields #[.ref t0, .none, .none, .none, .bool false, .none] } → s.heap.objs.size ≤ dx → dx ≠ e →
      h'.Ns1 dx (fun y => if y = "given" then some v else none) → R (.ok (.ret .none)) { s with heap := h', toks := tk }) :
    codeAny (model prog w) A (.call (.ref fI) ⟨[.ref e, v], []⟩) R s := by
  obtain ⟨fd, p1, p2, q1, q2, q3, q4, FD⟩ := T.fn
  obtain ⟨oc, od, dV, kV, doc, pm, an, cdv, ct, osl, rfl, ho, hcd, hD, _⟩ := FD.ex
  have hD : dV = .none := hD.elim (fun z => z.2) fun z => absurd rfl z.1
  subst hD
  obtain ⟨nm, q, N, bs, bm, sn, sub, ab, col, dd, k0, k1, k2, k3, k5, hC, hbm⟩ := T.cls
  have hcl : clsIn K C = some ⟨nm, bs, .ref C :: bm, N, q, true, sn, sub, ab, col, false⟩ := by unfold clsIn; rw [hC] <;> rfl
  refine Att.call_fn (binds := [("self", .ref e), ("given", v)]) X hlim ho hcd hroom (BindsTo.of_eq (by first | rfl | with_unfolding_all rfl)) (by first | rfl | decide | with_unfolding_all rfl) (fun s₁ IC => ?_) rfl rfl rfl
  obtain ⟨h₁, tk₁, rfl⟩ := IC.toInCall.same
  have k : ∀ b o, s.heap.get? b = some o → h₁.get? b = some o := IC.toInCall.keep
  have hn := IC.toInCall.ns
  have X₁ : K.In h₁ := X.keeps k
  have e₁ := k _ _ he
  show wpAny _ _ (execs _ _) _ _ _
  refine wpAny_execs_cons (plainObj_wpAny_Assign_Attribute (ld_loc (v := v) hn (by first | rfl | with_unfolding_all rfl | kernel_rfl) (ld_loc (v := .ref e) hn (by first | rfl | with_unfolding_all rfl | kernel_rfl) ?_)))
  refine set_plain X₁ (ox := excO C t0) (od := none) ⟨e₁, rfl, rfl, trivial⟩ T.sa (put_first TL X₁ e₁ hcl (show refsT tl (.ref C :: bm) = true from hbm) rfl T.no (fun h₃ tk₃ dx k₃ dn dne x₃ n₃ => ?_))
  show wpAny _ _ (execs _ _) _ _ _
  have z : s.heap.objs.size < h₁.objs.size := hn.lt
  exact wpAny_execs_nil (hq h₃ tk₃ dx (fun b o hb q => k₃ b o hb (k b o q)) x₃ (Nat.le_of_lt (Nat.lt_of_lt_of_le z dn)) dne n₃)
theorem made (TL : Tl tl B ni ii) (T : Txt tl ni K C fI qn) {v : Value} (X : K.In s.heap) (hlim : s.heap.NoLimit) (hroom : A.depth + 1 < recursionLimit)
    (hq : ∀ h' tk e d, Made s.heap h' e C d "given" v → R (.ok (.ret (.ref e))) { s with heap := h', toks := tk }) :
    codeAny (model prog w) A (.call (.ref C) ⟨[v], []⟩) R s := by
  obtain ⟨nm, q, N, bs, bm, sn, sub, ab, col, dd, k0, k1, k2, k3, k5, hC, hbm⟩ := T.cls
  obtain ⟨hp, gs, dr, tk, os⟩ := s
  have k : ∀ b o, hp.get? b = some o → ((hp.push (kdv_tup [v])).push (excO C hp.objs.size)).get? b = some o := fun b o q => Heap.get?_push_of_some _ (Heap.get?_push_of_some _ q)
  have ge : ((hp.push (kdv_tup [v])).push (excO C hp.objs.size)).get? (hp.objs.size + 1) = some (excO C hp.objs.size) := by heap_get
  refine call_own TL.base (fun Y => refsT_has TL Y bm hbm) (X _ _ hC) (looks_findIn X T.iC) (fun self => bind_fn X self T.tI) (one_le v) ?_
  refine init_run (s := ⟨(hp.push (kdv_tup [v])).push (excO C hp.objs.size), gs, dr, tk, os⟩) TL T (X.keeps k) (hlim.keeps k) ge ?_ fun h' tk' dx k' hx dn dne hns => ?_
  · show A.depth + 1 < recursionLimit
    exact hroom
  · have old : ∀ b o, hp.get? b = some o → h'.get? b = some o := fun b o q => k' b o (Nat.ne_of_lt (Nat.lt_succ_of_lt (Heap.lt_size q))) (k b o q)
    have z : hp.objs.size + 1 + 1 ≤ dx := by
      first
        | (simpa only [Heap.size_push] using dn)
        | exact dn
        | (have q := dn; rw [Heap.size_push, Heap.size_push] at q; exact q)
    exact ⟨rfl, hq h' tk' (hp.objs.size + 1) dx ⟨old, Nat.le_succ _, ⟨_, _, hx, rfl, rfl, rfl, rfl⟩, Nat.le_trans (Nat.le_trans (Nat.le_succ _) (Nat.le_succ _)) z, dne, hns⟩⟩
end
end G
end Fw.Ex
namespace Fw
open L2 PyProof.Rows PySem PySem.Spec
section
variable {X : Cx} {C fI : Addr} {tl : List Value} {B ni ii : String} {qn : Str}
end
section
variable {g : GC} {X : Cx} {W : WK}
end
end Fw
namespace Fw
open L2 PyProof.Rows PySem PySem.Spec
section
variable {g : GC} {x : Addr × Nat × Option Addr} {A : Addr → Prop} {H : Hp}
theorem an {a b : Bool} (h : (a && b) = true) : a = true ∧ b = true := Bool.and_eq_true_iff.mp h
variable {f : Fx} {σ : Sv} {e : Ev}
end
section
variable {g : GC} {X : Cx} {W : WK}
end
end Fw
namespace Fw.Ex
open PySem PySem.Spec PySem.Calls PyProof.Rows PySem.W
section
variable {prog : Program} {w : World} {A : Around} {E : Value → Shared → Prop} {s : Shared} {K : Frag} {e D : Addr} {oe : Obj} {od : Option Obj}
end
end Fw.Ex
namespace Fw
open L2 PyProof.Rows PySem PySem.Spec
section
variable {g : GC} {X : Cx} {W : WK}
end
end Fw
namespace Fw
open L2 PyProof.Rows PySem PySem.Spec
def SaysX (fa : List He.Fa) (ex : List (PySem.W.Frag → Bool)) (fn : List He.DefD) (K : PySem.W.Frag) : Prop := obsX fa ex fn K = He.valD fn
theorem SaysX.d {fa : List He.Fa} {ex : List (PySem.W.Frag → Bool)} {fn : List He.DefD} {K : PySem.W.Frag} (c : SaysX fa ex fn K) : He.SaysD fa fn K := by
  have c1 : ((He.obsD fa fn K).1 && ex.all fun f => f K) = true := congrArg (fun z : He.AlD => z.1) c
  have c2 : (obsX fa ex fn K).2 = (He.valD fn).2 := congrArg (fun z : He.AlD => z.2) (show obsX fa ex fn K = He.valD fn from c)
  exact Prod.ext (Bool.and_eq_true_iff.mp c1).1 c2
theorem SaysX.x {fa : List He.Fa} {ex : List (PySem.W.Frag → Bool)} {fn : List He.DefD} {K : PySem.W.Frag} (c : SaysX fa ex fn K) (i : Nat) {f : PySem.W.Frag → Bool} (h : ex[i]? = some f) : f K = true := by
  have c1 : ((He.obsD fa fn K).1 && ex.all fun f => f K) = true := congrArg (fun z : He.AlD => z.1) c
  exact List.all_eq_true.mp (Bool.and_eq_true_iff.mp c1).2 f (List.mem_of_getElem? h)
end Fw
namespace Fw
open L2 PyProof.Rows PySem PySem.Spec
section
variable {g : GC} {X : Cx} {W : WK}
theorem OS.or {r r' : R2} {o o' : D → D → Option D} (h : OS g r o) (h' : OS g r' o') : OS g (fun x y H Q => r x y H Q ∨ r' x y H Q) (fun a b => match o a b with
  | some d => some d
  | none => o' a b) := fun A H d1 d2 d v1 v2 Q al r1 r2 q k => by
  cases z : o d1 d2 with
  | some e => simp only [z] at q; cases q; exact .inl (h A H d1 d2 _ v1 v2 Q al r1 r2 z k)
  | none => simp only [z] at q; exact .inr (h' A H d1 d2 d v1 v2 Q al r1 r2 q k)
end
end Fw
namespace L2
open PySem PySem.Spec PyProof.Rows
section
variable {X : Cx} {e st : Expr} {te ts : TE} {p2 pos : Pos}
end
end L2
namespace Fw
open L2 PyProof.Rows PySem PySem.Spec
section
variable {g : GC} {X : Cx} {W : WK} {a : Expr} {pos : Pos}
def mStar (m : M D) (r : M (List D)) : M (List D) := mb m fun d => mb (mo (dList d)) fun ds => mb r fun ys => mp (ds ++ ys)
theorem ca_star {es : List Expr} {m : M D} {m' : M (List D)} {p : Pos} (hK : X.K = g.K) (ha : CE g X W a m) (hr : CA g X W es m') (hs : starEach (.Starred a p :: es) X.env = (true, eval a X.env) :: starEach es X.env := by rfl) : CA g X W (.Starred a p :: es) (mStar m m') :=
  PA.imp (StX.pa_star ha hr hs) fun σ H Q ⟨f, A, e, F, h⟩ => by
    rw [hK]
    refine Fin.bE h F fun d1 e1 v1 H1 F1 S1 R1 h1 => ?_
    obtain ⟨ds, q, h2⟩ := Fin.mo2 h1
    have fin : ∀ (b : Addr) (xs : List V), v1 = .ref b → (SqT g.K H1 b xs ∨ SqL g.K H1 b xs) → RL g A H1 ds xs → ∃ p xs, v1 = V.ref p ∧ (SqT g.K H1 p xs ∨ SqL g.K H1 p xs) ∧ rdA g W m' σ H1 fun ys H2 => Q (xs ++ ys) H2 := fun b xs ev hq rl => by
      refine ⟨b, xs, ev, hq, ?_⟩
      refine Fin.bA h2 F1 fun d2 e2 v2 H2 F2 S2 R2 h3 => ?_
      exact h3 (xs ++ v2) H2 F2 (S1.trans S2) (RL.append (F1.rl S2 rl) R2)
    have r := R1.rt
    cases d1 with
    | lst ds => cases q; obtain ⟨b, xs, ev, h1, rl⟩ := r; exact fin b xs ev (.inr (SqL.of h1)) rl
    | tup ds => cases q; obtain ⟨b, xs, ev, h1, rl⟩ := r; exact fin b xs ev (.inl (SqT.of h1)) rl
    | scr ns => cases q; obtain ⟨b, ev, h1⟩ := r; exact fin b _ ev (.inr h1.sq) (RL.ints ns)
    | _ => cases q
end
end Fw
namespace Fw
open L2 PyProof.Rows PySem PySem.Spec
section
variable {X : Cx} {k : Nat} {f C : Addr} {fd : FuncData} {ps : List Str} {sp : Sp} {W : WK} {x : Str} {p pos : Pos} {e : Expr} {es : List Expr} {t : TA}
end
section
variable {g : GC} {X : Cx} {W : WK}
theorem RL.at {A : Addr → Prop} {H : Hp} : ∀ {ds : List D} {vs : List V} {i : Nat} {s : Sl} {v : V}, RL g A H ds vs → (ds.map Sl.val)[i]? = some s → vs[i]? = some v → ∃ d, s = .val d ∧ R g A H d v
  | [], _, _, _, _, _, h, _ => by simp at h
  | d :: ds, _, 0, _, _, ⟨y, ys, e, r, t⟩, h, h2 => by subst e; simp at h h2; subst h h2; exact ⟨d, rfl, r⟩
  | d :: ds, _, i + 1, _, _, ⟨y, ys, e, r, t⟩, h, h2 => by subst e; exact RL.at t (by simpa using h) (by simpa using h2)
end
end Fw
namespace Fw
open L2 PyProof.Rows PySem PySem.Spec
section
variable {g : GC} {X : Cx} {W : WK}
end
end Fw
namespace Fw
open L2 PyProof.Rows PySem PySem.Spec
section
variable {X : Cx} {k : Nat} {f C : Addr} {fd : FuncData} {ps : List Str} {sp : Sp} {W : WK} {m : Str} {pos apos : Pos} {e o : Expr} {es : List Expr} {ta : TE} {t : TA}
end
section
variable {g : GC} {X : Cx} {W : WK}
end
end Fw
namespace Fw
open L2 PyProof.Rows PySem PySem.Spec
theorem DefP.funD {K : PySem.W.Frag} {d : DefP} (e : fnP K d = d.val) (c : d.ok K = true) : ∃ fd, FunD K d.name d.qual d.params d.body d.scope [] [] (d.at_ K) fd := by
  obtain ⟨kp, c2⟩ := He.ba c
  unfold fnP at e
  cases q : K.lookup (d.at_ K) with
  | none =>
    rw [q] at c2
    cases c2
  | some o =>
    obtain ⟨oc, od, dt, osl⟩ := o
    rw [q] at c2 e
    cases dt with
    | func fd =>
      obtain ⟨n1, n2, n3, n4, n5, n6, n7, n8, n9, n10, n11, n12, n13, n14, n15⟩ := fd
      have e2 : (some (n1, n2, n3, n4, n5, n6, n7, n15) : He.FnW) = some (d.name, d.qual, d.params, .stmts d.body, d.scope, mainGlobals, [], builtinsNs) := e
      simp only [Option.some.injEq, Prod.mk.injEq] at e2
      obtain ⟨h1, h2, h3, h4, h5, h6, h7, h8⟩ := e2
      subst h1 h2 h3 h4 h5 h6 h7 h8
      have c3 : (PySem.W.codeIn K n13 d.qual && (He.dflB K n8 [] && He.kwdB K n9 [])) = true := c2
      obtain ⟨k1, k2⟩ := He.ba c3
      obtain ⟨k3, k4⟩ := He.ba k2
      exact ⟨_, ⟨oc, od, n8, n9, n10, n11, n12, n13, n14, osl, rfl, q, k1, He.dflB_ok k3, He.kwdB_ok k4⟩, kp⟩
    | _ => cases c2
section
variable {fa : List He.Fa} {ex : List (PySem.W.Frag → Bool)} {fn : List He.DefD} {pn : List DefP} {K : PySem.W.Frag}
theorem SaysP.two (c : SaysP fa ex fn pn K) : (obsX fa ex fn K).2 = (He.valD fn).2 ∧ pn.map (fnP K) = pn.map DefP.val := by
  have c2 : (obsX fa ex fn K).2 ++ pn.map (fnP K) = (He.valD fn).2 ++ pn.map DefP.val := congrArg (fun z : He.AlD => z.2) c
  have l : (obsX fa ex fn K).2.length = (He.valD fn).2.length := by
    show (fn.map fun d => He.fnW K d.at_).length = (fn.map He.DefD.val).length
    rw [List.length_map, List.length_map]
  exact List.append_inj c2 l
theorem SaysP.x (c : SaysP fa ex fn pn K) : SaysX fa ex fn K := by
  have c1 : ((obsX fa ex fn K).1 && pn.all fun d => d.ok K) = true := congrArg (fun z : He.AlD => z.1) c
  exact Prod.ext (Bool.and_eq_true_iff.mp c1).1 c.two.1
theorem SaysP.def_ (c : SaysP fa ex fn pn K) (i : Nat) {d : DefP} (h : pn[i]? = some d) : ∃ fd, FunD K d.name d.qual d.params d.body d.scope [] [] (d.at_ K) fd := by
  have c1 : ((obsX fa ex fn K).1 && pn.all fun d => d.ok K) = true := congrArg (fun z : He.AlD => z.1) c
  have e2 : (pn.map (fnP K))[i]? = (pn.map DefP.val)[i]? := by rw [c.two.2]
  rw [List.getElem?_map, List.getElem?_map, h] at e2
  exact DefP.funD (Option.some.inj e2) (List.all_eq_true.mp (Bool.and_eq_true_iff.mp c1).2 d (List.mem_of_getElem? h))
end
end Fw
namespace Fw
open L2 PyProof.Rows PySem PySem.Spec
section
variable {g : GC} {X : Cx} {W : WK}
end
end Fw
namespace Fw
open L2 PyProof.Rows PySem PySem.Spec
section
variable {g : GC} {X : Cx} {W : WK}
theorem PK.imp {X : Cx} {e : List Keyword} {t u : TA} (h : PK X e t) (i : ∀ σ H Q, u σ H Q → t σ H Q) : PK X e u := ⟨fun pos pins s σ H Q I q => h.run pos pins s σ H Q I (i _ _ _ q)⟩
theorem RL.perm {A : Addr → Prop} {H : Hp} {ds : List D} {vs : List V} (r : RL g A H ds vs) : ∀ (π : List Nat), (∀ i ∈ π, i < ds.length) → RL g A H (permL π ds) (permL π vs)
  | [], _ => rfl
  | i :: π, h => by
    have ih := RL.perm r π fun j hj => h j (List.mem_cons_of_mem _ hj)
    have hi := h i List.mem_cons_self
    have e1 : ds[i]? = some ds[i] := List.getElem?_eq_getElem hi
    obtain ⟨v, hv, rr⟩ := RL.get r e1
    have e2 : permL (i :: π) ds = ds[i] :: permL π ds := by unfold permL; rw [List.filterMap_cons, e1]
    have e3 : permL (i :: π) vs = v :: permL π vs := by unfold permL; rw [List.filterMap_cons, hv]
    rw [e2, e3]
    exact ⟨v, _, rfl, rr, ih⟩
end
end Fw
namespace Fw
open PySem PySem.W PyProof.Rows L2
end Fw
namespace Fw
open L2 PyProof.Rows PySem PySem.Spec
section
variable {g : GC} {X : Cx} {W : WK}
def NLs (g : GC) (A : Addr → Prop) (H : Hp) (T : Hp) : List (List D) → List Addr → Prop
  | [], bs => bs = []
  | r :: rs, bs => ∃ b cs xs, bs = b :: cs ∧ T b = some (.lst xs) ∧ RL g A H r xs ∧ NLs g A H T rs cs
theorem NLs.mono {A A' : Addr → Prop} {H H' T : Hp} (m : Mono A H A' H') : ∀ {rows : List (List D)} {bs : List Addr}, NLs g A H T rows bs → NLs g A' H' T rows bs
  | [], _, h => h
  | r :: rs, _, ⟨b, cs, xs, e, h1, h2, h3⟩ => ⟨b, cs, xs, e, h1, RL.mono m r h2, NLs.mono m h3⟩
theorem NLs.len {A : Addr → Prop} {H T : Hp} : ∀ {rows : List (List D)} {bs : List Addr}, NLs g A H T rows bs → bs.length = rows.length
  | [], _, h => by rw [show _ = [] from h]; rfl
  | r :: rs, _, ⟨b, cs, xs, e, h1, h2, h3⟩ => by rw [e, List.length_cons, List.length_cons, h3.len]
theorem NLs.get {A : Addr → Prop} {H T : Hp} : ∀ {rows : List (List D)} {bs : List Addr} {k : Nat} {r : List D}, NLs g A H T rows bs → rows[k]? = some r → ∃ b xs, bs[k]? = some b ∧ T b = some (.lst xs) ∧ RL g A H r xs
  | [], _, _, _, _, h => by simp at h
  | r :: rs, _, 0, _, ⟨b, cs, xs, e, h1, h2, h3⟩, h => by cases h; exact ⟨b, xs, by rw [e]; rfl, h1, h2⟩
  | r :: rs, _, k + 1, _, ⟨b, cs, xs, e, h1, h2, h3⟩, h => by
    obtain ⟨b', xs', q1, q2⟩ := NLs.get (k := k) h3 (by simpa using h)
    exact ⟨b', xs', by rw [e]; simpa using q1, q2⟩
theorem NLs.all {A : Addr → Prop} {H T : Hp} : ∀ {rows : List (List D)} {bs : List Addr}, NLs g A H T rows bs → ∀ b ∈ bs, ∃ xs, T b = some (.lst xs)
  | [], _, h, b, hb => by rw [show _ = [] from h] at hb; cases hb
  | r :: rs, _, ⟨b, cs, xs, e, h1, h2, h3⟩, c, hc => by
    rw [e] at hc
    rcases List.mem_cons.mp hc with rfl | hc
    · exact ⟨xs, h1⟩
    · exact h3.all c hc
theorem NLs.swap {A : Addr → Prop} {H T T' : Hp} : ∀ {rows : List (List D)} {bs : List Addr}, NLs g A H T rows bs → (∀ b ∈ bs, T' b = T b) → NLs g A H T' rows bs
  | [], _, h, _ => h
  | r :: rs, _, ⟨b, cs, xs, e, h1, h2, h3⟩, k => ⟨b, cs, xs, e, by rw [k b (by rw [e]; exact List.mem_cons_self)]; exact h1, h2, h3.swap fun c hc => k c (by rw [e]; exact List.mem_cons_of_mem _ hc)⟩
theorem NLs.set {A : Addr → Prop} {H T : Hp} {r' : List D} {zs : List V} (rz : RL g A H r' zs) : ∀ {rows : List (List D)} {bs : List Addr} {k : Nat} {b : Addr}, NLs g A H T rows bs → bs.Nodup → bs[k]? = some b → NLs g A H (upd T b (.lst zs)) (rows.set k r') bs
  | [], _, _, _, h, _, hb => by rw [show _ = [] from h] at hb; simp at hb
  | r :: rs, _, 0, _, ⟨b, cs, xs, e, h1, h2, h3⟩, nd, hb => by
    subst e
    obtain rfl := Option.some.inj hb
    exact ⟨_, cs, zs, rfl, upd_same, rz, h3.swap fun c hc => upd_ne fun z => (List.nodup_cons.mp nd).1 (z ▸ hc)⟩
  | r :: rs, _, k + 1, c, ⟨b, cs, xs, e, h1, h2, h3⟩, nd, hb => by
    subst e
    have hb : cs[k]? = some c := by simpa using hb
    have nb : b ≠ c := fun z => (List.nodup_cons.mp nd).1 (z ▸ List.mem_of_getElem? hb)
    exact ⟨b, cs, xs, rfl, by rw [upd_ne nb]; exact h1, h2, NLs.set rz h3 (List.nodup_cons.mp nd).2 hb⟩
structure NR (g : GC) (f : Fx) (A : Addr → Prop) (H : Hp) (σ : Sv) (e : Ev) (ix : Nat) (rows : List (List D)) (p : Addr) (bs : List Addr) (T : Hp) : Prop where
  fr : FR g { f with T := T } A H σ e
  at_ : σ[ix]? = some (some (.ref p))
  tp : T p = some (.lst (bs.map V.ref))
  nd : bs.Nodup
  np : p ∉ bs
  h0 : ∀ a, a = p ∨ a ∈ bs → f.H0 a = none ∧ f.T a = none
  sub : ∀ a o, f.T a = some o → T a = some o
  rows : NLs g A H T rows bs
  only : ∀ a o, T a = some o → f.T a = some o ∨ a = p ∨ a ∈ bs
theorem NR.step {f : Fx} {A : Addr → Prop} {H H' : Hp} {σ σ' : Sv} {e e' : Ev} {ix : Nat} {rows : List (List D)} {p : Addr} {bs : List Addr} {T : Hp} (N : NR g f A H σ e ix rows p bs T) (F : FR g { f with T := T } A H' σ' e') (S : Step A H H') (hs : σ'[ix]? = σ[ix]?) : NR g f A H' σ' e' ix rows p bs T :=
  ⟨F, by rw [hs]; exact N.at_, N.tp, N.nd, N.np, N.h0, N.sub, N.rows.mono (N.fr.mono S), N.only⟩
end
end Fw
namespace Fw
open L2 PyProof.Rows PySem PySem.Spec
section
variable {g : GC} {X : Cx} {W : WK}
def nl (rows : List (List D)) : D := .lst (rows.map D.lst)
theorem NLs.rl {A A' : Addr → Prop} {H T : Hp} (m : Mono A H A' H) (hT : ∀ a o, T a = some o → H a = some o) : ∀ {rows : List (List D)} {bs : List Addr}, NLs g A H T rows bs → (∀ b ∈ bs, ¬ A' b) → RL g A' H (rows.map D.lst) (bs.map V.ref)
  | [], _, h, _ => by rw [show _ = [] from h]; rfl
  | r :: rs, _, ⟨b, cs, xs, e, h1, h2, h3⟩, n => by
    subst e
    exact ⟨.ref b, cs.map V.ref, rfl, ⟨b, xs, rfl, hT b _ h1, n b List.mem_cons_self, RL.mono m r h2⟩, NLs.rl m hT h3 fun c hc => n c (List.mem_cons_of_mem _ hc)⟩
end
end Fw
namespace Fw
open L2 PyProof.Rows PySem PySem.Spec
inductive Kd where
  | l | t
def KIt : Kd → Heap → Addr → Addr → Nat → Prop
  | .l, h, it, a, i => h.IsListIter it a i
  | .t, h, it, a, i => h.IsTupleIter it a i
def KLs : Kd → Heap → Addr → Array Value → Prop
  | .l, h, a, xs => h.IsList a xs
  | .t, h, a, xs => h.IsTuple a xs
def Kd.cls : Kd → String
  | .l => "list_iterator"
  | .t => "tuple_iterator"
def kObj (k : Kd) (a : Addr) : Obj := { cls := .type k.cls, data := .fields #[.ref a, .int 0 0] }
section
variable {P : Program} {w : World} {A : Around}
theorem KIt.keep {k : Kd} {h h' : Heap} {it a : Addr} {i : Nat} (z : KIt k h it a i) (q : ∀ o, h.get? it = some o → h'.get? it = some o) : KIt k h' it a i :=
  match k, z with
  | .l, z => z.at q
  | .t, z => z.at q
theorem KIt.cell {k : Kd} {h : Heap} {it a : Addr} {i : Nat} (z : KIt k h it a i) : ∃ o, h.get? it = some o ∧ ∀ v, o.data ≠ .cell v :=
  match k, z with
  | .l, ⟨o, e, _, d⟩ => ⟨o, e, fun v q => by rw [d] at q; cases q⟩
  | .t, ⟨o, e, _, d⟩ => ⟨o, e, fun v q => by rw [d] at q; cases q⟩
theorem KIt.start {k : Kd} {h : Heap} {it a : Addr} (z : h.get? it = some (kObj k a)) : KIt k h it a 0 :=
  match k, z with
  | .l, z => ⟨_, z, rfl, rfl⟩
  | .t, z => ⟨_, z, rfl, rfl⟩
theorem KLs.lt {k : Kd} {h : Heap} {a : Addr} {xs : Array Value} (z : KLs k h a xs) : a < h.objs.size :=
  match k, z with
  | .l, ⟨o, e, _⟩ => Heap.lt_size e
  | .t, ⟨o, e, _⟩ => Heap.lt_size e
end
section
variable {X : Cx} {pins : List (Addr × Obj)} {σ : L2.St} {H : Hp} {s : Shared}
end
section
variable {g : GC} {X : Cx} {W : WK}
end
section
variable {g : GC} {X : Cx} {W : WK}
end
end Fw
namespace Fw
open L2 PyProof.Rows PySem PySem.Spec
section
variable {g : GC} {X : Cx} {W : WK}
end
end Fw
namespace Fw
open L2 PyProof.Rows PySem PySem.Spec
section
variable {g : GC} {X : Cx} {W : WK}
end
end Fw
namespace Fw
open L2 PyProof.Rows PySem PySem.Spec
section
variable {g : GC} {X : Cx} {W : WK}
variable {k np : Nat} {C fa : Addr} {x nm q : Str} {ps : List Str} {ar : Arguments} {fn : Fn} {p pos apos : Pos} {o e : Expr} {es : List Expr}
end
end Fw
namespace Fw
open L2 PyProof.Rows PySem PySem.Spec
end Fw
namespace Fw
open L2 PyProof.Rows PySem PySem.Spec
section
variable {g : GC} {X : Cx} {W : WK}
theorem PF.mono {T : Hp} {A A' : Addr → Prop} {H H' : Hp} (m : Mono A H A' H') : ∀ (ps : List (Sum D (List D))) {vs : List V}, PF g T A H ps vs → PF g T A' H' ps vs
  | [], _, h => h
  | .inl d :: r, _, ⟨y, ys, e, h, p⟩ => ⟨y, ys, e, R.mono m d h, PF.mono m r p⟩
  | .inr ds :: r, _, ⟨q, ys, xs, e, t, h, p⟩ => ⟨q, ys, xs, e, t, RL.mono m ds h, PF.mono m r p⟩
end
end Fw
namespace Fw
open L2 PyProof.Rows PySem PySem.Spec
section
variable {X : Cx} {k : Nat} {C f : Addr} {fd : FuncData} {ps : List Str} {sp : Sp}
def rEqO (C : Addr) (sp : Sp) (n : Bool) : R2 := fun x y H Q => ∃ a b dx dy fs gs, x = .ref a ∧ y = .ref b ∧ H a = some (.ins C dx fs) ∧ H b = some (.ins C dy gs) ∧ sp [.ref a, .ref b] H (fun v H' => ∃ r, v = .bl r ∧ Q (.bl (Bool.xor n r)) H') (fun _ _ _ => False)
end
section
variable {g : GC} {X : Cx} {W : WK}
variable {k : Nat} {C fa : Addr} {nm q : Str} {ps : List Str} {ar : Arguments} {fn : Fn} {isF : Nat → Bool} {a b : Expr} {ma mb' : M D} {pos : Pos}
end
end Fw
namespace Fw
open L2 PyProof.Rows PySem PySem.Spec
section
variable {g : GC} {X : Cx} {W : WK}
end
end Fw
namespace Fw
open L2 PyProof.Rows PySem PySem.Spec
theorem sorted_one {α : Type} {le : α → α → Bool} : ∀ {l m : List α}, l.Perm m → l.Pairwise (fun a b => le a b = true) → m.Pairwise (fun a b => le a b = true) → (∀ a ∈ l, ∀ b ∈ l, le a b = true → le b a = true → a = b) → l = m
  | [], m, p, _, _, _ => (List.Perm.nil_eq p)
  | a :: l, [], p, _, _, _ => by have := p.length_eq; simp at this
  | a :: l, b :: m, p, h, h', an => by
    obtain ⟨h1, h2⟩ := List.pairwise_cons.mp h
    obtain ⟨k1, k2⟩ := List.pairwise_cons.mp h'
    have e : a = b := by
      have ma : a ∈ b :: m := p.mem_iff.mp List.mem_cons_self
      have mb : b ∈ a :: l := p.mem_iff.mpr List.mem_cons_self
      rcases List.mem_cons.mp ma with e | ma
      · exact e
      · rcases List.mem_cons.mp mb with e | mb'
        · exact e.symm
        · exact an a List.mem_cons_self b mb (h1 b mb') (k1 a ma)
    subst e
    rw [sorted_one (p.cons_inv) h2 k2 fun x hx y hy => an x (List.mem_cons_of_mem _ hx) y (List.mem_cons_of_mem _ hy)]
end Fw
namespace Fw
open L2 PyProof.Rows PySem PySem.Spec
section
variable {g : GC} {A : Addr → Prop} {H : Hp}
end
end Fw
namespace Fw
open L2 PyProof.Rows PySem PySem.Spec
section
variable {g : GC} {X : Cx} {W : WK}
end
end Fw
namespace Fw
open L2 PyProof.Rows PySem PySem.Spec
section
variable {g : GC} {X : Cx} {W : WK} {a b c d : Expr} {pos : Pos} {ta tb tc td : TE}
end
end Fw
namespace Fw
open L2 PyProof.Rows PySem PySem.Spec
theorem EachIs.and {α : Type} {P Q : Value → α → Prop} : ∀ {ws : List α} {us : List Value}, PySem.W.EachIs P us ws → PySem.W.EachIs Q us ws → PySem.W.EachIs (fun u w => P u w ∧ Q u w) us ws
  | [], _, r, r' => by cases r; exact .nil
  | w :: ws, us, r, r' => by
    cases r with
    | cons r1 r2 =>
      cases r' with
      | cons q1 q2 => exact .cons ⟨r1, q1⟩ (EachIs.and r2 q2)
end Fw
namespace Fw
open L2 PyProof.Rows PySem PySem.Spec
section
variable {g : GC} {X : Cx} {W : WK}
end
end Fw
namespace Fw
open L2 PyProof.Rows PySem PySem.Spec
section
variable {g : GC} {X : Cx} {W : WK}
def dttOf : Sl → Option (List (List Key) × List D)
  | .box (.dtt ks ds) => some (ks, ds)
  | .pbox (.dtt ks ds) => some (ks, ds)
  | _ => none
theorem FR.dtt {f : Fx} {A : Addr → Prop} {H : Hp} {σ : Sv} {e : Ev} (F : FR g f A H σ e) {i : Nat} {s : Sl} {ks : List (List Key)} {ds : List D} (h : e[i]? = some s) (q : dttOf s = some (ks, ds)) : s.isBox = true ∧ ∃ p xs, σ[i]? = some (some (.ref p)) ∧ H p = some (.dT (ks.zip xs)) ∧ ks.length = xs.length ∧ RL g A H ds xs := by
  obtain ⟨o, h1, h2⟩ := F.at h
  cases s with
  | emp => cases q
  | val _ => cases q
  | box d =>
    cases d with
    | dtt ks' ds' => cases q; obtain ⟨_, p, e1, _, _, xs, h3, h4, h5⟩ := h2; exact ⟨rfl, p, xs, by rw [h1, e1], h3, h4, h5⟩
    | _ => cases q
  | pbox d =>
    cases d with
    | dtt ks' ds' => cases q; obtain ⟨p, _, e1, _, xs, h3, h4, h5⟩ := h2; exact ⟨rfl, p, xs, by rw [h1, e1], h3, h4, h5⟩
    | _ => cases q
end
end Fw
namespace Fw
open L2 PyProof.Rows PySem PySem.Spec
end Fw
namespace Fw
open L2 PyProof.Rows PySem PySem.Spec
end Fw
namespace Fw
open L2 PyProof.Rows PySem PySem.Spec
section
variable {X : Cx}
end
end Fw
namespace Fw
open L2 PyProof.Rows PySem PySem.Spec
section
variable {g : GC} {X : Cx} {W : WK}
end
end Fw
namespace Fw
open L2 PyProof.Rows PySem PySem.Spec
section
variable {g : GC} {X : Cx} {W : WK}
variable {k np : Nat} {x : Str} {ps : List Str} {fn : Fn} {p pos : Pos} {e : Expr} {es : List Expr} {b : Bool}
end
end Fw
namespace GQ
open PySem PySem.SeqAt
open AutoSeq1 (wpAny_loadPart')
open MeetsSeq MeetsSeq2 MeetsSeq3 SeqRoads2
end GQ
namespace Fw
open L2 PyProof.Rows PySem PySem.Spec
section
variable {X : Cx} {k : Nat} {C f : Addr} {fd : FuncData} {ps : List Str} {sp : Sp}
end
section
variable {g : GC} {X : Cx} {W : WK}
variable {k : Nat} {C fa : Addr} {nm q : Str} {ps : List Str} {ar : Arguments} {fn : Fn} {isF : Nat → Bool} {a b : Expr} {ma mb' : M D} {pos : Pos}
variable {e : Ev}
end
end Fw
namespace Fw
open L2 PyProof.Rows PySem PySem.Spec
end Fw
namespace GQ
open PySem PySem.SeqAt
open AutoSeq1 (wpAny_loadPart')
open MeetsSeq MeetsSeq2 MeetsSeq3 SeqRoads2
section
variable {prog : Program} {w : World} {A : Around} {R : Result → Shared → Prop}
end
section
variable {prog : Program} {w : World} {A : Around} {E : Value → Shared → Prop} {s : Shared}
end
end GQ
namespace Fw
open L2 PyProof.Rows PySem PySem.Spec
section
variable {X : Cx} {k : Nat} {C f : Addr} {fd : FuncData} {ps : List Str} {sp : Sp}
end
section
variable {g : GC} {X : Cx} {W : WK} {pos p : Pos} {e : Expr}
variable {k : Nat} {C fa : Addr} {nm q : Str} {ps : List Str} {ar : Arguments} {fn : Fn} {isF : Nat → Bool} {a b : Expr} {ma mb' : M D}
variable {e : Ev}
end
end Fw
namespace Fw
open L2 PyProof.Rows PySem PySem.Spec
def FSw (g : GC) (r : List V → Hp → VK → Prop) (op : List D → Option (List D)) : Prop := ∀ A H ds es vs Q, Al A H → RtL g A H ds vs → op ds = some es → (∀ p xs H', H p = none → Same H H' → H' p = some (.lst xs) → RL g A H es xs → Q (.ref p) H') → r vs H Q
section
variable {g : GC} {X : Cx} {W : WK}
theorem t_cfw {r : List V → Hp → VK → Prop} {op : List D → Option (List D)} {m : List Od} (ho : FSw g r op) : ∀ σ H Q, rdF g W (mCF op m) σ H Q → tCB r (rdOs g W m) σ H Q := fun σ H Q ⟨f, A, e, F, h⟩ =>
  Fin.bAs h F fun d1 e1 v1 H1 F1 S1 R1 h1 => by
    obtain ⟨d, q, h2⟩ := Fin.mo h1
    exact ho A H1 d1 d v1 Q F1.al R1 q fun p xs H' hp s hl r => h2 p xs H' (F1.same s) (F1.new' hp s hl) (F1.nA hp) (S1.trans (.of s)) (FR.none_of (f := f) S1 hp) hl (RL.mono ⟨F1.al, fun a u q _ => s a u q, fun a u z q => z.elim id fun z => by rw [z, hp] at q; cases q⟩ d r)
end
end Fw
namespace GQ
open PySem PySem.SeqAt
open AutoSeq1 (wpAny_loadPart')
open MeetsSeq MeetsSeq2 MeetsSeq3 SeqRoads2
section
variable {prog : Program} {w : World} {A : Around} {R : Result → Shared → Prop}
end
section
variable {prog : Program} {w : World} {A : Around} {E : Value → Shared → Prop} {s : Shared}
end
end GQ
namespace Fw
open L2 PyProof.Rows PySem PySem.Spec
section
variable {X : Cx} {k : Nat} {C f : Addr} {fd : FuncData} {ps : List Str} {sp : Sp}
def rPairsL (K : PySem.W.Frag) (C : Addr) (sp : Sp) (p q : Addr) (xs0 ys0 : List V) : List V → List V → Hp → (Hp → Prop) → Prop
  | [], [], H, Q => SqL K H p xs0 ∧ SqL K H q ys0 ∧ Q H
  | x :: xs, y :: ys, H, Q => SqL K H p xs0 ∧ SqL K H q ys0 ∧ (∀ a, x = .ref a → y = .ref a → rPairsL K C sp p q xs0 ys0 xs ys H Q) ∧ rEqO C sp false x y H (fun v H' => v = .bl true ∧ rPairsL K C sp p q xs0 ys0 xs ys H' Q)
  | _, _, _, _ => False
theorem rPairsL.sq {K : PySem.W.Frag} {p q : Addr} {xs0 ys0 : List V} : ∀ {xs ys : List V} {H : Hp} {Q : Hp → Prop}, rPairsL K C sp p q xs0 ys0 xs ys H Q → SqL K H p xs0 ∧ SqL K H q ys0
  | [], [], _, _, h => ⟨h.1, h.2.1⟩
  | _ :: _, _ :: _, _, _, h => ⟨h.1, h.2.1⟩
  | [], _ :: _, _, _, h => h.elim
  | _ :: _, [], _, _, h => h.elim
end
section
variable {g : GC} {X : Cx} {W : WK} {pos p : Pos} {e : Expr}
variable {k : Nat} {C fa : Addr} {nm q : Str} {ps : List Str} {ar : Arguments} {fn : Fn} {isF : Nat → Bool} {a b : Expr} {ma mb' : M D}
variable {e : Ev}
end
end Fw
namespace Fw
open L2 PyProof.Rows PySem PySem.Spec
section
variable {g : GC} {X : Cx} {W : WK}
end
end Fw
namespace Fw
open L2 PyProof.Rows PySem PySem.Spec
def insJ (x : Int) : List Int → List Int
  | [] => [x]
  | y :: r => if y < x then y :: insJ x r else if x = y then y :: r else x :: y :: r
def srtJ : List Int → List Int
  | [] => []
  | x :: r => insJ x (srtJ r)
theorem mem_insJ {x z : Int} : ∀ {l : List Int}, z ∈ insJ x l ↔ z = x ∨ z ∈ l
  | [] => by simp [insJ]
  | y :: r => by
    unfold insJ
    split
    · rw [List.mem_cons, mem_insJ, List.mem_cons]; exact or_left_comm
    · split
      · rename_i e; subst e; simp
      · rw [List.mem_cons]
theorem mem_srtJ {z : Int} : ∀ {l : List Int}, z ∈ srtJ l ↔ z ∈ l
  | [] => by simp [srtJ]
  | x :: r => by unfold srtJ; rw [mem_insJ, mem_srtJ, List.mem_cons]
theorem insJ_strict (x : Int) : ∀ {l : List Int}, l.Pairwise (· < ·) → (insJ x l).Pairwise (· < ·)
  | [], _ => by unfold insJ; exact List.pairwise_singleton _ _
  | y :: r, h => by
    obtain ⟨h1, h2⟩ := List.pairwise_cons.mp h
    unfold insJ
    split
    · rename_i c
      refine .cons (fun z hz => ?_) (insJ_strict x h2)
      rcases mem_insJ.mp hz with rfl | hz
      · exact c
      · exact h1 z hz
    · split
      · exact h
      · refine .cons (fun z hz => ?_) h
        rcases List.mem_cons.mp hz with rfl | hz
        · omega
        · have := h1 z hz; omega
theorem srtJ_strict : ∀ l : List Int, (srtJ l).Pairwise (· < ·)
  | [] => .nil
  | x :: r => insJ_strict x (srtJ_strict r)
theorem srtJ_nd (l : List Int) : (srtJ l).Nodup := (srtJ_strict l).imp fun c => by omega
theorem nd_le : ∀ {m l : List Int}, m.Nodup → (∀ y ∈ m, y ∈ l) → m.length ≤ l.length
  | [], l, _, _ => Nat.zero_le _
  | a :: m, l, nd, h => by
    rw [List.nodup_cons] at nd
    have ha := h a List.mem_cons_self
    have ih := nd_le (m := m) (l := l.erase a) nd.2 fun y hy => (List.mem_erase_of_ne (show y ≠ a from fun z => nd.1 (by rw [← z]; exact hy))).mpr (h y (List.mem_cons_of_mem _ hy))
    rw [List.length_erase_of_mem ha] at ih
    have : 0 < l.length := List.length_pos_of_mem ha
    rw [List.length_cons]; omega
theorem srtJ_le (l : List Int) : (srtJ l).length ≤ l.length := nd_le (srtJ_nd l) fun y hy => mem_srtJ.mp hy
theorem srtJ_sub {l m : List Int} (h : ∀ z ∈ l, z ∈ m) : (srtJ l).length ≤ (srtJ m).length := nd_le (srtJ_nd l) fun y hy => mem_srtJ.mpr (h y (mem_srtJ.mp hy))
theorem setR_num {w : World} {h : Heap} {a : Addr} {S : Int → Bool} {n : Nat} (R : SetR w h a S n) {ks : List Int} (nd : ks.Nodup) (hm : ∀ k, k ∈ ks ↔ S k = true) : ks.length = n := by
  obtain ⟨o, es, ep, t, _, _, _, _, d, m, _, _, e, _⟩ := R
  have p : ks.Perm (es.toList.map L2.keyOf) := (List.perm_ext_iff_of_nodup nd d).mpr fun k => (hm k).trans (m k)
  rw [p.length_eq, List.length_map, Array.length_toList, e]
theorem upd_ints {P : Program} {w : World} {A : Around} {it : Addr} {fp wr : List Addr} {gp : Array GenState → Array GenState → Prop} {len : Nat} {itemP : Nat → Value → Prop} {pos : Nat → Shared → Prop} {Rz : Result → Shared → Prop}
    (wk : WalksS P w A.in1 it fp wr gp len itemP pos) (D : Addr) (nD : D ∉ fp) (zs : List Int) (el : len = zs.length) (room : (srtJ zs).length + 1 < scanBound) (is : ∀ i v, itemP i v → ∃ k t, zs[i]? = some k ∧ v = .int k t) :
    ∀ (m i : Nat) (t : Shared), i + m = len → pos i t → SetR w t.heap D (fun j => decide (j ∈ zs.take i)) (srtJ (zs.take i)).length →
      (∀ t', Moved (D :: wr) gp t t' → SetR w t'.heap D (fun j => decide (j ∈ zs)) (srtJ zs).length → Rz (.ok (.ret .none)) t') → codeAny (model P w) A (.builtin "set.update.loop" ⟨[.ref D, .ref it], []⟩) Rz t := by
  have nw : D ∉ wr := fun z => nD (wk.sub _ z)
  have up : ∀ b, b ∈ wr → b ∈ D :: wr := fun _ z => .tail _ z
  intro m
  induction m with
  | zero =>
    intro i t e p S fin
    obtain rfl : i = len := by omega
    have all : zs.take i = zs := List.take_of_length_le (by omega)
    rw [all] at S
    apply codeAny_builtin F.entry_set_update_loop
    rw [Around.under_plainId F.plain_set_update_loop _]
    show wpAny _ _ (pyNext (.ref it) >>= _) _ _ t
    apply wpAny_bind
    apply wk.done t _ _ p
    intro t' mv
    show wpAny _ _ (ret Value.none) _ _ t'
    exact wpAny_pure (fin t' (mv.mono up) (S.at fun o q => mv.heap D o nw q))
  | succ m ih =>
    intro i t e p S fin
    apply codeAny_builtin F.entry_set_update_loop
    rw [Around.under_plainId F.plain_set_update_loop _]
    show wpAny _ _ (pyNext (.ref it) >>= _) _ _ t
    apply wpAny_bind
    apply wk.item i t _ _ (by omega) p
    intro v t1 hv p1 mv
    obtain ⟨z, tk, ez, rfl⟩ := is i v hv
    have S1 : SetR w t1.heap D (fun j => decide (j ∈ zs.take i)) (srtJ (zs.take i)).length := S.at fun o q => mv.heap D o nw q
    show wpAny _ _ (holding [Value.int z tk] (setAdd D (.int z tk)) >>= _) _ _ t1
    apply wpAny_bind
    apply wpAny_holding
    unfold setAdd
    apply wpAny_holding
    apply wpAny_bind
    apply (intKind P w).pyHash (k := z) (intKind_is _ _ _ _)
    have le : (srtJ (zs.take i)).length ≤ (srtJ zs).length := srtJ_sub fun y hy => List.mem_of_mem_take hy
    refine setR_add_hashed (s := { t1 with toks := t1.toks + 1 }) S1 (by omega) fun h' sb S2 => ?_
    have S3 := S2.congr (S' := fun j => decide (j ∈ zs.take (i + 1))) fun j => by
      rw [List.take_add_one, ez]
      simp [List.mem_append]
    rw [← setR_num S3 (srtJ_nd (zs.take (i + 1))) fun k => by rw [mem_srtJ, decide_eq_true_eq]] at S3
    apply wpAny_pure
    refine ⟨plainId_quiet F.plain_set_update_loop _, ih (i + 1) _ (by omega) (wk.frame _ t1 _ _ p1 (Nat.le_succ _) fun b hb o q => ?_) S3 fun t2 mv2 S4 => fin t2 (Moved.trans wk.gtrans ((mv.mono up).then_heap (Nat.le_succ _) fun b o hb q => ?_) mv2) S4⟩
    · rw [sb.2 b fun x : b = D => nD (x ▸ hb)]; exact q
    · rw [sb.2 b fun x : b = D => hb (x ▸ List.mem_cons_self)]; exact q
section
variable {P : Program} {w : World} {A : Around} {E : Value → Shared → Prop} {s : Shared}
abbrev noSet (w : World) : Obj := { cls := .type "set", dict := none, data := .set #[] 0 (.fresh 0 0 (!w.params.followText "set-order")) }
theorem old_ne {h : Heap} {b : Addr} {o u : Obj} (e : h.get? b = some o) : b ≠ h.objs.size ∧ b ≠ (h.push u).objs.size := by
  have lt := Heap.lt_size e
  rw [Heap.size_push]
  exact ⟨Nat.ne_of_lt lt, Nat.ne_of_lt (Nat.lt_succ_of_lt lt)⟩
def SetGot (w : World) (s : Shared) (ks : List Int) (t : Shared) : Prop := ∃ h2 k2 c, t = { s with heap := h2, toks := k2 } ∧ SetR w h2 s.heap.objs.size (fun j => decide (j ∈ ks)) c ∧ c = (srtJ ks).length ∧ ∀ b o, s.heap.get? b = some o → h2.get? b = some o
theorem set_ints {l : Addr} {its : Array Value} (ks : List Int) {Q : Value → Shared → Prop} (h0 : A.handled = none) (hl : s.heap.IsList l its) (hi : IntsAre its.toList ks) (hb : (srtJ ks).length + 1 < scanBound)
    (hq : ∀ t, SetGot w s ks t → Q (.ref s.heap.objs.size) t) : wpAny (model P w) A (call (.type "set") [.ref l]) Q E s := by
  have sz : its.size = ks.length := by have q := IntsAre.length hi; rwa [Array.length_toList] at q
  have ⟨c0, t0, mro⟩ := PySem.F.called_set.mro; have md := PySem.F.called_set.made; have sb := PySem.F.called_set.sub
  refine wpAny_call (codeAny_of_tree (show wpAny _ _ (callAny (.type "set") _) _ _ _ from wpAny_pure ⟨Code.quiet_builtin _ (by decide +kernel), codeAny_builtin PySem.F.entry_type_call ?_⟩))
  have f1 := PySem.F.called_set.notType; have f2 := PySem.F.called_set.canCreate; have f3 := PySem.F.typeCall_set_1 (.ref l); rw [Around.under_plain (weight_type_call_type "set" [.ref l] []) rfl]
  iterate 40 (try (any_goals (first | assumption | wp_step)))
  refine codeAny_mono (code_set_led1 (w := w) (E := E) (.ref l) (Q₁ := fun v t => v = .ref s.heap.objs.size ∧ t = { s with heap := s.heap.push (noSet w) }) ⟨rfl, rfl⟩) fun r t hr => ?_
  match r, hr with
  | .error _, hr => exact hr
  | .ok (.ret _), ⟨e1, e2⟩ =>
    subst e1; subst e2
    have at0 : (s.heap.push (noSet w)).get? s.heap.objs.size = some (noSet w) := Heap.get?_push_size _ rfl
    have ty : Shared.TypeIs { s with heap := s.heap.push (noSet w) } (.ref s.heap.objs.size) "set" := ⟨_, at0, rfl⟩
    have f4 := PySem.F.called_set.init.lookup; have f5 := PySem.F.called_set.init.bind (.ref s.heap.objs.size)
    iterate 40 (try (any_goals (first | assumption | wp_step)))
    refine codeAny_mono (codeAny_call_builtin (R := wants (fun v t => v = .none ∧ SetGot w s ks t) E) PySem.F.called_set.init.plain PySem.F.entry_set_init (PySem.check_set_init_1 ty ?_)) fun r t hr => ?_
    · obtain ⟨⟨oc, od, oa, os⟩, ho, e3, nl, e4⟩ := hl; simp only at e3 e4; subst e3 e4
      have ho1 : (s.heap.push (noSet w)).get? l = some { cls := .type "list", dict := od, data := .seq its nl, slots := os } := Heap.get?_push_of_some _ ho
      have g1 := PySem.F.sub_list_set; have g2 := PySem.F.sub_list_frozenset
      have g3 : (Value.type "list" == Value.type "dict") = false := by decide
      have hL : (s.heap.push (noSet w)).IsList l its := ⟨_, ho1, rfl, nl, rfl⟩
      unfold Builtin.«set.__init__» noKeywords Builtin.Frozenset.updateFrom; generalize pI : pyIter = PI; wp_walk; subst pI
      refine wpAny_pyIter_list hL (wpAny_bind (wpAny_runValue ?_))
      have nn := old_ne (u := noSet w) ho
      have hv : ∀ (i : Nat) (v : Value), its[i]? = some v → ∃ k t, ks[i]? = some k ∧ v = .int k t := fun i v q => by
        have lt : i < ks.length := by rw [← sz]; exact (Array.getElem?_eq_some_iff.mp q).1
        obtain ⟨t, e⟩ := PyProof.Rows.IntsAre.int_at hi i v (by rwa [Array.getElem?_toList])
        exact ⟨ks[i], t, List.getElem?_eq_getElem lt, by rw [e, List.getD_eq_getElem?_getD, List.getElem?_eq_getElem lt]; rfl⟩
      have nm : s.heap.objs.size ∉ [(s.heap.push (noSet w)).objs.size, l] := fun z => by
        rcases List.mem_cons.mp z with z | z
        · rw [Heap.size_push] at z; omega
        · exact nn.1 (List.mem_singleton.mp z).symm
      refine upd_ints ((Walks.list (by simp [h0]) _ l nn.2 its).toS) s.heap.objs.size nm ks sz hb hv its.size 0 _ (Nat.zero_add _) ⟨⟨_, Heap.get?_push_size _ rfl, rfl, rfl⟩, hL.push _⟩ (setR_new_at (Heap.get?_push_of_some _ at0)) fun t mv R => ?_
      obtain ⟨h2, g, d, k2, o2⟩ := t
      have ⟨x1, x2, x3⟩ : g = s.gens ∧ d = s.drawn ∧ o2 = s.os := ⟨mv.gens, mv.drawn, mv.os⟩
      subst x1 x2 x3
      show wpAny _ _ _ _ _ _
      refine wpAny_pure (show wpAny _ _ (ret Value.none) _ _ _ from wpAny_pure ⟨rfl, h2, k2, _, rfl, R, rfl, fun b o e => ?_⟩)
      have nb := old_ne (u := noSet w) e
      exact mv.heap b o (fun z => by
        rcases List.mem_cons.mp z with z | z
        · exact nb.1 z
        · exact nb.2 (List.mem_singleton.mp z)) (Heap.get?_push_of_some _ (Heap.get?_push_of_some _ e))
    · match r, hr with
      | .error _, hr => exact hr
      | .ok (.ret _), ⟨e1, G⟩ =>
        subst e1
        obtain ⟨h2, k2, c, rfl, G⟩ := G
        iterate 40 (try (any_goals (first | assumption | wp_step)))
        exact hq _ ⟨h2, k2, c, rfl, G⟩
end
def rSetI (K : PySem.W.Frag) (w : World) : List V → Hp → VK → Prop := fun vs H Q => ∃ (l : Addr) (ks : List Int), vs = [V.ref l] ∧ SqL K H l (ks.map V.int) ∧ (srtJ ks).length < 1000 ∧ ∀ (p : Addr) (c : Nat), H p = none → c = (srtJ ks).length → Q (.ref p) (upd H p (SetO w p (fun j => decide (j ∈ ks)) c))
theorem cr_setI {X : Cx} (hc : X.calm = true) : CallR X (.type "set") (rSetI X.K X.w) := by
  intro pins s σ H xs us Q I r h
  obtain ⟨l, ks, rfl, hl, hf, q⟩ := h
  rw [Vals.ref1 r]
  obtain ⟨its, rv, pl, hz⟩ := I.list hl
  have hn : H s.heap.objs.size = none := I.hok.fresh (Nat.le_refl _)
  refine set_ints (P := X.prog) (w := X.w) ks (I.ok.hd hc) pl.isList (by simpa using ints_of_vals rv) (by unfold scanBound; omega) fun t ⟨h2, k2, c, e, R, hcl, k⟩ => ?_
  subst e
  exact ⟨.ref s.heap.objs.size, upd H s.heap.objs.size (SetO X.w s.heap.objs.size _ c), I.laid (t' := k2) k (Nat.le_refl _) (setO_new R), rfl, q _ c hn hcl⟩
theorem strict_one {l m : List Int} (h : l.Pairwise (· < ·)) (h' : m.Pairwise (· < ·)) (e : ∀ k, k ∈ l ↔ k ∈ m) : l = m := by
  have nd : ∀ {l : List Int}, l.Pairwise (· < ·) → l.Nodup := fun h => h.imp fun c z => by omega
  exact sorted_one (le := fun a b => decide (a ≤ b)) ((List.perm_ext_iff_of_nodup (nd h) (nd h')).mpr e) (h.imp fun c => decide_eq_true (by omega)) (h'.imp fun c => decide_eq_true (by omega)) fun a _ b _ c d => by
    have := of_decide_eq_true c; have := of_decide_eq_true d; omega
def intsF {β : Type} (f : List Int → β) : D → Option β
  | .lst ds => match intsD ds with
    | some ks => if ks.length < 64 then some (f ks) else none
    | none => none
  | _ => none
def dSSetI (d : D) : Option (List D) := intsF (fun ks => (srtJ ks).map D.int) d
theorem one_arg {g : GC} {A : Addr → Prop} {H : Hp} {ds : List D} {vs : List V} {β : Type} {op : D → Option β} {b : β} (rr : RtL g A H ds vs) (q : op1 op ds = some b) : ∃ d v, ds = [d] ∧ vs = [v] ∧ Rt g A H d v ∧ op d = some b := by
  cases ds with
  | nil => cases q
  | cons d r =>
    cases r with
    | nil =>
      obtain ⟨v, vs', e, r, e2⟩ := rr
      rw [show vs' = [] from e2] at e
      exact ⟨d, v, rfl, e, r, q⟩
    | cons e r => cases q
theorem ints_arg {g : GC} {A : Addr → Prop} {H : Hp} {β : Type} {f : List Int → β} {d : D} {v : V} {b : β} (r : Rt g A H d v) (q : intsF f d = some b) : ∃ a ks, v = V.ref a ∧ H a = some (.lst (ks.map V.int)) ∧ ks.length < 64 ∧ b = f ks := by
  cases d with
  | lst ds =>
    unfold intsF at q
    simp only at q
    cases e0 : intsD ds with
    | none => rw [e0] at q; cases q
    | some ks =>
      rw [e0] at q
      simp only at q
      by_cases c : ks.length < 64
      · rw [if_pos c] at q; cases q
        obtain ⟨a, xs, rfl, h1, rl⟩ := r
        rw [intsD_eq e0] at rl
        rw [RL.ints_of ks rl] at h1
        exact ⟨a, ks, rfl, h1, c, rfl⟩
      · rw [if_neg c] at q; cases q
  | _ => cases q
def rSSI (K : PySem.W.Frag) (w : World) : List V → Hp → VK → Prop := fun vs H Q => rSetI K w vs H fun v H1 => rSortedSet w [v] H1 Q
theorem fs_ssI {g : GC} {w : World} : FSw g (rSSI g.K w) (op1 dSSetI) := fun A H ds es vs Q al rr q k => by
  obtain ⟨d, v, rfl, rfl, r, q⟩ := one_arg rr q
  obtain ⟨a, ks, rfl, ha, hl, rfl⟩ := ints_arg (f := fun ks => (srtJ ks).map D.int) r q
  have sl := srtJ_le ks
  refine ⟨a, ks, rfl, SqL.of ha, by omega, fun b c hb hc => ⟨b, _, c, rfl, upd_same, by omega, fun ns p' st hm _ hp' => ?_⟩⟩
  have ne : p' ≠ b := fun z => by rw [z, upd_same] at hp'; cases hp'
  have hpH : H p' = none := by rw [upd_ne ne] at hp'; exact hp'
  have e : ns = srtJ ks := strict_one st (srtJ_strict ks) fun z => by rw [hm z, mem_srtJ, decide_eq_true_eq]
  rw [e]
  exact k p' _ _ hpH (fun x o z => by rw [upd_ne (ne_of_none z hpH), upd_ne (ne_of_none z hb)]; exact z) upd_same (RL.ints _)
section
variable {g : GC} {X : Cx} {W : WK}
theorem cf_ssI {a : Expr} {m : List Od} {p p2 pos pos2 : Pos} (hK : X.K = g.K) (hc : X.calm = true) (hg : Gl X "sorted") (hm : X.mg "sorted" = none) (hg2 : Gl X "set") (hm2 : X.mg "set" = none) (ha : COs g X W [a] m)
    (hs : starEach [.Call (.Name "set" p2) [a] [] pos2] X.env = (false, eval (.Call (.Name "set" p2) [a] [] pos2) X.env) :: starEach [] X.env := by rfl) (hpl : (backTo pos (starEach [] X.env)).any (·.1) = false := by rfl)
    (hs2 : starEach [a] X.env = (false, eval a X.env) :: starEach [] X.env := by rfl) (hpl2 : (backTo pos2 (starEach [] X.env)).any (·.1) = false := by rfl) :
    CF g X W (.Call (.Name "sorted" p) [.Call (.Name "set" p2) [a] [] pos2] [] pos) (mCF (op1 dSSetI) m) := by
  have i1 := pe_callTy (p := p2) (pos := pos2) (cr_setI hc) hg2 hm2 (by rfl) ha (by decide +kernel) (by decide +kernel) hs2 hpl2
  refine PE.imp (pe_callB (p := p) (pos := pos) (cr_sortedSet hc) hg hm (by rfl) (pa_cons i1 pa_nil hs) (by decide +kernel) (by decide +kernel) hs hpl) fun σ H Q h => ?_
  have := t_cfw (g := g) (W := W) (r := rSSI g.K X.w) fs_ssI σ H Q h
  rw [hK]
  exact this
end
end Fw
namespace Fw
open L2 PyProof.Rows PySem PySem.Spec
section
variable {P : Program} {w : World} {A : Around} {E : Value → Shared → Prop} {s : Shared} {z TI TO T i1 i2 : Addr} {fp1 fp2 : List Addr} {n1 n2 i : Nat} {P1 P2 : Nat → Value → Prop} {St1 St2 : Nat → Heap → Prop} {f : Bool} {oT : Obj}
end
def PrI (H : Hp) (xs ys vs : List V) : Prop := ∀ (j : Nat) (v : V), vs[j]? = some v → ∃ T x y, v = .ref T ∧ xs[j]? = some x ∧ ys[j]? = some y ∧ H T = some (.tup [x, y])
section
variable {X : Cx} {pins : List (Addr × Obj)} {σ : L2.St} {z TI TO c1 c2 a b L : Addr} {k1 k2 : Kd} {xs ys : List V} {A : Around} {res : Value} {R : Result → Shared → Prop}
end
end Fw
namespace Fw
open L2 PyProof.Rows PySem PySem.Spec
section
variable {X : Cx} {pins : List (Addr × Obj)} {σ : L2.St} {z TI TO c1 c2 a b : Addr} {k1 k2 : Kd} {xs ys : List V} {A : Around} {E : Value → Shared → Prop} {s : Shared} {H : Hp}
end
end Fw
namespace Fw
open L2 PyProof.Rows PySem PySem.Spec
theorem PrI.tail {H : Hp} {x y v : V} {xs ys vs : List V} (h : PrI H (x :: xs) (y :: ys) (v :: vs)) : PrI H xs ys vs := fun j u q => by
  obtain ⟨T, a, b, e1, e2, e3, e4⟩ := h (j + 1) u (by simpa using q)
  exact ⟨T, a, b, e1, by simpa using e2, by simpa using e3, e4⟩
section
variable {g : GC} {X : Cx} {W : WK}
variable {e : Ev}
end
end Fw
namespace Fw
open L2 PyProof.Rows PySem PySem.Spec
def cutH (H H2 : Hp) : Hp := fun p => match H p, H2 p with
  | some _, o => o
  | none, some (.tup xs) => some (.tup xs)
  | none, _ => none
section
variable {H H2 : Hp} {P : Program} {w : World} {h0 h : Heap}
theorem cut_of {p : Addr} {o : HO} (e : H p = some o) : cutH H H2 p = H2 p := by unfold cutH; rw [e]
theorem cut_tup {p : Addr} {xs : List V} (e : H2 p = some (.tup xs)) : cutH H H2 p = some (.tup xs) := by
  unfold cutH; rw [e]; cases H p <;> rfl
theorem cut_none {p : Addr} (e : H2 p = none) : cutH H H2 p = none := by
  unfold cutH; rw [e]; cases H p <;> rfl
theorem cut_some {p : Addr} {o : HO} (e : cutH H H2 p = some o) : H2 p = some o ∧ ((∃ u, H p = some u) ∨ ∃ xs, o = .tup xs) := by
  unfold cutH at e
  cases q : H p with
  | some u => rw [q] at e; exact ⟨e, .inl ⟨u, rfl⟩⟩
  | none =>
    rw [q] at e
    cases q2 : H2 p with
    | none => rw [q2] at e; cases e
    | some z =>
      rw [q2] at e
      cases z with
      | tup xs => cases e; exact ⟨rfl, .inr ⟨xs, rfl⟩⟩
      | _ => cases e
theorem cut_obj (sm : Same H H2) {a : Addr} : ∀ (o : HO), ObjOk P w H h0 a o → ObjOk P w H2 h a o → ObjOk P w (cutH H H2) h a o
  | .lst xs, _, y => y
  | .tup xs, _, y => y
  | .dK kvs, _, y => y
  | .dT kvs, _, ⟨z, n, xs, pr, y⟩ => ⟨z, n, xs, L2.Paired.mapP pr fun p q c => ⟨c.1, cut_tup c.2.1, c.2.2⟩, y⟩
  | .set S n, _, y => y
  | .ins C dx fs, ⟨x, _⟩, ⟨y, z⟩ => ⟨by rw [cut_of x]; exact y, z⟩
  | .own y, _, z => z
  | .xd fs, _, z => z
  | .rng lo hi, _, z => z
  | .frz o u, ⟨_, x⟩, ⟨y, z⟩ => ⟨y, cut_obj sm u x z⟩
  | .tbl ps, _, z => z
  | .met f x, _, z => z
  | .ext φ, _, z => z
theorem cut_hok (sm : Same H H2) (ok0 : HOk P w H h0) (ok : HOk P w H2 h) : HOk P w (cutH H H2) h := fun a o e => by
  obtain ⟨e2, c⟩ := cut_some e
  rcases c with ⟨u, q⟩ | ⟨xs, rfl⟩
  · have e3 := sm a u q
    rw [e2] at e3
    have e4 : o = u := Option.some.inj e3
    subst e4
    exact cut_obj sm o (ok0 a o q) (ok a o e2)
  · exact ok a _ e2
end
section
variable {X : Cx} {k : Nat} {f : Addr} {fd : FuncData} {ps : List Str} {sp : Sp} {pins : List (Addr × Obj)} {σ : Sv} {H H2 : Hp} {s s' : Shared}
theorem Inv.cut (I0 : L2.Inv X pins σ H s) (I : L2.Inv X pins σ H2 s') (sm : Same H H2) : L2.Inv X pins σ (cutH H H2) s' :=
  ⟨I.ok, I.os, I.bare, ⟨I.base.keep, I.base.slot, fun b o e n hx => cut_none (I.base.free b o e n hx), I.base.there, fun b xs e => cut_tup (I.base.tups b xs e),
    fun b o u e => by rw [cut_of (I0.base.frzs b o u e)]; exact I.base.frzs b o u e,
    fun b ps e => by
      obtain ⟨m, q⟩ := I0.base.tbls b ps e
      obtain ⟨m2, q2⟩ := I.base.tbls b ps e
      exact ⟨m2, by rw [cut_of q]; exact q2⟩⟩, I.loc, I.cell, cut_none I.free, fun x c e => cut_none (I.freeC x c e),
    fun p hp => let ⟨e, n, r⟩ := I.pin p hp; ⟨e, cut_none n, r⟩, cut_hok sm I0.hok I.hok, I.len⟩
end
theorem RL.at_ {g : GC} {A : Addr → Prop} {H : Hp} : ∀ {ds : List D} {xs : List V} {i : Nat} {x : V}, RL g A H ds xs → xs[i]? = some x → ∃ d, ds[i]? = some d ∧ R g A H d x
  | [], xs, i, x, r, e => by rw [show xs = [] from r] at e; simp at e
  | d :: ds, _, i, x, ⟨y, ys, rfl, r, t⟩, e => by
    cases i with
    | zero => simp at e; subst e; exact ⟨d, rfl, r⟩
    | succ i =>
      obtain ⟨d', h1, h2⟩ := RL.at_ t (show ys[i]? = some x by simpa using e)
      exact ⟨d', by simpa using h1, h2⟩
section
variable {g : GC} {X : Cx} {W : WK}
end
end Fw
namespace Fw
open L2 PyProof.Rows PySem PySem.Spec
section
variable {X : Cx}
end
section
variable {g : GC} {X : Cx} {W : WK}
end
section
variable {g : GC} {X : Cx} {W : WK}
end
section
variable {g : GC} {X : Cx} {W : WK}
end
end Fw
namespace Fw
open L2 PyProof.Rows PySem PySem.Spec
section
variable {g : GC} {X : Cx} {W : WK}
end
end Fw
namespace Fw
open L2 PyProof.Rows PySem PySem.Spec
section
variable {g : GC} {X : Cx} {W : WK}
end
end Fw
namespace Fw
open L2 PyProof.Rows PySem PySem.Spec
section
variable {P : Program} {w : World} {A : Around} {E : Value → Shared → Prop} {s : Shared}
end
section
variable {g : GC} {X : Cx} {W : WK}
end
section
variable {X : Cx}
end
end Fw
namespace Fw
open L2 PyProof.Rows PySem PySem.Spec
section
variable {g : GC} {X : Cx} {W : WK}
end
end Fw
namespace GQ
open PySem PySem.SeqAt
open AutoSeq1 (wpAny_loadPart')
open MeetsSeq MeetsSeq2 MeetsSeq3 SeqRoads2
section
variable {prog : Program} {w : World} {A : Around} {R : Result → Shared → Prop}
end
section
variable {prog : Program} {w : World} {A : Around} {E : Value → Shared → Prop} {s : Shared}
end
end GQ
namespace Fw
open L2 PyProof.Rows PySem PySem.Spec
section
variable {X : Cx} {k : Nat} {C f : Addr} {fd : FuncData} {ps : List Str} {sp : Sp}
end
section
variable {g : GC} {X : Cx} {W : WK}
variable {k : Nat} {C fa : Addr} {nm q : Str} {ps : List Str} {ar : Arguments} {fn : Fn} {isF : Nat → Bool} {a b : Expr} {ma mb' : M D} {pos : Pos}
variable {e : Ev}
end
end Fw
namespace Fw
open L2 PyProof.Rows PySem PySem.Spec
section
variable {g : GC} {X : Cx} {W : WK}
end
section
variable {X : Cx} {k : Nat} {C f : Addr} {fd : FuncData} {ps : List Str} {sp : Sp}
end
section
variable {g : GC} {X : Cx} {W : WK}
variable {k : Nat} {C fa : Addr} {nm q : Str} {ps : List Str} {ar : Arguments} {fn : Fn} {isF : Nat → Bool} {a b : Expr} {ma mb' : M D} {pos : Pos}
variable {e : Ev}
end
end Fw
namespace Fw
open L2 PyProof.Rows PySem PySem.Spec
end Fw
namespace Fw
open L2 PyProof.Rows PySem PySem.Spec
end Fw
namespace Fw
open L2 PyProof.Rows PySem PySem.Spec
section
variable {g : GC} {X : Cx} {W : WK}
end
end Fw
namespace Fw
open L2 PyProof.Rows PySem PySem.Spec
section
variable {g : GC} {X : Cx} {W : WK}
end
end Fw
namespace Fw
open L2 PyProof.Rows PySem PySem.Spec
section
variable {g : GC} {X : Cx} {W : WK}
end
end Fw
namespace Fw
open L2 PyProof.Rows PySem PySem.Spec
section
variable {P : Program} {w : World} {A : Around} {E : Value → Shared → Prop} {s : Shared} {a : Addr}
end
section
variable {g : GC} {X : Cx} {W : WK}
end
end Fw
namespace Fw
open L2 PyProof.Rows PySem PySem.Spec
section
variable {g : GC} {X : Cx} {W : WK}
variable {k : Nat} {x y : Str} {ps : List Str} {ar : Arguments} {fn : Fn} {p p2 pos : Pos} {e : Expr}
end
end Fw
namespace Fw
open L2 PyProof.Rows PySem PySem.Spec
section
variable {g : GC} {X : Cx} {W : WK}
end
end Fw
namespace GQ
open PySem PySem.SeqAt
open AutoSeq1 (wpAny_loadPart')
open MeetsSeq MeetsSeq2 MeetsSeq3 SeqRoads2
section
variable {prog : Program} {w : World} {A : Around} {R : Result → Shared → Prop}
end
end GQ
namespace Fw
open L2 PyProof.Rows PySem PySem.Spec
section
variable {X : Cx} {k : Nat} {C f : Addr} {fd : FuncData} {ps : List Str} {sp : Sp}
def rInL (K : PySem.W.Frag) (C : Addr) (sp : Sp) (p : Addr) (xs0 : List V) (x : V) : List V → Hp → (Bool → Hp → Prop) → Prop
  | [], H, Q => SqL K H p xs0 ∧ Q false H
  | y :: ys, H, Q => SqL K H p xs0 ∧ (∀ a, y = .ref a → x = .ref a → Q true H) ∧ rEqO C sp false y x H (fun v H' => ∃ r, v = .bl r ∧ (r = true → Q true H') ∧ (r = false → rInL K C sp p xs0 x ys H' Q))
theorem rInL.sq {K : PySem.W.Frag} {p : Addr} {xs0 : List V} {x : V} : ∀ {xs : List V} {H : Hp} {Q : Bool → Hp → Prop}, rInL K C sp p xs0 x xs H Q → SqL K H p xs0
  | [], _, _, h => h.1
  | _ :: _, _, _, h => h.1
end
section
variable {g : GC} {X : Cx} {W : WK}
variable {k : Nat} {C fa : Addr} {nm q : Str} {ps : List Str} {ar : Arguments} {fn : Fn} {isF : Nat → Bool} {a b : Expr} {ma mb' : M D} {pos : Pos}
variable {e : Ev}
end
end Fw
namespace GQ
open PySem PySem.SeqAt
open AutoSeq1 (wpAny_loadPart')
open MeetsSeq MeetsSeq2 MeetsSeq3 SeqRoads2
section
variable {prog : Program} {w : World} {A : Around} {R : Result → Shared → Prop}
end
end GQ
namespace Fw
open L2 PyProof.Rows PySem PySem.Spec
section
variable {X : Cx} {k : Nat} {C f : Addr} {fd : FuncData} {ps : List Str} {sp : Sp}
def rCnt (K : PySem.W.Frag) (C : Addr) (sp : Sp) (p : Addr) (xs0 : List V) (x : V) : List V → Nat → Hp → (Nat → Hp → Prop) → Prop
  | [], c, H, Q => SqL K H p xs0 ∧ Q c H
  | y :: ys, c, H, Q => SqL K H p xs0 ∧ (∀ a, y = .ref a → x = .ref a → rCnt K C sp p xs0 x ys (c + 1) H Q) ∧ rEqO C sp false y x H (fun v H' => ∃ r, v = .bl r ∧ rCnt K C sp p xs0 x ys (if r then c + 1 else c) H' Q)
theorem rCnt.sq {K : PySem.W.Frag} {p : Addr} {xs0 : List V} {x : V} : ∀ {xs : List V} {c : Nat} {H : Hp} {Q : Nat → Hp → Prop}, rCnt K C sp p xs0 x xs c H Q → SqL K H p xs0
  | [], _, _, _, h => h.1
  | _ :: _, _, _, _, h => h.1
end
section
variable {g : GC} {X : Cx} {W : WK}
variable {k : Nat} {C fa : Addr} {nm q : Str} {ps : List Str} {ar : Arguments} {fn : Fn} {isF : Nat → Bool}
variable {e : Ev}
end
end Fw
namespace Fw
open L2 PyProof.Rows PySem PySem.Spec
section
variable {X : Cx}
end
section
variable {g : GC} {X : Cx} {W : WK}
variable {e : Ev}
end
end Fw
namespace Fw
open L2 PyProof.Rows PySem PySem.Spec
def m__law_fetch (n : Nat) : M Fl :=
  (mSq (mIf (mCmp dGt (.e (mOp dIx (.n 0) (.e (mC (.int 0))))) (.e (mC (.int 0))))
    (mSq (mAsg (mCB (op2 dDivmod) [(.e (mOp dIx (.n 0) (.e (mC (.int 0))))), (.e (mVar 1))]) (gTupD 2 (gsCons (gSt 0 (mC (.int 0))) (gsCons (Fw.setV 2) gsNil))))
    (mRet (mVar 2)))
    (mp .nx))
    (mSq (mAsg (mOp dAdd (.e (mOp dIx (.n 0) (.e (mC (.int 2))))) (.e (mC (.int 1)))) (gSt 0 (mC (.int 2))))
    (mSq (mSet 3 (mOp dMod (.e (mCB (op1 dInt) [(.e (mOp dAdd (.e (mOp dAdd (.e (mOp dMul (.e (mOp dIx (.n 0) (.e (mC (.int 1))))) (.e (mC (.int 45007))))) (.e (mOp dMul (.e (mOp dMul (.e (mOp dIx (.n 0) (.e (mC (.int 2))))) (.e (mOp dIx (.n 0) (.e (mC (.int 2))))))) (.e (mC (.int 137))))))) (.e (mC (.int 71)))))])) (.e (mC (.int 2147479819)))))
    (mSq (mAsg (mOp dMod (.e (mCB (op1 dInt) [(.e (mOp dAdd (.e (mOp dMul (.e (mVar 3)) (.e (mOp dAdd (.e (mC (.int 39041))) (.e (mOp dMod (.e (mCB (op1 dInt) [(.e (mVar 3))])) (.e (mC (.int 6011))))))))) (.e (mC (.int 97)))))])) (.e (mC (.int 2147479903)))) (gSt 0 (mC (.int 1))))
    (mRet (mOp dMod (.e (mCB (op1 dInt) [(.e (mOp dFdiv (.e (mOp dIx (.n 0) (.e (mC (.int 1))))) (.e (mC (.int 512)))))])) (.e (mVar 1))))))))
def f__law_fetch (n : Nat) : Fn := mkFn 2 4 (m__law_fetch n)
def m__law_choose (n : Nat) : M Fl :=
  (mRet (mOp dIx (.e (mVar 1)) (.e (mCv 2 (f__law_fetch n) [(.n 0), (.e (mCB (op1 dLen) [(.e (mVar 1))]))]))))
def f__law_choose (n : Nat) : Fn := mkFn 2 2 (m__law_choose n)
def m__law_big (n : Nat) : M Fl :=
  (mSq (mSet 1 (mOp dAdd (.e (mC (.int 1))) (.e (mCv 2 (f__law_fetch n) [(.n 0), (.e (mC (.int 60)))]))))
    (mSq (mSet 2 (mOp dMul (.e (mCv 2 (f__law_choose n) [(.n 0), (.e (mFr (mLst (mCons (mC (.int 1)) (mCons (mC (.int 2)) (mCons (mC (.int 4)) (mCons (mC (.int 8)) (mCons (mC (.int 16)) mNil))))))))])) (.e (mCv 2 (f__law_choose n) [(.n 0), (.e (mFr (mLst (mCons (mC (.int 1)) (mCons (mC (.int 3)) (mCons (mC (.int 9)) mNil))))))]))))
    (mSq (mSet 2 (mOp dMul (.e (mVar 2)) (.e (mCv 2 (f__law_choose n) [(.n 0), (.e (mFr (mLst (mCons (mC (.int 1)) (mCons (mC (.int 5)) (mCons (mC (.int 7)) (mCons (mC (.int 11)) (mCons (mC (.int 35)) (mCons (mC (.int 101)) mNil)))))))))]))))
    (mSq (mSet 3 (mCv 2 (f__law_choose n) [(.n 0), (.e (mFr (mLst (mCons (mVar 1) (mCons (mVar 2) (mCons (mOp dMul (.e (mVar 2)) (.e (mVar 1))) (mCons (mOp dAdd (.e (mC (.int 1))) (.e (mCv 2 (f__law_fetch n) [(.n 0), (.e (mOp dPow (.e (mC (.int 10))) (.e (mC (.int 4)))))]))) (mCons (mOp dPow (.e (mC (.int 10))) (.e (mC (.int 4)))) mNil))))))))]))
    (mRet (mOp dMul (.e (mCB (op2 dMin2) [(.e (mVar 3)), (.e (mOp dPow (.e (mC (.int 10))) (.e (mC (.int 5)))))])) (.e (mCv 2 (f__law_choose n) [(.n 0), (.e (mFr (mLst (mCons (mC (.int 1)) (mCons (mUn dNeg (.e (mC (.int 1)))) mNil)))))]))))))))
def f__law_big (n : Nat) : Fn := mkFn 1 4 (m__law_big n)
def b__law_split_1 (n : Nat) : M Fl :=
  (mSq (mIf (mCmp dNe (.e (mOp dMod (.e (mCB (op1 dInt) [(.e (mVar 3))])) (.e (mVar 1)))) (.e (mC (.int 0))))
    (mp .bk)
    (mp .nx))
    (mPar [2, 3] [.e (mOp dAdd (.e (mVar 2)) (.e (mC (.int 1)))), .e (mOp dFdiv (.e (mVar 3)) (.e (mVar 1)))]))
def m__law_split (n : Nat) : M Fl :=
  (mSq (mPar [2, 3] [.e (mC (.int 0)), .e (mVar 0)])
    (mSq (mFor (mIA dR1 [(.e (mC (.int 400)))]) (Fw.setV 4)
    (b__law_split_1 n))
    (mRet (mTup (mCons (mVar 2) (mCons (mVar 3) mNil))))))
def f__law_split (n : Nat) : Fn := mkFn 2 5 (m__law_split n)
def b__law_rest_sign_1 (n : Nat) : M Fl :=
  (mSq (mIf (mCmp dEq (.e (mVar 4)) (.e (mC (.int 0))))
    (mp .bk)
    (mp .nx))
    (mSq (mIf (mCmp dEq (.e (mOp dMod (.e (mCB (op1 dInt) [(.e (mVar 4))])) (.e (mC (.int 2))))) (.e (mC (.int 1))))
    (mSet 2 (mOp dMod (.e (mCB (op1 dInt) [(.e (mOp dMul (.e (mVar 2)) (.e (mVar 3))))])) (.e (mVar 1))))
    (mp .nx))
    (mPar [3, 4] [.e (mOp dMod (.e (mCB (op1 dInt) [(.e (mOp dMul (.e (mVar 3)) (.e (mVar 3))))])) (.e (mVar 1))), .e (mOp dFdiv (.e (mVar 4)) (.e (mC (.int 2))))])))
def m__law_rest_sign (n : Nat) : M Fl :=
  (mSq (mPar [2, 3, 4] [.e (mC (.int 1)), .e (mOp dMod (.e (mCB (op1 dInt) [(.e (mVar 0))])) (.e (mVar 1))), .e (mOp dFdiv (.e (mOp dSub (.e (mVar 1)) (.e (mC (.int 1))))) (.e (mC (.int 2))))])
    (mSq (mFor (mIA dR1 [(.e (mC (.int 80)))]) (Fw.setV 5)
    (b__law_rest_sign_1 n))
    (mRet (mIf (mCmp dEq (.e (mVar 2)) (.e (mC (.int 1)))) (mC (.int 1)) (mUn dNeg (.e (mC (.int 1))))))))
def f__law_rest_sign (n : Nat) : Fn := mkFn 2 6 (m__law_rest_sign n)
def b__law_symbol_1 (n : Nat) : M Fl :=
  (mIf (mCmp dEq (.e (mOp dMod (.e (mCB (op1 dInt) [(.e (mVar 9))])) (.e (mC (.int 2))))) (.e (mC (.int 1))))
    (mSet 8 (mOp dMul (.e (mVar 8)) (.e (mCv 2 (f__law_rest_sign n) [(.e (mVar 10)), (.e (mVar 2))]))))
    (mp .nx))
def m__law_symbol (n : Nat) : M Fl :=
  (mSq (mIf (mCmp dEq (.e (mVar 2)) (.e (mC (.int 0))))
    (mRet (mIf (mAnd (mCmp dLt (.e (mVar 0)) (.e (mC (.int 0)))) (mCmp dLt (.e (mVar 1)) (.e (mC (.int 0))))) (mUn dNeg (.e (mC (.int 1)))) (mC (.int 1))))
    (mp .nx))
    (mSq (mAsg (mCv 2 (f__law_split n) [(.e (mVar 0)), (.e (mVar 2))]) (gTupD 2 (gsCons (Fw.setV 3) (gsCons (Fw.setV 4) gsNil))))
    (mSq (mAsg (mCv 2 (f__law_split n) [(.e (mVar 1)), (.e (mVar 2))]) (gTupD 2 (gsCons (Fw.setV 5) (gsCons (Fw.setV 6) gsNil))))
    (mSq (mIf (mCmp dEq (.e (mVar 2)) (.e (mC (.int 2))))
    (mSq (mSet 7 (mOp dMul (.e (mOp dFdiv (.e (mOp dSub (.e (mVar 4)) (.e (mC (.int 1))))) (.e (mC (.int 2))))) (.e (mOp dFdiv (.e (mOp dSub (.e (mVar 6)) (.e (mC (.int 1))))) (.e (mC (.int 2)))))))
    (mSq (mSet 7 (mOp dAdd (.e (mOp dAdd (.e (mVar 7)) (.e (mOp dMul (.e (mVar 3)) (.e (mOp dFdiv (.e (mOp dSub (.e (mOp dMul (.e (mVar 6)) (.e (mVar 6)))) (.e (mC (.int 1))))) (.e (mC (.int 8))))))))) (.e (mOp dMul (.e (mVar 5)) (.e (mOp dFdiv (.e (mOp dSub (.e (mOp dMul (.e (mVar 4)) (.e (mVar 4)))) (.e (mC (.int 1))))) (.e (mC (.int 8)))))))))
    (mRet (mIf (mCmp dEq (.e (mOp dMod (.e (mCB (op1 dInt) [(.e (mVar 7))])) (.e (mC (.int 2))))) (.e (mC (.int 0)))) (mC (.int 1)) (mUn dNeg (.e (mC (.int 1))))))))
    (mp .nx))
    (mSq (mSet 8 (mC (.int 1)))
    (mSq (mFor (mIt (mFr (mLst (mCons (mTup (mCons (mOp dMul (.e (mVar 3)) (.e (mVar 5))) (mCons (mUn dNeg (.e (mC (.int 1)))) mNil))) (mCons (mTup (mCons (mVar 5) (mCons (mVar 4) mNil))) (mCons (mTup (mCons (mVar 3) (mCons (mVar 6) mNil))) mNil)))))) (gTupD 2 (gsCons (Fw.setV 9) (gsCons (Fw.setV 10) gsNil)))
    (b__law_symbol_1 n))
    (mRet (mVar 8))))))))
def f__law_symbol (n : Nat) : Fn := mkFn 3 11 (m__law_symbol n)
def m_is_integer (n : Nat) : M Fl :=
  (mRet (mAndV (mCB (op2 dIsi) [(.e (mVar 0)), (.e (mC (.ty "int")))]) (mNotV (.e (mCB (op2 dIsi) [(.e (mVar 0)), (.e (mC (.ty "bool")))])))))
def f_is_integer (n : Nat) : Fn := mkFn 1 1 (m_is_integer n)
def m_is_between (n : Nat) : M Fl :=
  (mRet (mAndV (mCv 1 (f_is_integer n) [(.e (mVar 0))]) (mChain dLe dLe (.e (mVar 1)) (.e (mVar 0)) (.e (mVar 2)))))
def f_is_between (n : Nat) : Fn := mkFn 3 3 (m_is_between n)
def m_check_signed (n : Nat) : M Fl :=
  (mIf (mOr (mNot (mTru (.e (mCv 3 (f_is_between n) [(.e (mVar 0)), (.e (mUn dNeg (.e (mC (.int 1000000000))))), (.e (mC (.int 1000000000)))])))) (mCmp dEq (.e (mVar 0)) (.e (mC (.int 0)))))
    (fun _ => .bad)
    (mp .nx))
def f_check_signed (n : Nat) : Fn := mkFn 1 1 (m_check_signed n)
def c_prime_divisors_1 (n : Nat) : M Bool :=
  (mCmp dEq (.e (mOp dMod (.e (mVar 2)) (.e (mVar 3)))) (.e (mC (.int 0))))
def b_prime_divisors_1 (n : Nat) : M Fl :=
  (mSet 2 (mOp dFdiv (.e (mVar 2)) (.e (mVar 3))))
def c_prime_divisors_2 (n : Nat) : M Bool :=
  (mCmp dLe (.e (mOp dMul (.e (mVar 3)) (.e (mVar 3)))) (.e (mVar 2)))
def b_prime_divisors_2 (n : Nat) : M Fl :=
  (mSq (mIf (mCmp dEq (.e (mOp dMod (.e (mVar 2)) (.e (mVar 3)))) (.e (mC (.int 0))))
    (mSq (mEx (mApp 1 (mVar 3)))
    (mWh (c_prime_divisors_1 n)
    (b_prime_divisors_1 n) n))
    (mp .nx))
    (mAug 3 dIAdd (mC (.int 1))))
def m_prime_divisors (n : Nat) : M Fl :=
  (mSq (mPar [1, 2, 3] [.f (mLst mNil), .e (mCB (op1 dAbs) [(.e (mVar 0))]), .e (mC (.int 2))])
    (mSq (mWh (c_prime_divisors_2 n)
    (b_prime_divisors_2 n) n)
    (mRetF (mOpF dCat (.n 1) (.e (mFr (mIf (mCmp dGt (.e (mVar 2)) (.e (mC (.int 1)))) (mLst (mCons (mVar 2) mNil)) (mLst mNil))))))))
def f_prime_divisors (n : Nat) : Fn := mkFn 1 4 (m_prime_divisors n)
def m_places_for (n : Nat) : M Fl :=
  (mRetF (mLst (mCons (mC (.int 0)) (mStar (mFr (mCl 1 (f_prime_divisors n) [(.e (mOp dMul (.e (mC (.int 2))) (.e (mVar 0))))])) mNil))))
def f_places_for (n : Nat) : Fn := mkFn 1 1 (m_places_for n)
def c_parted_1 (n : Nat) : M Bool :=
  (mCmp dEq (.e (mOp dMod (.e (mVar 0)) (.e (mVar 1)))) (.e (mC (.int 0))))
def b_parted_1 (n : Nat) : M Fl :=
  (mPar [0, 2] [.e (mOp dFdiv (.e (mVar 0)) (.e (mVar 1))), .e (mOp dAdd (.e (mVar 2)) (.e (mC (.int 1))))])
def m_parted (n : Nat) : M Fl :=
  (mSq (mSet 2 (mC (.int 0)))
    (mSq (mWh (c_parted_1 n)
    (b_parted_1 n) n)
    (mRet (mTup (mCons (mVar 2) (mCons (mVar 0) mNil))))))
def f_parted (n : Nat) : Fn := mkFn 2 3 (m_parted n)
def c_residue_sign_1 (n : Nat) : M Bool :=
  (mCmp dGt (.e (mVar 4)) (.e (mC (.int 0))))
def b_residue_sign_1 (n : Nat) : M Fl :=
  (mSq (mIf (mCmp dEq (.e (mOp dMod (.e (mVar 4)) (.e (mC (.int 2))))) (.e (mC (.int 1))))
    (mSet 2 (mOp dMod (.e (mOp dMul (.e (mVar 2)) (.e (mVar 3)))) (.e (mVar 1))))
    (mp .nx))
    (mPar [3, 4] [.e (mOp dMod (.e (mOp dMul (.e (mVar 3)) (.e (mVar 3)))) (.e (mVar 1))), .e (mOp dFdiv (.e (mVar 4)) (.e (mC (.int 2))))]))
def m_residue_sign (n : Nat) : M Fl :=
  (mSq (mPar [2, 3, 4] [.e (mC (.int 1)), .e (mOp dMod (.e (mVar 0)) (.e (mVar 1))), .e (mOp dFdiv (.e (mOp dSub (.e (mVar 1)) (.e (mC (.int 1))))) (.e (mC (.int 2))))])
    (mSq (mWh (c_residue_sign_1 n)
    (b_residue_sign_1 n) n)
    (mRet (mIf (mCmp dEq (.e (mVar 2)) (.e (mC (.int 1)))) (mC (.int 1)) (mUn dNeg (.e (mC (.int 1))))))))
def f_residue_sign (n : Nat) : Fn := mkFn 2 5 (m_residue_sign n)
def m_sign_at (n : Nat) : M Fl :=
  (mSq (mIf (mCmp dEq (.e (mVar 2)) (.e (mC (.int 0))))
    (mRet (mIf (mAnd (mCmp dLt (.e (mVar 0)) (.e (mC (.int 0)))) (mCmp dLt (.e (mVar 1)) (.e (mC (.int 0))))) (mUn dNeg (.e (mC (.int 1)))) (mC (.int 1))))
    (mp .nx))
    (mSq (mAsg (mCv 2 (f_parted n) [(.e (mVar 0)), (.e (mVar 2))]) (gTupD 2 (gsCons (Fw.setV 3) (gsCons (Fw.setV 4) gsNil))))
    (mSq (mAsg (mCv 2 (f_parted n) [(.e (mVar 1)), (.e (mVar 2))]) (gTupD 2 (gsCons (Fw.setV 5) (gsCons (Fw.setV 6) gsNil))))
    (mSq (mIf (mCmp dEq (.e (mVar 2)) (.e (mC (.int 2))))
    (mSq (mSet 7 (mOp dAdd (.e (mOp dAdd (.e (mOp dMul (.e (mOp dFdiv (.e (mOp dSub (.e (mVar 4)) (.e (mC (.int 1))))) (.e (mC (.int 2))))) (.e (mOp dFdiv (.e (mOp dSub (.e (mVar 6)) (.e (mC (.int 1))))) (.e (mC (.int 2))))))) (.e (mOp dMul (.e (mVar 3)) (.e (mOp dFdiv (.e (mOp dSub (.e (mOp dMul (.e (mVar 6)) (.e (mVar 6)))) (.e (mC (.int 1))))) (.e (mC (.int 8))))))))) (.e (mOp dMul (.e (mVar 5)) (.e (mOp dFdiv (.e (mOp dSub (.e (mOp dMul (.e (mVar 4)) (.e (mVar 4)))) (.e (mC (.int 1))))) (.e (mC (.int 8)))))))))
    (mRet (mIf (mCmp dEq (.e (mOp dMod (.e (mVar 7)) (.e (mC (.int 2))))) (.e (mC (.int 0)))) (mC (.int 1)) (mUn dNeg (.e (mC (.int 1)))))))
    (mp .nx))
    (mSq (mSet 8 (mIf (mAnd (mCmp dEq (.e (mOp dMod (.e (mVar 3)) (.e (mC (.int 2))))) (.e (mC (.int 1)))) (mCmp dEq (.e (mOp dMod (.e (mVar 5)) (.e (mC (.int 2))))) (.e (mC (.int 1))))) (mCv 2 (f_residue_sign n) [(.e (mUn dNeg (.e (mC (.int 1))))), (.e (mVar 2))]) (mC (.int 1))))
    (mSq (mIf (mCmp dEq (.e (mOp dMod (.e (mVar 5)) (.e (mC (.int 2))))) (.e (mC (.int 1))))
    (mSet 8 (mOp dMul (.e (mVar 8)) (.e (mCv 2 (f_residue_sign n) [(.e (mVar 4)), (.e (mVar 2))]))))
    (mp .nx))
    (mRet (mIf (mCmp dEq (.e (mOp dMod (.e (mVar 3)) (.e (mC (.int 2))))) (.e (mC (.int 1)))) (mOp dMul (.e (mVar 8)) (.e (mCv 2 (f_residue_sign n) [(.e (mVar 6)), (.e (mVar 2))]))) (mVar 8)))))))))
def f_sign_at (n : Nat) : Fn := mkFn 3 9 (m_sign_at n)
def m_odd_places (n : Nat) : M Fl :=
  (mSq (mEx (mCv 1 (f_check_signed n) [(.e (mVar 0))]))
    (mSq (mEx (mCv 1 (f_check_signed n) [(.e (mVar 1))]))
    (mSq (mSet 2 (mFr (mCF (op1 dSSetI) [(.e (mFr (mOpF dCat (.e (mFr (mCl 1 (f_places_for n) [(.e (mVar 0))]))) (.e (mFr (mCl 1 (f_places_for n) [(.e (mVar 1))]))))))])))
    (mRet (mCB (op1 dTuple) [(.e (mFr (mLc (mIt (mVar 2)) [3] (Fw.setV 3) (mCmp dEq (.e (mCv 3 (f_sign_at n) [(.e (mVar 0)), (.e (mVar 1)), (.e (mVar 3))])) (.e (mUn dNeg (.e (mC (.int 1)))))) (mVar 3))))])))))
def f_odd_places (n : Nat) : Fn := mkFn 2 4 (m_odd_places n)
def m_is_prime (n : Nat) : M Fl :=
  (mRet (mAndV (mOp dGt (.e (mVar 0)) (.e (mC (.int 1)))) (mOp dEq (.e (mFr (mCl 1 (f_prime_divisors n) [(.e (mVar 0))]))) (.e (mFr (mLst (mCons (mVar 0) mNil)))))))
def f_is_prime (n : Nat) : Fn := mkFn 1 1 (m_is_prime n)
def m_is_place (n : Nat) : M Fl :=
  (mRet (mAndV (mCv 3 (f_is_between n) [(.e (mVar 0)), (.e (mC (.int 0))), (.e (mC (.int 1000000000000)))]) (mOrV (mOp dEq (.e (mVar 0)) (.e (mC (.int 0)))) (mCv 1 (f_is_prime n) [(.e (mVar 0))]))))
def f_is_place (n : Nat) : Fn := mkFn 1 1 (m_is_place n)
def m_check_place (n : Nat) : M Fl :=
  (mIf (mNot (mTru (.e (mCv 1 (f_is_place n) [(.e (mVar 0))]))))
    (fun _ => .bad)
    (mp .nx))
def f_check_place (n : Nat) : Fn := mkFn 1 1 (m_check_place n)
def m_sign (n : Nat) : M Fl :=
  (mSq (mEx (mCv 1 (f_check_signed n) [(.e (mVar 0))]))
    (mSq (mEx (mCv 1 (f_check_signed n) [(.e (mVar 1))]))
    (mSq (mEx (mCv 1 (f_check_place n) [(.e (mVar 2))]))
    (mRet (mCv 3 (f_sign_at n) [(.e (mVar 0)), (.e (mVar 1)), (.e (mVar 2))])))))
def f_sign (n : Nat) : Fn := mkFn 3 3 (m_sign n)
def b__law_primes_of_1 (n : Nat) : M Fl :=
  (mSq (mIf (mCmp dGt (.e (mOp dMul (.e (mVar 3)) (.e (mVar 3)))) (.e (mVar 2)))
    (mp .bk)
    (mp .nx))
    (mIf (mCmp dEq (.e (mOp dMod (.e (mCB (op1 dInt) [(.e (mVar 2))])) (.e (mVar 3)))) (.e (mC (.int 0))))
    (mSq (mEx (mApp 1 (mVar 3)))
    (mSet 2 (mOp dFdiv (.e (mVar 2)) (.e (mVar 3)))))
    (mSet 3 (mOp dAdd (.e (mVar 3)) (.e (mC (.int 1)))))))
def m__law_primes_of (n : Nat) : M Fl :=
  (mSq (mPar [1, 2, 3] [.f (mLst (mCons (mC (.int 2)) mNil)), .e (mCB (op1 dAbs) [(.e (mVar 0))]), .e (mC (.int 2))])
    (mSq (mFor (mIA dR1 [(.e (mC (.int 40000)))]) (Fw.setV 4)
    (b__law_primes_of_1 n))
    (mRetF (mCF (op1 dSSetI) [(.e (mFr (mOpF dCat (.n 1) (.e (mFr (mIf (mCmp dGt (.e (mVar 2)) (.e (mC (.int 1)))) (mLst (mCons (mVar 2) mNil)) (mLst mNil)))))))]))))
def f__law_primes_of (n : Nat) : Fn := mkFn 1 5 (m__law_primes_of n)
def b__law_right_1 (n : Nat) : M Fl :=
  (mSq (mSet 7 (mCv 3 (f__law_symbol n) [(.e (mVar 2)), (.e (mVar 3)), (.e (mVar 6))]))
    (mSq (mSet 8 (mFr (mLst (mCons (mCv 3 (f_sign n) [(.e (mVar 2)), (.e (mVar 3)), (.e (mVar 6))]) (mCons (mCv 3 (f_sign n) [(.e (mVar 3)), (.e (mVar 2)), (.e (mVar 6))]) (mCons (mCvP 3 (f_sign n) [2, 1, 0] [(.e (mVar 6)), (.e (mVar 3)), (.e (mVar 2))]) mNil))))))
    (mSq (mIf (mOr (mCmp dNe (.e (mCB (op1 dRepr) [(.e (mVar 8))])) (.e (mCB (op1 dRepr) [(.e (mFr (mLst (mCons (mVar 7) (mCons (mVar 7) (mCons (mVar 7) mNil))))))]))) (mCmp dNe (.e (mCv 3 (f_sign n) [(.e (mVar 2)), (.e (mOp dSub (.e (mC (.int 0))) (.e (mVar 2)))), (.e (mVar 6))])) (.e (mC (.int 1)))))
    (mRet (mC (.bl false)))
    (mp .nx))
    (mIf (mOr (mCmp dNe (.e (mCv 3 (f_sign n) [(.e (mVar 2)), (.e (mOp dMul (.e (mVar 3)) (.e (mVar 4)))), (.e (mVar 6))])) (.e (mOp dMul (.e (mVar 7)) (.e (mCv 3 (f_sign n) [(.e (mVar 2)), (.e (mVar 4)), (.e (mVar 6))]))))) (mAnd (mCmp dNe (.e (mVar 2)) (.e (mC (.int 1)))) (mCmp dNe (.e (mCv 3 (f_sign n) [(.e (mVar 2)), (.e (mOp dSub (.e (mC (.int 1))) (.e (mVar 2)))), (.e (mVar 6))])) (.e (mC (.int 1))))))
    (mRet (mC (.bl false)))
    (mp .nx)))))
def b__law_right_2 (n : Nat) : M Fl :=
  (mSq (mAsg (mTup (mCons (mCv 1 (f__law_big n) [(.n 0)]) (mCons (mCv 1 (f__law_big n) [(.n 0)]) mNil))) (gTupD 2 (gsCons (Fw.setV 2) (gsCons (Fw.setV 3) gsNil))))
    (mSq (mSet 4 (mOp dAdd (.e (mC (.int 1))) (.e (mCv 2 (f__law_fetch n) [(.n 0), (.e (mC (.int 900)))]))))
    (mSq (mSet 5 (mFr (mCF (op1 dSSetI) [(.e (mFr (mOpF dCat (.e (mFr (mOpF dCat (.e (mFr (mLst (mCons (mC (.int 0)) mNil)))) (.e (mFr (mCl 1 (f__law_primes_of n) [(.e (mVar 2))])))))) (.e (mFr (mCl 1 (f__law_primes_of n) [(.e (mVar 3))]))))))])))
    (mSq (mFor (mIt (mFr (mOpF dCat (.e (mVar 5)) (.e (mFr (mLst (mCons (mC (.int 3)) (mCons (mC (.int 5)) (mCons (mC (.int 97)) (mCons (mC (.int 10007)) mNil)))))))))) (Fw.setV 6)
    (b__law_right_1 n))
    (mSq (mSet 9 (mCB (op1 dTuple) [(.e (mFr (mLc (mIt (mVar 5)) [6] (Fw.setV 6) (mCmp dEq (.e (mCv 3 (f__law_symbol n) [(.e (mVar 2)), (.e (mVar 3)), (.e (mVar 6))])) (.e (mUn dNeg (.e (mC (.int 1)))))) (mVar 6))))]))
    (mIf (mOr (mCmp dNe (.e (mCB (op1 dRepr) [(.e (mFr (mLst (mCons (mCv 2 (f_odd_places n) [(.e (mVar 2)), (.e (mVar 3))]) (mCons (mCvP 2 (f_odd_places n) [1, 0] [(.e (mVar 3)), (.e (mVar 2))]) mNil)))))])) (.e (mCB (op1 dRepr) [(.e (mFr (mLst (mCons (mVar 9) (mCons (mVar 9) mNil)))))]))) (mCmp dNe (.e (mOp dMod (.e (mCB (op1 dInt) [(.e (mCB (op1 dLen) [(.e (mVar 9))]))])) (.e (mC (.int 2))))) (.e (mC (.int 0)))))
    (mRet (mC (.bl false)))
    (mp .nx)))))))
def m__law_right (n : Nat) : M Fl :=
  (mSq (mFor (mIA dR1 [(.e (mC (.int 3)))]) (Fw.setV 1)
    (b__law_right_2 n))
    (mSq (mSet 10 (mOp dPow (.e (mC (.int 10))) (.e (mC (.int 9)))))
    (mRet (mAndV (mOp dEq (.e (mCv 2 (f_odd_places n) [(.e (mC (.int 1))), (.e (mVar 2))])) (.e (mTup mNil))) (mAndV (mOp dEq (.e (mCv 3 (f_sign n) [(.e (mVar 10)), (.e (mUn dNeg (.e (mVar 10)))), (.e (mC (.int 0)))])) (.e (mC (.int 1)))) (mOp dEq (.e (mCv 3 (f_sign n) [(.e (mUn dNeg (.e (mC (.int 1))))), (.e (mUn dNeg (.e (mVar 10)))), (.e (mC (.int 0)))])) (.e (mUn dNeg (.e (mC (.int 1)))))))))))
def f__law_right (n : Nat) : Fn := mkFn 1 11 (m__law_right n)
def b__law_chest_1 (n : Nat) : M Fl :=
  (mSet 2 (mOp dMod (.e (mCB (op1 dInt) [(.e (mOp dAdd (.e (mOp dMul (.e (mVar 2)) (.e (mC (.int 31013))))) (.e (mVar 3))))])) (.e (mC (.int 2147479819)))))
def m__law_chest (n : Nat) : M Fl :=
  (mSq (mSet 2 (mOp dAdd (.e (mC (.int 39019))) (.e (mOp dMul (.e (mC (.int 8009))) (.e (mVar 1))))))
    (mSq (mFor (mIt (mFr (mSl (.e (mVar 0)) none (some (mC (.int 6))) dCutL))) (Fw.setV 3)
    (b__law_chest_1 n))
    (mSq (mSet 4 (mIf (mCmp dLt (.e (mVar 1)) (.e (mCB (op1 dLen) [(.e (mVar 0))]))) (mOp dIx (.e (mVar 0)) (.e (mVar 1))) (mOp dAdd (.e (mOp dMul (.e (mC (.int 67))) (.e (mVar 1)))) (.e (mC (.int 37))))))
    (mRetF (mLst (mCons (mIf (mCmp dGe (.e (mCB (op1 dAbs) [(.e (mVar 4))])) (.e (mOp dPow (.e (mC (.int 10))) (.e (mC (.int 17)))))) (mCB (op1 dAbs) [(.e (mVar 4))]) (mC (.int 0))) (mCons (mOp dMod (.e (mCB (op1 dInt) [(.e (mOp dAdd (.e (mOp dAdd (.e (mOp dMul (.e (mVar 2)) (.e (mC (.int 97))))) (.e (mOp dMul (.e (mVar 4)) (.e (mC (.int 59))))))) (.e (mC (.int 43)))))])) (.e (mC (.int 2147479819)))) (mCons (mC (.int 0)) mNil))))))))
def f__law_chest (n : Nat) : Fn := mkFn 2 5 (m__law_chest n)
def m_law (n : Nat) : M Fl :=
  (mRet (mCB (op1 dAll) [(.e (mFr (mLc (mIA dR1 [(.e (mCB (op2 dMax2) [(.e (mC (.int 2))), (.e (mCB (op2 dMin2) [(.e (mCB (op1 dLen) [(.e (mVar 0))])), (.e (mC (.int 3)))]))]))]) [1] (Fw.setV 1) (mp true) (mC1 (f__law_right n) (mCl 2 (f__law_chest n) [(.e (mVar 0)), (.e (mVar 1))])))))]))
def f_law (n : Nat) : Fn := mkFn 1 2 (m_law n)
end Fw
namespace Fw
open L2 PyProof.Rows PySem PySem.Spec
def gc (K : PySem.W.Frag) : GC := ⟨K, fun c => match c with
  | _ => 0, fun c => match c with
  | _ => [], none⟩
structure Tx (g : GC) (mg : Str → Option Value) : Prop where
  says : SaysX fas exs fns g.K
  ns : ∃ h, g.K.In h ∧ h.Ns mainGlobals mg
  gc : g = gc g.K
  sp : SaysP fas exs fns pns g.K
theorem Tx.ca {g : GC} {mg : Str → Option Value} (T : Tx g mg) : g.ca = (Fw.gc g.K).ca := congrArg GC.ca T.gc
theorem Tx.cf {g : GC} {mg : Str → Option Value} (T : Tx g mg) : g.cf = (Fw.gc g.K).cf := congrArg GC.cf T.gc
theorem Tx.glo {g : GC} {mg : Str → Option Value} (T : Tx g mg) (i : Nat) {x : Str} (h : fas[i]? = some (.glo x)) : mg x = some (.ref (He.fAd g.K (x, none))) := let ⟨_, X, G⟩ := T.ns; He.glo_ok X G (T.says.d.fact i h)
theorem Tx.g_divmod {g : GC} {mg : Str → Option Value} (T : Tx g mg) : mg "divmod" = none := let ⟨h, X, G⟩ := T.ns; He.free_ok X G (T.says.d.fact 23 rfl)
theorem Tx.g_int {g : GC} {mg : Str → Option Value} (T : Tx g mg) : mg "int" = none := let ⟨h, X, G⟩ := T.ns; He.free_ok X G (T.says.d.fact 24 rfl)
theorem Tx.g_len {g : GC} {mg : Str → Option Value} (T : Tx g mg) : mg "len" = none := let ⟨h, X, G⟩ := T.ns; He.free_ok X G (T.says.d.fact 25 rfl)
theorem Tx.g_min {g : GC} {mg : Str → Option Value} (T : Tx g mg) : mg "min" = none := let ⟨h, X, G⟩ := T.ns; He.free_ok X G (T.says.d.fact 26 rfl)
theorem Tx.g_range {g : GC} {mg : Str → Option Value} (T : Tx g mg) : mg "range" = none := let ⟨h, X, G⟩ := T.ns; He.free_ok X G (T.says.d.fact 27 rfl)
theorem Tx.g_isinstance {g : GC} {mg : Str → Option Value} (T : Tx g mg) : mg "isinstance" = none := let ⟨h, X, G⟩ := T.ns; He.free_ok X G (T.says.d.fact 28 rfl)
theorem Tx.g_bool {g : GC} {mg : Str → Option Value} (T : Tx g mg) : mg "bool" = none := let ⟨h, X, G⟩ := T.ns; He.free_ok X G (T.says.d.fact 29 rfl)
theorem Tx.g_MOST_SIGNED {g : GC} {mg : Str → Option Value} (T : Tx g mg) : ∃ t, mg "MOST_SIGNED" = some (.int 1000000000 t) := let ⟨h, X, G⟩ := T.ns; He.int_ok X G (T.says.d.fact 30 rfl)
theorem Tx.g_abs {g : GC} {mg : Str → Option Value} (T : Tx g mg) : mg "abs" = none := let ⟨h, X, G⟩ := T.ns; He.free_ok X G (T.says.d.fact 31 rfl)
theorem Tx.g_sorted {g : GC} {mg : Str → Option Value} (T : Tx g mg) : mg "sorted" = none := let ⟨h, X, G⟩ := T.ns; He.free_ok X G (T.says.d.fact 32 rfl)
theorem Tx.g_set {g : GC} {mg : Str → Option Value} (T : Tx g mg) : mg "set" = none := let ⟨h, X, G⟩ := T.ns; He.free_ok X G (T.says.d.fact 33 rfl)
theorem Tx.g_tuple {g : GC} {mg : Str → Option Value} (T : Tx g mg) : mg "tuple" = none := let ⟨h, X, G⟩ := T.ns; He.free_ok X G (T.says.d.fact 34 rfl)
theorem Tx.g_MOST_PLACE {g : GC} {mg : Str → Option Value} (T : Tx g mg) : ∃ t, mg "MOST_PLACE" = some (.int 1000000000000 t) := let ⟨h, X, G⟩ := T.ns; He.int_ok X G (T.says.d.fact 35 rfl)
theorem Tx.g_repr {g : GC} {mg : Str → Option Value} (T : Tx g mg) : mg "repr" = none := let ⟨h, X, G⟩ := T.ns; He.free_ok X G (T.says.d.fact 36 rfl)
theorem Tx.g_max {g : GC} {mg : Str → Option Value} (T : Tx g mg) : mg "max" = none := let ⟨h, X, G⟩ := T.ns; He.free_ok X G (T.says.d.fact 37 rfl)
theorem Tx.g_all {g : GC} {mg : Str → Option Value} (T : Tx g mg) : mg "all" = none := let ⟨h, X, G⟩ := T.ns; He.free_ok X G (T.says.d.fact 38 rfl)
section
variable {P : Program} {w : World} {mg : Str → Option Value} {base : Heap} {g : GC}
theorem K_kb_odd_places_other_number {K : PySem.W.Frag} : ∀ (fd : FuncData) (f : Addr) (nm q : Str) (body : List Stmt) (scope : Scope), FunD K nm q (defArgs (top 21)) body scope [] [] f fd → ∀ (s : Shared) (us : List Value), us.length = [1, 0].length → BindsTo s fd ⟨[], (["other", "number"] : List Str).zip us⟩ ((["number", "other"] : List Str).zip (permL [1, 0] us)) := by
  intro fd f nm q body scope F s us hl
  obtain ⟨oc, od, dV, kV, doc, pm, an, cdv, ct, osl, rfl, lk, hcd, hD, hK⟩ := F.ex
  rcases hD with ⟨_, rfl⟩ | ⟨e, _⟩
  · match us, hl with
    | [_, _], _ => exact .of_eq rfl
  · exact absurd rfl e
theorem K_kb_sign_place_other_number {K : PySem.W.Frag} : ∀ (fd : FuncData) (f : Addr) (nm q : Str) (body : List Stmt) (scope : Scope), FunD K nm q (defArgs (top 20)) body scope [] [] f fd → ∀ (s : Shared) (us : List Value), us.length = [2, 1, 0].length → BindsTo s fd ⟨[], (["place", "other", "number"] : List Str).zip us⟩ ((["number", "other", "place"] : List Str).zip (permL [2, 1, 0] us)) := by
  intro fd f nm q body scope F s us hl
  obtain ⟨oc, od, dV, kV, doc, pm, an, cdv, ct, osl, rfl, lk, hcd, hD, hK⟩ := F.ex
  rcases hD with ⟨_, rfl⟩ | ⟨e, _⟩
  · match us, hl with
    | [_, _, _], _ => exact .of_eq rfl
  · exact absurd rfl e
def N__law_fetch : List Str := ["_law_chest_here", "_law_most", "_law_figure", "_law_mixed"]
theorem sc__law_fetch : FnScope N__law_fetch ["_law_chest_here", "_law_most"] (defScope (top 24)) := ⟨rfl, rfl, rfl, by decide +kernel, rfl, by decide +kernel, by decide +kernel⟩
theorem ok__law_fetch (n : Nat) (T : Tx g mg) : Has P w g.K mg base 1 "_law_fetch" ["_law_chest_here", "_law_most"] (defArgs (top 24)) (spF g 2 (f__law_fetch n)) := by
  obtain ⟨fd, F⟩ := T.says.d.def_ 0 (d := dd "_law_fetch" 24) rfl
  have F : FunD g.K "_law_fetch" "_law_fetch" (defArgs (top 24)) (defBody (top 24)) (defScope (top 24)) [] [] (He.fAd g.K ("_law_fetch", none)) fd := F
  have nd := sc__law_fetch.nd
  refine ⟨_, fd, FnG.by (k := 0) F sc__law_fetch rfl rfl (by decide) (fun cdv A outer s H E hr gd => ?_), T.glo 0 rfl, F.kp, F.bindsN (fun _ _ _ _ _ _ us hl => match us, hl with | [_, _], _ => rfl), _, _, _, _, F⟩
  exact (cb_cons (cs_if (ct_cmp op_gt os_gt (co_e (c_ix rfl (co_n 0 (pv 0)) (co_e c_int) (fun _ _ => rfl))) (co_e c_int) (by first | exact nomark _ | rfl | with_unfolding_all rfl))
    (cb_cons (cs_asg (c_cb call_divmod ls_divmod (by rfl) T.g_divmod (by decide +kernel) (co_cons (co_e (c_ix rfl (co_n 0 (pv 0)) (co_e c_int) (fun _ _ => rfl))) (co_cons (co_e (c_var 1 (pv 1))) co_nil)) (by decide +kernel) (by decide +kernel)) (cg_tup (by rfl) rfl (cgs_cons (cg_st (W := fun cls d _ H => E cls d H) 0 (pv 0) c_int) (cgs_cons (cg_name 2 (pg_name (i := 2) nd rfl (by first | exact Or.inl rfl | exact Or.inr rfl))) cgs_nil))))
    (cb_one (cs_ret (c_var 2 (pv 2)))))
    cb_nil)
    (cb_cons (cs_asg (c_op or_add os_add (co_e (c_ix rfl (co_n 0 (pv 0)) (co_e c_int) (fun _ _ => rfl))) (co_e c_int)) (cg_st (W := fun cls d _ H => E cls d H) 0 (pv 0) c_int))
    (cb_cons (cs_set 3 (ps_set (i := 3) nd rfl (by first | exact Or.inl rfl | exact Or.inr rfl) (c_op op_modN os_mod (co_e (c_ct call_int1 ls_int (by rfl) T.g_int (by decide +kernel) (co_cons (co_e (c_op or_add os_add (co_e (c_op or_add os_add (co_e (c_op or_mul os_mul (co_e (c_ix rfl (co_n 0 (pv 0)) (co_e c_int) (fun _ _ => rfl))) (co_e c_int))) (co_e (c_op or_mul os_mul (co_e (c_op or_mul os_mul (co_e (c_ix rfl (co_n 0 (pv 0)) (co_e c_int) (fun _ _ => rfl))) (co_e (c_ix rfl (co_n 0 (pv 0)) (co_e c_int) (fun _ _ => rfl))))) (co_e c_int))))) (co_e c_int))) co_nil) (by decide +kernel) (by decide +kernel))) (co_e c_int))))
    (cb_cons (cs_asg (c_op op_modN os_mod (co_e (c_ct call_int1 ls_int (by rfl) T.g_int (by decide +kernel) (co_cons (co_e (c_op or_add os_add (co_e (c_op or_mul os_mul (co_e (c_var 3 (pv 3))) (co_e (c_op or_add os_add (co_e c_int) (co_e (c_op op_modN os_mod (co_e (c_ct call_int1 ls_int (by rfl) T.g_int (by decide +kernel) (co_cons (co_e (c_var 3 (pv 3))) co_nil) (by decide +kernel) (by decide +kernel))) (co_e c_int))))))) (co_e c_int))) co_nil) (by decide +kernel) (by decide +kernel))) (co_e c_int)) (cg_st (W := fun cls d _ H => E cls d H) 0 (pv 0) c_int))
    (cb_one (cs_ret (c_op op_modN os_mod (co_e (c_ct call_int1 ls_int (by rfl) T.g_int (by decide +kernel) (co_cons (co_e (c_op op_fdivG os_fdiv (co_e (c_ix rfl (co_n 0 (pv 0)) (co_e c_int) (fun _ _ => rfl))) (co_e c_int))) co_nil) (by decide +kernel) (by decide +kernel))) (co_e (c_var 1 (pv 1))))))))))
def N__law_choose : List Str := ["_law_chest_here", "_law_menu"]
theorem sc__law_choose : FnScope N__law_choose ["_law_chest_here", "_law_menu"] (defScope (top 25)) := ⟨rfl, rfl, rfl, by decide +kernel, rfl, by decide +kernel, by decide +kernel⟩
theorem ok__law_choose (n : Nat) (T : Tx g mg) (H__law_fetch : Has P w g.K mg base 1 "_law_fetch" ["_law_chest_here", "_law_most"] (defArgs (top 24)) (spF g 2 (f__law_fetch n))) : Has P w g.K mg base 2 "_law_choose" ["_law_chest_here", "_law_menu"] (defArgs (top 25)) (spF g 2 (f__law_choose n)) := by
  obtain ⟨fd, F⟩ := T.says.d.def_ 1 (d := dd "_law_choose" 25) rfl
  have F : FunD g.K "_law_choose" "_law_choose" (defArgs (top 25)) (defBody (top 25)) (defScope (top 25)) [] [] (He.fAd g.K ("_law_choose", none)) fd := F
  refine ⟨_, fd, FnG.by (k := 1) F sc__law_choose rfl rfl (by decide) (fun cdv A outer s H E hr gd => ?_), T.glo 1 rfl, F.kp, F.bindsN (fun _ _ _ _ _ _ us hl => match us, hl with | [_, _], _ => rfl), _, _, _, _, F⟩
  have tk : Takes (cxOf (L2.CX P w) P w g.K mg base N__law_choose "_law_choose" (defScope (top 25)) (He.fAd g.K ("_law_choose", none)) cdv A outer s H E) (fun cls d _ H => E cls d H) := takes_of rfl rfl rfl rfl
  exact (cb_one (cs_ret (c_ix rfl (co_e (c_var 1 (pv 1))) (co_e (c_call H__law_fetch (hr.mono (by decide)) gd (by rfl) tk (co_cons (co_n 0 (pv 0)) (co_cons (co_e (c_cb call_len ls_len (by rfl) T.g_len (by decide +kernel) (co_cons (co_e (c_var 1 (pv 1))) co_nil) (by decide +kernel) (by decide +kernel))) co_nil)) (by decide +kernel))) (fun _ _ => rfl))))
def N__law_big : List Str := ["_law_chest_here", "_law_small", "_law_rich_one", "_law_found"]
theorem sc__law_big : FnScope N__law_big ["_law_chest_here"] (defScope (top 30)) := ⟨rfl, rfl, rfl, by decide +kernel, rfl, by decide +kernel, by decide +kernel⟩
theorem ok__law_big (n : Nat) (T : Tx g mg) (H__law_choose : Has P w g.K mg base 2 "_law_choose" ["_law_chest_here", "_law_menu"] (defArgs (top 25)) (spF g 2 (f__law_choose n))) (H__law_fetch : Has P w g.K mg base 1 "_law_fetch" ["_law_chest_here", "_law_most"] (defArgs (top 24)) (spF g 2 (f__law_fetch n))) : Has P w g.K mg base 3 "_law_big" ["_law_chest_here"] (defArgs (top 30)) (spF g 1 (f__law_big n)) := by
  obtain ⟨fd, F⟩ := T.says.d.def_ 2 (d := dd "_law_big" 30) rfl
  have F : FunD g.K "_law_big" "_law_big" (defArgs (top 30)) (defBody (top 30)) (defScope (top 30)) [] [] (He.fAd g.K ("_law_big", none)) fd := F
  have nd := sc__law_big.nd
  refine ⟨_, fd, FnG.by (k := 2) F sc__law_big rfl rfl (by decide) (fun cdv A outer s H E hr gd => ?_), T.glo 2 rfl, F.kp, F.bindsN (fun _ _ _ _ _ _ us hl => match us, hl with | [_], _ => rfl), _, _, _, _, F⟩
  have tk : Takes (cxOf (L2.CX P w) P w g.K mg base N__law_big "_law_big" (defScope (top 30)) (He.fAd g.K ("_law_big", none)) cdv A outer s H E) (fun cls d _ H => E cls d H) := takes_of rfl rfl rfl rfl
  exact (cb_cons (cs_set 1 (ps_set (i := 1) nd rfl (by first | exact Or.inl rfl | exact Or.inr rfl) (c_op or_add os_add (co_e c_int) (co_e (c_call H__law_fetch (hr.mono (by decide)) gd (by rfl) tk (co_cons (co_n 0 (pv 0)) (co_cons (co_e c_int) co_nil)) (by decide +kernel))))))
    (cb_cons (cs_set 2 (ps_set (i := 2) nd rfl (by first | exact Or.inl rfl | exact Or.inr rfl) (c_op or_mul os_mul (co_e (c_call H__law_choose (hr.mono (by decide)) gd (by rfl) tk (co_cons (co_n 0 (pv 0)) (co_cons (co_e (c_fr (cf_lst (ca_cons c_int (ca_cons c_int (ca_cons c_int (ca_cons c_int (ca_cons c_int ca_nil)))))))) co_nil)) (by decide +kernel))) (co_e (c_call H__law_choose (hr.mono (by decide)) gd (by rfl) tk (co_cons (co_n 0 (pv 0)) (co_cons (co_e (c_fr (cf_lst (ca_cons c_int (ca_cons c_int (ca_cons c_int ca_nil)))))) co_nil)) (by decide +kernel))))))
    (cb_cons (cs_set 2 (ps_set (i := 2) nd rfl (by first | exact Or.inl rfl | exact Or.inr rfl) (c_op or_mul os_mul (co_e (c_var 2 (pv 2))) (co_e (c_call H__law_choose (hr.mono (by decide)) gd (by rfl) tk (co_cons (co_n 0 (pv 0)) (co_cons (co_e (c_fr (cf_lst (ca_cons c_int (ca_cons c_int (ca_cons c_int (ca_cons c_int (ca_cons c_int (ca_cons c_int ca_nil))))))))) co_nil)) (by decide +kernel))))))
    (cb_cons (cs_set 3 (ps_set (i := 3) nd rfl (by first | exact Or.inl rfl | exact Or.inr rfl) (c_call H__law_choose (hr.mono (by decide)) gd (by rfl) tk (co_cons (co_n 0 (pv 0)) (co_cons (co_e (c_fr (cf_lst (ca_cons (c_var 1 (pv 1)) (ca_cons (c_var 2 (pv 2)) (ca_cons (c_op or_mul os_mul (co_e (c_var 2 (pv 2))) (co_e (c_var 1 (pv 1)))) (ca_cons (c_op or_add os_add (co_e c_int) (co_e (c_call H__law_fetch (hr.mono (by decide)) gd (by rfl) tk (co_cons (co_n 0 (pv 0)) (co_cons (co_e (c_op op_pow os_pow (co_e c_int) (co_e c_int))) co_nil)) (by decide +kernel)))) (ca_cons (c_op op_pow os_pow (co_e c_int) (co_e c_int)) ca_nil)))))))) co_nil)) (by decide +kernel))))
    (cb_one (cs_ret (c_op or_mul os_mul (co_e (c_cb (call_min2 rfl) ls_min2 (by rfl) T.g_min (by decide +kernel) (co_cons (co_e (c_var 3 (pv 3))) (co_cons (co_e (c_op op_pow os_pow (co_e c_int) (co_e c_int))) co_nil)) (by decide +kernel) (by decide +kernel))) (co_e (c_call H__law_choose (hr.mono (by decide)) gd (by rfl) tk (co_cons (co_n 0 (pv 0)) (co_cons (co_e (c_fr (cf_lst (ca_cons c_int (ca_cons (c_un un_neg us_neg (co_e c_int)) ca_nil))))) co_nil)) (by decide +kernel))))))))))
def N__law_split : List Str := ["_law_n", "_law_p", "_law_often", "_law_left", "_law_turn"]
theorem sc__law_split : FnScope N__law_split ["_law_n", "_law_p"] (defScope (top 26)) := ⟨rfl, rfl, rfl, by decide +kernel, rfl, by decide +kernel, by decide +kernel⟩
theorem ok__law_split (n : Nat) (T : Tx g mg) : Has P w g.K mg base 1 "_law_split" ["_law_n", "_law_p"] (defArgs (top 26)) (spF g 2 (f__law_split n)) := by
  obtain ⟨fd, F⟩ := T.says.d.def_ 3 (d := dd "_law_split" 26) rfl
  have F : FunD g.K "_law_split" "_law_split" (defArgs (top 26)) (defBody (top 26)) (defScope (top 26)) [] [] (He.fAd g.K ("_law_split", none)) fd := F
  have nd := sc__law_split.nd
  refine ⟨_, fd, FnG.by (k := 0) F sc__law_split rfl rfl (by decide) (fun cdv A outer s H E hr gd => ?_), T.glo 3 rfl, F.kp, F.bindsN (fun _ _ _ _ _ _ us hl => match us, hl with | [_, _], _ => rfl), _, _, _, _, F⟩
  have po : PassesOwn (model P w) (A.deeper (envOfC "_law_split" (defScope (top 26)) s.heap.objs.size (He.fAd g.K ("_law_split", none)) cdv)) (envOfC "_law_split" (defScope (top 26)) s.heap.objs.size (He.fAd g.K ("_law_split", none)) cdv) (cxOf (L2.CX P w) P w g.K mg base N__law_split "_law_split" (defScope (top 26)) (He.fAd g.K ("_law_split", none)) cdv A outer s H E).xe := passes_of (X := cxOf (L2.CX P w) P w g.K mg base N__law_split "_law_split" (defScope (top 26)) (He.fAd g.K ("_law_split", none)) cdv A outer s H E) rfl
  exact (cb_cons (cs_par2 2 3 (ps_par (i := 2) (j := 3) (by rfl) nd rfl rfl (by decide) rfl rfl (ed_cons (ed_e c_int) (ed_cons (ed_e (c_var 0 (pv 0))) ed_nil)) (by rfl)))
    (cb_cons (cs_for po (by rfl) (ci_range1 (by rfl) T.g_range (co_cons (co_e c_int) co_nil)) (cg_name 4 (pg_name (i := 4) nd rfl (by first | exact Or.inl rfl | exact Or.inr rfl)))
    (cb_cons (cs_if (ct_cmp (or_ne (u64 hr)) os_ne (co_e (c_op op_modN os_mod (co_e (c_ct call_int1 ls_int (by rfl) T.g_int (by decide +kernel) (co_cons (co_e (c_var 3 (pv 3))) co_nil) (by decide +kernel) (by decide +kernel))) (co_e (c_var 1 (pv 1))))) (co_e c_int) (by first | exact nomark _ | rfl | with_unfolding_all rfl))
    (cb_one cs_break)
    cb_nil)
    (cb_one (cs_par2 2 3 (ps_par (i := 2) (j := 3) (by rfl) nd rfl rfl (by decide) rfl rfl (ed_cons (ed_e (c_op or_add os_add (co_e (c_var 2 (pv 2))) (co_e c_int))) (ed_cons (ed_e (c_op op_fdivG os_fdiv (co_e (c_var 3 (pv 3))) (co_e (c_var 1 (pv 1))))) ed_nil)) (by rfl))))))
    (cb_one (cs_ret (c_tup (ca_cons (c_var 2 (pv 2)) (ca_cons (c_var 3 (pv 3)) ca_nil)))))))
def N__law_rest_sign : List Str := ["_law_u", "_law_p", "_law_found", "_law_base", "_law_left", "_law_turn"]
theorem sc__law_rest_sign : FnScope N__law_rest_sign ["_law_u", "_law_p"] (defScope (top 27)) := ⟨rfl, rfl, rfl, by decide +kernel, rfl, by decide +kernel, by decide +kernel⟩
theorem ok__law_rest_sign (n : Nat) (T : Tx g mg) : Has P w g.K mg base 1 "_law_rest_sign" ["_law_u", "_law_p"] (defArgs (top 27)) (spF g 2 (f__law_rest_sign n)) := by
  obtain ⟨fd, F⟩ := T.says.d.def_ 4 (d := dd "_law_rest_sign" 27) rfl
  have F : FunD g.K "_law_rest_sign" "_law_rest_sign" (defArgs (top 27)) (defBody (top 27)) (defScope (top 27)) [] [] (He.fAd g.K ("_law_rest_sign", none)) fd := F
  have nd := sc__law_rest_sign.nd
  refine ⟨_, fd, FnG.by (k := 0) F sc__law_rest_sign rfl rfl (by decide) (fun cdv A outer s H E hr gd => ?_), T.glo 4 rfl, F.kp, F.bindsN (fun _ _ _ _ _ _ us hl => match us, hl with | [_, _], _ => rfl), _, _, _, _, F⟩
  have po : PassesOwn (model P w) (A.deeper (envOfC "_law_rest_sign" (defScope (top 27)) s.heap.objs.size (He.fAd g.K ("_law_rest_sign", none)) cdv)) (envOfC "_law_rest_sign" (defScope (top 27)) s.heap.objs.size (He.fAd g.K ("_law_rest_sign", none)) cdv) (cxOf (L2.CX P w) P w g.K mg base N__law_rest_sign "_law_rest_sign" (defScope (top 27)) (He.fAd g.K ("_law_rest_sign", none)) cdv A outer s H E).xe := passes_of (X := cxOf (L2.CX P w) P w g.K mg base N__law_rest_sign "_law_rest_sign" (defScope (top 27)) (He.fAd g.K ("_law_rest_sign", none)) cdv A outer s H E) rfl
  exact (cb_cons (cs_par3 2 3 4 (ps_par3 (i := 2) (j := 3) (l := 4) (by rfl) nd rfl rfl rfl (by decide) (by decide) (by decide) rfl rfl rfl (ed_cons (ed_e c_int) (ed_cons (ed_e (c_op op_modN os_mod (co_e (c_ct call_int1 ls_int (by rfl) T.g_int (by decide +kernel) (co_cons (co_e (c_var 0 (pv 0))) co_nil) (by decide +kernel) (by decide +kernel))) (co_e (c_var 1 (pv 1))))) (ed_cons (ed_e (c_op op_fdivG os_fdiv (co_e (c_op op_sub os_sub (co_e (c_var 1 (pv 1))) (co_e c_int))) (co_e c_int))) ed_nil))) (by rfl)))
    (cb_cons (cs_for po (by rfl) (ci_range1 (by rfl) T.g_range (co_cons (co_e c_int) co_nil)) (cg_name 5 (pg_name (i := 5) nd rfl (by first | exact Or.inl rfl | exact Or.inr rfl)))
    (cb_cons (cs_if (ct_cmp (or_eq (u64 hr)) os_eq (co_e (c_var 4 (pv 4))) (co_e c_int) (by first | exact nomark _ | rfl | with_unfolding_all rfl))
    (cb_one cs_break)
    cb_nil)
    (cb_cons (cs_if (ct_cmp (or_eq (u64 hr)) os_eq (co_e (c_op op_modN os_mod (co_e (c_ct call_int1 ls_int (by rfl) T.g_int (by decide +kernel) (co_cons (co_e (c_var 4 (pv 4))) co_nil) (by decide +kernel) (by decide +kernel))) (co_e c_int))) (co_e c_int) (by first | exact nomark _ | rfl | with_unfolding_all rfl))
    (cb_one (cs_set 2 (ps_set (i := 2) nd rfl (by first | exact Or.inl rfl | exact Or.inr rfl) (c_op op_modN os_mod (co_e (c_ct call_int1 ls_int (by rfl) T.g_int (by decide +kernel) (co_cons (co_e (c_op or_mul os_mul (co_e (c_var 2 (pv 2))) (co_e (c_var 3 (pv 3))))) co_nil) (by decide +kernel) (by decide +kernel))) (co_e (c_var 1 (pv 1)))))))
    cb_nil)
    (cb_one (cs_par2 3 4 (ps_par (i := 3) (j := 4) (by rfl) nd rfl rfl (by decide) rfl rfl (ed_cons (ed_e (c_op op_modN os_mod (co_e (c_ct call_int1 ls_int (by rfl) T.g_int (by decide +kernel) (co_cons (co_e (c_op or_mul os_mul (co_e (c_var 3 (pv 3))) (co_e (c_var 3 (pv 3))))) co_nil) (by decide +kernel) (by decide +kernel))) (co_e (c_var 1 (pv 1))))) (ed_cons (ed_e (c_op op_fdivG os_fdiv (co_e (c_var 4 (pv 4))) (co_e c_int))) ed_nil)) (by rfl)))))))
    (cb_one (cs_ret (c_if (ct_cmp (or_eq (u64 hr)) os_eq (co_e (c_var 2 (pv 2))) (co_e c_int) (by first | exact nomark _ | rfl | with_unfolding_all rfl)) c_int (c_un un_neg us_neg (co_e c_int)))))))
def N__law_symbol : List Str := ["_law_a", "_law_b", "_law_p", "_law_i", "_law_u", "_law_j", "_law_v", "_law_odd", "_law_found", "_law_often", "_law_left"]
theorem sc__law_symbol : FnScope N__law_symbol ["_law_a", "_law_b", "_law_p"] (defScope (top 28)) := ⟨rfl, rfl, rfl, by decide +kernel, rfl, by decide +kernel, by decide +kernel⟩
theorem ok__law_symbol (n : Nat) (T : Tx g mg) (H__law_split : Has P w g.K mg base 1 "_law_split" ["_law_n", "_law_p"] (defArgs (top 26)) (spF g 2 (f__law_split n))) (H__law_rest_sign : Has P w g.K mg base 1 "_law_rest_sign" ["_law_u", "_law_p"] (defArgs (top 27)) (spF g 2 (f__law_rest_sign n))) : Has P w g.K mg base 2 "_law_symbol" ["_law_a", "_law_b", "_law_p"] (defArgs (top 28)) (spF g 3 (f__law_symbol n)) := by
  obtain ⟨fd, F⟩ := T.says.d.def_ 5 (d := dd "_law_symbol" 28) rfl
  have F : FunD g.K "_law_symbol" "_law_symbol" (defArgs (top 28)) (defBody (top 28)) (defScope (top 28)) [] [] (He.fAd g.K ("_law_symbol", none)) fd := F
  have nd := sc__law_symbol.nd
  refine ⟨_, fd, FnG.by (k := 1) F sc__law_symbol rfl rfl (by decide) (fun cdv A outer s H E hr gd => ?_), T.glo 5 rfl, F.kp, F.bindsN (fun _ _ _ _ _ _ us hl => match us, hl with | [_, _, _], _ => rfl), _, _, _, _, F⟩
  have tk : Takes (cxOf (L2.CX P w) P w g.K mg base N__law_symbol "_law_symbol" (defScope (top 28)) (He.fAd g.K ("_law_symbol", none)) cdv A outer s H E) (fun cls d _ H => E cls d H) := takes_of rfl rfl rfl rfl
  have po : PassesOwn (model P w) (A.deeper (envOfC "_law_symbol" (defScope (top 28)) s.heap.objs.size (He.fAd g.K ("_law_symbol", none)) cdv)) (envOfC "_law_symbol" (defScope (top 28)) s.heap.objs.size (He.fAd g.K ("_law_symbol", none)) cdv) (cxOf (L2.CX P w) P w g.K mg base N__law_symbol "_law_symbol" (defScope (top 28)) (He.fAd g.K ("_law_symbol", none)) cdv A outer s H E).xe := passes_of (X := cxOf (L2.CX P w) P w g.K mg base N__law_symbol "_law_symbol" (defScope (top 28)) (He.fAd g.K ("_law_symbol", none)) cdv A outer s H E) rfl
  exact (cb_cons (cs_if (ct_cmp (or_eq (u64 hr)) os_eq (co_e (c_var 2 (pv 2))) (co_e c_int) (by first | exact nomark _ | rfl | with_unfolding_all rfl))
    (cb_one (cs_ret (c_if (ct_w (cw_and (ct_cmp op_lt os_lt (co_e (c_var 0 (pv 0))) (co_e c_int) (by first | exact nomark _ | rfl | with_unfolding_all rfl)) (cw_and1 (ct_cmp op_lt os_lt (co_e (c_var 1 (pv 1))) (co_e c_int) (by first | exact nomark _ | rfl | with_unfolding_all rfl))))) (c_un un_neg us_neg (co_e c_int)) c_int)))
    cb_nil)
    (cb_cons (cs_asg (c_call H__law_split (hr.mono (by decide)) gd (by rfl) tk (co_cons (co_e (c_var 0 (pv 0))) (co_cons (co_e (c_var 2 (pv 2))) co_nil)) (by decide +kernel)) (cg_tup (by rfl) rfl (cgs_cons (cg_name 3 (pg_name (i := 3) nd rfl (by first | exact Or.inl rfl | exact Or.inr rfl))) (cgs_cons (cg_name 4 (pg_name (i := 4) nd rfl (by first | exact Or.inl rfl | exact Or.inr rfl))) cgs_nil))))
    (cb_cons (cs_asg (c_call H__law_split (hr.mono (by decide)) gd (by rfl) tk (co_cons (co_e (c_var 1 (pv 1))) (co_cons (co_e (c_var 2 (pv 2))) co_nil)) (by decide +kernel)) (cg_tup (by rfl) rfl (cgs_cons (cg_name 5 (pg_name (i := 5) nd rfl (by first | exact Or.inl rfl | exact Or.inr rfl))) (cgs_cons (cg_name 6 (pg_name (i := 6) nd rfl (by first | exact Or.inl rfl | exact Or.inr rfl))) cgs_nil))))
    (cb_cons (cs_if (ct_cmp (or_eq (u64 hr)) os_eq (co_e (c_var 2 (pv 2))) (co_e c_int) (by first | exact nomark _ | rfl | with_unfolding_all rfl))
    (cb_cons (cs_set 7 (ps_set (i := 7) nd rfl (by first | exact Or.inl rfl | exact Or.inr rfl) (c_op or_mul os_mul (co_e (c_op op_fdivG os_fdiv (co_e (c_op op_sub os_sub (co_e (c_var 4 (pv 4))) (co_e c_int))) (co_e c_int))) (co_e (c_op op_fdivG os_fdiv (co_e (c_op op_sub os_sub (co_e (c_var 6 (pv 6))) (co_e c_int))) (co_e c_int))))))
    (cb_cons (cs_set 7 (ps_set (i := 7) nd rfl (by first | exact Or.inl rfl | exact Or.inr rfl) (c_op or_add os_add (co_e (c_op or_add os_add (co_e (c_var 7 (pv 7))) (co_e (c_op or_mul os_mul (co_e (c_var 3 (pv 3))) (co_e (c_op op_fdivG os_fdiv (co_e (c_op op_sub os_sub (co_e (c_op or_mul os_mul (co_e (c_var 6 (pv 6))) (co_e (c_var 6 (pv 6))))) (co_e c_int))) (co_e c_int))))))) (co_e (c_op or_mul os_mul (co_e (c_var 5 (pv 5))) (co_e (c_op op_fdivG os_fdiv (co_e (c_op op_sub os_sub (co_e (c_op or_mul os_mul (co_e (c_var 4 (pv 4))) (co_e (c_var 4 (pv 4))))) (co_e c_int))) (co_e c_int))))))))
    (cb_one (cs_ret (c_if (ct_cmp (or_eq (u64 hr)) os_eq (co_e (c_op op_modN os_mod (co_e (c_ct call_int1 ls_int (by rfl) T.g_int (by decide +kernel) (co_cons (co_e (c_var 7 (pv 7))) co_nil) (by decide +kernel) (by decide +kernel))) (co_e c_int))) (co_e c_int) (by first | exact nomark _ | rfl | with_unfolding_all rfl)) c_int (c_un un_neg us_neg (co_e c_int)))))))
    cb_nil)
    (cb_cons (cs_set 8 (ps_set (i := 8) nd rfl (by first | exact Or.inl rfl | exact Or.inr rfl) c_int))
    (cb_cons (cs_for po (by rfl) (ci_any rfl (c_fr (cf_lst (ca_cons (c_tup (ca_cons (c_op or_mul os_mul (co_e (c_var 3 (pv 3))) (co_e (c_var 5 (pv 5)))) (ca_cons (c_un un_neg us_neg (co_e c_int)) ca_nil))) (ca_cons (c_tup (ca_cons (c_var 5 (pv 5)) (ca_cons (c_var 4 (pv 4)) ca_nil))) (ca_cons (c_tup (ca_cons (c_var 3 (pv 3)) (ca_cons (c_var 6 (pv 6)) ca_nil))) ca_nil)))))) (cg_tup (by rfl) rfl (cgs_cons (cg_name 9 (pg_name (i := 9) nd rfl (by first | exact Or.inl rfl | exact Or.inr rfl))) (cgs_cons (cg_name 10 (pg_name (i := 10) nd rfl (by first | exact Or.inl rfl | exact Or.inr rfl))) cgs_nil)))
    (cb_one (cs_if (ct_cmp (or_eq (u64 hr)) os_eq (co_e (c_op op_modN os_mod (co_e (c_ct call_int1 ls_int (by rfl) T.g_int (by decide +kernel) (co_cons (co_e (c_var 9 (pv 9))) co_nil) (by decide +kernel) (by decide +kernel))) (co_e c_int))) (co_e c_int) (by first | exact nomark _ | rfl | with_unfolding_all rfl))
    (cb_one (cs_set 8 (ps_set (i := 8) nd rfl (by first | exact Or.inl rfl | exact Or.inr rfl) (c_op or_mul os_mul (co_e (c_var 8 (pv 8))) (co_e (c_call H__law_rest_sign (hr.mono (by decide)) gd (by rfl) tk (co_cons (co_e (c_var 10 (pv 10))) (co_cons (co_e (c_var 2 (pv 2))) co_nil)) (by decide +kernel)))))))
    cb_nil)))
    (cb_one (cs_ret (c_var 8 (pv 8))))))))))
def N_is_integer : List Str := ["value"]
theorem sc_is_integer : FnScope N_is_integer ["value"] (defScope (top 5)) := ⟨rfl, rfl, rfl, by decide +kernel, rfl, by decide +kernel, by decide +kernel⟩
theorem ok_is_integer (n : Nat) (T : Tx g mg) : Has P w g.K mg base 1 "is_integer" ["value"] (defArgs (top 5)) (spF g 1 (f_is_integer n)) := by
  obtain ⟨fd, F⟩ := T.says.d.def_ 6 (d := dd "is_integer" 5) rfl
  have F : FunD g.K "is_integer" "is_integer" (defArgs (top 5)) (defBody (top 5)) (defScope (top 5)) [] [] (He.fAd g.K ("is_integer", none)) fd := F
  refine ⟨_, fd, FnG.by (k := 0) F sc_is_integer rfl rfl (by decide) (fun cdv A outer s H E hr gd => ?_), T.glo 6 rfl, F.kp, F.bindsN (fun _ _ _ _ _ _ us hl => match us, hl with | [_], _ => rfl), _, _, _, _, F⟩
  exact (cb_one (cs_ret (c_and rfl (c_cb call_isi ls_isi (by rfl) T.g_isinstance (by decide +kernel) (co_cons (co_e (c_var 0 (pv 0))) (co_cons (co_e (c_gty (by rfl) T.g_int (by decide +kernel))) co_nil)) (by decide +kernel) (by decide +kernel)) (c_one (c_not rfl (co_e (c_cb call_isi ls_isi (by rfl) T.g_isinstance (by decide +kernel) (co_cons (co_e (c_var 0 (pv 0))) (co_cons (co_e (c_gty (by rfl) T.g_bool (by decide +kernel))) co_nil)) (by decide +kernel) (by decide +kernel))))))))
def N_is_between : List Str := ["value", "low", "high"]
theorem sc_is_between : FnScope N_is_between ["value", "low", "high"] (defScope (top 6)) := ⟨rfl, rfl, rfl, by decide +kernel, rfl, by decide +kernel, by decide +kernel⟩
theorem ok_is_between (n : Nat) (T : Tx g mg) (H_is_integer : Has P w g.K mg base 1 "is_integer" ["value"] (defArgs (top 5)) (spF g 1 (f_is_integer n))) : Has P w g.K mg base 2 "is_between" ["value", "low", "high"] (defArgs (top 6)) (spF g 3 (f_is_between n)) := by
  obtain ⟨fd, F⟩ := T.says.d.def_ 7 (d := dd "is_between" 6) rfl
  have F : FunD g.K "is_between" "is_between" (defArgs (top 6)) (defBody (top 6)) (defScope (top 6)) [] [] (He.fAd g.K ("is_between", none)) fd := F
  refine ⟨_, fd, FnG.by (k := 1) F sc_is_between rfl rfl (by decide) (fun cdv A outer s H E hr gd => ?_), T.glo 7 rfl, F.kp, F.bindsN (fun _ _ _ _ _ _ us hl => match us, hl with | [_, _, _], _ => rfl), _, _, _, _, F⟩
  have tk : Takes (cxOf (L2.CX P w) P w g.K mg base N_is_between "is_between" (defScope (top 6)) (He.fAd g.K ("is_between", none)) cdv A outer s H E) (fun cls d _ H => E cls d H) := takes_of rfl rfl rfl rfl
  exact (cb_one (cs_ret (c_and rfl (c_call H_is_integer (hr.mono (by decide)) gd (by rfl) tk (co_cons (co_e (c_var 0 (pv 0))) co_nil) (by decide +kernel)) (c_one (c_chain op_le op_le os_le os_le (co_e (c_var 1 (pv 1))) (co_e (c_var 0 (pv 0))) (co_e (c_var 2 (pv 2))) (by with_unfolding_all rfl) flatI)))))
def N_check_signed : List Str := ["value"]
theorem sc_check_signed : FnScope N_check_signed ["value"] (defScope (top 17)) := ⟨rfl, rfl, rfl, by decide +kernel, rfl, by decide +kernel, by decide +kernel⟩
theorem ok_check_signed (n : Nat) (T : Tx g mg) (H_is_between : Has P w g.K mg base 2 "is_between" ["value", "low", "high"] (defArgs (top 6)) (spF g 3 (f_is_between n))) : Has P w g.K mg base 3 "check_signed" ["value"] (defArgs (top 17)) (spF g 1 (f_check_signed n)) := by
  obtain ⟨fd, F⟩ := T.says.d.def_ 8 (d := dd "check_signed" 17) rfl
  have F : FunD g.K "check_signed" "check_signed" (defArgs (top 17)) (defBody (top 17)) (defScope (top 17)) [] [] (He.fAd g.K ("check_signed", none)) fd := F
  refine ⟨_, fd, FnG.by (k := 2) F sc_check_signed rfl rfl (by decide) (fun cdv A outer s H E hr gd => ?_), T.glo 8 rfl, F.kp, F.bindsN (fun _ _ _ _ _ _ us hl => match us, hl with | [_], _ => rfl), _, _, _, _, F⟩
  have tk : Takes (cxOf (L2.CX P w) P w g.K mg base N_check_signed "check_signed" (defScope (top 17)) (He.fAd g.K ("check_signed", none)) cdv A outer s H E) (fun cls d _ H => E cls d H) := takes_of rfl rfl rfl rfl
  exact (cb_one (cs_if (ct_w (cw_or (ct_not (ct_tru (co_e (c_call H_is_between (hr.mono (by decide)) gd (by rfl) tk (co_cons (co_e (c_var 0 (pv 0))) (co_cons (co_e (c_un un_neg us_neg (co_e (c_gint (by rfl) T.g_MOST_SIGNED)))) (co_cons (co_e (c_gint (by rfl) T.g_MOST_SIGNED)) co_nil))) (by decide +kernel))) rfl (by intro _; rfl))) (cw_or1 (ct_cmp (or_eq (u64 hr)) os_eq (co_e (c_var 0 (pv 0))) (co_e c_int) (by first | exact nomark _ | rfl | with_unfolding_all rfl)))))
    (cb_one cs_bad)
    cb_nil))
def N_prime_divisors : List Str := ["value", "found", "left", "step"]
theorem sc_prime_divisors : FnScope N_prime_divisors ["value"] (defScope (top 10)) := ⟨rfl, rfl, rfl, by decide +kernel, rfl, by decide +kernel, by decide +kernel⟩
theorem ok_prime_divisors (n : Nat) (T : Tx g mg) : Has P w g.K mg base 1 "prime_divisors" ["value"] (defArgs (top 10)) (spF g 1 (f_prime_divisors n)) := by
  obtain ⟨fd, F⟩ := T.says.d.def_ 9 (d := dd "prime_divisors" 10) rfl
  have F : FunD g.K "prime_divisors" "prime_divisors" (defArgs (top 10)) (defBody (top 10)) (defScope (top 10)) [] [] (He.fAd g.K ("prime_divisors", none)) fd := F
  have nd := sc_prime_divisors.nd
  refine ⟨_, fd, FnG.by (k := 0) F sc_prime_divisors rfl rfl (by decide) (fun cdv A outer s H E hr gd => ?_), T.glo 9 rfl, F.kp, F.bindsN (fun _ _ _ _ _ _ us hl => match us, hl with | [_], _ => rfl), _, _, _, _, F⟩
  have po : PassesOwn (model P w) (A.deeper (envOfC "prime_divisors" (defScope (top 10)) s.heap.objs.size (He.fAd g.K ("prime_divisors", none)) cdv)) (envOfC "prime_divisors" (defScope (top 10)) s.heap.objs.size (He.fAd g.K ("prime_divisors", none)) cdv) (cxOf (L2.CX P w) P w g.K mg base N_prime_divisors "prime_divisors" (defScope (top 10)) (He.fAd g.K ("prime_divisors", none)) cdv A outer s H E).xe := passes_of (X := cxOf (L2.CX P w) P w g.K mg base N_prime_divisors "prime_divisors" (defScope (top 10)) (He.fAd g.K ("prime_divisors", none)) cdv A outer s H E) rfl
  exact (cb_cons (cs_par3 1 2 3 (ps_par3 (i := 1) (j := 2) (l := 3) (by rfl) nd rfl rfl rfl (by decide) (by decide) (by decide) rfl rfl rfl (ed_cons (ed_f (cf_lst ca_nil)) (ed_cons (ed_e (c_cb call_abs ls_abs (by rfl) T.g_abs (by decide +kernel) (co_cons (co_e (c_var 0 (pv 0))) co_nil) (by decide +kernel) (by decide +kernel))) (ed_cons (ed_e c_int) ed_nil))) (by rfl)))
    (cb_cons (cs_while n po (ct_cmp op_le os_le (co_e (c_op or_mul os_mul (co_e (c_var 3 (pv 3))) (co_e (c_var 3 (pv 3))))) (co_e (c_var 2 (pv 2))) (by first | exact nomark _ | rfl | with_unfolding_all rfl))
    (cb_cons (cs_if (ct_cmp (or_eq (u64 hr)) os_eq (co_e (c_op op_modN os_mod (co_e (c_var 2 (pv 2))) (co_e (c_var 3 (pv 3))))) (co_e c_int) (by first | exact nomark _ | rfl | with_unfolding_all rfl))
    (cb_cons (cs_expr (c_app 1 rfl (pe_bm PySem.F.plainAttrs_list PySem.F.slot_list_append PySem.F.type_list_append mt_append (pv 1) (pa_cons (c_var 3 (pv 3)) pa_nil))))
    (cb_one (cs_while n po (ct_cmp (or_eq (u64 hr)) os_eq (co_e (c_op op_modN os_mod (co_e (c_var 2 (pv 2))) (co_e (c_var 3 (pv 3))))) (co_e c_int) (by first | exact nomark _ | rfl | with_unfolding_all rfl))
    (cb_one (cs_set 2 (ps_set (i := 2) nd rfl (by first | exact Or.inl rfl | exact Or.inr rfl) (c_op op_fdivG os_fdiv (co_e (c_var 2 (pv 2))) (co_e (c_var 3 (pv 3))))))))))
    cb_nil)
    (cb_one (cs_aug 3 os_iadd (ps_aug (i := 3) nd rfl (by first | exact Or.inl rfl | exact Or.inr rfl) c_int ip_add)))))
    (cb_one (cs_retF (cf_op op_cat fs_cat (co_n 1 (pv 1)) (co_e (c_fr (cf_if (ct_cmp op_gt os_gt (co_e (c_var 2 (pv 2))) (co_e c_int) (by first | exact nomark _ | rfl | with_unfolding_all rfl)) (cf_lst (ca_cons (c_var 2 (pv 2)) ca_nil)) (cf_lst ca_nil)))))))))
def N_places_for : List Str := ["number"]
theorem sc_places_for : FnScope N_places_for ["number"] (defScope (top 19)) := ⟨rfl, rfl, rfl, by decide +kernel, rfl, by decide +kernel, by decide +kernel⟩
theorem ok_places_for (n : Nat) (T : Tx g mg) (H_prime_divisors : Has P w g.K mg base 1 "prime_divisors" ["value"] (defArgs (top 10)) (spF g 1 (f_prime_divisors n))) : Has P w g.K mg base 2 "places_for" ["number"] (defArgs (top 19)) (spF g 1 (f_places_for n)) := by
  obtain ⟨fd, F⟩ := T.says.d.def_ 10 (d := dd "places_for" 19) rfl
  have F : FunD g.K "places_for" "places_for" (defArgs (top 19)) (defBody (top 19)) (defScope (top 19)) [] [] (He.fAd g.K ("places_for", none)) fd := F
  refine ⟨_, fd, FnG.by (k := 1) F sc_places_for rfl rfl (by decide) (fun cdv A outer s H E hr gd => ?_), T.glo 10 rfl, F.kp, F.bindsN (fun _ _ _ _ _ _ us hl => match us, hl with | [_], _ => rfl), _, _, _, _, F⟩
  have tk : Takes (cxOf (L2.CX P w) P w g.K mg base N_places_for "places_for" (defScope (top 19)) (He.fAd g.K ("places_for", none)) cdv A outer s H E) (fun cls d _ H => E cls d H) := takes_of rfl rfl rfl rfl
  exact (cb_one (cs_retF (cf_lst (ca_cons c_int (ca_star rfl (c_fr (cf_call H_prime_divisors (hr.mono (by decide)) gd (by rfl) tk (co_cons (co_e (c_op or_mul os_mul (co_e c_int) (co_e (c_var 0 (pv 0))))) co_nil) (by decide +kernel))) ca_nil)))))
def N_parted : List Str := ["value", "prime", "found"]
theorem sc_parted : FnScope N_parted ["value", "prime"] (defScope (top 12)) := ⟨rfl, rfl, rfl, by decide +kernel, rfl, by decide +kernel, by decide +kernel⟩
theorem ok_parted (n : Nat) (T : Tx g mg) : Has P w g.K mg base 1 "parted" ["value", "prime"] (defArgs (top 12)) (spF g 2 (f_parted n)) := by
  obtain ⟨fd, F⟩ := T.says.d.def_ 11 (d := dd "parted" 12) rfl
  have F : FunD g.K "parted" "parted" (defArgs (top 12)) (defBody (top 12)) (defScope (top 12)) [] [] (He.fAd g.K ("parted", none)) fd := F
  have nd := sc_parted.nd
  refine ⟨_, fd, FnG.by (k := 0) F sc_parted rfl rfl (by decide) (fun cdv A outer s H E hr gd => ?_), T.glo 11 rfl, F.kp, F.bindsN (fun _ _ _ _ _ _ us hl => match us, hl with | [_, _], _ => rfl), _, _, _, _, F⟩
  have po : PassesOwn (model P w) (A.deeper (envOfC "parted" (defScope (top 12)) s.heap.objs.size (He.fAd g.K ("parted", none)) cdv)) (envOfC "parted" (defScope (top 12)) s.heap.objs.size (He.fAd g.K ("parted", none)) cdv) (cxOf (L2.CX P w) P w g.K mg base N_parted "parted" (defScope (top 12)) (He.fAd g.K ("parted", none)) cdv A outer s H E).xe := passes_of (X := cxOf (L2.CX P w) P w g.K mg base N_parted "parted" (defScope (top 12)) (He.fAd g.K ("parted", none)) cdv A outer s H E) rfl
  exact (cb_cons (cs_set 2 (ps_set (i := 2) nd rfl (by first | exact Or.inl rfl | exact Or.inr rfl) c_int))
    (cb_cons (cs_while n po (ct_cmp (or_eq (u64 hr)) os_eq (co_e (c_op op_modN os_mod (co_e (c_var 0 (pv 0))) (co_e (c_var 1 (pv 1))))) (co_e c_int) (by first | exact nomark _ | rfl | with_unfolding_all rfl))
    (cb_one (cs_par2 0 2 (ps_par (i := 0) (j := 2) (by rfl) nd rfl rfl (by decide) rfl rfl (ed_cons (ed_e (c_op op_fdivG os_fdiv (co_e (c_var 0 (pv 0))) (co_e (c_var 1 (pv 1))))) (ed_cons (ed_e (c_op or_add os_add (co_e (c_var 2 (pv 2))) (co_e c_int))) ed_nil)) (by rfl)))))
    (cb_one (cs_ret (c_tup (ca_cons (c_var 2 (pv 2)) (ca_cons (c_var 0 (pv 0)) ca_nil)))))))
def N_residue_sign : List Str := ["value", "prime", "found", "base", "power"]
theorem sc_residue_sign : FnScope N_residue_sign ["value", "prime"] (defScope (top 13)) := ⟨rfl, rfl, rfl, by decide +kernel, rfl, by decide +kernel, by decide +kernel⟩
theorem ok_residue_sign (n : Nat) (T : Tx g mg) : Has P w g.K mg base 1 "residue_sign" ["value", "prime"] (defArgs (top 13)) (spF g 2 (f_residue_sign n)) := by
  obtain ⟨fd, F⟩ := T.says.d.def_ 12 (d := dd "residue_sign" 13) rfl
  have F : FunD g.K "residue_sign" "residue_sign" (defArgs (top 13)) (defBody (top 13)) (defScope (top 13)) [] [] (He.fAd g.K ("residue_sign", none)) fd := F
  have nd := sc_residue_sign.nd
  refine ⟨_, fd, FnG.by (k := 0) F sc_residue_sign rfl rfl (by decide) (fun cdv A outer s H E hr gd => ?_), T.glo 12 rfl, F.kp, F.bindsN (fun _ _ _ _ _ _ us hl => match us, hl with | [_, _], _ => rfl), _, _, _, _, F⟩
  have po : PassesOwn (model P w) (A.deeper (envOfC "residue_sign" (defScope (top 13)) s.heap.objs.size (He.fAd g.K ("residue_sign", none)) cdv)) (envOfC "residue_sign" (defScope (top 13)) s.heap.objs.size (He.fAd g.K ("residue_sign", none)) cdv) (cxOf (L2.CX P w) P w g.K mg base N_residue_sign "residue_sign" (defScope (top 13)) (He.fAd g.K ("residue_sign", none)) cdv A outer s H E).xe := passes_of (X := cxOf (L2.CX P w) P w g.K mg base N_residue_sign "residue_sign" (defScope (top 13)) (He.fAd g.K ("residue_sign", none)) cdv A outer s H E) rfl
  exact (cb_cons (cs_par3 2 3 4 (ps_par3 (i := 2) (j := 3) (l := 4) (by rfl) nd rfl rfl rfl (by decide) (by decide) (by decide) rfl rfl rfl (ed_cons (ed_e c_int) (ed_cons (ed_e (c_op op_modN os_mod (co_e (c_var 0 (pv 0))) (co_e (c_var 1 (pv 1))))) (ed_cons (ed_e (c_op op_fdivG os_fdiv (co_e (c_op op_sub os_sub (co_e (c_var 1 (pv 1))) (co_e c_int))) (co_e c_int))) ed_nil))) (by rfl)))
    (cb_cons (cs_while n po (ct_cmp op_gt os_gt (co_e (c_var 4 (pv 4))) (co_e c_int) (by first | exact nomark _ | rfl | with_unfolding_all rfl))
    (cb_cons (cs_if (ct_cmp (or_eq (u64 hr)) os_eq (co_e (c_op op_modN os_mod (co_e (c_var 4 (pv 4))) (co_e c_int))) (co_e c_int) (by first | exact nomark _ | rfl | with_unfolding_all rfl))
    (cb_one (cs_set 2 (ps_set (i := 2) nd rfl (by first | exact Or.inl rfl | exact Or.inr rfl) (c_op op_modN os_mod (co_e (c_op or_mul os_mul (co_e (c_var 2 (pv 2))) (co_e (c_var 3 (pv 3))))) (co_e (c_var 1 (pv 1)))))))
    cb_nil)
    (cb_one (cs_par2 3 4 (ps_par (i := 3) (j := 4) (by rfl) nd rfl rfl (by decide) rfl rfl (ed_cons (ed_e (c_op op_modN os_mod (co_e (c_op or_mul os_mul (co_e (c_var 3 (pv 3))) (co_e (c_var 3 (pv 3))))) (co_e (c_var 1 (pv 1))))) (ed_cons (ed_e (c_op op_fdivG os_fdiv (co_e (c_var 4 (pv 4))) (co_e c_int))) ed_nil)) (by rfl))))))
    (cb_one (cs_ret (c_if (ct_cmp (or_eq (u64 hr)) os_eq (co_e (c_var 2 (pv 2))) (co_e c_int) (by first | exact nomark _ | rfl | with_unfolding_all rfl)) c_int (c_un un_neg us_neg (co_e c_int)))))))
def N_sign_at : List Str := ["one", "other", "place", "often", "left", "many", "rest", "odd", "found"]
theorem sc_sign_at : FnScope N_sign_at ["one", "other", "place"] (defScope (top 18)) := ⟨rfl, rfl, rfl, by decide +kernel, rfl, by decide +kernel, by decide +kernel⟩
theorem ok_sign_at (n : Nat) (T : Tx g mg) (H_parted : Has P w g.K mg base 1 "parted" ["value", "prime"] (defArgs (top 12)) (spF g 2 (f_parted n))) (H_residue_sign : Has P w g.K mg base 1 "residue_sign" ["value", "prime"] (defArgs (top 13)) (spF g 2 (f_residue_sign n))) : Has P w g.K mg base 2 "sign_at" ["one", "other", "place"] (defArgs (top 18)) (spF g 3 (f_sign_at n)) := by
  obtain ⟨fd, F⟩ := T.says.d.def_ 13 (d := dd "sign_at" 18) rfl
  have F : FunD g.K "sign_at" "sign_at" (defArgs (top 18)) (defBody (top 18)) (defScope (top 18)) [] [] (He.fAd g.K ("sign_at", none)) fd := F
  have nd := sc_sign_at.nd
  refine ⟨_, fd, FnG.by (k := 1) F sc_sign_at rfl rfl (by decide) (fun cdv A outer s H E hr gd => ?_), T.glo 13 rfl, F.kp, F.bindsN (fun _ _ _ _ _ _ us hl => match us, hl with | [_, _, _], _ => rfl), _, _, _, _, F⟩
  have tk : Takes (cxOf (L2.CX P w) P w g.K mg base N_sign_at "sign_at" (defScope (top 18)) (He.fAd g.K ("sign_at", none)) cdv A outer s H E) (fun cls d _ H => E cls d H) := takes_of rfl rfl rfl rfl
  exact (cb_cons (cs_if (ct_cmp (or_eq (u64 hr)) os_eq (co_e (c_var 2 (pv 2))) (co_e c_int) (by first | exact nomark _ | rfl | with_unfolding_all rfl))
    (cb_one (cs_ret (c_if (ct_w (cw_and (ct_cmp op_lt os_lt (co_e (c_var 0 (pv 0))) (co_e c_int) (by first | exact nomark _ | rfl | with_unfolding_all rfl)) (cw_and1 (ct_cmp op_lt os_lt (co_e (c_var 1 (pv 1))) (co_e c_int) (by first | exact nomark _ | rfl | with_unfolding_all rfl))))) (c_un un_neg us_neg (co_e c_int)) c_int)))
    cb_nil)
    (cb_cons (cs_asg (c_call H_parted (hr.mono (by decide)) gd (by rfl) tk (co_cons (co_e (c_var 0 (pv 0))) (co_cons (co_e (c_var 2 (pv 2))) co_nil)) (by decide +kernel)) (cg_tup (by rfl) rfl (cgs_cons (cg_name 3 (pg_name (i := 3) nd rfl (by first | exact Or.inl rfl | exact Or.inr rfl))) (cgs_cons (cg_name 4 (pg_name (i := 4) nd rfl (by first | exact Or.inl rfl | exact Or.inr rfl))) cgs_nil))))
    (cb_cons (cs_asg (c_call H_parted (hr.mono (by decide)) gd (by rfl) tk (co_cons (co_e (c_var 1 (pv 1))) (co_cons (co_e (c_var 2 (pv 2))) co_nil)) (by decide +kernel)) (cg_tup (by rfl) rfl (cgs_cons (cg_name 5 (pg_name (i := 5) nd rfl (by first | exact Or.inl rfl | exact Or.inr rfl))) (cgs_cons (cg_name 6 (pg_name (i := 6) nd rfl (by first | exact Or.inl rfl | exact Or.inr rfl))) cgs_nil))))
    (cb_cons (cs_if (ct_cmp (or_eq (u64 hr)) os_eq (co_e (c_var 2 (pv 2))) (co_e c_int) (by first | exact nomark _ | rfl | with_unfolding_all rfl))
    (cb_cons (cs_set 7 (ps_set (i := 7) nd rfl (by first | exact Or.inl rfl | exact Or.inr rfl) (c_op or_add os_add (co_e (c_op or_add os_add (co_e (c_op or_mul os_mul (co_e (c_op op_fdivG os_fdiv (co_e (c_op op_sub os_sub (co_e (c_var 4 (pv 4))) (co_e c_int))) (co_e c_int))) (co_e (c_op op_fdivG os_fdiv (co_e (c_op op_sub os_sub (co_e (c_var 6 (pv 6))) (co_e c_int))) (co_e c_int))))) (co_e (c_op or_mul os_mul (co_e (c_var 3 (pv 3))) (co_e (c_op op_fdivG os_fdiv (co_e (c_op op_sub os_sub (co_e (c_op or_mul os_mul (co_e (c_var 6 (pv 6))) (co_e (c_var 6 (pv 6))))) (co_e c_int))) (co_e c_int))))))) (co_e (c_op or_mul os_mul (co_e (c_var 5 (pv 5))) (co_e (c_op op_fdivG os_fdiv (co_e (c_op op_sub os_sub (co_e (c_op or_mul os_mul (co_e (c_var 4 (pv 4))) (co_e (c_var 4 (pv 4))))) (co_e c_int))) (co_e c_int))))))))
    (cb_one (cs_ret (c_if (ct_cmp (or_eq (u64 hr)) os_eq (co_e (c_op op_modN os_mod (co_e (c_var 7 (pv 7))) (co_e c_int))) (co_e c_int) (by first | exact nomark _ | rfl | with_unfolding_all rfl)) c_int (c_un un_neg us_neg (co_e c_int))))))
    cb_nil)
    (cb_cons (cs_set 8 (ps_set (i := 8) nd rfl (by first | exact Or.inl rfl | exact Or.inr rfl) (c_if (ct_w (cw_and (ct_cmp (or_eq (u64 hr)) os_eq (co_e (c_op op_modN os_mod (co_e (c_var 3 (pv 3))) (co_e c_int))) (co_e c_int) (by first | exact nomark _ | rfl | with_unfolding_all rfl)) (cw_and1 (ct_cmp (or_eq (u64 hr)) os_eq (co_e (c_op op_modN os_mod (co_e (c_var 5 (pv 5))) (co_e c_int))) (co_e c_int) (by first | exact nomark _ | rfl | with_unfolding_all rfl))))) (c_call H_residue_sign (hr.mono (by decide)) gd (by rfl) tk (co_cons (co_e (c_un un_neg us_neg (co_e c_int))) (co_cons (co_e (c_var 2 (pv 2))) co_nil)) (by decide +kernel)) c_int)))
    (cb_cons (cs_if (ct_cmp (or_eq (u64 hr)) os_eq (co_e (c_op op_modN os_mod (co_e (c_var 5 (pv 5))) (co_e c_int))) (co_e c_int) (by first | exact nomark _ | rfl | with_unfolding_all rfl))
    (cb_one (cs_set 8 (ps_set (i := 8) nd rfl (by first | exact Or.inl rfl | exact Or.inr rfl) (c_op or_mul os_mul (co_e (c_var 8 (pv 8))) (co_e (c_call H_residue_sign (hr.mono (by decide)) gd (by rfl) tk (co_cons (co_e (c_var 4 (pv 4))) (co_cons (co_e (c_var 2 (pv 2))) co_nil)) (by decide +kernel)))))))
    cb_nil)
    (cb_one (cs_ret (c_if (ct_cmp (or_eq (u64 hr)) os_eq (co_e (c_op op_modN os_mod (co_e (c_var 3 (pv 3))) (co_e c_int))) (co_e c_int) (by first | exact nomark _ | rfl | with_unfolding_all rfl)) (c_op or_mul os_mul (co_e (c_var 8 (pv 8))) (co_e (c_call H_residue_sign (hr.mono (by decide)) gd (by rfl) tk (co_cons (co_e (c_var 6 (pv 6))) (co_cons (co_e (c_var 2 (pv 2))) co_nil)) (by decide +kernel)))) (c_var 8 (pv 8)))))))))))
def N_odd_places : List Str := ["number", "other", "some", "place"]
theorem sc_odd_places : FnScope N_odd_places ["number", "other"] (defScope (top 21)) := ⟨rfl, rfl, rfl, by decide +kernel, rfl, by decide +kernel, by decide +kernel⟩
theorem ok_odd_places (n : Nat) (T : Tx g mg) (H_check_signed : Has P w g.K mg base 3 "check_signed" ["value"] (defArgs (top 17)) (spF g 1 (f_check_signed n))) (H_places_for : Has P w g.K mg base 2 "places_for" ["number"] (defArgs (top 19)) (spF g 1 (f_places_for n))) (H_sign_at : Has P w g.K mg base 2 "sign_at" ["one", "other", "place"] (defArgs (top 18)) (spF g 3 (f_sign_at n))) : Has P w g.K mg base 4 "odd_places" ["number", "other"] (defArgs (top 21)) (spF g 2 (f_odd_places n)) := by
  obtain ⟨fd, F⟩ := T.says.d.def_ 14 (d := dd "odd_places" 21) rfl
  have F : FunD g.K "odd_places" "odd_places" (defArgs (top 21)) (defBody (top 21)) (defScope (top 21)) [] [] (He.fAd g.K ("odd_places", none)) fd := F
  have nd := sc_odd_places.nd
  refine ⟨_, fd, FnG.by (k := 3) F sc_odd_places rfl rfl (by decide) (fun cdv A outer s H E hr gd => ?_), T.glo 14 rfl, F.kp, F.bindsN (fun _ _ _ _ _ _ us hl => match us, hl with | [_, _], _ => rfl), _, _, _, _, F⟩
  have tk : Takes (cxOf (L2.CX P w) P w g.K mg base N_odd_places "odd_places" (defScope (top 21)) (He.fAd g.K ("odd_places", none)) cdv A outer s H E) (fun cls d _ H => E cls d H) := takes_of rfl rfl rfl rfl
  exact (cb_cons (cs_expr (c_call H_check_signed (hr.mono (by decide)) gd (by rfl) tk (co_cons (co_e (c_var 0 (pv 0))) co_nil) (by decide +kernel)))
    (cb_cons (cs_expr (c_call H_check_signed (hr.mono (by decide)) gd (by rfl) tk (co_cons (co_e (c_var 1 (pv 1))) co_nil) (by decide +kernel)))
    (cb_cons (cs_set 2 (ps_set (i := 2) nd rfl (by first | exact Or.inl rfl | exact Or.inr rfl) (c_fr (cf_ssI rfl rfl (by rfl) T.g_sorted (by rfl) T.g_set (co_cons (co_e (c_fr (cf_op op_cat fs_cat (co_e (c_fr (cf_call H_places_for (hr.mono (by decide)) gd (by rfl) tk (co_cons (co_e (c_var 0 (pv 0))) co_nil) (by decide +kernel)))) (co_e (c_fr (cf_call H_places_for (hr.mono (by decide)) gd (by rfl) tk (co_cons (co_e (c_var 1 (pv 1))) co_nil) (by decide +kernel))))))) co_nil)))))
    (cb_one (cs_ret (c_ct call_tuple_of ls_tuple (by rfl) T.g_tuple (by decide +kernel) (co_cons (co_e (c_fr (cf_lc (pe_lc (own := [("place", 3)]) (by rfl) nd (ci_any rfl (c_var 2 (pv 2))) (blkOk_by (own := [("place", 3)]) (N := N_odd_places) (sc := defScope (top 21)) (by decide +kernel)) (fun _ _ _ _ _ => (cg_name 3 (pg_name (i := 3) nd rfl (by first | exact Or.inl rfl | exact Or.inr rfl)))) (fun _ _ _ _ _ => (ts_one (ct_cmp (or_eq (u64 hr)) os_eq (co_e (c_call H_sign_at (hr.mono (by decide)) gd (by rfl) takes0 (co_cons (co_e (c_var 0 (pv 0))) (co_cons (co_e (c_var 1 (pv 1))) (co_cons (co_e (c_var 3 (pv 3))) co_nil))) (by decide +kernel))) (co_e (c_un un_neg us_neg (co_e c_int))) (by first | exact nomark _ | rfl | with_unfolding_all rfl)))) (fun _ _ _ _ _ => (c_var 3 (pv 3)))) (by decide)))) co_nil) (by decide +kernel) (by decide +kernel)))))))
def N_is_prime : List Str := ["value"]
theorem sc_is_prime : FnScope N_is_prime ["value"] (defScope (top 11)) := ⟨rfl, rfl, rfl, by decide +kernel, rfl, by decide +kernel, by decide +kernel⟩
theorem ok_is_prime (n : Nat) (T : Tx g mg) (H_prime_divisors : Has P w g.K mg base 1 "prime_divisors" ["value"] (defArgs (top 10)) (spF g 1 (f_prime_divisors n))) : Has P w g.K mg base 2 "is_prime" ["value"] (defArgs (top 11)) (spF g 1 (f_is_prime n)) := by
  obtain ⟨fd, F⟩ := T.says.d.def_ 15 (d := dd "is_prime" 11) rfl
  have F : FunD g.K "is_prime" "is_prime" (defArgs (top 11)) (defBody (top 11)) (defScope (top 11)) [] [] (He.fAd g.K ("is_prime", none)) fd := F
  refine ⟨_, fd, FnG.by (k := 1) F sc_is_prime rfl rfl (by decide) (fun cdv A outer s H E hr gd => ?_), T.glo 15 rfl, F.kp, F.bindsN (fun _ _ _ _ _ _ us hl => match us, hl with | [_], _ => rfl), _, _, _, _, F⟩
  have tk : Takes (cxOf (L2.CX P w) P w g.K mg base N_is_prime "is_prime" (defScope (top 11)) (He.fAd g.K ("is_prime", none)) cdv A outer s H E) (fun cls d _ H => E cls d H) := takes_of rfl rfl rfl rfl
  exact (cb_one (cs_ret (c_and rfl (c_cmp op_gt os_gt (co_e (c_var 0 (pv 0))) (co_e c_int) (by first | exact nomark _ | rfl | with_unfolding_all rfl)) (c_one (c_cmp (or_eq (u64 hr)) os_eq (co_e (c_fr (cf_call H_prime_divisors (hr.mono (by decide)) gd (by rfl) tk (co_cons (co_e (c_var 0 (pv 0))) co_nil) (by decide +kernel)))) (co_e (c_fr (cf_lst (ca_cons (c_var 0 (pv 0)) ca_nil)))) (by first | exact nomark _ | rfl | with_unfolding_all rfl))))))
def N_is_place : List Str := ["value"]
theorem sc_is_place : FnScope N_is_place ["value"] (defScope (top 15)) := ⟨rfl, rfl, rfl, by decide +kernel, rfl, by decide +kernel, by decide +kernel⟩
theorem ok_is_place (n : Nat) (T : Tx g mg) (H_is_between : Has P w g.K mg base 2 "is_between" ["value", "low", "high"] (defArgs (top 6)) (spF g 3 (f_is_between n))) (H_is_prime : Has P w g.K mg base 2 "is_prime" ["value"] (defArgs (top 11)) (spF g 1 (f_is_prime n))) : Has P w g.K mg base 3 "is_place" ["value"] (defArgs (top 15)) (spF g 1 (f_is_place n)) := by
  obtain ⟨fd, F⟩ := T.says.d.def_ 16 (d := dd "is_place" 15) rfl
  have F : FunD g.K "is_place" "is_place" (defArgs (top 15)) (defBody (top 15)) (defScope (top 15)) [] [] (He.fAd g.K ("is_place", none)) fd := F
  refine ⟨_, fd, FnG.by (k := 2) F sc_is_place rfl rfl (by decide) (fun cdv A outer s H E hr gd => ?_), T.glo 16 rfl, F.kp, F.bindsN (fun _ _ _ _ _ _ us hl => match us, hl with | [_], _ => rfl), _, _, _, _, F⟩
  have tk : Takes (cxOf (L2.CX P w) P w g.K mg base N_is_place "is_place" (defScope (top 15)) (He.fAd g.K ("is_place", none)) cdv A outer s H E) (fun cls d _ H => E cls d H) := takes_of rfl rfl rfl rfl
  exact (cb_one (cs_ret (c_and rfl (c_call H_is_between (hr.mono (by decide)) gd (by rfl) tk (co_cons (co_e (c_var 0 (pv 0))) (co_cons (co_e c_int) (co_cons (co_e (c_gint (by rfl) T.g_MOST_PLACE)) co_nil))) (by decide +kernel)) (c_one (c_or rfl (c_cmp (or_eq (u64 hr)) os_eq (co_e (c_var 0 (pv 0))) (co_e c_int) (by first | exact nomark _ | rfl | with_unfolding_all rfl)) (c_one (c_call H_is_prime (hr.mono (by decide)) gd (by rfl) tk (co_cons (co_e (c_var 0 (pv 0))) co_nil) (by decide +kernel))))))))
def N_check_place : List Str := ["value"]
theorem sc_check_place : FnScope N_check_place ["value"] (defScope (top 16)) := ⟨rfl, rfl, rfl, by decide +kernel, rfl, by decide +kernel, by decide +kernel⟩
theorem ok_check_place (n : Nat) (T : Tx g mg) (H_is_place : Has P w g.K mg base 3 "is_place" ["value"] (defArgs (top 15)) (spF g 1 (f_is_place n))) : Has P w g.K mg base 4 "check_place" ["value"] (defArgs (top 16)) (spF g 1 (f_check_place n)) := by
  obtain ⟨fd, F⟩ := T.says.d.def_ 17 (d := dd "check_place" 16) rfl
  have F : FunD g.K "check_place" "check_place" (defArgs (top 16)) (defBody (top 16)) (defScope (top 16)) [] [] (He.fAd g.K ("check_place", none)) fd := F
  refine ⟨_, fd, FnG.by (k := 3) F sc_check_place rfl rfl (by decide) (fun cdv A outer s H E hr gd => ?_), T.glo 17 rfl, F.kp, F.bindsN (fun _ _ _ _ _ _ us hl => match us, hl with | [_], _ => rfl), _, _, _, _, F⟩
  have tk : Takes (cxOf (L2.CX P w) P w g.K mg base N_check_place "check_place" (defScope (top 16)) (He.fAd g.K ("check_place", none)) cdv A outer s H E) (fun cls d _ H => E cls d H) := takes_of rfl rfl rfl rfl
  exact (cb_one (cs_if (ct_not (ct_tru (co_e (c_call H_is_place (hr.mono (by decide)) gd (by rfl) tk (co_cons (co_e (c_var 0 (pv 0))) co_nil) (by decide +kernel))) rfl (by intro _; rfl)))
    (cb_one cs_bad)
    cb_nil))
def N_sign : List Str := ["number", "other", "place"]
theorem sc_sign : FnScope N_sign ["number", "other", "place"] (defScope (top 20)) := ⟨rfl, rfl, rfl, by decide +kernel, rfl, by decide +kernel, by decide +kernel⟩
theorem ok_sign (n : Nat) (T : Tx g mg) (H_check_signed : Has P w g.K mg base 3 "check_signed" ["value"] (defArgs (top 17)) (spF g 1 (f_check_signed n))) (H_check_place : Has P w g.K mg base 4 "check_place" ["value"] (defArgs (top 16)) (spF g 1 (f_check_place n))) (H_sign_at : Has P w g.K mg base 2 "sign_at" ["one", "other", "place"] (defArgs (top 18)) (spF g 3 (f_sign_at n))) : Has P w g.K mg base 5 "sign" ["number", "other", "place"] (defArgs (top 20)) (spF g 3 (f_sign n)) := by
  obtain ⟨fd, F⟩ := T.says.d.def_ 18 (d := dd "sign" 20) rfl
  have F : FunD g.K "sign" "sign" (defArgs (top 20)) (defBody (top 20)) (defScope (top 20)) [] [] (He.fAd g.K ("sign", none)) fd := F
  refine ⟨_, fd, FnG.by (k := 4) F sc_sign rfl rfl (by decide) (fun cdv A outer s H E hr gd => ?_), T.glo 18 rfl, F.kp, F.bindsN (fun _ _ _ _ _ _ us hl => match us, hl with | [_, _, _], _ => rfl), _, _, _, _, F⟩
  have tk : Takes (cxOf (L2.CX P w) P w g.K mg base N_sign "sign" (defScope (top 20)) (He.fAd g.K ("sign", none)) cdv A outer s H E) (fun cls d _ H => E cls d H) := takes_of rfl rfl rfl rfl
  exact (cb_cons (cs_expr (c_call H_check_signed (hr.mono (by decide)) gd (by rfl) tk (co_cons (co_e (c_var 0 (pv 0))) co_nil) (by decide +kernel)))
    (cb_cons (cs_expr (c_call H_check_signed (hr.mono (by decide)) gd (by rfl) tk (co_cons (co_e (c_var 1 (pv 1))) co_nil) (by decide +kernel)))
    (cb_cons (cs_expr (c_call H_check_place (hr.mono (by decide)) gd (by rfl) tk (co_cons (co_e (c_var 2 (pv 2))) co_nil) (by decide +kernel)))
    (cb_one (cs_ret (c_call H_sign_at (hr.mono (by decide)) gd (by rfl) tk (co_cons (co_e (c_var 0 (pv 0))) (co_cons (co_e (c_var 1 (pv 1))) (co_cons (co_e (c_var 2 (pv 2))) co_nil))) (by decide +kernel)))))))
def N__law_primes_of : List Str := ["_law_n", "_law_found", "_law_left", "_law_p", "_law_turn"]
theorem sc__law_primes_of : FnScope N__law_primes_of ["_law_n"] (defScope (top 29)) := ⟨rfl, rfl, rfl, by decide +kernel, rfl, by decide +kernel, by decide +kernel⟩
theorem ok__law_primes_of (n : Nat) (T : Tx g mg) : Has P w g.K mg base 1 "_law_primes_of" ["_law_n"] (defArgs (top 29)) (spF g 1 (f__law_primes_of n)) := by
  obtain ⟨fd, F⟩ := T.says.d.def_ 19 (d := dd "_law_primes_of" 29) rfl
  have F : FunD g.K "_law_primes_of" "_law_primes_of" (defArgs (top 29)) (defBody (top 29)) (defScope (top 29)) [] [] (He.fAd g.K ("_law_primes_of", none)) fd := F
  have nd := sc__law_primes_of.nd
  refine ⟨_, fd, FnG.by (k := 0) F sc__law_primes_of rfl rfl (by decide) (fun cdv A outer s H E hr gd => ?_), T.glo 19 rfl, F.kp, F.bindsN (fun _ _ _ _ _ _ us hl => match us, hl with | [_], _ => rfl), _, _, _, _, F⟩
  have po : PassesOwn (model P w) (A.deeper (envOfC "_law_primes_of" (defScope (top 29)) s.heap.objs.size (He.fAd g.K ("_law_primes_of", none)) cdv)) (envOfC "_law_primes_of" (defScope (top 29)) s.heap.objs.size (He.fAd g.K ("_law_primes_of", none)) cdv) (cxOf (L2.CX P w) P w g.K mg base N__law_primes_of "_law_primes_of" (defScope (top 29)) (He.fAd g.K ("_law_primes_of", none)) cdv A outer s H E).xe := passes_of (X := cxOf (L2.CX P w) P w g.K mg base N__law_primes_of "_law_primes_of" (defScope (top 29)) (He.fAd g.K ("_law_primes_of", none)) cdv A outer s H E) rfl
  exact (cb_cons (cs_par3 1 2 3 (ps_par3 (i := 1) (j := 2) (l := 3) (by rfl) nd rfl rfl rfl (by decide) (by decide) (by decide) rfl rfl rfl (ed_cons (ed_f (cf_lst (ca_cons c_int ca_nil))) (ed_cons (ed_e (c_cb call_abs ls_abs (by rfl) T.g_abs (by decide +kernel) (co_cons (co_e (c_var 0 (pv 0))) co_nil) (by decide +kernel) (by decide +kernel))) (ed_cons (ed_e c_int) ed_nil))) (by rfl)))
    (cb_cons (cs_for po (by rfl) (ci_range1 (by rfl) T.g_range (co_cons (co_e c_int) co_nil)) (cg_name 4 (pg_name (i := 4) nd rfl (by first | exact Or.inl rfl | exact Or.inr rfl)))
    (cb_cons (cs_if (ct_cmp op_gt os_gt (co_e (c_op or_mul os_mul (co_e (c_var 3 (pv 3))) (co_e (c_var 3 (pv 3))))) (co_e (c_var 2 (pv 2))) (by first | exact nomark _ | rfl | with_unfolding_all rfl))
    (cb_one cs_break)
    cb_nil)
    (cb_one (cs_if (ct_cmp (or_eq (u64 hr)) os_eq (co_e (c_op op_modN os_mod (co_e (c_ct call_int1 ls_int (by rfl) T.g_int (by decide +kernel) (co_cons (co_e (c_var 2 (pv 2))) co_nil) (by decide +kernel) (by decide +kernel))) (co_e (c_var 3 (pv 3))))) (co_e c_int) (by first | exact nomark _ | rfl | with_unfolding_all rfl))
    (cb_cons (cs_expr (c_app 1 rfl (pe_bm PySem.F.plainAttrs_list PySem.F.slot_list_append PySem.F.type_list_append mt_append (pv 1) (pa_cons (c_var 3 (pv 3)) pa_nil))))
    (cb_one (cs_set 2 (ps_set (i := 2) nd rfl (by first | exact Or.inl rfl | exact Or.inr rfl) (c_op op_fdivG os_fdiv (co_e (c_var 2 (pv 2))) (co_e (c_var 3 (pv 3))))))))
    (cb_one (cs_set 3 (ps_set (i := 3) nd rfl (by first | exact Or.inl rfl | exact Or.inr rfl) (c_op or_add os_add (co_e (c_var 3 (pv 3))) (co_e c_int)))))))))
    (cb_one (cs_retF (cf_ssI rfl rfl (by rfl) T.g_sorted (by rfl) T.g_set (co_cons (co_e (c_fr (cf_op op_cat fs_cat (co_n 1 (pv 1)) (co_e (c_fr (cf_if (ct_cmp op_gt os_gt (co_e (c_var 2 (pv 2))) (co_e c_int) (by first | exact nomark _ | rfl | with_unfolding_all rfl)) (cf_lst (ca_cons (c_var 2 (pv 2)) ca_nil)) (cf_lst ca_nil))))))) co_nil))))))
def N__law_right : List Str := ["_law_chest_here", "_law_lap", "_law_a", "_law_b", "_law_c", "_law_places_here", "_law_p", "_law_due", "_law_told", "_law_odd", "_law_great"]
theorem sc__law_right : FnScope N__law_right ["_law_chest_here"] (defScope (top 31)) := ⟨rfl, rfl, rfl, by decide +kernel, rfl, by decide +kernel, by decide +kernel⟩
theorem ok__law_right (n : Nat) (T : Tx g mg) (H__law_big : Has P w g.K mg base 3 "_law_big" ["_law_chest_here"] (defArgs (top 30)) (spF g 1 (f__law_big n))) (H__law_fetch : Has P w g.K mg base 1 "_law_fetch" ["_law_chest_here", "_law_most"] (defArgs (top 24)) (spF g 2 (f__law_fetch n))) (H__law_symbol : Has P w g.K mg base 2 "_law_symbol" ["_law_a", "_law_b", "_law_p"] (defArgs (top 28)) (spF g 3 (f__law_symbol n))) (H_odd_places : Has P w g.K mg base 4 "odd_places" ["number", "other"] (defArgs (top 21)) (spF g 2 (f_odd_places n))) (H_sign : Has P w g.K mg base 5 "sign" ["number", "other", "place"] (defArgs (top 20)) (spF g 3 (f_sign n))) (H__law_primes_of : Has P w g.K mg base 1 "_law_primes_of" ["_law_n"] (defArgs (top 29)) (spF g 1 (f__law_primes_of n))) : Has P w g.K mg base 6 "_law_right" ["_law_chest_here"] (defArgs (top 31)) (spF g 1 (f__law_right n)) := by
  obtain ⟨fd, F⟩ := T.says.d.def_ 20 (d := dd "_law_right" 31) rfl
  have F : FunD g.K "_law_right" "_law_right" (defArgs (top 31)) (defBody (top 31)) (defScope (top 31)) [] [] (He.fAd g.K ("_law_right", none)) fd := F
  have nd := sc__law_right.nd
  refine ⟨_, fd, FnG.by (k := 5) F sc__law_right rfl rfl (by decide) (fun cdv A outer s H E hr gd => ?_), T.glo 20 rfl, F.kp, F.bindsN (fun _ _ _ _ _ _ us hl => match us, hl with | [_], _ => rfl), _, _, _, _, F⟩
  have tk : Takes (cxOf (L2.CX P w) P w g.K mg base N__law_right "_law_right" (defScope (top 31)) (He.fAd g.K ("_law_right", none)) cdv A outer s H E) (fun cls d _ H => E cls d H) := takes_of rfl rfl rfl rfl
  have po : PassesOwn (model P w) (A.deeper (envOfC "_law_right" (defScope (top 31)) s.heap.objs.size (He.fAd g.K ("_law_right", none)) cdv)) (envOfC "_law_right" (defScope (top 31)) s.heap.objs.size (He.fAd g.K ("_law_right", none)) cdv) (cxOf (L2.CX P w) P w g.K mg base N__law_right "_law_right" (defScope (top 31)) (He.fAd g.K ("_law_right", none)) cdv A outer s H E).xe := passes_of (X := cxOf (L2.CX P w) P w g.K mg base N__law_right "_law_right" (defScope (top 31)) (He.fAd g.K ("_law_right", none)) cdv A outer s H E) rfl
  exact (cb_cons (cs_for po (by rfl) (ci_range1 (by rfl) T.g_range (co_cons (co_e c_int) co_nil)) (cg_name 1 (pg_name (i := 1) nd rfl (by first | exact Or.inl rfl | exact Or.inr rfl)))
    (cb_cons (cs_asg (c_tup (ca_cons (c_call H__law_big (hr.mono (by decide)) gd (by rfl) tk (co_cons (co_n 0 (pv 0)) co_nil) (by decide +kernel)) (ca_cons (c_call H__law_big (hr.mono (by decide)) gd (by rfl) tk (co_cons (co_n 0 (pv 0)) co_nil) (by decide +kernel)) ca_nil))) (cg_tup (by rfl) rfl (cgs_cons (cg_name 2 (pg_name (i := 2) nd rfl (by first | exact Or.inl rfl | exact Or.inr rfl))) (cgs_cons (cg_name 3 (pg_name (i := 3) nd rfl (by first | exact Or.inl rfl | exact Or.inr rfl))) cgs_nil))))
    (cb_cons (cs_set 4 (ps_set (i := 4) nd rfl (by first | exact Or.inl rfl | exact Or.inr rfl) (c_op or_add os_add (co_e c_int) (co_e (c_call H__law_fetch (hr.mono (by decide)) gd (by rfl) tk (co_cons (co_n 0 (pv 0)) (co_cons (co_e c_int) co_nil)) (by decide +kernel))))))
    (cb_cons (cs_set 5 (ps_set (i := 5) nd rfl (by first | exact Or.inl rfl | exact Or.inr rfl) (c_fr (cf_ssI rfl rfl (by rfl) T.g_sorted (by rfl) T.g_set (co_cons (co_e (c_fr (cf_op op_cat fs_cat (co_e (c_fr (cf_op op_cat fs_cat (co_e (c_fr (cf_lst (ca_cons c_int ca_nil)))) (co_e (c_fr (cf_call H__law_primes_of (hr.mono (by decide)) gd (by rfl) tk (co_cons (co_e (c_var 2 (pv 2))) co_nil) (by decide +kernel))))))) (co_e (c_fr (cf_call H__law_primes_of (hr.mono (by decide)) gd (by rfl) tk (co_cons (co_e (c_var 3 (pv 3))) co_nil) (by decide +kernel))))))) co_nil)))))
    (cb_cons (cs_for po (by rfl) (ci_any rfl (c_fr (cf_op op_cat fs_cat (co_e (c_var 5 (pv 5))) (co_e (c_fr (cf_lst (ca_cons c_int (ca_cons c_int (ca_cons c_int (ca_cons c_int ca_nil)))))))))) (cg_name 6 (pg_name (i := 6) nd rfl (by first | exact Or.inl rfl | exact Or.inr rfl)))
    (cb_cons (cs_set 7 (ps_set (i := 7) nd rfl (by first | exact Or.inl rfl | exact Or.inr rfl) (c_call H__law_symbol (hr.mono (by decide)) gd (by rfl) tk (co_cons (co_e (c_var 2 (pv 2))) (co_cons (co_e (c_var 3 (pv 3))) (co_cons (co_e (c_var 6 (pv 6))) co_nil))) (by decide +kernel))))
    (cb_cons (cs_set 8 (ps_set (i := 8) nd rfl (by first | exact Or.inl rfl | exact Or.inr rfl) (c_fr (cf_lst (ca_cons (c_call H_sign (hr.mono (by decide)) gd (by rfl) tk (co_cons (co_e (c_var 2 (pv 2))) (co_cons (co_e (c_var 3 (pv 3))) (co_cons (co_e (c_var 6 (pv 6))) co_nil))) (by decide +kernel)) (ca_cons (c_call H_sign (hr.mono (by decide)) gd (by rfl) tk (co_cons (co_e (c_var 3 (pv 3))) (co_cons (co_e (c_var 2 (pv 2))) (co_cons (co_e (c_var 6 (pv 6))) co_nil))) (by decide +kernel)) (ca_cons (c_callK (π := [2, 1, 0]) (nms := ["place", "other", "number"]) H_sign (hr.mono (by decide)) gd (by rfl) tk (ck_cons (co_e (c_var 6 (pv 6))) (ck_cons (co_e (c_var 3 (pv 3))) (ck_cons (co_e (c_var 2 (pv 2))) ck_nil))) K_kb_sign_place_other_number (hdb := by decide +kernel)) ca_nil)))))))
    (cb_cons (cs_if (ct_w (cw_or (ct_cmp (or_ne (u64 hr)) os_ne (co_e (c_cb (call_reprD (u65 hr) gd) ls_repr (by rfl) T.g_repr (by decide +kernel) (co_cons (co_e (c_var 8 (pv 8))) co_nil) (by decide +kernel) (by decide +kernel))) (co_e (c_cb (call_reprD (u65 hr) gd) ls_repr (by rfl) T.g_repr (by decide +kernel) (co_cons (co_e (c_fr (cf_lst (ca_cons (c_var 7 (pv 7)) (ca_cons (c_var 7 (pv 7)) (ca_cons (c_var 7 (pv 7)) ca_nil)))))) co_nil) (by decide +kernel) (by decide +kernel))) (by first | exact nomark _ | rfl | with_unfolding_all rfl)) (cw_or1 (ct_cmp (or_ne (u64 hr)) os_ne (co_e (c_call H_sign (hr.mono (by decide)) gd (by rfl) tk (co_cons (co_e (c_var 2 (pv 2))) (co_cons (co_e (c_op op_sub os_sub (co_e c_int) (co_e (c_var 2 (pv 2))))) (co_cons (co_e (c_var 6 (pv 6))) co_nil))) (by decide +kernel))) (co_e c_int) (by first | exact nomark _ | rfl | with_unfolding_all rfl)))))
    (cb_one (cs_ret c_bl))
    cb_nil)
    (cb_one (cs_if (ct_w (cw_or (ct_cmp (or_ne (u64 hr)) os_ne (co_e (c_call H_sign (hr.mono (by decide)) gd (by rfl) tk (co_cons (co_e (c_var 2 (pv 2))) (co_cons (co_e (c_op or_mul os_mul (co_e (c_var 3 (pv 3))) (co_e (c_var 4 (pv 4))))) (co_cons (co_e (c_var 6 (pv 6))) co_nil))) (by decide +kernel))) (co_e (c_op or_mul os_mul (co_e (c_var 7 (pv 7))) (co_e (c_call H_sign (hr.mono (by decide)) gd (by rfl) tk (co_cons (co_e (c_var 2 (pv 2))) (co_cons (co_e (c_var 4 (pv 4))) (co_cons (co_e (c_var 6 (pv 6))) co_nil))) (by decide +kernel))))) (by first | exact nomark _ | rfl | with_unfolding_all rfl)) (cw_or1 (ct_w (cw_and (ct_cmp (or_ne (u64 hr)) os_ne (co_e (c_var 2 (pv 2))) (co_e c_int) (by first | exact nomark _ | rfl | with_unfolding_all rfl)) (cw_and1 (ct_cmp (or_ne (u64 hr)) os_ne (co_e (c_call H_sign (hr.mono (by decide)) gd (by rfl) tk (co_cons (co_e (c_var 2 (pv 2))) (co_cons (co_e (c_op op_sub os_sub (co_e c_int) (co_e (c_var 2 (pv 2))))) (co_cons (co_e (c_var 6 (pv 6))) co_nil))) (by decide +kernel))) (co_e c_int) (by first | exact nomark _ | rfl | with_unfolding_all rfl))))))))
    (cb_one (cs_ret c_bl))
    cb_nil))))))
    (cb_cons (cs_set 9 (ps_set (i := 9) nd rfl (by first | exact Or.inl rfl | exact Or.inr rfl) (c_ct call_tuple_of ls_tuple (by rfl) T.g_tuple (by decide +kernel) (co_cons (co_e (c_fr (cf_lc (pe_lc (own := [("_law_p", 6)]) (by rfl) nd (ci_any rfl (c_var 5 (pv 5))) (blkOk_by (own := [("_law_p", 6)]) (N := N__law_right) (sc := defScope (top 31)) (by decide +kernel)) (fun _ _ _ _ _ => (cg_name 6 (pg_name (i := 6) nd rfl (by first | exact Or.inl rfl | exact Or.inr rfl)))) (fun _ _ _ _ _ => (ts_one (ct_cmp (or_eq (u64 hr)) os_eq (co_e (c_call H__law_symbol (hr.mono (by decide)) gd (by rfl) takes0 (co_cons (co_e (c_var 2 (pv 2))) (co_cons (co_e (c_var 3 (pv 3))) (co_cons (co_e (c_var 6 (pv 6))) co_nil))) (by decide +kernel))) (co_e (c_un un_neg us_neg (co_e c_int))) (by first | exact nomark _ | rfl | with_unfolding_all rfl)))) (fun _ _ _ _ _ => (c_var 6 (pv 6)))) (by decide)))) co_nil) (by decide +kernel) (by decide +kernel))))
    (cb_one (cs_if (ct_w (cw_or (ct_cmp (or_ne (u64 hr)) os_ne (co_e (c_cb (call_reprD (u65 hr) gd) ls_repr (by rfl) T.g_repr (by decide +kernel) (co_cons (co_e (c_fr (cf_lst (ca_cons (c_call H_odd_places (hr.mono (by decide)) gd (by rfl) tk (co_cons (co_e (c_var 2 (pv 2))) (co_cons (co_e (c_var 3 (pv 3))) co_nil)) (by decide +kernel)) (ca_cons (c_callK (π := [1, 0]) (nms := ["other", "number"]) H_odd_places (hr.mono (by decide)) gd (by rfl) tk (ck_cons (co_e (c_var 3 (pv 3))) (ck_cons (co_e (c_var 2 (pv 2))) ck_nil)) K_kb_odd_places_other_number (hdb := by decide +kernel)) ca_nil))))) co_nil) (by decide +kernel) (by decide +kernel))) (co_e (c_cb (call_reprD (u65 hr) gd) ls_repr (by rfl) T.g_repr (by decide +kernel) (co_cons (co_e (c_fr (cf_lst (ca_cons (c_var 9 (pv 9)) (ca_cons (c_var 9 (pv 9)) ca_nil))))) co_nil) (by decide +kernel) (by decide +kernel))) (by first | exact nomark _ | rfl | with_unfolding_all rfl)) (cw_or1 (ct_cmp (or_ne (u64 hr)) os_ne (co_e (c_op op_modN os_mod (co_e (c_ct call_int1 ls_int (by rfl) T.g_int (by decide +kernel) (co_cons (co_e (c_cb call_len ls_len (by rfl) T.g_len (by decide +kernel) (co_cons (co_e (c_var 9 (pv 9))) co_nil) (by decide +kernel) (by decide +kernel))) co_nil) (by decide +kernel) (by decide +kernel))) (co_e c_int))) (co_e c_int) (by first | exact nomark _ | rfl | with_unfolding_all rfl)))))
    (cb_one (cs_ret c_bl))
    cb_nil))))))))
    (cb_cons (cs_set 10 (ps_set (i := 10) nd rfl (by first | exact Or.inl rfl | exact Or.inr rfl) (c_op op_pow os_pow (co_e c_int) (co_e c_int))))
    (cb_one (cs_ret (c_and rfl (c_cmp (or_eq (u64 hr)) os_eq (co_e (c_call H_odd_places (hr.mono (by decide)) gd (by rfl) tk (co_cons (co_e c_int) (co_cons (co_e (c_var 2 (pv 2))) co_nil)) (by decide +kernel))) (co_e (c_tup ca_nil)) (by first | exact nomark _ | rfl | with_unfolding_all rfl)) (c_and rfl (c_cmp (or_eq (u64 hr)) os_eq (co_e (c_call H_sign (hr.mono (by decide)) gd (by rfl) tk (co_cons (co_e (c_var 10 (pv 10))) (co_cons (co_e (c_un un_neg us_neg (co_e (c_var 10 (pv 10))))) (co_cons (co_e c_int) co_nil))) (by decide +kernel))) (co_e c_int) (by first | exact nomark _ | rfl | with_unfolding_all rfl)) (c_one (c_cmp (or_eq (u64 hr)) os_eq (co_e (c_call H_sign (hr.mono (by decide)) gd (by rfl) tk (co_cons (co_e (c_un un_neg us_neg (co_e c_int))) (co_cons (co_e (c_un un_neg us_neg (co_e (c_var 10 (pv 10))))) (co_cons (co_e c_int) co_nil))) (by decide +kernel))) (co_e (c_un un_neg us_neg (co_e c_int))) (by first | exact nomark _ | rfl | with_unfolding_all rfl)))))))))
def N__law_chest : List Str := ["_law_script", "_law_at", "_law_mixed", "_law_cell", "_law_own"]
theorem sc__law_chest : FnScope N__law_chest ["_law_script", "_law_at"] (defScope (top 23)) := ⟨rfl, rfl, rfl, by decide +kernel, rfl, by decide +kernel, by decide +kernel⟩
theorem ok__law_chest (n : Nat) (T : Tx g mg) : Has P w g.K mg base 1 "_law_chest" ["_law_script", "_law_at"] (defArgs (top 23)) (spF g 2 (f__law_chest n)) := by
  obtain ⟨fd, F⟩ := T.says.d.def_ 21 (d := dd "_law_chest" 23) rfl
  have F : FunD g.K "_law_chest" "_law_chest" (defArgs (top 23)) (defBody (top 23)) (defScope (top 23)) [] [] (He.fAd g.K ("_law_chest", none)) fd := F
  have nd := sc__law_chest.nd
  refine ⟨_, fd, FnG.by (k := 0) F sc__law_chest rfl rfl (by decide) (fun cdv A outer s H E hr gd => ?_), T.glo 21 rfl, F.kp, F.bindsN (fun _ _ _ _ _ _ us hl => match us, hl with | [_, _], _ => rfl), _, _, _, _, F⟩
  have po : PassesOwn (model P w) (A.deeper (envOfC "_law_chest" (defScope (top 23)) s.heap.objs.size (He.fAd g.K ("_law_chest", none)) cdv)) (envOfC "_law_chest" (defScope (top 23)) s.heap.objs.size (He.fAd g.K ("_law_chest", none)) cdv) (cxOf (L2.CX P w) P w g.K mg base N__law_chest "_law_chest" (defScope (top 23)) (He.fAd g.K ("_law_chest", none)) cdv A outer s H E).xe := passes_of (X := cxOf (L2.CX P w) P w g.K mg base N__law_chest "_law_chest" (defScope (top 23)) (He.fAd g.K ("_law_chest", none)) cdv A outer s H E) rfl
  exact (cb_cons (cs_set 2 (ps_set (i := 2) nd rfl (by first | exact Or.inl rfl | exact Or.inr rfl) (c_op or_add os_add (co_e c_int) (co_e (c_op or_mul os_mul (co_e c_int) (co_e (c_var 1 (pv 1))))))))
    (cb_cons (cs_for po (by rfl) (ci_any rfl (c_fr (cf_sl rfl (co_e (c_var 0 (pv 0))) cp_none (cp_some c_int)))) (cg_name 3 (pg_name (i := 3) nd rfl (by first | exact Or.inl rfl | exact Or.inr rfl)))
    (cb_one (cs_set 2 (ps_set (i := 2) nd rfl (by first | exact Or.inl rfl | exact Or.inr rfl) (c_op op_modN os_mod (co_e (c_ct call_int1 ls_int (by rfl) T.g_int (by decide +kernel) (co_cons (co_e (c_op or_add os_add (co_e (c_op or_mul os_mul (co_e (c_var 2 (pv 2))) (co_e c_int))) (co_e (c_var 3 (pv 3))))) co_nil) (by decide +kernel) (by decide +kernel))) (co_e c_int))))))
    (cb_cons (cs_set 4 (ps_set (i := 4) nd rfl (by first | exact Or.inl rfl | exact Or.inr rfl) (c_if (ct_cmp op_lt os_lt (co_e (c_var 1 (pv 1))) (co_e (c_cb call_len ls_len (by rfl) T.g_len (by decide +kernel) (co_cons (co_e (c_var 0 (pv 0))) co_nil) (by decide +kernel) (by decide +kernel))) (by first | exact nomark _ | rfl | with_unfolding_all rfl)) (c_ix rfl (co_e (c_var 0 (pv 0))) (co_e (c_var 1 (pv 1))) (fun _ _ => rfl)) (c_op or_add os_add (co_e (c_op or_mul os_mul (co_e c_int) (co_e (c_var 1 (pv 1))))) (co_e c_int)))))
    (cb_one (cs_retF (cf_lst (ca_cons (c_if (ct_cmp op_ge os_ge (co_e (c_cb call_abs ls_abs (by rfl) T.g_abs (by decide +kernel) (co_cons (co_e (c_var 4 (pv 4))) co_nil) (by decide +kernel) (by decide +kernel))) (co_e (c_op op_pow os_pow (co_e c_int) (co_e c_int))) (by first | exact nomark _ | rfl | with_unfolding_all rfl)) (c_cb call_abs ls_abs (by rfl) T.g_abs (by decide +kernel) (co_cons (co_e (c_var 4 (pv 4))) co_nil) (by decide +kernel) (by decide +kernel)) c_int) (ca_cons (c_op op_modN os_mod (co_e (c_ct call_int1 ls_int (by rfl) T.g_int (by decide +kernel) (co_cons (co_e (c_op or_add os_add (co_e (c_op or_add os_add (co_e (c_op or_mul os_mul (co_e (c_var 2 (pv 2))) (co_e c_int))) (co_e (c_op or_mul os_mul (co_e (c_var 4 (pv 4))) (co_e c_int))))) (co_e c_int))) co_nil) (by decide +kernel) (by decide +kernel))) (co_e c_int)) (ca_cons c_int ca_nil)))))))))
def N_law : List Str := ["_law_script", "_law_at"]
theorem sc_law : FnScope N_law ["_law_script"] (defScope (top 32)) := ⟨rfl, rfl, rfl, by decide +kernel, rfl, by decide +kernel, by decide +kernel⟩
theorem ok_law (n : Nat) (T : Tx g mg) (H__law_right : Has P w g.K mg base 6 "_law_right" ["_law_chest_here"] (defArgs (top 31)) (spF g 1 (f__law_right n))) (H__law_chest : Has P w g.K mg base 1 "_law_chest" ["_law_script", "_law_at"] (defArgs (top 23)) (spF g 2 (f__law_chest n))) : Has P w g.K mg base 7 "law" ["_law_script"] (defArgs (top 32)) (spF g 1 (f_law n)) := by
  obtain ⟨fd, F⟩ := T.says.d.def_ 22 (d := dd "law" 32) rfl
  have F : FunD g.K "law" "law" (defArgs (top 32)) (defBody (top 32)) (defScope (top 32)) [] [] (He.fAd g.K ("law", none)) fd := F
  have nd := sc_law.nd
  refine ⟨_, fd, FnG.by (k := 6) F sc_law rfl rfl (by decide) (fun cdv A outer s H E hr gd => ?_), T.glo 22 rfl, F.kp, F.bindsN (fun _ _ _ _ _ _ us hl => match us, hl with | [_], _ => rfl), _, _, _, _, F⟩
  exact (cb_one (cs_ret (c_cb (cr_all rfl) ls_all (by rfl) T.g_all (by decide +kernel) (co_cons (co_e (c_fr (cf_lc (pe_lc (own := [("_law_at", 1)]) (by rfl) nd (ci_range1 (by rfl) T.g_range (co_cons (co_e (c_cb (call_max2 rfl) ls_max2 (by rfl) T.g_max (by decide +kernel) (co_cons (co_e c_int) (co_cons (co_e (c_cb (call_min2 rfl) ls_min2 (by rfl) T.g_min (by decide +kernel) (co_cons (co_e (c_cb call_len ls_len (by rfl) T.g_len (by decide +kernel) (co_cons (co_e (c_var 0 (pv 0))) co_nil) (by decide +kernel) (by decide +kernel))) (co_cons (co_e c_int) co_nil)) (by decide +kernel) (by decide +kernel))) co_nil)) (by decide +kernel) (by decide +kernel))) co_nil)) (blkOk_by (own := [("_law_at", 1)]) (N := N_law) (sc := defScope (top 32)) (by decide +kernel)) (fun _ _ _ _ _ => (cg_name 1 (pg_name (i := 1) nd rfl (by first | exact Or.inl rfl | exact Or.inr rfl)))) (fun _ _ _ _ _ => ts_nil) (fun _ _ _ _ _ => (c_call1 H__law_right (hr.mono (by decide)) gd (by rfl) takes0 (cf_call H__law_chest (hr.mono (by decide)) gd (by rfl) takes0 (co_cons (co_e (c_var 0 (pv 0))) (co_cons (co_e (c_var 1 (pv 1))) co_nil)) (by decide +kernel)) (by decide +kernel)))) (by decide)))) co_nil) (by decide +kernel) (by decide +kernel))))
end
theorem all_has {P : Program} {w : World} {mg : Str → Option Value} {base : Heap} {g : GC} (n : Nat) (T : Tx g mg) : Has P w g.K mg base 7 "law" ["_law_script"] (defArgs (top 32)) (spF g 1 (f_law n)) := by
  have H__law_fetch := ok__law_fetch (P := P) (w := w) (base := base) n T
  have H__law_choose := ok__law_choose (P := P) (w := w) (base := base) n T H__law_fetch
  have H__law_big := ok__law_big (P := P) (w := w) (base := base) n T H__law_choose H__law_fetch
  have H__law_split := ok__law_split (P := P) (w := w) (base := base) n T
  have H__law_rest_sign := ok__law_rest_sign (P := P) (w := w) (base := base) n T
  have H__law_symbol := ok__law_symbol (P := P) (w := w) (base := base) n T H__law_split H__law_rest_sign
  have H_is_integer := ok_is_integer (P := P) (w := w) (base := base) n T
  have H_is_between := ok_is_between (P := P) (w := w) (base := base) n T H_is_integer
  have H_check_signed := ok_check_signed (P := P) (w := w) (base := base) n T H_is_between
  have H_prime_divisors := ok_prime_divisors (P := P) (w := w) (base := base) n T
  have H_places_for := ok_places_for (P := P) (w := w) (base := base) n T H_prime_divisors
  have H_parted := ok_parted (P := P) (w := w) (base := base) n T
  have H_residue_sign := ok_residue_sign (P := P) (w := w) (base := base) n T
  have H_sign_at := ok_sign_at (P := P) (w := w) (base := base) n T H_parted H_residue_sign
  have H_odd_places := ok_odd_places (P := P) (w := w) (base := base) n T H_check_signed H_places_for H_sign_at
  have H_is_prime := ok_is_prime (P := P) (w := w) (base := base) n T H_prime_divisors
  have H_is_place := ok_is_place (P := P) (w := w) (base := base) n T H_is_between H_is_prime
  have H_check_place := ok_check_place (P := P) (w := w) (base := base) n T H_is_place
  have H_sign := ok_sign (P := P) (w := w) (base := base) n T H_check_signed H_check_place H_sign_at
  have H__law_primes_of := ok__law_primes_of (P := P) (w := w) (base := base) n T
  have H__law_right := ok__law_right (P := P) (w := w) (base := base) n T H__law_big H__law_fetch H__law_symbol H_odd_places H_sign H__law_primes_of
  have H__law_chest := ok__law_chest (P := P) (w := w) (base := base) n T
  have H_law := ok_law (P := P) (w := w) (base := base) n T H__law_right H__law_chest
  exact H_law
end Fw
namespace Fw
open PySem L2
theorem wh_eq {c : M Bool} {b : M Fl} {n : Nat} {e : Ev} : mWh c b (n + 1) e = (match c e with
    | .ok true e1 => (match b e1 with
      | .ok .nx e2 => mWh c b n e2
      | .ok .ct e2 => mWh c b n e2
      | .ok .bk e2 => .ok .nx e2
      | r => r)
    | .ok false e1 => .ok .nx e1
    | .exc k d e1 => .exc k d e1
    | .bad => .bad) := rfl
theorem fl_eq {bd : D → M Unit} {b : M Fl} {d : D} {ds : List D} {e : Ev} : mFl bd b (d :: ds) e = (match bd d e with
    | .ok _ e1 => (match b e1 with
      | .ok .nx e2 => mFl bd b ds e2
      | .ok .ct e2 => mFl bd b ds e2
      | .ok .bk e2 => .ok .nx e2
      | r => r)
    | _ => .bad) := rfl
theorem fl_nil {bd : D → M Unit} {b : M Fl} {e : Ev} : mFl bd b [] e = .ok .nx e := rfl
theorem lc_eq {own : List Nat} {bd : D → M Unit} {t : M Bool} {el : M D} {d : D} {ds acc : List D} {e : Ev} : mLcL own bd t el (d :: ds) acc e = (match bd d e with
        | .ok _ e1 => (match t e1 with
          | .ok true e2 => (match el e2 with
            | .ok y e3 => if acc.length < 1000000 then mLcL own bd t el ds (acc ++ [y]) (wipeE e3 own) else .bad
            | _ => .bad)
          | .ok false e2 => mLcL own bd t el ds acc (wipeE e2 own)
          | _ => .bad)
        | _ => .bad) := rfl
theorem lc_nil {own : List Nat} {bd : D → M Unit} {t : M Bool} {el : M D} {acc : List D} {e : Ev} : mLcL own bd t el [] acc e = .ok acc e := rfl
theorem sq_to {a b : M Fl} {e e1 : Ev} {R : Rs Fl} (h1 : a e = .ok .nx e1) (h2 : b e1 = R) : mSq a b e = R := by
  unfold mSq; rw [h1]; exact h2
theorem fl_to {bd : D → M Unit} {b : M Fl} {d : D} {ds : List D} {e e1 e2 : Ev} {R : Rs Fl} (h1 : bd d e = .ok () e1) (h2 : b e1 = .ok .nx e2) (h3 : mFl bd b ds e2 = R) : mFl bd b (d :: ds) e = R := by
  rw [fl_eq, h1]; simp only [h2]; exact h3
theorem wh_to {c : M Bool} {b : M Fl} {n : Nat} {e e1 e2 : Ev} {R : Rs Fl} (h1 : c e = .ok true e1) (h2 : b e1 = .ok .nx e2) (h3 : mWh c b n e2 = R) : mWh c b (n + 1) e = R := by
  rw [wh_eq, h1]; simp only [h2]; exact h3
theorem wh_end {c : M Bool} {b : M Fl} {n : Nat} {e e1 : Ev} (h1 : c e = .ok false e1) : mWh c b (n + 1) e = .ok .nx e1 := by
  rw [wh_eq, h1]
theorem Np.o {x : Sl} (h : x = .emp ∨ ∃ d, x = .val d) : ∃ o, x = slOf o := by
  rcases h with rfl | ⟨d, rfl⟩
  · exact ⟨none, rfl⟩
  · exact ⟨some d, rfl⟩
def Np (x : Sl) : Prop := x = .emp ∨ ∃ d, x = .val d
theorem Np.e : Np .emp := .inl rfl
theorem Np.v (d : D) : Np (.val d) := .inr ⟨d, rfl⟩
theorem dIx_ok {ds : List D} {r : Int} (h0 : 0 ≤ r) (h1 : r < ds.length) : ∃ d ∈ ds, dIx (.lst ds) (.int r) = some d := by
  have hr : r.toNat < ds.length := by omega
  refine ⟨ds[r.toNat], List.getElem_mem hr, ?_⟩
  show L2.atI ds r = _
  unfold L2.atI ixN
  rw [if_pos h0, if_pos h1]
  exact List.getElem?_eq_getElem hr
theorem dIx_scr {ns : List Int} {r : Int} (h0 : 0 ≤ r) (h1 : r < ns.length) : ∃ i, dIx (.scr ns) (.int r) = some (.int i) := by
  have hr : r.toNat < ns.length := by omega
  refine ⟨ns[r.toNat], ?_⟩
  show (L2.atI ns r).map D.int = _
  unfold L2.atI ixN
  rw [if_pos h0, if_pos h1]
  show (ns[r.toNat]?).map D.int = _
  rw [List.getElem?_eq_getElem hr]
  rfl
@[simp] theorem jx2a {a b : D} : dIx (.tup [a, b]) (.int 0) = some a := rfl
@[simp] theorem jx2b {a b : D} : dIx (.tup [a, b]) (.int 1) = some b := rfl
@[simp] theorem jx3a {a b c : D} : dIx (.tup [a, b, c]) (.int 0) = some a := rfl
@[simp] theorem jx3b {a b c : D} : dIx (.tup [a, b, c]) (.int 1) = some b := rfl
@[simp] theorem jx3c {a b c : D} : dIx (.tup [a, b, c]) (.int 2) = some c := rfl
@[simp] theorem isi_i {i : Int} : dIsi (.int i) (.ty "int") = some (.bl true) := rfl
@[simp] theorem isi_b {i : Int} : dIsi (.int i) (.ty "bool") = some (.bl false) := rfl
end Fw
namespace Fw
open PySem L2
theorem lc_fm {α : Type} {own : List Nat} {bd : D → M Unit} {t : M Bool} {el : M D} {e : Ev} (dt : α → D) (p : α → Bool) (f : α → D) : ∀ (L : List α) (acc : List D),
    (∀ x ∈ L, ∃ e1, bd (dt x) e = .ok () e1 ∧ ∃ e2, t e1 = .ok (p x) e2 ∧ (p x = false → wipeE e2 own = e) ∧ (p x = true → ∃ e3, el e2 = .ok (f x) e3 ∧ wipeE e3 own = e)) →
    acc.length + L.length ≤ 1000000 → mLcL own bd t el (L.map dt) acc e = .ok (acc ++ (L.filter p).map f) e
  | [], acc, _, _ => by simp [lc_nil]
  | x :: L, acc, h, hl => by
    rw [List.length_cons] at hl
    obtain ⟨e1, b1, e2, b2, b3, b4⟩ := h x List.mem_cons_self
    have ht := fun y hy => h y (List.mem_cons_of_mem _ hy)
    rw [List.map_cons, lc_eq, b1]
    simp only [b2]
    by_cases z : p x = true
    · obtain ⟨e3, b5, b6⟩ := b4 z
      rw [z]
      simp only [b5]
      have hl' : (acc ++ [f x]).length + L.length ≤ 1000000 := by rw [List.length_append, List.length_singleton]; omega
      rw [if_pos (by omega), b6, lc_fm dt p f L (acc ++ [f x]) ht hl', List.filter_cons_of_pos z]
      simp
    · have z : p x = false := by simpa using z
      rw [z]
      simp only [b3 z]
      rw [lc_fm dt p f L acc ht (by omega), List.filter_cons_of_neg (by simp [z])]
theorem lc_map {α : Type} {own : List Nat} {bd : D → M Unit} {el : M D} {e : Ev} (dt : α → D) (f : α → D) (L : List α)
    (h : ∀ x ∈ L, ∃ e1, bd (dt x) e = .ok () e1 ∧ ∃ e3, el e1 = .ok (f x) e3 ∧ wipeE e3 own = e) (hl : L.length ≤ 1000000) : mLcL own bd (mp true) el (L.map dt) [] e = .ok (L.map f) e := by
  rw [lc_fm dt (fun _ => true) f L [] (fun x hx => by
    obtain ⟨e1, b1, e3, b2, b3⟩ := h x hx
    exact ⟨e1, b1, e1, rfl, by simp, fun _ => ⟨e3, b2, b3⟩⟩) (by simpa using hl)]
  rw [List.filter_eq_self.mpr (by simp)]; simp
theorem intsD_map : ∀ L : List Int, intsD (L.map D.int) = some L
  | [] => rfl
  | a :: L => by simp [intsD, intsD_map L]
end Fw
namespace Fw
open PySem L2
theorem pyL_ints : ∀ L : List Int, pyL (L.map D.int) = some (L.map PyData.int)
  | [] => by simp [pyL]
  | a :: L => by simp [pyL, py, pyL_ints L]
theorem lay_ints : ∀ L : List Int, PyData.canLayAll0 (L.map PyData.int) = true
  | [] => by simp [PyData.canLayAll0]
  | a :: L => by simp [PyData.canLayAll0, PyData.canLay0, lay_ints L]
theorem dep_ints : ∀ L : List Int, PyData.depthAll (L.map PyData.int) ≤ 1
  | [] => by simp [PyData.depthAll]
  | a :: L => by have := dep_ints L; simp [PyData.depthAll, PyData.depth]; omega
theorem eqA_ints : ∀ L : List Int, PyData.eqvAll (L.map PyData.int) (L.map PyData.int) = true
  | [] => by simp [PyData.eqvAll]
  | a :: L => by simp [PyData.eqvAll, PyData.eqv, eqA_ints L]
theorem sh_l (L : List Int) : SeqAt.shaped (.list (L.map PyData.int)) = true := by
  have := dep_ints L
  simp [SeqAt.shaped, PyData.canLay0, PyData.depth, lay_ints]; omega
theorem sh_t (L : List Int) : SeqAt.shaped (.tuple (L.map PyData.int)) = true := by
  have := dep_ints L
  simp [SeqAt.shaped, PyData.canLay0, PyData.depth, lay_ints]; omega
theorem eqd_l (L : List Int) : eqData (.lst (L.map D.int)) (.lst (L.map D.int)) = some true := by
  have e : py (.lst (L.map D.int)) = some (.list (L.map PyData.int)) := by simp [py, pyL_ints]
  unfold eqData
  rw [e]
  show (if SeqAt.shaped (.list (L.map PyData.int)) = true ∧ SeqAt.shaped (.list (L.map PyData.int)) = true then some (PyData.eqv (.list (L.map PyData.int)) (.list (L.map PyData.int))) else none) = _
  rw [if_pos ⟨sh_l L, sh_l L⟩, PyData.eqv, eqA_ints]
theorem eqd_t (L : List Int) : eqData (.tup (L.map D.int)) (.tup (L.map D.int)) = some true := by
  have e : py (.tup (L.map D.int)) = some (.tuple (L.map PyData.int)) := by simp [py, pyL_ints]
  unfold eqData
  rw [e]
  show (if SeqAt.shaped (.tuple (L.map PyData.int)) = true ∧ SeqAt.shaped (.tuple (L.map PyData.int)) = true then some (PyData.eqv (.tuple (L.map PyData.int)) (.tuple (L.map PyData.int))) else none) = _
  rw [if_pos ⟨sh_t L, sh_t L⟩, PyData.eqv, eqA_ints]
theorem dEq_ls (L : List Int) : dEq (.lst (L.map D.int)) (.lst (L.map D.int)) = some (.bl true) := by
  show (eqData _ _).map D.bl = _
  rw [eqd_l]; rfl
theorem dEq_ts (L : List Int) : dEq (.tup (L.map D.int)) (.tup (L.map D.int)) = some (.bl true) := by
  show (eqData _ _).map D.bl = _
  rw [eqd_t]; rfl
end Fw
namespace Fw
open PySem L2 PyProof.Rows PySem.Spec
mutual
def flatP : PyData → Bool
  | .none => true
  | .bool _ => true
  | .int i => decide (i.natAbs.log2 < 1920)
  | .str _ => false
  | .list xs => flatPs xs
  | .tuple xs => flatPs xs
  | .dict _ => false
def flatPs : List PyData → Bool
  | [] => true
  | x :: xs => flatP x && flatPs xs
end
mutual
def szP : PyData → Nat
  | .none => 4
  | .bool _ => 5
  | .int _ => 700
  | .str _ => 0
  | .list xs => szPs xs + 2
  | .tuple xs => szPs xs + 4
  | .dict _ => 0
def szPs : List PyData → Nat
  | [] => 0
  | x :: xs => szP x + 2 + szPs xs
end
theorem nat_str (n : Nat) (h : n < 2 ^ 1920) : (PySem.Str.ofString n.repr).length ≤ 600 := by
  have e : (PySem.Str.ofString n.repr).length = n.repr.length := by
    rw [PySem.Str.ofString_eq_toList]
    show (((n.repr).toList.map Char.toNat).toArray).size = _
    rw [Nat.repr_eq_ofList_toDigits]
    simp
  rw [e]
  have b : (2 : Nat) ^ 1920 ≤ 10 ^ 600 := by decide +kernel
  exact (Nat.length_repr_le_iff (by omega)).mpr (by omega)
theorem int_str (i : Int) (h : i.natAbs.log2 < 1920) : (PySem.Str.ofString (toString i)).length ≤ 700 := by
  have hb : i.natAbs < 2 ^ 1920 := by
    by_cases z : i.natAbs = 0
    · rw [z]; exact Nat.two_pow_pos 1920
    · exact (Nat.log2_lt z).mp h
  cases i with
  | ofNat n =>
    have := nat_str n (by simpa using hb)
    show (PySem.Str.ofString (n.repr)).length ≤ 700
    omega
  | negSucc n =>
    have := nat_str (n + 1) (by simpa using hb)
    show (PySem.Str.ofString ("-" ++ (n + 1).repr)).length ≤ 700
    have e : (PySem.Str.ofString ("-" ++ (n + 1).repr)).length = (PySem.Str.ofString (n + 1).repr).length + 1 := by
      rw [PySem.Str.ofString_eq_toList, PySem.Str.ofString_eq_toList]
      show ((("-" ++ (n + 1).repr).toList.map Char.toNat).toArray).size = ((((n + 1).repr).toList.map Char.toNat).toArray).size + 1
      simp
    omega
theorem textFrom_le : ∀ (ts : List PySem.Str) (k : Nat) (acc : PySem.Str), (textFrom k acc ts).length ≤ acc.length + (ts.map fun t => t.length + 2).sum
  | [], k, acc => by simp [textFrom]
  | t :: r, k, acc => by
    have ih := textFrom_le r (k + 1) (acc ++ (if k > 0 then ", " else "" : String) ++ t)
    have e : (acc ++ (if k > 0 then ", " else "" : String) ++ t).length ≤ acc.length + 2 + t.length := by
      rw [PySem.Str.length_append, PySem.Str.length_append]
      have : (PySem.Str.ofString (if k > 0 then ", " else "")).length ≤ 2 := by split <;> decide +kernel
      omega
    show (textFrom (k + 1) (acc ++ (if k > 0 then ", " else "" : String) ++ t) r).length ≤ _
    simp only [List.map_cons, List.sum_cons]
    omega
theorem join_le : ∀ (ts : List PySem.Str), (PySem.Str.join ", " ts).length ≤ (ts.map fun t => t.length + 2).sum
  | [] => by decide +kernel
  | t :: r => by
    have h := join_length_add (t :: r) (by simp)
    have : piled (t :: r) = ((t :: r).map fun t => t.length + 2).sum := by
      unfold piled
      first | rfl | simp
    omega
mutual
theorem shown_le : ∀ p : PyData, flatP p = true → p.shown.length ≤ szP p ∧ p.showable = true
  | .none, _ => ⟨by simp only [PyData.shown, szP]; decide +kernel, by simp only [PyData.showable]⟩
  | .bool b, _ => ⟨by cases b <;> simp only [PyData.shown, szP] <;> decide +kernel, by simp only [PyData.showable]⟩
  | .int i, h => by
    simp only [flatP, decide_eq_true_eq] at h
    exact ⟨by simp only [PyData.shown, szP]; exact int_str i h, by simp only [PyData.showable]; exact decide_eq_true h⟩
  | .str _, h => by simp only [flatP] at h; cases h
  | .dict _, h => by simp only [flatP] at h; cases h
  | .list xs, h => by
    simp only [flatP] at h
    obtain ⟨h1, h2⟩ := shownA_le xs h
    refine ⟨?_, by simp only [PyData.showable]; exact h2⟩
    simp only [PyData.shown, szP]
    unfold listText
    rw [PySem.Str.length_append]
    have := textFrom_le (PyData.shownAll xs) 0 "["
    have e1 : (PySem.Str.ofString "[").length = 1 := by decide +kernel
    have e2 : (PySem.Str.ofString "]").length = 1 := by decide +kernel
    omega
  | .tuple xs, h => by
    simp only [flatP] at h
    obtain ⟨h1, h2⟩ := shownA_le xs h
    refine ⟨?_, by simp only [PyData.showable]; exact h2⟩
    simp only [PyData.shown, szP]
    unfold tupleText
    rw [PySem.Str.length_append, PySem.Str.length_append]
    have := join_le (PyData.shownAll xs)
    have e1 : (PySem.Str.ofString "(").length = 1 := by decide +kernel
    have e2 : ∀ b : Bool, (PySem.Str.ofString (if b = true then ",)" else ")")).length ≤ 2 := by intro b; cases b <;> decide +kernel
    have := e2 ((PyData.shownAll xs).length == 1)
    omega
theorem shownA_le : ∀ ps : List PyData, flatPs ps = true → ((PyData.shownAll ps).map fun t => t.length + 2).sum ≤ szPs ps ∧ PyData.showableAll ps = true
  | [], _ => ⟨by simp only [PyData.shownAll, szPs]; exact Nat.le_refl _, by simp only [PyData.showableAll]⟩
  | p :: ps, h => by
    simp only [flatPs, Bool.and_eq_true] at h
    obtain ⟨h1, h2⟩ := shown_le p h.1
    obtain ⟨h3, h4⟩ := shownA_le ps h.2
    refine ⟨?_, by simp only [PyData.showableAll]; rw [h2, h4]; rfl⟩
    simp only [PyData.shownAll, szPs, List.map_cons, List.sum_cons]
    omega
end
theorem dRepr_some {d : D} {p : PyData} (h : py d = some p) (s : SeqAt.shaped p = true) (f : flatP p = true) (z : szP p ≤ 1000000) : dRepr d = some (.str p.shown) := by
  obtain ⟨h1, h2⟩ := shown_le p f
  unfold dRepr
  rw [h]
  show (if SeqAt.shaped p = true ∧ p.showable = true ∧ p.shown.length ≤ 1000000 then some (D.str p.shown) else none) = _
  rw [if_pos ⟨s, h2, by omega⟩]
end Fw
namespace Nt
def Pr (p : Nat) : Prop := 2 ≤ p ∧ ∀ d, d ∣ p → d = 1 ∨ d = p
theorem pr_of {p m : Nat} (h2 : 2 ≤ p) (hm : p < m * m) (h : ∀ d, d < m → 2 ≤ d → p % d ≠ 0) : Pr p := by
  refine ⟨h2, fun d hd => ?_⟩
  obtain ⟨e, he⟩ := hd
  by_cases d1 : d = 1
  · exact .inl d1
  · by_cases e1 : e = 1
    · right; rw [he, e1, Nat.mul_one]
    · have d0 : d ≠ 0 := by intro z; rw [z, Nat.zero_mul] at he; omega
      have e0 : e ≠ 0 := by intro z; rw [z, Nat.mul_zero] at he; omega
      exfalso
      by_cases dm : d < m
      · exact h d dm (by omega) (by rw [he]; exact Nat.mul_mod_right d e)
      · by_cases em : e < m
        · exact h e em (by omega) (by rw [he]; exact Nat.mul_mod_left d e)
        · have : m * m ≤ d * e := Nat.mul_le_mul (by omega) (by omega)
          omega
theorem Pr.cop {p : Nat} (h : Pr p) {a : Nat} (n : ¬ p ∣ a) : Nat.Coprime p a := by
  rcases h.2 _ (Nat.gcd_dvd_left p a) with z | z
  · exact z
  · exact absurd (z ▸ Nat.gcd_dvd_right p a) n
theorem Pr.dvd {p : Nat} (h : Pr p) {a b : Nat} (d : p ∣ a * b) : p ∣ a ∨ p ∣ b := by
  by_cases n : p ∣ a
  · exact .inl n
  · exact .inr ((h.cop n).dvd_of_dvd_mul_left d)
def C : Nat → Nat → Nat
  | _, 0 => 1
  | 0, _ + 1 => 0
  | n + 1, k + 1 => C n k + C n (k + 1)
theorem C_gt : ∀ (n k : Nat), n < k → C n k = 0
  | 0, k + 1, _ => rfl
  | n + 1, k + 1, h => by
    show C n k + C n (k + 1) = 0
    rw [C_gt n k (by omega), C_gt n (k + 1) (by omega)]
theorem C_self : ∀ n : Nat, C n n = 1
  | 0 => rfl
  | n + 1 => by
    show C n n + C n (n + 1) = 1
    rw [C_self n, C_gt n (n + 1) (by omega)]
theorem C_abs : ∀ (n k : Nat), (k + 1) * C (n + 1) (k + 1) = (n + 1) * C n k
  | 0, 0 => rfl
  | 0, k + 1 => by
    show (k + 2) * (C 0 (k + 1) + C 0 (k + 2)) = 1 * C 0 (k + 1)
    rw [C_gt 0 (k + 1) (by omega), C_gt 0 (k + 2) (by omega)]; simp
  | n + 1, 0 => by
    have := C_abs n 0
    show 1 * (C (n + 1) 0 + C (n + 1) 1) = (n + 2) * C (n + 1) 0
    have z : C (n + 1) 0 = 1 := by cases n <;> rfl
    have z2 : C n 0 = 1 := by cases n <;> rfl
    rw [z2] at this
    have this : 1 * C (n + 1) 1 = (n + 1) * 1 := this
    rw [z]; omega
  | n + 1, k + 1 => by
    have h1 := C_abs n k
    have h2 := C_abs n (k + 1)
    show (k + 2) * (C (n + 1) (k + 1) + C (n + 1) (k + 2)) = (n + 2) * C (n + 1) (k + 1)
    have h3 : C (n + 1) (k + 1) = C n k + C n (k + 1) := rfl
    have e1 : (k + 2) * (C (n + 1) (k + 1) + C (n + 1) (k + 2)) = (k + 1) * C (n + 1) (k + 1) + C (n + 1) (k + 1) + (k + 2) * C (n + 1) (k + 2) := by
      rw [Nat.mul_add, show k + 2 = (k + 1) + 1 from rfl, Nat.add_mul (k + 1) 1, Nat.one_mul]
    have e2 : (n + 2) * C (n + 1) (k + 1) = (n + 1) * C (n + 1) (k + 1) + C (n + 1) (k + 1) := by
      rw [show n + 2 = (n + 1) + 1 from rfl, Nat.add_mul, Nat.one_mul]
    rw [e1, e2, h1, show (k + 2) * C (n + 1) (k + 2) = (n + 1) * C n (k + 1) from h2]
    have e3 : (n + 1) * C (n + 1) (k + 1) = (n + 1) * C n k + (n + 1) * C n (k + 1) := by rw [h3, Nat.mul_add]
    omega
def B (n a : Nat) : Nat → Nat
  | 0 => 0
  | m + 1 => B n a m + C n m * a ^ m
theorem B_step (n a : Nat) : ∀ m : Nat, B (n + 1) a (m + 1) = B n a (m + 1) + a * B n a m
  | 0 => by
    have z : ∀ n, C n 0 = 1 := fun n => by cases n <;> rfl
    simp [B, z]
  | m + 1 => by
    have ih := B_step n a m
    show B (n + 1) a (m + 1) + (C n m + C n (m + 1)) * a ^ (m + 1) = (B n a (m + 1) + C n (m + 1) * a ^ (m + 1)) + a * (B n a m + C n m * a ^ m)
    rw [ih, Nat.add_mul, Nat.mul_add, Nat.pow_succ]
    have : a * (C n m * a ^ m) = C n m * (a ^ m * a) := by
      rw [Nat.mul_comm a, Nat.mul_assoc]
    omega
theorem B_all (a : Nat) : ∀ n : Nat, B n a (n + 1) = (a + 1) ^ n
  | 0 => by simp [B, C]
  | n + 1 => by
    rw [B_step, B_all a n]
    have h2 : B n a (n + 2) = B n a (n + 1) := by
      show B n a (n + 1) + C n (n + 1) * a ^ (n + 1) = _
      rw [C_gt n (n + 1) (by omega)]; omega
    rw [h2, B_all a n, Nat.pow_succ, Nat.mul_add, Nat.mul_one, Nat.mul_comm]
    omega
theorem C_dvd {p : Nat} (h : Pr p) {k : Nat} (h1 : 0 < k) (h2 : k < p) : p ∣ C p k := by
  obtain ⟨q, rfl⟩ : ∃ q, p = q + 1 := ⟨p - 1, by have := h.1; omega⟩
  obtain ⟨j, rfl⟩ : ∃ j, k = j + 1 := ⟨k - 1, by omega⟩
  have e := C_abs q j
  rcases h.dvd (a := j + 1) (b := C (q + 1) (j + 1)) ⟨C q j, by rw [e]⟩ with z | z
  · exact absurd (Nat.le_of_dvd (by omega) z) (by omega)
  · exact z
theorem B_mod {p : Nat} (h : Pr p) (a : Nat) : ∀ m : Nat, m < p → B p a (m + 1) % p = 1
  | 0, _ => by
    have z : ∀ n, C n 0 = 1 := fun n => by cases n <;> rfl
    simp only [B, z]
    have := h.1
    rw [Nat.pow_zero, Nat.zero_add, Nat.mod_eq_of_lt (by omega)]
  | m + 1, hm => by
    have ih := B_mod h a m (by omega)
    obtain ⟨c, hc⟩ := C_dvd h (k := m + 1) (by omega) hm
    show (B p a (m + 1) + C p (m + 1) * a ^ (m + 1)) % p = 1
    rw [hc, Nat.mul_assoc, Nat.add_mul_mod_self_left]
    exact ih
theorem fermat {p : Nat} (h : Pr p) : ∀ a : Nat, a ^ p % p = a % p
  | 0 => by
    have := h.1
    rw [Nat.zero_pow (by omega)]
  | a + 1 => by
    have ih := fermat h a
    rw [← B_all a p]
    show (B p a p + C p p * a ^ p) % p = _
    obtain ⟨q, hq⟩ : ∃ q, p = q + 1 := ⟨p - 1, by have := h.1; omega⟩
    have hB : B p a p % p = 1 := by
      have := B_mod h a q (by omega)
      rw [← hq] at this
      exact this
    rw [C_self, Nat.one_mul, Nat.add_mod, hB, ih, Nat.add_mod a 1]
    have := h.1
    rw [Nat.mod_eq_of_lt (show 1 < p by omega), Nat.add_comm]
theorem fermat1 {p : Nat} (h : Pr p) {a : Nat} (n : ¬ p ∣ a) : a ^ (p - 1) % p = 1 := by
  have h2 := h.1
  have e : a ^ p = a ^ (p - 1) * a := by rw [← Nat.pow_succ, Nat.succ_eq_add_one, Nat.sub_add_cancel (by omega)]
  have f := fermat h a
  have a0 : 0 < a := by
    rcases Nat.eq_zero_or_pos a with z | z
    · rw [z] at n; exact absurd (Nat.dvd_zero p) n
    · exact z
  have p1 : 1 ≤ a ^ (p - 1) := Nat.pow_pos a0
  have le : a ≤ a ^ p := by rw [e]; exact Nat.le_mul_of_pos_left a p1
  have d : p ∣ a ^ p - a := Nat.dvd_of_mod_eq_zero (Nat.sub_mod_eq_zero_of_mod_eq f)
  have e2 : a ^ p - a = (a ^ (p - 1) - 1) * a := by rw [e, Nat.sub_mul, Nat.one_mul]
  rw [e2] at d
  rcases h.dvd d with z | z
  · obtain ⟨c, hc⟩ := z
    have : a ^ (p - 1) = p * c + 1 := by omega
    rw [this, Nat.mul_add_mod, Nat.mod_eq_of_lt (by omega)]
  · exact absurd z n
end Nt
namespace Fw
open PySem L2
section
variable {e : Ev} {β : Type}
@[simp] theorem e_Sle {m : M D} {lo hi : Option (M D)} {op : D → Option Int → Option Int → Option β} : mSl (.e m) lo hi op e = mb m (fun d => mb (mPart lo) fun l => mb (mPart hi) fun u => mo (op d l u)) e := rfl
@[simp] theorem e_Sln {i : Nat} {lo hi : Option (M D)} {op : D → Option Int → Option Int → Option β} : mSl (.n i) lo hi op e = mb (mN i) (fun _ => mb (mPart lo) fun l => mb (mPart hi) fun u => mb (mN i) fun d => mo (op d l u)) e := rfl
@[simp] theorem e_Pt0 : mPart none e = .ok none e := rfl
@[simp] theorem e_Pt1 {i : Int} : mPart (some (mC (.int i))) e = .ok (some i) e := rfl
end
end Fw
namespace Nt
def sm (f : Nat → Nat) : Nat → Nat
  | 0 => 0
  | n + 1 => sm f n + f n
theorem sm_add (f g : Nat → Nat) : ∀ n, sm (fun i => f i + g i) n = sm f n + sm g n
  | 0 => rfl
  | n + 1 => by show sm (fun i => f i + g i) n + (f n + g n) = sm f n + f n + (sm g n + g n); rw [sm_add f g n]; omega
theorem sm_congr {f g : Nat → Nat} : ∀ {n}, (∀ i, i < n → f i = g i) → sm f n = sm g n
  | 0, _ => rfl
  | n + 1, h => by show sm f n + f n = sm g n + g n; rw [sm_congr fun i hi => h i (by omega), h n (by omega)]
theorem sm_const (c : Nat) : ∀ n, sm (fun _ => c) n = n * c
  | 0 => by simp [sm]
  | n + 1 => by show sm _ n + c = _; rw [sm_const c n, Nat.add_mul, Nat.one_mul]
theorem sm_mul (c : Nat) (f : Nat → Nat) : ∀ n, sm (fun i => c * f i) n = c * sm f n
  | 0 => rfl
  | n + 1 => by show sm _ n + c * f n = c * (sm f n + f n); rw [sm_mul c f n, Nat.mul_add]
theorem sm_swap (F : Nat → Nat → Nat) (m : Nat) : ∀ n, sm (fun i => sm (fun j => F i j) m) n = sm (fun j => sm (fun i => F i j) n) m
  | 0 => by show 0 = sm (fun _ => 0) m; rw [sm_const]; omega
  | n + 1 => by
    show sm _ n + sm (fun j => F n j) m = sm (fun j => sm (fun i => F i j) n + F n j) m
    rw [sm_swap F m n, sm_add]
theorem count_le (x : Nat) : ∀ m, sm (fun j => if j + 1 ≤ x then 1 else 0) m = if x ≤ m then x else m
  | 0 => by show 0 = _; split <;> omega
  | m + 1 => by
    show sm _ m + (if m + 1 ≤ x then 1 else 0) = _
    rw [count_le x m]
    split <;> split <;> split <;> omega
def lp : List Nat → Nat
  | [] => 1
  | x :: l => x * lp l
def ls : List Nat → Nat
  | [] => 0
  | x :: l => x + ls l
theorem lp_perm {l l' : List Nat} (h : l.Perm l') : lp l = lp l' := by
  induction h with
  | nil => rfl
  | cons x _ ih => show x * _ = x * _; rw [ih]
  | swap x y l => show y * (x * lp l) = x * (y * lp l); rw [Nat.mul_left_comm]
  | trans _ _ a b => exact a.trans b
theorem ls_perm {l l' : List Nat} (h : l.Perm l') : ls l = ls l' := by
  induction h with
  | nil => rfl
  | cons x _ ih => show x + _ = x + _; rw [ih]
  | swap x y l => show y + (x + ls l) = x + (y + ls l); omega
  | trans _ _ a b => exact a.trans b
theorem pig : ∀ (n : Nat) (L : List Nat), L.Nodup → (∀ x ∈ L, 1 ≤ x ∧ x ≤ n) → L.length ≤ n
  | 0, L, _, h => by
    cases L with
    | nil => exact Nat.le_refl _
    | cons x l => have := h x List.mem_cons_self; omega
  | n + 1, L, nd, h => by
    by_cases m : n + 1 ∈ L
    · have e := List.length_erase_of_mem m
      have := pig n (L.erase (n + 1)) (nd.erase _) fun x hx => by
        have := (nd.mem_erase_iff).mp hx
        have := h x this.2
        omega
      omega
    · have := pig n L nd fun x hx => by
        have := h x hx
        have : x ≠ n + 1 := fun z => m (z ▸ hx)
        omega
      omega
def dn : Nat → List Nat
  | 0 => []
  | n + 1 => (n + 1) :: dn n
theorem perm_dn : ∀ (n : Nat) (L : List Nat), L.Nodup → (∀ x ∈ L, 1 ≤ x ∧ x ≤ n) → L.length = n → L.Perm (dn n)
  | 0, L, _, _, hl => by
    have : L = [] := List.eq_nil_of_length_eq_zero hl
    subst this; exact .refl _
  | n + 1, L, nd, h, hl => by
    have m : n + 1 ∈ L := by
      by_cases m : n + 1 ∈ L
      · exact m
      · have := pig n L nd fun x hx => by
          have := h x hx
          have : x ≠ n + 1 := fun z => m (z ▸ hx)
          omega
        omega
    refine (List.perm_cons_erase m).trans (.cons _ ?_)
    refine perm_dn n _ (nd.erase _) (fun x hx => ?_) ?_
    · have := (nd.mem_erase_iff).mp hx
      have := h x this.2
      omega
    · have e := List.length_erase_of_mem m
      omega
def up (f : Nat → Nat) : Nat → List Nat
  | 0 => []
  | n + 1 => f n :: up f n
theorem up_mem {f : Nat → Nat} {x : Nat} : ∀ {n}, x ∈ up f n → ∃ i, i < n ∧ x = f i
  | 0, h => by cases h
  | n + 1, h => by
    rcases List.mem_cons.mp h with h | h
    · exact ⟨n, by omega, h⟩
    · obtain ⟨i, a, b⟩ := up_mem h; exact ⟨i, by omega, b⟩
theorem up_len (f : Nat → Nat) : ∀ n, (up f n).length = n
  | 0 => rfl
  | n + 1 => by show (up f n).length + 1 = _; rw [up_len f n]
theorem up_nodup {f : Nat → Nat} : ∀ {n}, (∀ i j, i < n → j < n → f i = f j → i = j) → (up f n).Nodup
  | 0, _ => .nil
  | n + 1, h => .cons (fun x hx => by
      obtain ⟨i, a, b⟩ := up_mem hx
      intro z
      rw [b] at z
      have := h n i (by omega) (by omega) z
      omega) (up_nodup fun i j a b => h i j (by omega) (by omega))
theorem up_ls (f : Nat → Nat) : ∀ n, ls (up f n) = sm f n
  | 0 => rfl
  | n + 1 => by show f n + ls (up f n) = sm f n + f n; rw [up_ls f n]; omega
theorem dn_up : ∀ n, dn n = up (fun i => i + 1) n
  | 0 => rfl
  | n + 1 => by show (n + 1) :: dn n = _ :: up _ n; rw [dn_up n]
def s1 (n : Nat) : Int := if n % 2 = 0 then 1 else -1
theorem s1_add (m n : Nat) : s1 (m + n) = s1 m * s1 n := by
  unfold s1
  have : m % 2 = 0 ∨ m % 2 = 1 := by omega
  have : n % 2 = 0 ∨ n % 2 = 1 := by omega
  split <;> split <;> split <;> omega
theorem s1_sq (m : Nat) : s1 m * s1 m = 1 := by unfold s1; split <;> rfl
theorem s1_par {m n : Nat} (h : m % 2 = n % 2) : s1 m = s1 n := by unfold s1; rw [h]
section
variable {p a h : Nat}
def gr (p a i : Nat) : Nat := a * (i + 1) % p
def ge (p a i : Nat) : Nat := if p < 2 * gr p a i then 1 else 0
def gs (p a i : Nat) : Nat := if p < 2 * gr p a i then p - gr p a i else gr p a i
theorem gr_pos (hp : Pr p) (hh : p = 2 * h + 1) (n : ¬ p ∣ a) {i : Nat} (hi : i < h) : 1 ≤ gr p a i ∧ gr p a i < p := by
  refine ⟨?_, Nat.mod_lt _ (by omega)⟩
  rcases Nat.eq_zero_or_pos (gr p a i) with z | z
  · rcases hp.dvd (Nat.dvd_of_mod_eq_zero z) with y | y
    · exact absurd y n
    · have := Nat.le_of_dvd (by omega) y; omega
  · exact z
theorem gs_bd (hp : Pr p) (hh : p = 2 * h + 1) (n : ¬ p ∣ a) {i : Nat} (hi : i < h) : 1 ≤ gs p a i ∧ gs p a i ≤ h := by
  have := gr_pos hp hh n hi
  unfold gs; split <;> omega
theorem gs_cong (i : Nat) (hp : 0 < p) : ((p : Int)) ∣ ((a : Int) * ((i : Int) + 1) - s1 (ge p a i) * (gs p a i : Int)) := by
  have e : ((a * (i + 1) : Nat) : Int) = (p : Int) * ((a * (i + 1) / p : Nat) : Int) + ((gr p a i : Nat) : Int) := by
    rw [← Int.natCast_mul, ← Int.natCast_add]
    exact congrArg _ (Nat.div_add_mod (a * (i + 1)) p).symm
  have lt : gr p a i < p := Nat.mod_lt _ hp
  have e2 : (a : Int) * ((i : Int) + 1) = ((a * (i + 1) : Nat) : Int) := by rw [Int.natCast_mul, Int.natCast_add]; rfl
  rw [e2, e]
  generalize a * (i + 1) / p = q
  unfold ge gs s1
  split
  · rename_i c
    rw [if_neg (by omega), Int.natCast_sub (by omega)]
    exact ⟨(q : Int) + 1, by rw [Int.mul_add]; omega⟩
  · rw [if_pos (by omega)]
    exact ⟨(q : Int), by omega⟩
theorem gs_inj (hp : Pr p) (hh : p = 2 * h + 1) (n : ¬ p ∣ a) {i j : Nat} (hi : i < h) (hj : j < h) (e : gs p a i = gs p a j) : i = j := by
  have p0 : 0 < p := by omega
  have c1 := gs_cong (p := p) (a := a) i p0
  have c2 := gs_cong (p := p) (a := a) j p0
  rw [e] at c1
  have key : ((p : Int)) ∣ ((a : Int) * ((i : Int) - j)) ∨ ((p : Int)) ∣ ((a : Int) * ((i : Int) + j + 2)) := by
    by_cases q : s1 (ge p a i) = s1 (ge p a j)
    · left
      rw [q] at c1
      have := Int.dvd_sub c1 c2
      have e3 : (a : Int) * ((i : Int) + 1) - s1 (ge p a j) * (gs p a j : Int) - ((a : Int) * ((j : Int) + 1) - s1 (ge p a j) * (gs p a j : Int)) = (a : Int) * ((i : Int) - j) := by grind
      rw [e3] at this; exact this
    · right
      have q2 : s1 (ge p a i) = - s1 (ge p a j) := by
        unfold s1 at q ⊢
        split <;> split <;> simp_all
      rw [q2] at c1
      have := Int.dvd_add c1 c2
      have e3 : (a : Int) * ((i : Int) + 1) - -s1 (ge p a j) * (gs p a j : Int) + ((a : Int) * ((j : Int) + 1) - s1 (ge p a j) * (gs p a j : Int)) = (a : Int) * ((i : Int) + j + 2) := by grind
      rw [e3] at this; exact this
  have nat : p ∣ a * ((i - j) + (j - i)) ∨ p ∣ a * (i + j + 2) := by
    rcases key with k | k
    · have k' := Int.natAbs_dvd_natAbs.mpr k
      rw [Int.natAbs_natCast, Int.natAbs_mul, Int.natAbs_natCast] at k'
      left
      have : ((i : Int) - j).natAbs = (i - j) + (j - i) := by omega
      rwa [this] at k'
    · right
      have k' := Int.natAbs_dvd_natAbs.mpr k
      rw [Int.natAbs_natCast, Int.natAbs_mul, Int.natAbs_natCast] at k'
      have : ((i : Int) + j + 2).natAbs = i + j + 2 := by omega
      rwa [this] at k'
  rcases nat with k | k
  · rcases hp.dvd k with y | y
    · exact absurd y n
    · by_cases z : 0 < (i - j) + (j - i)
      · have := Nat.le_of_dvd z y; omega
      · omega
  · rcases hp.dvd k with y | y
    · exact absurd y n
    · have := Nat.le_of_dvd (by omega) y; omega
end
end Nt
namespace Nt
def pz (f : Nat → Int) : Nat → Int
  | 0 => 1
  | n + 1 => f n * pz f n
theorem pz_cong {p : Int} {f g : Nat → Int} : ∀ {n}, (∀ i, i < n → p ∣ f i - g i) → p ∣ pz f n - pz g n
  | 0, _ => ⟨0, by simp [pz]⟩
  | n + 1, h => by
    have a := pz_cong (n := n) fun i hi => h i (by omega)
    have b := h n (by omega)
    have : pz f (n + 1) - pz g (n + 1) = f n * (pz f n - pz g n) + (f n - g n) * pz g n := by
      show f n * pz f n - g n * pz g n = _
      grind
    rw [this]
    exact Int.dvd_add (Int.dvd_mul_of_dvd_right a) (Int.dvd_mul_of_dvd_left b)
theorem pz_lin (a : Nat) : ∀ h, pz (fun i => (a : Int) * ((i : Int) + 1)) h = (a : Int) ^ h * (lp (dn h) : Int)
  | 0 => by simp [pz, dn, lp]
  | h + 1 => by
    show (a : Int) * ((h : Int) + 1) * pz _ h = (a : Int) ^ (h + 1) * (((h + 1) * lp (dn h) : Nat) : Int)
    rw [pz_lin a h, Int.natCast_mul, Int.pow_succ, Int.natCast_add]
    generalize (lp (dn h) : Int) = x
    generalize (a : Int) ^ h = y
    show (a : Int) * ((h : Int) + 1) * (y * x) = y * a * (((h : Int) + 1) * x)
    grind
theorem pz_sgn (e s : Nat → Nat) : ∀ h, pz (fun i => s1 (e i) * (s i : Int)) h = s1 (sm e h) * (lp (up s h) : Int)
  | 0 => by simp [pz, up, lp, sm, s1]
  | h + 1 => by
    show s1 (e h) * (s h : Int) * pz _ h = s1 (sm e h + e h) * ((s h * lp (up s h) : Nat) : Int)
    rw [pz_sgn e s h, Int.natCast_mul, s1_add]
    generalize (lp (up s h) : Int) = x
    grind
theorem dn_ndvd {p : Nat} (hp : Pr p) : ∀ {h}, h < p → ¬ p ∣ lp (dn h)
  | 0, _, z => by
    have := hp.1
    have := Nat.le_of_dvd (by decide) (show p ∣ 1 from z)
    omega
  | h + 1, hl, z => by
    rcases hp.dvd (show p ∣ (h + 1) * lp (dn h) from z) with y | y
    · have := Nat.le_of_dvd (by omega) y; omega
    · exact dn_ndvd hp (by omega) y
theorem Pr.dvdI {p : Nat} (hp : Pr p) {a b : Int} (d : (p : Int) ∣ a * b) : (p : Int) ∣ a ∨ (p : Int) ∣ b := by
  have d' := Int.natAbs_dvd_natAbs.mpr d
  rw [Int.natAbs_natCast, Int.natAbs_mul] at d'
  rcases hp.dvd d' with z | z
  · exact .inl (Int.natAbs_dvd_natAbs.mp (by rwa [Int.natAbs_natCast]))
  · exact .inr (Int.natAbs_dvd_natAbs.mp (by rwa [Int.natAbs_natCast]))
section
variable {p a h : Nat}
theorem gs_perm (hp : Pr p) (hh : p = 2 * h + 1) (n : ¬ p ∣ a) : (up (gs p a) h).Perm (dn h) :=
  perm_dn h _ (up_nodup fun i j hi hj e => gs_inj hp hh n hi hj e) (fun x hx => by
    obtain ⟨i, hi, rfl⟩ := up_mem hx
    exact gs_bd hp hh n hi) (up_len _ _)
theorem gauss (hp : Pr p) (hh : p = 2 * h + 1) (n : ¬ p ∣ a) : (p : Int) ∣ (a : Int) ^ h - s1 (sm (ge p a) h) := by
  have c := pz_cong (p := (p : Int)) (f := fun i => (a : Int) * ((i : Int) + 1)) (g := fun i => s1 (ge p a i) * (gs p a i : Int)) (n := h) fun i hi => gs_cong i (by omega)
  rw [pz_lin, pz_sgn, lp_perm (gs_perm hp hh n), ← Int.sub_mul] at c
  rcases hp.dvdI c with z | z
  · exact z
  · have := Int.natAbs_dvd_natAbs.mpr z
    rw [Int.natAbs_natCast, Int.natAbs_natCast] at this
    exact absurd this (dn_ndvd hp (by omega))
theorem gauss_par (hp : Pr p) (hh : p = 2 * h + 1) (n : ¬ p ∣ a) : ∃ X, a * sm (fun i => i + 1) h + 2 * X = p * sm (fun i => a * (i + 1) / p) h + sm (fun i => i + 1) h + p * sm (ge p a) h := by
  have T : sm (gs p a) h = sm (fun i => i + 1) h := by
    rw [← up_ls, ← up_ls, ls_perm (gs_perm hp hh n), dn_up]
  refine ⟨sm (fun i => gs p a i * ge p a i) h, ?_⟩
  have e1 : a * sm (fun i => i + 1) h = p * sm (fun i => a * (i + 1) / p) h + sm (gr p a) h := by
    rw [← sm_mul, ← sm_mul, ← sm_add]
    exact sm_congr fun i _ => (Nat.div_add_mod (a * (i + 1)) p).symm
  have e2 : sm (gr p a) h + 2 * sm (fun i => gs p a i * ge p a i) h = sm (gs p a) h + p * sm (ge p a) h := by
    rw [← sm_mul, ← sm_mul, ← sm_add, ← sm_add]
    refine sm_congr fun i hi => ?_
    have lt := gr_pos hp hh n hi
    show gr p a i + 2 * (gs p a i * ge p a i) = gs p a i + p * ge p a i
    unfold gs ge
    split <;> omega
  omega
theorem tri : ∀ h, 2 * sm (fun i => i + 1) h = h * (h + 1)
  | 0 => rfl
  | h + 1 => by
    show 2 * (sm _ h + (h + 1)) = _
    rw [Nat.mul_add, tri h]
    have : (h + 1) * (h + 1 + 1) = h * (h + 1) + 2 * (h + 1) := by rw [← Nat.add_mul]; exact Nat.mul_comm _ _
    omega
end
theorem points {p q h k : Nat} (hp : Pr p) (hq : Pr q) (ne : p ≠ q) (hh : p = 2 * h + 1) (hk : q = 2 * k + 1) : sm (fun i => q * (i + 1) / p) h + sm (fun j => p * (j + 1) / q) k = h * k := by
  have one : ∀ i, i < h → q * (i + 1) / p = sm (fun j => if p * (j + 1) ≤ q * (i + 1) then 1 else 0) k := fun i hi => by
    have le : q * (i + 1) / p ≤ k := by
      have : q * (i + 1) < p * (k + 1) := by
        have : q * (i + 1) ≤ q * h := Nat.mul_le_mul_left _ (by omega)
        have e : q * h = 2 * (k * h) + h := by rw [hk, Nat.add_mul, Nat.mul_assoc, Nat.one_mul]
        have e' : p * (k + 1) = 2 * (k * h) + 2 * h + k + 1 := by rw [hh, Nat.mul_add, Nat.add_mul, Nat.mul_assoc, Nat.mul_comm h k]; omega
        omega
      have := (Nat.div_lt_iff_lt_mul (show 0 < p by omega)).mpr (by rw [Nat.mul_comm]; exact this)
      omega
    have := count_le (q * (i + 1) / p) k
    rw [if_pos le] at this
    rw [← this]
    refine sm_congr fun j _ => ?_
    have e : (j + 1 ≤ q * (i + 1) / p) ↔ p * (j + 1) ≤ q * (i + 1) := by rw [Nat.le_div_iff_mul_le (by omega), Nat.mul_comm p]
    simp only [e]
  have two : ∀ j, j < k → p * (j + 1) / q = sm (fun i => if q * (i + 1) ≤ p * (j + 1) then 1 else 0) h := fun j hj => by
    have le : p * (j + 1) / q ≤ h := by
      have : p * (j + 1) < q * (h + 1) := by
        have : p * (j + 1) ≤ p * k := Nat.mul_le_mul_left _ (by omega)
        have e : p * k = 2 * (h * k) + k := by rw [hh, Nat.add_mul, Nat.mul_assoc, Nat.one_mul]
        have e' : q * (h + 1) = 2 * (h * k) + 2 * k + h + 1 := by rw [hk, Nat.mul_add, Nat.add_mul, Nat.mul_assoc, Nat.mul_comm k h]; omega
        omega
      have := (Nat.div_lt_iff_lt_mul (show 0 < q by omega)).mpr (by rw [Nat.mul_comm]; exact this)
      omega
    have := count_le (p * (j + 1) / q) h
    rw [if_pos le] at this
    rw [← this]
    refine sm_congr fun i _ => ?_
    have e : (i + 1 ≤ p * (j + 1) / q) ↔ q * (i + 1) ≤ p * (j + 1) := by rw [Nat.le_div_iff_mul_le (by omega), Nat.mul_comm q]
    simp only [e]
  rw [sm_congr one, sm_congr two, sm_swap (fun j i => if q * (i + 1) ≤ p * (j + 1) then 1 else 0), ← sm_add]
  have : ∀ i, i < h → sm (fun j => if p * (j + 1) ≤ q * (i + 1) then 1 else 0) k + sm (fun j => if q * (i + 1) ≤ p * (j + 1) then 1 else 0) k = k := fun i hi => by
    rw [← sm_add]
    refine (sm_congr (g := fun _ => 1) fun j hj => ?_).trans (by rw [sm_const]; omega)
    have : p * (j + 1) ≠ q * (i + 1) := fun z => by
      have d : p ∣ q * (i + 1) := ⟨j + 1, z.symm⟩
      rcases hp.dvd d with y | y
      · rcases hq.2 p y with w | w
        · have := hp.1; omega
        · exact ne w
      · have := Nat.le_of_dvd (by omega) y; omega
    show (if p * (j + 1) ≤ q * (i + 1) then 1 else 0) + (if q * (i + 1) ≤ p * (j + 1) then 1 else 0) = 1
    split <;> split <;> omega
  rw [sm_congr this, sm_const]
end Nt
namespace Fw
open PySem L2
def chest (x y z : Int) : D := .lst [.int x, .int y, .int z]
theorem ix0 {a b c : D} : dIx (.lst [a, b, c]) (.int 0) = some a := rfl
theorem ix1 {a b c : D} : dIx (.lst [a, b, c]) (.int 1) = some b := rfl
theorem ix2 {a b c : D} : dIx (.lst [a, b, c]) (.int 2) = some c := rfl
theorem nx0 : ixN 3 0 = some 0 := rfl
theorem nx1' : ixN 3 1 = some 1 := rfl
theorem nx2 : ixN 3 2 = some 2 := rfl
theorem fetch_ok (n : Nat) (k x y z m : Int) (hx : 0 ≤ x) (hy : 0 ≤ y ∧ y < 4294967296) (hz : 0 ≤ z ∧ z ≤ k ∧ k < 1000000000) (hm : 0 < m) (hm2 : m < 1073741824) : ∃ r x' y' z' : Int, 0 ≤ r ∧ r < m ∧ 0 ≤ x' ∧ (0 ≤ y' ∧ y' < 4294967296) ∧ (0 ≤ z' ∧ z' ≤ k + 1) ∧ f__law_fetch n [.pbox (chest x y z), .val (.int m)] = .ok (.v (.int r)) [.pbox (chest x' y' z'), .val (.int m)] := by
  by_cases c : 0 < x
  · refine ⟨x % m, x / m, y, z, Int.emod_nonneg _ (by omega), Int.emod_lt_of_pos _ hm, Int.ediv_nonneg hx (by omega), hy, by omega, ?_⟩
    simp [f__law_fetch, fn_eq, m__law_fetch, chest, ix0, ix1, ix2, nx0, nx1', nx2, dDm_pos hm hm2, c]
  · generalize e : f__law_fetch n [.pbox (chest x y z), .val (.int m)] = R
    simp (disch := omega) [f__law_fetch, fn_eq, m__law_fetch, chest, ix0, ix1, ix2, nx0, nx1', nx2, c, dMod_pos, dFdiv_pos, dMul_l, dMul_r, hm] at e
    subst e
    refine ⟨_, _, _, _, ?a, ?b, hx, ⟨?c, ?d⟩, ⟨?e, ?f⟩, rfl⟩
    case a => exact Int.emod_nonneg _ (by omega)
    case b => exact Int.emod_lt_of_pos _ hm
    case c => exact Int.emod_nonneg _ (by omega)
    case d => exact Int.lt_trans (Int.emod_lt_of_pos _ (by omega)) (by omega)
    case e => omega
    case f => omega
end Fw
namespace Fw
open PySem L2
def Dec (p a : Int) (v : Nat) (u : Int) : Prop := a = p ^ v * u ∧ u % p ≠ 0
theorem Dec.zero {p a : Int} (h : a % p ≠ 0) : Dec p a 0 a := ⟨by rw [Int.pow_zero, Int.one_mul], h⟩
theorem Dec.succ {p a : Int} (h : a % p = 0) {v : Nat} {u : Int} (d : Dec p (a / p) v u) : Dec p a (v + 1) u := by
  refine ⟨?_, d.2⟩
  have e : p * (a / p) = a := Int.mul_ediv_cancel' (Int.dvd_of_emod_eq_zero h)
  rw [← e, d.1, Int.pow_succ, Int.mul_comm (p ^ v) p, Int.mul_assoc]
theorem Dec.uniq {p : Int} (hp : 2 ≤ p) : ∀ {v w : Nat} {a u t : Int}, Dec p a v u → Dec p a w t → v = w ∧ u = t
  | 0, 0, a, u, t, h, h' => ⟨rfl, by have := h.1; have := h'.1; simp at *; omega⟩
  | 0, w + 1, a, u, t, h, h' => by
    exfalso
    have e1 := h.1; have e2 := h'.1
    rw [Int.pow_zero, Int.one_mul] at e1
    apply h.2
    rw [← e1, e2, Int.pow_succ, Int.mul_comm (p ^ w) p, Int.mul_assoc]
    exact Int.mul_emod_right _ _
  | v + 1, 0, a, u, t, h, h' => by
    exfalso
    have e1 := h'.1; have e2 := h.1
    rw [Int.pow_zero, Int.one_mul] at e1
    apply h'.2
    rw [← e1, e2, Int.pow_succ, Int.mul_comm (p ^ v) p, Int.mul_assoc]
    exact Int.mul_emod_right _ _
  | v + 1, w + 1, a, u, t, h, h' => by
    have e1 := h.1; have e2 := h'.1
    rw [Int.pow_succ, Int.mul_comm (p ^ v) p, Int.mul_assoc] at e1
    rw [Int.pow_succ, Int.mul_comm (p ^ w) p, Int.mul_assoc] at e2
    have e : p ^ v * u = p ^ w * t := Int.eq_of_mul_eq_mul_left (show p ≠ 0 by omega) (e1.symm.trans e2)
    obtain ⟨x, y⟩ := Dec.uniq hp (a := p ^ v * u) ⟨rfl, h.2⟩ ⟨e, h'.2⟩
    exact ⟨by omega, y⟩
theorem Dec.mul {p a b u t : Int} {v w : Nat} (h : Dec p a v u) (h' : Dec p b w t) (n : (u * t) % p ≠ 0) : Dec p (a * b) (v + w) (u * t) := by
  refine ⟨?_, n⟩
  rw [h.1, h'.1, Int.pow_add]
  simp only [Int.mul_assoc, Int.mul_left_comm]
theorem half {p a : Int} (hp : 2 ≤ p) (h : a % p = 0) (h0 : a ≠ 0) {k : Nat} (hk : a.natAbs < 2 ^ (k + 1)) : a / p ≠ 0 ∧ (a / p).natAbs < 2 ^ k := by
  have e : p * (a / p) = a := Int.mul_ediv_cancel' (Int.dvd_of_emod_eq_zero h)
  have n0 : a / p ≠ 0 := fun z => h0 (by rw [← e, z, Int.mul_zero])
  refine ⟨n0, ?_⟩
  have e2 : p.natAbs * (a / p).natAbs = a.natAbs := by rw [← Int.natAbs_mul, e]
  have : 2 * (a / p).natAbs ≤ p.natAbs * (a / p).natAbs := Nat.mul_le_mul_right _ (by omega)
  rw [Nat.pow_succ] at hk
  omega
theorem parted_loop {p : Int} (hp : 2 ≤ p ∧ p < 1000000000000) : ∀ (k : Nat) (a f : Int) (n : Nat), a ≠ 0 → a.natAbs < 2 ^ k → k < n → ∃ (v : Nat) (u : Int), Dec p a v u ∧
    mWh (mCmp dEq (.e (mOp dMod (.e (mVar 0)) (.e (mVar 1)))) (.e (mC (.int 0)))) (mPar [0, 2] [.e (mOp dFdiv (.e (mVar 0)) (.e (mVar 1))), .e (mOp dAdd (.e (mVar 2)) (.e (mC (.int 1))))]) n [.val (.int a), .val (.int p), .val (.int f)]
      = .ok .nx [.val (.int u), .val (.int p), .val (.int (f + v))]
  | 0, a, f, n, h0, hk, _ => by exfalso; simp at hk; omega
  | k + 1, a, f, 0, h0, hk, hn => by omega
  | k + 1, a, f, n + 1, h0, hk, hn => by
    by_cases z : a % p = 0
    · obtain ⟨h1, h2⟩ := half hp.1 z h0 hk
      obtain ⟨v, u, hd, e⟩ := parted_loop hp k (a / p) (f + 1) n h1 h2 (by omega)
      refine ⟨v + 1, u, Dec.succ z hd, ?_⟩
      rw [wh_eq]
      simp (disch := omega) [dMod_pos, dFdiv_pos, z]
      rw [e]
      simp; omega
    · refine ⟨0, a, Dec.zero z, ?_⟩
      rw [wh_eq]
      simp (disch := omega) [dMod_pos, z]
theorem parted_ok {p : Int} (hp : 2 ≤ p ∧ p < 1000000000000) {a : Int} (h0 : a ≠ 0) (ha : a.natAbs < 2 ^ 100) {n : Nat} (hn : 100 < n) : ∃ (v : Nat) (u : Int) (s : List Sl), Dec p a v u ∧ f_parted n [.val (.int a), .val (.int p)] = .ok (.v (.tup [.int v, .int u])) s := by
  obtain ⟨v, u, hd, e⟩ := parted_loop hp 100 a 0 n h0 ha hn
  refine ⟨v, u, [.val (.int u), .val (.int p)], hd, ?_⟩
  simp [f_parted, fn_eq, m_parted, c_parted_1, b_parted_1, e]
theorem split_loop {p : Int} (hp : 2 ≤ p ∧ p < 1000000000000) (o : Int) : ∀ (k : Nat) (a f : Int) (L : List Int) (s : Sl), (∀ d, s ≠ .pbox d) → a ≠ 0 → a.natAbs < 2 ^ k → k < L.length → ∃ (v : Nat) (u : Int) (s' : Sl), Dec p a v u ∧
    mFl (Fw.setV 4) (mSq (mIf (mCmp dNe (.e (mOp dMod (.e (mCB (op1 dInt) [(.e (mVar 3))])) (.e (mVar 1)))) (.e (mC (.int 0)))) (mp .bk) (mp .nx))
      (mPar [2, 3] [.e (mOp dAdd (.e (mVar 2)) (.e (mC (.int 1)))), .e (mOp dFdiv (.e (mVar 3)) (.e (mVar 1)))])) (L.map D.int) [.val (.int o), .val (.int p), .val (.int f), .val (.int a), s]
      = .ok .nx [.val (.int o), .val (.int p), .val (.int (f + v)), .val (.int u), s']
  | 0, a, f, L, s, hs, h0, hk, _ => by exfalso; simp at hk; omega
  | k + 1, a, f, [], s, hs, h0, hk, hn => by simp at hn
  | k + 1, a, f, i :: L, s, hs, h0, hk, hn => by
    have st : Fw.setV 4 (.int i) [.val (.int o), .val (.int p), .val (.int f), .val (.int a), s] = .ok () [.val (.int o), .val (.int p), .val (.int f), .val (.int a), .val (.int i)] := by
      cases s with
      | pbox d => exact absurd rfl (hs d)
      | _ => rfl
    by_cases z : a % p = 0
    · obtain ⟨h1, h2⟩ := half hp.1 z h0 hk
      obtain ⟨v, u, s', hd, e⟩ := split_loop hp o k (a / p) (f + 1) L (.val (.int i)) (fun d q => nomatch q) h1 h2 (by simp at hn; omega)
      refine ⟨v + 1, u, s', Dec.succ z hd, ?_⟩
      rw [List.map_cons, fl_eq, st]
      simp (disch := omega) [dMod_pos, dFdiv_pos, z]
      rw [e]
      simp; omega
    · refine ⟨0, a, .val (.int i), Dec.zero z, ?_⟩
      rw [List.map_cons, fl_eq, st]
      simp (disch := omega) [dMod_pos, z]
theorem split_ok {p : Int} (hp : 2 ≤ p ∧ p < 1000000000000) {a : Int} (h0 : a ≠ 0) (ha : a.natAbs < 2 ^ 100) {n : Nat} : ∃ (v : Nat) (u : Int) (s : List Sl), Dec p a v u ∧ f__law_split n [.val (.int a), .val (.int p)] = .ok (.v (.tup [.int v, .int u])) s := by
  obtain ⟨v, u, s', hd, e⟩ := split_loop hp a 100 a 0 ((List.range 400).map fun i : Nat => (0 : Int) + (i : Int)) .emp (fun d q => nomatch q) h0 ha (by rw [List.length_map, List.length_range]; omega)
  rw [List.map_map] at e
  refine ⟨v, u, [.val (.int a), .val (.int p)], hd, ?_⟩
  have r : dR1 [.int 400] = some ((List.range 400).map (D.int ∘ fun i : Nat => (0 : Int) + (i : Int))) := rfl
  generalize (List.range 400).map (D.int ∘ fun i : Nat => (0 : Int) + (i : Int)) = L at e r
  simp [f__law_split, fn_eq, m__law_split, b__law_split_1, r, e]
theorem pow_emod (p b : Int) : ∀ m : Nat, (b % p) ^ m % p = b ^ m % p
  | 0 => by rw [Int.pow_zero, Int.pow_zero]
  | m + 1 => by rw [Int.pow_succ, Int.pow_succ, Int.mul_emod, pow_emod p b m, Int.emod_emod_of_dvd _ (Int.dvd_refl p), ← Int.mul_emod]
theorem sq_step (p f b : Int) (m : Nat) : (f * ((b * b) % p) ^ m) % p = (f * b ^ (2 * m)) % p := by
  have e : b ^ (2 * m) = (b * b) ^ m := by rw [Nat.two_mul, Int.pow_add, ← Int.mul_pow]
  rw [Int.mul_emod, pow_emod, e, ← Int.mul_emod]
theorem resid_loop {p a : Int} (hp : 2 ≤ p ∧ p < 4294967296) : ∀ (k w : Nat) (f b : Int) (n : Nat), 0 ≤ f ∧ f < p → 0 ≤ b ∧ b < p → w < 2 ^ k → k < n → ∃ b' : Int,
    mWh (mCmp dGt (.e (mVar 4)) (.e (mC (.int 0)))) (mSq (mIf (mCmp dEq (.e (mOp dMod (.e (mVar 4)) (.e (mC (.int 2))))) (.e (mC (.int 1)))) (mSet 2 (mOp dMod (.e (mOp dMul (.e (mVar 2)) (.e (mVar 3)))) (.e (mVar 1)))) (mp .nx))
      (mPar [3, 4] [.e (mOp dMod (.e (mOp dMul (.e (mVar 3)) (.e (mVar 3)))) (.e (mVar 1))), .e (mOp dFdiv (.e (mVar 4)) (.e (mC (.int 2))))])) n [.val (.int a), .val (.int p), .val (.int f), .val (.int b), .val (.int w)]
      = .ok .nx [.val (.int a), .val (.int p), .val (.int (f * b ^ w % p)), .val (.int b'), .val (.int 0)]
  | _, 0, f, b, 0, hf, hb, hw, hn => by omega
  | _, 0, f, b, n + 1, hf, hb, hw, hn => by
    refine ⟨b, ?_⟩
    rw [wh_eq]
    have : f % p = f := Int.emod_eq_of_lt hf.1 hf.2
    simp [this]
  | 0, w + 1, f, b, n, hf, hb, hw, hn => by simp at hw
  | k + 1, w + 1, f, b, 0, hf, hb, hw, hn => by omega
  | k + 1, w + 1, f, b, n + 1, hf, hb, hw, hn => by
    have b2 : 0 ≤ b * b % p ∧ b * b % p < p := ⟨Int.emod_nonneg _ (by omega), Int.emod_lt_of_pos _ (by omega)⟩
    have f2 : 0 ≤ f * b % p ∧ f * b % p < p := ⟨Int.emod_nonneg _ (by omega), Int.emod_lt_of_pos _ (by omega)⟩
    have q : ((w + 1 : Nat) : Int) / 2 = (((w + 1) / 2 : Nat) : Int) := by omega
    have pos : (0 : Int) < ((w + 1 : Nat) : Int) := by omega
    rw [Nat.pow_succ] at hw
    by_cases z : ((w + 1 : Nat) : Int) % 2 = 1
    · obtain ⟨b', e⟩ := resid_loop (a := a) hp k ((w + 1) / 2) (f * b % p) (b * b % p) n f2 b2 (by omega) (by omega)
      refine ⟨b', ?_⟩
      rw [wh_eq]
      simp (disch := omega) only [e_Cmp, e_O2ee, e_mb, e_mVar, get_1, get_0, e_mC, dGt_i, Option.bind_some, e_dB, e_mo, pos, decide_true, e_Sq, e_If, e_Op, dMod_pos, dEq_i, z, if_true, e_Set, dMul_l, e_setV, List.set_cons_succ, List.set_cons_zero, e_mp, e_Par, e_nx, e_Eds1, e_Eds0, dFdiv_pos, e_as1, e_as0, e_sg1, q, Option.elim_some, Sl.isPb, Bool.false_eq_true, if_false]
      rw [e]
      have x := sq_step p (f * b % p) b ((w + 1) / 2)
      have y : w + 1 = 2 * ((w + 1) / 2) + 1 := by omega
      have g : f * b % p * (b * b % p) ^ ((w + 1) / 2) % p = f * b ^ (w + 1) % p := by
        rw [x, Int.mul_emod, Int.emod_emod_of_dvd _ (Int.dvd_refl p), ← Int.mul_emod]
        conv => rhs; rw [y, Int.pow_succ]
        rw [Int.mul_assoc, Int.mul_comm b]
      rw [g]
    · obtain ⟨b', e⟩ := resid_loop (a := a) hp k ((w + 1) / 2) f (b * b % p) n hf b2 (by omega) (by omega)
      refine ⟨b', ?_⟩
      rw [wh_eq]
      simp (disch := omega) only [e_Cmp, e_O2ee, e_mb, e_mVar, get_1, get_0, e_mC, dGt_i, Option.bind_some, e_dB, e_mo, pos, decide_true, e_Sq, e_If, e_Op, dMod_pos, dEq_i, z, if_true, e_Set, dMul_l, e_setV, List.set_cons_succ, List.set_cons_zero, e_mp, e_Par, e_nx, e_Eds1, e_Eds0, dFdiv_pos, e_as1, e_as0, e_sg1, q, decide_false, Bool.false_eq_true, if_false, Option.elim_some, Sl.isPb]
      rw [e]
      have x := sq_step p f b ((w + 1) / 2)
      have y : w + 1 = 2 * ((w + 1) / 2) := by omega
      rw [x, ← y]
end Fw
namespace Fw
open PySem L2
def rs (p u : Int) : Int := if u ^ ((p - 1) / 2).toNat % p = 1 then 1 else -1
def sgo (v : Nat) (u : Int) (w : Nat) (t : Int) : Int := (u - 1) / 2 * ((t - 1) / 2) + v * ((t * t - 1) / 8) + w * ((u * u - 1) / 8)
def sg (p : Int) (v : Nat) (u : Int) (w : Nat) (t : Int) : Int := if p = 2 then (if sgo v u w t % 2 = 0 then 1 else -1) else
  (if v % 2 = 1 ∧ w % 2 = 1 then rs p (-1) else 1) * (if w % 2 = 1 then rs p u else 1) * (if v % 2 = 1 then rs p t else 1)
def decF (p : Int) : Nat → Int → Nat × Int
  | 0, a => (0, a)
  | n + 1, a => if a % p = 0 then ((decF p n (a / p)).1 + 1, (decF p n (a / p)).2) else (0, a)
end Fw
namespace Fw
open PySem L2
theorem rs_1 (p u : Int) : rs p u = 1 ∨ rs p u = -1 := by unfold rs; split <;> simp
section
variable {P h : Nat}
theorem half_h (hh : P = 2 * h + 1) : (((P : Int) - 1) / 2).toNat = h := by omega
theorem dvd_em {p a b : Int} : p ∣ a - b ↔ a % p = b % p := by
  constructor
  · intro h; exact Int.emod_eq_emod_iff_emod_sub_eq_zero.mpr (Int.emod_eq_zero_of_dvd h)
  · intro h; exact Int.dvd_of_emod_eq_zero (Int.emod_eq_emod_iff_emod_sub_eq_zero.mp h)
theorem one_em (hh : P = 2 * h + 1) (h1 : 1 ≤ h) : (1 : Int) % (P : Int) = 1 := Int.emod_eq_of_lt (by omega) (by omega)
theorem fermatI (hp : Nt.Pr P) (hh : P = 2 * h + 1) {u : Int} (hu : u % (P : Int) ≠ 0) : (P : Int) ∣ u ^ h * u ^ h - 1 := by
  have h1 : 1 ≤ h := by have := hp.1; omega
  obtain ⟨a, ha⟩ : ∃ a : Nat, u % (P : Int) = (a : Int) := ⟨(u % (P : Int)).toNat, by have := Int.emod_nonneg u (show (P : Int) ≠ 0 by omega); omega⟩
  have n : ¬ P ∣ a := fun z => by
    have : (a : Int) < (P : Int) := by rw [← ha]; exact Int.emod_lt_of_pos _ (by omega)
    have a0 : a ≠ 0 := fun y => hu (by rw [ha, y]; rfl)
    have := Nat.le_of_dvd (by omega) z
    omega
  have f := Nt.fermat1 hp n
  rw [dvd_em, one_em hh h1, ← Int.pow_add]
  have e : (u ^ (h + h)) % (P : Int) = ((a : Int) ^ (h + h)) % (P : Int) := by
    rw [← ha]; exact (pow_emod _ _ _).symm
  rw [e, show h + h = P - 1 by omega, ← Int.natCast_pow]
  have : ((a ^ (P - 1) % P : Nat) : Int) = 1 := by rw [f]; rfl
  rw [← this]; exact (Int.natCast_emod _ _).symm
theorem rs_pow (hp : Nt.Pr P) (hh : P = 2 * h + 1) {u : Int} (hu : u % (P : Int) ≠ 0) : (P : Int) ∣ u ^ h - rs P u := by
  have h1 : 1 ≤ h := by have := hp.1; omega
  unfold rs
  rw [half_h hh]
  split
  · rename_i c
    rw [dvd_em, c, one_em hh h1]
  · rename_i c
    have e : u ^ h * u ^ h - 1 = (u ^ h - 1) * (u ^ h + 1) := by grind
    have f := fermatI hp hh hu
    rw [e] at f
    rcases hp.dvdI f with z | z
    · exact absurd (by rw [dvd_em.mp z, one_em hh h1]) c
    · have : u ^ h - -1 = u ^ h + 1 := by omega
      rw [this]; exact z
theorem rs_is (hp : Nt.Pr P) (hh : P = 2 * h + 1) {u s : Int} (hs : s = 1 ∨ s = -1) (hu : u % (P : Int) ≠ 0) (d : (P : Int) ∣ u ^ h - s) : rs P u = s := by
  have h1 : 1 ≤ h := by have := hp.1; omega
  have r := rs_pow hp hh hu
  have := Int.dvd_sub d r
  have e : u ^ h - s - (u ^ h - rs P u) = rs P u - s := by omega
  rw [e] at this
  obtain ⟨c, hc⟩ := this
  rcases rs_1 P u with x | x <;> rcases hs with y | y <;> rw [x, y] at hc ⊢
  · exfalso
    have : c = 0 ∨ 1 ≤ c ∨ c ≤ -1 := by omega
    rcases this with z | z | z
    · rw [z] at hc; omega
    · have : (P : Int) * 1 ≤ (P : Int) * c := Int.mul_le_mul_of_nonneg_left z (by omega)
      omega
    · have : (P : Int) * c ≤ (P : Int) * (-1) := Int.mul_le_mul_of_nonneg_left z (by omega)
      omega
  · exfalso
    have : c = 0 ∨ 1 ≤ c ∨ c ≤ -1 := by omega
    rcases this with z | z | z
    · rw [z] at hc; omega
    · have : (P : Int) * 1 ≤ (P : Int) * c := Int.mul_le_mul_of_nonneg_left z (by omega)
      omega
    · have : (P : Int) * c ≤ (P : Int) * (-1) := Int.mul_le_mul_of_nonneg_left z (by omega)
      omega
theorem mul_nzP (hp : Nt.Pr P) {u v : Int} (hu : u % (P : Int) ≠ 0) (hv : v % (P : Int) ≠ 0) : (u * v) % (P : Int) ≠ 0 := fun z => by
  rcases hp.dvdI (Int.dvd_of_emod_eq_zero z) with y | y
  · exact hu (Int.emod_eq_zero_of_dvd y)
  · exact hv (Int.emod_eq_zero_of_dvd y)
theorem pm_mul {a b : Int} (ha : a = 1 ∨ a = -1) (hb : b = 1 ∨ b = -1) : a * b = 1 ∨ a * b = -1 := by
  rcases ha with rfl | rfl <;> rcases hb with rfl | rfl <;> simp
theorem rs_mul (hp : Nt.Pr P) (hh : P = 2 * h + 1) {u v : Int} (hu : u % (P : Int) ≠ 0) (hv : v % (P : Int) ≠ 0) : rs P (u * v) = rs P u * rs P v := by
  refine rs_is hp hh (pm_mul (rs_1 _ _) (rs_1 _ _)) (mul_nzP hp hu hv) ?_
  have a := rs_pow hp hh hu
  have b := rs_pow hp hh hv
  have e : (u * v) ^ h - rs P u * rs P v = u ^ h * (v ^ h - rs P v) + (u ^ h - rs P u) * rs P v := by
    rw [Int.mul_pow]; grind
  rw [e]
  exact Int.dvd_add (Int.dvd_mul_of_dvd_right b) (Int.dvd_mul_of_dvd_left a)
theorem pow_neg1 : ∀ h : Nat, (-1 : Int) ^ h = Nt.s1 h
  | 0 => rfl
  | h + 1 => by
    rw [Int.pow_succ, pow_neg1 h, Nt.s1_add]; rfl
theorem neg1_nz (hp : Nt.Pr P) (hh : P = 2 * h + 1) : (-1 : Int) % (P : Int) ≠ 0 := fun z => by
  obtain ⟨c, hc⟩ := Int.dvd_of_emod_eq_zero z
  have h1 : 1 ≤ h := by have := hp.1; omega
  have : c = 0 ∨ 1 ≤ c ∨ c ≤ -1 := by omega
  rcases this with y | y | y
  · rw [y] at hc; omega
  · have : (P : Int) * 1 ≤ (P : Int) * c := Int.mul_le_mul_of_nonneg_left y (by omega)
    omega
  · have : (P : Int) * c ≤ (P : Int) * (-1) := Int.mul_le_mul_of_nonneg_left y (by omega)
    omega
theorem rs_neg1 (hp : Nt.Pr P) (hh : P = 2 * h + 1) : rs P (-1) = Nt.s1 h := by
  refine rs_is hp hh (by unfold Nt.s1; split <;> simp) (neg1_nz hp hh) ?_
  rw [pow_neg1]; exact ⟨0, by omega⟩
theorem rs_one (hp : Nt.Pr P) (hh : P = 2 * h + 1) {u : Int} (hu : u % (P : Int) = 1) : rs P u = 1 := by
  unfold rs
  rw [half_h hh, ← pow_emod, hu, Int.one_pow, one_em hh (by have := hp.1; omega), if_pos rfl]
theorem nat_nz {a : Nat} (n : ¬ P ∣ a) : (a : Int) % (P : Int) ≠ 0 := fun z => by
  have := Int.natAbs_dvd_natAbs.mpr (Int.dvd_of_emod_eq_zero z)
  rw [Int.natAbs_natCast, Int.natAbs_natCast] at this
  exact n this
theorem rs_nat (hp : Nt.Pr P) (hh : P = 2 * h + 1) {a : Nat} (n : ¬ P ∣ a) : rs P a = Nt.s1 (Nt.sm (Nt.ge P a) h) :=
  rs_is hp hh (by unfold Nt.s1; split <;> simp) (nat_nz n) (Nt.gauss hp hh n)
theorem par_mul {a b : Nat} : (a * b) % 2 = (a % 2) * (b % 2) % 2 := Nat.mul_mod a b 2
theorem rs_odd (hp : Nt.Pr P) (hh : P = 2 * h + 1) {k : Nat} (n : ¬ P ∣ (2 * k + 1)) : rs P ((2 * k + 1 : Nat) : Int) = Nt.s1 (Nt.sm (fun i => (2 * k + 1) * (i + 1) / P) h) := by
  rw [rs_nat hp hh n]
  obtain ⟨X, e⟩ := Nt.gauss_par hp hh n
  apply Nt.s1_par
  have a1 : ((2 * k + 1) * Nt.sm (fun i => i + 1) h) % 2 = Nt.sm (fun i => i + 1) h % 2 := by rw [par_mul, show (2 * k + 1) % 2 = 1 by omega]; omega
  have a2 : (P * Nt.sm (fun i => (2 * k + 1) * (i + 1) / P) h) % 2 = Nt.sm (fun i => (2 * k + 1) * (i + 1) / P) h % 2 := by rw [par_mul, show P % 2 = 1 by omega]; omega
  have a3 : (P * Nt.sm (Nt.ge P (2 * k + 1)) h) % 2 = Nt.sm (Nt.ge P (2 * k + 1)) h % 2 := by rw [par_mul, show P % 2 = 1 by omega]; omega
  omega
theorem rs_two (hp : Nt.Pr P) (hh : P = 2 * h + 1) : rs P 2 = Nt.s1 (Nt.sm (fun i => i + 1) h) := by
  have n : ¬ P ∣ 2 := fun z => by have := Nat.le_of_dvd (by decide) z; have := hp.1; omega
  rw [show (2 : Int) = ((2 : Nat) : Int) from rfl, rs_nat hp hh n]
  obtain ⟨X, e⟩ := Nt.gauss_par hp hh n
  apply Nt.s1_par
  have z : Nt.sm (fun i => 2 * (i + 1) / P) h = 0 := by
    rw [Nt.sm_congr (g := fun _ => 0) fun i hi => ?_, Nt.sm_const, Nat.mul_zero]
    exact Nat.div_eq_of_lt (by omega)
  rw [z] at e
  have a3 : (P * Nt.sm (Nt.ge P 2) h) % 2 = Nt.sm (Nt.ge P 2) h % 2 := by rw [par_mul, show P % 2 = 1 by omega]; omega
  omega
end
theorem recip {P Q h k : Nat} (hp : Nt.Pr P) (hq : Nt.Pr Q) (ne : P ≠ Q) (hh : P = 2 * h + 1) (hk : Q = 2 * k + 1) : rs P Q * rs Q P = Nt.s1 (h * k) := by
  have n1 : ¬ P ∣ Q := fun z => by
    rcases hq.2 P z with w | w
    · have := hp.1; omega
    · exact ne w
  have n2 : ¬ Q ∣ P := fun z => by
    rcases hp.2 Q z with w | w
    · have := hq.1; omega
    · exact ne w.symm
  have e1 := rs_odd hp hh (k := k) (by rw [← hk]; exact n1)
  have e2 := rs_odd hq hk (k := h) (by rw [← hh]; exact n2)
  rw [← hk] at e1; rw [← hh] at e2
  rw [e1, e2, ← Nt.s1_add, Nt.points hp hq ne hh hk]
end Fw
namespace Fw
open PySem L2
theorem decF_ok {p : Int} (hp : 2 ≤ p) : ∀ (n : Nat) (a : Int), a ≠ 0 → a.natAbs ≤ n → Dec p a (decF p n a).1 (decF p n a).2
  | 0, a, h0, h => by omega
  | n + 1, a, h0, h => by
    unfold decF
    by_cases c : a % p = 0
    · rw [if_pos c]
      have e : p * (a / p) = a := Int.mul_ediv_cancel' (Int.dvd_of_emod_eq_zero c)
      have n0 : a / p ≠ 0 := fun z => h0 (by rw [← e, z, Int.mul_zero])
      refine Dec.succ c (decF_ok hp n (a / p) n0 ?_)
      have e2 : a.natAbs = p.natAbs * (a / p).natAbs := by rw [← Int.natAbs_mul, e]
      have : 2 * (a / p).natAbs ≤ p.natAbs * (a / p).natAbs := Nat.mul_le_mul_right _ (by omega)
      omega
    · rw [if_neg c]
      exact Dec.zero c
def Hil (p : Nat) (a b : Int) : Int := if p = 0 then (if a < 0 ∧ b < 0 then -1 else 1) else sg p (decF p a.natAbs a).1 (decF p a.natAbs a).2 (decF p b.natAbs b).1 (decF p b.natAbs b).2
theorem dec_at {p : Nat} (hp : 2 ≤ p) {a : Int} (h : a ≠ 0) : ∃ v u, Dec p a v u := ⟨_, _, decF_ok (by omega) _ a h (Nat.le_refl _)⟩
theorem Hil_dec {p : Nat} (hp : 2 ≤ p) {a b u t : Int} {v w : Nat} (a0 : a ≠ 0) (b0 : b ≠ 0) (ha : Dec p a v u) (hb : Dec p b w t) : Hil p a b = sg p v u w t := by
  unfold Hil
  rw [if_neg (by omega)]
  obtain ⟨e1, e2⟩ := Dec.uniq (by omega) (decF_ok (p := p) (by omega) _ a a0 (Nat.le_refl _)) ha
  obtain ⟨e3, e4⟩ := Dec.uniq (by omega) (decF_ok (p := p) (by omega) _ b b0 (Nat.le_refl _)) hb
  rw [e1, e2, e3, e4]
def sI (x : Int) : Int := if x % 2 = 0 then 1 else -1
theorem sI_1 (x : Int) : sI x = 1 ∨ sI x = -1 := by unfold sI; split <;> simp
theorem sI_add {x y z s : Int} (h : s = x + y + 2 * z) : sI s = sI x * sI y := by
  unfold sI
  have : x % 2 = 0 ∨ x % 2 = 1 := by omega
  have : y % 2 = 0 ∨ y % 2 = 1 := by omega
  split <;> split <;> split <;> omega
theorem sI_nat (n : Nat) : sI n = Nt.s1 n := by
  unfold sI Nt.s1
  split <;> split <;> omega
theorem sI_ev {x : Int} (h : x % 2 = 0) : sI x = 1 := by unfold sI; rw [if_pos h]
theorem sg2 (v : Nat) (u : Int) (w : Nat) (t : Int) : sg 2 v u w t = sI (sgo v u w t) := rfl
theorem odd_form {t : Int} (h : t % 2 ≠ 0) : ∃ x m : Int, t = 2 * x + 1 ∧ t * t = 8 * m + 1 ∧ (t - 1) / 2 = x ∧ (t * t - 1) / 8 = m ∧ x * (x + 1) = 2 * m := by
  obtain ⟨x, hx⟩ : ∃ x, t = 2 * x + 1 := ⟨t / 2, by omega⟩
  have e : t * t = 4 * (x * (x + 1)) + 1 := by rw [hx]; grind
  have ev : x * (x + 1) % 2 = 0 := by
    have : x % 2 = 0 ∨ x % 2 = 1 := by omega
    rcases this with h | h
    · rw [Int.mul_emod, h]; omega
    · rw [Int.mul_emod, show (x + 1) % 2 = 0 by omega]; omega
  refine ⟨x, x * (x + 1) / 2, hx, by omega, by omega, by omega, by omega⟩
theorem sgo_comm {u t : Int} {v w : Nat} : sgo v u w t = sgo w t v u := by
  unfold sgo
  rw [Int.mul_comm ((u - 1) / 2)]
  omega
theorem sgo_mul {u t t' : Int} {v w w' : Nat} (ht : t % 2 ≠ 0) (ht' : t' % 2 ≠ 0) : ∃ z, sgo v u (w + w') (t * t') = sgo v u w t + sgo v u w' t' + 2 * z := by
  obtain ⟨x, m, a1, a2, a3, a4, _⟩ := odd_form ht
  obtain ⟨y, k, b1, b2, b3, b4, _⟩ := odd_form ht'
  have c1 : (t * t' - 1) / 2 = 2 * (x * y) + x + y := by
    have : t * t' = 4 * (x * y) + 2 * x + 2 * y + 1 := by rw [a1, b1]; grind
    omega
  have c2 : (t * t' * (t * t') - 1) / 8 = 8 * (m * k) + m + k := by
    have : t * t' * (t * t') = 64 * (m * k) + 8 * m + 8 * k + 1 := by
      have : t * t' * (t * t') = (t * t) * (t' * t') := by grind
      rw [this, a2, b2]; grind
    omega
  unfold sgo
  rw [a3, a4, b3, b4, c1, c2, Int.natCast_add]
  generalize (u - 1) / 2 = e
  generalize (u * u - 1) / 8 = o
  exact ⟨e * (x * y) + (v : Int) * (4 * (m * k)), by grind⟩
theorem sg_mul2 {u t t' : Int} {v w w' : Nat} (ht : t % 2 ≠ 0) (ht' : t' % 2 ≠ 0) : sg 2 v u (w + w') (t * t') = sg 2 v u w t * sg 2 v u w' t' := by
  obtain ⟨z, e⟩ := sgo_mul (u := u) (v := v) (w := w) (w' := w') ht ht'
  rw [sg2, sg2, sg2, sI_add e]
def pw (x : Int) (n : Nat) : Int := if n % 2 = 1 then x else 1
theorem pw_add {x : Int} (hx : x = 1 ∨ x = -1) (m n : Nat) : pw x (m + n) = pw x m * pw x n := by
  unfold pw
  have : m % 2 = 0 ∨ m % 2 = 1 := by omega
  have : n % 2 = 0 ∨ n % 2 = 1 := by omega
  rcases hx with rfl | rfl <;> (split <;> split <;> split <;> omega)
theorem pw_mul (x y : Int) (n : Nat) : pw (x * y) n = pw x n * pw y n := by unfold pw; split <;> simp
theorem pw_1 {x : Int} (hx : x = 1 ∨ x = -1) (n : Nat) : pw x n = 1 ∨ pw x n = -1 := by unfold pw; split; exact hx; exact .inl rfl
theorem pw_both (x : Int) (v w : Nat) : (if v % 2 = 1 ∧ w % 2 = 1 then x else 1) = pw (pw x v) w := by
  unfold pw
  by_cases a : v % 2 = 1 <;> by_cases b : w % 2 = 1 <;> simp [a, b]
theorem sgP {p : Int} (h : p ≠ 2) (v : Nat) (u : Int) (w : Nat) (t : Int) : sg p v u w t = pw (pw (rs p (-1)) v) w * pw (rs p u) w * pw (rs p t) v := by
  unfold sg
  rw [if_neg h, pw_both]; rfl
theorem pw_comm (x : Int) (v w : Nat) : pw (pw x v) w = pw (pw x w) v := by
  unfold pw
  by_cases a : v % 2 = 1 <;> by_cases b : w % 2 = 1 <;> simp [a, b]
theorem sg_comm (p : Int) {u t : Int} {v w : Nat} : sg p v u w t = sg p w t v u := by
  by_cases h : p = 2
  · rw [h, sg2, sg2, sgo_comm]
  · rw [sgP h, sgP h, pw_comm, Int.mul_assoc, Int.mul_assoc, Int.mul_comm (pw (rs p u) w)]
theorem sg_1 (p : Int) (v : Nat) (u : Int) (w : Nat) (t : Int) : sg p v u w t = 1 ∨ sg p v u w t = -1 := by
  by_cases h : p = 2
  · rw [h, sg2]; exact sI_1 _
  · rw [sgP h]; exact pm_mul (pm_mul (pw_1 (pw_1 (rs_1 _ _) _) _) (pw_1 (rs_1 _ _) _)) (pw_1 (rs_1 _ _) _)
theorem odd_of {p : Nat} (hp : Nt.Pr p) (h : p ≠ 2) : ∃ k, p = 2 * k + 1 := by
  refine ⟨p / 2, ?_⟩
  by_cases e : p % 2 = 0
  · rcases hp.2 2 (Nat.dvd_of_mod_eq_zero e) with z | z
    · omega
    · exact absurd z.symm h
  · omega
theorem pr2 : Nt.Pr 2 := Nt.pr_of (m := 2) (by omega) (by omega) (fun d h1 h2 => by omega)
theorem Hil_1 (p : Nat) (a b : Int) : Hil p a b = 1 ∨ Hil p a b = -1 := by
  unfold Hil
  split
  · split <;> simp
  · exact sg_1 _ _ _ _ _
theorem Hil_comm (p : Nat) (a b : Int) : Hil p a b = Hil p b a := by
  unfold Hil
  split
  · by_cases ha : a < 0 <;> by_cases hb : b < 0 <;> simp [ha, hb]
  · exact sg_comm _
theorem sg_mulP {P h : Nat} (hp : Nt.Pr P) (hh : P = 2 * h + 1) {u t t' : Int} {v w w' : Nat} (ht : t % (P : Int) ≠ 0) (ht' : t' % (P : Int) ≠ 0) : sg P v u (w + w') (t * t') = sg P v u w t * sg P v u w' t' := by
  have h2 : (P : Int) ≠ 2 := by omega
  rw [sgP h2, sgP h2, sgP h2, rs_mul hp hh ht ht', pw_add (pw_1 (rs_1 _ _) _), pw_add (rs_1 _ _), pw_mul]
  generalize pw (pw (rs P (-1)) v) w = a
  generalize pw (pw (rs P (-1)) v) w' = b
  generalize pw (rs P u) w = c
  generalize pw (rs P u) w' = d
  generalize pw (rs P t) v = e
  generalize pw (rs P t') v = f
  grind
theorem Hil_mul {p : Nat} (hp : p = 0 ∨ Nt.Pr p) {a b c : Int} (a0 : a ≠ 0) (b0 : b ≠ 0) (c0 : c ≠ 0) : Hil p a (b * c) = Hil p a b * Hil p a c := by
  rcases hp with rfl | hp
  · have z : ∀ x y : Int, Hil 0 x y = if x < 0 ∧ y < 0 then -1 else 1 := fun _ _ => rfl
    rw [z, z, z]
    have s : (b < 0 ∧ c < 0 ∧ ¬ b * c < 0) ∨ (b < 0 ∧ ¬ c < 0 ∧ b * c < 0) ∨ (¬ b < 0 ∧ c < 0 ∧ b * c < 0) ∨ (¬ b < 0 ∧ ¬ c < 0 ∧ ¬ b * c < 0) := by
      by_cases hb : b < 0 <;> by_cases hc : c < 0
      · have := Int.mul_pos_of_neg_of_neg hb hc; exact .inl ⟨hb, hc, by omega⟩
      · have := Int.mul_neg_of_neg_of_pos hb (show 0 < c by omega); exact .inr (.inl ⟨hb, hc, this⟩)
      · have := Int.mul_neg_of_pos_of_neg (show 0 < b by omega) hc; exact .inr (.inr (.inl ⟨hb, hc, this⟩))
      · have := Int.mul_pos (show 0 < b by omega) (show 0 < c by omega); exact .inr (.inr (.inr ⟨hb, hc, by omega⟩))
    by_cases ha : a < 0 <;> rcases s with ⟨x, y, w⟩ | ⟨x, y, w⟩ | ⟨x, y, w⟩ | ⟨x, y, w⟩ <;> simp [ha, x, y, w]
  · have h2 := hp.1
    obtain ⟨v, u, da⟩ := dec_at h2 a0
    obtain ⟨w, t, db⟩ := dec_at h2 b0
    obtain ⟨w', t', dc⟩ := dec_at h2 c0
    rw [Hil_dec h2 a0 b0 da db, Hil_dec h2 a0 c0 da dc, Hil_dec h2 a0 (Int.mul_ne_zero b0 c0) da (db.mul dc (mul_nzP hp db.2 dc.2))]
    by_cases e : p = 2
    · subst e; exact sg_mul2 db.2 dc.2
    · obtain ⟨h, hh⟩ := odd_of hp e
      exact sg_mulP hp hh db.2 dc.2
theorem Hil_one {p : Nat} (hp : p = 0 ∨ Nt.Pr p) {a : Int} (a0 : a ≠ 0) : Hil p a 1 = 1 := by
  have := Hil_mul hp a0 (b := 1) (c := 1) (by omega) (by omega)
  rw [show (1 : Int) * 1 = 1 from rfl] at this
  rcases Hil_1 p a 1 with h | h
  · exact h
  · rw [h] at this; omega
theorem Dec.neg {p a u : Int} {v : Nat} (h : Dec p a v u) : Dec p (-a) v (-u) := ⟨by rw [h.1, Int.mul_neg], fun z => h.2 (by
  have := Int.dvd_of_emod_eq_zero z
  exact Int.emod_eq_zero_of_dvd (Int.dvd_neg.mp this))⟩
theorem Hil_neg {p : Nat} (hp : p = 0 ∨ Nt.Pr p) {a : Int} (a0 : a ≠ 0) : Hil p a (-a) = 1 := by
  rcases hp with rfl | hp
  · unfold Hil
    rw [if_pos rfl, if_neg (by omega)]
  · have h2 := hp.1
    obtain ⟨v, u, da⟩ := dec_at h2 a0
    rw [Hil_dec h2 a0 (by omega) da da.neg]
    by_cases e : p = 2
    · subst e
      rw [show ((2 : Nat) : Int) = 2 from rfl, sg2]
      apply sI_ev
      obtain ⟨x, m, a1, a2, a3, a4, a5⟩ := odd_form da.2
      unfold sgo
      have c : (-u - 1) / 2 = -x - 1 := by omega
      have d : (-u * -u - 1) / 8 = m := by rw [Int.neg_mul_neg]; exact a4
      rw [a3, a4, c, d]
      have e1 : x * (-x - 1) = -(2 * m) := by rw [← a5]; grind
      rw [e1]
      omega
    · obtain ⟨h, hh⟩ := odd_of hp e
      have h2' : (p : Int) ≠ 2 := by omega
      have nu : rs p (-u) = rs p (-1) * rs p u := by rw [← rs_mul hp hh (neg1_nz hp hh) da.2, Int.neg_mul, Int.one_mul]
      rw [sgP h2', nu]
      unfold pw
      rcases rs_1 p (-1) with x | x <;> rcases rs_1 p u with y | y <;> rw [x, y] <;> split <;> simp
theorem Hil_sub0 {p : Nat} (hp : Nt.Pr p) {a : Int} (a0 : a ≠ 0) (a1 : a ≠ 1) (hd : a % (p : Int) = 0) : Hil p a (1 - a) = 1 := by
  have h2 := hp.1
  obtain ⟨v, u, da⟩ := dec_at h2 a0
  have one : (1 - a) % (p : Int) = 1 := by
    rw [Int.sub_emod, hd]
    show (1 % (p : Int) - 0) % (p : Int) = 1
    rw [Int.sub_zero, Int.emod_emod, Int.emod_eq_of_lt (by omega) (by omega)]
  have db : Dec p (1 - a) 0 (1 - a) := Dec.zero (by rw [one]; omega)
  rw [Hil_dec h2 a0 (by omega) da db]
  by_cases e : p = 2
  · subst e
    rw [show ((2 : Nat) : Int) = 2 from rfl, sg2]
    apply sI_ev
    have ea := da.1
    rw [show ((2 : Nat) : Int) = 2 from rfl] at ea
    obtain ⟨x, m, b1, b2, b3, b4, b5⟩ := odd_form da.2
    unfold sgo
    rw [b3]
    match v, ea with
    | 0, ea =>
      rw [Int.pow_zero, Int.one_mul] at ea
      exact absurd (by rw [← ea]; exact hd) da.2
    | 1, ea =>
      rw [Int.pow_one] at ea
      have c1 : (1 - a - 1) / 2 = -(2 * x + 1) := by omega
      have c2 : ((1 - a) * (1 - a) - 1) / 8 = x * (2 * x + 1) := by
        have : (1 - a) * (1 - a) = 8 * (x * (2 * x + 1)) + 1 := by rw [ea, b1]; grind
        omega
      rw [c1, c2]
      have : x * -(2 * x + 1) + ((1 : Nat) : Int) * (x * (2 * x + 1)) + ((0 : Nat) : Int) * ((u * u - 1) / 8) = 0 := by
        rw [Int.natCast_zero, Int.zero_mul, Int.natCast_one]; grind
      rw [this]; rfl
    | 2, ea =>
      have c1 : (1 - a - 1) / 2 = 2 * (-u) := by rw [show (2 : Int) ^ 2 = 4 from rfl] at ea; omega
      rw [c1]
      generalize ((1 - a) * (1 - a) - 1) / 8 = y
      have : x * (2 * -u) + ((2 : Nat) : Int) * y + ((0 : Nat) : Int) * ((u * u - 1) / 8) = 2 * (x * (-u) + y) := by
        rw [Int.natCast_zero, Int.zero_mul, show ((2 : Nat) : Int) = 2 from rfl]; grind
      rw [this]; omega
    | k + 3, ea =>
      obtain ⟨m', hm⟩ : ∃ m', a = 8 * m' := ⟨2 ^ k * u, by rw [ea, Int.pow_add, show (2 : Int) ^ 3 = 8 from rfl]; grind⟩
      have c1 : (1 - a - 1) / 2 = 2 * (-(2 * m')) := by omega
      have c2 : ((1 - a) * (1 - a) - 1) / 8 = 2 * (4 * (m' * m') - m') := by
        have : (1 - a) * (1 - a) = 8 * (2 * (4 * (m' * m') - m')) + 1 := by rw [hm]; grind
        omega
      rw [c1, c2]
      have : x * (2 * -(2 * m')) + ((k + 3 : Nat) : Int) * (2 * (4 * (m' * m') - m')) + ((0 : Nat) : Int) * ((u * u - 1) / 8) = 2 * (x * -(2 * m') + ((k + 3 : Nat) : Int) * (4 * (m' * m') - m')) := by
        rw [Int.natCast_zero, Int.zero_mul]; grind
      rw [this]; omega
  · obtain ⟨h, hh⟩ := odd_of hp e
    have h2' : (p : Int) ≠ 2 := by omega
    rw [sgP h2', rs_one hp hh one]
    unfold pw
    simp
theorem Hil_sub {p : Nat} (hp : p = 0 ∨ Nt.Pr p) {a : Int} (a0 : a ≠ 0) (a1 : a ≠ 1) : Hil p a (1 - a) = 1 := by
  rcases hp with rfl | hp
  · unfold Hil
    rw [if_pos rfl, if_neg (by omega)]
  · have h2 := hp.1
    by_cases c : a % (p : Int) = 0
    · exact Hil_sub0 hp a0 a1 c
    · by_cases d : (1 - a) % (p : Int) = 0
      · rw [Hil_comm]
        have := Hil_sub0 hp (a := 1 - a) (by omega) (by omega) d
        rwa [show 1 - (1 - a) = a by omega] at this
      · by_cases e : p = 2
        · subst e
          rw [show ((2 : Nat) : Int) = 2 from rfl] at c d
          omega
        · have h2' : (p : Int) ≠ 2 := by omega
          rw [Hil_dec h2 a0 (by omega) (Dec.zero c) (Dec.zero d), sgP h2']
          unfold pw
          simp
theorem Hil_unit {p : Nat} (hp : Nt.Pr p) (e : p ≠ 2) {a b : Int} (ha : a % (p : Int) ≠ 0) (hb : b % (p : Int) ≠ 0) : Hil p a b = 1 := by
  have h2 := hp.1
  have a0 : a ≠ 0 := fun z => ha (by rw [z]; exact Int.zero_emod _)
  have b0 : b ≠ 0 := fun z => hb (by rw [z]; exact Int.zero_emod _)
  rw [Hil_dec h2 a0 b0 (Dec.zero ha) (Dec.zero hb), sgP (by omega)]
  unfold pw
  simp
end Fw
namespace Fw
open PySem L2
def PG (G : Nat → Int) : Nat → Int
  | 0 => 1
  | n + 1 => PG G n * G (n + 1)
theorem PG_mul (F G : Nat → Int) : ∀ n, PG (fun p => F p * G p) n = PG F n * PG G n
  | 0 => rfl
  | n + 1 => by
    show PG _ n * (F (n + 1) * G (n + 1)) = PG F n * F (n + 1) * (PG G n * G (n + 1))
    rw [PG_mul F G n]; grind
theorem PG_congr {F G : Nat → Int} : ∀ {n}, (∀ p, 1 ≤ p → p ≤ n → F p = G p) → PG F n = PG G n
  | 0, _ => rfl
  | n + 1, h => by
    show PG F n * F (n + 1) = PG G n * G (n + 1)
    rw [PG_congr fun p a b => h p a (by omega), h (n + 1) (by omega) (by omega)]
theorem PG_one : ∀ n, PG (fun _ => 1) n = 1
  | 0 => rfl
  | n + 1 => by show PG _ n * 1 = 1; rw [PG_one n]; rfl
theorem PG_mod (G : Nat → Int) {q : Nat} (h1 : 1 ≤ q) : ∀ {n}, q ≤ n → PG G n = G q * PG (fun p => if p = q then 1 else G p) n
  | 0, h => by omega
  | n + 1, h => by
    show PG G n * G (n + 1) = G q * (PG (fun p => if p = q then 1 else G p) n * (if n + 1 = q then 1 else G (n + 1)))
    by_cases e : n + 1 = q
    · rw [if_pos e, Int.mul_one, e]
      have : PG (fun p => if p = q then 1 else G p) n = PG G n := PG_congr fun p _ b => by rw [if_neg (by omega)]
      rw [this, Int.mul_comm]
    · rw [if_neg e, PG_mod G h1 (show q ≤ n by omega), Int.mul_assoc]
def lz (G : Nat → Int) : List Nat → Int
  | [] => 1
  | x :: l => G x * lz G l
theorem lz_congr {F G : Nat → Int} : ∀ {l : List Nat}, (∀ x ∈ l, F x = G x) → lz F l = lz G l
  | [], _ => rfl
  | x :: l, h => by show F x * lz F l = G x * lz G l; rw [h x List.mem_cons_self, lz_congr fun y hy => h y (List.mem_cons_of_mem _ hy)]
theorem PG_list {n : Nat} : ∀ {L : List Nat} (G : Nat → Int), L.Nodup → (∀ x ∈ L, 1 ≤ x ∧ x ≤ n) → (∀ p, 1 ≤ p → p ≤ n → p ∉ L → G p = 1) → PG G n = lz G L
  | [], G, _, _, h => by
    rw [PG_congr (G := fun _ => 1) fun p a b => h p a b (by simp), PG_one]; rfl
  | q :: L, G, nd, hb, h => by
    obtain ⟨n1, n2⟩ := List.nodup_cons.mp nd
    have b := hb q List.mem_cons_self
    rw [PG_mod G b.1 b.2]
    show _ = G q * lz G L
    rw [PG_list (L := L) (fun p => if p = q then 1 else G p) n2 (fun x hx => hb x (List.mem_cons_of_mem _ hx)) fun p a b' c => ?_]
    · congr 1
      exact lz_congr fun x hx => if_neg fun z => n1 (by rw [← z]; exact hx)
    · show (if p = q then 1 else G p) = 1
      by_cases e : p = q
      · rw [if_pos e]
      · rw [if_neg e]
        exact h p a b' fun z => (List.mem_cons.mp z).elim e c
open Classical in
noncomputable def GF (a b : Int) (p : Nat) : Int := if Nt.Pr p then Hil p a b else 1
noncomputable def HP (N : Nat) (a b : Int) : Int := Hil 0 a b * PG (GF a b) N
theorem GF_pr {a b : Int} {p : Nat} (h : Nt.Pr p) : GF a b p = Hil p a b := if_pos h
theorem GF_np {a b : Int} {p : Nat} (h : ¬ Nt.Pr p) : GF a b p = 1 := if_neg h
theorem HP_comm (N : Nat) (a b : Int) : HP N a b = HP N b a := by
  unfold HP
  rw [Hil_comm]
  congr 1
  refine PG_congr fun p _ _ => ?_
  by_cases h : Nt.Pr p
  · rw [GF_pr h, GF_pr h, Hil_comm]
  · rw [GF_np h, GF_np h]
theorem HP_mul (N : Nat) {a b c : Int} (a0 : a ≠ 0) (b0 : b ≠ 0) (c0 : c ≠ 0) : HP N a (b * c) = HP N a b * HP N a c := by
  unfold HP
  rw [Hil_mul (.inl rfl) a0 b0 c0]
  have : PG (GF a (b * c)) N = PG (fun p => GF a b p * GF a c p) N := PG_congr fun p _ _ => by
    by_cases h : Nt.Pr p
    · rw [GF_pr h, GF_pr h, GF_pr h, Hil_mul (.inr h) a0 b0 c0]
    · rw [GF_np h, GF_np h, GF_np h]; rfl
  rw [this, PG_mul]; grind
theorem HP_all {N : Nat} {a b : Int} (h : ∀ p, p = 0 ∨ Nt.Pr p → Hil p a b = 1) : HP N a b = 1 := by
  unfold HP
  rw [h 0 (.inl rfl), PG_congr (G := fun _ => 1) fun p _ _ => ?_, PG_one]
  · rfl
  · by_cases z : Nt.Pr p
    · rw [GF_pr z, h p (.inr z)]
    · rw [GF_np z]
theorem HP_one {N : Nat} {a : Int} (a0 : a ≠ 0) : HP N a 1 = 1 := HP_all fun p h => Hil_one h a0
theorem HP_neg {N : Nat} {a : Int} (a0 : a ≠ 0) : HP N a (-a) = 1 := HP_all fun p h => Hil_neg h a0
theorem HP_list {N : Nat} {a b : Int} {L : List Nat} (nd : L.Nodup) (hL : ∀ x ∈ L, Nt.Pr x ∧ x ≤ N) (h : ∀ p, Nt.Pr p → p ∉ L → Hil p a b = 1) : HP N a b = Hil 0 a b * lz (fun p => Hil p a b) L := by
  unfold HP
  rw [PG_list (L := L) (GF a b) nd (fun x hx => ⟨by have := (hL x hx).1.1; omega, (hL x hx).2⟩) fun p _ _ z => ?_]
  · congr 1
    exact lz_congr fun x hx => GF_pr (hL x hx).1
  · by_cases c : Nt.Pr p
    · rw [GF_pr c, h p c z]
    · rw [GF_np c]
theorem pr_nd {p q : Nat} (hp : Nt.Pr p) (hq : Nt.Pr q) (ne : p ≠ q) : (q : Int) % (p : Int) ≠ 0 := nat_nz fun z => by
  rcases hq.2 p z with w | w
  · have := hp.1; omega
  · exact ne w
theorem neg1_nz' {p : Nat} (hp : Nt.Pr p) : (-1 : Int) % (p : Int) ≠ 0 := fun z => by
  have h2 := hp.1
  have := Int.natAbs_dvd_natAbs.mpr (Int.dvd_of_emod_eq_zero z)
  rw [Int.natAbs_natCast] at this
  have := Nat.le_of_dvd (by decide) this
  have e : (-1 : Int).natAbs = 1 := rfl
  omega
theorem one_nz {p : Nat} (hp : Nt.Pr p) : (1 : Int) % (p : Int) ≠ 0 := by
  have h2 := hp.1
  rw [Int.emod_eq_of_lt (by omega) (by omega)]; omega
theorem dec_p {p : Nat} (hp : Nt.Pr p) : Dec p (p : Int) 1 1 := ⟨by rw [Int.pow_one, Int.mul_one], one_nz hp⟩
theorem base_mm {N : Nat} (h : 2 ≤ N) : HP N (-1) (-1) = 1 := by
  rw [HP_list (L := [2]) (by simp) (fun x hx => by rw [List.mem_singleton] at hx; subst hx; exact ⟨pr2, h⟩) fun p hp z => ?_]
  · show Hil 0 (-1) (-1) * (Hil 2 (-1) (-1) * 1) = 1
    rw [Hil_dec (p := 2) (Nat.le_refl _) (by omega) (by omega) (Dec.zero (neg1_nz' pr2)) (Dec.zero (neg1_nz' pr2))]
    decide
  · exact Hil_unit hp (fun e => z (by rw [e]; simp)) (neg1_nz' hp) (neg1_nz' hp)
theorem base_m2 {N : Nat} (h : 2 ≤ N) : HP N (-1) 2 = 1 := by
  rw [HP_list (L := [2]) (by simp) (fun x hx => by rw [List.mem_singleton] at hx; subst hx; exact ⟨pr2, h⟩) fun p hp z => ?_]
  · show Hil 0 (-1) 2 * (Hil 2 (-1) 2 * 1) = 1
    rw [Hil_dec (p := 2) (b := 2) (Nat.le_refl _) (by omega) (by omega) (Dec.zero (neg1_nz' pr2)) (dec_p pr2)]
    decide
  · have e2 : p ≠ 2 := fun e => z (by rw [e]; simp)
    exact Hil_unit hp e2 (neg1_nz' hp) (pr_nd hp pr2 e2)
theorem sgo0 {k : Nat} (u : Int) (w : Nat) : sgo 0 u w (2 * (k : Int) + 1) = (u - 1) / 2 * k + w * ((u * u - 1) / 8) := by
  unfold sgo
  rw [show (2 * (k : Int) + 1 - 1) / 2 = k by omega]
  omega
theorem cast_odd {q k : Nat} (h : q = 2 * k + 1) : (q : Int) = 2 * (k : Int) + 1 := by omega
theorem base_mq {N q : Nat} (h : 2 ≤ N) (hq : Nt.Pr q) (q2 : q ≠ 2) (le : q ≤ N) : HP N (-1) q = 1 := by
  obtain ⟨k, hk⟩ := odd_of hq q2
  have hq2 := hq.1
  rw [HP_list (L := [2, q]) (by simp; omega) (fun x hx => ?_) fun p hp z => ?_]
  · show Hil 0 (-1) q * (Hil 2 (-1) q * (Hil q (-1) q * 1)) = 1
    rw [Hil_dec (p := 2) (Nat.le_refl _) (by omega) (by omega) (Dec.zero (neg1_nz' pr2)) (Dec.zero (pr_nd pr2 hq (Ne.symm q2))), Hil_dec (p := q) hq.1 (by omega) (by omega) (Dec.zero (neg1_nz' hq)) (dec_p hq)]
    rw [show ((2 : Nat) : Int) = 2 from rfl, sg2, sgP (by omega), cast_odd hk, sgo0, ← cast_odd hk, rs_neg1 hq hk]
    have e0 : Hil 0 (-1) q = 1 := by
      show (if (-1 : Int) < 0 ∧ (q : Int) < 0 then (-1 : Int) else 1) = 1
      rw [if_neg (by omega)]
    have e1 : sI ((-1 - 1) / 2 * (k : Int) + ((0 : Nat) : Int) * ((-1 * -1 - 1) / 8)) = Nt.s1 k := by
      rw [← sI_nat]
      unfold sI
      have : ((-1 - 1) / 2 * (k : Int) + ((0 : Nat) : Int) * ((-1 * -1 - 1) / 8)) = -(k : Int) := by
        rw [Int.natCast_zero, Int.zero_mul, Int.add_zero, show ((-1 - 1) / 2 : Int) = -1 from rfl]; omega
      rw [this]
      split <;> split <;> omega
    rw [e0, e1]
    show 1 * (Nt.s1 k * (1 * Nt.s1 k * 1 * 1)) = 1
    have := Nt.s1_sq k
    grind
  · simp at hx
    rcases hx with rfl | rfl
    · exact ⟨pr2, h⟩
    · exact ⟨hq, le⟩
  · have z1 : p ≠ 2 := fun e => z (by rw [e]; simp)
    have z2 : p ≠ q := fun e => z (by rw [e]; simp)
    exact Hil_unit hp z1 (neg1_nz' hp) (pr_nd hp hq z2)
theorem base_2q {N q : Nat} (h : 2 ≤ N) (hq : Nt.Pr q) (q2 : q ≠ 2) (le : q ≤ N) : HP N 2 q = 1 := by
  obtain ⟨k, hk⟩ := odd_of hq q2
  have hq2 := hq.1
  rw [HP_list (L := [2, q]) (by simp; omega) (fun x hx => ?_) fun p hp z => ?_]
  · show Hil 0 2 q * (Hil 2 2 q * (Hil q 2 q * 1)) = 1
    rw [Hil_dec (p := 2) (a := 2) (Nat.le_refl _) (by omega) (by omega) (dec_p pr2) (Dec.zero (pr_nd pr2 hq (Ne.symm q2))), Hil_dec (p := q) (a := 2) hq.1 (by omega) (by omega) (Dec.zero (pr_nd hq pr2 q2)) (dec_p hq)]
    rw [show ((2 : Nat) : Int) = 2 from rfl, sg2, sgP (by omega), rs_two hq hk]
    have e0 : Hil 0 2 q = 1 := by
      show (if (2 : Int) < 0 ∧ (q : Int) < 0 then (-1 : Int) else 1) = 1
      rw [if_neg (by omega)]
    have e1 : sI (sgo 1 1 0 q) = Nt.s1 (Nt.sm (fun i => i + 1) k) := by
      rw [← sI_nat]
      congr 1
      unfold sgo
      have t := Nt.tri k
      have t' : (2 : Int) * (Nt.sm (fun i => i + 1) k : Int) = (k : Int) * ((k : Int) + 1) := by
        have := congrArg (fun n : Nat => (n : Int)) t
        simpa using this
      have : ((q : Int) * q - 1) / 8 = (Nt.sm (fun i => i + 1) k : Int) := by
        have : (q : Int) * q = 8 * (Nt.sm (fun i => i + 1) k : Int) + 1 := by
          rw [cast_odd hk]
          have : (2 * (k : Int) + 1) * (2 * (k : Int) + 1) = 4 * ((k : Int) * ((k : Int) + 1)) + 1 := by grind
          rw [this, ← t']; omega
        omega
      rw [this]
      omega
    rw [e0, e1]
    generalize Nt.sm (fun i => i + 1) k = T
    show 1 * (Nt.s1 T * (1 * Nt.s1 T * 1 * 1)) = 1
    have := Nt.s1_sq T
    grind
  · simp at hx
    rcases hx with rfl | rfl
    · exact ⟨pr2, h⟩
    · exact ⟨hq, le⟩
  · have z1 : p ≠ 2 := fun e => z (by rw [e]; simp)
    have z2 : p ≠ q := fun e => z (by rw [e]; simp)
    exact Hil_unit hp z1 (pr_nd hp pr2 z1) (pr_nd hp hq z2)
theorem base_qq {N q r : Nat} (h : 2 ≤ N) (hq : Nt.Pr q) (q2 : q ≠ 2) (le : q ≤ N) (hr : Nt.Pr r) (r2 : r ≠ 2) (ler : r ≤ N) (ne : q ≠ r) : HP N q r = 1 := by
  obtain ⟨k, hk⟩ := odd_of hq q2
  obtain ⟨j, hj⟩ := odd_of hr r2
  have hq2 := hq.1
  have hr2 := hr.1
  rw [HP_list (L := [2, q, r]) (by simp; omega) (fun x hx => ?_) fun p hp z => ?_]
  · show Hil 0 q r * (Hil 2 q r * (Hil q q r * (Hil r q r * 1))) = 1
    rw [Hil_dec (p := 2) (Nat.le_refl _) (by omega) (by omega) (Dec.zero (pr_nd pr2 hq (Ne.symm q2))) (Dec.zero (pr_nd pr2 hr (Ne.symm r2))),
      Hil_dec (p := q) hq.1 (by omega) (by omega) (dec_p hq) (Dec.zero (pr_nd hq hr ne)), Hil_dec (p := r) hr.1 (by omega) (by omega) (Dec.zero (pr_nd hr hq (Ne.symm ne))) (dec_p hr)]
    rw [show ((2 : Nat) : Int) = 2 from rfl, sg2, sgP (by omega), sgP (by omega)]
    have e0 : Hil 0 q r = 1 := by
      show (if (q : Int) < 0 ∧ (r : Int) < 0 then (-1 : Int) else 1) = 1
      rw [if_neg (by omega)]
    have e1 : sI (sgo 0 q 0 r) = Nt.s1 (k * j) := by
      rw [← sI_nat]
      congr 1
      unfold sgo
      rw [cast_odd hk, cast_odd hj, show (2 * (k : Int) + 1 - 1) / 2 = k by omega, show (2 * (j : Int) + 1 - 1) / 2 = j by omega, Int.natCast_mul]
      omega
    rw [e0, e1, ← recip hq hr ne hk hj]
    show 1 * (rs q r * rs r q * ((1 * 1 * rs q r) * ((1 * rs r q * 1) * 1))) = 1
    rcases rs_1 q r with x | x <;> rcases rs_1 r q with y | y <;> rw [x, y] <;> rfl
  · simp at hx
    rcases hx with rfl | rfl | rfl
    · exact ⟨pr2, h⟩
    · exact ⟨hq, le⟩
    · exact ⟨hr, ler⟩
  · have z1 : p ≠ 2 := fun e => z (by rw [e]; simp)
    have z2 : p ≠ q := fun e => z (by rw [e]; simp)
    have z3 : p ≠ r := fun e => z (by rw [e]; simp)
    exact Hil_unit hp z1 (pr_nd hp hq z2) (pr_nd hp hr z3)
def Gen (N : Nat) (a : Int) : Prop := a = -1 ∨ ∃ q : Nat, Nt.Pr q ∧ q ≤ N ∧ a = q
theorem base_mg {N : Nat} (h : 2 ≤ N) {a : Int} (ha : Gen N a) : HP N (-1) a = 1 := by
  rcases ha with rfl | ⟨q, hq, le, rfl⟩
  · exact base_mm h
  · by_cases e : q = 2
    · subst e; exact base_m2 h
    · exact base_mq h hq e le
theorem base {N : Nat} (h : 2 ≤ N) {a b : Int} (ha : Gen N a) (hb : Gen N b) : HP N a b = 1 := by
  rcases ha with rfl | ⟨q, hq, le, rfl⟩
  · exact base_mg h hb
  · rcases hb with rfl | ⟨r, hr, ler, rfl⟩
    · rw [HP_comm]; exact base_mg h (.inr ⟨q, hq, le, rfl⟩)
    · by_cases e : q = r
      · subst e
        have q0 : (q : Int) ≠ 0 := by have := hq.1; omega
        have e1 := HP_mul N (a := (q : Int)) (b := -1) (c := -(q : Int)) q0 (by omega) (by omega)
        rw [show (-1 : Int) * -(q : Int) = q by omega, HP_neg q0, HP_comm N (q : Int) (-1), base_mg h (.inr ⟨q, hq, le, rfl⟩)] at e1
        exact e1
      · by_cases q2 : q = 2
        · subst q2; exact base_2q h hr (Ne.symm e) ler
        · by_cases r2 : r = 2
          · subst r2; rw [HP_comm]; exact base_2q h hq q2 le
          · exact base_qq h hq q2 le hr r2 ler e
theorem prime_ex : ∀ (m n : Nat), n ≤ m → 2 ≤ n → ∃ q, Nt.Pr q ∧ q ∣ n
  | 0, n, h, h2 => by omega
  | m + 1, n, h, h2 => by
    by_cases p : Nt.Pr n
    · exact ⟨n, p, Nat.dvd_refl n⟩
    · have : ∃ d, d ∣ n ∧ d ≠ 1 ∧ d ≠ n := Classical.byContradiction fun z => p ⟨h2, fun d hd => Classical.byContradiction fun w => z ⟨d, hd, fun e => w (.inl e), fun e => w (.inr e)⟩⟩
      obtain ⟨d, hd, d1, dn⟩ := this
      have le := Nat.le_of_dvd (by omega) hd
      have d0 : d ≠ 0 := fun z => by rw [z] at hd; have := Nat.eq_zero_of_zero_dvd hd; omega
      obtain ⟨q, hq, hqd⟩ := prime_ex m d (by omega) (by omega)
      exact ⟨q, hq, Nat.dvd_trans hqd hd⟩
theorem lift {N : Nat} {a : Int} (a0 : a ≠ 0) (hg : ∀ b, Gen N b → HP N a b = 1) : ∀ (m : Nat) (b : Int), b ≠ 0 → b.natAbs ≤ m → b.natAbs ≤ N → HP N a b = 1
  | 0, b, b0, h, _ => by omega
  | m + 1, b, b0, h, hN => by
    by_cases one : b.natAbs = 1
    · rcases (show b = 1 ∨ b = -1 by omega) with rfl | rfl
      · exact HP_one a0
      · exact hg _ (.inl rfl)
    · obtain ⟨q, hq, d⟩ := prime_ex b.natAbs b.natAbs (Nat.le_refl _) (by omega)
      obtain ⟨c, hc⟩ : (q : Int) ∣ b := Int.natAbs_dvd_natAbs.mp (by rwa [Int.natAbs_natCast])
      have c0 : c ≠ 0 := fun z => b0 (by rw [hc, z, Int.mul_zero])
      have q2 := hq.1
      have e : b.natAbs = q * c.natAbs := by rw [hc, Int.natAbs_mul, Int.natAbs_natCast]
      have le : 2 * c.natAbs ≤ q * c.natAbs := Nat.mul_le_mul_right _ q2
      have qle : q ≤ b.natAbs := Nat.le_of_dvd (by omega) d
      rw [hc, HP_mul N a0 (by omega) c0, hg _ (.inr ⟨q, hq, by omega, rfl⟩), lift a0 hg m c c0 (by omega) (by omega)]
      rfl
theorem HP_1 {N : Nat} (h : 2 ≤ N) {a b : Int} (a0 : a ≠ 0) (b0 : b ≠ 0) (ha : a.natAbs ≤ N) (hb : b.natAbs ≤ N) : HP N a b = 1 := by
  have g0 : ∀ c, Gen N c → c ≠ 0 := fun c hc => by
    rcases hc with rfl | ⟨q, hq, _, rfl⟩
    · omega
    · have := hq.1; omega
  refine lift a0 (fun c hc => ?_) b.natAbs b b0 (Nat.le_refl _) hb
  rw [HP_comm]
  exact lift (g0 c hc) (fun d hd => base h hc hd) a.natAbs a a0 (Nat.le_refl _) ha
theorem lz_count (F : Nat → Int) : ∀ (L : List Nat), (∀ p ∈ L, F p = 1 ∨ F p = -1) → lz F L = Nt.s1 (L.filter fun p => decide (F p = -1)).length
  | [], _ => rfl
  | p :: L, h => by
    show F p * lz F L = _
    rw [lz_count F L fun x hx => h x (List.mem_cons_of_mem _ hx), List.filter_cons]
    rcases h p List.mem_cons_self with e | e
    · rw [e, Int.one_mul, if_neg (by simp)]
    · rw [e, if_pos (by simp), List.length_cons, Nt.s1_add, Int.mul_comm]; rfl
theorem places_even {L : List Nat} (nd : L.Nodup) {a b : Int} (a0 : a ≠ 0) (b0 : b ≠ 0) (hL : ∀ p, p ∈ L ↔ p = 0 ∨ (Nt.Pr p ∧ ((p : Int) ∣ 2 * a ∨ (p : Int) ∣ 2 * b))) : (L.filter fun p => decide (Hil p a b = -1)).length % 2 = 0 := by
  have m0 : 0 ∈ L := (hL 0).mpr (.inl rfl)
  have pe : L.Perm (0 :: L.erase 0) := List.perm_cons_erase m0
  have pf := (pe.filter fun p => decide (Hil p a b = -1)).length_eq
  have nd' := nd.erase 0
  have n0 : 0 ∉ L.erase 0 := fun z => ((nd.mem_erase_iff).mp z).1 rfl
  have mE : ∀ p, p ∈ L.erase 0 ↔ p ≠ 0 ∧ p ∈ L := fun p => nd.mem_erase_iff
  have bd : ∀ p ∈ L.erase 0, Nt.Pr p ∧ p ≤ 2 * a.natAbs + 2 * b.natAbs := fun p hp => by
    obtain ⟨z, m⟩ := (mE p).mp hp
    rcases (hL p).mp m with w | ⟨hp, w⟩
    · exact absurd w z
    · refine ⟨hp, ?_⟩
      rcases w with w | w
      · have := Int.natAbs_dvd_natAbs.mpr w
        rw [Int.natAbs_natCast, Int.natAbs_mul] at this
        have := Nat.le_of_dvd (by have : a.natAbs ≠ 0 := by omega
                                  show 0 < 2 * a.natAbs; omega) this
        have e : (2 : Int).natAbs = 2 := rfl
        rw [e] at this; omega
      · have := Int.natAbs_dvd_natAbs.mpr w
        rw [Int.natAbs_natCast, Int.natAbs_mul] at this
        have := Nat.le_of_dvd (by have : b.natAbs ≠ 0 := by omega
                                  show 0 < 2 * b.natAbs; omega) this
        have e : (2 : Int).natAbs = 2 := rfl
        rw [e] at this; omega
  have e := HP_1 (N := 2 * a.natAbs + 2 * b.natAbs) (by omega) a0 b0 (by omega) (by omega)
  rw [HP_list nd' bd fun p hp z => ?_] at e
  · have c := lz_count (fun p => Hil p a b) (0 :: L.erase 0) fun p _ => Hil_1 p a b
    rw [show lz (fun p => Hil p a b) (0 :: L.erase 0) = Hil 0 a b * lz (fun p => Hil p a b) (L.erase 0) from rfl, e] at c
    rw [pf]
    unfold Nt.s1 at c
    split at c
    · assumption
    · cases c
  · have nL : p ∉ L := fun w => z ((mE p).mpr ⟨by have := hp.1; omega, w⟩)
    have na : ¬ (p : Int) ∣ 2 * a := fun w => nL ((hL p).mpr (.inr ⟨hp, .inl w⟩))
    have nb : ¬ (p : Int) ∣ 2 * b := fun w => nL ((hL p).mpr (.inr ⟨hp, .inr w⟩))
    have p2 : p ≠ 2 := fun w => na (by rw [w]; exact ⟨a, rfl⟩)
    exact Hil_unit hp p2 (fun w => na (Int.dvd_mul_of_dvd_right (Int.dvd_of_emod_eq_zero w))) (fun w => nb (Int.dvd_mul_of_dvd_right (Int.dvd_of_emod_eq_zero w)))
end Fw
namespace Fw
open PySem L2
theorem e40 {n : Nat} (h : n < 1099511627776) : n < 2 ^ 40 := by
  have : ((2 : Nat) ^ 40) = 1099511627776 := by decide +kernel
  omega
theorem resid_ok {p u : Int} (hp : 2 ≤ p ∧ p < 4294967296) {n : Nat} (hn : 40 < n) : ∃ s, f_residue_sign n [.val (.int u), .val (.int p)] = .ok (.v (.int (rs p u))) s := by
  obtain ⟨b', e⟩ := resid_loop (a := u) hp 40 ((p - 1) / 2).toNat 1 (u % p) n ⟨by omega, by omega⟩ ⟨Int.emod_nonneg _ (by omega), Int.emod_lt_of_pos _ (by omega)⟩ (e40 (by omega)) hn
  have w : ((((p - 1) / 2).toNat : Nat) : Int) = (p - 1) / 2 := by omega
  rw [w, Int.one_mul, pow_emod] at e
  refine ⟨[.val (.int u), .val (.int p)], ?_⟩
  unfold rs
  by_cases z : u ^ ((p - 1) / 2).toNat % p = 1
  · simp (disch := omega) [f_residue_sign, fn_eq, m_residue_sign, c_residue_sign_1, b_residue_sign_1, dMod_pos, dFdiv_pos, e, z]
  · simp (disch := omega) [f_residue_sign, fn_eq, m_residue_sign, c_residue_sign_1, b_residue_sign_1, dMod_pos, dFdiv_pos, e, z]
theorem isi1 {i : Int} : dIsi (.int i) (.ty "int") = some (.bl true) := rfl
theorem isi2 {i : Int} : dIsi (.int i) (.ty "bool") = some (.bl false) := rfl
theorem between_ok {n : Nat} {i l h : Int} : f_is_between n [.val (.int i), .val (.int l), .val (.int h)] = .ok (.v (.bl (decide (l ≤ i) && decide (i ≤ h)))) [.val (.int i), .val (.int l), .val (.int h)] := by
  by_cases z : l ≤ i
  · simp [f_is_between, fn_eq, m_is_between, f_is_integer, m_is_integer, isi1, isi2, z]
  · simp [f_is_between, fn_eq, m_is_between, f_is_integer, m_is_integer, isi1, isi2, z]
theorem signed_ok {n : Nat} {a : Int} (h0 : a ≠ 0) (h : -1000000000 ≤ a ∧ a ≤ 1000000000) : f_check_signed n [.val (.int a)] = .ok (.v .non) [.val (.int a)] := by
  simp [f_check_signed, fn_eq, m_check_signed, between_ok, h0, h.1, h.2]
theorem Dec.le {p a u : Int} {v : Nat} (hp : 2 ≤ p) (h : Dec p a v u) (h0 : a ≠ 0) : u.natAbs ≤ a.natAbs ∧ v ≤ a.natAbs ∧ u ≠ 0 := by
  have e : a.natAbs = p.natAbs ^ v * u.natAbs := by rw [h.1, Int.natAbs_mul, Int.natAbs_pow]
  have u0 : u ≠ 0 := fun z => h0 (by rw [h.1, z, Int.mul_zero])
  have p1 : 1 ≤ p.natAbs ^ v := Nat.pow_pos (by omega)
  have p2 : 2 ^ v ≤ p.natAbs ^ v := Nat.pow_le_pow_left (by omega) v
  have p3 : v < 2 ^ v := Nat.lt_two_pow_self
  have u1 : 1 ≤ u.natAbs := by omega
  refine ⟨?_, ?_, u0⟩
  · rw [e]; exact Nat.le_mul_of_pos_left _ p1
  · rw [e]
    have : p.natAbs ^ v * 1 ≤ p.natAbs ^ v * u.natAbs := Nat.mul_le_mul_left _ u1
    omega
theorem sign_at_ok {p a b u t : Int} {v w : Nat} (hp : 2 ≤ p ∧ p < 4294967296) (ha : Dec p a v u) (hb : Dec p b w t) (a0 : a ≠ 0) (b0 : b ≠ 0) (a1 : -1000000000 ≤ a ∧ a ≤ 1000000000) (b1 : -1000000000 ≤ b ∧ b ≤ 1000000000) {n : Nat} (hn : 200 < n) : ∃ s, f_sign_at n [.val (.int a), .val (.int b), .val (.int p)] = .ok (.v (.int (sg p v u w t))) s := by
  have e100 : (2 : Nat) ^ 100 = 1267650600228229401496703205376 := by decide +kernel
  obtain ⟨v', u', s1, hd', e1⟩ := parted_ok (n := n) (p := p) ⟨hp.1, by omega⟩ a0 (by rw [e100]; omega) (by omega)
  obtain ⟨rfl, rfl⟩ := Dec.uniq hp.1 ha hd'
  obtain ⟨w', t', s2, hd', e2⟩ := parted_ok (n := n) (p := p) ⟨hp.1, by omega⟩ b0 (by rw [e100]; omega) (by omega)
  obtain ⟨rfl, rfl⟩ := Dec.uniq hp.1 hb hd'
  have la := ha.le hp.1 a0
  have lb := hb.le hp.1 b0
  have p0 : p ≠ 0 := by omega
  refine ⟨[.val (.int a), .val (.int b), .val (.int p)], ?_⟩
  by_cases p2 : p = 2
  · subst p2
    by_cases z : sgo v u w t % 2 = 0
    · have z' := z
      unfold sgo at z'
      simp (disch := omega) [f_sign_at, fn_eq, m_sign_at, dMod_pos, dFdiv_pos, dMul_l, e1, e2, sg, z, z']
    · have z' := z
      unfold sgo at z'
      simp (disch := omega) [f_sign_at, fn_eq, m_sign_at, dMod_pos, dFdiv_pos, dMul_l, e1, e2, sg, z, z']
  · obtain ⟨s3, e3⟩ := resid_ok (u := u) hp (n := n) (by omega)
    obtain ⟨s4, e4⟩ := resid_ok (u := t) hp (n := n) (by omega)
    obtain ⟨s5, e5⟩ := resid_ok (u := -1) hp (n := n) (by omega)
    unfold sg
    rw [if_neg p2]
    have r3 := rs_1 p u
    have r4 := rs_1 p t
    have r5 := rs_1 p (-1)
    generalize rs p u = x3 at *
    generalize rs p t = x4 at *
    generalize rs p (-1) = x5 at *
    have ve : (v : Int) % 2 = 1 ∨ (v : Int) % 2 = 0 := by omega
    have we : (w : Int) % 2 = 1 ∨ (w : Int) % 2 = 0 := by omega
    rcases ve with ve | ve <;> rcases we with we | we
    · have v2 : v % 2 = 1 := by omega
      have w2 : w % 2 = 1 := by omega
      rcases r3 with rfl | rfl <;> rcases r4 with rfl | rfl <;> rcases r5 with rfl | rfl <;> simp (disch := omega) [f_sign_at, fn_eq, m_sign_at, dMod_pos, dMul_l, e1, e2, e3, e4, e5, p0, p2, ve, we, v2, w2]
    · have v2 : v % 2 = 1 := by omega
      have w2 : ¬ w % 2 = 1 := by omega
      rcases r3 with rfl | rfl <;> rcases r4 with rfl | rfl <;> rcases r5 with rfl | rfl <;> simp (disch := omega) [f_sign_at, fn_eq, m_sign_at, dMod_pos, dMul_l, e1, e2, e3, e4, e5, p0, p2, ve, we, v2, w2]
    · have v2 : ¬ v % 2 = 1 := by omega
      have w2 : w % 2 = 1 := by omega
      rcases r3 with rfl | rfl <;> rcases r4 with rfl | rfl <;> rcases r5 with rfl | rfl <;> simp (disch := omega) [f_sign_at, fn_eq, m_sign_at, dMod_pos, dMul_l, e1, e2, e3, e4, e5, p0, p2, ve, we, v2, w2]
    · have v2 : ¬ v % 2 = 1 := by omega
      have w2 : ¬ w % 2 = 1 := by omega
      simp (disch := omega) [f_sign_at, fn_eq, m_sign_at, dMod_pos, dMul_l, e1, e2, e3, e4, e5, p0, p2, ve, we, v2, w2]
def bodyR : M Fl := (mSq (mIf (mCmp dEq (.e (mVar 4)) (.e (mC (.int 0)))) (mp .bk) (mp .nx))
    (mSq (mIf (mCmp dEq (.e (mOp dMod (.e (mCB (op1 dInt) [(.e (mVar 4))])) (.e (mC (.int 2))))) (.e (mC (.int 1))))
    (mSet 2 (mOp dMod (.e (mCB (op1 dInt) [(.e (mOp dMul (.e (mVar 2)) (.e (mVar 3))))])) (.e (mVar 1))))
    (mp .nx))
    (mPar [3, 4] [.e (mOp dMod (.e (mCB (op1 dInt) [(.e (mOp dMul (.e (mVar 3)) (.e (mVar 3))))])) (.e (mVar 1))), .e (mOp dFdiv (.e (mVar 4)) (.e (mC (.int 2))))])))
theorem rest_loop {p a : Int} (hp : 2 ≤ p ∧ p < 4294967296) : ∀ (k w : Nat) (f b : Int) (L : List Int) (s : Sl), Np s → 0 ≤ f ∧ f < p → 0 ≤ b ∧ b < p → w < 2 ^ k → k < L.length → ∃ (b' : Int) (s' : Sl),
    mFl (Fw.setV 5) bodyR (L.map D.int) [.val (.int a), .val (.int p), .val (.int f), .val (.int b), .val (.int w), s] = .ok .nx [.val (.int a), .val (.int p), .val (.int (f * b ^ w % p)), .val (.int b'), .val (.int 0), s']
  | _, 0, f, b, [], s, hs, hf, hb, hw, hn => by simp at hn
  | _, 0, f, b, i :: L, s, hs, hf, hb, hw, hn => by
    refine ⟨b, .val (.int i), ?_⟩
    have : f % p = f := Int.emod_eq_of_lt hf.1 hf.2
    rcases hs with rfl | ⟨_, rfl⟩ <;> simp [fl_eq, bodyR, this]
  | 0, w + 1, f, b, L, s, hs, hf, hb, hw, hn => by simp at hw
  | k + 1, w + 1, f, b, [], s, hs, hf, hb, hw, hn => by simp at hn
  | k + 1, w + 1, f, b, i :: L, s, hs, hf, hb, hw, hn => by
    have b2 : 0 ≤ b * b % p ∧ b * b % p < p := ⟨Int.emod_nonneg _ (by omega), Int.emod_lt_of_pos _ (by omega)⟩
    have f2 : 0 ≤ f * b % p ∧ f * b % p < p := ⟨Int.emod_nonneg _ (by omega), Int.emod_lt_of_pos _ (by omega)⟩
    have q : ((w + 1 : Nat) : Int) / 2 = (((w + 1) / 2 : Nat) : Int) := by omega
    have pos : ¬ ((w + 1 : Nat) : Int) = 0 := by omega
    have st : Fw.setV 5 (.int i) [.val (.int a), .val (.int p), .val (.int f), .val (.int b), .val (.int ((w + 1 : Nat) : Int)), s] = .ok () [.val (.int a), .val (.int p), .val (.int f), .val (.int b), .val (.int ((w + 1 : Nat) : Int)), .val (.int i)] := by
      rcases hs with rfl | ⟨_, rfl⟩ <;> rfl
    rw [List.length_cons] at hn
    rw [Nat.pow_succ] at hw
    by_cases z : ((w + 1 : Nat) : Int) % 2 = 1
    · obtain ⟨b', s', e⟩ := rest_loop (a := a) hp k ((w + 1) / 2) (f * b % p) (b * b % p) L (.val (.int i)) (.inr ⟨_, rfl⟩) f2 b2 (by omega) (by omega)
      refine ⟨b', s', ?_⟩
      rw [List.map_cons, fl_eq, st]
      simp (disch := omega) only [bodyR, e_Cmp, e_O2ee, e_mb, e_mVar, get_1, get_0, e_mC, Option.bind_some, e_dB, e_mo, pos, decide_true, e_Sq, e_If, e_Op, dMod_pos, dEq_i, z, if_true, e_Set, dMul_l, e_setV, List.set_cons_succ, List.set_cons_zero, e_mp, e_Par, e_nx, e_Eds1, e_Eds0, dFdiv_pos, e_as1, e_as0, e_sg1, q, e_CB, e_As, e_A1e, e_A1nil, e_R1, e_R0, e_op1, dInt_i, decide_false, Bool.false_eq_true, if_false, Option.elim_some, Sl.isPb]
      refine Eq.trans e ?_
      have x := sq_step p (f * b % p) b ((w + 1) / 2)
      have y : w + 1 = 2 * ((w + 1) / 2) + 1 := by omega
      have g : f * b % p * (b * b % p) ^ ((w + 1) / 2) % p = f * b ^ (w + 1) % p := by
        rw [x, Int.mul_emod, Int.emod_emod_of_dvd _ (Int.dvd_refl p), ← Int.mul_emod]
        conv => rhs; rw [y, Int.pow_succ]
        rw [Int.mul_assoc, Int.mul_comm b]
      rw [g]
    · obtain ⟨b', s', e⟩ := rest_loop (a := a) hp k ((w + 1) / 2) f (b * b % p) L (.val (.int i)) (.inr ⟨_, rfl⟩) hf b2 (by omega) (by omega)
      refine ⟨b', s', ?_⟩
      rw [List.map_cons, fl_eq, st]
      simp (disch := omega) only [bodyR, e_Cmp, e_O2ee, e_mb, e_mVar, get_1, get_0, e_mC, Option.bind_some, e_dB, e_mo, pos, decide_true, e_Sq, e_If, e_Op, dMod_pos, dEq_i, z, if_true, e_Set, dMul_l, e_setV, List.set_cons_succ, List.set_cons_zero, e_mp, e_Par, e_nx, e_Eds1, e_Eds0, dFdiv_pos, e_as1, e_as0, e_sg1, q, e_CB, e_As, e_A1e, e_A1nil, e_R1, e_R0, e_op1, dInt_i, decide_false, Bool.false_eq_true, if_false, Option.elim_some, Sl.isPb]
      refine Eq.trans e ?_
      have x := sq_step p f b ((w + 1) / 2)
      have y : w + 1 = 2 * ((w + 1) / 2) := by omega
      rw [x, ← y]
theorem rests_eq (n : Nat) : m__law_rest_sign n = (mSq (mPar [2, 3, 4] [.e (mC (.int 1)), .e (mOp dMod (.e (mCB (op1 dInt) [(.e (mVar 0))])) (.e (mVar 1))), .e (mOp dFdiv (.e (mOp dSub (.e (mVar 1)) (.e (mC (.int 1))))) (.e (mC (.int 2))))])
    (mSq (mFor (mIA dR1 [(.e (mC (.int 80)))]) (Fw.setV 5) bodyR)
    (mRet (mIf (mCmp dEq (.e (mVar 2)) (.e (mC (.int 1)))) (mC (.int 1)) (mUn dNeg (.e (mC (.int 1)))))))) := rfl
theorem rest_ok {p u : Int} (hp : 2 ≤ p ∧ p < 4294967296) (n : Nat) : ∃ s, f__law_rest_sign n [.val (.int u), .val (.int p)] = .ok (.v (.int (rs p u))) s := by
  obtain ⟨b', s', e⟩ := rest_loop (a := u) hp 40 ((p - 1) / 2).toNat 1 (u % p) ((List.range 80).map fun i : Nat => (0 : Int) + (i : Int)) .emp (.inl rfl) ⟨by omega, by omega⟩ ⟨Int.emod_nonneg _ (by omega), Int.emod_lt_of_pos _ (by omega)⟩ (e40 (by omega)) (by rw [List.length_map, List.length_range]; omega)
  have w : ((((p - 1) / 2).toNat : Nat) : Int) = (p - 1) / 2 := by omega
  rw [w, Int.one_mul, pow_emod, List.map_map] at e
  have r : dR1 [.int 80] = some ((List.range 80).map (D.int ∘ fun i : Nat => (0 : Int) + (i : Int))) := rfl
  generalize (List.range 80).map (D.int ∘ fun i : Nat => (0 : Int) + (i : Int)) = L at e r
  refine ⟨[.val (.int u), .val (.int p)], ?_⟩
  unfold rs
  by_cases z : u ^ ((p - 1) / 2).toNat % p = 1
  · simp (disch := omega) [f__law_rest_sign, fn_eq, rests_eq, dMod_pos, dFdiv_pos, r, e, z]
  · simp (disch := omega) [f__law_rest_sign, fn_eq, rests_eq, dMod_pos, dFdiv_pos, r, e, z]
theorem symbol_ok {p a b u t : Int} {v w : Nat} (hp : 3 ≤ p ∧ p < 4294967296) (ha : Dec p a v u) (hb : Dec p b w t) (a0 : a ≠ 0) (b0 : b ≠ 0) (a1 : -1000000000 ≤ a ∧ a ≤ 1000000000) (b1 : -1000000000 ≤ b ∧ b ≤ 1000000000) (n : Nat) : ∃ s, f__law_symbol n [.val (.int a), .val (.int b), .val (.int p)] = .ok (.v (.int (sg p v u w t))) s := by
  have e100 : (2 : Nat) ^ 100 = 1267650600228229401496703205376 := by decide +kernel
  obtain ⟨v', u', s1, hd', e1⟩ := split_ok (n := n) (p := p) ⟨by omega, by omega⟩ a0 (by rw [e100]; omega)
  obtain ⟨rfl, rfl⟩ := Dec.uniq (by omega) ha hd'
  obtain ⟨w', t', s2, hd', e2⟩ := split_ok (n := n) (p := p) ⟨by omega, by omega⟩ b0 (by rw [e100]; omega)
  obtain ⟨rfl, rfl⟩ := Dec.uniq (by omega) hb hd'
  have la := ha.le (by omega) a0
  have lb := hb.le (by omega) b0
  have p0 : p ≠ 0 := by omega
  have p2 : p ≠ 2 := by omega
  refine ⟨[.val (.int a), .val (.int b), .val (.int p)], ?_⟩
  obtain ⟨s3, e3⟩ := rest_ok (u := u) (p := p) (by omega) n
  obtain ⟨s4, e4⟩ := rest_ok (u := t) (p := p) (by omega) n
  obtain ⟨s5, e5⟩ := rest_ok (u := -1) (p := p) (by omega) n
  unfold sg
  rw [if_neg p2]
  have r3 := rs_1 p u
  have r4 := rs_1 p t
  have r5 := rs_1 p (-1)
  generalize rs p u = x3 at *
  generalize rs p t = x4 at *
  generalize rs p (-1) = x5 at *
  have ve : (v : Int) % 2 = 1 ∨ (v : Int) % 2 = 0 := by omega
  have we : (w : Int) % 2 = 1 ∨ (w : Int) % 2 = 0 := by omega
  have vw : ((v : Int) * w) % 2 = ((v : Int) % 2) * ((w : Int) % 2) % 2 := Int.mul_emod _ _ _
  rcases ve with ve | ve <;> rcases we with we | we <;> rw [ve, we] at vw
  · have v2 : v % 2 = 1 := by omega
    have w2 : w % 2 = 1 := by omega
    have vw : ((v : Int) * w) % 2 = 1 := vw
    rcases r3 with rfl | rfl <;> rcases r4 with rfl | rfl <;> rcases r5 with rfl | rfl <;> simp (disch := omega) [f__law_symbol, fn_eq, m__law_symbol, b__law_symbol_1, fl_eq, fl_nil, dMod_pos, dMul_l, e1, e2, e3, e4, e5, p0, p2, ve, we, v2, w2, vw]
  · have v2 : v % 2 = 1 := by omega
    have w2 : ¬ w % 2 = 1 := by omega
    have vw : ((v : Int) * w) % 2 = 0 := vw
    rcases r3 with rfl | rfl <;> rcases r4 with rfl | rfl <;> simp (disch := omega) [f__law_symbol, fn_eq, m__law_symbol, b__law_symbol_1, fl_eq, fl_nil, dMod_pos, dMul_l, e1, e2, e3, e4, e5, p0, p2, ve, we, v2, w2, vw]
  · have v2 : ¬ v % 2 = 1 := by omega
    have w2 : w % 2 = 1 := by omega
    have vw : ((v : Int) * w) % 2 = 0 := vw
    rcases r3 with rfl | rfl <;> rcases r4 with rfl | rfl <;> simp (disch := omega) [f__law_symbol, fn_eq, m__law_symbol, b__law_symbol_1, fl_eq, fl_nil, dMod_pos, dMul_l, e1, e2, e3, e4, e5, p0, p2, ve, we, v2, w2, vw]
  · have v2 : ¬ v % 2 = 1 := by omega
    have w2 : ¬ w % 2 = 1 := by omega
    have vw : ((v : Int) * w) % 2 = 0 := vw
    simp (disch := omega) [f__law_symbol, fn_eq, m__law_symbol, b__law_symbol_1, fl_eq, fl_nil, dMod_pos, dMul_l, e1, e2, e3, e4, e5, p0, p2, ve, we, v2, w2, vw]
end Fw
namespace Fw
open PySem L2
def Nb (s l : Nat) : Prop := ∀ d, 2 ≤ d → d < s → ¬ d ∣ l
theorem Nb.prime {s l : Nat} (h : Nb s l) (s2 : 2 ≤ s) (d : s ∣ l) : Nt.Pr s := ⟨s2, fun x hx => by
  by_cases x1 : x = 1
  · exact .inl x1
  · have x0 : x ≠ 0 := fun z => by rw [z] at hx; have := Nat.eq_zero_of_zero_dvd hx; omega
    have le := Nat.le_of_dvd (by omega) hx
    by_cases e : x = s
    · exact .inr e
    · exact absurd (Nat.dvd_trans hx d) (h x (by omega) (by omega))⟩
theorem Nb.step {s l : Nat} (h : Nb s l) (n : ¬ s ∣ l) : Nb (s + 1) l := fun d h2 hl => by
  by_cases e : d = s
  · rw [e]; exact n
  · exact h d h2 (by omega)
theorem Nb.of_dvd {s l m : Nat} (h : Nb s l) (d : m ∣ l) : Nb s m := fun x a b z => h x a b (Nat.dvd_trans z d)
theorem Nb.end_ {s l : Nat} (h : Nb s l) (hl : l < s * s) (l2 : 2 ≤ l) : Nt.Pr l := by
  refine Nt.pr_of (m := s) l2 hl fun d a b z => ?_
  exact h d b a (Nat.dvd_of_mod_eq_zero z)
theorem Nb.le {s l : Nat} (h : Nb s l) (l2 : 2 ≤ l) : s ≤ l := by
  by_cases c : s ≤ l
  · exact c
  · exact absurd (Nat.dvd_refl l) (h l l2 (by omega))
theorem mod0_i {l s : Nat} : (l : Int) % (s : Int) = 0 ↔ s ∣ l := by
  constructor
  · intro h
    have : ((l % s : Nat) : Int) = 0 := by rw [Int.natCast_emod]; exact h
    exact Nat.dvd_of_mod_eq_zero (by omega)
  · intro h
    have := Nat.mod_eq_zero_of_dvd h
    rw [← Int.natCast_emod, this]; rfl
theorem div_half {l s : Nat} (d : s ∣ l) (l0 : l ≠ 0) (s2 : 2 ≤ s) {k : Nat} (hk : l < 2 ^ (k + 1)) : l / s ≠ 0 ∧ l / s < 2 ^ k ∧ l / s ∣ l ∧ 2 * (l / s) ≤ l := by
  obtain ⟨c, hc⟩ := d
  have e : l / s = c := by rw [hc]; exact Nat.mul_div_cancel_left _ (by omega)
  have c0 : c ≠ 0 := fun z => l0 (by rw [hc, z, Nat.mul_zero])
  have : 2 * c ≤ s * c := Nat.mul_le_mul_right _ s2
  rw [Nat.pow_succ] at hk
  rw [e]
  exact ⟨c0, by omega, ⟨s, by rw [hc, Nat.mul_comm]⟩, by omega⟩
theorem pd_inner {s : Nat} (hs : Nt.Pr s) (sb : s < 1000000) (V : Int) (F : List D) (n : Nat) : ∀ (k l m : Nat), l ≠ 0 → l < 2 ^ k → k < m → ∃ l', l' ≠ 0 ∧ l' ∣ l ∧ ¬ s ∣ l' ∧ (s ∣ l → 2 * l' ≤ l) ∧ (∀ q, Nt.Pr q → q ∣ l → q = s ∨ q ∣ l') ∧
    mWh (c_prime_divisors_1 n) (b_prime_divisors_1 n) m [.val (.int V), .box (.lst F), .val (.int l), .val (.int s)] = .ok .nx [.val (.int V), .box (.lst F), .val (.int l'), .val (.int s)]
  | 0, l, m, h0, hk, hm => by simp at hk; omega
  | k + 1, l, 0, h0, hk, hm => by omega
  | k + 1, l, m + 1, h0, hk, hm => by
    have s2 := hs.1
    by_cases d : s ∣ l
    · obtain ⟨e0, e1, e2, e3⟩ := div_half d h0 s2 hk
      obtain ⟨l', a1, a2, a3, a4, a5, a6⟩ := pd_inner hs sb V F n k (l / s) m e0 e1 (by omega)
      refine ⟨l', a1, Nat.dvd_trans a2 e2, a3, fun _ => by have := Nat.le_of_dvd (by omega) a2; omega, fun q hq hd => ?_, ?_⟩
      · have e : s * (l / s) = l := Nat.mul_div_cancel' d
        rw [← e] at hd
        rcases hq.dvd hd with z | z
        · rcases hs.2 q z with w | w
          · have := hq.1; omega
          · exact .inl w
        · exact a5 q hq z
      · refine wh_to (e1 := [.val (.int V), .box (.lst F), .val (.int l), .val (.int s)]) (e2 := [.val (.int V), .box (.lst F), .val (.int ((l / s : Nat) : Int)), .val (.int s)]) ?_ ?_ a6
        · have z := mod0_i.mpr d
          simp (disch := omega) [c_prime_divisors_1, dMod_pos, z]
        · simp (disch := omega) [b_prime_divisors_1, dFdiv_pos]
    · refine ⟨l, h0, Nat.dvd_refl l, d, fun z => absurd z d, fun q hq hd => .inr hd, ?_⟩
      refine wh_end (e1 := [.val (.int V), .box (.lst F), .val (.int l), .val (.int s)]) ?_
      have z : ¬ (l : Int) % (s : Int) = 0 := fun z => d (mod0_i.mp z)
      simp (disch := omega) [c_prime_divisors_1, dMod_pos, z]
structure Fd0 (v s l : Nat) (L : List Int) : Prop where
  l0 : l ≠ 0
  nb : Nb s l
  asc : L.Pairwise (· < ·)
  mem : ∀ x ∈ L, ∃ q : Nat, x = q ∧ Nt.Pr q ∧ q < s ∧ q ∣ v
  all : ∀ q, Nt.Pr q → q ∣ v → (q : Int) ∈ L ∨ q ∣ l
  dv : l ∣ v
  len : 2 ^ L.length * l ≤ v
theorem pd_loop (V : Int) {v : Nat} (hv : v < 200500) (n : Nat) (hn : 1000 ≤ n) : ∀ (k s l m : Nat) (L : List Int), 448 ≤ s + k → k < m → 2 ≤ s → s ≤ 448 → Fd0 v s l L → ∃ s' l' L', 2 ≤ s' ∧ l' < s' * s' ∧ Fd0 v s' l' L' ∧
    mWh (c_prime_divisors_2 n) (b_prime_divisors_2 n) m [.val (.int V), .box (.lst (L.map D.int)), .val (.int l), .val (.int s)] = .ok .nx [.val (.int V), .box (.lst (L'.map D.int)), .val (.int l'), .val (.int s')]
  | 0, s, l, 0, L, hs, hm, s2, sb, G => by omega
  | k + 1, s, l, 0, L, hs, hm, s2, sb, G => by omega
  | k, s, l, m + 1, L, hs, hm, s2, sb, G => by
    have lv := Nat.le_of_dvd (by have := G.l0; have : v ≠ 0 := fun z => by
                                   have := G.len; rw [z] at this; have := Nat.pow_pos (n := L.length) (show 0 < 2 by omega); have := Nat.mul_pos this (show 0 < l by omega); omega
                                 omega) G.dv
    have sq : ((s : Int) * s ≤ (l : Int)) ↔ s * s ≤ l := by rw [← Int.natCast_mul]; omega
    by_cases c : s * s ≤ l
    · have s448 : s < 448 := Nat.lt_of_not_le fun z => by have : 448 * 448 ≤ s * s := Nat.mul_le_mul z z; omega
      have cs := sq.mpr c
      by_cases d : s ∣ l
      · have ps := G.nb.prime s2 d
        have hp18 : l < 2 ^ 18 := by have : (2 : Nat) ^ 18 = 262144 := by decide
                                     omega
        obtain ⟨l', a1, a2, a3, a4, a5, a6⟩ := pd_inner ps (by omega) V ((L ++ [(s : Int)]).map D.int) n 18 l n G.l0 hp18 (by omega)
        have G' : Fd0 v (s + 1) l' (L ++ [(s : Int)]) := by
          refine ⟨a1, (G.nb.of_dvd a2).step a3, ?_, fun x hx => ?_, fun q hq hd => ?_, Nat.dvd_trans a2 G.dv, ?_⟩
          · refine List.pairwise_append.mpr ⟨G.asc, List.pairwise_singleton _ _, fun x hx y hy => ?_⟩
            rw [List.mem_singleton] at hy
            obtain ⟨q, rfl, _, b, _⟩ := G.mem x hx
            rw [hy]; omega
          · rcases List.mem_append.mp hx with hx | hx
            · obtain ⟨q, b1, b2, b3, b4⟩ := G.mem x hx
              exact ⟨q, b1, b2, by omega, b4⟩
            · rw [List.mem_singleton] at hx
              exact ⟨s, hx, ps, by omega, Nat.dvd_trans d G.dv⟩
          · rcases G.all q hq hd with z | z
            · exact .inl (List.mem_append_left _ z)
            · rcases a5 q hq z with w | w
              · exact .inl (List.mem_append_right _ (by rw [w]; exact List.mem_singleton.mpr rfl))
              · exact .inr w
          · have := G.len
            have := a4 d
            rw [List.length_append, List.length_singleton, Nat.pow_succ, Nat.mul_assoc]
            exact Nat.le_trans (Nat.mul_le_mul_left _ this) ‹_›
        obtain ⟨s', l'', L', b1, b2, b3, b4⟩ := pd_loop V hv n hn (k - 1) (s + 1) l' m (L ++ [(s : Int)]) (by omega) (by omega) (by omega) (by omega) G'
        refine ⟨s', l'', L', b1, b2, b3, ?_⟩
        have ll : L.length ≤ 18 := by
          by_cases h : L.length ≤ 18
          · exact h
          · have := Nat.pow_le_pow_right (show 0 < 2 by omega) (show 18 ≤ L.length by omega)
            have e : (2 : Nat) ^ 18 = 262144 := by decide
            have := Nat.le_trans (Nat.mul_le_mul this (show 1 ≤ l by have := G.l0; omega)) G.len
            omega
        refine wh_to (e1 := [.val (.int V), .box (.lst (L.map D.int)), .val (.int l), .val (.int s)]) (e2 := [.val (.int V), .box (.lst ((L ++ [(s : Int)]).map D.int)), .val (.int l'), .val (.int ((s + 1 : Nat) : Int))]) ?_ ?_ b4
        · simp (disch := omega) [c_prime_divisors_2, dMul_l, cs]
        · have z := mod0_i.mpr d
          have lm : lim 8000000 (List.map D.int L ++ [D.int (s : Int)]) = some (List.map D.int L ++ [D.int (s : Int)]) := by
            unfold lim
            rw [if_pos (by rw [List.length_append, List.length_map, List.length_singleton]; omega)]
          rw [List.map_append] at a6
          have a6' : mWh (c_prime_divisors_1 n) (b_prime_divisors_1 n) n [.val (.int V), .box (.lst (L.map D.int ++ [D.int s])), .val (.int l), .val (.int s)] = .ok .nx [.val (.int V), .box (.lst (L.map D.int ++ [D.int s])), .val (.int l'), .val (.int s)] := a6
          simp (disch := omega) [b_prime_divisors_2, dMod_pos, z, lm, a6']
      · have G' : Fd0 v (s + 1) l L := ⟨G.l0, G.nb.step d, G.asc, fun x hx => by
          obtain ⟨q, b1, b2, b3, b4⟩ := G.mem x hx
          exact ⟨q, b1, b2, by omega, b4⟩, G.all, G.dv, G.len⟩
        obtain ⟨s', l'', L', b1, b2, b3, b4⟩ := pd_loop V hv n hn (k - 1) (s + 1) l m L (by omega) (by omega) (by omega) (by omega) G'
        refine ⟨s', l'', L', b1, b2, b3, ?_⟩
        refine wh_to (e1 := [.val (.int V), .box (.lst (L.map D.int)), .val (.int l), .val (.int s)]) (e2 := [.val (.int V), .box (.lst (L.map D.int)), .val (.int l), .val (.int ((s + 1 : Nat) : Int))]) ?_ ?_ b4
        · simp (disch := omega) [c_prime_divisors_2, dMul_l, cs]
        · have z : ¬ (l : Int) % (s : Int) = 0 := fun z => d (mod0_i.mp z)
          simp (disch := omega) [b_prime_divisors_2, dMod_pos, z]
    · refine ⟨s, l, L, s2, by omega, G, ?_⟩
      refine wh_end (e1 := [.val (.int V), .box (.lst (L.map D.int)), .val (.int l), .val (.int s)]) ?_
      have cs : ¬ ((s : Int) * s ≤ (l : Int)) := fun z => c (sq.mp z)
      simp (disch := omega) [c_prime_divisors_2, dMul_l, cs]
structure Pd (v : Nat) (L : List Int) : Prop where
  asc : L.Pairwise (· < ·)
  mem : ∀ x, x ∈ L ↔ ∃ q : Nat, x = q ∧ Nt.Pr q ∧ q ∣ v
  len : L.length ≤ 18
theorem pd_of {v s l : Nat} {L : List Int} (v2 : v < 200500) (s2 : 2 ≤ s) (h : l < s * s) (G : Fd0 v s l L) : Pd v (L ++ if (l : Int) > 1 then [(l : Int)] else []) := by
  have lv := Nat.le_of_dvd (by
    have : v ≠ 0 := fun z => by
      have l0 := G.l0; have := G.len; rw [z] at this
      have := Nat.mul_pos (Nat.pow_pos (n := L.length) (show 0 < 2 by omega)) (show 0 < l by omega); omega
    omega) G.dv
  have ll : L.length ≤ 17 := by
    by_cases h : L.length ≤ 17
    · exact h
    · have := Nat.pow_le_pow_right (show 0 < 2 by omega) (show 18 ≤ L.length by omega)
      have e : (2 : Nat) ^ 18 = 262144 := by decide
      have := Nat.le_trans (Nat.mul_le_mul this (show 1 ≤ l by have := G.l0; omega)) G.len
      omega
  have l0 := G.l0
  by_cases c : (l : Int) > 1
  · rw [if_pos c]
    have pl := G.nb.end_ h (by omega)
    have sl := G.nb.le (show 2 ≤ l by omega)
    refine ⟨List.pairwise_append.mpr ⟨G.asc, List.pairwise_singleton _ _, fun x hx y hy => ?_⟩, fun x => ?_, by rw [List.length_append, List.length_singleton]; omega⟩
    · rw [List.mem_singleton] at hy
      obtain ⟨q, rfl, _, b, _⟩ := G.mem x hx
      rw [hy]; omega
    · rw [List.mem_append, List.mem_singleton]
      constructor
      · rintro (hx | rfl)
        · obtain ⟨q, b1, b2, b3, b4⟩ := G.mem x hx; exact ⟨q, b1, b2, b4⟩
        · exact ⟨l, rfl, pl, G.dv⟩
      · rintro ⟨q, rfl, hq, hd⟩
        rcases G.all q hq hd with z | z
        · exact .inl z
        · rcases pl.2 q z with w | w
          · have := hq.1; omega
          · exact .inr (by rw [w])
  · rw [if_neg c, List.append_nil]
    have l1 : l = 1 := by omega
    refine ⟨G.asc, fun x => ⟨fun hx => ?_, ?_⟩, by omega⟩
    · obtain ⟨q, b1, b2, b3, b4⟩ := G.mem x hx; exact ⟨q, b1, b2, b4⟩
    · rintro ⟨q, rfl, hq, hd⟩
      rcases G.all q hq hd with z | z
      · exact z
      · rw [l1] at z
        have := Nat.le_of_dvd (by omega) z
        have := hq.1; omega
theorem Fd0.start {v : Nat} (h : v ≠ 0) : Fd0 v 2 v [] := ⟨h, fun d a b => by omega, .nil, fun x hx => by (cases hx), fun q _ hd => .inr hd, Nat.dvd_refl v, by simp⟩
theorem cat_ok {L M : List Int} (h : L.length + M.length ≤ 1000) : dCat (.lst (L.map D.int)) (.lst (M.map D.int)) = some ((L ++ M).map D.int) := by
  unfold dCat
  dsimp only
  rw [if_pos (by rw [List.length_map, List.length_map]; omega), List.map_append]
theorem pd_ok {n : Nat} (hn : 1000 ≤ n) {a : Int} (a0 : a ≠ 0) (ha : a.natAbs < 200500) : ∃ L, Pd a.natAbs L ∧ ∃ s, f_prime_divisors n [.val (.int a)] = .ok (.b (L.map D.int)) s := by
  obtain ⟨s', l', L', b1, b2, b3, b4⟩ := pd_loop a ha n hn 446 2 a.natAbs n [] (by omega) (by omega) (by omega) (by omega) (Fd0.start (by omega))
  refine ⟨_, pd_of ha b1 b2 b3, [.val (.int a)], ?_⟩
  have ia : (if a < 0 then -a else a) = (a.natAbs : Int) := by split <;> omega
  have b4' : mWh (c_prime_divisors_2 n) (b_prime_divisors_2 n) n [.val (.int a), .box (.lst []), .val (.int (a.natAbs : Int)), .val (.int 2)] = .ok .nx [.val (.int a), .box (.lst (L'.map D.int)), .val (.int l'), .val (.int s')] := b4
  have ln := (pd_of ha b1 b2 b3).len
  by_cases c : (l' : Int) > 1
  · rw [if_pos c] at ln ⊢
    rw [List.length_append] at ln
    have k := cat_ok (L := L') (M := [(l' : Int)]) (by omega)
    rw [List.map_cons, List.map_nil] at k
    simp [f_prime_divisors, fn_eq, m_prime_divisors, ia, b4', c, k]
  · rw [if_neg c] at ln ⊢
    rw [List.length_append] at ln
    have k := cat_ok (L := L') (M := []) (by omega)
    rw [List.map_nil] at k
    simp [f_prime_divisors, fn_eq, m_prime_divisors, ia, b4', c, k]
theorem places_ok {n : Nat} (hn : 1000 ≤ n) {a : Int} (a0 : a ≠ 0) (ha : a.natAbs < 100250) : ∃ L, Pd (2 * a.natAbs) L ∧ ∃ s, f_places_for n [.val (.int a)] = .ok (.b ((0 :: L).map D.int)) s := by
  obtain ⟨L, h, s, e⟩ := pd_ok hn (a := 2 * a) (by omega) (by omega)
  have e2 : (2 * a).natAbs = 2 * a.natAbs := by omega
  rw [e2] at h
  have lm : L.length ≤ 999999 := by have := h.len; omega
  refine ⟨L, h, [.val (.int a)], ?_⟩
  have st : ∀ (m : M D) (r : M (List D)) (e : Ev), mStar m r e = mb m (fun d => mb (mo (dList d)) fun ds => mb r fun ys => mp (ds ++ ys)) e := fun _ _ _ => rfl
  have dl : ∀ ds, dList (.lst ds) = some ds := fun _ => rfl
  simp (disch := omega) [f_places_for, fn_eq, m_places_for, dMul_l, e, st, dl, lm]
theorem Pd.one {p : Nat} (hp : Nt.Pr p) {L : List Int} (h : Pd p L) : L = [(p : Int)] := by
  refine strict_one h.asc (List.pairwise_singleton _ _) fun k => ?_
  rw [h.mem, List.mem_singleton]
  constructor
  · rintro ⟨q, rfl, hq, hd⟩
    rcases hp.2 q hd with w | w
    · have := hq.1; omega
    · rw [w]
  · intro e
    exact ⟨p, e, hp, Nat.dvd_refl p⟩
theorem is_prime_ok {n : Nat} (hn : 1000 ≤ n) {p : Nat} (hp : Nt.Pr p) (h : p < 200500) : ∃ s, f_is_prime n [.val (.int p)] = .ok (.v (.bl true)) s := by
  have p2 := hp.1
  obtain ⟨L, hL, s, e⟩ := pd_ok hn (a := (p : Int)) (by omega) (by omega)
  rw [Int.natAbs_natCast] at hL
  rw [hL.one hp] at e
  refine ⟨[.val (.int p)], ?_⟩
  have c : (1 : Int) < p := by omega
  have q := dEq_ls [(p : Int)]
  rw [List.map_cons, List.map_nil] at q
  simp [f_is_prime, fn_eq, m_is_prime, e, c, q]
theorem place_ok {n : Nat} (hn : 1000 ≤ n) {p : Nat} (hp : p = 0 ∨ Nt.Pr p) (h : p < 200500) : ∃ s, f_check_place n [.val (.int p)] = .ok (.v .non) s := by
  refine ⟨[.val (.int p)], ?_⟩
  have c1 : (0 : Int) ≤ p ∧ (p : Int) ≤ 1000000000000 := by omega
  rcases hp with rfl | hp
  · simp [f_check_place, fn_eq, m_check_place, f_is_place, m_is_place, between_ok]
  · obtain ⟨s, e⟩ := is_prime_ok hn hp h
    have p0 : ¬ p = 0 := by have := hp.1; omega
    have c2 : (p : Int) ≤ 1000000000000 := c1.2
    simp [f_check_place, fn_eq, m_check_place, f_is_place, m_is_place, between_ok, e, c2, p0]
end Fw
namespace Fw
open PySem L2
structure Gd0 (v s l : Nat) (L : List Int) : Prop where
  l0 : l ≠ 0
  nb : Nb s l
  mem : ∀ x ∈ L, ∃ q : Nat, x = q ∧ Nt.Pr q ∧ (q = 2 ∨ q ∣ v)
  two : (2 : Int) ∈ L
  all : ∀ q, Nt.Pr q → q ∣ v → (q : Int) ∈ L ∨ q ∣ l
  dv : l ∣ v
  len : 2 ^ L.length * l ≤ 2 * v
theorem Gd0.short {v s l : Nat} {L : List Int} (G : Gd0 v s l L) (hv : v ≤ 100000) : L.length ≤ 18 := by
  by_cases h : L.length ≤ 18
  · exact h
  · have := Nat.pow_le_pow_right (show 0 < 2 by omega) (show 18 ≤ L.length by omega)
    have e : (2 : Nat) ^ 18 = 262144 := by decide
    have := Nat.le_trans (Nat.mul_le_mul this (show 1 ≤ l by have := G.l0; omega)) G.len
    omega
theorem lp_loop (V : Int) {v : Nat} (hv : v ≤ 100000) (v0 : v ≠ 0) (n : Nat) : ∀ (R : List Int) (j k s l : Nat) (L : List Int) (x : Sl), Np x → l < 2 ^ j → 317 ≤ s + k → j + k < R.length → 2 ≤ s → s ≤ 317 → Gd0 v s l L → ∃ s' l' L' x', 2 ≤ s' ∧ l' < s' * s' ∧ Gd0 v s' l' L' ∧
    mFl (Fw.setV 4) (b__law_primes_of_1 n) (R.map D.int) [.val (.int V), .box (.lst (L.map D.int)), .val (.int l), .val (.int s), x] = .ok .nx [.val (.int V), .box (.lst (L'.map D.int)), .val (.int l'), .val (.int s'), x']
  | [], j, k, s, l, L, x, hx, hj, hk, hR, s2, sb, G => by simp at hR
  | r :: R, j, k, s, l, L, x, hx, hj, hk, hR, s2, sb, G => by
    have lv := Nat.le_of_dvd (by omega) G.dv
    rw [List.length_cons] at hR
    have st : Fw.setV 4 (.int r) [.val (.int V), .box (.lst (L.map D.int)), .val (.int l), .val (.int s), x] = .ok () [.val (.int V), .box (.lst (L.map D.int)), .val (.int l), .val (.int s), .val (.int r)] := by
      rcases hx with rfl | ⟨_, rfl⟩ <;> rfl
    have sq : ((l : Int) < (s : Int) * s) ↔ l < s * s := by rw [← Int.natCast_mul]; omega
    rw [List.map_cons, fl_eq, st]
    dsimp only
    by_cases c : l < s * s
    · have cs := sq.mpr c
      refine ⟨s, l, L, .val (.int r), s2, c, G, ?_⟩
      have b : b__law_primes_of_1 n [.val (.int V), .box (.lst (L.map D.int)), .val (.int l), .val (.int s), .val (.int r)] = .ok .bk [.val (.int V), .box (.lst (L.map D.int)), .val (.int l), .val (.int s), .val (.int r)] := by
        simp (disch := omega) [b__law_primes_of_1, dMul_l, cs]
      rw [b]
    · have cs : ¬ ((l : Int) < (s : Int) * s) := fun z => c (sq.mp z)
      have s317 : s < 317 := Nat.lt_of_not_le fun z => by have : 317 * 317 ≤ s * s := Nat.mul_le_mul z z; omega
      have sh := G.short hv
      by_cases d : s ∣ l
      · have ps := G.nb.prime s2 d
        have j1 : j ≠ 0 := fun z => by rw [z] at hj; simp at hj; exact G.l0 hj
        obtain ⟨j', rfl⟩ : ∃ j', j = j' + 1 := ⟨j - 1, by omega⟩
        obtain ⟨e0, e1, e2, e3⟩ := div_half d G.l0 s2 hj
        have G' : Gd0 v s (l / s) (L ++ [(s : Int)]) := by
          refine ⟨e0, G.nb.of_dvd e2, fun x hx => ?_, List.mem_append_left _ G.two, fun q hq hd => ?_, Nat.dvd_trans e2 G.dv, ?_⟩
          · rcases List.mem_append.mp hx with hx | hx
            · exact G.mem x hx
            · rw [List.mem_singleton] at hx
              exact ⟨s, hx, ps, .inr (Nat.dvd_trans d G.dv)⟩
          · rcases G.all q hq hd with z | z
            · exact .inl (List.mem_append_left _ z)
            · have e : s * (l / s) = l := Nat.mul_div_cancel' d
              rw [← e] at z
              rcases hq.dvd z with w | w
              · rcases ps.2 q w with y | y
                · have := hq.1; omega
                · exact .inl (List.mem_append_right _ (by rw [y]; exact List.mem_singleton.mpr rfl))
              · exact .inr w
          · have := G.len
            rw [List.length_append, List.length_singleton, Nat.pow_succ, Nat.mul_assoc]
            exact Nat.le_trans (Nat.mul_le_mul_left _ e3) ‹_›
        obtain ⟨s', l', L', x', a1, a2, a3, a4⟩ := lp_loop V hv v0 n R j' k s (l / s) (L ++ [(s : Int)]) (.val (.int r)) (Np.v _) e1 hk (by omega) s2 sb G'
        refine ⟨s', l', L', x', a1, a2, a3, ?_⟩
        have z := mod0_i.mpr d
        have lm : lim 8000000 (List.map D.int L ++ [D.int (s : Int)]) = some (List.map D.int L ++ [D.int (s : Int)]) := by
          unfold lim
          rw [if_pos (by rw [List.length_append, List.length_map, List.length_singleton]; omega)]
        have b : b__law_primes_of_1 n [.val (.int V), .box (.lst (L.map D.int)), .val (.int l), .val (.int s), .val (.int r)] = .ok .nx [.val (.int V), .box (.lst ((L ++ [(s : Int)]).map D.int)), .val (.int ((l / s : Nat) : Int)), .val (.int s), .val (.int r)] := by
          simp (disch := omega) [b__law_primes_of_1, dMul_l, cs, dMod_pos, z, lm, dFdiv_pos]
        rw [b]
        exact a4
      · have G' : Gd0 v (s + 1) l L := ⟨G.l0, G.nb.step d, G.mem, G.two, G.all, G.dv, G.len⟩
        obtain ⟨s', l', L', x', a1, a2, a3, a4⟩ := lp_loop V hv v0 n R j (k - 1) (s + 1) l L (.val (.int r)) (Np.v _) hj (by omega) (by omega) (by omega) (by omega) G'
        refine ⟨s', l', L', x', a1, a2, a3, ?_⟩
        have z : ¬ (l : Int) % (s : Int) = 0 := fun z => d (mod0_i.mp z)
        have b : b__law_primes_of_1 n [.val (.int V), .box (.lst (L.map D.int)), .val (.int l), .val (.int s), .val (.int r)] = .ok .nx [.val (.int V), .box (.lst (L.map D.int)), .val (.int l), .val (.int ((s + 1 : Nat) : Int)), .val (.int r)] := by
          simp (disch := omega) [b__law_primes_of_1, dMul_l, cs, dMod_pos, z]
        rw [b]
        exact a4
structure Pl2 (v : Nat) (L : List Int) : Prop where
  mem : ∀ x, x ∈ L ↔ ∃ q : Nat, x = q ∧ Nt.Pr q ∧ q ∣ 2 * v
  len : L.length ≤ 20
theorem srtI_ok {L : List Int} (h : L.length < 64) : dSSetI (.lst (L.map D.int)) = some ((srtJ L).map D.int) := by
  unfold dSSetI intsF
  dsimp only
  rw [intsD_map]
  dsimp only
  rw [if_pos h]
theorem lprimes_ok (n : Nat) {a : Int} (a0 : a ≠ 0) (ha : a.natAbs ≤ 100000) : ∃ L, Pl2 a.natAbs L ∧ ∃ s, f__law_primes_of n [.val (.int a)] = .ok (.b (L.map D.int)) s := by
  have G : Gd0 a.natAbs 2 a.natAbs [2] := ⟨by omega, fun d x y => by omega, fun x hx => ⟨2, by rw [List.mem_singleton] at hx; exact hx, pr2, .inl rfl⟩, List.mem_singleton.mpr rfl, fun q _ hd => .inr hd, Nat.dvd_refl _, by simp⟩
  have e17 : (2 : Nat) ^ 17 = 131072 := by decide
  obtain ⟨s', l', L', x', b1, b2, b3, b4⟩ := lp_loop a ha (by omega) n ((List.range 40000).map fun i : Nat => (0 : Int) + (i : Int)) 17 315 2 a.natAbs [2] .emp Np.e (by omega) (by omega) (by rw [List.length_map, List.length_range]; omega) (by omega) (by omega) G
  have r : dR1 [.int 40000] = some (((List.range 40000).map fun i : Nat => (0 : Int) + (i : Int)).map D.int) := by
    show some _ = some _
    rw [List.map_map]; rfl
  generalize (List.range 40000).map (fun i : Nat => (0 : Int) + (i : Int)) = R at b4 r
  have ia : (if a < 0 then -a else a) = (a.natAbs : Int) := by split <;> omega
  have sh := b3.short ha
  have b4' : mFl (Fw.setV 4) (b__law_primes_of_1 n) (R.map D.int) [.val (.int a), .box (.lst [.int 2]), .val (.int a.natAbs), .val (.int 2), .emp] = .ok .nx [.val (.int a), .box (.lst (L'.map D.int)), .val (.int l'), .val (.int s'), x'] := b4
  have memL : ∀ x, x ∈ L' → ∃ q : Nat, x = q ∧ Nt.Pr q ∧ q ∣ 2 * a.natAbs := fun x hx => by
    obtain ⟨q, e, hq, z⟩ := b3.mem x hx
    exact ⟨q, e, hq, z.elim (fun z => by rw [z]; exact ⟨_, rfl⟩) fun z => Nat.dvd_trans z ⟨2, Nat.mul_comm _ _⟩⟩
  have two : ∀ q, Nt.Pr q → q ∣ 2 * a.natAbs → (q : Int) ∈ L' ∨ q ∣ l' := fun q hq hd => by
    rcases hq.dvd hd with w | w
    · rcases pr2.2 q w with y | y
      · have := hq.1; omega
      · exact .inl (by rw [y]; exact b3.two)
    · exact b3.all q hq w
  have l0 := b3.l0
  by_cases c : (l' : Int) > 1
  · have k := cat_ok (L := L') (M := [(l' : Int)]) (by rw [List.length_singleton]; omega)
    rw [List.map_cons, List.map_nil] at k
    have ss := srtI_ok (L := L' ++ [(l' : Int)]) (by rw [List.length_append, List.length_singleton]; omega)
    rw [List.map_append, List.map_cons, List.map_nil] at ss
    have pl := b3.nb.end_ b2 (by omega)
    refine ⟨srtJ (L' ++ [(l' : Int)]), ⟨fun x => ?_, ?_⟩, [.val (.int a)], ?_⟩
    · rw [mem_srtJ, List.mem_append, List.mem_singleton]
      constructor
      · rintro (hx | rfl)
        · exact memL x hx
        · exact ⟨l', rfl, pl, Nat.dvd_trans b3.dv ⟨2, Nat.mul_comm _ _⟩⟩
      · rintro ⟨q, rfl, hq, hd⟩
        rcases two q hq hd with z | z
        · exact .inl z
        · rcases pl.2 q z with w | w
          · have := hq.1; omega
          · exact .inr (by rw [w])
    · have := srtJ_le (L' ++ [(l' : Int)])
      rw [List.length_append, List.length_singleton] at this
      omega
    · simp [f__law_primes_of, fn_eq, m__law_primes_of, ia, r, b4', c, k, ss]
  · have k := cat_ok (L := L') (M := []) (by simp; omega)
    rw [List.map_nil, List.append_nil] at k
    have ss := srtI_ok (L := L') (by omega)
    refine ⟨srtJ L', ⟨fun x => ?_, ?_⟩, [.val (.int a)], ?_⟩
    · rw [mem_srtJ]
      constructor
      · exact memL x
      · rintro ⟨q, rfl, hq, hd⟩
        rcases two q hq hd with z | z
        · exact z
        · have l1 : l' = 1 := by omega
          rw [l1] at z
          have := Nat.le_of_dvd (by omega) z
          have := hq.1; omega
    · have := srtJ_le L'
      omega
    · simp [f__law_primes_of, fn_eq, m__law_primes_of, ia, r, b4', c, k, ss]
end Fw
namespace Fw
open PySem L2
def Sd (a : Int) : Prop := a ≠ 0 ∧ -1000000000 ≤ a ∧ a ≤ 1000000000
theorem sym2 {a b u t : Int} {v w : Nat} (ha : Dec 2 a v u) (hb : Dec 2 b w t) (sa : Sd a) (sb : Sd b) (n : Nat) : ∃ s, f__law_symbol n [.val (.int a), .val (.int b), .val (.int 2)] = .ok (.v (.int (sg 2 v u w t))) s := by
  obtain ⟨a0, a1⟩ := sa
  obtain ⟨b0, b1⟩ := sb
  have e100 : (2 : Nat) ^ 100 = 1267650600228229401496703205376 := by decide +kernel
  obtain ⟨v', u', s1, hd', e1⟩ := split_ok (n := n) (p := 2) ⟨by omega, by omega⟩ a0 (by rw [e100]; omega)
  obtain ⟨rfl, rfl⟩ := Dec.uniq (by omega) ha hd'
  obtain ⟨w', t', s2, hd', e2⟩ := split_ok (n := n) (p := 2) ⟨by omega, by omega⟩ b0 (by rw [e100]; omega)
  obtain ⟨rfl, rfl⟩ := Dec.uniq (by omega) hb hd'
  have la := ha.le (by omega) a0
  have lb := hb.le (by omega) b0
  refine ⟨[.val (.int a), .val (.int b), .val (.int 2)], ?_⟩
  have o : sgo v u w t = (u - 1) / 2 * ((t - 1) / 2) + (v : Int) * ((t * t - 1) / 8) + (w : Int) * ((u * u - 1) / 8) := rfl
  rw [sg2]
  unfold sI
  rw [o]
  by_cases z : ((u - 1) / 2 * ((t - 1) / 2) + (v : Int) * ((t * t - 1) / 8) + (w : Int) * ((u * u - 1) / 8)) % 2 = 0
  · simp (disch := omega) [f__law_symbol, fn_eq, m__law_symbol, b__law_symbol_1, dMod_pos, dFdiv_pos, dMul_l, e1, e2, z]
  · simp (disch := omega) [f__law_symbol, fn_eq, m__law_symbol, b__law_symbol_1, dMod_pos, dFdiv_pos, dMul_l, e1, e2, z]
theorem sym0 {a b : Int} (n : Nat) : ∃ s, f__law_symbol n [.val (.int a), .val (.int b), .val (.int 0)] = .ok (.v (.int (Hil 0 a b))) s := by
  refine ⟨[.val (.int a), .val (.int b), .val (.int 0)], ?_⟩
  have z : Hil 0 a b = if a < 0 ∧ b < 0 then -1 else 1 := rfl
  rw [z]
  by_cases ha : a < 0 <;> by_cases hb : b < 0 <;> simp [f__law_symbol, fn_eq, m__law_symbol, ha, hb]
def Pc (p : Nat) : Prop := (p = 0 ∨ Nt.Pr p) ∧ p < 200500
theorem sym_ok {a b : Int} (sa : Sd a) (sb : Sd b) {p : Nat} (hp : Pc p) (n : Nat) : ∃ s, f__law_symbol n [.val (.int a), .val (.int b), .val (.int p)] = .ok (.v (.int (Hil p a b))) s := by
  obtain ⟨rfl | hq, lt⟩ := hp
  · exact sym0 n
  · have p2 := hq.1
    obtain ⟨v, u, da⟩ := dec_at p2 sa.1
    obtain ⟨w, t, db⟩ := dec_at p2 sb.1
    rw [Hil_dec p2 sa.1 sb.1 da db]
    by_cases e : p = 2
    · subst e; exact sym2 da db sa sb n
    · exact symbol_ok (by omega) da db sa.1 sb.1 sa.2 sb.2 n
theorem sign_at_H {a b : Int} (sa : Sd a) (sb : Sd b) {p : Nat} (hp : Pc p) {n : Nat} (hn : 200 < n) : ∃ s, f_sign_at n [.val (.int a), .val (.int b), .val (.int p)] = .ok (.v (.int (Hil p a b))) s := by
  obtain ⟨rfl | hq, lt⟩ := hp
  · refine ⟨[.val (.int a), .val (.int b), .val (.int 0)], ?_⟩
    have z : Hil 0 a b = if a < 0 ∧ b < 0 then -1 else 1 := rfl
    rw [z]
    by_cases ha : a < 0 <;> by_cases hb : b < 0 <;> simp [f_sign_at, fn_eq, m_sign_at, ha, hb]
  · have p2 := hq.1
    obtain ⟨v, u, da⟩ := dec_at p2 sa.1
    obtain ⟨w, t, db⟩ := dec_at p2 sb.1
    rw [Hil_dec p2 sa.1 sb.1 da db]
    exact sign_at_ok (by omega) da db sa.1 sb.1 sa.2 sb.2 hn
theorem sign_H {a b : Int} (sa : Sd a) (sb : Sd b) {p : Nat} (hp : Pc p) : f_sign 2000 [.val (.int a), .val (.int b), .val (.int p)] = .ok (.v (.int (Hil p a b))) [.val (.int a), .val (.int b), .val (.int p)] := by
  obtain ⟨s1, e1⟩ := sign_at_H sa sb hp (n := 2000) (by omega)
  obtain ⟨s2, e2⟩ := place_ok (n := 2000) (by omega) hp.1 hp.2
  simp [f_sign, fn_eq, m_sign, signed_ok sa.1 sa.2, signed_ok sb.1 sb.2, e2, e1]
structure Pls (a b : Int) (L : List Int) : Prop where
  asc : L.Pairwise (· < ·)
  mem : ∀ x, x ∈ L ↔ x = 0 ∨ ∃ q : Nat, x = q ∧ Nt.Pr q ∧ (q ∣ 2 * a.natAbs ∨ q ∣ 2 * b.natAbs)
  len : L.length ≤ 50
theorem Pls.one {a b : Int} {L M : List Int} (h : Pls a b L) (h' : Pls a b M) : L = M := strict_one h.asc h'.asc fun k => by rw [h.mem, h'.mem]
theorem Pls.pc {a b : Int} (ha : a ≠ 0 ∧ a.natAbs ≤ 100000) (hb : b ≠ 0 ∧ b.natAbs ≤ 100000) {L : List Int} (h : Pls a b L) {x : Int} (hx : x ∈ L) : ∃ p : Nat, x = p ∧ Pc p := by
  rcases (h.mem x).mp hx with rfl | ⟨q, rfl, hq, d⟩
  · exact ⟨0, rfl, .inl rfl, by omega⟩
  · refine ⟨q, rfl, .inr hq, ?_⟩
    rcases d with d | d
    · have := Nat.le_of_dvd (by omega) d; omega
    · have := Nat.le_of_dvd (by omega) d; omega
end Fw
namespace Fw
open PySem L2
def oddL (a b : Int) (L : List Int) : List Int := L.filter fun x => decide (Hil x.toNat a b = -1)
theorem dv2 {q : Nat} {a : Int} : q ∣ 2 * a.natAbs ↔ (q : Int) ∣ 2 * a := by
  constructor
  · intro h
    refine Int.natAbs_dvd_natAbs.mp ?_
    rw [Int.natAbs_natCast, Int.natAbs_mul]; exact h
  · intro h
    have := Int.natAbs_dvd_natAbs.mpr h
    rw [Int.natAbs_natCast, Int.natAbs_mul] at this; exact this
theorem odd_even {a b : Int} (a0 : a ≠ 0) (b0 : b ≠ 0) {L : List Int} (h : Pls a b L) : (oddL a b L).length % 2 = 0 := by
  have nn : ∀ x ∈ L, 0 ≤ x := fun x hx => by
    rcases (h.mem x).mp hx with rfl | ⟨q, rfl, _⟩ <;> omega
  have nd : (L.map Int.toNat).Nodup := by
    refine List.pairwise_map.mpr ?_
    refine List.Pairwise.imp_of_mem ?_ h.asc
    intro x y hx hy lt e
    have := nn x hx; have := nn y hy
    omega
  have key := places_even nd a0 b0 fun p => by
    rw [List.mem_map]
    constructor
    · rintro ⟨x, hx, rfl⟩
      rcases (h.mem x).mp hx with rfl | ⟨q, rfl, hq, d⟩
      · exact .inl rfl
      · rw [Int.toNat_natCast]
        exact .inr ⟨hq, d.imp dv2.mp dv2.mp⟩
    · rintro (rfl | ⟨hq, d⟩)
      · exact ⟨0, (h.mem 0).mpr (.inl rfl), rfl⟩
      · exact ⟨p, (h.mem p).mpr (.inr ⟨p, rfl, hq, d.imp dv2.mpr dv2.mpr⟩), Int.toNat_natCast p⟩
  rw [List.filter_map, List.length_map] at key
  exact key
theorem Pls.toN {a b : Int} (ha : a ≠ 0 ∧ a.natAbs ≤ 100000) (hb : b ≠ 0 ∧ b.natAbs ≤ 100000) {L : List Int} (h : Pls a b L) {x : Int} (hx : x ∈ L) : x = (x.toNat : Int) ∧ Pc x.toNat := by
  obtain ⟨p, rfl, hp⟩ := h.pc ha hb hx
  rw [Int.toNat_natCast]
  exact ⟨rfl, hp⟩
theorem sd_of {a : Int} (ha : a ≠ 0 ∧ a.natAbs ≤ 100000) : Sd a := ⟨ha.1, by omega, by omega⟩
theorem pls_prog {a b : Int} {La Lb : List Int} (ha : Pd (2 * a.natAbs) La) (hb : Pd (2 * b.natAbs) Lb) : Pls a b (srtJ ((0 :: La) ++ (0 :: Lb))) ∧ ((0 :: La) ++ (0 :: Lb)).length < 64 := by
  have l1 := ha.len
  have l2 := hb.len
  have ll : ((0 :: La) ++ (0 :: Lb)).length ≤ 38 := by simp; omega
  refine ⟨⟨srtJ_strict _, fun x => ?_, Nat.le_trans (srtJ_le _) (by omega)⟩, by omega⟩
  rw [mem_srtJ, List.mem_append, List.mem_cons, List.mem_cons, ha.mem, hb.mem]
  constructor
  · rintro ((h | ⟨q, e, hq, d⟩) | (h | ⟨q, e, hq, d⟩))
    · exact .inl h
    · exact .inr ⟨q, e, hq, .inl d⟩
    · exact .inl h
    · exact .inr ⟨q, e, hq, .inr d⟩
  · rintro (h | ⟨q, e, hq, d | d⟩)
    · exact .inl (.inl h)
    · exact .inl (.inr ⟨q, e, hq, d⟩)
    · exact .inr (.inr ⟨q, e, hq, d⟩)
theorem pls_law {a b : Int} {La Lb : List Int} (ha : Pl2 a.natAbs La) (hb : Pl2 b.natAbs Lb) : Pls a b (srtJ (([0] ++ La) ++ Lb)) ∧ (([0] ++ La) ++ Lb).length < 64 := by
  have l1 := ha.len
  have l2 := hb.len
  have ll : (([0] ++ La) ++ Lb).length ≤ 41 := by simp; omega
  refine ⟨⟨srtJ_strict _, fun x => ?_, Nat.le_trans (srtJ_le _) (by omega)⟩, by omega⟩
  rw [mem_srtJ, List.mem_append, List.mem_append, List.mem_singleton, ha.mem, hb.mem]
  constructor
  · rintro ((h | ⟨q, e, hq, d⟩) | ⟨q, e, hq, d⟩)
    · exact .inl h
    · exact .inr ⟨q, e, hq, .inl d⟩
    · exact .inr ⟨q, e, hq, .inr d⟩
  · rintro (h | ⟨q, e, hq, d | d⟩)
    · exact .inl (.inl h)
    · exact .inl (.inr ⟨q, e, hq, d⟩)
    · exact .inr ⟨q, e, hq, d⟩
theorem odd_ok {a b : Int} (ha : a ≠ 0 ∧ a.natAbs ≤ 100000) (hb : b ≠ 0 ∧ b.natAbs ≤ 100000) : ∃ L, Pls a b L ∧ f_odd_places 2000 [.val (.int a), .val (.int b)] = .ok (.v (.tup ((oddL a b L).map D.int))) [.val (.int a), .val (.int b)] := by
  obtain ⟨La, h1, s1, e1⟩ := places_ok (n := 2000) (by omega) ha.1 (by omega)
  obtain ⟨Lb, h2, s2, e2⟩ := places_ok (n := 2000) (by omega) hb.1 (by omega)
  obtain ⟨P, lt⟩ := pls_prog h1 h2
  refine ⟨_, P, ?_⟩
  have sa := sd_of ha
  have sb := sd_of hb
  have k := cat_ok (L := 0 :: La) (M := 0 :: Lb) (by rw [List.length_append] at lt; omega)
  have ss := srtI_ok lt
  have toN := fun x hx => P.toN ha hb (x := x) hx
  have ln := P.len
  generalize srtJ ((0 :: La) ++ (0 :: Lb)) = L at *
  have lc : mLcL [3] (Fw.setV 3) (mCmp dEq (.e (mCv 3 (f_sign_at 2000) [(.e (mVar 0)), (.e (mVar 1)), (.e (mVar 3))])) (.e (mUn dNeg (.e (mC (.int 1)))))) (mVar 3) (L.map D.int) [] [.val (.int a), .val (.int b), .val (.lst (L.map D.int)), .emp] = .ok ([] ++ (L.filter fun x => decide (Hil x.toNat a b = -1)).map D.int) [.val (.int a), .val (.int b), .val (.lst (L.map D.int)), .emp] := by
    refine lc_fm D.int (fun x => decide (Hil x.toNat a b = -1)) D.int L [] (fun x hx => ?_) (by simp; omega)
    obtain ⟨ex, pc⟩ := toN x hx
    obtain ⟨s, e⟩ := sign_at_H sa sb pc (n := 2000) (by omega)
    rw [← ex] at e
    refine ⟨[.val (.int a), .val (.int b), .val (.lst (L.map D.int)), .val (.int x)], rfl, [.val (.int a), .val (.int b), .val (.lst (L.map D.int)), .val (.int x)], ?_, fun _ => rfl, fun _ => ⟨_, rfl, rfl⟩⟩
    simp [e]
  rw [List.nil_append] at lc
  have tp : dTuple (.lst ((L.filter fun x => decide (Hil x.toNat a b = -1)).map D.int)) = some (.tup ((oddL a b L).map D.int)) := rfl
  rw [List.map_cons, List.map_cons] at k
  rw [List.map_cons] at e1 e2
  have e1' : f_places_for 2000 [.val (.int a)] = .ok (.b (.int 0 :: La.map D.int)) s1 := e1
  have e2' : f_places_for 2000 [.val (.int b)] = .ok (.b (.int 0 :: Lb.map D.int)) s2 := e2
  have body : m_odd_places 2000 [.val (.int a), .val (.int b), .emp, .emp] = .ok (.rt (.tup ((oddL a b L).map D.int))) [.val (.int a), .val (.int b), .val (.lst (L.map D.int)), .emp] := by
   unfold m_odd_places
   refine sq_to (e1 := [.val (.int a), .val (.int b), .emp, .emp]) (by simp [signed_ok sa.1 sa.2]) ?_
   refine sq_to (e1 := [.val (.int a), .val (.int b), .emp, .emp]) (by simp [signed_ok sb.1 sb.2]) ?_
   refine sq_to (e1 := [.val (.int a), .val (.int b), .val (.lst (L.map D.int)), .emp]) (by
    have ss' : dSSetI (.lst (.int 0 :: (La.map D.int ++ .int 0 :: Lb.map D.int))) = some (L.map D.int) := by
      rw [← ss]; congr 2; simp
    simp [e1', e2', k, ss']) ?_
   simp [lc, tp]
  simp [f_odd_places, fn_eq, body]
end Fw
namespace Fw
open PySem L2
def Ck (k : Int) (c : D) : Prop := ∃ x y z : Int, c = chest x y z ∧ 0 ≤ x ∧ (0 ≤ y ∧ y < 4294967296) ∧ 0 ≤ z ∧ z ≤ k
theorem fetch_c {k : Int} {c : D} (h : Ck k c) (hk : k < 1000000000) {m : Int} (hm : 0 < m ∧ m < 1073741824) (n : Nat) : ∃ r c', 0 ≤ r ∧ r < m ∧ Ck (k + 1) c' ∧ f__law_fetch n [.pbox c, .val (.int m)] = .ok (.v (.int r)) [.pbox c', .val (.int m)] := by
  obtain ⟨x, y, z, rfl, h1, h2, h3, h4⟩ := h
  obtain ⟨r, x', y', z', a1, a2, a3, a4, a5, e⟩ := fetch_ok n k x y z m h1 h2 ⟨h3, h4, hk⟩ hm.1 hm.2
  exact ⟨r, _, a1, a2, ⟨x', y', z', rfl, a3, a4, a5.1, a5.2⟩, e⟩
theorem choose_c {k : Int} {c : D} (h : Ck k c) (hk : k < 1000000000) {ds : List D} (hd : 0 < ds.length ∧ ds.length < 1000) (n : Nat) : ∃ d ∈ ds, ∃ c', Ck (k + 1) c' ∧ f__law_choose n [.pbox c, .val (.lst ds)] = .ok (.v d) [.pbox c', .val (.lst ds)] := by
  obtain ⟨r, c', h1, h2, h3, e⟩ := fetch_c h hk (m := ds.length) ⟨by omega, by omega⟩ n
  obtain ⟨d, hm, e2⟩ := dIx_ok h1 h2
  refine ⟨d, hm, c', h3, ?_⟩
  simp [f__law_choose, fn_eq, m__law_choose, e, e2]
theorem pow4 : dPow (.int 10) (.int 4) = some (.int 10000) := rfl
theorem pow5 : dPow (.int 10) (.int 5) = some (.int 100000) := rfl
def Big (a : Int) : Prop := a ≠ 0 ∧ a.natAbs ≤ 100000
theorem pos_mul {x y : Int} (hx : 1 ≤ x) (hy : 1 ≤ y) : 1 ≤ x * y := by
  have := Int.mul_le_mul_of_nonneg_left hy (show 0 ≤ x by omega)
  omega
theorem mem_int {ns : List Int} {d : D} (h : d ∈ ns.map D.int) : ∃ i ∈ ns, d = .int i := by
  obtain ⟨i, a, b⟩ := List.mem_map.mp h
  exact ⟨i, a, b.symm⟩
theorem choose_i {k : Int} {c : D} (h : Ck k c) (hk : k < 1000000000) {ns : List Int} (hd : 0 < ns.length ∧ ns.length < 1000) (n : Nat) : ∃ i ∈ ns, ∃ c', Ck (k + 1) c' ∧ f__law_choose n [.pbox c, .val (.lst (ns.map D.int))] = .ok (.v (.int i)) [.pbox c', .val (.lst (ns.map D.int))] := by
  obtain ⟨d, hd', c', h', e⟩ := choose_c h hk (ds := ns.map D.int) (by rw [List.length_map]; exact hd) n
  obtain ⟨i, hi, rfl⟩ := mem_int hd'
  exact ⟨i, hi, c', h', e⟩
theorem big_ok {k : Int} {c : D} (h : Ck k c) (hk : k < 100000000) (n : Nat) : ∃ a c', Big a ∧ Ck (k + 10) c' ∧ f__law_big n [.pbox c] = .ok (.v (.int a)) [.pbox c'] := by
  obtain ⟨r1, c1, a1, b1, h1, e1⟩ := fetch_c h (by omega) (m := 60) (by omega) n
  obtain ⟨i1, m1, c2, h2, e2⟩ := choose_i h1 (by omega) (ns := [1, 2, 4, 8, 16]) (by decide) n
  obtain ⟨i2, m2, c3, h3, e3⟩ := choose_i h2 (by omega) (ns := [1, 3, 9]) (by decide) n
  obtain ⟨i3, m3, c4, h4, e4⟩ := choose_i h3 (by omega) (ns := [1, 5, 7, 11, 35, 101]) (by decide) n
  obtain ⟨r5, c5, a5, b5, h5, e5⟩ := fetch_c h4 (by omega) (m := 10000) (by omega) n
  obtain ⟨i6, m6, c6, h6, e6⟩ := choose_i h5 (by omega) (ns := [1 + r1, i1 * i2 * i3, i1 * i2 * i3 * (1 + r1), 1 + r5, 10000]) ⟨by simp, by simp⟩ n
  obtain ⟨i7, m7, c7, h7, e7⟩ := choose_i h6 (by omega) (ns := [1, -1]) (by decide) n
  have p1 : 1 ≤ i1 := by simp at m1; omega
  have p2 : 1 ≤ i2 := by simp at m2; omega
  have p3 : 1 ≤ i3 := by simp at m3; omega
  have q1 := pos_mul (pos_mul p1 p2) p3
  have q2 := pos_mul q1 (show 1 ≤ 1 + r1 by omega)
  have p6 : 1 ≤ i6 := by
    simp only [List.mem_cons, List.not_mem_nil, or_false] at m6
    rcases m6 with rfl | rfl | rfl | rfl | rfl <;> omega
  have p7 : i7 = 1 ∨ i7 = -1 := by simpa using m7
  refine ⟨(if 100000 < i6 then 100000 else i6) * i7, c7, ?_, ?_, ?_⟩
  · rcases p7 with rfl | rfl <;> (constructor <;> split <;> omega)
  · obtain ⟨x, y, z, e, f1, f2, f3, f4⟩ := h7
    exact ⟨x, y, z, e, f1, f2, f3, by omega⟩
  · have e2' : f__law_choose n [.pbox c1, .val (.lst [.int 1, .int 2, .int 4, .int 8, .int 16])] = .ok (.v (.int i1)) [.pbox c2, .val (.lst [.int 1, .int 2, .int 4, .int 8, .int 16])] := e2
    have e3' : f__law_choose n [.pbox c2, .val (.lst [.int 1, .int 3, .int 9])] = .ok (.v (.int i2)) [.pbox c3, .val (.lst [.int 1, .int 3, .int 9])] := e3
    have e4' : f__law_choose n [.pbox c3, .val (.lst [.int 1, .int 5, .int 7, .int 11, .int 35, .int 101])] = .ok (.v (.int i3)) [.pbox c4, .val (.lst [.int 1, .int 5, .int 7, .int 11, .int 35, .int 101])] := e4
    have e6' : f__law_choose n [.pbox c5, .val (.lst [.int (1 + r1), .int (i1 * i2 * i3), .int (i1 * i2 * i3 * (1 + r1)), .int (1 + r5), .int 10000])] = .ok (.v (.int i6)) [.pbox c6, .val (.lst [.int (1 + r1), .int (i1 * i2 * i3), .int (i1 * i2 * i3 * (1 + r1)), .int (1 + r5), .int 10000])] := e6
    have e7' : f__law_choose n [.pbox c6, .val (.lst [.int 1, .int (-1)])] = .ok (.v (.int i7)) [.pbox c7, .val (.lst [.int 1, .int (-1)])] := e7
    have b1 : i1 ≤ 16 := by simp at m1; omega
    have b3 : i3 ≤ 101 := by simp at m3; omega
    have w1 : dMul (.int i1) (.int i2) = some (.int (i1 * i2)) := dMul_l (by omega)
    have w2 : dMul (.int (i1 * i2)) (.int i3) = some (.int (i1 * i2 * i3)) := dMul_r (by omega)
    have w3 : dMul (.int (i1 * i2 * i3)) (.int (1 + r1)) = some (.int (i1 * i2 * i3 * (1 + r1))) := dMul_r (by omega)
    have w4 : dMul (.int (if 100000 < i6 then 100000 else i6)) (.int i7) = some (.int ((if 100000 < i6 then 100000 else i6) * i7)) := dMul_r (by omega)
    simp [f__law_big, fn_eq, m__law_big, e1, e2', e3', e4', e5, e6', e7', w1, w2, w3, w4, pow4, pow5]
end Fw
namespace Fw
open PySem L2
theorem repr_i3 {x : Int} (h : x = 1 ∨ x = -1) : ∃ t, dRepr (.lst [.int x, .int x, .int x]) = some (.str t) := by
  rcases h with rfl | rfl <;> exact ⟨_, rfl⟩
theorem sd_neg {a : Int} (h : Big a) : Sd (0 - a) := ⟨by have := h.1; omega, by have := h.2; omega, by have := h.2; omega⟩
theorem sd_big {a : Int} (h : Big a) : Sd a := ⟨h.1, by have := h.2; omega, by have := h.2; omega⟩
theorem sd_mul {b c : Int} (h : Big b) (hc : 1 ≤ c ∧ c ≤ 900) : Sd (b * c) := by
  have e : (b * c).natAbs = b.natAbs * c.natAbs := Int.natAbs_mul _ _
  have l : b.natAbs * c.natAbs ≤ 100000 * 900 := Nat.mul_le_mul h.2 (by omega)
  exact ⟨Int.mul_ne_zero h.1 (by omega), by omega, by omega⟩
theorem pcH {p : Nat} (h : Pc p) : p = 0 ∨ Nt.Pr p := h.1
theorem bodyA {a b c : Int} (ha : Big a) (hb : Big b) (hc : 1 ≤ c ∧ c ≤ 900) {p : Nat} (hp : Pc p) (x0 x1 x5 x7 x8 x9 x10 : Sl) (h7 : Np x7) (h8 : Np x8) :
    ∃ y7 y8, Np y7 ∧ Np y8 ∧ b__law_right_1 2000 [x0, x1, .val (.int a), .val (.int b), .val (.int c), x5, .val (.int p), x7, x8, x9, x10] = .ok .nx [x0, x1, .val (.int a), .val (.int b), .val (.int c), x5, .val (.int p), y7, y8, x9, x10] := by
  have sa := sd_big ha
  have sb := sd_big hb
  have sc : Sd c := ⟨by omega, by omega, by omega⟩
  obtain ⟨s0, e0⟩ := sym_ok sa sb hp 2000
  have e1 := sign_H sa sb hp
  have e2 := sign_H sb sa hp
  rw [Hil_comm] at e2
  have e3 := sign_H sa (sd_neg ha) hp
  rw [show (0 : Int) - a = -a by omega, Hil_neg (pcH hp) sa.1] at e3
  have e4 := sign_H sa (sd_mul hb hc) hp
  rw [Hil_mul (pcH hp) sa.1 sb.1 sc.1] at e4
  have e5 := sign_H sa sc hp
  have one := Hil_1 p a b
  have two := Hil_1 p a c
  obtain ⟨t, r⟩ := repr_i3 one
  have w1 : dMul (.int b) (.int c) = some (.int (b * c)) := dMul_r (by omega)
  generalize Hil p a b = H at *
  generalize Hil p a c = G at *
  have w2 : dMul (.int H) (.int G) = some (.int (H * G)) := dMul_l (by omega)
  refine ⟨.val (.int H), .val (.lst [.int H, .int H, .int H]), Np.v _, Np.v _, ?_⟩
  have sub : a ≠ 1 → f_sign 2000 [.val (.int a), .val (.int (1 - a)), .val (.int p)] = .ok (.v (.int 1)) [.val (.int a), .val (.int (1 - a)), .val (.int p)] := fun a1 => by
    have s1 : Sd (1 - a) := ⟨by omega, by have := ha.2; omega, by have := ha.2; omega⟩
    have := sign_H sa s1 hp
    rwa [Hil_sub (pcH hp) sa.1 a1] at this
  have perm : mCvP 3 (f_sign 2000) [2, 1, 0] [(.e (mVar 6)), (.e (mVar 3)), (.e (mVar 2))] [x0, x1, .val (.int a), .val (.int b), .val (.int c), x5, .val (.int p), .val (.int H), x8, x9, x10] = .ok (.int H) [x0, x1, .val (.int a), .val (.int b), .val (.int c), x5, .val (.int p), .val (.int H), x8, x9, x10] := by
    simp [e1, permL]
  unfold b__law_right_1
  refine sq_to (e1 := [x0, x1, .val (.int a), .val (.int b), .val (.int c), x5, .val (.int p), .val (.int H), x8, x9, x10]) (by
    rcases h7 with rfl | ⟨_, rfl⟩ <;> simp [e0]) ?_
  refine sq_to (e1 := [x0, x1, .val (.int a), .val (.int b), .val (.int c), x5, .val (.int p), .val (.int H), .val (.lst [.int H, .int H, .int H]), x9, x10]) (by
    rcases h8 with rfl | ⟨_, rfl⟩ <;> simp [e1, e2, permL]) ?_
  refine sq_to (e1 := [x0, x1, .val (.int a), .val (.int b), .val (.int c), x5, .val (.int p), .val (.int H), .val (.lst [.int H, .int H, .int H]), x9, x10]) (by
    simp [r, e3]) ?_
  by_cases a1 : a = 1
  · subst a1
    simp [w1, e4, e5, w2]
  · simp [w1, e4, e5, w2, a1, sub a1]
theorem loopA {a b c : Int} (ha : Big a) (hb : Big b) (hc : 1 ≤ c ∧ c ≤ 900) (x0 x1 x5 x9 x10 : Sl) : ∀ (L : List Int) (x6 x7 x8 : Sl), (∀ x ∈ L, ∃ p : Nat, x = p ∧ Pc p) → Np x6 → Np x7 → Np x8 →
    ∃ y6 y7 y8, Np y6 ∧ Np y7 ∧ Np y8 ∧ mFl (Fw.setV 6) (b__law_right_1 2000) (L.map D.int) [x0, x1, .val (.int a), .val (.int b), .val (.int c), x5, x6, x7, x8, x9, x10] = .ok .nx [x0, x1, .val (.int a), .val (.int b), .val (.int c), x5, y6, y7, y8, x9, x10]
  | [], x6, x7, x8, _, h6, h7, h8 => ⟨x6, x7, x8, h6, h7, h8, rfl⟩
  | x :: L, x6, x7, x8, h, h6, h7, h8 => by
    obtain ⟨p, rfl, hp⟩ := h x List.mem_cons_self
    obtain ⟨y7, y8, k7, k8, e⟩ := bodyA ha hb hc hp x0 x1 x5 x7 x8 x9 x10 h7 h8
    obtain ⟨z6, z7, z8, j6, j7, j8, e2⟩ := loopA ha hb hc x0 x1 x5 x9 x10 L (.val (.int p)) y7 y8 (fun y hy => h y (List.mem_cons_of_mem _ hy)) (Np.v _) k7 k8
    refine ⟨z6, z7, z8, j6, j7, j8, ?_⟩
    rw [List.map_cons]
    exact fl_to (e1 := [x0, x1, .val (.int a), .val (.int b), .val (.int c), x5, .val (.int p), x7, x8, x9, x10]) (by rcases h6 with rfl | ⟨_, rfl⟩ <;> rfl) e e2
theorem q3 : Nt.Pr 3 := Nt.pr_of (m := 2) (by omega) (by omega) (by decide +kernel)
theorem q5 : Nt.Pr 5 := Nt.pr_of (m := 3) (by omega) (by omega) (by decide +kernel)
theorem q97 : Nt.Pr 97 := Nt.pr_of (m := 10) (by omega) (by omega) (by decide +kernel)
theorem q10007 : Nt.Pr 10007 := Nt.pr_of (m := 101) (by omega) (by omega) (by decide +kernel)
theorem e20 {n : Nat} (h : n < 1000000) : n < 2 ^ 20 := by
  have : (2 : Nat) ^ 20 = 1048576 := by decide
  omega
theorem flat_ints : ∀ (L : List Int), (∀ x ∈ L, x.natAbs < 1000000) → flatPs (L.map PyData.int) = true
  | [], _ => rfl
  | a :: L, h => by
    have ha := h a List.mem_cons_self
    have l20 : a.natAbs.log2 < 1920 := by
      rcases Nat.eq_zero_or_pos a.natAbs with z | z
      · rw [z]; decide
      · exact Nat.lt_of_lt_of_le ((Nat.log2_lt (by omega)).mpr (e20 ha)) (by omega)
    rw [List.map_cons, flatPs, flatP, flat_ints L fun x hx => h x (List.mem_cons_of_mem _ hx), decide_eq_true l20]; rfl
theorem sz_ints : ∀ L : List Int, szPs (L.map PyData.int) = 702 * L.length
  | [] => rfl
  | a :: L => by rw [List.map_cons, szPs, szP, sz_ints L, List.length_cons]; omega
theorem repr_two {L : List Int} (hb : ∀ x ∈ L, x.natAbs < 1000000) (hl : L.length ≤ 100) : ∃ t, dRepr (.lst [.tup (L.map D.int), .tup (L.map D.int)]) = some (.str t) := by
  have pt : py (.tup (L.map D.int)) = some (.tuple (L.map PyData.int)) := by rw [py_tup, pyL_ints]; rfl
  have pl : py (.lst [.tup (L.map D.int), .tup (L.map D.int)]) = some (.list [.tuple (L.map PyData.int), .tuple (L.map PyData.int)]) := by
    rw [py_lst]
    simp only [pyL, pt]
    rfl
  have e4 := lay_ints L
  have e5 := dep_ints L
  refine ⟨_, dRepr_some pl ?_ ?_ ?_⟩
  · show (PyData.canLay0 _ && decide (PyData.depth _ ≤ 64)) = true
    rw [Bool.and_eq_true, decide_eq_true_eq]
    refine ⟨?_, ?_⟩
    · simp only [PyData.canLay0, PyData.canLayAll0, e4, Bool.and_self]
    · simp only [PyData.depth, PyData.depthAll]
      omega
  · simp only [flatP, flatPs, flat_ints L hb, Bool.and_self]
  · simp only [szP, szPs, sz_ints]
    omega
end Fw
namespace Fw
open PySem L2
theorem places4 : ∀ x ∈ ([3, 5, 97, 10007] : List Int), ∃ p : Nat, x = p ∧ Pc p := fun x hx => by
  simp only [List.mem_cons, List.not_mem_nil, or_false] at hx
  rcases hx with rfl | rfl | rfl | rfl
  · exact ⟨3, rfl, .inr q3, by omega⟩
  · exact ⟨5, rfl, .inr q5, by omega⟩
  · exact ⟨97, rfl, .inr q97, by omega⟩
  · exact ⟨10007, rfl, .inr q10007, by omega⟩
theorem odd_mem {a b : Int} (ha : Big a) (hb : Big b) {L : List Int} (h : Pls a b L) : ∀ x ∈ oddL a b L, x.natAbs < 1000000 := fun x hx => by
  obtain ⟨p, rfl, hp⟩ := h.pc ha hb (List.mem_filter.mp hx).1
  have := hp.2
  omega
theorem lap_ok {k : Int} {c : D} (h : Ck k c) (hk : k < 10000000) (x1 x2 x3 x4 x5 x6 x7 x8 x9 x10 : Sl) (h2 : Np x2) (h3 : Np x3) (h4 : Np x4) (h5 : Np x5) (h6 : Np x6) (h7 : Np x7) (h8 : Np x8) (h9 : Np x9) :
    ∃ a c' y3 y4 y5 y6 y7 y8 y9, Big a ∧ Ck (k + 30) c' ∧ Np y3 ∧ Np y4 ∧ Np y5 ∧ Np y6 ∧ Np y7 ∧ Np y8 ∧ Np y9 ∧
      b__law_right_2 2000 [.pbox c, x1, x2, x3, x4, x5, x6, x7, x8, x9, x10] = .ok .nx [.pbox c', x1, .val (.int a), y3, y4, y5, y6, y7, y8, y9, x10] := by
  obtain ⟨a, c1, ha, k1, e1⟩ := big_ok h (by omega) 2000
  obtain ⟨b, c2, hb, k2, e2⟩ := big_ok k1 (by omega) 2000
  obtain ⟨r, c3, r0, r1, k3, e3⟩ := fetch_c k2 (by omega) (m := 900) (by omega) 2000
  obtain ⟨La, p1, s1, f1⟩ := lprimes_ok 2000 ha.1 ha.2
  obtain ⟨Lb, p2, s2, f2⟩ := lprimes_ok 2000 hb.1 hb.2
  obtain ⟨P, lt⟩ := pls_law p1 p2
  have l1 := p1.len
  have l2 := p2.len
  have d1 := cat_ok (L := [0]) (M := La) (by simp; omega)
  have d2 := cat_ok (L := [0] ++ La) (M := Lb) (by simp; omega)
  have ss := srtI_ok lt
  have ln := P.len
  obtain ⟨L', P', oe⟩ := odd_ok ha hb
  generalize srtJ (([0] ++ La) ++ Lb) = L at *
  obtain rfl := P.one P'
  have ev := odd_even ha.1 hb.1 P
  have mb := odd_mem ha hb P
  have ol : (oddL a b L).length ≤ 100 := Nat.le_trans (List.length_filter_le _ _) (by omega)
  obtain ⟨t, rt⟩ := repr_two mb ol
  have d3 := cat_ok (L := L) (M := [3, 5, 97, 10007]) (by simp; omega)
  have toN := fun x hx => P.toN ha hb (x := x) hx
  obtain ⟨y6, y7, y8, j6, j7, j8, lp⟩ := loopA ha hb (c := 1 + r) (by omega) (.pbox c3) x1 (.val (.lst (L.map D.int))) x9 x10 (L ++ [3, 5, 97, 10007]) x6 x7 x8 (fun x hx => by
    rcases List.mem_append.mp hx with hx | hx
    · exact P.pc ha hb hx
    · exact places4 x hx) h6 h7 h8
  have lc : mLcL [6] (Fw.setV 6) (mCmp dEq (.e (mCv 3 (f__law_symbol 2000) [(.e (mVar 2)), (.e (mVar 3)), (.e (mVar 6))])) (.e (mUn dNeg (.e (mC (.int 1)))))) (mVar 6) (L.map D.int) [] [.pbox c3, x1, .val (.int a), .val (.int b), .val (.int (1 + r)), .val (.lst (L.map D.int)), .emp, y7, y8, x9, x10] = .ok ([] ++ (L.filter fun x => decide (Hil x.toNat a b = -1)).map D.int) [.pbox c3, x1, .val (.int a), .val (.int b), .val (.int (1 + r)), .val (.lst (L.map D.int)), .emp, y7, y8, x9, x10] := by
    refine lc_fm D.int (fun x => decide (Hil x.toNat a b = -1)) D.int L [] (fun x hx => ?_) (by simp; omega)
    obtain ⟨ex, pc⟩ := toN x hx
    obtain ⟨s, e⟩ := sym_ok (sd_big ha) (sd_big hb) pc 2000
    rw [← ex] at e
    refine ⟨[.pbox c3, x1, .val (.int a), .val (.int b), .val (.int (1 + r)), .val (.lst (L.map D.int)), .val (.int x), y7, y8, x9, x10], rfl, [.pbox c3, x1, .val (.int a), .val (.int b), .val (.int (1 + r)), .val (.lst (L.map D.int)), .val (.int x), y7, y8, x9, x10], ?_, fun _ => rfl, fun _ => ⟨_, rfl, rfl⟩⟩
    simp [e]
  rw [List.nil_append] at lc
  have lc : mLcL [6] (Fw.setV 6) (mCmp dEq (.e (mCv 3 (f__law_symbol 2000) [(.e (mVar 2)), (.e (mVar 3)), (.e (mVar 6))])) (.e (mUn dNeg (.e (mC (.int 1)))))) (mVar 6) (L.map D.int) [] [.pbox c3, x1, .val (.int a), .val (.int b), .val (.int (1 + r)), .val (.lst (L.map D.int)), .emp, y7, y8, x9, x10] = .ok ((oddL a b L).map D.int) [.pbox c3, x1, .val (.int a), .val (.int b), .val (.int (1 + r)), .val (.lst (L.map D.int)), .emp, y7, y8, x9, x10] := lc
  have tp : dTuple (.lst ((oddL a b L).map D.int)) = some (.tup ((oddL a b L).map D.int)) := rfl
  refine ⟨a, c3, .val (.int b), .val (.int (1 + r)), .val (.lst (L.map D.int)), y6, y7, y8, .val (.tup ((oddL a b L).map D.int)), ha, ?_, Np.v _, Np.v _, Np.v _, j6, j7, j8, Np.v _, ?_⟩
  · obtain ⟨x, y, z, e, q1, q2, q3, q4⟩ := k3
    exact ⟨x, y, z, e, q1, q2, q3, by omega⟩
  · unfold b__law_right_2
    refine sq_to (e1 := [.pbox c2, x1, .val (.int a), .val (.int b), x4, x5, x6, x7, x8, x9, x10]) (by
      rcases h2 with rfl | ⟨_, rfl⟩ <;> rcases h3 with rfl | ⟨_, rfl⟩ <;> simp [e1, e2]) ?_
    refine sq_to (e1 := [.pbox c3, x1, .val (.int a), .val (.int b), .val (.int (1 + r)), x5, x6, x7, x8, x9, x10]) (by
      rcases h4 with rfl | ⟨_, rfl⟩ <;> simp [e3]) ?_
    refine sq_to (e1 := [.pbox c3, x1, .val (.int a), .val (.int b), .val (.int (1 + r)), .val (.lst (L.map D.int)), x6, x7, x8, x9, x10]) (by
      have d1' : dCat (.lst [.int 0]) (.lst (La.map D.int)) = some (.int 0 :: La.map D.int) := by rw [show [D.int 0] = [0].map D.int from rfl, d1]; rfl
      have d2' : dCat (.lst (.int 0 :: La.map D.int)) (.lst (Lb.map D.int)) = some (.int 0 :: (La.map D.int ++ Lb.map D.int)) := by
        rw [show (D.int 0 :: La.map D.int) = ([0] ++ La).map D.int from rfl, d2]; simp
      have ss' : dSSetI (.lst (.int 0 :: (La.map D.int ++ Lb.map D.int))) = some (L.map D.int) := by rw [← ss]; congr 2; simp
      rcases h5 with rfl | ⟨_, rfl⟩ <;> simp [f1, f2, d1', d2', ss']) ?_
    refine sq_to (e1 := [.pbox c3, x1, .val (.int a), .val (.int b), .val (.int (1 + r)), .val (.lst (L.map D.int)), y6, y7, y8, x9, x10]) (by
      have d3' : dCat (.lst (L.map D.int)) (.lst [.int 3, .int 5, .int 97, .int 10007]) = some ((L ++ [3, 5, 97, 10007]).map D.int) := d3
      simp [d3', -List.map_append, lp]) ?_
    refine sq_to (e1 := [.pbox c3, x1, .val (.int a), .val (.int b), .val (.int (1 + r)), .val (.lst (L.map D.int)), y6, y7, y8, .val (.tup ((oddL a b L).map D.int)), x10]) (by
      rcases j6 with rfl | ⟨_, rfl⟩ <;> rcases h9 with rfl | ⟨_, rfl⟩ <;> simp [lc, tp]) ?_
    have ei : ((oddL a b L).length : Int) % 2 = 0 := by omega
    have dm : dMod (.int ((oddL a b L).length : Int)) (.int 2) = some (.int 0) := by rw [dMod_pos (by omega), ei]
    simp [oe, permL, rt, dm]
end Fw
namespace Fw
open PySem L2
theorem all_true : ∀ n : Nat, dAll (.lst ((List.range n).map fun _ => D.bl true)) = some (.bl true) := by
  intro n
  have b : ∀ l : List Nat, boolsD (l.map fun _ => D.bl true) = some (l.map fun _ => true) := by
    intro l
    induction l with
    | nil => rfl
    | cons a l ih => rw [List.map_cons, boolsD, ih]; rfl
  show (boolsD ((List.range n).map fun _ => D.bl true)).map (fun ns => D.bl (ns.all id)) = _
  rw [b]
  show some (D.bl (((List.range n).map fun _ => true).all id)) = _
  congr 2
  rw [List.all_eq_true]
  intro x hx
  obtain ⟨_, _, rfl⟩ := List.mem_map.mp hx
  rfl
theorem lc_law {RT JR : Fn} {ns : List Int} {z : Nat} (hz : z ≤ 10) (hb : ∀ i : Nat, i < z → ∃ cs s s2, JR [.val (.scr ns), .val (.int (i : Int))] = .ok (.b cs) s ∧ RT [.pbox (.lst cs)] = .ok (.v (.bl true)) s2) :
    mLcL [1] (Fw.setV 1) (mp true) (mC1 RT (mCl 2 JR [(.e (mVar 0)), (.e (mVar 1))])) ((List.range z).map fun i : Nat => D.int ((i : Nat) : Int)) [] [.val (.scr ns), .emp] = .ok ((List.range z).map fun _ => D.bl true) [.val (.scr ns), .emp] := by
  refine lc_map (fun i : Nat => D.int ((i : Nat) : Int)) (fun _ => D.bl true) _ (fun i hi => ⟨[.val (.scr ns), .val (.int (i : Int))], rfl, [.val (.scr ns), .val (.int (i : Int))], ?_, rfl⟩) (by rw [List.length_range]; omega)
  obtain ⟨cs, s, s2, e, e2⟩ := hb i (List.mem_range.mp hi)
  simp [e, e2]
theorem law_gen {RT JR : Fn} {ns : List Int} {K : Int} (hk : 2 ≤ K ∧ K ≤ 10) (hb : ∀ i : Nat, (i : Int) < K → ∃ cs s s2, JR [.val (.scr ns), .val (.int (i : Int))] = .ok (.b cs) s ∧ RT [.pbox (.lst cs)] = .ok (.v (.bl true)) s2) :
    (mRet (mCB (op1 dAll) [(.e (mFr (mLc (mIA dR1 [(.e (mCB (op2 dMax2) [(.e (mC (.int 2))), (.e (mCB (op2 dMin2) [(.e (mCB (op1 dLen) [(.e (mVar 0))])), (.e (mC (.int K)))]))]))]) [1] (Fw.setV 1) (mp true) (mC1 RT (mCl 2 JR [(.e (mVar 0)), (.e (mVar 1))])))))])) [.val (.scr ns), .emp] = .ok (.rt (.bl true)) [.val (.scr ns), .emp] := by
  obtain ⟨z, hz1, hz2, hz⟩ : ∃ z : Nat, 2 ≤ z ∧ (z : Int) ≤ K ∧ (if (if K < ns.length then K else ns.length) > 2 then (if K < ns.length then K else ns.length) else 2) = (z : Int) := by
    refine ⟨max 2 (min ns.length K.toNat), by omega, by omega, ?_⟩
    (repeat' split) <;> omega
  have r : dR1 [.int (z : Int)] = some ((List.range z).map fun i : Nat => D.int ((i : Nat) : Int)) := by
    rw [dR1_ok ⟨by omega, by omega⟩]
    simp
  have lc := lc_law (ns := ns) (z := z) (RT := RT) (JR := JR) (by omega) (fun i hi => hb i (by omega))
  have al := all_true z
  simp [hz, r, lc, al]
end Fw
namespace Fw
open PySem L2
theorem pow9 : dPow (.int 10) (.int 9) = some (.int 1000000000) := rfl
theorem odd_one {a : Int} (ha : Big a) : f_odd_places 2000 [.val (.int 1), .val (.int a)] = .ok (.v (.tup [])) [.val (.int 1), .val (.int a)] := by
  obtain ⟨L, P, e⟩ := odd_ok (a := 1) ⟨by omega, by omega⟩ ha
  have z : oddL 1 a L = [] := by
    unfold oddL
    rw [List.filter_eq_nil_iff]
    intro x hx
    obtain ⟨p, rfl, hp⟩ := P.pc ⟨by omega, by omega⟩ ha hx
    rw [Int.toNat_natCast, Hil_comm, Hil_one (pcH hp) ha.1]
    decide
  rw [z] at e
  exact e
theorem right_ok {c : D} (hc : Ck 0 c) : ∃ s, f__law_right 2000 [.pbox c] = .ok (.v (.bl true)) s := by
  have E : Np .emp := .inl rfl
  obtain ⟨a1, c1, b3, b4, b5, b6, b7, b8, b9, A1, k1, h3, h4, h5, h6, h7, h8, h9, e1⟩ := lap_ok hc (by omega) (.val (.int 0)) .emp .emp .emp .emp .emp .emp .emp .emp .emp E E E E E E E E
  obtain ⟨a2, c2, d3, d4, d5, d6, d7, d8, d9, A2, k2, h3, h4, h5, h6, h7, h8, h9, e2⟩ := lap_ok k1 (by omega) (.val (.int 1)) (.val (.int a1)) b3 b4 b5 b6 b7 b8 b9 .emp (Np.v _) h3 h4 h5 h6 h7 h8 h9
  obtain ⟨a3, c3, g3, g4, g5, g6, g7, g8, g9, A3, k3, h3, h4, h5, h6, h7, h8, h9, e3⟩ := lap_ok k2 (by omega) (.val (.int 2)) (.val (.int a2)) d3 d4 d5 d6 d7 d8 d9 .emp (Np.v _) h3 h4 h5 h6 h7 h8 h9
  have o := odd_one A3
  have s1 : f_sign 2000 [.val (.int 1000000000), .val (.int (-1000000000)), .val (.int 0)] = .ok (.v (.int 1)) [.val (.int 1000000000), .val (.int (-1000000000)), .val (.int 0)] := by kernel_rfl
  have s2 : f_sign 2000 [.val (.int (-1)), .val (.int (-1000000000)), .val (.int 0)] = .ok (.v (.int (-1))) [.val (.int (-1)), .val (.int (-1000000000)), .val (.int 0)] := by kernel_rfl
  have q := dEq_ts []
  rw [List.map_nil] at q
  have r : dR1 [.int 3] = some [.int 0, .int 1, .int 2] := rfl
  refine ⟨[.pbox c3], ?_⟩
  simp [f__law_right, fn_eq, m__law_right, r, fl_eq, fl_nil, e1, e2, e3, pow9, o, s1, s2, q]
def mixB : M Fl := (mSet 2 (mOp dMod (.e (mCB (op1 dInt) [(.e (mOp dAdd (.e (mOp dMul (.e (mVar 2)) (.e (mC (.int 31013))))) (.e (mVar 3))))])) (.e (mC (.int 2147479819)))))
theorem b__law_chest_1_eq (n : Nat) : b__law_chest_1 n = mixB := rfl
theorem mix_loop (a0 a1 a4 : Sl) : ∀ (L : List Int) (m : Int) (s : Sl), Np s → ∃ (m' : Int) (s' : Sl), mFl (Fw.setV 3) mixB (L.map D.int) [a0, a1, .val (.int m), s, a4] = .ok .nx [a0, a1, .val (.int m'), s', a4]
  | [], m, s, _ => ⟨m, s, rfl⟩
  | i :: L, m, s, hs => by
    obtain ⟨m', s', e⟩ := mix_loop a0 a1 a4 L ((m * 31013 + i) % 2147479819) (.val (.int i)) (.inr ⟨_, rfl⟩)
    refine ⟨m', s', ?_⟩
    rw [← e, List.map_cons]
    rcases hs with rfl | ⟨_, rfl⟩ <;> simp (disch := omega) [fl_eq, mixB, dMul_r, dMod_pos]
theorem pow17 : dPow (.int 10) (.int 17) = some (.int 100000000000000000) := by
  have : (10 : Int) ^ 17 = 100000000000000000 := by decide +kernel
  rw [← this]; rfl
theorem chest_ok (ns : List Int) {t : Int} (h : 0 ≤ t ∧ t < 100) (n : Nat) : ∃ ds s, Ck 0 (.lst ds) ∧ f__law_chest n [.val (.scr ns), .val (.int t)] = .ok (.b ds) s := by
  obtain ⟨L, hL⟩ : ∃ L : List Int, dCutL (.scr ns) none (some 6) = some (L.map D.int) := by
    refine ⟨(ns.drop (HT.sIx (ns.map D.int).length 0 none)).take (HT.sIx (ns.map D.int).length (ns.map D.int).length (some 6) - HT.sIx (ns.map D.int).length 0 none), ?_⟩
    show some (cutD (ns.map D.int) none (some 6)) = _
    unfold cutD
    rw [List.map_take, List.map_drop]
  obtain ⟨m, s, e⟩ := mix_loop (.val (.scr ns)) (.val (.int t)) .emp L (39019 + 8009 * t) .emp (.inl rfl)
  obtain ⟨o, ho⟩ : ∃ o, (if t < ns.length then dIx (.scr ns) (.int t) else some (.int (67 * t + 37))) = some (.int o) := by
    by_cases z : t < ns.length
    · obtain ⟨i, e⟩ := dIx_scr h.1 z
      exact ⟨i, by rw [if_pos z, e]⟩
    · exact ⟨_, if_neg z⟩
  have fin : ∀ E : Ev, E = [.val (.scr ns), .val (.int t)] → ∀ x y : Int, 0 ≤ x → 0 ≤ y ∧ y < 4294967296 → Ck 0 (.lst [.int x, .int y, .int 0]) := fun _ _ x y h1 h2 => ⟨x, y, 0, rfl, h1, h2, by omega, by omega⟩
  have yb := (⟨Int.emod_nonneg _ (by omega), Int.lt_trans (Int.emod_lt_of_pos _ (by omega)) (by omega)⟩ : 0 ≤ (m * 97 + o * 59 + 43) % 2147479819 ∧ (m * 97 + o * 59 + 43) % 2147479819 < 4294967296)
  by_cases big : 100000000000000000 ≤ (if o < 0 then -o else o)
  · refine ⟨[.int (if o < 0 then -o else o), .int ((m * 97 + o * 59 + 43) % 2147479819), .int 0], [.val (.scr ns), .val (.int t)], fin _ rfl _ _ (by omega) yb, ?_⟩
    by_cases z : t < ns.length
    · rw [if_pos z] at ho
      simp (disch := omega) [f__law_chest, fn_eq, m__law_chest, hL, dMul_l, dMul_r, b__law_chest_1_eq, e, z, ho, pow17, big, dMod_pos]
    · rw [if_neg z] at ho
      cases ho
      exfalso; revert big; split <;> omega
  · refine ⟨[.int 0, .int ((m * 97 + o * 59 + 43) % 2147479819), .int 0], [.val (.scr ns), .val (.int t)], fin _ rfl _ _ (by omega) yb, ?_⟩
    by_cases z : t < ns.length
    · rw [if_pos z] at ho
      simp (disch := omega) [f__law_chest, fn_eq, m__law_chest, hL, dMul_l, dMul_r, b__law_chest_1_eq, e, z, ho, pow17, big, dMod_pos]
    · rw [if_neg z] at ho
      cases ho
      simp (disch := omega) [f__law_chest, fn_eq, m__law_chest, hL, dMul_l, dMul_r, b__law_chest_1_eq, e, z, pow17, big, dMod_pos]
theorem plain (ns : List Int) (h : ns.length ≤ 63) : ∃ as, f_law 2000 [.val (.scr ns)] = .ok (.v (.bl true)) as := by
  refine ⟨[.val (.scr ns)], ?_⟩
  have run : m_law 2000 [.val (.scr ns), .emp] = .ok (.rt (.bl true)) [.val (.scr ns), .emp] :=
    law_gen (K := 3) (by omega) fun i hi => by
      obtain ⟨ds, s, ck, e⟩ := chest_ok ns (t := (i : Int)) (by omega) 2000
      obtain ⟨s2, e2⟩ := right_ok ck
      exact ⟨ds, s, s2, e, e2⟩
  show mkFn 1 2 (m_law 2000) _ = _
  generalize m_law 2000 = G at *
  simp [fn_eq, run]
end Fw
open PyProof.Rows PySem PySem.W PySem.Calls
theorem PySem.Challenge.cw_formworld_k27_whole_rules_of_signs_holds : PySem.Challenge.rw_formworld_k27_whole_rules_of_signs.Holds := by
  w_on; o_law
  refine Fw.headX ?hc ?hw
  case hw => w_witness2
  case hc =>
    refine Fw.walk_g (l := PySem.Challenge.rw_formworld_k27_whole_rules_of_signs) (n := 63) (k := 7) (x := "_law_script") rfl (by decide) (by kernel_rfl) ⟨rfl, by decide, by decide⟩ ?F
    intro w mg fa h Y G hm
    obtain ⟨K, KX, c⟩ := Y
    have hm : mg ("law" : PySem.Str) = some (.ref fa) := hm
    obtain ⟨fd0, F0⟩ := c.x.d.def_ 22 (d := Fw.dd "law" 32) rfl
    obtain ⟨f, fd, F1, e, _, _, _, _, _, _, FD⟩ := (Fw.all_has (P := (PySem.Challenge.rw_formworld_k27_whole_rules_of_signs).prog) (w := w) (base := h) (g := Fw.gc K) (mg := mg) 2000 ⟨c.x, ⟨h, KX, G⟩, rfl, c⟩).ex
    cases hm.symm.trans e
    have b := L2.FunD.bindsA (ps := ["_law_script"]) FD fun _ _ _ _ _ _ us hl => match us, hl with | [_], _ => rfl
    refine ⟨K, fd, Fw.spF (Fw.gc K) 1 (Fw.f_law 2000), KX, fun s v => b s [v] rfl, fun H a ns hl hS => ?_, fun base kin ns => ?_⟩
    · obtain ⟨as, pl⟩ := Fw.plain ns hl
      exact Fw.spF_law pl hS
    · obtain ⟨f2, fd2, F2, e2, _, _, _, _, _, _, FD2⟩ := (Fw.all_has (P := (PySem.Challenge.rw_formworld_k27_whole_rules_of_signs).prog) (w := w) (base := base) (g := Fw.gc K) (mg := mg) 2000 ⟨c.x, ⟨h, KX, G⟩, rfl, c⟩).ex
      cases hm.symm.trans e2
      cases Fw.fd_same FD FD2
      exact F2
