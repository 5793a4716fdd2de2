import PyProof.Rows.All
import Wide.All
import OpenK.AllK
import Wide.FinOn
import KE.KStateDown
import HandS.Head0
import HandS.Head1
import HandS.Head2
import HandS.HeadEnd
import HandS.HeadHook1
import HandS.HeadHook2
import HandS.ForMost
import HandS.ForExc
import HandS.Defaults
import HandS.Flow
import HandS.IsInst
import HandS.Wide
import HandS.CallSlots
import HandS.Lambda
import HandS.ExcCtx
import HandS.HotCalls
import HandS.Style
import HandS.SortInts
import HandS.Dict
import HandS.Iter
import HandS.Small
import HandS.Deep
import HandS.Conv
import HandS.TryOnly
import KE.KExcInit
import HandS.ExcField
import HandS.ExcIs
import HandS.TryMany
import HandS.Star
import KE.KRevSl
import HandS.Property
import KE.GoesMore
import KE.GoesEnum
import HandS.Text
import HandS.Codes
import PyProof.InstEq
import KE.SortData
import HandS.More
import KE.DataMinMax
import HandS.DictComp
import HandS.OwnEq
import PyProof.EqAt
import PyProof.NeKinds
import KE.KCallOwn
import HandS.FStr
import HandS.TupSets
import HandS.SetFor
import HandS.Strs
import PyProof.Rows.SetFrom
import KE.KDictZip
import KE.DataMinKey
import HandS.SortKw
import HandS.Sort
import KE.KDictCopyH
import HandS.TupAny
import HandS.WideBits
import KE.KIndexOf
import HandS.HeadHook4
import HandS.EndTab
import HandS.ExcOwn
import KE.KTryMore
import KE.DataFind
import PySem.Challenge.RW_formworld_k21_giving_refused
set_option Elab.async false
set_option linter.all false
set_option maxRecDepth 100001
set_option maxHeartbeats 8000001
namespace Fw.Ex
open PyProof.Rows PySem PySem.W PySem.Calls PySem.HandSPX
def refsT (tl : List Value) : List Value → Bool
  | .ref _ :: l => refsT tl l
  | l => l == tl
end Fw.Ex
namespace Fw.Ex
open PySem PySem.Spec PySem.Calls PyProof.Rows PySem.W
def isiB (K : Frag) (D : Addr) : Bool := He.eqO (findIn K (.ref D) "__getattribute__") (some (some (.builtin "BaseException.__getattribute__"))) && (He.eqO (findIn K (.ref D) "__getattr__") (some none) && (decide (subIn K (.ref D) (.type "BaseException") = some true) && (hasDictIn K D && (He.eqO (findIn K (.ref D) "__class__") (some (some (.builtin "object.__class__"))) &&
  (He.eqO (specialIn K (.builtin "object.__class__") "__get__") (some (some (.builtin "getset_descriptor.__get__"))) && (decide (takesIn K (.builtin "object.__class__") = some true) && decide (mroIn K D (.type "object") = some true)))))))
end Fw.Ex
namespace Fw
open L2 PyProof.Rows PySem PySem.Spec
def obsX (fa : List He.Fa) (ex : List (PySem.W.Frag → Bool)) (fn : List He.DefD) (K : PySem.W.Frag) : He.AlD := ((He.obsD fa fn K).1 && ex.all fun f => f K, (He.obsD fa fn K).2)
end Fw
namespace Fw
open L2 PyProof.Rows PySem PySem.Spec
def clsB (tl : List Value) (ni : String) (K : PySem.W.Frag) (C : Addr) : Bool := match K.lookup C with
  | some ⟨.type t, _, .cls cd, sl⟩ => (match cd.mro, sl.toList with
    | .ref C' :: bm, [_, _, _, _, some (.builtin n), _] => decide (t = "type") && (decide (C' = C) && (decide (n = ni) && (!cd.hasDel && (cd.hasDict && Ex.refsT tl bm))))
    | _, _ => false)
  | _ => false
end Fw
namespace Fw
open L2 PyProof.Rows PySem PySem.Spec
def errB (tl : List Value) (ni : String) (f x : Str) (K : PySem.W.Frag) : Bool := clsB tl ni K (He.ga K x) && (He.eqO (PySem.W.findIn K (.ref (He.ga K x)) "__setattr__") (some (some (.builtin "object.__setattr__"))) && (He.eqO (PySem.W.findIn K (.ref (He.ga K x)) f) (some none) &&
  (He.eqO (PySem.W.findIn K (.ref (He.ga K x)) "__init__") (some (some (.ref (He.fAd K (x, some "__init__"))))) && (decide (PySem.W.typeIn K (.ref (He.fAd K (x, some "__init__"))) = some (.type "function")) && (PySem.W.keepIn K (.ref (He.ga K x)) &&
  (decide (PySem.W.subIn K (.ref (He.ga K x)) (.type "BaseException") = some true) && decide (PySem.W.typeIn K (.ref (He.ga K x)) = some (.type "type"))))))))
end Fw
namespace Fw
open L2 PyProof.Rows PySem PySem.Spec
def kitB (x : Str) (cv : PySem.W.Frag → Value) (b : Bool) (K : PySem.W.Frag) : Bool := decide (PySem.W.kitOne K (.ref (He.ga K x)) (cv K) = some b)
end Fw
namespace Fw
open L2 PyProof.Rows PySem PySem.Spec
def exmB (x : Str) (cv : PySem.W.Frag → Value) (b : Bool) (K : PySem.W.Frag) : Bool := decide (PySem.W.exmOne K (.ref (He.ga K x)) (cv K) = some b)
end Fw
namespace Fw
open L2 PyProof.Rows PySem PySem.Spec
def xfNo (x f : Str) (K : PySem.W.Frag) : Bool := xfB K (He.ga K x) && He.eqO (PySem.W.findIn K (.ref (He.ga K x)) f) (some none)
end Fw
namespace Fw
open L2 PyProof.Rows PySem PySem.Spec
def isiX (x : Str) (K : PySem.W.Frag) : Bool := Ex.isiB K (He.ga K x)
end Fw
namespace Fw
open L2 PyProof.Rows PySem PySem.Spec
structure DefP where
  at_ : PySem.W.Frag → Addr
  name : Str
  qual : Str
  params : Arguments
  body : List Stmt
  scope : Scope
end Fw
namespace Fw
open L2 PyProof.Rows PySem PySem.Spec
def fnP (K : PySem.W.Frag) (d : DefP) : He.FnW := match K.lookup (d.at_ K) with
  | some ⟨_, _, .func fd, _⟩ => some (fd.name, fd.qualname, fd.params, fd.body, fd.scope, fd.globals, fd.closure, fd.builtins)
  | _ => none
end Fw
namespace Fw
open L2 PyProof.Rows PySem PySem.Spec
def DefP.val (d : DefP) : He.FnW := some (d.name, d.qual, d.params, .stmts d.body, d.scope, mainGlobals, [], builtinsNs)
end Fw
namespace Fw
open L2 PyProof.Rows PySem PySem.Spec
def DefP.ok (K : PySem.W.Frag) (d : DefP) : Bool := PySem.W.keepIn K (.ref (d.at_ K)) && (match K.lookup (d.at_ K) with
  | some ⟨_, _, .func fd, _⟩ => PySem.W.codeIn K fd.code d.qual && (He.dflB K fd.defaults [] && He.kwdB K fd.kwdefaults [])
  | _ => false)
end Fw
namespace Fw
open L2 PyProof.Rows PySem PySem.Spec
def mAt (x m : Str) (K : PySem.W.Frag) : Addr := He.ma K (He.ga K x) m
end Fw
namespace Fw
open L2 PyProof.Rows PySem PySem.Spec
def pAt (x m : Str) (K : PySem.W.Frag) : Addr := match PySem.W.recIn K (He.ma K (He.ga K x) m) "property" with
  | some (.ref g :: _) => g
  | _ => 0
end Fw
namespace Fw
open L2 PyProof.Rows PySem PySem.Spec
def obsP (fa : List He.Fa) (ex : List (PySem.W.Frag → Bool)) (fn : List He.DefD) (pn : List DefP) (K : PySem.W.Frag) : He.AlD := ((obsX fa ex fn K).1 && pn.all fun d => d.ok K, (obsX fa ex fn K).2 ++ pn.map (fnP K))
end Fw
namespace Fw
open L2 PyProof.Rows PySem PySem.Spec
def valP (fn : List He.DefD) (pn : List DefP) : He.AlD := (true, (He.valD fn).2 ++ pn.map DefP.val)
end Fw
namespace Fw
open L2 PyProof.Rows PySem PySem.Spec
def SaysP (fa : List He.Fa) (ex : List (PySem.W.Frag → Bool)) (fn : List He.DefD) (pn : List DefP) (K : PySem.W.Frag) : Prop := obsP fa ex fn pn K = valP fn pn
end Fw
namespace Fw
open L2 PyProof.Rows PySem PySem.Spec
def eqFO (K : PySem.W.Frag) (C : Addr) (f : Str) (v : Value) : Bool := match PySem.W.findIn K (.ref C) f, v with
  | some (some (.ref a)), .ref b => decide (a = b)
  | some (some (.builtin a)), .builtin b => decide (a = b)
  | _, _ => false
end Fw
namespace Fw
open L2 PyProof.Rows PySem PySem.Spec
def clsO (x : Str) (K : PySem.W.Frag) : Bool := PySem.W.plainGet K (He.ga K x) Str.empty && (PySem.W.hasDictIn K (He.ga K x) && (PySem.W.plainOver K (He.ga K x) && eqFO K (He.ga K x) "__setattr__" (.builtin "object.__setattr__")))
end Fw
namespace Fw
open L2 PyProof.Rows PySem PySem.Spec
def mkO (x : Str) (K : PySem.W.Frag) : Bool := PySem.W.makesIn K (He.ga K x) && (eqFO K (He.ga K x) "__init__" (.ref (mAt x "__init__" K)) && (PySem.W.isFn K (.ref (mAt x "__init__" K)) && PySem.W.keepIn K (.ref (He.ga K x))))
end Fw
namespace Fw
open L2 PyProof.Rows PySem PySem.Spec
def noatO (x f : Str) (K : PySem.W.Frag) : Bool := match PySem.W.findIn K (.ref (He.ga K x)) f with
  | some none => true
  | _ => false
end Fw
namespace Fw
open L2 PyProof.Rows PySem PySem.Spec
def propO (x f : Str) (K : PySem.W.Frag) : Bool := eqFO K (He.ga K x) f (.ref (mAt x f K)) && ((match PySem.W.specialIn K (.ref (mAt x f K)) "__get__" with
  | some (some (.builtin b)) => decide (b = "property.__get__")
  | _ => false) && (decide (PySem.W.takesIn K (.ref (mAt x f K)) = some true) && (match PySem.W.recIn K (mAt x f K) "property" with
  | some (.ref _ :: _) => true
  | _ => false)))
end Fw
namespace Fw
open PySem PySem.W PyProof.Rows L2
def frN {β : Type} (n : Nat) (k : Nat → β) : β := match n with
  | 0 => k 0
  | m + 1 => k (Nat.succ m)
end Fw
namespace Fw
open PySem PySem.W PyProof.Rows L2
def addQ {β : Type} : List Addr → Nat → List Addr → (Nat → List Addr → β) → β
  | [], m, nx, k => k m nx
  | a :: r, m, nx, k => match Nat.beq (Nat.land (Nat.shiftRight m a) 1) 1 with
    | true => addQ r m nx k
    | false => frN (Nat.lor m (Nat.shiftLeft 1 a)) fun m => addQ r m (a :: nx) k
end Fw
namespace Fw
open PySem PySem.W PyProof.Rows L2
def bq (g : Addr → Option Obj) : Nat → Nat → List Addr → List Addr → Nat → List Addr → List Addr
  | 0, _, _, _, _, acc => acc
  | f + 1, d, [], nx, m, acc => (match d with
    | 0 => acc
    | d + 1 => (match nx with
      | [] => acc
      | a :: r => bq g f d (a :: r) [] m acc))
  | f + 1, d, a :: q, nx, m, acc => (match g a with
    | none => bq g f d q nx m acc
    | some o => (match d with
      | 0 => bq g f 0 q nx m (a :: acc)
      | d + 1 => addQ (He.refsD o) m nx fun m nx => bq g f (d + 1) q nx m (a :: acc)))
end Fw
namespace Fw
open L2 PyProof.Rows PySem PySem.Spec
def ieB : List DictEntry → List (Int × Int) → Bool
  | [], [] => true
  | e :: es, (k, v) :: r => (match e.key, e.val with
    | .int a _, .int b _ => decide (a = k) && (decide (b = v) && decide (e.hash = hashInt k))
    | _, _ => false) && ieB es r
  | _, _ => false
end Fw
namespace Fw
open L2 PyProof.Rows PySem PySem.Spec
def tabO (x : Str) (kvs : List (Int × Int)) (K : PySem.W.Frag) : Bool := match K.lookup (He.ga K x) with
  | some o => (match o with
    | ⟨.type c, none, .dict es _, sl⟩ => decide (c = "dict") && (decide (sl.size = 0) && (ieB es.toList kvs && !(He.ga K x == sysModules)))
    | _ => false)
  | none => false
end Fw
namespace Fw
open L2 PyProof.Rows PySem PySem.Spec
def plainTys : List String := ["int", "bool", "str", "NoneType", "list", "tuple", "dict"]
end Fw
namespace Fw
open L2 PyProof.Rows PySem PySem.Spec
def eqOB (a : Option Bool) (b : Bool) : Bool := match a with
  | some c => c == b
  | none => false
end Fw
namespace Fw
open L2 PyProof.Rows PySem PySem.Spec
def eqBi (a : Option (Option Value)) (b : String) : Bool := match a with
  | some (some (.builtin c)) => decide (c = b)
  | _ => false
end Fw
namespace Fw
open L2 PyProof.Rows PySem PySem.Spec
def insO (x : Str) (K : PySem.W.Frag) : Bool := clsO x K && (eqBi (PySem.W.findIn K (.ref (He.ga K x)) "__class__") "object.__class__" && (eqBi (PySem.W.specialIn K (.builtin "object.__class__") "__get__") "getset_descriptor.__get__" && (eqOB (PySem.W.takesIn K (.builtin "object.__class__")) true &&
  (eqOB (PySem.W.mroIn K (He.ga K x) (.type "object")) true && (eqOB (PySem.W.kitOne K (.ref (He.ga K x)) (.ref (He.ga K x))) true && plainTys.all fun t => eqOB (PySem.W.kitOne K (.type t) (.ref (He.ga K x))) false)))))
end Fw
namespace Fw
open L2 PyProof.Rows PySem PySem.Spec
def itB : List Value → List Int → Bool
  | [], [] => true
  | .int a _ :: vs, b :: bs => decide (a = b) && itB vs bs
  | _, _ => false
end Fw
namespace Fw
open L2 PyProof.Rows PySem PySem.Spec
def tuB (K : PySem.W.Frag) (b : Addr) (ns : List Int) : Bool := match K.lookup b with
  | some o => (match o.data with
    | .seq its _ => (match o.cls with
      | .type c => decide (c = "tuple") && (decide (its.size ≤ 1000) && itB its.toList ns)
      | _ => false)
    | _ => false)
  | none => false
end Fw
namespace Fw
open L2 PyProof.Rows PySem PySem.Spec
def ktB (K : PySem.W.Frag) (b : Addr) : Bool := match K.lookup b with
  | some o => o.dict.isNone
  | none => false
end Fw
namespace Fw
open L2 PyProof.Rows PySem PySem.Spec
def ktO (x : Str) (ns : List Int) (K : PySem.W.Frag) : Bool := tuB K (He.ga K x) ns && ktB K (He.ga K x)
end Fw
namespace Fw
open L2 PyProof.Rows PySem PySem.Spec
def frKT {β : Type} (g : Addr → Option Obj) : List Addr → PySem.W.Frag → (PySem.W.Frag → β) → β
  | [], acc, k => k acc
  | a :: r, acc, k => match g a with
    | some o => (match He.emptyTab o with
      | true => frKT g r acc k
      | false => frKT g r ((a, o) :: acc) k)
    | none => frKT g r acc k
end Fw
namespace Fw
open L2 PyProof.Rows PySem PySem.Spec
def backKT (g : Addr → Option Obj) : List Addr → PySem.W.Frag → PySem.W.Frag
  | [], acc => acc
  | a :: r, acc => match g a with
    | some o => (match He.emptyTab o with
      | true => backKT g r acc
      | false => backKT g r ((a, o) :: acc))
    | none => backKT g r acc
end Fw
namespace Fw
open L2 PyProof.Rows PySem PySem.Spec
theorem frKT_eq {β : Type} (g : Addr → Option Obj) (k : PySem.W.Frag → β) : ∀ (as : List Addr) (acc : PySem.W.Frag), frKT g as acc k = k (backKT g as acc)
  | [], acc => rfl
  | a :: r, acc => by
    unfold frKT backKT
    cases g a with
    | some o =>
      show (match He.emptyTab o with
        | true => frKT g r acc k
        | false => frKT g r ((a, o) :: acc) k) = k (match He.emptyTab o with
        | true => backKT g r acc
        | false => backKT g r ((a, o) :: acc))
      cases He.emptyTab o with
      | true => exact frKT_eq g k r acc
      | false => exact frKT_eq g k r ((a, o) :: acc)
    | none => exact frKT_eq g k r acc
end Fw
namespace Fw
open L2 PyProof.Rows PySem PySem.Spec
def InT (h : Heap) (K : PySem.W.Frag) : Prop := ∀ b o, K.lookup b = some o → h.get? b = some o ∧ He.emptyTab o = false
end Fw
namespace Fw
open L2 PyProof.Rows PySem PySem.Spec
theorem backKT_in {h : Heap} : ∀ (as : List Addr) (acc : PySem.W.Frag), InT h acc → InT h (backKT h.get? as acc)
  | [], acc, H => H
  | a :: r, acc, H => by
    unfold backKT
    cases e : h.get? a with
    | none => exact backKT_in r acc H
    | some o =>
      show InT h (match He.emptyTab o with
        | true => backKT h.get? r acc
        | false => backKT h.get? r ((a, o) :: acc))
      cases t : He.emptyTab o with
      | true => exact backKT_in r acc H
      | false =>
        refine backKT_in r ((a, o) :: acc) fun b p hp => ?_
        have hp : (match b == a with
          | true => some o
          | false => acc.lookup b) = some p := hp
        cases q : b == a with
        | true =>
          rw [q] at hp
          cases hp
          rw [beq_iff_eq.mp q]
          exact ⟨e, t⟩
        | false =>
          rw [q] at hp
          exact H b p hp
end Fw
namespace Fw
open L2 PyProof.Rows PySem PySem.Spec
def cA (K : PySem.W.Frag) (f : Addr) : Addr := match K.lookup f with
  | some ⟨_, _, .func fd, _⟩ => (match fd.code with
    | .ref c => c
    | _ => 0)
  | _ => 0
end Fw
namespace Fw
open L2 PyProof.Rows PySem PySem.Spec
def tA (K : PySem.W.Frag) (f : Addr) : Addr := He.tabOf K (cA K f)
end Fw
namespace Fw
open L2 PyProof.Rows PySem PySem.Spec
def ndB : List Addr → Bool
  | [] => true
  | a :: r => (r.all fun b => !Nat.beq a b) && ndB r
end Fw
namespace Fw
open L2 PyProof.Rows PySem PySem.Spec
theorem ndB_ok : ∀ {l : List Addr}, ndB l = true → l.Nodup
  | [], _ => List.nodup_nil
  | a :: r, h => by
    obtain ⟨h1, h2⟩ := He.ba h
    refine List.nodup_cons.mpr ⟨fun z => ?_, ndB_ok h2⟩
    have := List.all_eq_true.mp h1 a z
    rw [Nat.beq_refl] at this
    cases this
end Fw
namespace Fw
open L2 PyProof.Rows PySem PySem.Spec
def tabsQ (g : Addr → Option Obj) (tb : List (PySem.W.Frag → Addr)) (K : PySem.W.Frag) : Bool := (tb.all fun f => PySem.W.codeHdIn K (cA K (f K)) (tA K (f K)) && (match g (tA K (f K)) with
  | some o => He.emptyTab o
  | none => false)) && ndB (tb.map fun f => tA K (f K))
end Fw
namespace Fw
open L2 PyProof.Rows PySem PySem.Spec
structure TabsL (tb : List (PySem.W.Frag → Addr)) (K : PySem.W.Frag) (h : Heap) : Prop where
  hd : ∀ f ∈ tb, PySem.W.codeHdIn K (cA K (f K)) (tA K (f K)) = true
  out : ∀ f ∈ tb, K.lookup (tA K (f K)) = none
  empty : ∀ f ∈ tb, h.get? (tA K (f K)) = some { cls := .none, data := .fields #[] }
  nd : (tb.map fun f => tA K (f K)).Nodup
end Fw
namespace Fw
open L2 PyProof.Rows PySem PySem.Spec
theorem tabsQ_ok {tb : List (PySem.W.Frag → Addr)} {K : PySem.W.Frag} {h : Heap} (I : InT h K) (e : tabsQ h.get? tb K = true) : TabsL tb K h := by
  obtain ⟨e1, e2⟩ := He.ba e
  have key : ∀ f ∈ tb, PySem.W.codeHdIn K (cA K (f K)) (tA K (f K)) = true ∧ ∃ o, h.get? (tA K (f K)) = some o ∧ He.emptyTab o = true := fun f hf => by
    obtain ⟨h3, h4⟩ := He.ba (List.all_eq_true.mp e1 f hf)
    refine ⟨h3, ?_⟩
    cases q : h.get? (tA K (f K)) with
    | none =>
      rw [q] at h4
      cases h4
    | some o =>
      rw [q] at h4
      exact ⟨o, rfl, h4⟩
  refine ⟨fun f hf => (key f hf).1, fun f hf => ?_, fun f hf => ?_, ndB_ok e2⟩
  · obtain ⟨_, o, q, z⟩ := key f hf
    cases l : K.lookup (tA K (f K)) with
    | none => rfl
    | some u =>
      obtain ⟨h1, h2⟩ := I _ _ l
      rw [q] at h1
      cases h1
      rw [z] at h2
      cases h2
  · obtain ⟨_, o, q, z⟩ := key f hf
    rw [q, He.emptyTab_eq z]
end Fw
namespace Fw
open L2 PyProof.Rows PySem PySem.Spec
def obsQL (n : Nat) (fa : List He.Fa) (ex : List (PySem.W.Frag → Bool)) (fn : List He.DefD) (pn : List DefP) (tb : List (PySem.W.Frag → Addr)) (g : Addr → Option Obj) : He.AlD := frKT g (bq g 20000 n [mainGlobals] [] (Nat.shiftLeft 1 mainGlobals) []) [] fun K => ((obsP fa ex fn pn K).1 && tabsQ g tb K, (obsP fa ex fn pn K).2)
end Fw
namespace Fw
open L2 PyProof.Rows PySem PySem.Spec
def hookL (n : Nat) (fa : List He.Fa) (ex : List (PySem.W.Frag → Bool)) (fn : List He.DefD) (pn : List DefP) (tb : List (PySem.W.Frag → Addr)) : PySem.W.Hook where
  α := He.AlD
  obs := fun s => obsQL n fa ex fn pn tb s.heap.get?
  val := fun _ => valP fn pn
  says := fun _ h => ∃ K : PySem.W.Frag, K.In h ∧ SaysP fa ex fn pn K ∧ TabsL tb K h
  of := fun w s e => by
    have e : frKT s.heap.get? (bq s.heap.get? 20000 n [mainGlobals] [] (Nat.shiftLeft 1 mainGlobals) []) [] (fun K => ((obsP fa ex fn pn K).1 && tabsQ s.heap.get? tb K, (obsP fa ex fn pn K).2)) = valP fn pn := e
    rw [frKT_eq] at e
    have I := backKT_in (h := s.heap) (bq s.heap.get? 20000 n [mainGlobals] [] (Nat.shiftLeft 1 mainGlobals) []) [] fun _ _ e => by cases e
    have e1 := congrArg (fun z : He.AlD => z.1) e
    have e2 := congrArg (fun z : He.AlD => z.2) e
    obtain ⟨e3, e4⟩ := He.ba (show (_ && _) = true from e1)
    exact ⟨_, fun b o z => (I b o z).1, Prod.ext e3 e2, tabsQ_ok I e4⟩
  keeps := fun _ _ _ ⟨K, hK, c, t⟩ k => ⟨K, PySem.W.Frag.In.keeps hK k, c, ⟨t.hd, t.out, fun f hf => k _ _ (t.empty f hf), t.nd⟩⟩
end Fw
namespace Fw
open L2 PyProof.Rows PySem PySem.Spec
theorem obsQL_eq {n : Nat} {fa : List He.Fa} {ex : List (PySem.W.Frag → Bool)} {fn : List He.DefD} {pn : List DefP} {tb : List (PySem.W.Frag → Addr)} {g : Addr → Option Obj} {s : Shared} (h : ∀ a, g a = s.heap.get? a) : obsQL n fa ex fn pn tb g = (hookL n fa ex fn pn tb).obs s := by
  have e : g = s.heap.get? := funext h
  rw [e] <;> rfl
end Fw
namespace Fw
open L2 PyProof.Rows PySem PySem.Spec
def err0B (tl : List Value) (ni : String) (x : Str) (K : PySem.W.Frag) : Bool := PySem.W.excIn K (He.ga K x) tl ni && (PySem.W.keepIn K (.ref (He.ga K x)) && (decide (PySem.W.subIn K (.ref (He.ga K x)) (.type "BaseException") = some true) && decide (PySem.W.typeIn K (.ref (He.ga K x)) = some (.type "type"))))
end Fw
namespace Fw
open L2 PyProof.Rows PySem PySem.Spec
def top (i : Nat) : Stmt := PySem.Challenge.pw_formworld_k21_giving_refused.main.body.getD i (.Pass ⟨0, 0, 0, 0⟩)
def dd (x : Str) (i : Nat) : He.DefD := ⟨(x, none), x, x, defArgs (top i), defBody (top i), defScope (top i), [], []⟩
def di (x : Str) (i : Nat) : He.DefD := ⟨(x, some "__init__"), "__init__", x ++ ".__init__", defArgs (inClass (top i) 0), defBody (inClass (top i) 0), defScope (inClass (top i) 0), [], []⟩
def dp (a : PySem.W.Frag → Addr) (m q : Str) (s : Stmt) : DefP := ⟨a, m, q, defArgs s, defBody s, defScope s⟩
def fns : List He.DefD := [dd "_law_draw" 82, dd "_law_one" 83, dd "_law_sort" 86, dd "_law_answer" 85, dd "check_form" 50, dd "is_integer" 14, dd "is_between" 15, dd "first_beyond" 45, dd "check_small" 51, dd "check_number" 68, dd "unit_table" 27, dd "nearest_part" 56, dd "product" 53, dd "combined" 54, dd "shorter" 57, dd "small_base" 58, dd "squares_of" 59, dd "table_of" 55, dd "root_of" 25, dd "exact_heads" 61] ++ [dd "spread" 60, dd "writings_from" 62, dd "vectors_of" 63, dd "is_given" 69, dd "gives" 70, dd "all_writings" 71, dd "writings" 72, dd "count_writings" 73, dd "common_divisor" 23, dd "common_of" 24, dd "count_proper" 74, dd "missed" 75, dd "_law_calls" 87, dd "pairs_of" 41, dd "keys_of" 76, dd "first_missed" 77, dd "gives_all" 78, dd "least_missed" 79, dd "_law_all_calls" 88, dd "_law_odd_forms" 84] ++ [dd "check_coefficients" 44, dd "table_for" 42, dd "exchanged" 35, dd "fraction" 31, dd "plus" 38, dd "added" 37, dd "summed" 36, dd "with_lead" 34, dd "behind" 33, dd "diagonal" 32, dd "signature_for" 47, dd "lessened" 30, dd "determinant" 29, dd "kind_for" 48, dd "_law_right" 89, dd "_law_bag" 81, dd "law" 90, di "InvalidNumber" 4, di "NotAForm" 5, di "TooGreat" 11]
def fas : List He.Fa := [.glo "_law_draw", .glo "_law_one", .glo "_law_sort", .glo "_law_answer", .glo "check_form", .glo "is_integer", .glo "is_between", .glo "first_beyond", .glo "check_small", .glo "check_number", .glo "unit_table", .glo "nearest_part", .glo "product", .glo "combined", .glo "shorter", .glo "small_base", .glo "squares_of", .glo "table_of", .glo "root_of", .glo "exact_heads"] ++ [.glo "spread", .glo "writings_from", .glo "vectors_of", .glo "is_given", .glo "gives", .glo "all_writings", .glo "writings", .glo "count_writings", .glo "common_divisor", .glo "common_of", .glo "count_proper", .glo "missed", .glo "_law_calls", .glo "pairs_of", .glo "keys_of", .glo "first_missed", .glo "gives_all", .glo "least_missed", .glo "_law_all_calls", .glo "_law_odd_forms"] ++ [.glo "check_coefficients", .glo "table_for", .glo "exchanged", .glo "fraction", .glo "plus", .glo "added", .glo "summed", .glo "with_lead", .glo "behind", .glo "diagonal", .glo "signature_for", .glo "lessened", .glo "determinant", .glo "kind_for", .glo "_law_right", .glo "_law_bag", .glo "law", .free "int", .free "len", .free "isinstance"] ++ [.free "LookupError", .free "ArithmeticError", .free "ValueError", .free "repr", .free "bool", .free "abs", .int "MOST_SMALL" 1000, .int "MOST_NUMBER" 1000, .free "range", .free "tuple", .free "zip", .free "sum", .free "list", .free "sorted", .free "all", .free "enumerate", .int "MOST_SIZE" 1000000000000, .free "str", .free "min", .free "max"]
def pns : List DefP := [dp (pAt "Form" "kind") "kind" "Form.kind" (inClass (top 49) 7), dp (pAt "Form" "coefficients") "coefficients" "Form.coefficients" (inClass (top 49) 2), dp (pAt "Form" "table") "table" "Form.table" (inClass (top 49) 4), dp (pAt "Form" "unknowns") "unknowns" "Form.unknowns" (inClass (top 49) 3), dp (pAt "Form" "is_even_between") "is_even_between" "Form.is_even_between" (inClass (top 49) 9), dp (mAt "Form" "__init__") "__init__" "Form.__init__" (inClass (top 49) 0)]
def loose : List Str := (["_wall", "WrongValue", "InvalidText", "InvalidNumber", "NotAForm", "InvalidCoefficients", "InvalidVector", "WrongName", "NoAnswer", "NotPositive", "TooGreat", "DIGITS"] : List Str) ++ (["is_integer", "is_between", "number_in", "integer_in", "MOST_SIZE", "MOST_SMALL", "MOST_NUMBER", "MOST_PASSED", "common_divisor", "common_of", "root_of", "unit_table"] : List Str) ++ (["applied", "determinant", "lessened", "fraction", "diagonal", "behind", "with_lead", "exchanged", "summed", "added", "plus", "UNKNOWNS"] : List Str) ++ (["pairs_of", "table_for", "check_vector", "check_coefficients", "first_beyond", "form_of", "signature_for", "kind_for", "Form", "check_form", "check_small", "product"] : List Str) ++ (["combined", "table_of", "nearest_part", "shorter", "small_base", "squares_of", "spread", "exact_heads", "writings_from", "vectors_of", "EVEN_KEYS", "LOW_KEYS"] : List Str) ++ (["KEYS", "check_number", "is_given", "gives", "all_writings", "writings", "count_writings", "count_proper", "missed", "keys_of", "first_missed", "gives_all"] : List Str) ++ (["least_missed", "_law_bag", "_law_draw", "_law_one", "_law_odd_forms", "_law_answer", "_law_sort", "_law_calls", "_law_all_calls", "_law_right"] : List Str)
def exs : List (PySem.W.Frag → Bool) := [fun K => (He.Fa.glo "WrongName").ok K, isiX "InvalidNumber", kitB "InvalidNumber" (fun K => .ref (He.ga K "WrongName")) false, isiX "NotAForm", kitB "NotAForm" (fun K => .ref (He.ga K "WrongName")) false, isiX "NotPositive", kitB "NotPositive" (fun K => .ref (He.ga K "WrongName")) false, isiX "TooGreat", kitB "TooGreat" (fun K => .ref (He.ga K "WrongName")) false, fun K => (He.Fa.glo "NoAnswer").ok K, kitB "InvalidNumber" (fun K => .ref (He.ga K "NoAnswer")) false, kitB "NotAForm" (fun K => .ref (He.ga K "NoAnswer")) false, kitB "NotPositive" (fun K => .ref (He.ga K "NoAnswer")) true, kitB "TooGreat" (fun K => .ref (He.ga K "NoAnswer")) true, fun K => (He.Fa.glo "WrongValue").ok K, kitB "InvalidNumber" (fun K => .ref (He.ga K "WrongValue")) true, kitB "NotAForm" (fun K => .ref (He.ga K "WrongValue")) true, kitB "NotPositive" (fun K => .ref (He.ga K "WrongValue")) false, kitB "TooGreat" (fun K => .ref (He.ga K "WrongValue")) false, kitB "InvalidNumber" (fun _ => .type "LookupError") false] ++ [kitB "NotAForm" (fun _ => .type "LookupError") false, kitB "NotPositive" (fun _ => .type "LookupError") false, kitB "TooGreat" (fun _ => .type "LookupError") false, kitB "InvalidNumber" (fun _ => .type "ArithmeticError") false, kitB "NotAForm" (fun _ => .type "ArithmeticError") false, kitB "NotPositive" (fun _ => .type "ArithmeticError") true, kitB "TooGreat" (fun _ => .type "ArithmeticError") true, kitB "InvalidNumber" (fun _ => .type "ValueError") true, kitB "NotAForm" (fun _ => .type "ValueError") true, kitB "NotPositive" (fun _ => .type "ValueError") false, kitB "TooGreat" (fun _ => .type "ValueError") false, fun K => (He.Fa.glo "InvalidNumber").ok K, kitB "InvalidNumber" (fun K => .ref (He.ga K "InvalidNumber")) true, kitB "NotAForm" (fun K => .ref (He.ga K "InvalidNumber")) false, kitB "NotPositive" (fun K => .ref (He.ga K "InvalidNumber")) false, kitB "TooGreat" (fun K => .ref (He.ga K "InvalidNumber")) false, xfNo "InvalidNumber" "given", xfNo "NotAForm" "given", xfNo "TooGreat" "given", fun K => (He.Fa.glo "NotAForm").ok K] ++ [kitB "InvalidNumber" (fun K => .ref (He.ga K "NotAForm")) false, kitB "NotAForm" (fun K => .ref (He.ga K "NotAForm")) true, kitB "NotPositive" (fun K => .ref (He.ga K "NotAForm")) false, kitB "TooGreat" (fun K => .ref (He.ga K "NotAForm")) false, fun K => (He.Fa.glo "NotPositive").ok K, kitB "InvalidNumber" (fun K => .ref (He.ga K "NotPositive")) false, kitB "NotAForm" (fun K => .ref (He.ga K "NotPositive")) false, kitB "NotPositive" (fun K => .ref (He.ga K "NotPositive")) true, kitB "TooGreat" (fun K => .ref (He.ga K "NotPositive")) false, fun K => (He.Fa.glo "TooGreat").ok K, kitB "InvalidNumber" (fun K => .ref (He.ga K "TooGreat")) false, kitB "NotAForm" (fun K => .ref (He.ga K "TooGreat")) false, kitB "NotPositive" (fun K => .ref (He.ga K "TooGreat")) false, kitB "TooGreat" (fun K => .ref (He.ga K "TooGreat")) true, exmB "InvalidNumber" (fun K => .ref (He.ga K "WrongValue")) true, exmB "NotAForm" (fun K => .ref (He.ga K "WrongValue")) true, exmB "NotPositive" (fun K => .ref (He.ga K "WrongValue")) false, exmB "TooGreat" (fun K => .ref (He.ga K "WrongValue")) false, exmB "InvalidNumber" (fun K => .ref (He.ga K "NoAnswer")) false, exmB "NotAForm" (fun K => .ref (He.ga K "NoAnswer")) false] ++ [exmB "NotPositive" (fun K => .ref (He.ga K "NoAnswer")) true, exmB "TooGreat" (fun K => .ref (He.ga K "NoAnswer")) true, exmB "InvalidNumber" (fun K => .ref (He.ga K "WrongName")) false, exmB "NotAForm" (fun K => .ref (He.ga K "WrongName")) false, exmB "NotPositive" (fun K => .ref (He.ga K "WrongName")) false, exmB "TooGreat" (fun K => .ref (He.ga K "WrongName")) false, fun K => (He.Fa.glo "Form").ok K, fun K => (He.Fa.glo "EVEN_KEYS").ok K, fun K => (He.Fa.glo "KEYS").ok K, fun K => (He.Fa.glo "UNKNOWNS").ok K, clsO "Form", mkO "Form", insO "Form", propO "Form" "coefficients", propO "Form" "is_even_between", propO "Form" "kind", propO "Form" "table", propO "Form" "unknowns", noatO "Form" "held", noatO "Form" "words"] ++ [tabO "UNKNOWNS" [(3, 2), (6, 3), (10, 4), (15, 5)], ktO "EVEN_KEYS" [1, 2, 3, 5, 6, 7, 10, 14, 15], ktO "KEYS" [1, 2, 3, 5, 6, 7, 10, 13, 14, 15, 17, 19, 21, 22, 23, 26, 29, 30, 31, 34, 35, 37, 42, 58, 93, 110, 145, 203, 290], errB [.type "ValueError", .type "Exception", .type "BaseException", .type "object"] "ValueError.__new__" "given" "InvalidNumber", errB [.type "ValueError", .type "Exception", .type "BaseException", .type "object"] "ValueError.__new__" "given" "NotAForm", errB [.type "ArithmeticError", .type "Exception", .type "BaseException", .type "object"] "ArithmeticError.__new__" "given" "TooGreat", err0B [.type "ArithmeticError", .type "Exception", .type "BaseException", .type "object"] "ArithmeticError.__new__" "NotPositive"]
def tb__law_calls (K : PySem.W.Frag) : Addr := He.fAd K ("_law_calls", none)
def tb__law_all_calls (K : PySem.W.Frag) : Addr := He.fAd K ("_law_all_calls", none)
def tbs : List (PySem.W.Frag → Addr) := [tb__law_calls, tb__law_all_calls]
end Fw
namespace Fw
open L2 PyProof.Rows PySem PySem.Spec
abbrev Rw : PySem.W.OpenRow := PySem.W.OpenLaw.row PySem.Challenge.rw_formworld_k21_giving_refused
abbrev hk : PySem.W.Hook := Fw.hookL 7 fas exs fns pns tbs
def seen (s : PySem.W.SharedT) : He.AlD := Fw.obsQL 7 fas exs fns pns tbs (HandSHeadRun.getT s)
theorem seen_eq (s : PySem.W.SharedT) : seen s = hk.obs s.abs := Fw.obsQL_eq (HandSHeadRun.getT_eq s)
theorem runF (w : World) : HandSHeadRun.RunEq Rw (PySem.W.view Rw.prog [90]) hk seen 20000 loose (w.withFollow "special-get-raises" false) := by intro os; kernel_rfl
theorem runT (w : World) : HandSHeadRun.RunEq Rw (PySem.W.view Rw.prog [90]) hk seen 20000 loose (w.withFollow "special-get-raises" true) := by intro os; kernel_rfl
theorem run (w : World) : HandSHeadRun.RunEq Rw (PySem.W.view Rw.prog [90]) hk seen 20000 loose w :=
  PySem.W.byRow2 "special-get-raises" (P := fun w => HandSHeadRun.RunEq Rw (PySem.W.view Rw.prog [90]) hk seen 20000 loose w) runF runT w
end Fw
namespace Fw
open PyProof.Rows PySem PySem.W PySem.Calls
theorem hx1 : opening Rw.prog = plainProg Rw.prog.main.scope.names := by kernel_rfl
theorem hx2 : ∀ s, fenceModules? Rw.prog s = some s := fun s => by kernel_rfl
theorem hx3 : defOf (view Rw.prog [90]) Rw.name = some (HandSHeadRun.topDef Rw.prog 90, []) := by kernel_rfl
theorem hx4 : Rw.prog.theDef Rw.name = some ((HandSHeadRun.topDef Rw.prog 90).params, (HandSHeadRun.topDef Rw.prog 90).body, (HandSHeadRun.topDef Rw.prog 90).scope) := by kernel_rfl
theorem hx5 : kwWritten? (HandSHeadRun.topDef Rw.prog 90).params.kwonlyargs (HandSHeadRun.topDef Rw.prog 90).params.kw_defaults = some [] := by kernel_rfl
theorem hx6 : (!Rw.writes || Rw.records.isEmpty) = true := by rfl
theorem hx7 : Rw.wellSaid = true := by decide +kernel
theorem hx8 : (chainsOk (view Rw.prog [90]) && opensWell Rw.prog && (frees Rw.toRowW && Rw.within.isEmpty)) = true := by decide +kernel
theorem hx9 : Rw.prog.bare := ⟨rfl, rfl, rfl, rfl, rfl, by decide +kernel⟩
theorem headX (call : WalkO (view Rw.prog [90]) loose (XL (view Rw.prog [90]) []) hk.says Rw.toRowW (HandSHeadRun.topDef Rw.prog 90) [] fun f vs => PySem.call f vs) (hw : Rw.toRowW.promised) : Rw.Holds :=
  HandSHeadRun.head_any (r := Fw.Rw) (q := view Fw.Rw.prog [90]) (H := Fw.hk) (ob := Fw.seen) (M := 20000) (loose := Fw.loose) (d := HandSHeadRun.topDef Fw.Rw.prog 90) (kwd := []) Fw.seen_eq hx1 hx2 Fw.run hx3 hx4 hx5 hx6 hx7 hx8 hx9 hw call
end Fw
namespace Fw
open L2 PyProof.Rows PySem PySem.Spec
abbrev Sv := L2.St
inductive D where
  | non | bl (b : Bool) | int (i : Int) | str (x : Str) | ty (n : String)
  | tup (xs : List D) | lst (xs : List D) | obj (c : Nat) (fs : List D) | scr (ns : List Int) | ktu (ns : List Int) | mrk
  | dct (ks : List Key) (vs : List D) | dtt (ks : List (List Key)) (vs : List D) | exn (c : Nat) (fs : List D)
def isMut : HO → Bool
  | .lst _ => true
  | .dK _ => true
  | .dT _ => true
  | .set _ _ => true
  | .ins _ _ _ => true
  | .tbl _ => true
  | _ => false
structure Mono (A : Addr → Prop) (H : Hp) (A' : Addr → Prop) (H' : Hp) : Prop where
  al : ∀ a, A a → ∃ o, H a = some o ∧ isMut o = true
  st : ∀ a o, H a = some o → ¬ A a → H' a = some o
  av : ∀ a o, A' a → H a = some o → A a
structure MonoW (A : Addr → Prop) (H : Hp) (A' : Addr → Prop) (H' : Hp) : Prop where
  al : ∀ a, A a → ∃ o, H a = some o ∧ isMut o = true
  st : ∀ a o, H a = some o → ¬ A a → (∀ kvs, o ≠ .dK kvs) → H' a = some o
  av : ∀ a o, A' a → H a = some o → A a
theorem Mono.w {A A' : Addr → Prop} {H H' : Hp} (m : Mono A H A' H') : MonoW A H A' H' := ⟨m.al, fun a o h n _ => m.st a o h n, m.av⟩
structure GC where
  K : PySem.W.Frag
  ca : Nat → Addr
  cf : Nat → List Str
  ex : Option (Addr × Nat × Option Addr) := none
  T : List (Addr × Str) := []
  own : Option Addr := none
  iv : (Addr → Prop) → Hp → Prop := fun _ _ => True
  ivM : ∀ {A A' : Addr → Prop} {H H' : Hp}, MonoW A H A' H' → iv A H → iv A' H' := by intros; trivial
def LsR (g : GC) (A : Addr → Prop) (H : Hp) (a : Addr) (xs : List V) : Prop := (Rd H a (.lst xs) ∧ ¬ A a) ∨
  ∃ (o : Obj) (its : Array Value) (n : Nat), g.K.lookup a = some o ∧ o.cls = .type "list" ∧ o.dict = none ∧ o.data = .seq its n ∧ its.size ≤ sizeLine ∧ Vals xs its.toList
def KtR (K : PySem.W.Frag) (a : Addr) (xs : List V) : Prop :=
  ∃ (o : Obj) (its : Array Value) (n : Nat), K.lookup a = some o ∧ o.cls = .type "tuple" ∧ o.dict = none ∧ o.data = .seq its n ∧ its.size ≤ sizeLine ∧ Vals xs its.toList
def KtX (K : PySem.W.Frag) (H : Hp) (a : Addr) (xs : List V) : Prop := KtR K a xs ∨ ∃ o : Obj, H a = some (.frz o (.tup xs)) ∧ o.dict = none
theorem KtX.sq {K : PySem.W.Frag} {H : Hp} {a : Addr} {xs : List V} (h : KtX K H a xs) : SqT K H a xs := h.elim (fun ⟨o, its, n, h1, h2, _, h3⟩ => .inr ⟨o, its, n, h1, h2, h3⟩) fun ⟨o, e, _⟩ => .inl (.inr ⟨o, e⟩)
theorem LsR.sq {g : GC} {A : Addr → Prop} {H : Hp} {a : Addr} {xs : List V} (h : LsR g A H a xs) : SqL g.K H a xs := h.elim (fun z => .inl z.1) .inr
mutual
def R (g : GC) (A : Addr → Prop) (H : Hp) : D → V → Prop
  | .non, v => v = .non
  | .bl b, v => v = .bl b
  | .int i, v => v = .int i
  | .str x, v => v = .str x
  | .ty n, v => v = .ty n
  | .tup ds, v => ∃ a xs, v = .ref a ∧ H a = some (.tup xs) ∧ RL g A H ds xs
  | .lst ds, v => ∃ a xs, v = .ref a ∧ H a = some (.lst xs) ∧ ¬ A a ∧ RL g A H ds xs
  | .obj c ds, v => ∃ a dx xs, v = .ref a ∧ H a = some (.ins (g.ca c) dx ((g.cf c).zip xs)) ∧ ¬ A a ∧ (g.cf c).length = xs.length ∧ RL g A H ds xs
  | .scr ns, v => ∃ a, v = .ref a ∧ LsR g A H a (ns.map V.int)
  | .mrk, v => ∃ b, v = .ref b ∧ g.own = some b
  | .ktu ns, v => ∃ a, v = .ref a ∧ KtX g.K H a (ns.map V.int)
  | .dct ks ds, v => ∃ a o xs, v = .ref a ∧ H a = some (.frz o (.dK (ks.zip xs))) ∧ ks.length = xs.length ∧ RL g A H ds xs
  | .dtt ks ds, v => ∃ a o xs, v = .ref a ∧ H a = some (.frz o (.dT (ks.zip xs))) ∧ ks.length = xs.length ∧ RL g A H ds xs
  | .exn c ds, v => ∃ a od, v = .ref a ∧ g.ex = some (a, c, od) ∧ ((od = none ∧ ds = [] ∧ g.cf c = []) ∨ ∃ dd xs, od = some dd ∧ H dd = some (.xd ((g.cf c).zip xs)) ∧ (g.cf c).length = xs.length ∧ RL g A H ds xs)
def RL (g : GC) (A : Addr → Prop) (H : Hp) : List D → List V → Prop
  | [], xs => xs = []
  | d :: ds, xs => ∃ y ys, xs = y :: ys ∧ R g A H d y ∧ RL g A H ds ys
end
theorem Mono.rd {A A' : Addr → Prop} {H H' : Hp} (m : Mono A H A' H') {a : Addr} {o : HO} (n : isMut o = false) (h : Rd H a o) : Rd H' a o := by
  rcases h with h | ⟨ob, h⟩
  · refine .inl (m.st a _ h fun z => ?_)
    obtain ⟨u, e, q⟩ := m.al a z
    rw [h] at e; cases e; rw [n] at q; cases q
  · refine .inr ⟨ob, m.st a _ h fun z => ?_⟩
    obtain ⟨u, e, q⟩ := m.al a z
    rw [h] at e; cases e; cases q
theorem Mono.ins {A A' : Addr → Prop} {H H' : Hp} (m : Mono A H A' H') {a : Addr} {o : HO} (n : isMut o = false) (h : H a = some o) : H' a = some o := by
  refine m.st a _ h fun z => ?_
  obtain ⟨u, e, q⟩ := m.al a z
  rw [h] at e; cases e; rw [n] at q; cases q
theorem Mono.lsr {g : GC} {A A' : Addr → Prop} {H H' : Hp} (m : Mono A H A' H') {a : Addr} {xs : List V} (h : LsR g A H a xs) : LsR g A' H' a xs := by
  rcases h with ⟨h, n⟩ | h
  · rcases h with h | ⟨ob, h⟩
    · exact .inl ⟨.inl (m.st a _ h n), fun z => n (m.av a _ z h)⟩
    · exact .inl ⟨.inr ⟨ob, m.st a _ h n⟩, fun z => n (m.av a _ z h)⟩
  · exact .inr h
mutual
theorem R.mono {g : GC} {A A' : Addr → Prop} {H H' : Hp} (m : Mono A H A' H') : ∀ (d : D) {v : V}, R g A H d v → R g A' H' d v
  | .non, _, e => e
  | .bl _, _, e => e
  | .int _, _, e => e
  | .str _, _, e => e
  | .ty _, _, e => e
  | .tup ds, _, ⟨a, xs, e, h1, r⟩ => ⟨a, xs, e, m.ins rfl h1, RL.mono m ds r⟩
  | .lst ds, _, ⟨a, xs, e, h1, n, r⟩ => ⟨a, xs, e, m.st a _ h1 n, fun z => n (m.av a _ z h1), RL.mono m ds r⟩
  | .obj c ds, _, ⟨a, dx, xs, e, h1, n, hl, r⟩ => ⟨a, dx, xs, e, m.st a _ h1 n, fun z => n (m.av a _ z h1), hl, RL.mono m ds r⟩
  | .scr _, _, ⟨a, e, h1⟩ => ⟨a, e, m.lsr h1⟩
  | .mrk, _, e => e
  | .ktu _, _, ⟨a, e, h1⟩ => ⟨a, e, h1.imp id fun ⟨o, x, y⟩ => ⟨o, m.ins rfl x, y⟩⟩
  | .dct ks ds, _, ⟨a, o, xs, e, h1, hl, r⟩ => ⟨a, o, xs, e, m.ins rfl h1, hl, RL.mono m ds r⟩
  | .dtt ks ds, _, ⟨a, o, xs, e, h1, hl, r⟩ => ⟨a, o, xs, e, m.ins rfl h1, hl, RL.mono m ds r⟩
  | .exn c ds, _, ⟨a, od, e, h0, h⟩ => ⟨a, od, e, h0, h.imp id fun ⟨dd, xs, h1, h2, h3, r⟩ => ⟨dd, xs, h1, m.ins rfl h2, h3, RL.mono m ds r⟩⟩
theorem RL.mono {g : GC} {A A' : Addr → Prop} {H H' : Hp} (m : Mono A H A' H') : ∀ (ds : List D) {xs : List V}, RL g A H ds xs → RL g A' H' ds xs
  | [], _, e => e
  | d :: ds, _, ⟨y, ys, e, r, t⟩ => ⟨y, ys, e, R.mono m d r, RL.mono m ds t⟩
end
theorem RL.length {g : GC} {A : Addr → Prop} {H : Hp} : ∀ {ds : List D} {xs : List V}, RL g A H ds xs → xs.length = ds.length
  | [], _, e => by rw [show _ = [] from e]; rfl
  | d :: ds, _, ⟨y, ys, e, r, t⟩ => by rw [e, List.length_cons, List.length_cons, RL.length t]
theorem RL.get {g : GC} {A : Addr → Prop} {H : Hp} : ∀ {ds : List D} {xs : List V} {i : Nat} {d : D}, RL g A H ds xs → ds[i]? = some d → ∃ v, xs[i]? = some v ∧ R g A H d v
  | [], _, _, _, _, h => by simp at h
  | d :: ds, _, 0, _, ⟨y, ys, e, r, t⟩, h => by simp at h; subst h; exact ⟨y, by rw [e]; rfl, r⟩
  | d :: ds, _, i + 1, _, ⟨y, ys, e, r, t⟩, h => by
    obtain ⟨v, h1, h2⟩ := RL.get (i := i) t (by simpa using h)
    exact ⟨v, by rw [e]; simpa using h1, h2⟩
theorem RL.append {g : GC} {A : Addr → Prop} {H : Hp} : ∀ {ds es : List D} {xs ys : List V}, RL g A H ds xs → RL g A H es ys → RL g A H (ds ++ es) (xs ++ ys)
  | [], _, _, _, e, s => by rw [show _ = [] from e]; exact s
  | d :: ds, _, _, _, ⟨y, ys, e, r, t⟩, s => by rw [e]; exact ⟨y, _, rfl, r, RL.append t s⟩
theorem RL.set {g : GC} {A : Addr → Prop} {H : Hp} {d : D} {v : V} (r' : R g A H d v) : ∀ {ds : List D} {xs : List V} (i : Nat), RL g A H ds xs → RL g A H (ds.set i d) (xs.set i v)
  | [], _, _, e => by rw [show _ = [] from e]; exact rfl
  | _ :: ds, _, 0, ⟨y, ys, e, r, t⟩ => by rw [e]; exact ⟨v, ys, rfl, r', t⟩
  | _ :: ds, _, i + 1, ⟨y, ys, e, r, t⟩ => by rw [e]; exact ⟨y, _, rfl, r, RL.set r' i t⟩
theorem RL.drop {g : GC} {A : Addr → Prop} {H : Hp} : ∀ {ds : List D} {xs : List V} (n : Nat), RL g A H ds xs → RL g A H (ds.drop n) (xs.drop n)
  | _, _, 0, r => r
  | [], _, n + 1, e => by rw [show _ = [] from e]; exact rfl
  | d :: ds, _, n + 1, ⟨y, ys, e, r, t⟩ => by rw [e]; exact RL.drop n t
theorem RL.take {g : GC} {A : Addr → Prop} {H : Hp} : ∀ {ds : List D} {xs : List V} (n : Nat), RL g A H ds xs → RL g A H (ds.take n) (xs.take n)
  | _, _, 0, r => by simp [RL]
  | [], _, n + 1, e => by rw [show _ = [] from e]; simp [RL]
  | d :: ds, _, n + 1, ⟨y, ys, e, r, t⟩ => by rw [e]; exact ⟨y, _, rfl, r, RL.take n t⟩
theorem RL.ints {g : GC} {A : Addr → Prop} {H : Hp} : ∀ (ns : List Int), RL g A H (ns.map D.int) (ns.map V.int)
  | [] => rfl
  | n :: ns => ⟨_, _, rfl, rfl, RL.ints ns⟩
theorem RL.ints_of {g : GC} {A : Addr → Prop} {H : Hp} : ∀ (ns : List Int) {xs : List V}, RL g A H (ns.map D.int) xs → xs = ns.map V.int
  | [], _, e => e
  | n :: ns, _, ⟨y, ys, e, r, t⟩ => by rw [e, show y = .int n from r, RL.ints_of ns t]; rfl
inductive Sl where
  | emp | val (d : D) | box (d : D) | pbox (d : D)
abbrev Ev := List Sl
structure Fx where
  T : Hp
  OB : Addr → Prop
  pa : Nat → Option Addr
  H0 : Hp
def Bx (g : GC) (A : Addr → Prop) (H : Hp) : D → Addr → Prop
  | .lst ds, p => ∃ xs, H p = some (.lst xs) ∧ RL g A H ds xs
  | .dct ks ds, p => ∃ xs, H p = some (.dK (ks.zip xs)) ∧ ks.length = xs.length ∧ RL g A H ds xs
  | .dtt ks ds, p => ∃ xs, H p = some (.dT (ks.zip xs)) ∧ ks.length = xs.length ∧ RL g A H ds xs
  | .obj c ds, p => ∃ dx xs, H p = some (.ins (g.ca c) dx ((g.cf c).zip xs)) ∧ (g.cf c).length = xs.length ∧ RL g A H ds xs
  | _, _ => False
def isBxO : HO → Bool
  | .lst _ => true
  | .dK _ => true
  | .dT _ => true
  | .set _ _ => true
  | .ins _ _ _ => true
  | _ => false
theorem Bx.no {g : GC} {A : Addr → Prop} {H : Hp} {p : Addr} {o : HO} : ∀ {d : D}, Bx g A H d p → H p = some o → isBxO o = false → False
  | .lst ds, ⟨xs, h, _⟩, e, n => by rw [h] at e; cases e; cases n
  | .dct ks ds, ⟨xs, h, _⟩, e, n => by rw [h] at e; cases e; cases n
  | .dtt ks ds, ⟨xs, h, _⟩, e, n => by rw [h] at e; cases e; cases n
  | .obj c ds, ⟨dx, xs, h, _⟩, e, n => by rw [h] at e; cases e; cases n
def SlRel (g : GC) (f : Fx) (A : Addr → Prop) (H : Hp) (i : Nat) (o : Option V) : Sl → Prop
  | .emp => f.pa i = none
  | .val d => f.pa i = none ∧ ∃ v, o = some v ∧ R g A H d v
  | .box d => f.pa i = none ∧ ∃ p, o = some (.ref p) ∧ A p ∧ f.H0 p = none ∧ Bx g A H d p
  | .pbox d => ∃ p, f.pa i = some p ∧ o = some (.ref p) ∧ A p ∧ Bx g A H d p
def Sl.isBox : Sl → Bool
  | .box _ => true
  | .pbox _ => true
  | _ => false
structure FR (g : GC) (f : Fx) (A : Addr → Prop) (H : Hp) (σ : Sv) (e : Ev) : Prop where
  len : σ.length = e.length
  sl : ∀ (i : Nat) (s : Sl) (o : Option V), e[i]? = some s → σ[i]? = some o → SlRel g f A H i o s
  inj : ∀ (i j : Nat) (s t : Sl) (p : Addr), e[i]? = some s → e[j]? = some t → s.isBox = true → t.isBox = true → σ[i]? = some (some (.ref p)) → σ[j]? = some (some (.ref p)) → i = j
  nt : ∀ (i : Nat) (s : Sl) (p : Addr), e[i]? = some s → s.isBox = true → σ[i]? = some (some (.ref p)) → f.T p = none
  tp : ∀ a o, f.T a = some o → A a ∧ H a = some o
  ob : ∀ a, f.OB a → A a
  ob0 : ∀ a, f.OB a → ∃ o, f.H0 a = some o
  pb : ∀ (i : Nat) (p : Addr), f.pa i = some p → f.OB p ∧ i < e.length
  al : ∀ a, A a → ∃ o, H a = some o ∧ isMut o = true
  keep : ∀ a o, f.H0 a = some o → (∀ i, f.pa i ≠ some a) → (∀ q, (a, q) ∉ g.T) → H a = some o
  tb : ∀ p ∈ g.T, A p.1 ∧ (∀ ps, f.T p.1 ≠ some (.tbl ps)) ∧ LamX.TabS H p.1 p.2
  iv : g.iv A H
theorem tabS_keep {H H' : Hp} {P : Addr} {q : Str} (t : LamX.TabS H P q) (k : ∀ b o, H b = some o → isBxO o = false → H' b = some o) : LamX.TabS H' P q := by
  obtain ⟨ps, h1, h2, h3⟩ := t
  refine ⟨ps, k _ _ h1 rfl, h2, fun pos cv hc => ?_⟩
  obtain ⟨c, e1, e2⟩ := h3 pos cv hc
  exact ⟨c, e1, k _ _ e2 rfl⟩
theorem noT_upd {T : Hp} {P D : Addr} {o : HO} (h : ∀ ps, T P ≠ some (.tbl ps)) (ho : isBxO o = true) : ∀ ps, upd T D o P ≠ some (.tbl ps) := fun ps z => by
  by_cases e : P = D
  · rw [e, upd_same] at z; cases z; cases ho
  · rw [upd_ne e] at z; exact h ps z
theorem noT_swap {T : Hp} {P D : Addr} {o o' : HO} (h : ∀ ps, upd T D o P ≠ some (.tbl ps)) (ho : isBxO o' = true) : ∀ ps, upd T D o' P ≠ some (.tbl ps) := fun ps z => by
  by_cases e : P = D
  · rw [e, upd_same] at z; cases z; cases ho
  · rw [upd_ne e] at z; exact h ps (by rw [upd_ne e]; exact z)
theorem noT_sub {T T' : Hp} {P : Addr} (sub : ∀ a o, T a = some o → T' a = some o) (h : ∀ ps, T' P ≠ some (.tbl ps)) : ∀ ps, T P ≠ some (.tbl ps) := fun ps z => h ps (sub _ _ z)
theorem tabS_but {H H' : Hp} {P p : Addr} {q : Str} (t : LamX.TabS H P q) {u : HO} (hp : H p = some u) (hb : isBxO u = true) (k : ∀ b o, H b = some o → b ≠ p → H' b = some o) : LamX.TabS H' P q :=
  tabS_keep t fun b o e n => k b o e fun z => by rw [z, hp] at e; cases e; rw [hb] at n; cases n
theorem tabS_ne {H : Hp} {P p : Addr} {q : Str} (t : LamX.TabS H P q) {u : HO} (hp : H p = some u) (hb : isBxO u = true) : P ≠ p := fun z => by
  obtain ⟨ps, h1, _⟩ := t
  rw [z, hp] at h1; cases h1; cases hb
structure Step (A : Addr → Prop) (H H' : Hp) : Prop where
  st : ∀ a o, H a = some o → ¬ A a → H' a = some o
  un : ∀ a o, H a = some o → ∃ o', H' a = some o'
theorem Step.refl {A : Addr → Prop} {H : Hp} : Step A H H := ⟨fun _ _ h _ => h, fun _ o h => ⟨o, h⟩⟩
theorem Step.trans {A : Addr → Prop} {H H1 H2 : Hp} (a : Step A H H1) (b : Step A H1 H2) : Step A H H2 :=
  ⟨fun c o h n => b.st c o (a.st c o h n) n, fun c o h => let ⟨o', h'⟩ := a.un c o h; b.un c o' h'⟩
theorem Step.of {A : Addr → Prop} {H H' : Hp} (s : Same H H') : Step A H H' := ⟨fun a o h _ => s a o h, fun a o h => ⟨o, s a o h⟩⟩
theorem FR.mono {g : GC} {f : Fx} {A : Addr → Prop} {H H' : Hp} {σ : Sv} {e : Ev} (F : FR g f A H σ e) (s : Step A H H') : Mono A H A H' := ⟨F.al, s.st, fun _ _ h _ => h⟩
theorem FR.r {g : GC} {f : Fx} {A : Addr → Prop} {H H' : Hp} {σ : Sv} {e : Ev} {d : D} {v : V} (F : FR g f A H σ e) (s : Step A H H') (r : R g A H d v) : R g A H' d v := R.mono (F.mono s) d r
theorem FR.rl {g : GC} {f : Fx} {A : Addr → Prop} {H H' : Hp} {σ : Sv} {e : Ev} {d : List D} {v : List V} (F : FR g f A H σ e) (s : Step A H H') (r : RL g A H d v) : RL g A H' d v := RL.mono (F.mono s) d r
theorem Same.new {H : Hp} {p : Addr} {o : HO} (h : H p = none) : Same H (upd H p o) := fun b u e => by rw [upd_ne (ne_of_none e h)]; exact e
theorem Bx.mono {g : GC} {A A' : Addr → Prop} {H H' : Hp} (m : Mono A H A' H') {p : Addr} : ∀ {d : D}, (∀ o, H p = some o → H' p = some o) → Bx g A H d p → Bx g A' H' d p
  | .lst ds, k, ⟨xs, h, r⟩ => ⟨xs, k _ h, RL.mono m ds r⟩
  | .dct ks ds, k, ⟨xs, h, hl, r⟩ => ⟨xs, k _ h, hl, RL.mono m ds r⟩
  | .dtt ks ds, k, ⟨xs, h, hl, r⟩ => ⟨xs, k _ h, hl, RL.mono m ds r⟩
  | .obj c ds, k, ⟨dx, xs, h, hl, r⟩ => ⟨dx, xs, k _ h, hl, RL.mono m ds r⟩
theorem FR.ext {g : GC} {f : Fx} {A A' : Addr → Prop} {H H' : Hp} {σ : Sv} {e : Ev} (F : FR g f A H σ e) (s : Same H H') (h1 : ∀ a, A a → A' a) (h2 : ∀ a o, A' a → H a = some o → A a) (h3 : ∀ a, A' a → ¬ A a → ∃ o, H' a = some o ∧ isMut o = true) : FR g f A' H' σ e where
  len := F.len
  sl := fun i sl o h h' => by
    have m : Mono A H A' H' := ⟨F.al, fun a o q _ => s a o q, h2⟩
    have q := F.sl i sl o h h'
    cases sl with
    | emp => exact q
    | val d => obtain ⟨q0, v, q1, q2⟩ := q; exact ⟨q0, v, q1, R.mono m d q2⟩
    | box d => obtain ⟨q0, p, q1, q2, q3, q4⟩ := q; exact ⟨q0, p, q1, h1 _ q2, q3, Bx.mono m (fun o => s p o) q4⟩
    | pbox d => obtain ⟨p, q1, q2, q3, q4⟩ := q; exact ⟨p, q1, q2, h1 _ q3, Bx.mono m (fun o => s p o) q4⟩
  inj := F.inj
  nt := F.nt
  tp := fun a o h => ⟨h1 a (F.tp a o h).1, s a o (F.tp a o h).2⟩
  ob := fun a h => h1 a (F.ob a h)
  ob0 := F.ob0
  pb := F.pb
  al := fun a h => by
    by_cases n : A a
    · obtain ⟨o, e, q⟩ := F.al a n; exact ⟨o, s a o e, q⟩
    · exact h3 a h n
  keep := fun a o h n n2 => s a o (F.keep a o h n n2)
  tb := fun p h => let ⟨z1, z2, z3⟩ := F.tb p h; ⟨h1 _ z1, z2, z3.ext s⟩
  iv := g.ivM ⟨F.al, fun a o q _ _ => s a o q, h2⟩ F.iv
theorem FR.tbA {g : GC} {f : Fx} {A : Addr → Prop} {H : Hp} {σ : Sv} {e : Ev} (F : FR g f A H σ e) : ∀ p ∈ g.T, A p.1 ∧ LamX.TabS H p.1 p.2 := fun p h => ⟨(F.tb p h).1, (F.tb p h).2.2⟩
theorem FR.nT {g : GC} {f : Fx} {A : Addr → Prop} {H : Hp} {σ : Sv} {e : Ev} (F : FR g f A H σ e) {a : Addr} (n : ¬ A a) : ∀ q, (a, q) ∉ g.T := fun q m => n (F.tb _ m).1
theorem FR.nB {g : GC} {f : Fx} {A : Addr → Prop} {H : Hp} {σ : Sv} {e : Ev} (F : FR g f A H σ e) {a : Addr} {o : HO} (h : H a = some o) (n : ∀ ps, o ≠ .tbl ps) : ∀ q, (a, q) ∉ g.T := fun q m => by
  obtain ⟨ps, h1, _⟩ := (F.tb _ m).2.2
  rw [h] at h1; exact n ps (Option.some.inj h1)
theorem FR.sameT {g : GC} {f : Fx} {A : Addr → Prop} {H H' : Hp} {σ : Sv} {e : Ev} (F : FR g f A H σ e) (s : ∀ a o, H a = some o → (∀ q, (a, q) ∉ g.T) → H' a = some o) (t : ∀ p ∈ g.T, LamX.TabS H' p.1 p.2) : FR g f A H' σ e ∧ Step A H H' := by
  have m : Mono A H A H' := ⟨F.al, fun a o h n => s a o h (F.nT n), fun _ _ h _ => h⟩
  have un : ∀ a o, H a = some o → ∃ o', H' a = some o' := fun a o h => by
    by_cases c : ∃ q, (a, q) ∈ g.T
    · obtain ⟨q, hq⟩ := c
      obtain ⟨ps, h1, _⟩ := t _ hq
      exact ⟨_, h1⟩
    · exact ⟨o, s a o h fun q z => c ⟨q, z⟩⟩
  refine ⟨⟨F.len, fun i sl o h h' => ?_, F.inj, F.nt, fun a o h => ⟨(F.tp a o h).1, s a o (F.tp a o h).2 fun q hq => ?_⟩, F.ob, F.ob0, F.pb, fun a h => ?_, fun a o h n n2 => s a o (F.keep a o h n n2) n2, fun p h => ⟨(F.tb p h).1, (F.tb p h).2.1, t p h⟩, g.ivM m.w F.iv⟩, ⟨m.st, un⟩⟩
  · have q := F.sl i sl o h h'
    cases sl with
    | emp => exact q
    | val d => obtain ⟨q0, v, q1, q2⟩ := q; exact ⟨q0, v, q1, R.mono m d q2⟩
    | box d => obtain ⟨q0, p, q1, q2, q3, q4⟩ := q; exact ⟨q0, p, q1, q2, q3, Bx.mono m (fun o z => s p o z (F.nB z fun ps y => Bx.no q4 z (by rw [y]; rfl))) q4⟩
    | pbox d => obtain ⟨p, q1, q2, q3, q4⟩ := q; exact ⟨p, q1, q2, q3, Bx.mono m (fun o z => s p o z (F.nB z fun ps y => Bx.no q4 z (by rw [y]; rfl))) q4⟩
  · obtain ⟨z1, z2, ps, z3, _⟩ := F.tb _ hq
    have h2 := (F.tp a o h).2
    rw [h2] at z3; cases z3
    exact z2 ps h
  · obtain ⟨o, h1, h2⟩ := F.al a h
    by_cases c : ∃ q, (a, q) ∈ g.T
    · obtain ⟨q, hq⟩ := c
      obtain ⟨ps, h3, _⟩ := t _ hq
      exact ⟨_, h3, rfl⟩
    · exact ⟨o, s a o h1 fun q z => c ⟨q, z⟩, h2⟩
theorem FR.same {g : GC} {f : Fx} {A : Addr → Prop} {H H' : Hp} {σ : Sv} {e : Ev} (F : FR g f A H σ e) (s : Same H H') : FR g f A H' σ e := F.ext s (fun _ h => h) (fun _ _ h _ => h) (fun a h n => absurd h n)
abbrev add1 (A : Addr → Prop) (p : Addr) : Addr → Prop := fun a => A a ∨ a = p
theorem FR.nA {g : GC} {f : Fx} {A : Addr → Prop} {H : Hp} {σ : Sv} {e : Ev} (F : FR g f A H σ e) {p : Addr} (h : H p = none) : ¬ A p := fun z => by
  obtain ⟨o, q, _⟩ := F.al p z
  rw [h] at q; cases q
theorem FR.new {g : GC} {f : Fx} {A : Addr → Prop} {H : Hp} {σ : Sv} {e : Ev} (F : FR g f A H σ e) {p : Addr} {xs : List V} (h : H p = none) : FR g f (add1 A p) (upd H p (.lst xs)) σ e :=
  F.ext (Same.new h) (fun _ z => .inl z) (fun a o z q => z.elim id fun z => by rw [z, h] at q; cases q) (fun a z n => z.elim (fun z => absurd z n) fun z => ⟨.lst xs, by rw [z]; exact upd_same, rfl⟩)
theorem Mono.new {g : GC} {f : Fx} {A : Addr → Prop} {H : Hp} {σ : Sv} {e : Ev} (F : FR g f A H σ e) {p : Addr} {o : HO} (h : H p = none) : Mono A H (add1 A p) (upd H p o) :=
  ⟨F.al, fun a u q _ => Same.new h a u q, fun a u z q => z.elim id fun z => by rw [z, h] at q; cases q⟩
inductive Rs (α : Type) where
  | ok (a : α) (e : Ev)
  | exc (c : Nat) (d : D) (e : Ev)
  | bad
abbrev M (α : Type) := Ev → Rs α
def mp {α : Type} (a : α) : M α := fun e => .ok a e
def mb {α β : Type} (m : M α) (k : α → M β) : M β := fun e => match m e with
  | .ok a e' => k a e'
  | .exc c d e' => .exc c d e'
  | .bad => .bad
def mo {α : Type} : Option α → M α
  | some a => fun e => .ok a e
  | none => fun _ => .bad
abbrev WK := Value → Option Addr → Sv → Hp → Prop
def ExR (g : GC) (A : Addr → Prop) (H : Hp) (c : Nat) (d : D) (cls : Value) (dd : Option Addr) : Prop := cls = .ref (g.ca c) ∧
  match g.cf c with
  | [] => dd = none
  | x :: _ => ∃ a v, dd = some a ∧ H a = some (.xd [(x, v)]) ∧ R g A H d v
def Fin {β : Type} (g : GC) (W : WK) (f : Fx) (A : Addr → Prop) (σ : Sv) (H : Hp) (ok : β → Ev → Prop) : Rs β → Prop
  | .ok b e' => ok b e'
  | .exc c d e' => ∀ cls dd H', FR g f A H' σ e' → Step A H H' → ExR g A H' c d cls dd → W cls dd σ H'
  | .bad => False
def rdE (g : GC) (W : WK) (m : M D) : TE := fun σ H Q => ∃ f A e, FR g f A H σ e ∧ Fin g W f A σ H (fun d e' => ∀ v H', FR g f A H' σ e' → Step A H H' → R g A H' d v → Q v H') (m e)
def rdT (g : GC) (W : WK) (m : M Bool) : TT := fun σ H Q => ∃ f A e, FR g f A H σ e ∧ Fin g W f A σ H (fun d e' => ∀ H', FR g f A H' σ e' → Step A H H' → Q d H') (m e)
def rdA (g : GC) (W : WK) (m : M (List D)) : TA := fun σ H Q => ∃ f A e, FR g f A H σ e ∧ Fin g W f A σ H (fun d e' => ∀ v H', FR g f A H' σ e' → Step A H H' → RL g A H' d v → Q v H') (m e)
def rdF (g : GC) (W : WK) (m : M (List D)) : TE := fun σ H Q => ∃ f A e, FR g f A H σ e ∧
  Fin g W f A σ H (fun ds e' => ∀ p xs H', FR g f A H' σ e' → FR g f (add1 A p) H' σ e' → ¬ A p → Step A H H' → H p = none → H' p = some (.lst xs) → RL g (add1 A p) H' ds xs → Q (.ref p) H') (m e)
inductive Fl where
  | nx | rt (d : D) | rb (ds : List D) | bk | ct
def EndF (g : GC) (f : Fx) (A : Addr → Prop) (H : Hp) (D : Ends) (e' : Ev) : Fl → Prop
  | .nx => ∀ A' σ' H', FR g f A' H' σ' e' → Mono A H A' H' → D.nx σ' H'
  | .bk => ∀ A' σ' H', FR g f A' H' σ' e' → Mono A H A' H' → D.bk σ' H'
  | .ct => ∀ A' σ' H', FR g f A' H' σ' e' → Mono A H A' H' → D.ct σ' H'
  | .rt d => ∀ A' σ' H' v, FR g f A' H' σ' e' → Mono A H A' H' → R g A' H' d v → D.rt v H'
  | .rb ds => ∀ A' σ' H' p xs, FR g f A' H' σ' e' → Mono A H A' H' → A' p → f.H0 p = none → (∀ (i : Nat) s, e'[i]? = some s → s.isBox = true → σ'[i]? ≠ some (some (.ref p))) → H' p = some (.lst xs) → RL g A' H' ds xs → D.rt (.ref p) H'
def FinS (g : GC) (W : WK) (f : Fx) (A : Addr → Prop) (H : Hp) (D : Ends) : Rs Fl → Prop
  | .ok b e' => EndF g f A H D e' b
  | .exc c d e' => ∀ A' σ' cls dd H', FR g f A' H' σ' e' → Mono A H A' H' → ExR g A' H' c d cls dd → W cls dd σ' H'
  | .bad => False
def rdS (g : GC) (W : WK) (m : M Fl) : TS := fun D σ H => ∃ f A e, FR g f A H σ e ∧ FinS g W f A H D (m e)
theorem Mono.trans {A A1 A2 : Addr → Prop} {H H1 H2 : Hp} (m : Mono A H A1 H1) (n : Mono A1 H1 A2 H2) : Mono A H A2 H2 :=
  ⟨m.al, fun a o h z => n.st a o (m.st a o h z) fun q => z (m.av a o q h), fun a o q h => Classical.byContradiction fun z => z (m.av a o (n.av a o q (m.st a o h z)) h)⟩
theorem Mono.refl {A : Addr → Prop} {H : Hp} (al : ∀ a, A a → ∃ o, H a = some o ∧ isMut o = true) : Mono A H A H := ⟨al, fun _ _ h _ => h, fun _ _ h _ => h⟩
theorem FinS.from {g : GC} {W : WK} {f : Fx} {A A1 : Addr → Prop} {H H1 : Hp} {D : Ends} {r : Rs Fl} (h : FinS g W f A H D r) (m : Mono A H A1 H1) : FinS g W f A1 H1 D r := by
  cases r with
  | ok b e' =>
    cases b with
    | nx => exact fun A' σ' H' F n => h A' σ' H' F (m.trans n)
    | bk => exact fun A' σ' H' F n => h A' σ' H' F (m.trans n)
    | ct => exact fun A' σ' H' F n => h A' σ' H' F (m.trans n)
    | rt d => exact fun A' σ' H' v F n => h A' σ' H' v F (m.trans n)
    | rb d => exact fun A' σ' H' p xs F n => h A' σ' H' p xs F (m.trans n)
  | exc c d e' => exact fun A' σ' cls dd H' F n => h A' σ' cls dd H' F (m.trans n)
  | bad => exact h
abbrev CE (g : GC) (X : Cx) (W : WK) (e : Expr) (m : M D) : Prop := PE X e (rdE g W m)
abbrev CT (g : GC) (X : Cx) (W : WK) (e : Expr) (m : M Bool) : Prop := PT X e (rdT g W m)
abbrev CA (g : GC) (X : Cx) (W : WK) (e : List Expr) (m : M (List D)) : Prop := PA X e (rdA g W m)
abbrev CF (g : GC) (X : Cx) (W : WK) (e : Expr) (m : M (List D)) : Prop := PE X e (rdF g W m)
abbrev CS (g : GC) (X : Cx) (W : WK) (s : Stmt) (m : M Fl) : Prop := PS X s (rdS g W m)
abbrev CB (g : GC) (X : Cx) (W : WK) (s : List Stmt) (m : M Fl) : Prop := PSs X s (rdS g W m)
theorem PE.imp {X : Cx} {e : Expr} {t u : TE} (h : PE X e t) (i : ∀ σ H Q, u σ H Q → t σ H Q) : PE X e u := ⟨fun pins s σ H Q I q => h.run pins s σ H Q I (i _ _ _ q)⟩
theorem PT.imp {X : Cx} {e : Expr} {t u : TT} (h : PT X e t) (i : ∀ σ H Q, u σ H Q → t σ H Q) : PT X e u := ⟨fun pins s σ H Q I q => h.run pins s σ H Q I (i _ _ _ q)⟩
theorem PA.imp {X : Cx} {e : List Expr} {t u : TA} (h : PA X e t) (i : ∀ σ H Q, u σ H Q → t σ H Q) : PA X e u := ⟨fun pos pins s σ H Q I q => h.run pos pins s σ H Q I (i _ _ _ q)⟩
theorem PS.imp {X : Cx} {e : Stmt} {t u : TS} (h : PS X e t) (i : ∀ D σ H, u D σ H → t D σ H) : PS X e u := ⟨fun pins s σ H D I q => h.run pins s σ H D I (i _ _ _ q)⟩
theorem PSs.imp {X : Cx} {e : List Stmt} {t u : TS} (h : PSs X e t) (i : ∀ D σ H, u D σ H → t D σ H) : PSs X e u := ⟨fun pins s σ H D I q => h.run pins s σ H D I (i _ _ _ q)⟩
section
variable {g : GC} {W : WK} {f : Fx} {A : Addr → Prop} {σ : Sv} {H H1 : Hp} {e : Ev} {β : Type} {ok : β → Ev → Prop}
theorem Fin.from {r : Rs β} (h : Fin g W f A σ H ok r) (s : Step A H H1) : Fin g W f A σ H1 ok r := by
  cases r with
  | ok b e' => exact h
  | exc c d e' => exact fun cls dd H' F S x => h cls dd H' F (s.trans S) x
  | bad => exact h
theorem Fin.bE {ma : M D} {k : D → M β} (h : Fin g W f A σ H ok (mb ma k e)) (F : FR g f A H σ e) {G : VK}
    (go : ∀ d e1 v H1, FR g f A H1 σ e1 → Step A H H1 → R g A H1 d v → Fin g W f A σ H1 ok (k d e1) → G v H1) : rdE g W ma σ H G := by
  refine ⟨f, A, e, F, ?_⟩
  unfold mb at h
  cases q : ma e with
  | ok d e1 => rw [q] at h; exact fun v H1 F1 S1 r => go d e1 v H1 F1 S1 r (h.from S1)
  | exc c d e1 => rw [q] at h; exact h
  | bad => rw [q] at h; exact h
theorem Fin.bT {ma : M Bool} {k : Bool → M β} (h : Fin g W f A σ H ok (mb ma k e)) (F : FR g f A H σ e) {G : Bool → Hp → Prop}
    (go : ∀ d e1 H1, FR g f A H1 σ e1 → Step A H H1 → Fin g W f A σ H1 ok (k d e1) → G d H1) : rdT g W ma σ H G := by
  refine ⟨f, A, e, F, ?_⟩
  unfold mb at h
  cases q : ma e with
  | ok d e1 => rw [q] at h; exact fun H1 F1 S1 => go d e1 H1 F1 S1 (h.from S1)
  | exc c d e1 => rw [q] at h; exact h
  | bad => rw [q] at h; exact h
theorem Fin.bA {ma : M (List D)} {k : List D → M β} (h : Fin g W f A σ H ok (mb ma k e)) (F : FR g f A H σ e) {G : List V → Hp → Prop}
    (go : ∀ d e1 v H1, FR g f A H1 σ e1 → Step A H H1 → RL g A H1 d v → Fin g W f A σ H1 ok (k d e1) → G v H1) : rdA g W ma σ H G := by
  refine ⟨f, A, e, F, ?_⟩
  unfold mb at h
  cases q : ma e with
  | ok d e1 => rw [q] at h; exact fun v H1 F1 S1 r => go d e1 v H1 F1 S1 r (h.from S1)
  | exc c d e1 => rw [q] at h; exact h
  | bad => rw [q] at h; exact h
theorem Fin.bF {ma : M (List D)} {k : List D → M β} (h : Fin g W f A σ H ok (mb ma k e)) (F : FR g f A H σ e) {G : VK}
    (go : ∀ ds e1 p xs H1, FR g f A H1 σ e1 → FR g f (add1 A p) H1 σ e1 → ¬ A p → Step A H H1 → H p = none → H1 p = some (.lst xs) → RL g (add1 A p) H1 ds xs → Fin g W f A σ H1 ok (k ds e1) → G (.ref p) H1) : rdF g W ma σ H G := by
  refine ⟨f, A, e, F, ?_⟩
  unfold mb at h
  cases q : ma e with
  | ok d e1 => rw [q] at h; exact fun p xs H1 F1 F2 n S1 a b r => go d e1 p xs H1 F1 F2 n S1 a b r (h.from S1)
  | exc c d e1 => rw [q] at h; exact h
  | bad => rw [q] at h; exact h
theorem FinS.bE {E : Ends} {ma : M D} {k : D → M Fl} (h : FinS g W f A H E (mb ma k e)) (F : FR g f A H σ e) {G : VK}
    (go : ∀ d e1 v H1, FR g f A H1 σ e1 → Step A H H1 → R g A H1 d v → FinS g W f A H1 E (k d e1) → G v H1) : rdE g W ma σ H G := by
  refine ⟨f, A, e, F, ?_⟩
  unfold mb at h
  cases q : ma e with
  | ok d e1 => rw [q] at h; exact fun v H1 F1 S1 r => go d e1 v H1 F1 S1 r (h.from (F.mono S1))
  | exc c d e1 => rw [q] at h; exact fun cls dd H' F' S x => h _ _ cls dd H' F' (F.mono S) x
  | bad => rw [q] at h; exact h
theorem FinS.bT {E : Ends} {ma : M Bool} {k : Bool → M Fl} (h : FinS g W f A H E (mb ma k e)) (F : FR g f A H σ e) {G : Bool → Hp → Prop}
    (go : ∀ d e1 H1, FR g f A H1 σ e1 → Step A H H1 → FinS g W f A H1 E (k d e1) → G d H1) : rdT g W ma σ H G := by
  refine ⟨f, A, e, F, ?_⟩
  unfold mb at h
  cases q : ma e with
  | ok d e1 => rw [q] at h; exact fun H1 F1 S1 => go d e1 H1 F1 S1 (h.from (F.mono S1))
  | exc c d e1 => rw [q] at h; exact fun cls dd H' F' S x => h _ _ cls dd H' F' (F.mono S) x
  | bad => rw [q] at h; exact h
theorem FinS.bA {E : Ends} {ma : M (List D)} {k : List D → M Fl} (h : FinS g W f A H E (mb ma k e)) (F : FR g f A H σ e) {G : List V → Hp → Prop}
    (go : ∀ d e1 v H1, FR g f A H1 σ e1 → Step A H H1 → RL g A H1 d v → FinS g W f A H1 E (k d e1) → G v H1) : rdA g W ma σ H G := by
  refine ⟨f, A, e, F, ?_⟩
  unfold mb at h
  cases q : ma e with
  | ok d e1 => rw [q] at h; exact fun v H1 F1 S1 r => go d e1 v H1 F1 S1 r (h.from (F.mono S1))
  | exc c d e1 => rw [q] at h; exact fun cls dd H' F' S x => h _ _ cls dd H' F' (F.mono S) x
  | bad => rw [q] at h; exact h
theorem FinS.bF {E : Ends} {ma : M (List D)} {k : List D → M Fl} (h : FinS g W f A H E (mb ma k e)) (F : FR g f A H σ e) {G : VK}
    (go : ∀ ds e1 p xs H1, FR g f A H1 σ e1 → FR g f (add1 A p) H1 σ e1 → ¬ A p → Step A H H1 → H p = none → H1 p = some (.lst xs) → RL g (add1 A p) H1 ds xs → FinS g W f A H E (k ds e1) → G (.ref p) H1) : rdF g W ma σ H G := by
  refine ⟨f, A, e, F, ?_⟩
  unfold mb at h
  cases q : ma e with
  | ok d e1 => rw [q] at h; exact fun p xs H1 F1 F2 n S1 a b r => go d e1 p xs H1 F1 F2 n S1 a b r h
  | exc c d e1 => rw [q] at h; exact fun cls dd H' F' S x => h _ _ cls dd H' F' (F.mono S) x
  | bad => rw [q] at h; exact h
theorem Fin.mo {o : Option β} (h : Fin g W f A σ H ok (mo o e)) : ∃ b, o = some b ∧ ok b e := by
  cases o with
  | none => exact h.elim
  | some b => exact ⟨b, rfl, h⟩
theorem FinS.mo {E : Ends} {α : Type} {o : Option α} {k : α → M Fl} (h : FinS g W f A H E (mb (Fw.mo o) k e)) : ∃ b, o = some b ∧ FinS g W f A H E (k b e) := by
  cases o with
  | none => exact h.elim
  | some b => exact ⟨b, rfl, h⟩
theorem Fin.mo2 {α : Type} {o : Option α} {k : α → M β} (h : Fin g W f A σ H ok (mb (Fw.mo o) k e)) : ∃ b, o = some b ∧ Fin g W f A σ H ok (k b e) := by
  cases o with
  | none => exact h.elim
  | some b => exact ⟨b, rfl, h⟩
end
end Fw
namespace Fw
open L2 PyProof.Rows PySem PySem.Spec
theorem FR.at {g : GC} {f : Fx} {A : Addr → Prop} {H : Hp} {σ : Sv} {e : Ev} (F : FR g f A H σ e) {i : Nat} {s : Sl} (h : e[i]? = some s) : ∃ o, σ[i]? = some o ∧ SlRel g f A H i o s := by
  have hi : i < σ.length := by rw [F.len]; exact (List.getElem?_eq_some_iff.mp h).1
  exact ⟨σ[i], List.getElem?_eq_getElem hi, F.sl i s _ h (List.getElem?_eq_getElem hi)⟩
def mVar (i : Nat) : M D := fun e => match e[i]? with
  | some (.val d) => .ok d e
  | _ => .bad
def mC (d : D) : M D := fun e => .ok d e
section
variable {g : GC} {X : Cx} {W : WK}
theorem c_var (i : Nat) {x : Str} {pos : Pos} (h : PE X (.Name x pos) (tVar i)) : CE g X W (.Name x pos) (mVar i) := PE.imp h fun σ H Q ⟨f, A, e, F, h⟩ => by
  unfold mVar at h
  split at h
  · rename_i d q
    obtain ⟨o, h1, _, v, h2, h3⟩ := F.at q
    exact ⟨v, by rw [h1, h2], h v H F .refl h3⟩
  · exact h.elim
theorem c_con {ex : Expr} {v : V} {d : D} (h : PE X ex (tC v)) (r : ∀ A H, R g A H d v) : CE g X W ex (mC d) := PE.imp h fun σ H Q ⟨f, A, e, F, h⟩ => h v H F .refl (r A H)
theorem c_int {i : Int} {j pos} : CE g X W (.Constant (.int i) j pos) (mC (.int i)) := c_con pe_int fun _ _ => rfl
theorem c_bl {i : Bool} {j pos} : CE g X W (.Constant (.bool i) j pos) (mC (.bl i)) := c_con pe_bl fun _ _ => rfl
theorem c_non {j pos} : CE g X W (.Constant .none j pos) (mC .non) := c_con pe_non fun _ _ => rfl
theorem c_str {i : Str} {j pos} : CE g X W (.Constant (.str i) j pos) (mC (.str i)) := c_con pe_str fun _ _ => rfl
end
def Rt (g : GC) (A : Addr → Prop) (H : Hp) : D → V → Prop
  | .lst ds, v => ∃ a xs, v = .ref a ∧ H a = some (.lst xs) ∧ RL g A H ds xs
  | .dct ks ds, v => ∃ a xs, v = .ref a ∧ Rd H a (.dK (ks.zip xs)) ∧ ks.length = xs.length ∧ RL g A H ds xs
  | .dtt ks ds, v => ∃ a xs, v = .ref a ∧ Rd H a (.dT (ks.zip xs)) ∧ ks.length = xs.length ∧ RL g A H ds xs
  | .obj c ds, v => ∃ a dx xs, v = .ref a ∧ H a = some (.ins (g.ca c) dx ((g.cf c).zip xs)) ∧ (g.cf c).length = xs.length ∧ RL g A H ds xs
  | d, v => R g A H d v
theorem R.rt {g : GC} {A : Addr → Prop} {H : Hp} : ∀ {d : D} {v : V}, R g A H d v → Rt g A H d v
  | .lst ds, _, ⟨a, xs, e, h, _, r⟩ => ⟨a, xs, e, h, r⟩
  | .non, _, r => r
  | .bl _, _, r => r
  | .int _, _, r => r
  | .str _, _, r => r
  | .ty _, _, r => r
  | .tup _, _, r => r
  | .obj c ds, _, ⟨a, dx, xs, e, h, _, hl, r⟩ => ⟨a, dx, xs, e, h, hl, r⟩
  | .scr _, _, r => r
  | .mrk, _, r => r
  | .ktu _, _, r => r
  | .dct ks ds, _, ⟨a, o, xs, e, h, hl, r⟩ => ⟨a, xs, e, .inr ⟨o, h⟩, hl, r⟩
  | .dtt ks ds, _, ⟨a, o, xs, e, h, hl, r⟩ => ⟨a, xs, e, .inr ⟨o, h⟩, hl, r⟩
  | .exn _ _, _, r => r
def RtL (g : GC) (A : Addr → Prop) (H : Hp) : List D → List V → Prop
  | [], xs => xs = []
  | d :: ds, xs => ∃ y ys, xs = y :: ys ∧ Rt g A H d y ∧ RtL g A H ds ys
abbrev Al (A : Addr → Prop) (H : Hp) : Prop := ∀ a, A a → ∃ o, H a = some o ∧ isMut o = true
def OS (g : GC) (r : R2) (op : D → D → Option D) : Prop := ∀ A H d1 d2 d v1 v2 Q, Al A H → Rt g A H d1 v1 → Rt g A H d2 v2 → op d1 d2 = some d → (∀ v H', Same H H' → R g A H' d v → Q v H') → r v1 v2 H Q
def US (g : GC) (r : V → Hp → VK → Prop) (op : D → Option D) : Prop := ∀ A H d1 d v1 Q, Al A H → Rt g A H d1 v1 → op d1 = some d → (∀ v H', Same H H' → R g A H' d v → Q v H') → r v1 H Q
def LS (g : GC) (r : List V → Hp → VK → Prop) (op : List D → Option D) : Prop := ∀ A H ds d vs Q, Al A H → RtL g A H ds vs → op ds = some d → (∀ v H', Same H H' → R g A H' d v → Q v H') → r vs H Q
def FS (g : GC) (r : List V → Hp → VK → Prop) (op : List D → Option (List D)) : Prop := ∀ A H ds es vs Q, Al A H → RtL g A H ds vs → op ds = some es → (∀ p xs H', H p = none → Same H H' → (∀ b o, b ≠ p → H' b = some o → H b = some o) → H' p = some (.lst xs) → RL g A H es xs → Q (.ref p) H') → r vs H Q
def FS2 (g : GC) (r : R2) (op : D → D → Option (List D)) : Prop := ∀ A H d1 d2 es v1 v2 Q, Al A H → Rt g A H d1 v1 → Rt g A H d2 v2 → op d1 d2 = some es → (∀ p xs, H p = none → RL g A H es xs → Q (.ref p) (upd H p (.lst xs))) → r v1 v2 H Q
inductive Od where
  | e (m : M D) | n (i : Nat)
def Sl.dat : Sl → Option D
  | .val d => some d
  | .box d => some d
  | .pbox d => some d
  | .emp => none
def mN (i : Nat) : M D := fun e => match e[i]? with
  | some s => (match s.dat with
    | some d => .ok d e
    | none => .bad)
  | none => .bad
def rdO (g : GC) (W : WK) : Od → TE
  | .e m => rdE g W m
  | .n i => tVar i
abbrev CO (g : GC) (X : Cx) (W : WK) (e : Expr) (o : Od) : Prop := PE X e (rdO g W o)
theorem FR.rt {g : GC} {f : Fx} {A : Addr → Prop} {H : Hp} {σ : Sv} {e : Ev} (F : FR g f A H σ e) {i : Nat} {s : Sl} {d : D} (h : e[i]? = some s) (q : s.dat = some d) : ∃ v, σ[i]? = some (some v) ∧ Rt g A H d v := by
  obtain ⟨o, h1, h2⟩ := F.at h
  cases s with
  | emp => cases q
  | val d' => cases q; obtain ⟨_, v, e1, r⟩ := h2; exact ⟨v, by rw [h1, e1], r.rt⟩
  | box d' =>
    cases q; obtain ⟨_, p, e1, _, _, r⟩ := h2
    cases d with
    | lst ds => obtain ⟨xs, h3, r⟩ := r; exact ⟨_, by rw [h1, e1], p, xs, rfl, h3, r⟩
    | dct ks ds => obtain ⟨xs, h3, hl, r⟩ := r; exact ⟨_, by rw [h1, e1], p, xs, rfl, .inl h3, hl, r⟩
    | dtt ks ds => obtain ⟨xs, h3, hl, r⟩ := r; exact ⟨_, by rw [h1, e1], p, xs, rfl, .inl h3, hl, r⟩
    | obj c ds => obtain ⟨dx, xs, h3, hl, r⟩ := r; exact ⟨_, by rw [h1, e1], p, dx, xs, rfl, h3, hl, r⟩
    | _ => exact r.elim
  | pbox d' =>
    cases q; obtain ⟨p, _, e1, _, r⟩ := h2
    cases d with
    | lst ds => obtain ⟨xs, h3, r⟩ := r; exact ⟨_, by rw [h1, e1], p, xs, rfl, h3, r⟩
    | dct ks ds => obtain ⟨xs, h3, hl, r⟩ := r; exact ⟨_, by rw [h1, e1], p, xs, rfl, .inl h3, hl, r⟩
    | dtt ks ds => obtain ⟨xs, h3, hl, r⟩ := r; exact ⟨_, by rw [h1, e1], p, xs, rfl, .inl h3, hl, r⟩
    | obj c ds => obtain ⟨dx, xs, h3, hl, r⟩ := r; exact ⟨_, by rw [h1, e1], p, dx, xs, rfl, h3, hl, r⟩
    | _ => exact r.elim
theorem Fin.bN {g : GC} {W : WK} {f : Fx} {A : Addr → Prop} {σ : Sv} {H : Hp} {e : Ev} {β : Type} {ok : β → Ev → Prop} {i : Nat} {k : D → M β} (h : Fin g W f A σ H ok (mb (mN i) k e)) (F : FR g f A H σ e) : ∃ d v, σ[i]? = some (some v) ∧ Rt g A H d v ∧ Fin g W f A σ H ok (k d e) := by
  unfold mb mN at h
  cases q : e[i]? with
  | none => rw [q] at h; exact h.elim
  | some s =>
    rw [q] at h
    cases q2 : s.dat with
    | none => simp only [q2] at h; exact h.elim
    | some d =>
      simp only [q2] at h
      obtain ⟨v, h1, h2⟩ := F.rt q q2
      exact ⟨d, v, h1, h2, h⟩
def mO2 {β : Type} (a b : Od) (k : D → D → M β) : M β := match a, b with
  | .e m, .e m' => mb m fun x => mb m' fun y => k x y
  | .e m, .n j => mb m fun x => mb (mN j) fun y => k x y
  | .n i, .e m' => mb (mN i) fun _ => mb m' fun y => mb (mN i) fun x => k x y
  | .n i, .n j => mb (mN i) fun x => mb (mN j) fun y => k x y
theorem Fin.b2 {g : GC} {W : WK} {f : Fx} {A : Addr → Prop} {σ : Sv} {H : Hp} {e : Ev} {β : Type} {ok : β → Ev → Prop} {a b : Od} {k : D → D → M β} (h : Fin g W f A σ H ok (mO2 a b k e)) (F : FR g f A H σ e) {G : V → V → Hp → Prop}
    (go : ∀ d1 d2 e1 v1 v2 H1, FR g f A H1 σ e1 → Step A H H1 → Rt g A H1 d1 v1 → Rt g A H1 d2 v2 → Fin g W f A σ H1 ok (k d1 d2 e1) → G v1 v2 H1) : rdO g W a σ H fun x H1 => rdO g W b σ H1 fun y H2 => G x y H2 := by
  cases a with
  | e m =>
    cases b with
    | e m' =>
      refine Fin.bE h F fun d1 e1 v1 H1 F1 S1 R1 h1 => ?_
      refine Fin.bE h1 F1 fun d2 e2 v2 H2 F2 S2 R2 h2 => ?_
      exact go d1 d2 e2 v1 v2 H2 F2 (S1.trans S2) (F1.r S2 R1).rt R2.rt h2
    | n j =>
      refine Fin.bE h F fun d1 e1 v1 H1 F1 S1 R1 h1 => ?_
      obtain ⟨d2, v2, q, R2, h2⟩ := Fin.bN h1 F1
      exact ⟨v2, q, go d1 d2 e1 v1 v2 H1 F1 S1 R1.rt R2 h2⟩
  | n i =>
    cases b with
    | e m' =>
      obtain ⟨_, v1, hv, _, h⟩ := Fin.bN h F
      refine ⟨v1, hv, ?_⟩
      refine Fin.bE h F fun d2 e2 v2 H2 F2 S2 R2 h2 => ?_
      obtain ⟨d1, v1', q, R1, h3⟩ := Fin.bN h2 F2
      rw [hv] at q; cases q
      exact go d1 d2 e2 v1 v2 H2 F2 S2 R1 R2.rt h3
    | n j =>
      obtain ⟨d1, v1, q1, R1, h1⟩ := Fin.bN h F
      obtain ⟨d2, v2, q2, R2, h2⟩ := Fin.bN h1 F
      exact ⟨v1, q1, v2, q2, go d1 d2 e v1 v2 H F .refl R1 R2 h2⟩
def mOp (op : D → D → Option D) (a b : Od) : M D := mO2 a b fun x y => mo (op x y)
def mOpF (op : D → D → Option (List D)) (a b : Od) : M (List D) := mO2 a b fun x y => mo (op x y)
def mO1 {β : Type} (a : Od) (k : D → M β) : M β := match a with
  | .e m => mb m k
  | .n i => mb (mN i) k
def mUn (op : D → Option D) (a : Od) : M D := mO1 a fun x => mo (op x)
section
variable {g : GC} {X : Cx} {W : WK}
theorem co_e {a : Expr} {m : M D} (h : CE g X W a m) : CO g X W a (.e m) := h
theorem co_n (i : Nat) {x : Str} {pos : Pos} (h : PE X (.Name x pos) (tVar i)) : CO g X W (.Name x pos) (.n i) := h
theorem Fin.b1 {f : Fx} {A : Addr → Prop} {σ : Sv} {H : Hp} {e : Ev} {β : Type} {ok : β → Ev → Prop} {a : Od} {k : D → M β} (h : Fin g W f A σ H ok (mO1 a k e)) (F : FR g f A H σ e) {G : V → Hp → Prop}
    (go : ∀ d1 e1 v1 H1, FR g f A H1 σ e1 → Step A H H1 → Rt g A H1 d1 v1 → Fin g W f A σ H1 ok (k d1 e1) → G v1 H1) : rdO g W a σ H G := by
  cases a with
  | e m => exact Fin.bE h F fun d1 e1 v1 H1 F1 S1 R1 h1 => go d1 e1 v1 H1 F1 S1 R1.rt h1
  | n i =>
    obtain ⟨d1, v1, hv, r, h⟩ := Fin.bN h F
    exact ⟨v1, hv, go d1 e v1 H F .refl r h⟩
theorem t_op {r : R2} {op : D → D → Option D} {a b : Od} (ho : OS g r op) : ∀ σ H Q, rdE g W (mOp op a b) σ H Q → tOp r (rdO g W a) (rdO g W b) σ H Q := fun σ H Q ⟨f, A, e, F, h⟩ =>
  Fin.b2 h F fun d1 d2 e2 v1 v2 H2 F2 S2 R1 R2 h2 => by
    obtain ⟨d, q, h3⟩ := Fin.mo h2
    exact ho A H2 d1 d2 d v1 v2 Q F2.al R1 R2 q fun v H3 s r => h3 v H3 (F2.same s) (S2.trans (.of s)) r
theorem t_opF {r : R2} {op : D → D → Option (List D)} {a b : Od} (ho : FS2 g r op) : ∀ σ H Q, rdF g W (mOpF op a b) σ H Q → tOp r (rdO g W a) (rdO g W b) σ H Q := fun σ H Q ⟨f, A, e, F, h⟩ =>
  Fin.b2 h F fun d1 d2 e2 v1 v2 H2 F2 S2 R1 R2 h2 => by
    obtain ⟨d, q, h3⟩ := Fin.mo h2
    exact ho A H2 d1 d2 d v1 v2 Q F2.al R1 R2 q fun p xs hp r => h3 p xs _ (F2.same (Same.new hp)) (F2.new hp) (F2.nA hp) (S2.trans (.of (Same.new hp))) (by
      cases z : H p with
      | none => rfl
      | some o => obtain ⟨o', q⟩ := S2.un p o z; rw [hp] at q; cases q) upd_same (RL.mono (Mono.new F2 hp) d r)
theorem c_op {op : Operator} {r : R2} {a b : Expr} {ma mb' : Od} {o : D → D → Option D} {pos : Pos} (hr : OpR X (binaryOp op) r) (ho : OS g r o) (ha : CO g X W a ma) (hb : CO g X W b mb') : CE g X W (.BinOp a op b pos) (mOp o ma mb') :=
  PE.imp (pe_op hr ha hb) (t_op ho)
theorem cf_op {op : Operator} {r : R2} {a b : Expr} {ma mb' : Od} {o : D → D → Option (List D)} {pos : Pos} (hr : OpR X (binaryOp op) r) (ho : FS2 g r o) (ha : CO g X W a ma) (hb : CO g X W b mb') : CF g X W (.BinOp a op b pos) (mOpF o ma mb') :=
  PE.imp (pe_op hr ha hb) (t_opF ho)
theorem c_cmp {op : CmpOp} {r : R2} {a b : Expr} {ma mb' : Od} {o : D → D → Option D} {pos : Pos} (hr : OpR X (compareOp op) r) (ho : OS g r o) (ha : CO g X W a ma) (hb : CO g X W b mb') (hm : behindInMarks op b = false) : CE g X W (.Compare a [op] [b] pos) (mOp o ma mb') :=
  PE.imp (pe_cmpR hr ha hb hm) (t_op ho)
theorem c_un {op : UnaryOp} {r : V → Hp → VK → Prop} {a : Expr} {ma : Od} {o : D → Option D} {pos : Pos} (hr : UnR X (unaryOp op) r) (ho : US g r o) (ha : CO g X W a ma) : CE g X W (.UnaryOp op a pos) (mUn o ma) :=
  PE.imp (pe_un hr ha) fun σ H Q ⟨f, A, e, F, h⟩ => Fin.b1 h F fun d1 e1 v1 H1 F1 S1 R1 h1 => by
    obtain ⟨d, q, h3⟩ := Fin.mo h1
    exact ho A H1 d1 d v1 Q F1.al R1 q fun v H3 s r => h3 v H3 (F1.same s) (S1.trans (.of s)) r
def dB : D → Option Bool
  | .bl b => some b
  | _ => none
def mCmp (op : D → D → Option D) (a b : Od) : M Bool := mO2 a b fun x y => mo ((op x y).bind dB)
theorem ct_cmp {op : CmpOp} {r : R2} {a b : Expr} {ma mb' : Od} {o : D → D → Option D} {pos : Pos} (hr : OpR X (compareOp op) r) (ho : OS g r o) (ha : CO g X W a ma) (hb : CO g X W b mb') (hm : behindInMarks op b = false) : CT g X W (.Compare a [op] [b] pos) (mCmp o ma mb') :=
  PT.imp (pt_cmpR hr ha hb hm) fun σ H Q ⟨f, A, e, F, h⟩ => Fin.b2 h F fun d1 d2 e2 v1 v2 H2 F2 S2 R1 R2 h2 => by
    obtain ⟨b, q, h3⟩ := Fin.mo h2
    cases z : o d1 d2 with
    | none => rw [z] at q; cases q
    | some d =>
      rw [z] at q
      refine ho A H2 d1 d2 d v1 v2 _ F2.al R1 R2 z fun v H3 s r => ?_
      cases d with
      | bl c => cases q; exact ⟨_, r, h3 H3 (F2.same s) (S2.trans (.of s))⟩
      | _ => cases q
def mChain (o o' : D → D → Option D) (a b c : Od) : M D := mO2 a b fun x y => mb (mo ((o x y).bind dB)) fun k => if k = true then mO1 c fun z => mo (o' y z) else mp (.bl false)
end
theorem OpR.or {X : Cx} {f : Value → Value → Sem Value} {r r' : R2} (h : OpR X f r) (h' : OpR X f r') : OpR X f (fun x y H Q => r x y H Q ∨ r' x y H Q) := fun pins s σ H x y v u Q I rx ry q =>
  q.elim (h pins s σ H x y v u Q I rx ry) (h' pins s σ H x y v u Q I rx ry)
def dAdd : D → D → Option D
  | .int i, .int j => some (.int (i + j))
  | .str x, .str y => if x.length + y.length ≤ 1000000 then some (.str (x ++ y)) else none
  | .lst xs, .lst ys => if xs.length + ys.length ≤ 1000000 then some (.lst (xs ++ ys)) else none
  | .tup xs, .tup ys => if xs ≠ [] ∧ xs.length + ys.length ≤ 1000000 then some (.tup (xs ++ ys)) else none
  | _, _ => none
theorem million : (1000000 : Nat) ≤ sizeLine := by rw [sizeLine_eq]; decide
theorem Mono.same {A : Addr → Prop} {H H' : Hp} (al : Al A H) (s : Same H H') : Mono A H A H' := ⟨al, fun a o h _ => s a o h, fun _ _ h _ => h⟩
theorem Al.no {A : Addr → Prop} {H : Hp} (al : Al A H) {p : Addr} (h : H p = none) : ¬ A p := fun z => by
  obtain ⟨o, q, _⟩ := al p z
  rw [h] at q; cases q
theorem RL.nil_iff {g : GC} {A : Addr → Prop} {H : Hp} {ds : List D} {xs : List V} (r : RL g A H ds xs) : xs = [] ↔ ds = [] := by
  have := RL.length r
  constructor
  · intro h; rw [h] at this; exact List.eq_nil_of_length_eq_zero this.symm
  · intro h; rw [h] at this; exact List.eq_nil_of_length_eq_zero this
abbrev rAddAll (K : PySem.W.Frag) : R2 := fun x y H Q => (rI0 fun i j => V.int (i + j)) x y H Q ∨ ((∃ i j, x = .str i ∧ y = .str j ∧ i.length + j.length ≤ sizeLine ∧ Q (.str (i ++ j)) H) ∨ (rCat x y H Q ∨ rCatT K x y H Q))
theorem or_add {X : Cx} : OpR X (binaryOp .Add) (rAddAll X.K) := OpR.or op_add (OpR.or op_add_str (OpR.or op_cat op_catT))
theorem os_add {g : GC} : OS g (rAddAll g.K) dAdd := fun A H d1 d2 d v1 v2 Q al r1 r2 q k => by
  cases d1 with
  | int i =>
    cases d2 with
    | int j => cases q; exact .inl ⟨i, j, r1, r2, k _ H (Same.refl H) rfl⟩
    | _ => cases q
  | str x =>
    cases d2 with
    | str y =>
      simp only [dAdd] at q
      split at q
      · rename_i hz; cases q; exact .inr (.inl ⟨x, y, r1, r2, Nat.le_trans hz million, k _ H (Same.refl H) rfl⟩)
      · cases q
    | _ => cases q
  | lst xs =>
    cases d2 with
    | lst ys =>
      simp only [dAdd] at q
      split at q
      · rename_i hz; cases q
        obtain ⟨a, us, e1, h1, l1⟩ := r1
        obtain ⟨b, ws, e2, h2, l2⟩ := r2
        refine .inr (.inr (.inl ⟨a, b, us, ws, e1, e2, h1, h2, by rw [RL.length l1, RL.length l2]; exact Nat.le_trans hz million, fun p hp => ?_⟩))
        have m := Mono.same al (Same.new (o := .lst (us ++ ws)) hp)
        exact k _ _ (Same.new hp) ⟨p, _, rfl, upd_same, Al.no al hp, RL.append (RL.mono m _ l1) (RL.mono m _ l2)⟩
      · cases q
    | _ => cases q
  | tup xs =>
    cases d2 with
    | tup ys =>
      simp only [dAdd] at q
      split at q
      · rename_i hz; cases q
        obtain ⟨a, us, e1, h1, l1⟩ := r1
        obtain ⟨b, ws, e2, h2, l2⟩ := r2
        refine .inr (.inr (.inr ⟨a, b, us, ws, e1, e2, SqT.of h1, SqT.of h2, fun z => hz.1 ((RL.nil_iff l1).mp z), by rw [RL.length l1, RL.length l2]; exact Nat.le_trans hz.2 million, fun z => ?_, fun z p hp => ?_⟩))
        · subst e1
          refine k _ _ (Same.refl H) ⟨a, us, rfl, h1, ?_⟩
          rw [(RL.nil_iff l2).mp z, List.append_nil]
          exact l1
        · have m := Mono.same al (Same.new (o := .tup (us ++ ws)) hp)
          exact k _ _ (Same.new hp) ⟨p, _, rfl, upd_same, RL.append (RL.mono m _ l1) (RL.mono m _ l2)⟩
      · cases q
    | _ => cases q
  | _ => cases q
def dI (op : Int → Int → Option D) : D → D → Option D
  | .int i, .int j => op i j
  | _, _ => none
theorem os_I {g : GC} {C : Int → Int → Prop} {h : Int → Int → V} {op : Int → Int → Option D} (hc : ∀ i j d, op i j = some d → C i j ∧ ∀ A H, R g A H d (h i j)) : OS g (rI C h) (dI op) := fun A H d1 d2 d v1 v2 Q al r1 r2 q k => by
  cases d1 with
  | int i =>
    cases d2 with
    | int j => exact ⟨i, j, r1, r2, (hc i j d q).1, k _ H (Same.refl H) ((hc i j d q).2 A H)⟩
    | _ => cases q
  | _ => cases q
theorem os_I0 {g : GC} {h : Int → Int → V} {op : Int → Int → Option D} (hc : ∀ i j d, op i j = some d → ∀ A H, R g A H d (h i j)) : OS g (rI0 h) (dI op) := fun A H d1 d2 d v1 v2 Q al r1 r2 q k => by
  cases d1 with
  | int i =>
    cases d2 with
    | int j => exact ⟨i, j, r1, r2, k _ H (Same.refl H) (hc i j d q A H)⟩
    | _ => cases q
  | _ => cases q
def dSub : D → D → Option D := dI fun i j => some (.int (i - j))
theorem os_sub {g : GC} : OS g (rI0 fun i j => .int (i - j)) dSub := os_I0 fun i j d q A H => by cases q; rfl
def dLt : D → D → Option D := dI fun i j => some (.bl (decide (i < j)))
def dLe : D → D → Option D := dI fun i j => some (.bl (decide (i ≤ j)))
def dGt : D → D → Option D := dI fun i j => some (.bl (decide (j < i)))
def dGe : D → D → Option D := dI fun i j => some (.bl (decide (j ≤ i)))
theorem os_lt {g : GC} : OS g (rI0 fun i j => .bl (decide (i < j))) dLt := os_I0 fun i j d q A H => by cases q; rfl
theorem os_le {g : GC} : OS g (rI0 fun i j => .bl (decide (i ≤ j))) dLe := os_I0 fun i j d q A H => by cases q; rfl
theorem os_gt {g : GC} : OS g (rI0 fun i j => .bl (decide (j < i))) dGt := os_I0 fun i j d q A H => by cases q; rfl
theorem os_ge {g : GC} : OS g (rI0 fun i j => .bl (decide (j ≤ i))) dGe := os_I0 fun i j d q A H => by cases q; rfl
end Fw
namespace Fw
open L2 PyProof.Rows PySem PySem.Spec
def mulOk (i j : Int) : Bool := (decide (i.natAbs < 18446744073709551616) || decide (j.natAbs < 18446744073709551616)) || decide (i.natAbs.log2 + j.natAbs.log2 < 1000000)
theorem mulOk_ok {i j : Int} (h : mulOk i j = true) : CMul i j ∨ CMulW i j := by
  unfold mulOk at h
  simp only [Bool.or_eq_true, decide_eq_true_eq] at h
  unfold CMul
  rcases h with (h | h) | h
  · left; left; omega
  · left; right; omega
  · right; exact h
def dMul : D → D → Option D
  | .int i, .int j => if mulOk i j = true then some (.int (i * j)) else none
  | .lst xs, .int k => if k ≤ 1000000 ∧ 0 ≤ k ∧ xs.length * k.toNat ≤ 1000000 then some (.lst (List.replicate k.toNat xs).flatten) else none
  | _, _ => none
theorem RL.rep {g : GC} {A : Addr → Prop} {H : Hp} {ds : List D} {xs : List V} (r : RL g A H ds xs) : ∀ n : Nat, RL g A H (List.replicate n ds).flatten (List.replicate n xs).flatten
  | 0 => by simp [RL]
  | n + 1 => by
    rw [List.replicate_succ, List.replicate_succ, List.flatten_cons, List.flatten_cons]
    exact RL.append r (RL.rep r n)
abbrev rMulAll : R2 := fun x y H Q => (rI CMul fun i j => V.int (i * j)) x y H Q ∨ ((rI CMulW fun i j => V.int (i * j)) x y H Q ∨ rRep x y H Q)
theorem or_mul {X : Cx} : OpR X (binaryOp .Mult) rMulAll := OpR.or op_mul (OpR.or op_mulW op_rep)
theorem os_mul {g : GC} : OS g rMulAll dMul := fun A H d1 d2 d v1 v2 Q al r1 r2 q k => by
  cases d1 with
  | int i =>
    cases d2 with
    | int j =>
      simp only [dMul] at q
      split at q
      · rename_i h; cases q
        rcases mulOk_ok h with c | c
        · exact .inl ⟨i, j, r1, r2, c, k _ H (Same.refl H) rfl⟩
        · exact .inr (.inl ⟨i, j, r1, r2, c, k _ H (Same.refl H) rfl⟩)
      · cases q
    | _ => cases q
  | lst xs =>
    cases d2 with
    | int j =>
      simp only [dMul] at q
      split at q
      · rename_i hz; cases q
        obtain ⟨a, us, e1, h1, l1⟩ := r1
        refine .inr (.inr ⟨a, j, us, e1, r2, h1, by omega, by omega, by rw [RL.length l1]; exact Nat.le_trans hz.2.2 million, fun p hp => ?_⟩)
        have m := Mono.same al (Same.new (o := .lst (List.replicate j.toNat us).flatten) hp)
        exact k _ _ (Same.new hp) ⟨p, _, rfl, upd_same, Al.no al hp, RL.rep (RL.mono m _ l1) _⟩
      · cases q
    | _ => cases q
  | _ => cases q
def CDivG (_ j : Int) : Prop := j ≠ 0 ∧ j.natAbs.log2 < 9000
theorem op_fdivG {X : Cx} : OpR X (binaryOp .FloorDiv) (rI CDivG fun i j => .int (i.fdiv j)) := opI fun i j _ _ _ _ _ hc q => floordiv_int hc.1 q (.inl (PyProof.noPylong_of_log2 hc.2))
def iFdiv (i j : Int) : Option D := if j = 0 then none else if j.natAbs.log2 < 9000 then some (.int (if 0 < j then i / j else i.fdiv j)) else none
def dFdiv : D → D → Option D := dI iFdiv
theorem os_fdiv {g : GC} : OS g (rI CDivG fun i j => .int (i.fdiv j)) dFdiv := os_I fun i j d q => by
  unfold iFdiv at q
  split at q
  · cases q
  · rename_i h0
    split at q
    · rename_i h1; cases q
      refine ⟨⟨h0, h1⟩, fun A H => ?_⟩
      show V.int _ = V.int _
      split
      · rename_i h2; rw [Int.fdiv_eq_ediv_of_nonneg i (by omega)]
      · rfl
    · cases q
def iMod (i j : Int) : Option D := if j = 0 then none else some (.int (if 0 < j then i % j else i.fmod j))
def dMod : D → D → Option D := dI iMod
theorem os_mod {g : GC} : OS g (rI (fun _ j => j ≠ 0) fun i j => .int (i.fmod j)) dMod := os_I fun i j d q => by
  unfold iMod at q
  split at q
  · cases q
  · rename_i h0; cases q
    refine ⟨h0, fun A H => ?_⟩
    show V.int _ = V.int _
    split
    · rename_i h2; rw [Int.fmod_eq_emod_of_nonneg i (by omega)]
    · rfl
def iPow (i j : Int) : Option D := if 0 ≤ j ∧ j ≤ 1000000 ∧ i.natAbs < 18446744073709551616 then some (.int (i ^ j.toNat)) else none
def dPow : D → D → Option D := dI iPow
theorem os_pow {g : GC} : OS g (rI CPow fun i j => .int (i ^ j.toNat)) dPow := os_I fun i j d q => by
  unfold iPow at q
  split at q
  · rename_i h; cases q; exact ⟨⟨h.1, h.2.1, h.2.2⟩, fun A H => rfl⟩
  · cases q
def dNeg : D → Option D
  | .int i => some (.int (-i))
  | _ => none
theorem us_neg {g : GC} : US g (rU fun i => .int (-i)) dNeg := fun A H d1 d v1 Q al r1 q k => by
  cases d1 with
  | int i => cases q; exact ⟨i, r1, k _ H (Same.refl H) rfl⟩
  | _ => cases q
end Fw
namespace Fw
open L2 PyProof.Rows PySem PySem.Spec
mutual
def py : D → Option PyData
  | .non => some .none
  | .bl b => some (.bool b)
  | .int i => some (.int i)
  | .str x => some (.str x)
  | .tup ds => (pyL ds).map PyData.tuple
  | .lst ds => (pyL ds).map PyData.list
  | _ => none
def pyL : List D → Option (List PyData)
  | [] => some []
  | d :: ds => match py d with
    | some p => (match pyL ds with
      | some ps => some (p :: ps)
      | none => none)
    | none => none
end
theorem py_tup (ds : List D) : py (.tup ds) = (pyL ds).map PyData.tuple := by rw [py]
theorem py_lst (ds : List D) : py (.lst ds) = (pyL ds).map PyData.list := by rw [py]
theorem pyL_cons (d : D) (ds : List D) : pyL (d :: ds) = match py d with
    | some p => (match pyL ds with
      | some ps => some (p :: ps)
      | none => none)
    | none => none := by rw [pyL]
theorem map_some {α β : Type} {f : α → β} {o : Option α} {b : β} (h : o.map f = some b) : ∃ a, o = some a ∧ b = f a := by
  cases o with
  | none => cases h
  | some a => exact ⟨a, rfl, (Option.some.inj h).symm⟩
theorem pyL_inv {d : D} {ds : List D} {ps : List PyData} (h : pyL (d :: ds) = some ps) : ∃ p qs, py d = some p ∧ pyL ds = some qs ∧ ps = p :: qs := by
  rw [pyL_cons] at h
  cases z : py d with
  | none => rw [z] at h; cases h
  | some p =>
    rw [z] at h
    cases z2 : pyL ds with
    | none => rw [z2] at h; cases h
    | some p2 => rw [z2] at h; exact ⟨p, p2, rfl, rfl, (Option.some.inj h).symm⟩
mutual
theorem R.dp {g : GC} {A : Addr → Prop} {H : Hp} : ∀ (d : D) (v : V) (p : PyData), R g A H d v → py d = some p → Dp g.K H v p
  | .non, v, p, r, q => by
    have e : PyData.none = p := Option.some.inj q
    rw [← e, show v = .non from r]; exact .non
  | .bl b, v, p, r, q => by
    have e : PyData.bool b = p := Option.some.inj q
    rw [← e, show v = .bl b from r]; exact .bl b
  | .int b, v, p, r, q => by
    have e : PyData.int b = p := Option.some.inj q
    rw [← e, show v = .int b from r]; exact .int b
  | .str b, v, p, r, q => by
    have e : PyData.str b = p := Option.some.inj q
    rw [← e, show v = .str b from r]; exact .str b
  | .tup ds, v, p, r, q => by
    obtain ⟨a, xs, e, h1, r⟩ := r
    rw [py_tup] at q
    obtain ⟨ps, z, e2⟩ := map_some q
    rw [e, e2]; exact .tup (SqT.of h1) (RL.dp ds xs ps r z)
  | .lst ds, v, p, r, q => by
    obtain ⟨a, xs, e, h1, n, r⟩ := r
    rw [py_lst] at q
    obtain ⟨ps, z, e2⟩ := map_some q
    rw [e, e2]; exact .lst (SqL.of h1) (RL.dp ds xs ps r z)
  | .ty _, _, _, _, q => by exact nomatch (show (none : Option PyData) = some _ from q)
  | .obj _ _, _, _, _, q => by exact nomatch (show (none : Option PyData) = some _ from q)
  | .scr _, _, _, _, q => by exact nomatch (show (none : Option PyData) = some _ from q)
  | .mrk, _, _, _, q => by exact nomatch (show (none : Option PyData) = some _ from q)
  | .ktu _, _, _, _, q => by exact nomatch (show (none : Option PyData) = some _ from q)
  | .dct _ _, _, _, _, q => by exact nomatch (show (none : Option PyData) = some _ from q)
  | .dtt _ _, _, _, _, q => by exact nomatch (show (none : Option PyData) = some _ from q)
  | .exn _ _, _, _, _, q => by exact nomatch (show (none : Option PyData) = some _ from q)
theorem RL.dp {g : GC} {A : Addr → Prop} {H : Hp} : ∀ (ds : List D) (vs : List V) (ps : List PyData), RL g A H ds vs → pyL ds = some ps → DpAll g.K H vs ps
  | [], vs, ps, r, q => by
    have e : ([] : List PyData) = ps := Option.some.inj q
    rw [← e, show vs = [] from r]; exact .nil
  | d :: ds, vs, ps, r, q => by
    obtain ⟨y, ys, e, r, t⟩ := r
    obtain ⟨p, qs, z, z2, e2⟩ := pyL_inv q
    rw [e, e2]; exact .cons (R.dp d y p r z) (RL.dp ds ys qs t z2)
end
theorem Rt.dp {g : GC} {A : Addr → Prop} {H : Hp} (d : D) (v : V) (p : PyData) (r : Rt g A H d v) (q : py d = some p) : Dp g.K H v p := by
  cases d with
  | lst ds =>
    obtain ⟨a, xs, e, h1, r⟩ := r
    rw [py_lst] at q
    obtain ⟨ps, z, e2⟩ := map_some q
    rw [e, e2]; exact .lst (SqL.of h1) (RL.dp ds xs ps r z)
  | non => exact R.dp (A := A) _ v p r q
  | bl _ => exact R.dp (A := A) _ v p r q
  | int _ => exact R.dp (A := A) _ v p r q
  | str _ => exact R.dp (A := A) _ v p r q
  | ty _ => exact R.dp (A := A) _ v p r q
  | tup _ => exact R.dp (A := A) _ v p r q
  | obj _ _ => exact nomatch (show (none : Option PyData) = some _ from q)
  | scr _ => exact R.dp (A := A) _ v p r q
  | mrk => exact R.dp (A := A) _ v p r q
  | ktu _ => exact R.dp (A := A) _ v p r q
  | dct _ _ => exact nomatch (show (none : Option PyData) = some _ from q)
  | dtt _ _ => exact nomatch (show (none : Option PyData) = some _ from q)
  | exn _ _ => exact R.dp (A := A) _ v p r q
def eqData (d1 d2 : D) : Option Bool := match py d1 with
  | some p => (match py d2 with
    | some q => (if SeqAt.shaped p = true ∧ SeqAt.shaped q = true then some (PyData.eqv p q) else none)
    | none => none)
  | none => none
def sEq : D → D → Option Bool
  | .int i, .int j => some (decide (i = j))
  | .str i, .str j => some (decide (i = j))
  | .bl i, .bl j => some (decide (i = j))
  | _, _ => none
def bEq (d1 d2 : D) : Option Bool := match sEq d1 d2 with
  | some b => some b
  | none => eqData d1 d2
def dEq (d1 d2 : D) : Option D := (bEq d1 d2).map D.bl
def dNe (d1 d2 : D) : Option D := (bEq d1 d2).map fun b => D.bl (!b)
abbrev rEqAll (K : PySem.W.Frag) : R2 := fun x y H Q => rEq x y H Q ∨ rEqD K x y H Q
abbrev rNeAll (K : PySem.W.Frag) : R2 := fun x y H Q => rNe x y H Q ∨ rNeD K x y H Q
theorem or_eq {X : Cx} (hu : X.A.units + 64 < cLine) : OpR X (compareOp .Eq) (rEqAll X.K) := OpR.or op_eq (op_eqD hu)
theorem or_ne {X : Cx} (hu : X.A.units + 64 < cLine) : OpR X (compareOp .NotEq) (rNeAll X.K) := OpR.or op_ne (op_neD hu)
theorem sEq_cases {d1 d2 : D} {b : Bool} (q : sEq d1 d2 = some b) : (∃ i j, d1 = .int i ∧ d2 = .int j ∧ b = decide (i = j)) ∨ (∃ i j, d1 = .str i ∧ d2 = .str j ∧ b = decide (i = j)) ∨ (∃ i j, d1 = .bl i ∧ d2 = .bl j ∧ b = decide (i = j)) := by
  cases d1 with
  | int i => cases d2 with
    | int j => cases q; exact .inl ⟨_, _, rfl, rfl, rfl⟩
    | _ => cases q
  | str i => cases d2 with
    | str j => cases q; exact .inr (.inl ⟨_, _, rfl, rfl, rfl⟩)
    | _ => cases q
  | bl i => cases d2 with
    | bl j => cases q; exact .inr (.inr ⟨_, _, rfl, rfl, rfl⟩)
    | _ => cases q
  | _ => cases d2 <;> cases q
theorem eq_cases {d1 d2 : D} {b : Bool} (q : bEq d1 d2 = some b) : ((∃ i j, d1 = .int i ∧ d2 = .int j ∧ b = decide (i = j)) ∨ (∃ i j, d1 = .str i ∧ d2 = .str j ∧ b = decide (i = j)) ∨ (∃ i j, d1 = .bl i ∧ d2 = .bl j ∧ b = decide (i = j))) ∨
    ∃ p p', py d1 = some p ∧ py d2 = some p' ∧ SeqAt.shaped p = true ∧ SeqAt.shaped p' = true ∧ b = PyData.eqv p p' := by
  unfold bEq at q
  cases z : sEq d1 d2 with
  | some c => rw [z] at q; cases q; exact .inl (sEq_cases z)
  | none =>
    rw [z] at q
    have q : eqData d1 d2 = some b := q
    unfold eqData at q
    cases z1 : py d1 with
    | none => rw [z1] at q; cases q
    | some p =>
      rw [z1] at q
      cases z2 : py d2 with
      | none => rw [z2] at q; cases q
      | some p' =>
        rw [z2] at q
        have q : (if SeqAt.shaped p = true ∧ SeqAt.shaped p' = true then some (PyData.eqv p p') else none) = some b := q
        by_cases hs : SeqAt.shaped p = true ∧ SeqAt.shaped p' = true
        · rw [if_pos hs] at q; cases q; exact .inr ⟨p, p', rfl, rfl, hs.1, hs.2, rfl⟩
        · rw [if_neg hs] at q; cases q
theorem dec_of {α β : Type} [DecidableEq α] [DecidableEq β] (c : α → β) (inj : ∀ a b, c a = c b → a = b) (i j : α) : decide (c i = c j) = decide (i = j) := by
  by_cases h : i = j
  · subst h; simp
  · rw [decide_eq_false h, decide_eq_false (fun z => h (inj _ _ z))]
theorem os_eq {g : GC} : OS g (rEqAll g.K) dEq := fun A H d1 d2 d v1 v2 Q al r1 r2 q k => by
  unfold dEq at q
  cases z : bEq d1 d2 with
  | none => rw [z] at q; cases q
  | some b =>
    rw [z] at q; cases q
    rcases eq_cases z with (⟨i, j, rfl, rfl, rfl⟩ | ⟨i, j, rfl, rfl, rfl⟩ | ⟨i, j, rfl, rfl, rfl⟩) | ⟨p, p', e1, e2, s1, s2, rfl⟩
    · obtain rfl : v1 = .int i := r1; obtain rfl : v2 = .int j := r2
      exact .inl ⟨rfl, k _ H (Same.refl H) (by show V.bl _ = V.bl _; rw [dec_of V.int (fun _ _ z => by injection z) i j])⟩
    · obtain rfl : v1 = .str i := r1; obtain rfl : v2 = .str j := r2
      exact .inl ⟨rfl, k _ H (Same.refl H) (by show V.bl _ = V.bl _; rw [dec_of V.str (fun _ _ z => by injection z) i j])⟩
    · obtain rfl : v1 = .bl i := r1; obtain rfl : v2 = .bl j := r2
      exact .inl ⟨rfl, k _ H (Same.refl H) (by show V.bl _ = V.bl _; rw [dec_of V.bl (fun _ _ z => by injection z) i j])⟩
    · exact .inr ⟨p, p', Rt.dp d1 _ _ r1 e1, Rt.dp d2 _ _ r2 e2, s1, s2, k _ H (Same.refl H) rfl⟩
theorem os_ne {g : GC} : OS g (rNeAll g.K) dNe := fun A H d1 d2 d v1 v2 Q al r1 r2 q k => by
  unfold dNe at q
  cases z : bEq d1 d2 with
  | none => rw [z] at q; cases q
  | some b =>
    rw [z] at q; cases q
    rcases eq_cases z with (⟨i, j, rfl, rfl, rfl⟩ | ⟨i, j, rfl, rfl, rfl⟩ | ⟨i, j, rfl, rfl, rfl⟩) | ⟨p, p', e1, e2, s1, s2, rfl⟩
    · obtain rfl : v1 = .int i := r1; obtain rfl : v2 = .int j := r2
      exact .inl ⟨rfl, k _ H (Same.refl H) (by show V.bl _ = V.bl _; rw [dec_of V.int (fun _ _ z => by injection z) i j])⟩
    · obtain rfl : v1 = .str i := r1; obtain rfl : v2 = .str j := r2
      exact .inl ⟨rfl, k _ H (Same.refl H) (by show V.bl _ = V.bl _; rw [dec_of V.str (fun _ _ z => by injection z) i j])⟩
    · obtain rfl : v1 = .bl i := r1; obtain rfl : v2 = .bl j := r2
      exact .inl ⟨rfl, k _ H (Same.refl H) (by show V.bl _ = V.bl _; rw [dec_of V.bl (fun _ _ z => by injection z) i j])⟩
    · exact .inr ⟨p, p', Rt.dp d1 _ _ r1 e1, Rt.dp d2 _ _ r2 e2, s1, s2, k _ H (Same.refl H) rfl⟩
end Fw
namespace Fw
open L2 PyProof.Rows PySem PySem.Spec
def dTru : D → Option Bool
  | .non => some false
  | .bl b => some b
  | .int i => some (i != 0)
  | .str x => if x.length ≤ 1000000 then some ((x.length : Int) != 0) else none
  | .lst xs => some (!xs.isEmpty)
  | .tup xs => some (!xs.isEmpty)
  | _ => none
theorem RL.isEmpty {g : GC} {A : Addr → Prop} {H : Hp} {ds : List D} {xs : List V} (r : RL g A H ds xs) : xs.isEmpty = ds.isEmpty := by
  cases ds with
  | nil => rw [show xs = [] from r]; rfl
  | cons d ds => obtain ⟨y, ys, e, _⟩ := r; rw [e]; rfl
theorem Rt.tru {g : GC} {A : Addr → Prop} {H : Hp} {d : D} {v : V} {b : Bool} (r : Rt g A H d v) (q : dTru d = some b) : TruV g.K v H b := by
  cases d with
  | non => rw [show v = .non from r]; cases q; rfl
  | bl c => rw [show v = .bl c from r]; cases q; rfl
  | int c => rw [show v = .int c from r]; cases q; rfl
  | str c =>
    rw [show v = .str c from r]
    simp only [dTru] at q
    by_cases h : c.length ≤ 1000000
    · rw [if_pos h] at q; cases q; exact ⟨Nat.le_trans h million, rfl⟩
    · rw [if_neg h] at q; cases q
  | lst ds =>
    obtain ⟨a, xs, e, h1, r⟩ := r
    rw [e]; cases q
    exact .inl ⟨xs, SqL.of h1, by rw [RL.isEmpty r]⟩
  | tup ds =>
    obtain ⟨a, xs, e, h1, r⟩ := r
    rw [e]; cases q
    exact .inr (.inl ⟨xs, SqT.of h1, by rw [RL.isEmpty r]⟩)
  | _ => exact nomatch (show (none : Option Bool) = some b from q)
def mTru (a : Od) : M Bool := mO1 a fun d => mo (dTru d)
def mAnd (a b : M Bool) : M Bool := mb a fun c => if c = true then b else mp false
def mOr (a b : M Bool) : M Bool := mb a fun c => if c = true then mp true else b
def mNot (a : M Bool) : M Bool := mb a fun c => mp (!c)
def mIf {α : Type} (c : M Bool) (a b : M α) : M α := mb c fun c => if c = true then a else b
section
variable {g : GC} {X : Cx} {W : WK} {a b c : Expr} {rest : List Expr} {pos : Pos}
theorem ct_tru {m : Od} (h : CO g X W a m) (hK : X.K = g.K) (he : ∀ whole, isTrue a X.env whole = (do let v ← whole; standAt a.pos; holding [v] (truthy v))) : CT g X W a (mTru m) :=
  PT.imp (pt_truth h he) fun σ H Q ⟨f, A, e, F, h⟩ => Fin.b1 h F fun d1 e1 v1 H1 F1 S1 R1 h1 => by
    obtain ⟨b, q, h3⟩ := Fin.mo h1
    exact ⟨b, by rw [hK]; exact Rt.tru R1 q, h3 H1 F1 S1⟩
abbrev CW (g : GC) (X : Cx) (W : WK) (e : Expr) (m : M Bool) : Prop := PW X e (rdT g W m)
theorem PW.imp {X : Cx} {e : Expr} {t u : TT} (h : PW X e t) (i : ∀ σ H Q, u σ H Q → t σ H Q) : PW X e u := ⟨fun wh pins s σ H Q I q => h.run wh pins s σ H Q I (i _ _ _ q)⟩
theorem cw_and1 {m : M Bool} (h : CT g X W a m) : CW g X W (.BoolOp .And [a] pos) m := pw_and1 h
theorem cw_or1 {m : M Bool} (h : CT g X W a m) : CW g X W (.BoolOp .Or [a] pos) m := pw_or1 h
theorem t_and {m m' : M Bool} : ∀ σ H Q, rdT g W (mAnd m m') σ H Q → tAnd (rdT g W m) (rdT g W m') σ H Q := fun σ H Q ⟨f, A, e, F, h⟩ => by
  refine Fin.bT h F fun d e1 H1 F1 S1 h1 => ?_
  cases d with
  | true => exact ⟨f, A, e1, F1, by
      rw [if_pos rfl] at h1
      generalize m' e1 = r at h1
      cases r with
      | ok b e2 => exact fun H2 F2 S2 => h1 H2 F2 (S1.trans S2)
      | exc c d e2 => exact h1
      | bad => exact h1⟩
  | false => exact h1 H1 F1 S1
theorem t_or {m m' : M Bool} : ∀ σ H Q, rdT g W (mOr m m') σ H Q → tOr (rdT g W m) (rdT g W m') σ H Q := fun σ H Q ⟨f, A, e, F, h⟩ => by
  refine Fin.bT h F fun d e1 H1 F1 S1 h1 => ?_
  cases d with
  | false => exact ⟨f, A, e1, F1, by
      rw [if_neg Bool.false_ne_true] at h1
      generalize m' e1 = r at h1
      cases r with
      | ok b e2 => exact fun H2 F2 S2 => h1 H2 F2 (S1.trans S2)
      | exc c d e2 => exact h1
      | bad => exact h1⟩
  | true => exact h1 H1 F1 S1
theorem cw_and {m m' : M Bool} (ha : CT g X W a m) (hb : CW g X W (.BoolOp .And (b :: rest) pos) m') : CW g X W (.BoolOp .And (a :: b :: rest) pos) (mAnd m m') := PW.imp (pw_and ha hb) t_and
theorem cw_or {m m' : M Bool} (ha : CT g X W a m) (hb : CW g X W (.BoolOp .Or (b :: rest) pos) m') : CW g X W (.BoolOp .Or (a :: b :: rest) pos) (mOr m m') := PW.imp (pw_or ha hb) t_or
theorem ct_w {m : M Bool} (h : CW g X W a m) : CT g X W a m := PW.pt h
theorem ct_not {m : M Bool} (h : CT g X W a m) : CT g X W (.UnaryOp .Not a pos) (mNot m) := PT.imp (pt_not h) fun σ H Q ⟨f, A, e, F, h⟩ =>
  Fin.bT h F fun d e1 H1 F1 S1 h1 => h1 H1 F1 S1
theorem rdE_go {f : Fx} {A : Addr → Prop} {σ : Sv} {H H1 : Hp} {e : Ev} {m : M D} {Q : VK} (F1 : FR g f A H1 σ e) (S1 : Step A H H1)
    (h : Fin g W f A σ H1 (fun d e' => ∀ v H', FR g f A H' σ e' → Step A H H' → R g A H' d v → Q v H') (m e)) : rdE g W m σ H1 Q := ⟨f, A, e, F1, by
  generalize m e = r at h
  cases r with
  | ok b e2 => exact fun v H2 F2 S2 r => h v H2 F2 (S1.trans S2) r
  | exc c d e2 => exact h
  | bad => exact h⟩
theorem c_if {mc : M Bool} {ma mb' : M D} (hc : CT g X W c mc) (ha : CE g X W a ma) (hb : CE g X W b mb') : CE g X W (.IfExp c a b pos) (mIf mc ma mb') := PE.imp (pe_ifExp hc ha hb) fun σ H Q ⟨f, A, e, F, h⟩ => by
  refine Fin.bT h F fun d e1 H1 F1 S1 h1 => ?_
  cases d with
  | true => rw [if_pos rfl]; rw [if_pos rfl] at h1; exact rdE_go F1 S1 h1
  | false => rw [if_neg Bool.false_ne_true]; rw [if_neg Bool.false_ne_true] at h1; exact rdE_go F1 S1 h1
def mFr (m : M (List D)) : M D := mb m fun ds => mp (.lst ds)
theorem c_fr {m : M (List D)} (h : CF g X W a m) : CE g X W a (mFr m) := PE.imp h fun σ H Q ⟨f, A, e, F, h⟩ =>
  Fin.bF h F fun ds e1 p xs H1 F1 F2 n S1 hn hp r h1 => h1 _ H1 F1 S1 ⟨p, xs, rfl, hp, n, RL.mono ⟨F2.al, fun _ _ q _ => q, fun _ _ z _ => .inl z⟩ ds r⟩
def mAndV (a b : M D) : M D := mb a fun x => mb (mo (dTru x)) fun c => if c = true then b else mp x
def mOrV (a b : M D) : M D := mb a fun x => mb (mo (dTru x)) fun c => if c = true then mp x else b
def mNotV (a : Od) : M D := mO1 a fun x => mb (mo (dTru x)) fun c => mp (.bl (!c))
theorem c_one {op : BoolOp} {m : M D} (h : CE g X W a m) : CE g X W (.BoolOp op [a] pos) m := pe_one h
theorem c_and {m m' : M D} (hK : X.K = g.K) (ha : CE g X W a m) (hb : CE g X W (.BoolOp .And (b :: rest) pos) m') : CE g X W (.BoolOp .And (a :: b :: rest) pos) (mAndV m m') := PE.imp (pe_andT ha hb) fun σ H Q ⟨f, A, e, F, h⟩ => by
  refine Fin.bE h F fun d1 e1 v1 H1 F1 S1 R1 h1 => ?_
  obtain ⟨k, q, h2⟩ := Fin.mo2 h1
  refine ⟨k, by rw [hK]; exact Rt.tru R1.rt q, ?_⟩
  cases k with
  | true => rw [if_pos rfl]; rw [if_pos rfl] at h2; exact rdE_go F1 S1 h2
  | false => rw [if_neg Bool.false_ne_true]; rw [if_neg Bool.false_ne_true] at h2; exact h2 v1 H1 F1 S1 R1
theorem c_or {m m' : M D} (hK : X.K = g.K) (ha : CE g X W a m) (hb : CE g X W (.BoolOp .Or (b :: rest) pos) m') : CE g X W (.BoolOp .Or (a :: b :: rest) pos) (mOrV m m') := PE.imp (pe_orT ha hb) fun σ H Q ⟨f, A, e, F, h⟩ => by
  refine Fin.bE h F fun d1 e1 v1 H1 F1 S1 R1 h1 => ?_
  obtain ⟨k, q, h2⟩ := Fin.mo2 h1
  refine ⟨k, by rw [hK]; exact Rt.tru R1.rt q, ?_⟩
  cases k with
  | false => rw [if_neg Bool.false_ne_true]; rw [if_neg Bool.false_ne_true] at h2; exact rdE_go F1 S1 h2
  | true => rw [if_pos rfl]; rw [if_pos rfl] at h2; exact h2 v1 H1 F1 S1 R1
theorem c_not {m : Od} (hK : X.K = g.K) (ha : CO g X W a m) : CE g X W (.UnaryOp .Not a pos) (mNotV m) := PE.imp (pe_notT ha) fun σ H Q ⟨f, A, e, F, h⟩ => Fin.b1 h F fun d1 e1 v1 H1 F1 S1 R1 h1 => by
  obtain ⟨k, q, h2⟩ := Fin.mo2 h1
  exact ⟨k, by rw [hK]; exact Rt.tru R1 q, h2 _ H1 F1 S1 rfl⟩
theorem c_chain {op op' : CmpOp} {r r' : R2} {o o' : D → D → Option D} {ma mb' mc : Od} (hr : OpR X (compareOp op) r) (hr' : OpR X (compareOp op') r') (ho : OS g r o) (ho' : OS g r' o') (ha : CO g X W a ma) (hb : CO g X W b mb') (hc : CO g X W c mc) (hm : lastMarks [op, op'] [b, c] = false)
    (hflat : ∀ x y d, o x y = some d → ∀ A A' H H' v, Rt g A H y v → Rt g A' H' y v) : CE g X W (.Compare a [op, op'] [b, c] pos) (mChain o o' ma mb' mc) :=
  PE.imp (pe_chain hr hr' ha hb hc hm) fun σ H Q ⟨f, A, e, F, h⟩ => Fin.b2 h F fun d1 d2 e2 v1 v2 H2 F2 S2 R1 R2 h2 => by
    obtain ⟨k, q, h3⟩ := Fin.mo2 h2
    cases z : o d1 d2 with
    | none => rw [z] at q; cases q
    | some d =>
      rw [z] at q
      refine ho A H2 d1 d2 d v1 v2 _ F2.al R1 R2 z fun v H3 s r => ?_
      cases d with
      | bl c =>
        cases q
        refine ⟨_, r, ?_⟩
        cases k with
        | true =>
          rw [if_pos rfl]
          have h4 : Fin g W f A σ H2 _ (mO1 mc (fun z => mo (o' d2 z)) e2) := h3
          refine Fin.b1 (h4.from (.of s)) (F2.same s) fun d3 e3 v3 H4 F4 S4 R3 h5 => ?_
          obtain ⟨d', q', h6⟩ := Fin.mo h5
          exact ho' A H4 d2 d3 d' v2 v3 Q F4.al (hflat d1 d2 _ z A A H2 H4 v2 R2) R3 q' fun v H5 s5 r5 => h6 v H5 (F4.same s5) (S2.trans ((Step.of s).trans (S4.trans (.of s5)))) r5
        | false =>
          rw [if_neg Bool.false_ne_true]
          exact h3 _ H3 (F2.same s) (S2.trans (.of s)) rfl
      | _ => cases q
theorem flatI {h : Int → Int → Option D} : ∀ x y d, dI h x y = some d → ∀ A A' H H' v, Rt g A H y v → Rt g A' H' y v := fun x y d q A A' H H' v r => by
  cases x with
  | int i => cases y with
    | int j => exact r
    | _ => cases q
  | _ => cases q
def mNil : M (List D) := mp []
def mCons (a : M D) (b : M (List D)) : M (List D) := mb a fun x => mb b fun y => mp (x :: y)
theorem ca_nil : CA g X W [] mNil := PA.imp pa_nil fun σ H Q ⟨f, A, e, F, h⟩ => h [] H F .refl rfl
theorem ca_cons {es : List Expr} {m : M D} {m' : M (List D)} (ha : CE g X W a m) (hr : CA g X W es m') (hs : starEach (a :: es) X.env = (false, eval a X.env) :: starEach es X.env := by rfl) : CA g X W (a :: es) (mCons m m') :=
  PA.imp (pa_cons ha hr hs) fun σ H Q ⟨f, A, e, F, h⟩ => by
    refine Fin.bE h F fun d1 e1 v1 H1 F1 S1 R1 h1 => ?_
    refine Fin.bA h1 F1 fun d2 e2 v2 H2 F2 S2 R2 h2 => ?_
    exact h2 (v1 :: v2) H2 F2 (S1.trans S2) ⟨v1, v2, rfl, F1.r S2 R1, R2⟩
def mTup (m : M (List D)) : M D := mb m fun ds => if ds.length ≤ 1000000 then mp (.tup ds) else fun _ => .bad
theorem Fin.ite {β : Type} {f : Fx} {A : Addr → Prop} {σ : Sv} {H : Hp} {ok : β → Ev → Prop} {e : Ev} {p : Prop} [Decidable p] {m : M β} (h : Fin g W f A σ H ok ((if p then m else fun _ => .bad) e)) : p ∧ Fin g W f A σ H ok (m e) := by
  by_cases q : p
  · rw [if_pos q] at h; exact ⟨q, h⟩
  · rw [if_neg q] at h; exact h.elim
theorem c_tup {es : List Expr} {m : M (List D)} {x1} (h : CA g X W es m) : CE g X W (.Tuple es x1 pos) (mTup m) := PE.imp (pe_tup h) fun σ H Q ⟨f, A, e, F, h⟩ => by
  refine Fin.bA h F fun d1 e1 v1 H1 F1 S1 R1 h1 => ?_
  obtain ⟨z, h2⟩ := Fin.ite h1
  refine ⟨by rw [RL.length R1]; exact Nat.le_trans z million, fun p hp => ?_⟩
  exact h2 _ _ (F1.same (Same.new hp)) (S1.trans (.of (Same.new hp))) ⟨p, v1, rfl, upd_same, RL.mono (Mono.same F1.al (Same.new hp)) d1 R1⟩
def mLst (m : M (List D)) : M (List D) := mb m fun ds => if ds.length ≤ 1000000 then mp ds else fun _ => .bad
theorem FR.none_of {f : Fx} {A : Addr → Prop} {H H1 : Hp} {p : Addr} (S1 : Step A H H1) (hp : H1 p = none) : H p = none := by
  cases z : H p with
  | none => rfl
  | some o => obtain ⟨o', q⟩ := S1.un p o z; rw [hp] at q; cases q
theorem cf_lst {es : List Expr} {m : M (List D)} (h : CA g X W es m) : CF g X W (.List es pos) (mLst m) := PE.imp (pe_lst h) fun σ H Q ⟨f, A, e, F, h⟩ => by
  refine Fin.bA h F fun d1 e1 v1 H1 F1 S1 R1 h1 => ?_
  obtain ⟨z, h2⟩ := Fin.ite h1
  refine ⟨by rw [RL.length R1]; exact Nat.le_trans z million, fun p hp => ?_⟩
  exact h2 p v1 _ (F1.same (Same.new hp)) (F1.new hp) (F1.nA hp) (S1.trans (.of (Same.new hp))) (FR.none_of (f := f) S1 hp) upd_same (RL.mono (Mono.new F1 hp) d1 R1)
def rdOs (g : GC) (W : WK) : List Od → TA
  | [] => tNil
  | o :: os => tCons (rdO g W o) (rdOs g W os)
abbrev COs (g : GC) (X : Cx) (W : WK) (es : List Expr) (os : List Od) : Prop := PA X es (rdOs g W os)
theorem co_nil : COs g X W [] [] := pa_nil
theorem co_cons {es : List Expr} {o : Od} {os : List Od} (ha : CO g X W a o) (hr : COs g X W es os) (hs : starEach (a :: es) X.env = (false, eval a X.env) :: starEach es X.env := by rfl) : COs g X W (a :: es) (o :: os) := pa_cons ha hr hs
def mA1 : List Od → M (List (Sum D Nat))
  | [] => mp []
  | .e m :: os => mb m fun d => mb (mA1 os) fun r => mp (.inl d :: r)
  | .n i :: os => mb (mN i) fun _ => mb (mA1 os) fun r => mp (.inr i :: r)
def mRes : List (Sum D Nat) → M (List D)
  | [] => mp []
  | .inl d :: r => mb (mRes r) fun ds => mp (d :: ds)
  | .inr i :: r => mb (mN i) fun d => mb (mRes r) fun ds => mp (d :: ds)
def mAs (os : List Od) : M (List D) := mb (mA1 os) mRes
def PL (g : GC) (A : Addr → Prop) (H : Hp) (σ : Sv) : List (Sum D Nat) → List V → Prop
  | [], vs => vs = []
  | .inl d :: r, vs => ∃ y ys, vs = y :: ys ∧ R g A H d y ∧ PL g A H σ r ys
  | .inr i :: r, vs => ∃ y ys, vs = y :: ys ∧ σ[i]? = some (some y) ∧ PL g A H σ r ys
theorem mb_assoc {α β γ : Type} (m : M α) (k : α → M β) (l : β → M γ) : mb (mb m k) l = mb m fun x => mb (k x) l := by
  funext e
  unfold mb
  cases m e <;> rfl
section
variable {f : Fx} {A : Addr → Prop} {σ : Sv} {β : Type} {ok : β → Ev → Prop}
theorem bAs1 : ∀ (os : List Od) {H : Hp} {e : Ev} {k : List (Sum D Nat) → M β} {G : List V → Hp → Prop}, Fin g W f A σ H ok (mb (mA1 os) k e) → FR g f A H σ e →
    (∀ ps e1 vs H1, FR g f A H1 σ e1 → Step A H H1 → PL g A H1 σ ps vs → Fin g W f A σ H1 ok (k ps e1) → G vs H1) → rdOs g W os σ H G
  | [], H, e, k, G, h, F, go => go [] e [] H F .refl rfl h
  | .e m :: os, H, e, k, G, h, F, go => by
    unfold mA1 at h
    rw [mb_assoc] at h
    refine Fin.bE h F fun d1 e1 v1 H1 F1 S1 R1 h1 => ?_
    rw [mb_assoc] at h1
    exact bAs1 os h1 F1 fun ps e2 vs H2 F2 S2 p2 h2 => go (.inl d1 :: ps) e2 (v1 :: vs) H2 F2 (S1.trans S2) ⟨v1, vs, rfl, F1.r S2 R1, p2⟩ h2
  | .n i :: os, H, e, k, G, h, F, go => by
    unfold mA1 at h
    rw [mb_assoc] at h
    obtain ⟨d, v1, hv, _, h1⟩ := Fin.bN h F
    rw [mb_assoc] at h1
    exact ⟨v1, hv, bAs1 os h1 F fun ps e2 vs H2 F2 S2 p2 h2 => go (.inr i :: ps) e2 (v1 :: vs) H2 F2 S2 ⟨v1, vs, rfl, hv, p2⟩ h2⟩
theorem bRes : ∀ (ps : List (Sum D Nat)) {H : Hp} {e : Ev} {k : List D → M β} {vs : List V}, Fin g W f A σ H ok (mb (mRes ps) k e) → FR g f A H σ e → PL g A H σ ps vs → ∃ ds, RtL g A H ds vs ∧ Fin g W f A σ H ok (k ds e)
  | [], H, e, k, vs, h, F, p => ⟨[], p, h⟩
  | .inl d :: r, H, e, k, vs, h, F, ⟨y, ys, e1, r1, p⟩ => by
    unfold mRes at h
    rw [mb_assoc] at h
    obtain ⟨ds, r2, h2⟩ := bRes r h F p
    exact ⟨d :: ds, ⟨y, ys, e1, r1.rt, r2⟩, h2⟩
  | .inr i :: r, H, e, k, vs, h, F, ⟨y, ys, e1, r1, p⟩ => by
    unfold mRes at h
    rw [mb_assoc] at h
    obtain ⟨d, v, hv, rt, h1⟩ := Fin.bN h F
    rw [mb_assoc] at h1
    obtain ⟨ds, r2, h2⟩ := bRes r h1 F p
    rw [hv] at r1; cases r1
    exact ⟨d :: ds, ⟨_, ys, e1, rt, r2⟩, h2⟩
theorem Fin.bAs {os : List Od} {H : Hp} {e : Ev} {k : List D → M β} {G : List V → Hp → Prop} (h : Fin g W f A σ H ok (mb (mAs os) k e)) (F : FR g f A H σ e)
    (go : ∀ ds e1 vs H1, FR g f A H1 σ e1 → Step A H H1 → RtL g A H1 ds vs → Fin g W f A σ H1 ok (k ds e1) → G vs H1) : rdOs g W os σ H G := by
  unfold mAs at h
  rw [mb_assoc] at h
  refine bAs1 os h F fun ps e1 vs H1 F1 S1 p1 h1 => ?_
  obtain ⟨ds, r, h2⟩ := bRes ps h1 F1 p1
  exact go ds e1 vs H1 F1 S1 r h2
end
def mCB (op : List D → Option D) (os : List Od) : M D := mb (mAs os) fun ds => mo (op ds)
def mCF (op : List D → Option (List D)) (os : List Od) : M (List D) := mb (mAs os) fun ds => mo (op ds)
theorem t_cb {r : List V → Hp → VK → Prop} {op : List D → Option D} {m : List Od} (ho : LS g r op) : ∀ σ H Q, rdE g W (mCB op m) σ H Q → tCB r (rdOs g W m) σ H Q := fun σ H Q ⟨f, A, e, F, h⟩ =>
  Fin.bAs h F fun d1 e1 v1 H1 F1 S1 R1 h1 => by
    obtain ⟨d, q, h2⟩ := Fin.mo h1
    exact ho A H1 d1 d v1 Q F1.al R1 q fun v H2 s r => h2 v H2 (F1.same s) (S1.trans (.of s)) r
theorem FR.new' {f : Fx} {A : Addr → Prop} {H H' : Hp} {σ : Sv} {e : Ev} (F : FR g f A H σ e) {p : Addr} {xs : List V} (h : H p = none) (s : Same H H') (hp : H' p = some (.lst xs)) : FR g f (add1 A p) H' σ e :=
  F.ext s (fun _ z => .inl z) (fun a o z q => z.elim id fun z => by rw [z, h] at q; cases q) (fun a z n => z.elim (fun z => absurd z n) fun z => ⟨.lst xs, by rw [z]; exact hp, rfl⟩)
theorem t_cf {r : List V → Hp → VK → Prop} {op : List D → Option (List D)} {m : List Od} (ho : FS g r op) : ∀ σ H Q, rdF g W (mCF op m) σ H Q → tCB r (rdOs g W m) σ H Q := fun σ H Q ⟨f, A, e, F, h⟩ =>
  Fin.bAs h F fun d1 e1 v1 H1 F1 S1 R1 h1 => by
    obtain ⟨d, q, h2⟩ := Fin.mo h1
    exact ho A H1 d1 d v1 Q F1.al R1 q fun p xs H' hp s _ hl r => h2 p xs H' (F1.same s) (F1.new' hp s hl) (F1.nA hp) (S1.trans (.of s)) (FR.none_of (f := f) S1 hp) hl (RL.mono ⟨F1.al, fun a u q _ => s a u q, fun a u z q => z.elim id fun z => by rw [z, hp] at q; cases q⟩ d r)
section
variable {id : String} {r : List V → Hp → VK → Prop} {x : Str} {es : List Expr} {op : List D → Option D} {opf : List D → Option (List D)} {m : List Od} {p : Pos}
theorem c_cb (hc : CallR X (.builtin id) r) (ho : LS g r op) (hg : Gl X x) (hm : X.mg x = none) (hv : bootBuiltins x = some (.builtin id)) (ha : COs g X W (a :: es) m)
    (hn : x ≠ "__name__") (hdb : (x == ("__debug__" : Str)) = false) (he : starEach (a :: es) X.env = (false, eval a X.env) :: starEach es X.env := by rfl) (hpl : (backTo pos (starEach es X.env)).any (·.1) = false := by rfl) : CE g X W (.Call (.Name x p) (a :: es) [] pos) (mCB op m) :=
  PE.imp (pe_callB hc hg hm hv ha hn hdb he hpl) (t_cb ho)
theorem c_ct (hc : CallR X (.type id) r) (ho : LS g r op) (hg : Gl X x) (hm : X.mg x = none) (hv : bootBuiltins x = some (.type id)) (ha : COs g X W (a :: es) m)
    (hn : x ≠ "__name__") (hdb : (x == ("__debug__" : Str)) = false) (he : starEach (a :: es) X.env = (false, eval a X.env) :: starEach es X.env := by rfl) (hpl : (backTo pos (starEach es X.env)).any (·.1) = false := by rfl) : CE g X W (.Call (.Name x p) (a :: es) [] pos) (mCB op m) :=
  PE.imp (pe_callTy hc hg hm hv ha hn hdb he hpl) (t_cb ho)
theorem cf_cb (hc : CallR X (.builtin id) r) (ho : FS g r opf) (hg : Gl X x) (hm : X.mg x = none) (hv : bootBuiltins x = some (.builtin id)) (ha : COs g X W (a :: es) m)
    (hn : x ≠ "__name__") (hdb : (x == ("__debug__" : Str)) = false) (he : starEach (a :: es) X.env = (false, eval a X.env) :: starEach es X.env := by rfl) (hpl : (backTo pos (starEach es X.env)).any (·.1) = false := by rfl) : CF g X W (.Call (.Name x p) (a :: es) [] pos) (mCF opf m) :=
  PE.imp (pe_callB hc hg hm hv ha hn hdb he hpl) (t_cf ho)
theorem cf_ct (hc : CallR X (.type id) r) (ho : FS g r opf) (hg : Gl X x) (hm : X.mg x = none) (hv : bootBuiltins x = some (.type id)) (ha : COs g X W (a :: es) m)
    (hn : x ≠ "__name__") (hdb : (x == ("__debug__" : Str)) = false) (he : starEach (a :: es) X.env = (false, eval a X.env) :: starEach es X.env := by rfl) (hpl : (backTo pos (starEach es X.env)).any (·.1) = false := by rfl) : CF g X W (.Call (.Name x p) (a :: es) [] pos) (mCF opf m) :=
  PE.imp (pe_callTy hc hg hm hv ha hn hdb he hpl) (t_cf ho)
end
end
end Fw
namespace Fw
open L2 PyProof.Rows PySem PySem.Spec
def mSq (a b : M Fl) : M Fl := fun e => match a e with
  | .ok .nx e' => b e'
  | r => r
section
variable {g : GC} {X : Cx} {W : WK} {st : Stmt} {rest : List Stmt} {ex : Expr} {pos : Pos}
theorem cb_nil : CB g X W [] (mp .nx) := PSs.imp pss_nil fun D σ H ⟨f, A, e, F, h⟩ => h A σ H F (Mono.refl F.al)
theorem t_seq {a b : M Fl} : ∀ D σ H, rdS g W (mSq a b) D σ H → tSeq (rdS g W a) (rdS g W b) D σ H := fun D σ H ⟨f, A, e, F, h⟩ => by
  refine ⟨f, A, e, F, ?_⟩
  unfold mSq at h
  cases q : a e with
  | ok fl e1 =>
    rw [q] at h
    cases fl with
    | nx => exact fun A' σ' H' F' m => ⟨f, A', e1, F', h.from m⟩
    | bk => exact h
    | ct => exact h
    | rt d => exact h
    | rb d => exact h
  | exc c d e1 => rw [q] at h; exact h
  | bad => rw [q] at h; exact h
theorem cb_cons {a b : M Fl} (h1 : CS g X W st a) (h2 : CB g X W rest b) : CB g X W (st :: rest) (mSq a b) := PSs.imp (pss_cons h1 h2) t_seq
theorem cb_one {a : M Fl} (h1 : CS g X W st a) : CB g X W [st] a := pss_one h1
theorem cs_bad : CS g X W st (fun _ => .bad) := PS.imp ps_never fun D σ H ⟨f, A, e, F, h⟩ => h
theorem cb_bad : CB g X W rest (fun _ => .bad) := PSs.imp pss_never fun D σ H ⟨f, A, e, F, h⟩ => h
def mEx (m : M D) : M Fl := mb m fun _ => mp .nx
theorem cs_expr {m : M D} (h : CE g X W ex m) (hs : swapsWith ex none pos.line X.env = pure false := by rfl) : CS g X W (.Expr ex pos) (mEx m) := PS.imp (ps_expr h hs) fun D σ H ⟨f, A, e, F, h⟩ =>
  FinS.bE h F fun d e1 v H1 F1 S1 r h1 => h1 A σ H1 F1 (Mono.refl F1.al)
def mRet (m : M D) : M Fl := mb m fun d => mp (.rt d)
theorem cs_ret {m : M D} (h : CE g X W ex m) : CS g X W (.Return (some ex) pos) (mRet m) := PS.imp (ps_ret h) fun D σ H ⟨f, A, e, F, h⟩ =>
  FinS.bE h F fun d e1 v H1 F1 S1 r h1 => h1 A σ H1 v F1 (Mono.refl F1.al) r
theorem FR.h0 {f : Fx} {A : Addr → Prop} {H : Hp} {σ : Sv} {e : Ev} (F : FR g f A H σ e) {p : Addr} (h : H p = none) : f.H0 p = none := by
  cases z : f.H0 p with
  | none => rfl
  | some o =>
    have : H p = some o := F.keep p o z (fun i q => F.nA h (F.ob p (F.pb i p q).1)) (F.nT (F.nA h))
    rw [h] at this; cases this
theorem FR.boxA {f : Fx} {A : Addr → Prop} {H : Hp} {σ : Sv} {e : Ev} (F : FR g f A H σ e) {i : Nat} {s : Sl} {p : Addr} (h : e[i]? = some s) (hb : s.isBox = true) (hs : σ[i]? = some (some (.ref p))) : A p := by
  have q := F.sl i s _ h hs
  cases s with
  | emp => cases hb
  | val d => cases hb
  | box d => obtain ⟨_, p', e1, h1, _⟩ := q; cases e1; exact h1
  | pbox d => obtain ⟨p', _, e1, h1, _⟩ := q; cases e1; exact h1
theorem FR.bxno {f : Fx} {A : Addr → Prop} {H : Hp} {σ : Sv} {e : Ev} (F : FR g f A H σ e) {i : Nat} {s : Sl} {p : Addr} (h : e[i]? = some s) (hb : s.isBox = true) (hs : σ[i]? = some (some (.ref p))) {o : HO} (ho : H p = some o) (n : isBxO o = false) : False := by
  have q := F.sl i s _ h hs
  cases s with
  | emp => cases hb
  | val d => cases hb
  | box d => obtain ⟨_, p', e1, _, _, h1⟩ := q; cases e1; exact Bx.no h1 ho n
  | pbox d => obtain ⟨p', _, e1, _, h1⟩ := q; cases e1; exact Bx.no h1 ho n
def mRetF (m : M (List D)) : M Fl := mb m fun d => mp (.rb d)
theorem mono_new {f : Fx} {A : Addr → Prop} {H H1 : Hp} {σ : Sv} {e : Ev} (F : FR g f A H σ e) {p : Addr} (S1 : Step A H H1) (hn : H p = none) : Mono A H (add1 A p) H1 :=
  ⟨F.al, S1.st, fun a o z q => z.elim id fun z => by rw [z, hn] at q; cases q⟩
theorem cs_retF {m : M (List D)} (h : CF g X W ex m) : CS g X W (.Return (some ex) pos) (mRetF m) := PS.imp (ps_ret h) fun D σ H ⟨f, A, e, F, h⟩ =>
  FinS.bF h F fun ds e1 p xs H1 F1 F2 n S1 hn hp r h1 => h1 (add1 A p) σ H1 p xs F2 (mono_new F S1 hn) (.inr rfl) (F.h0 hn) (fun i s q hb hs => n (F1.boxA q hb hs)) hp r
def mRetB (i : Nat) : M Fl := fun e => match e[i]? with
  | some (.box (.lst ds)) => .ok (.rb ds) (e.set i .emp)
  | some (.val d) => .ok (.rt d) e
  | _ => .bad
theorem get_set {α : Type} {l : List α} {i j : Nat} {x y : α} (h : (l.set i x)[j]? = some y) : (i = j ∧ i < l.length ∧ y = x) ∨ (i ≠ j ∧ l[j]? = some y) := by
  by_cases q : i = j
  · subst q
    by_cases hl : i < l.length
    · rw [List.getElem?_set_self hl] at h; exact .inl ⟨rfl, hl, (Option.some.inj h).symm⟩
    · rw [List.getElem?_eq_none (by rw [List.length_set]; omega)] at h; cases h
  · rw [List.getElem?_set_ne q] at h; exact .inr ⟨q, h⟩
theorem FR.emp {f : Fx} {A : Addr → Prop} {H : Hp} {σ : Sv} {e : Ev} (F : FR g f A H σ e) {i : Nat} (h : f.pa i = none) : FR g f A H σ (e.set i .emp) where
  len := by rw [List.length_set]; exact F.len
  sl := fun j s o h1 h2 => by
    rcases get_set h1 with ⟨rfl, _, rfl⟩ | ⟨_, h1⟩
    · exact h
    · exact F.sl j s o h1 h2
  inj := fun a b s t p h1 h2 b1 b2 s1 s2 => by
    rcases get_set h1 with ⟨_, _, rfl⟩ | ⟨_, h1⟩
    · cases b1
    · rcases get_set h2 with ⟨_, _, rfl⟩ | ⟨_, h2⟩
      · cases b2
      · exact F.inj a b s t p h1 h2 b1 b2 s1 s2
  nt := fun a s p h1 b1 s1 => by
    rcases get_set h1 with ⟨_, _, rfl⟩ | ⟨_, h1⟩
    · cases b1
    · exact F.nt a s p h1 b1 s1
  tp := F.tp
  ob := F.ob
  ob0 := F.ob0
  pb := fun i p q => by rw [List.length_set]; exact F.pb i p q
  al := F.al
  keep := F.keep
  tb := F.tb
  iv := F.iv
theorem cs_retB (i : Nat) {x : Str} {p : Pos} (h : PE X (.Name x p) (tVar i)) : CS g X W (.Return (some (.Name x p)) pos) (mRetB i) := PS.imp (ps_ret h) fun D σ H ⟨f, A, e, F, h⟩ => by
  unfold mRetB at h
  split at h
  · rename_i ds q
    obtain ⟨o, h1, h2, p, h3, hA, h0, xs, h4, h5⟩ := F.at q
    refine ⟨.ref p, by rw [h1, h3], h A σ H p xs (F.emp h2) (Mono.refl F.al) hA h0 (fun j s hj hb hs => ?_) h4 h5⟩
    rcases get_set hj with ⟨_, _, rfl⟩ | ⟨ne, hj⟩
    · cases hb
    · exact ne (F.inj i j _ s p q hj rfl hb (by rw [h1, h3]) hs)
  · rename_i d q
    obtain ⟨o, h1, _, v, h3, h5⟩ := F.at q
    exact ⟨v, by rw [h1, h3], h A σ H v F (Mono.refl F.al) h5⟩
  · exact h.elim
theorem cs_if {c : Expr} {a b : List Stmt} {mc : M Bool} {ma mb' : M Fl} (hc : CT g X W c mc) (ha : CB g X W a ma) (hb : CB g X W b mb') : CS g X W (.If c a b pos) (mIf mc ma mb') := PS.imp (ps_if hc ha hb) fun D σ H ⟨f, A, e, F, h⟩ =>
  FinS.bT h F fun d e1 H1 F1 S1 h1 => by
    cases d with
    | true => exact ⟨f, A, e1, F1, h1⟩
    | false => exact ⟨f, A, e1, F1, h1⟩
def setV (i : Nat) (d : D) : M Unit := fun e => match e[i]? with
  | some (.pbox _) => .bad
  | some _ => .ok () (e.set i (.val d))
  | none => .bad
def setB (i : Nat) (d : D) : M Unit := fun e => match e[i]? with
  | some (.pbox _) => .bad
  | some _ => .ok () (e.set i (.box d))
  | none => .bad
theorem FR.pa0 {f : Fx} {A : Addr → Prop} {H : Hp} {σ : Sv} {e : Ev} (F : FR g f A H σ e) {i : Nat} {s : Sl} (h : e[i]? = some s) (n : ∀ d, s ≠ .pbox d) : f.pa i = none := by
  obtain ⟨o, _, q⟩ := F.at h
  cases s with
  | emp => exact q
  | val d => exact q.1
  | box d => exact q.1
  | pbox d => exact absurd rfl (n d)
theorem FR.setV {f : Fx} {A : Addr → Prop} {H : Hp} {σ : Sv} {e : Ev} (F : FR g f A H σ e) {i : Nat} {d : D} {v : V} (h : f.pa i = none) (r : R g A H d v) : FR g f A H (σ.set i (some v)) (e.set i (.val d)) where
  len := by rw [List.length_set, List.length_set]; exact F.len
  sl := fun j s o h1 h2 => by
    rcases get_set h1 with ⟨rfl, _, rfl⟩ | ⟨n, h1⟩
    · rcases get_set h2 with ⟨_, _, rfl⟩ | ⟨n, _⟩
      · exact ⟨h, v, rfl, r⟩
      · exact absurd rfl n
    · rw [List.getElem?_set_ne n] at h2
      exact F.sl j s o h1 h2
  inj := fun a b s t p h1 h2 b1 b2 s1 s2 => by
    rcases get_set h1 with ⟨_, _, rfl⟩ | ⟨n1, h1⟩
    · cases b1
    · rcases get_set h2 with ⟨_, _, rfl⟩ | ⟨n2, h2⟩
      · cases b2
      · rw [List.getElem?_set_ne n1] at s1; rw [List.getElem?_set_ne n2] at s2
        exact F.inj a b s t p h1 h2 b1 b2 s1 s2
  nt := fun a s p h1 b1 s1 => by
    rcases get_set h1 with ⟨_, _, rfl⟩ | ⟨n1, h1⟩
    · cases b1
    · rw [List.getElem?_set_ne n1] at s1
      exact F.nt a s p h1 b1 s1
  tp := F.tp
  ob := F.ob
  ob0 := F.ob0
  pb := fun i p q => by rw [List.length_set]; exact F.pb i p q
  al := F.al
  keep := F.keep
  tb := F.tb
  iv := F.iv
theorem setV_inv {f : Fx} {A : Addr → Prop} {H : Hp} {σ : Sv} {e : Ev} (F : FR g f A H σ e) {i : Nat} {d : D} : Fw.setV i d e = .bad ∨ (f.pa i = none ∧ Fw.setV i d e = .ok () (e.set i (.val d))) := by
  unfold Fw.setV
  cases q : e[i]? with
  | none => exact .inl rfl
  | some s =>
    cases s with
    | pbox d => exact .inl rfl
    | emp => exact .inr ⟨F.pa0 q (fun _ z => by cases z), rfl⟩
    | val d => exact .inr ⟨F.pa0 q (fun _ z => by cases z), rfl⟩
    | box d => exact .inr ⟨F.pa0 q (fun _ z => by cases z), rfl⟩
theorem FR.setB {f : Fx} {A : Addr → Prop} {H : Hp} {σ : Sv} {e : Ev} {p : Addr} (F0 : FR g f A H σ e) (F : FR g f (add1 A p) H σ e) {i : Nat} {d : D} (h : f.pa i = none) (nA : ¬ A p) (h0 : f.H0 p = none) (r : Bx g (add1 A p) H d p) : FR g f (add1 A p) H (σ.set i (some (.ref p))) (e.set i (.box d)) where
  len := by rw [List.length_set, List.length_set]; exact F.len
  sl := fun j s o h1 h2 => by
    rcases get_set h1 with ⟨rfl, _, rfl⟩ | ⟨n, h1⟩
    · rcases get_set h2 with ⟨_, _, rfl⟩ | ⟨n, _⟩
      · exact ⟨h, p, rfl, .inr rfl, h0, r⟩
      · exact absurd rfl n
    · rw [List.getElem?_set_ne n] at h2
      exact F.sl j s o h1 h2
  inj := fun a b s t q h1 h2 b1 b2 s1 s2 => by
    rcases get_set h1 with ⟨rfl, l1, rfl⟩ | ⟨n1, h1⟩
    · rcases get_set h2 with ⟨rfl, _, rfl⟩ | ⟨n2, h2⟩
      · rfl
      · rw [List.getElem?_set_ne n2] at s2
        rw [List.getElem?_set_self (by rw [F.len]; exact l1)] at s1
        cases s1
        exact absurd (F0.boxA h2 b2 s2) nA
    · rw [List.getElem?_set_ne n1] at s1
      rcases get_set h2 with ⟨rfl, l2, rfl⟩ | ⟨n2, h2⟩
      · rw [List.getElem?_set_self (by rw [F.len]; exact l2)] at s2
        cases s2
        exact absurd (F0.boxA h1 b1 s1) nA
      · rw [List.getElem?_set_ne n2] at s2
        exact F.inj a b s t q h1 h2 b1 b2 s1 s2
  nt := fun a s q h1 b1 s1 => by
    rcases get_set h1 with ⟨rfl, l1, rfl⟩ | ⟨n1, h1⟩
    · rw [List.getElem?_set_self (by rw [F.len]; exact l1)] at s1
      cases s1
      cases z : f.T p with
      | none => rfl
      | some o => exact absurd (F0.tp p o z).1 nA
    · rw [List.getElem?_set_ne n1] at s1
      exact F.nt a s q h1 b1 s1
  tp := F.tp
  ob := F.ob
  ob0 := F.ob0
  pb := fun i p q => by rw [List.length_set]; exact F.pb i p q
  al := F.al
  keep := F.keep
  tb := F.tb
  iv := F.iv
def mSet (i : Nat) (m : M D) : M Fl := mb m fun d => mb (Fw.setV i d) fun _ => mp .nx
def mSetB (i : Nat) (m : M (List D)) : M Fl := mb m fun d => mb (Fw.setB i (.lst d)) fun _ => mp .nx
theorem cs_set (i : Nat) {x : Str} {m : M D} {p : Pos} (h : PS X (.Assign [.Name x p] ex pos) (tAsg (rdE g W m) (gName i))) : CS g X W (.Assign [.Name x p] ex pos) (mSet i m) := PS.imp h fun D σ H ⟨f, A, e, F, h⟩ =>
  FinS.bE h F fun d e1 v H1 F1 S1 r h1 => by
    rcases setV_inv F1 (i := i) (d := d) with q | ⟨hp, q⟩
    · unfold mb at h1; rw [q] at h1; exact h1.elim
    · unfold mb at h1; rw [q] at h1; exact h1 A _ H1 (F1.setV hp r) (Mono.refl F1.al)
theorem setB_inv {f : Fx} {A : Addr → Prop} {H : Hp} {σ : Sv} {e : Ev} (F : FR g f A H σ e) {i : Nat} {d : D} : Fw.setB i d e = .bad ∨ (f.pa i = none ∧ Fw.setB i d e = .ok () (e.set i (.box d))) := by
  unfold Fw.setB
  cases q : e[i]? with
  | none => exact .inl rfl
  | some s =>
    cases s with
    | pbox d => exact .inl rfl
    | emp => exact .inr ⟨F.pa0 q (fun _ z => by cases z), rfl⟩
    | val d => exact .inr ⟨F.pa0 q (fun _ z => by cases z), rfl⟩
    | box d => exact .inr ⟨F.pa0 q (fun _ z => by cases z), rfl⟩
theorem cs_setB (i : Nat) {x : Str} {m : M (List D)} {p : Pos} (h : PS X (.Assign [.Name x p] ex pos) (tAsg (rdF g W m) (gName i))) : CS g X W (.Assign [.Name x p] ex pos) (mSetB i m) := PS.imp h fun D σ H ⟨f, A, e, F, h⟩ =>
  FinS.bF h F fun ds e1 p xs H1 F1 F2 n S1 hn hp r h1 => by
    rcases setB_inv F1 (i := i) (d := .lst ds) with q | ⟨hpa, q⟩
    · unfold mb at h1; rw [q] at h1; exact h1.elim
    · unfold mb at h1; rw [q] at h1
      exact h1 (add1 A p) _ H1 (F1.setB F2 hpa n (F.h0 hn) ⟨xs, hp, r⟩) (mono_new F S1 hn)
def mUb (i : Nat) (m : M Fl) : M Fl := fun e => match e[i]? with
  | some (.box (.lst d)) => m (e.set i (.val (.lst d)))
  | _ => m e
theorem Bx.r {A A' : Addr → Prop} {H : Hp} {p : Addr} (m : Mono A H A' H) (n : ¬ A' p) {ds : List D} : Bx g A H (.lst ds) p → R g A' H (.lst ds) (.ref p)
  | ⟨xs, h, r⟩ => ⟨p, xs, rfl, h, n, RL.mono m ds r⟩
theorem FR.unbox {f : Fx} {A : Addr → Prop} {H : Hp} {σ : Sv} {e : Ev} (F : FR g f A H σ e) {i : Nat} {d : List D} (h : e[i]? = some (.box (.lst d))) : ∃ A', FR g f A' H σ (e.set i (.val (.lst d))) ∧ Mono A H A' H := by
  obtain ⟨o, h1, h2, p, h3, hA, h0, hb⟩ := F.at h
  have m : Mono A H (fun a => A a ∧ a ≠ p) H := ⟨F.al, fun _ _ q _ => q, fun _ _ z _ => z.1⟩
  refine ⟨fun a => A a ∧ a ≠ p, ⟨by rw [List.length_set]; exact F.len, fun j s o' q1 q2 => ?_, fun a b s t q q1 q2 b1 b2 s1 s2 => ?_, fun a s q q1 b1 s1 => ?_, fun a u z => ⟨⟨(F.tp a u z).1, fun q => by rw [q, F.nt i _ p h rfl (by rw [h1, h3])] at z; cases z⟩, (F.tp a u z).2⟩, fun a z => ⟨F.ob a z, fun q => ?_⟩, F.ob0, fun i p q => by rw [List.length_set]; exact F.pb i p q, fun a z => F.al a z.1, F.keep, fun q z => let ⟨z1, z2, z3⟩ := F.tb q z; ⟨⟨z1, by obtain ⟨ys, hy, _⟩ := hb; exact tabS_ne z3 hy rfl⟩, z2, z3⟩, g.ivM m.w F.iv⟩, m⟩
  · rcases get_set q1 with ⟨rfl, _, rfl⟩ | ⟨n, q1⟩
    · rw [h1] at q2; cases q2
      exact ⟨h2, _, h3, Bx.r m (fun z => z.2 rfl) hb⟩
    · have q3 := F.sl j s o' q1 q2
      have np : ∀ p', s.isBox = true → o' = some (.ref p') → p' ≠ p := fun p' hb' eo z => n (F.inj i j _ s p h q1 rfl hb' (by rw [h1, h3]) (by rw [q2, eo, z]))
      cases s with
      | emp => exact q3
      | val d => obtain ⟨a, v, b, c⟩ := q3; exact ⟨a, v, b, R.mono m d c⟩
      | box d => obtain ⟨a, p', b, c, c0, dd⟩ := q3; exact ⟨a, p', b, ⟨c, np p' rfl b⟩, c0, Bx.mono m (fun _ z => z) dd⟩
      | pbox d => obtain ⟨p', a, b, c, dd⟩ := q3; exact ⟨p', a, b, ⟨c, np p' rfl b⟩, Bx.mono m (fun _ z => z) dd⟩
  · rcases get_set q1 with ⟨_, _, rfl⟩ | ⟨_, q1⟩
    · cases b1
    · rcases get_set q2 with ⟨_, _, rfl⟩ | ⟨_, q2⟩
      · cases b2
      · exact F.inj a b s t q q1 q2 b1 b2 s1 s2
  · rcases get_set q1 with ⟨_, _, rfl⟩ | ⟨_, q1⟩
    · cases b1
    · exact F.nt a s q q1 b1 s1
  · obtain ⟨o, q2⟩ := F.ob0 a z
    rw [q, h0] at q2; cases q2
theorem t_ub {i : Nat} {m : M Fl} : ∀ D σ H, rdS g W (mUb i m) D σ H → rdS g W m D σ H := fun D σ H ⟨f, A, e, F, h⟩ => by
  unfold mUb at h
  split at h
  · rename_i d q
    obtain ⟨A', F', m'⟩ := F.unbox q
    exact ⟨f, A', _, F', h.from m'⟩
  · exact ⟨f, A, e, F, h⟩
theorem cb_ub (i : Nat) {m : M Fl} (h : CB g X W rest m) : CB g X W rest (mUb i m) := PSs.imp h t_ub
end
end Fw
namespace Fw
open L2 PyProof.Rows PySem PySem.Spec
def mWh (c : M Bool) (b : M Fl) : Nat → M Fl
  | 0 => fun _ => .bad
  | n + 1 => fun e => match c e with
    | .ok true e1 => (match b e1 with
      | .ok .nx e2 => mWh c b n e2
      | .ok .ct e2 => mWh c b n e2
      | .ok .bk e2 => .ok .nx e2
      | r => r)
    | .ok false e1 => .ok .nx e1
    | .exc k d e1 => .exc k d e1
    | .bad => .bad
section
variable {g : GC} {X : Cx} {W : WK} {st : Stmt} {rest : List Stmt} {ex : Expr} {pos : Pos}
theorem cs_while (n : Nat) {c : Expr} {body : List Stmt} {mc : M Bool} {mb' : M Fl} (hp : PassesOwn (model X.prog X.w) X.A X.env X.xe) (hc : CT g X W c mc) (hb : CB g X W body mb') : CS g X W (.While c body [] pos) (mWh mc mb' n) :=
  PS.imp (ps_while hp hc hb) fun D σ H ⟨f, A, e, F, h⟩ => by
    refine ⟨fun m σ' H' => ∃ A' e', FR g f A' H' σ' e' ∧ FinS g W f A' H' D (mWh mc mb' m e'), ⟨n, A, e, F, h⟩, ?_⟩
    rintro m σ H ⟨A, e, F, h⟩
    cases m with
    | zero => exact h.elim
    | succ m =>
      unfold mWh at h
      refine ⟨f, A, e, F, ?_⟩
      cases q : mc e with
      | ok b e1 =>
        rw [q] at h
        intro H1 F1 S1
        cases b with
        | true =>
          rw [if_pos rfl]
          refine ⟨fun σ' H' => ∃ A' e', FR g f A' H' σ' e' ∧ FinS g W f A' H' D (mWh mc mb' m e'), fun σ' H' h' => ⟨m, Nat.lt_succ_self m, h'⟩, f, A, e1, F1, ?_⟩
          have h : FinS g W f A H D (match mb' e1 with
            | .ok .nx e2 => mWh mc mb' m e2
            | .ok .ct e2 => mWh mc mb' m e2
            | .ok .bk e2 => .ok .nx e2
            | r => r) := h
          have h := h.from (F.mono S1)
          cases q2 : mb' e1 with
          | ok fl e2 =>
            rw [q2] at h
            cases fl with
            | nx => exact fun A' σ' H' F' m' => ⟨A', e2, F', h.from m'⟩
            | ct => exact fun A' σ' H' F' m' => ⟨A', e2, F', h.from m'⟩
            | bk => exact fun A' σ' H' F' m' => h A' σ' H' F' m'
            | rt d => exact h
            | rb d => exact h
          | exc k d e2 => rw [q2] at h; exact h
          | bad => rw [q2] at h; exact h.elim
        | false =>
          rw [if_neg Bool.false_ne_true]
          exact h A σ H1 F1 (F.mono S1)
      | exc k d e1 =>
        rw [q] at h
        exact fun cls dd H' F' S x => h A σ cls dd H' F' (F.mono S) x
      | bad => rw [q] at h; exact h.elim
def FinG (g : GC) (f : Fx) (A : Addr → Prop) (σ : Sv) (H : Hp) (sl : List Nat) (Q : Sv → Hp → Prop) : Rs Unit → Prop
  | .ok _ e' => ∀ σ' H', FR g f A H' σ' e' → Step A H H' → (∀ j : Nat, j ∉ sl → σ'[j]? = σ[j]?) → σ'.length = σ.length → Q σ' H'
  | _ => False
def rdG (g : GC) (sl : List Nat) (bd : D → M Unit) : TG := fun v σ H Q => ∃ f A e d, FR g f A H σ e ∧ R g A H d v ∧ FinG g f A σ H sl Q (bd d e)
def rdGs (g : GC) (sl : List Nat) (bd : List D → M Unit) : TGs := fun vs σ H Q => ∃ f A e ds, FR g f A H σ e ∧ RL g A H ds vs ∧ FinG g f A σ H sl Q (bd ds e)
abbrev CG (g : GC) (X : Cx) (e : Expr) (sl : List Nat) (bd : D → M Unit) : Prop := PG X e (rdG g sl bd)
abbrev CGs (g : GC) (X : Cx) (e : List Expr) (sl : List Nat) (bd : List D → M Unit) : Prop := PGs X e (rdGs g sl bd)
theorem PG.imp {X : Cx} {e : Expr} {t u : TG} (h : PG X e t) (i : ∀ v σ H Q, u v σ H Q → t v σ H Q) : PG X e u := ⟨fun pins s σ H v u' Q I r q => h.run pins s σ H v u' Q I r (i _ _ _ _ q)⟩
theorem PGs.imp {X : Cx} {e : List Expr} {t u : TGs} (h : PGs X e t) (i : ∀ v σ H Q, u v σ H Q → t v σ H Q) : PGs X e u := ⟨fun pins s σ H v u' Q I r q => h.run pins s σ H v u' Q I r (i _ _ _ _ q)⟩
theorem cg_name (i : Nat) {x : Str} {p : Pos} (h : PG X (.Name x p) (gName i)) : CG g X (.Name x p) [i] (Fw.setV i) := PG.imp h fun v σ H Q ⟨f, A, e, d, F, r, h⟩ => by
  rcases setV_inv F (i := i) (d := d) with q | ⟨hp, q⟩
  · rw [q] at h; exact h.elim
  · rw [q] at h; exact h _ H (F.setV hp r) .refl (fun j hj => List.getElem?_set_ne (by simpa using Ne.symm (by simpa using hj))) (List.length_set)
def gsNil : List D → M Unit
  | [] => mp ()
  | _ => fun _ => .bad
def gsCons (b : D → M Unit) (bs : List D → M Unit) : List D → M Unit
  | d :: ds => mb (b d) fun _ => bs ds
  | [] => fun _ => .bad
def gTupD (n : Nat) (bs : List D → M Unit) : D → M Unit
  | .tup ds => if ds.length = n then bs ds else fun _ => .bad
  | _ => fun _ => .bad
theorem cgs_nil : CGs g X [] [] gsNil := PGs.imp pgs_nil fun vs σ H Q ⟨f, A, e, ds, F, r, h⟩ => by
  cases ds with
  | nil => exact ⟨r, h σ H F .refl (fun _ _ => rfl) rfl⟩
  | cons d ds => exact h.elim
theorem cgs_cons {e : Expr} {es : List Expr} {l1 l2 : List Nat} {b : D → M Unit} {bs : List D → M Unit} (h1 : CG g X e l1 b) (h2 : CGs g X es l2 bs) (hs : (assignEach (e :: es) X.env).map (·.2) = assign e X.env :: (assignEach es X.env).map (·.2) := by rfl) : CGs g X (e :: es) (l1 ++ l2) (gsCons b bs) :=
  PGs.imp (pgs_cons h1 h2 hs) fun vs σ H Q ⟨f, A, e, ds, F, r, h⟩ => by
    cases ds with
    | nil => exact h.elim
    | cons d ds =>
      obtain ⟨y, ys, e1, r1, r2⟩ := r
      refine ⟨y, ys, e1, f, A, e, d, F, r1, ?_⟩
      have h : FinG g f A σ H (l1 ++ l2) Q (mb (b d) (fun _ => bs ds) e) := h
      unfold mb at h
      cases q : b d e with
      | ok u e1 =>
        rw [q] at h
        refine fun σ' H' F' m sm ln => ⟨f, A, e1, ds, F', F.rl m r2, ?_⟩
        have h : FinG g f A σ H (l1 ++ l2) Q (bs ds e1) := h
        generalize bs ds e1 = rs at h
        cases rs with
        | ok u2 e2 => exact fun σ2 H2 F2 m2 sm2 ln2 => h σ2 H2 F2 (m.trans m2) (fun j hj => (sm2 j fun z => hj (List.mem_append_right _ z)).trans (sm j fun z => hj (List.mem_append_left _ z))) (ln2.trans ln)
        | exc _ _ _ => exact h
        | bad => exact h
      | exc _ _ _ => rw [q] at h; exact h
      | bad => rw [q] at h; exact h
theorem cg_tup {es : List Expr} {k : Nat} {sl : List Nat} {bs : List D → M Unit} {n : Nat} {p : Pos} (hc : X.calm = true) (hK : X.K = g.K) (h : CGs g X es sl bs) (hn : (assignEach es X.env).length = n := by rfl) (hst : (assignEach es X.env).findIdx? (·.1) = none := by rfl) : CG g X (.Tuple es k p) sl (gTupD n bs) :=
  PG.imp (pg_tup hc h hn hst) fun v σ H Q ⟨f, A, e, d, F, r, h⟩ => by
    cases d with
    | tup ds =>
      obtain ⟨a, xs, e1, h1, r⟩ := r
      have h : FinG g f A σ H sl Q ((if ds.length = n then bs ds else fun _ => .bad) e) := h
      by_cases hl : ds.length = n
      · rw [if_pos hl] at h
        exact ⟨a, xs, e1, SqT.of h1, by rw [RL.length r]; exact hl, f, A, e, ds, F, r, h⟩
      · rw [if_neg hl] at h; exact h.elim
    | _ => exact h.elim
def mAsg (m : M D) (bd : D → M Unit) : M Fl := mb m fun d e => match bd d e with
  | .ok _ e' => .ok .nx e'
  | _ => .bad
theorem cs_asg {tg : Expr} {m : M D} {sl : List Nat} {bd : D → M Unit} (he : CE g X W ex m) (hg : CG g X tg sl bd) (hs : swapsWithSole [tg] ex pos.line X.env = pure false := by rfl) (hw : swappedStores [tg] ex X.env = pure none := by rfl)
    (h1 : (assignEach [tg] X.env).map (·.2) = [assign tg X.env] := by rfl) : CS g X W (.Assign [tg] ex pos) (mAsg m bd) := PS.imp (ps_asg he hg hs hw h1) fun D σ H ⟨f, A, e, F, h⟩ =>
  FinS.bE h F fun d e1 v H1 F1 S1 r h1 => by
    refine ⟨f, A, e1, d, F1, r, ?_⟩
    cases q : bd d e1 with
    | ok u e2 => simp only [q] at h1; exact fun σ' H' F' m _ _ => h1 A σ' H' F' (F1.mono m)
    | exc c k e' => simp only [q] at h1; exact h1
    | bad => simp only [q] at h1; exact h1
def Wlk (g : GC) (A : Addr → Prop) (H : Hp) (J : It) (ds : List D) : Prop := ∀ (A' : Addr → Prop) (H' : Hp) (i : Nat), Mono A H A' H' → Al A' H' →
  (∀ d, ds[i]? = some d → J.go i H' ∧ ∀ x H2, J.yld i H' x H2 → Same H' H2 ∧ R g A' H2 d x) ∧ (ds.length = i → J.stop i H')
def rdI (g : GC) (W : WK) (m : M (List D)) : TI := fun σ H Rk => ∃ f A e, FR g f A H σ e ∧ Fin g W f A σ H (fun ds e' => ∀ J H', FR g f A H' σ e' → Step A H H' → Wlk g A H' J ds → Rk J H') (m e)
abbrev CI (g : GC) (X : Cx) (W : WK) (tg it : Expr) (m : M (List D)) : Prop := PI X tg it (rdI g W m)
theorem PI.imp {X : Cx} {tg it : Expr} {t u : TI} (h : PI X tg it t) (i : ∀ σ H Q, u σ H Q → t σ H Q) : PI X tg it u := ⟨fun pins s σ H Rk I q => h.run pins s σ H Rk I (i _ _ _ q)⟩
def mFl (bd : D → M Unit) (b : M Fl) : List D → M Fl
  | [] => mp .nx
  | d :: ds => fun e => match bd d e with
    | .ok _ e1 => (match b e1 with
      | .ok .nx e2 => mFl bd b ds e2
      | .ok .ct e2 => mFl bd b ds e2
      | .ok .bk e2 => .ok .nx e2
      | r => r)
    | _ => .bad
def mFor (mi : M (List D)) (bd : D → M Unit) (b : M Fl) : M Fl := mb mi fun ds => mFl bd b ds
theorem FinS.bI {f : Fx} {A : Addr → Prop} {σ : Sv} {H : Hp} {e : Ev} {E : Ends} {ma : M (List D)} {k : List D → M Fl} (h : FinS g W f A H E (mb ma k e)) (F : FR g f A H σ e) {G : It → Hp → Prop}
    (go : ∀ ds e1 J H1, FR g f A H1 σ e1 → Step A H H1 → Wlk g A H1 J ds → FinS g W f A H1 E (k ds e1) → G J H1) : rdI g W ma σ H G := by
  refine ⟨f, A, e, F, ?_⟩
  unfold mb at h
  cases q : ma e with
  | ok d e1 => rw [q] at h; exact fun J H1 F1 S1 r => go d e1 J H1 F1 S1 r (h.from (F.mono S1))
  | exc c d e1 => rw [q] at h; exact fun cls dd H' F' S x => h _ _ cls dd H' F' (F.mono S) x
  | bad => rw [q] at h; exact h
theorem cs_for {tg iter : Expr} {body : List Stmt} {mi : M (List D)} {bd : D → M Unit} {mb' : M Fl} (hp : PassesOwn (model X.prog X.w) X.A X.env X.xe) (hc : X.calm = true) (hi : CI g X W tg iter mi) {sl : List Nat} (hg : CG g X tg sl bd) (hb : CB g X W body mb')
    (hs : ∀ x, foldedSetIterable iter X.env x = pure x := by intro _; rfl) : CS g X W (.For tg iter body [] pos) (mFor mi bd mb') := PS.imp (ps_for hp hc hi hg hb hs) fun D σ H ⟨f, A, e, F, h⟩ =>
  FinS.bI h F fun ds e1 J H1 F1 S1 wk h1 => by
    refine ⟨fun i m σ' H' => m = ds.length - i ∧ i ≤ ds.length ∧ ∃ A' e', FR g f A' H' σ' e' ∧ Mono A H1 A' H' ∧ FinS g W f A' H' D (mFl bd mb' (ds.drop i) e'), ⟨ds.length, rfl, Nat.zero_le _, A, e1, F1, Mono.refl F1.al, h1⟩, ?_⟩
    rintro i m σ2 H2 ⟨rfl, hi, A2, e2, F2, M2, h2⟩
    obtain ⟨w1, w2⟩ := wk A2 H2 i M2 F2.al
    by_cases hlt : i < ds.length
    · right
      have hd : ds[i]? = some ds[i] := List.getElem?_eq_getElem hlt
      obtain ⟨g1, g2⟩ := w1 _ hd
      refine ⟨g1, fun σ' H' => ∃ A' e', FR g f A' H' σ' e' ∧ Mono A H1 A' H' ∧ FinS g W f A' H' D (mFl bd mb' (ds.drop (i + 1)) e'), fun σ' H' q => ⟨ds.length - (i + 1), by omega, rfl, hlt, q⟩, fun x H3 y => ?_⟩
      obtain ⟨s3, r3⟩ := g2 x H3 y
      have F3 := F2.same s3
      have M3 : Mono A2 H2 A2 H3 := Mono.same F2.al s3
      refine ⟨f, A2, e2, ds[i], F3, r3, ?_⟩
      rw [List.drop_eq_getElem_cons hlt] at h2
      have h2 := h2.from M3
      unfold mFl at h2
      cases q : bd ds[i] e2 with
      | ok u e3 =>
        rw [q] at h2
        intro σ4 H4 F4 S4 _ _
        have M4 := F3.mono S4
        have h2 : FinS g W f A2 H3 D (match mb' e3 with
            | .ok .nx e2 => mFl bd mb' (ds.drop (i + 1)) e2
            | .ok .ct e2 => mFl bd mb' (ds.drop (i + 1)) e2
            | .ok .bk e2 => .ok .nx e2
            | r => r) := h2
        have h4 := h2.from M4
        have MM : Mono A H1 A2 H4 := M2.trans (M3.trans M4)
        refine ⟨f, A2, e3, F4, ?_⟩
        cases q2 : mb' e3 with
        | ok fl e4 =>
          rw [q2] at h4
          cases fl with
          | nx => exact fun A' σ' H' F' m' => ⟨A', e4, F', MM.trans m', h4.from m'⟩
          | ct => exact fun A' σ' H' F' m' => ⟨A', e4, F', MM.trans m', h4.from m'⟩
          | bk => exact fun A' σ' H' F' m' => h4 A' σ' H' F' m'
          | rt d => exact h4
          | rb d => exact h4
        | exc k d e4 => rw [q2] at h4; exact h4
        | bad => rw [q2] at h4; exact h4.elim
      | exc c d e' => rw [q] at h2; exact h2.elim
      | bad => rw [q] at h2; exact h2.elim
    · have e0 : i = ds.length := by omega
      left
      refine ⟨w2 (by omega), ?_⟩
      rw [e0, List.drop_length] at h2
      exact h2 A2 σ2 H2 F2 (Mono.refl F2.al)
end
end Fw
namespace Fw
open L2 PyProof.Rows PySem PySem.Spec
structure FnG (P : Program) (w : World) (K : PySem.W.Frag) (mg : Str → Option Value) (base : Heap) (k : Nat) (f : Addr) (fd : FuncData) (ps : List Str) (sp : Sp) : Prop where
  len : ∀ vs H Q E, sp vs H Q E → vs.length = ps.length
  run : ∀ (A : Around) (outer : List Env) (s : Shared) (H : Hp) (args : Args) (us : List Value) (vs : List V) (Q : VK) (E : XK), Room k A → A.guards = some [] →
    Env0 P w K mg base A outer s H → BindsTo s fd args (ps.zip us) → Vals vs us → sp vs H Q E → codeAny (model P w) A (.call (.ref f) args) (CR (L2N.CX P w) outer P w H s Q E) s
theorem FnG.mono {P : Program} {w : World} {K : PySem.W.Frag} {mg : Str → Option Value} {base : Heap} {j k : Nat} {f : Addr} {fd : FuncData} {ps : List Str} {sp : Sp} (F : FnG P w K mg base j f fd ps sp) (h : j ≤ k) : FnG P w K mg base k f fd ps sp :=
  ⟨F.len, fun A o s H as us vs Q E r => F.run A o s H as us vs Q E (r.mono h)⟩
theorem FnG.of {P : Program} {w : World} {K : PySem.W.Frag} {mg : Str → Option Value} {base : Heap} {x qual : Str} {params : Arguments} {body : List Stmt} {scope : Scope} {dvs : List V} {kws : List (Str × V)} {f : Addr} {fd : FuncData} {N ps : List Str} {k : Nat} {sp : Sp}
    (F : FunD K x qual params body scope dvs kws f fd) (S : FnScope N ps scope) (len : ∀ vs H Q E, sp vs H Q E → vs.length = ps.length)
    (hbody : ∀ (cdv : Value) (A : Around) (outer : List Env) (s : Shared) (H : Hp) (vs : List V) (Q : VK) (E : XK), Room k (A.deeper (envOfC qual scope s.heap.objs.size f cdv)) → A.guards = some [] → sp vs H Q E →
      ∃ t, PSs (cxOf (L2N.CX P w) P w K mg base N qual scope f cdv A outer s H E) body t ∧ t ⟨fun _ H' => Q .non H', Q, fun _ _ => False, fun _ _ => False⟩ (L2.start N vs) H) : FnG P w K mg base (k + 1) f fd ps sp := by
  obtain ⟨oc, od, dV, kV, doc, pm, an, cdv, ct, osl, rfl, lk, hcd, _, _⟩ := F.ex
  refine ⟨len, fun A outer s H args us vs Q E room gd ev binds rel hsp => ?_⟩
  have kin : K.In s.heap := ev.mod.kin.keeps fun b o q => (ev.bs b o q).1
  refine codeAny_call_function room.depth (kin _ _ lk) rfl S.co S.gen rfl (PySem.W.codeRec_of kin hcd) (binds _ _ _ _ ?_)
  refine wpAny_newFunctionEnv_cells S.kind (fun ⟨n, v⟩ hy => ?_) fun env he s1 ic => ?_
  · exact (S.par n (List.of_mem_zip hy).1).imp id fun q => ⟨q, PySem.W.cellsFrom_some _ _ _ (.inl q)⟩
  · subst he
    refine ⟨(ev.mod.nolimit.keeps fun b o q => (ev.bs b o q).1).keeps ic.toInCall.keep, codeAny_func ?_⟩
    obtain ⟨t, ht, hq⟩ := hbody cdv A outer s H vs Q E (room.deeper _) gd hsp
    refine wpAny_mono (ht.run [] s1 (L2.start N vs) H _ (inv_start S room.hd ev (len _ _ _ _ hsp) rel ic) hq) (fun fl s' z => ?_) fun _ _ z => z
    cases fl with
    | ret u => obtain ⟨v, σ', H', J, rv, q⟩ := z; exact ⟨v, H', J.os, J.bare, J.base, J.hok, rv, q⟩
    | next => obtain ⟨σ', H', J, q⟩ := z; exact ⟨.non, H', J.os, J.bare, J.base, J.hok, rfl, q⟩
    | brk => obtain ⟨_, _, _, q⟩ := z; exact q.elim
    | cont => obtain ⟨_, _, _, q⟩ := z; exact q.elim
section
variable {X : Cx} {k : Nat} {f : Addr} {fd : FuncData} {ps : List Str} {sp : Sp} {W : WK} {x : Str} {p pos : Pos} {e : Expr} {es : List Expr} {t : TA}
theorem run_g {pins : List (Addr × Obj)} {σ : Sv} {H : Hp} {s : Shared} {Q : VK} {args : Args} {us : List Value} {vs : List V} (F : FnG X.prog X.w X.K X.mg X.base k f fd ps sp) (hr : Room k X.A) (gd : X.A.guards = some []) (tk : L2N.Takes X W)
    (I : Inv X pins σ H s) (hb : BindsTo s fd args (ps.zip us)) (r : Vals vs us) (h : sp vs H Q (WE W σ)) : wpAny (model X.prog X.w) X.A (call (.ref f) args.pos args.kw) (EP X pins σ Q) X.xe s := by
  refine wpAny_call (codeAny_mono (F.run X.A X.stack s H args us vs Q (WE W σ) hr gd I.env0 hb r h) fun r s' hq => ?_)
  cases r with
  | error e => exact L2N.passAt tk σ pins H s e s' I hq
  | ok fl => cases fl with
    | ret u => exact I.after hq
    | next => exact hq.elim
    | brk => exact hq.elim
    | cont => exact hq.elim
def tCg (sp : Sp) (W : WK) (t : TA) : TE := fun σ H Q => t σ H fun vs H1 => sp vs H1 Q (WE W σ)
theorem pe_callG (F : FnG X.prog X.w X.K X.mg X.base k f fd ps sp) (hr : Room k X.A) (gd : X.A.guards = some []) (hg : Gl X x) (hm : X.mg x = some (.ref f)) (hk : PySem.W.keepIn X.K (.ref f) = true) (hb : Binds X.K fd ps []) (tk : L2N.Takes X W) (ha : PA X (e :: es) t)
    (hdb : (x == ("__debug__" : Str)) = false) (he : starEach (e :: es) X.env = (false, eval e X.env) :: starEach es X.env := by rfl) (hpl : (backTo pos (starEach es X.env)).any (·.1) = false := by rfl) : PE X (.Call (.Name x p) (e :: es) [] pos) (tCg sp W t) := by
  refine ⟨fun pins s σ H Q I h => wpAny_Call_Name_kw (ld_glob I hg hm ?_ hdb)⟩
  refine PySem.W.callWith_K (h₀ := X.base) I.ok.mod.kin hk (thn (ha.run pos pins s σ H _ I h) fun us s1 ⟨vs, H1, I1, r, q⟩ => ⟨I1.kIn, ?_⟩) he hpl
  have hl : us.length = ps.length := by rw [← r.length]; exact F.len _ _ _ _ q
  have b := hb s1 us I1.kIn (by rw [List.append_nil]; exact hl)
  rw [List.append_nil] at b
  exact run_g (args := ⟨us, []⟩) F hr gd tk I1 b r q
theorem pe_callG0 (F : FnG X.prog X.w X.K X.mg X.base k f fd [] sp) (hr : Room k X.A) (gd : X.A.guards = some []) (hg : Gl X x) (hm : X.mg x = some (.ref f)) (hk : PySem.W.keepIn X.K (.ref f) = true) (hb : Binds X.K fd [] []) (tk : L2N.Takes X W)
    (hdb : (x == ("__debug__" : Str)) = false) : PE X (.Call (.Name x p) [] [] pos) (tCg sp W tNil) := by
  refine ⟨fun pins s σ H Q I h => wpAny_Call_Name_kw (ld_glob I hg hm ?_ hdb)⟩
  exact PySem.W.callWith_K0 I.kIn hk (run_g (args := ⟨[], []⟩) F hr gd tk I (hb s [] I.kIn rfl) .nil h)
end
inductive RV where
  | v (d : D) | b (ds : List D)
abbrev Fn := List Sl → Rs RV
def mkFn (np nl : Nat) (body : M Fl) : Fn := fun as => if as.length = np then
  (match body (as ++ List.replicate (nl - np) .emp) with
  | .ok (.rt d) e => .ok (.v d) (e.take np)
  | .ok (.rb ds) e => .ok (.b ds) (e.take np)
  | .ok .nx e => .ok (.v .non) (e.take np)
  | .exc c d e => .exc c d (e.take np)
  | _ => .bad) else .bad
def Sl.isP : Sl → Bool
  | .pbox _ => true
  | _ => false
def ArgR (g : GC) (OB : Addr → Prop) (H : Hp) : Sl → V → Prop
  | .val d, v => R g OB H d v
  | .pbox d, v => ∃ p, v = .ref p ∧ OB p ∧ Bx g OB H d p
  | _, _ => False
structure ArgsR (g : GC) (OB : Addr → Prop) (H : Hp) (as : List Sl) (vs : List V) : Prop where
  len : as.length = vs.length
  rel : ∀ (i : Nat) s v, as[i]? = some s → vs[i]? = some v → ArgR g OB H s v
  inj : ∀ (i j : Nat) s t (p : Addr), as[i]? = some s → as[j]? = some t → s.isP = true → t.isP = true → vs[i]? = some (.ref p) → vs[j]? = some (.ref p) → i = j
  tb : ∀ p ∈ g.T, OB p.1 ∧ LamX.TabS H p.1 p.2
  iv : g.iv OB H
structure PostA (g : GC) (OB OB' : Addr → Prop) (H H' : Hp) (as as' : List Sl) (vs : List V) : Prop where
  keep : ∀ a o, H a = some o → (∀ (i : Nat) s, as[i]? = some s → s.isP = true → vs[i]? ≠ some (.ref a)) → (∀ q, (a, q) ∉ g.T) → H' a = some o
  box : ∀ (i : Nat) d, as[i]? = some (.pbox d) → ∃ d' p, as'[i]? = some (.pbox d') ∧ vs[i]? = some (.ref p) ∧ Bx g OB' H' d' p
  al : Al OB H'
  tb : ∀ p ∈ g.T, LamX.TabS H' p.1 p.2
def FinA (g : GC) (OB : Addr → Prop) (H : Hp) (as : List Sl) (vs : List V) (Q : VK) (E : XK) : Rs RV → Prop
  | .ok (.v d) as' => ∀ v H', PostA g OB OB H H' as as' vs → R g OB H' d v → Q v H'
  | .ok (.b ds) as' => ∀ p xs H', PostA g OB (add1 OB p) H H' as as' vs → H p = none → H' p = some (.lst xs) → RL g (add1 OB p) H' ds xs → Q (.ref p) H'
  | .exc c d as' => ∀ cls dd H', PostA g OB OB H H' as as' vs → ExR g OB H' c d cls dd → E cls dd H'
  | .bad => False
def spF (g : GC) (np : Nat) (fn : Fn) : Sp := fun vs H Q E => vs.length = np ∧ ∃ OB as, Al OB H ∧ ArgsR g OB H as vs ∧ FinA g OB H as vs Q E (fn as)
def fxOf (OB : Addr → Prop) (H : Hp) (as : List Sl) (vs : List V) : Fx := ⟨fun _ => none, OB, fun i => match as[i]? with
  | some (.pbox _) => (match vs[i]? with
    | some (.ref p) => some p
    | _ => none)
  | _ => none, H⟩
theorem fxOf_pa {OB : Addr → Prop} {H : Hp} {as : List Sl} {vs : List V} {i : Nat} {p : Addr} (h : (fxOf OB H as vs).pa i = some p) : ∃ d, as[i]? = some (.pbox d) ∧ vs[i]? = some (.ref p) := by
  simp only [fxOf] at h
  cases q : as[i]? with
  | none => rw [q] at h; cases h
  | some s =>
    rw [q] at h
    cases s with
    | pbox d =>
      cases q2 : vs[i]? with
      | none => simp only [q2] at h; cases h
      | some v =>
        simp only [q2] at h
        cases v with
        | ref a => cases h; exact ⟨d, rfl, rfl⟩
        | _ => cases h
    | _ => cases h
theorem fxOf_none {OB : Addr → Prop} {H : Hp} {as : List Sl} {vs : List V} {i : Nat} (h : ∀ d, as[i]? ≠ some (.pbox d)) : (fxOf OB H as vs).pa i = none := by
  cases z : (fxOf OB H as vs).pa i with
  | none => rfl
  | some p => obtain ⟨d, q, _⟩ := fxOf_pa z; exact absurd q (h d)
section
variable {g : GC}
theorem start_get {N : List Str} {vs : List V} {i : Nat} {o : Option V} (h : (L2.start N vs)[i]? = some o) : (∃ v, vs[i]? = some v ∧ o = some v) ∨ (vs.length ≤ i ∧ o = none) := by
  unfold L2.start at h
  by_cases hi : i < vs.length
  · rw [List.getElem?_append_left (by simpa using hi), List.getElem?_map] at h
    cases q : vs[i]? with
    | none => rw [q] at h; cases h
    | some v => rw [q] at h; cases h; exact .inl ⟨v, rfl, rfl⟩
  · rw [List.getElem?_append_right (by simpa using hi), List.getElem?_replicate] at h
    split at h
    · cases h; exact .inr ⟨by omega, rfl⟩
    · cases h
theorem app_get {as : List Sl} {n i : Nat} {s : Sl} (h : (as ++ List.replicate n Sl.emp)[i]? = some s) : as[i]? = some s ∨ (as.length ≤ i ∧ s = .emp) := by
  by_cases hi : i < as.length
  · rw [List.getElem?_append_left hi] at h; exact .inl h
  · rw [List.getElem?_append_right (by omega), List.getElem?_replicate] at h
    split at h
    · cases h; exact .inr ⟨by omega, rfl⟩
    · cases h
theorem FR.init {OB : Addr → Prop} {H : Hp} {as : List Sl} {vs : List V} {N : List Str} {nl : Nat} (hN : N.length = nl) (hl : as.length ≤ nl) (al : Al OB H) (r : ArgsR g OB H as vs) : FR g (fxOf OB H as vs) OB H (L2.start N vs) (as ++ List.replicate (nl - as.length) .emp) where
  len := by unfold L2.start; rw [List.length_append, List.length_append, List.length_map, List.length_replicate, List.length_replicate, hN, r.len]
  sl := fun i s o h1 h2 => by
    rcases app_get h1 with h1 | ⟨hi, rfl⟩
    · rcases start_get h2 with ⟨v, hv, rfl⟩ | ⟨hi, _⟩
      · have q := r.rel i s v h1 hv
        cases s with
        | emp => exact q.elim
        | val d => exact ⟨fxOf_none (fun d z => by rw [h1] at z; cases z), v, rfl, q⟩
        | box d => exact q.elim
        | pbox d =>
          obtain ⟨p, rfl, q1, q2⟩ := q
          refine ⟨p, ?_, rfl, q1, q2⟩
          simp only [fxOf, h1, hv]
      · have := (List.getElem?_eq_some_iff.mp h1).1
        rw [r.len] at this; omega
    · exact fxOf_none (fun d z => by
        have := (List.getElem?_eq_some_iff.mp z).1
        omega)
  inj := fun i j s t p h1 h2 b1 b2 s1 s2 => by
    rcases app_get h1 with h1 | ⟨_, rfl⟩
    · rcases app_get h2 with h2 | ⟨_, rfl⟩
      · rcases start_get s1 with ⟨v, hv, e⟩ | ⟨_, e⟩
        · cases e
          rcases start_get s2 with ⟨v', hv', e'⟩ | ⟨_, e'⟩
          · cases e'
            have q1 := r.rel i s _ h1 hv
            have q2 := r.rel j t _ h2 hv'
            refine r.inj i j s t p h1 h2 ?_ ?_ hv hv'
            · cases s with
              | pbox d => rfl
              | box d => exact q1.elim
              | _ => cases b1
            · cases t with
              | pbox d => rfl
              | box d => exact q2.elim
              | _ => cases b2
          · cases e'
        · cases e
      · cases b2
    · cases b1
  nt := fun _ _ _ _ _ _ => rfl
  tp := fun _ _ z => by cases z
  ob := fun _ h => h
  ob0 := fun a h => let ⟨o, q, _⟩ := al a h; ⟨o, q⟩
  pb := fun i p h => by
    obtain ⟨d, h1, h2⟩ := fxOf_pa h
    obtain ⟨p', e, q, _⟩ := r.rel i _ _ h1 h2
    cases e
    refine ⟨q, ?_⟩
    rw [List.length_append]
    have := (List.getElem?_eq_some_iff.mp h1).1
    omega
  al := al
  keep := fun a o h _ _ => h
  tb := fun p h => ⟨(r.tb p h).1, fun ps z => (nomatch z), (r.tb p h).2⟩
  iv := r.iv
theorem FR.post {OB : Addr → Prop} {H : Hp} {as : List Sl} {vs : List V} {A' : Addr → Prop} {H' : Hp} {σ' : Sv} {e' : Ev} (r : ArgsR g OB H as vs) (F : FR g (fxOf OB H as vs) A' H' σ' e') {OB' : Addr → Prop} (sub : ∀ a, OB' a → A' a) : PostA g OB OB' H H' as (e'.take as.length) vs where
  keep := fun a o h n n2 => F.keep a o h (fun i z => by
    obtain ⟨d, h1, h2⟩ := fxOf_pa z
    exact n i _ h1 rfl h2) n2
  tb := fun p h => (F.tb p h).2.2
  box := fun i d h => by
    have hi := (List.getElem?_eq_some_iff.mp h).1
    have hiv : i < vs.length := by rw [← r.len]; exact hi
    have hv : vs[i]? = some vs[i] := List.getElem?_eq_getElem hiv
    obtain ⟨p, e, _, _⟩ := r.rel i _ _ h hv
    rw [e] at hv
    have hp : (fxOf OB H as vs).pa i = some p := by simp only [fxOf, h, hv]
    have he : i < e'.length := (F.pb i p hp).2
    have hs : e'[i]? = some e'[i] := List.getElem?_eq_getElem he
    obtain ⟨o, h1, q⟩ := F.at hs
    cases z : e'[i] with
    | emp => rw [z] at q; rw [show (fxOf OB H as vs).pa i = none from q] at hp; cases hp
    | val d' => rw [z] at q; rw [q.1] at hp; cases hp
    | box d' => rw [z] at q; rw [q.1] at hp; cases hp
    | pbox d' =>
      rw [z] at q hs
      obtain ⟨p', q1, q2, q3, q4⟩ := q
      rw [hp] at q1; cases q1
      refine ⟨d', p, by rw [List.getElem?_take_of_lt hi]; exact hs, hv, Bx.mono ⟨F.al, fun _ _ z _ => z, fun a _ z _ => sub a z⟩ (fun _ z => z) q4⟩
  al := fun a h => F.al a (F.ob a h)
theorem R.less {A A' : Addr → Prop} {H : Hp} {d : D} {v : V} (al : Al A H) (h : ∀ a, A' a → A a) (r : R g A H d v) : R g A' H d v := R.mono ⟨al, fun _ _ z _ => z, fun a _ z _ => h a z⟩ d r
theorem RL.less {A A' : Addr → Prop} {H : Hp} {d : List D} {v : List V} (al : Al A H) (h : ∀ a, A' a → A a) (r : RL g A H d v) : RL g A' H d v := RL.mono ⟨al, fun _ _ z _ => z, fun a _ z _ => h a z⟩ d r
theorem ExR.less {A A' : Addr → Prop} {H : Hp} {c : Nat} {d : D} {cls : Value} {dd : Option Addr} (al : Al A H) (h : ∀ a, A' a → A a) (r : ExR g A H c d cls dd) : ExR g A' H c d cls dd := by
  unfold ExR at r ⊢
  refine ⟨r.1, ?_⟩
  have r := r.2
  cases q : g.cf c with
  | nil => simp only [q] at r ⊢; exact r
  | cons x l =>
    simp only [q] at r ⊢
    obtain ⟨a, v, h1, h2, h3⟩ := r
    exact ⟨a, v, h1, h2, R.less al h h3⟩
theorem FnG.by {P : Program} {w : World} {mg : Str → Option Value} {base : Heap} {x qual : Str} {params : Arguments} {body : List Stmt} {scope : Scope} {dvs : List V} {kws : List (Str × V)} {f : Addr} {fd : FuncData} {N ps : List Str} {k np nl : Nat} {m : M Fl}
    (F : FunD g.K x qual params body scope dvs kws f fd) (S : FnScope N ps scope) (hp : ps.length = np) (hN : N.length = nl) (hle : np ≤ nl)
    (hbody : ∀ (cdv : Value) (A : Around) (outer : List Env) (s : Shared) (H : Hp) (E : XK), Room k (A.deeper (envOfC qual scope s.heap.objs.size f cdv)) → A.guards = some [] →
      CB g (cxOf (L2N.CX P w) P w g.K mg base N qual scope f cdv A outer s H E) (fun cls d _ H => E cls d H) body m) : FnG P w g.K mg base (k + 1) f fd ps (spF g np (mkFn np nl m)) := by
  refine FnG.of F S (fun vs H Q E h => h.1.trans hp.symm) fun cdv A outer s H vs Q E hr gd h => ⟨_, hbody cdv A outer s H E hr gd, ?_⟩
  obtain ⟨hl, OB, as, al, r, h⟩ := h
  have hla : as.length = np := r.len.trans hl
  unfold mkFn at h
  rw [if_pos hla] at h
  refine ⟨fxOf OB H as vs, OB, as ++ List.replicate (nl - np) .emp, by
    have := FR.init (g := g) (N := N) (nl := nl) hN (by omega) al r
    rw [hla] at this; exact this, ?_⟩
  generalize m (as ++ List.replicate (nl - np) .emp) = res at h
  have post : ∀ {A' OB' : Addr → Prop} {H' : Hp} {σ' : Sv} {e' : Ev}, FR g (fxOf OB H as vs) A' H' σ' e' → (∀ a, OB' a → A' a) → PostA g OB OB' H H' as (e'.take np) vs := fun F z => by rw [← hla]; exact FR.post r F z
  cases res with
  | ok fl e =>
    cases fl with
    | nx => exact fun A' σ' H' F' _ => h _ H' (post F' F'.ob) rfl
    | bk => exact h.elim
    | ct => exact h.elim
    | rt d => exact fun A' σ' H' v F' _ q => h v H' (post F' F'.ob) (R.less F'.al F'.ob q)
    | rb ds => exact fun A' σ' H' p xs F' _ hA h0 hb hp q => h p xs H' (post F' fun a z => z.elim (F'.ob a) fun z => by rw [z]; exact hA) h0 hp (RL.less F'.al (fun a z => z.elim (F'.ob a) fun z => by rw [z]; exact hA) q)
  | exc c d e => exact fun A' σ' cls dd H' F' _ x => h cls dd H' (post F' F'.ob) (ExR.less F'.al F'.ob x)
  | bad => exact h.elim
end
end Fw
namespace Fw
open L2 PyProof.Rows PySem PySem.Spec
def argOf (e : Ev) : Sum D Nat → Option Sl
  | .inl d => some (.val d)
  | .inr i => match e[i]? with
    | some (.val d) => some (.val d)
    | some (.box d) => some (.pbox d)
    | some (.pbox d) => some (.pbox d)
    | _ => none
def argsOf (e : Ev) : List (Sum D Nat) → Option (List Sl)
  | [] => some []
  | a :: r => match argOf e a with
    | some s => (match argsOf e r with
      | some l => some (s :: l)
      | none => none)
    | none => none
def Sl.put : Sl → D → Sl
  | .box _, d => .box d
  | .pbox _, d => .pbox d
  | s, _ => s
def put1 (i : Nat) (d : D) (e : Ev) : Ev := match e[i]? with
  | some s => e.set i (s.put d)
  | none => e
def wb : List (Sum D Nat) → List Sl → Ev → Ev
  | .inr i :: ps, .pbox d :: as, e => wb ps as (put1 i d e)
  | .inr _ :: ps, .val _ :: as, e => wb ps as e
  | .inr _ :: ps, .box _ :: as, e => wb ps as e
  | .inr _ :: ps, .emp :: as, e => wb ps as e
  | .inl _ :: ps, _ :: as, e => wb ps as e
  | _, [], e => e
  | [], _, e => e
def nums : List (Sum D Nat) → List Nat
  | [] => []
  | .inl _ :: r => nums r
  | .inr i :: r => i :: nums r
def nodupB : List Nat → Bool
  | [] => true
  | i :: r => !r.contains i && nodupB r
theorem mem_nums {j k : Nat} : ∀ {ps : List (Sum D Nat)}, ps[k]? = some (.inr j) → j ∈ nums ps := by
  intro ps
  induction ps generalizing k with
  | nil => intro h; simp at h
  | cons a r ih =>
    intro h
    cases k with
    | zero => simp at h; subst h; exact List.mem_cons_self
    | succ k =>
      have := ih (k := k) (by simpa using h)
      cases a with
      | inl d => exact this
      | inr i => exact List.mem_cons_of_mem _ this
theorem put1_get {i j : Nat} {d : D} {e : Ev} {s : Sl} (h : (put1 i d e)[j]? = some s) : (i = j ∧ ∃ s0, e[j]? = some s0 ∧ s = s0.put d) ∨ (i ≠ j ∧ e[j]? = some s) := by
  unfold put1 at h
  cases q : e[i]? with
  | none =>
    rw [q] at h
    by_cases z : i = j
    · subst z; have h : e[i]? = some s := h; rw [q] at h; cases h
    · exact .inr ⟨z, h⟩
  | some s0 =>
    rw [q] at h
    rcases get_set h with ⟨rfl, _, rfl⟩ | ⟨n, h⟩
    · exact .inl ⟨rfl, s0, q, rfl⟩
    · exact .inr ⟨n, h⟩
theorem wb_get : ∀ (ps : List (Sum D Nat)) (as : List Sl) (e : Ev) {j : Nat} {s : Sl}, nodupB (nums ps) = true → (wb ps as e)[j]? = some s →
    (∃ (k : Nat) (d : D) (s0 : Sl), ps[k]? = some (.inr j) ∧ as[k]? = some (.pbox d) ∧ e[j]? = some s0 ∧ s = s0.put d) ∨ (e[j]? = some s ∧ ∀ (k : Nat) (d : D), ps[k]? = some (.inr j) → as[k]? ≠ some (.pbox d))
  | [], as, e, j, s, _, h => .inr ⟨by cases as <;> exact h, fun k d z => by simp at z⟩
  | a :: ps, [], e, j, s, _, h => .inr ⟨by cases a <;> exact h, fun k d _ z => by simp at z⟩
  | .inl x :: ps, t :: as, e, j, s, n, h => by
    rcases wb_get ps as e n h with ⟨k, d, s0, h1, h2, h3⟩ | ⟨h1, h2⟩
    · exact .inl ⟨k + 1, d, s0, by simpa using h1, by simpa using h2, h3⟩
    · refine .inr ⟨h1, fun k d z1 z2 => ?_⟩
      cases k with
      | zero => simp at z1
      | succ k => exact h2 k d (by simpa using z1) (by simpa using z2)
  | .inr i :: ps, t :: as, e, j, s, n, h => by
    have n1 : i ∉ nums ps ∧ nodupB (nums ps) = true := by
      have n : (!(nums ps).contains i && nodupB (nums ps)) = true := n
      rw [Bool.and_eq_true] at n
      refine ⟨fun z => ?_, n.2⟩
      have := n.1
      rw [List.contains_iff_mem.mpr z] at this; cases this
    have other : ∀ {e' : Ev}, (wb ps as e')[j]? = some s → (∀ d, t ≠ .pbox d) → e' = e → (∃ (k : Nat) (d : D) (s0 : Sl), (Sum.inr i :: ps)[k]? = some (.inr j) ∧ (t :: as)[k]? = some (.pbox d) ∧ e[j]? = some s0 ∧ s = s0.put d) ∨ (e[j]? = some s ∧ ∀ (k : Nat) (d : D), (Sum.inr i :: ps)[k]? = some (.inr j) → (t :: as)[k]? ≠ some (.pbox d)) := by
      intro e' h nt ee
      rcases wb_get ps as e' n1.2 h with ⟨k, d, s0, h1, h2, h3⟩ | ⟨h1, h2⟩
      · exact .inl ⟨k + 1, d, s0, by simpa using h1, by simpa using h2, ee ▸ h3⟩
      · refine .inr ⟨ee ▸ h1, fun k d z1 z2 => ?_⟩
        cases k with
        | zero => simp at z2; exact nt d z2
        | succ k => exact h2 k d (by simpa using z1) (by simpa using z2)
    cases t with
    | pbox d =>
      rcases wb_get ps as _ n1.2 (show (wb ps as (put1 i d e))[j]? = some s from h) with ⟨k, d', s0, h1, h2, h3, h4⟩ | ⟨h1, h2⟩
      · have hj : i ≠ j := fun z => n1.1 (z ▸ mem_nums h1)
        rcases put1_get h3 with ⟨z, _⟩ | ⟨_, h3⟩
        · exact absurd z hj
        · exact .inl ⟨k + 1, d', s0, by simpa using h1, by simpa using h2, h3, h4⟩
      · rcases put1_get h1 with ⟨rfl, s0, h3, h4⟩ | ⟨hj, h3⟩
        · exact .inl ⟨0, d, s0, rfl, rfl, h3, h4⟩
        · refine .inr ⟨h3, fun k d' z1 z2 => ?_⟩
          cases k with
          | zero => simp at z1; exact hj z1
          | succ k => exact h2 k d' (by simpa using z1) (by simpa using z2)
    | emp => exact other (e' := e) (show (wb ps as e)[j]? = some s from h) (fun _ z => by cases z) rfl
    | val _ => exact other (e' := e) (show (wb ps as e)[j]? = some s from h) (fun _ z => by cases z) rfl
    | box _ => exact other (e' := e) (show (wb ps as e)[j]? = some s from h) (fun _ z => by cases z) rfl
theorem put1_length (i : Nat) (d : D) (e : Ev) : (put1 i d e).length = e.length := by
  unfold put1
  cases e[i]? with
  | none => rfl
  | some s => exact List.length_set
theorem wb_length : ∀ (ps : List (Sum D Nat)) (as : List Sl) (e : Ev), (wb ps as e).length = e.length
  | [], as, e => by cases as <;> rfl
  | a :: ps, [], e => by cases a <;> rfl
  | .inl x :: ps, t :: as, e => wb_length ps as e
  | .inr i :: ps, .pbox d :: as, e => (wb_length ps as _).trans (put1_length i d e)
  | .inr i :: ps, .emp :: as, e => wb_length ps as e
  | .inr i :: ps, .val _ :: as, e => wb_length ps as e
  | .inr i :: ps, .box _ :: as, e => wb_length ps as e
theorem argsOf_get : ∀ {ps : List (Sum D Nat)} {as : List Sl} {e : Ev} {k : Nat} {s : Sl}, argsOf e ps = some as → as[k]? = some s → ∃ a, ps[k]? = some a ∧ argOf e a = some s := by
  intro ps
  induction ps with
  | nil => intro as e k s h h2; cases h; simp at h2
  | cons a r ih =>
    intro as e k s h h2
    unfold argsOf at h
    cases q : argOf e a with
    | none => rw [q] at h; cases h
    | some s0 =>
      rw [q] at h
      cases q2 : argsOf e r with
      | none => rw [q2] at h; cases h
      | some l =>
        rw [q2] at h; cases h
        cases k with
        | zero => simp at h2; subst h2; exact ⟨a, rfl, q⟩
        | succ k => obtain ⟨a', z1, z2⟩ := ih (k := k) q2 (by simpa using h2); exact ⟨a', by simpa using z1, z2⟩
theorem argsOf_get' : ∀ {ps : List (Sum D Nat)} {as : List Sl} {e : Ev} {k : Nat} {a : Sum D Nat}, argsOf e ps = some as → ps[k]? = some a → ∃ s, as[k]? = some s ∧ argOf e a = some s := by
  intro ps
  induction ps with
  | nil => intro as e k s h h2; simp at h2
  | cons a r ih =>
    intro as e k s h h2
    unfold argsOf at h
    cases q : argOf e a with
    | none => rw [q] at h; cases h
    | some s0 =>
      rw [q] at h
      cases q2 : argsOf e r with
      | none => rw [q2] at h; cases h
      | some l =>
        rw [q2] at h; cases h
        cases k with
        | zero => simp at h2; subst h2; exact ⟨s0, rfl, q⟩
        | succ k => obtain ⟨a', z1, z2⟩ := ih (k := k) q2 (by simpa using h2); exact ⟨a', by simpa using z1, z2⟩
section
variable {g : GC}
theorem PL.get {A : Addr → Prop} {H : Hp} {σ : Sv} : ∀ {ps : List (Sum D Nat)} {vs : List V} {k : Nat} {a : Sum D Nat}, PL g A H σ ps vs → ps[k]? = some a → ∃ v, vs[k]? = some v ∧ (match a with
    | .inl d => R g A H d v
    | .inr i => σ[i]? = some (some v))
  | [], vs, k, a, _, h => by simp at h
  | .inl d :: r, vs, k, a, ⟨y, ys, e, q, p⟩, h => by
    subst e
    cases k with
    | zero => simp at h; subst h; exact ⟨y, rfl, q⟩
    | succ k => obtain ⟨v, z1, z2⟩ := PL.get (k := k) p (by simpa using h); exact ⟨v, by simpa using z1, z2⟩
  | .inr i :: r, vs, k, a, ⟨y, ys, e, q, p⟩, h => by
    subst e
    cases k with
    | zero => simp at h; subst h; exact ⟨y, rfl, q⟩
    | succ k => obtain ⟨v, z1, z2⟩ := PL.get (k := k) p (by simpa using h); exact ⟨v, by simpa using z1, z2⟩
theorem PL.length {A : Addr → Prop} {H : Hp} {σ : Sv} : ∀ {ps : List (Sum D Nat)} {vs : List V}, PL g A H σ ps vs → vs.length = ps.length
  | [], vs, h => by rw [show vs = [] from h]; rfl
  | .inl d :: r, vs, ⟨y, ys, e, q, p⟩ => by subst e; rw [List.length_cons, List.length_cons, PL.length p]
  | .inr i :: r, vs, ⟨y, ys, e, q, p⟩ => by subst e; rw [List.length_cons, List.length_cons, PL.length p]
theorem argsOf_length : ∀ {ps : List (Sum D Nat)} {as : List Sl} {e : Ev}, argsOf e ps = some as → as.length = ps.length := by
  intro ps
  induction ps with
  | nil => intro as e h; cases h; rfl
  | cons a r ih =>
    intro as e h
    unfold argsOf at h
    cases q : argOf e a with
    | none => rw [q] at h; cases h
    | some s0 =>
      rw [q] at h
      cases q2 : argsOf e r with
      | none => rw [q2] at h; cases h
      | some l => rw [q2] at h; cases h; rw [List.length_cons, List.length_cons, ih q2]
theorem argOf_box {e : Ev} {a : Sum D Nat} {d : D} (h : argOf e a = some (.pbox d)) : ∃ i s, a = .inr i ∧ e[i]? = some s ∧ s.isBox = true ∧ s.dat = some d := by
  cases a with
  | inl x => cases h
  | inr i =>
    unfold argOf at h
    cases q : e[i]? with
    | none => simp only [q] at h; cases h
    | some s =>
      simp only [q] at h
      cases s with
      | emp => cases h
      | val x => cases h
      | box x => cases h; exact ⟨i, _, rfl, q, rfl, rfl⟩
      | pbox x => cases h; exact ⟨i, _, rfl, q, rfl, rfl⟩
theorem args_rel {f : Fx} {A : Addr → Prop} {H : Hp} {σ : Sv} {e : Ev} {ps : List (Sum D Nat)} {as : List Sl} {vs : List V} (F : FR g f A H σ e) (p : PL g A H σ ps vs) (ha : argsOf e ps = some as) (nd : nodupB (nums ps) = true) : ArgsR g A H as vs where
  tb := F.tbA
  iv := F.iv
  len := by rw [argsOf_length ha, PL.length p]
  rel := fun i s v h1 h2 => by
    obtain ⟨a, q1, q2⟩ := argsOf_get ha h1
    obtain ⟨v', q3, q4⟩ := PL.get p q1
    rw [h2] at q3; cases q3
    cases a with
    | inl d => cases q2; exact q4
    | inr j =>
      unfold argOf at q2
      cases q5 : e[j]? with
      | none => simp only [q5] at q2; cases q2
      | some s0 =>
        simp only [q5] at q2
        obtain ⟨o, z1, z2⟩ := F.at q5
        rw [q4] at z1; cases z1
        cases s0 with
        | emp => cases q2
        | val d => cases q2; obtain ⟨_, v', z, r⟩ := z2; cases z; exact r
        | box d => cases q2; obtain ⟨_, p', z, r1, _, r2⟩ := z2; cases z; exact ⟨p', rfl, r1, r2⟩
        | pbox d => cases q2; obtain ⟨p', _, z, r1, r2⟩ := z2; cases z; exact ⟨p', rfl, r1, r2⟩
  inj := fun i j s t p' h1 h2 b1 b2 v1 v2 => by
    obtain ⟨a, q1, q2⟩ := argsOf_get ha h1
    obtain ⟨b, q3, q4⟩ := argsOf_get ha h2
    cases s with
    | pbox d =>
      cases t with
      | pbox d' =>
        obtain ⟨i1, s1, rfl, w1, x1, _⟩ := argOf_box q2
        obtain ⟨j1, t1, rfl, w2, x2, _⟩ := argOf_box q4
        obtain ⟨v, y1, y2⟩ := PL.get p q1
        obtain ⟨v', y3, y4⟩ := PL.get p q3
        rw [v1] at y1; cases y1
        rw [v2] at y3; cases y3
        have := F.inj i1 j1 s1 t1 p' w1 w2 x1 x2 y2 y4
        subst this
        -- the same slot at two places
        have key : ∀ (ps : List (Sum D Nat)) (i j : Nat), nodupB (nums ps) = true → ps[i]? = some (.inr i1) → ps[j]? = some (.inr i1) → i = j := by
          intro ps
          induction ps with
          | nil => intro i j _ h _; simp at h
          | cons a r ih =>
            intro i j nd h1 h2
            have nd' : nodupB (nums r) = true := by
              cases a with
              | inl _ => exact nd
              | inr _ => exact (Bool.and_eq_true_iff.mp (show (_ && nodupB (nums r)) = true from nd)).2
            have ni : ∀ {k : Nat}, r[k]? = some (.inr i1) → a ≠ .inr i1 := fun {k} hk z => by
              subst z
              have := (Bool.and_eq_true_iff.mp (show (!(nums r).contains i1 && nodupB (nums r)) = true from nd)).1
              rw [List.contains_iff_mem.mpr (mem_nums hk)] at this; cases this
            cases i with
            | zero => cases j with
              | zero => rfl
              | succ j => simp at h1 h2; exact absurd h1 (ni h2)
            | succ i => cases j with
              | zero => simp at h1 h2; exact absurd h2 (ni h1)
              | succ j => rw [ih i j nd' (by simpa using h1) (by simpa using h2)]
        exact key ps i j nd q1 q3
      | _ => cases b2
    | _ => cases b1
theorem FR.call {f : Fx} {A A' : Addr → Prop} {H H' : Hp} {σ : Sv} {e : Ev} {ps : List (Sum D Nat)} {as as' : List Sl} {vs : List V} (F : FR g f A H σ e) (p : PL g A H σ ps vs) (ha : argsOf e ps = some as) (nd : nodupB (nums ps) = true)
    (post : PostA g A A' H H' as as' vs) (h1 : ∀ a, A a → A' a) (h2 : ∀ a o, A' a → H a = some o → A a) (al' : Al A' H') : FR g f A' H' σ (wb ps as' e) ∧ Step A H H' := by
  -- a passed box is an avoided one, and known by its slot
  have pbx : ∀ (i : Nat) (s : Sl) (a : Addr), as[i]? = some s → s.isP = true → vs[i]? = some (.ref a) → ∃ j s0, ps[i]? = some (.inr j) ∧ e[j]? = some s0 ∧ s0.isBox = true ∧ σ[j]? = some (some (.ref a)) := fun i s a z1 z2 z3 => by
    obtain ⟨b, q1, q2⟩ := argsOf_get ha z1
    cases s with
    | pbox d =>
      obtain ⟨j, s0, rfl, w1, w2, _⟩ := argOf_box q2
      obtain ⟨v, y1, y2⟩ := PL.get p q1
      rw [z3] at y1; cases y1
      exact ⟨j, s0, q1, w1, w2, y2⟩
    | _ => cases z2
  have st : ∀ a o, H a = some o → ¬ A a → H' a = some o := fun a o z n => post.keep a o z (fun i s z1 z2 z3 => by
    obtain ⟨j, s0, _, w1, w2, w3⟩ := pbx i s a z1 z2 z3
    exact n (F.boxA w1 w2 w3)) (F.nT n)
  have un : ∀ a o, H a = some o → ∃ o', H' a = some o' := fun a o z => by
    by_cases n : A a
    · obtain ⟨o', q, _⟩ := post.al a n; exact ⟨o', q⟩
    · exact ⟨o, st a o z n⟩
  have m : Mono A H A' H' := ⟨F.al, st, h2⟩
  have bx : ∀ {j : Nat} {s : Sl}, (wb ps as' e)[j]? = some s → s.isBox = true → ∃ s0, e[j]? = some s0 ∧ s0.isBox = true := fun {j s} z hb => by
    rcases wb_get ps as' e nd z with ⟨k, d, s0, _, _, q3, q4⟩ | ⟨q1, _⟩
    · subst q4
      refine ⟨s0, q3, ?_⟩
      cases s0 with
      | emp => cases hb
      | val _ => cases hb
      | box _ => rfl
      | pbox _ => rfl
    · exact ⟨s, q1, hb⟩
  have two : ∀ (i j : Nat) (s t : Sl) (a : Addr), (wb ps as' e)[i]? = some s → (wb ps as' e)[j]? = some t → s.isBox = true → t.isBox = true → σ[i]? = some (some (.ref a)) → σ[j]? = some (some (.ref a)) → i = j := fun i j s t a z1 z2 b1 b2 s1 s2 => by
    obtain ⟨s0, y1, y2⟩ := bx z1 b1
    obtain ⟨t0, y3, y4⟩ := bx z2 b2
    exact F.inj i j s0 t0 a y1 y3 y2 y4 s1 s2
  refine ⟨⟨by rw [wb_length]; exact F.len, fun j s o z1 z2 => ?_, fun i j s t a z1 z2 b1 b2 s1 s2 => ?_, fun i s a z1 b1 s1 => ?_, fun a u z => ⟨h1 a (F.tp a u z).1, post.keep a u (F.tp a u z).2 (fun i s z1 z2 z3 => by
    obtain ⟨j, s0, _, w1, w2, w3⟩ := pbx i s a z1 z2 z3
    rw [F.nt j s0 a w1 w2 w3] at z; cases z) fun q hq => by
    obtain ⟨_, y2, ps, y3, _⟩ := F.tb _ hq
    rw [(F.tp a u z).2] at y3; cases y3
    exact y2 ps z⟩, fun a z => h1 a (F.ob a z), F.ob0, fun i p z => by rw [wb_length]; exact F.pb i p z, al', fun a o z n n2 => ?_, fun q z => ⟨h1 _ (F.tb q z).1, (F.tb q z).2.1, post.tb q z⟩, g.ivM m.w F.iv⟩, ⟨st, un⟩⟩
  · rcases wb_get ps as' e nd z1 with ⟨k, d, s0, q1, q2, q3, q4⟩ | ⟨q1, q2⟩
    · subst q4
      have rel := F.sl j s0 o q3 z2
      obtain ⟨s1, w1, w2⟩ := argsOf_get' ha q1
      obtain ⟨v, y1, y2⟩ := PL.get p q1
      cases s0 with
      | emp => exact rel
      | val d0 => obtain ⟨a, v, b, c⟩ := rel; exact ⟨a, v, b, R.mono m d0 c⟩
      | box d0 =>
        unfold argOf at w2
        simp only [q3] at w2; cases w2
        obtain ⟨d', p', x1, x2, x3⟩ := post.box k d0 w1
        rw [q2] at x1; cases x1
        rw [y1] at x2; cases x2
        obtain ⟨r0, p1, r1, r2, r3, _⟩ := rel
        rw [y2] at z2; cases z2; cases r1
        exact ⟨r0, p', rfl, h1 _ r2, r3, x3⟩
      | pbox d0 =>
        unfold argOf at w2
        simp only [q3] at w2; cases w2
        obtain ⟨d', p', x1, x2, x3⟩ := post.box k d0 w1
        rw [q2] at x1; cases x1
        rw [y1] at x2; cases x2
        obtain ⟨p1, r0, r1, r2, _⟩ := rel
        rw [y2] at z2; cases z2; cases r1
        exact ⟨p', r0, rfl, h1 _ r2, x3⟩
    · have rel := F.sl j s o q1 z2
      have stay : ∀ a, s.isBox = true → o = some (.ref a) → ∀ u, H a = some u → H' a = some u := fun a hb eo u hu => post.keep a u hu (fun i t z3 z4 z5 => by
        obtain ⟨j', s0, w0, w1, w2, w3⟩ := pbx i t a z3 z4 z5
        have : j = j' := F.inj j j' s s0 a q1 w1 hb w2 (by rw [z2, eo]) w3
        subst this
        cases t with
        | pbox d =>
          obtain ⟨d', _, x1, _⟩ := post.box i d z3
          exact q2 i d' w0 x1
        | _ => cases z4) (F.nB hu fun ps y => F.bxno q1 hb (by rw [z2, eo]) hu (by rw [y]; rfl))
      cases s with
      | emp => exact rel
      | val d0 => obtain ⟨a, v, b, c⟩ := rel; exact ⟨a, v, b, R.mono m d0 c⟩
      | box d0 => obtain ⟨a, p', b, c, c0, dd⟩ := rel; exact ⟨a, p', b, h1 _ c, c0, Bx.mono m (stay p' rfl b) dd⟩
      | pbox d0 => obtain ⟨p', a, b, c, dd⟩ := rel; exact ⟨p', a, b, h1 _ c, Bx.mono m (stay p' rfl b) dd⟩
  · exact two i j s t a z1 z2 b1 b2 s1 s2
  · obtain ⟨s0, y1, y2⟩ := bx z1 b1
    exact F.nt i s0 a y1 y2 s1
  · refine post.keep a o (F.keep a o z n n2) (fun i s z1 z2 z3 => ?_) n2
    obtain ⟨j, s0, _, w1, w2, w3⟩ := pbx i s a z1 z2 z3
    have rel := F.sl j s0 _ w1 w3
    cases s0 with
    | emp => cases w2
    | val _ => cases w2
    | box d => obtain ⟨_, p', r1, _, r3, _⟩ := rel; cases r1; rw [z] at r3; cases r3
    | pbox d => obtain ⟨p', r0, r1, _⟩ := rel; cases r1; exact n j r0
theorem PostA.less {A A' : Addr → Prop} {H H' : Hp} {as as' : List Sl} {vs : List V} (po : PostA g A A' H H' as as' vs) (sub : ∀ a, A a → A' a) (al' : Al A' H') : PostA g A A H H' as as' vs where
  keep := po.keep
  tb := po.tb
  box := fun i d z => by
    obtain ⟨d', p', x1, x2, x3⟩ := po.box i d z
    exact ⟨d', p', x1, x2, Bx.mono ⟨al', fun _ _ z _ => z, fun a _ z _ => sub a z⟩ (fun _ z => z) x3⟩
  al := po.al
def mCall (np : Nat) (fn : Fn) (os : List Od) : M RV := mb (mA1 os) fun ps e => match argsOf e ps with
  | none => .bad
  | some as => if as.length = np then (if nodupB (nums ps) = true then (match fn as with
      | .ok rv as' => .ok rv (wb ps as' e)
      | .exc c d as' => .exc c d (wb ps as' e)
      | .bad => .bad) else .bad) else .bad
def RV.d : RV → D
  | .v d => d
  | .b ds => .lst ds
def mCv (np : Nat) (fn : Fn) (os : List Od) : M D := mb (mCall np fn os) fun rv => mp rv.d
def RV.l : RV → Option (List D)
  | .v _ => none
  | .b ds => some ds
def mCl (np : Nat) (fn : Fn) (os : List Od) : M (List D) := mb (mCall np fn os) fun rv => mo rv.l
section
variable {X : Cx} {W : WK}
theorem t_call {np : Nat} {fn : Fn} {os : List Od} : ∀ σ H Q, rdE g W (mCv np fn os) σ H Q → tCg (spF g np fn) W (rdOs g W os) σ H Q := fun σ H Q ⟨f, A, e, F, h⟩ => by
  unfold mCv mCall at h
  rw [mb_assoc] at h
  refine bAs1 os h F fun ps e1 vs H1 F1 S1 p1 h1 => ?_
  unfold mb at h1
  cases ha : argsOf e1 ps with
  | none => simp only [ha] at h1; exact h1.elim
  | some as =>
    simp only [ha] at h1
    by_cases hl : as.length = np
    · rw [if_pos hl] at h1
      by_cases nd : nodupB (nums ps) = true
      · rw [if_pos nd] at h1
        have r := args_rel F1 p1 ha nd
        refine ⟨by rw [← r.len]; exact hl, A, as, F1.al, r, ?_⟩
        cases q : fn as with
        | ok rv as' =>
          simp only [q] at h1
          cases rv with
          | v d =>
              intro v H' po rr
              obtain ⟨F2, S2⟩ := F1.call p1 ha nd po (fun _ z => z) (fun _ _ z _ => z) po.al
              exact h1 v H' F2 (S1.trans S2) rr
          | b ds =>
              intro p xs H' po hn hp rr
              have sub : ∀ a, A a → add1 A p a := fun _ z => .inl z
              have al' : Al (add1 A p) H' := fun a z => z.elim (po.al a) fun z => ⟨.lst xs, by rw [z]; exact hp, rfl⟩
              have po' := po.less sub al'
              obtain ⟨F2, S2⟩ := F1.call p1 ha nd po' (fun _ z => z) (fun _ _ z _ => z) po.al
              exact h1 _ H' F2 (S1.trans S2) ⟨p, xs, rfl, hp, F1.nA hn, RL.less al' sub rr⟩
        | exc c d as' =>
          simp only [q] at h1
          intro cls dd H' po x
          obtain ⟨F2, S2⟩ := F1.call p1 ha nd po (fun _ z => z) (fun _ _ z _ => z) po.al
          exact h1 cls dd H' F2 S2 x
        | bad => simp only [q] at h1; exact h1.elim
      · rw [if_neg nd] at h1; exact h1.elim
    · rw [if_neg hl] at h1; exact h1.elim
theorem t_callF {np : Nat} {fn : Fn} {os : List Od} : ∀ σ H Q, rdF g W (mCl np fn os) σ H Q → tCg (spF g np fn) W (rdOs g W os) σ H Q := fun σ H Q ⟨f, A, e, F, h⟩ => by
  unfold mCl mCall at h
  rw [mb_assoc] at h
  refine bAs1 os h F fun ps e1 vs H1 F1 S1 p1 h1 => ?_
  unfold mb at h1
  cases ha : argsOf e1 ps with
  | none => simp only [ha] at h1; exact h1.elim
  | some as =>
    simp only [ha] at h1
    by_cases hl : as.length = np
    · rw [if_pos hl] at h1
      by_cases nd : nodupB (nums ps) = true
      · rw [if_pos nd] at h1
        have r := args_rel F1 p1 ha nd
        refine ⟨by rw [← r.len]; exact hl, A, as, F1.al, r, ?_⟩
        cases q : fn as with
        | ok rv as' =>
          simp only [q] at h1
          cases rv with
          | v d => exact h1.elim
          | b ds =>
              intro p xs H' po hn hp rr
              have sub : ∀ a, A a → add1 A p a := fun _ z => .inl z
              have al' : Al (add1 A p) H' := fun a z => z.elim (po.al a) fun z => ⟨.lst xs, by rw [z]; exact hp, rfl⟩
              have po' := po.less sub al'
              obtain ⟨F2, S2⟩ := F1.call p1 ha nd po' (fun _ z => z) (fun _ _ z _ => z) po.al
              obtain ⟨F3, _⟩ := F1.call p1 ha nd po sub (fun a o z q => z.elim id fun z => by rw [z, hn] at q; cases q) al'
              exact h1 p xs H' F2 F3 (F1.nA hn) (S1.trans S2) (FR.none_of (f := f) S1 hn) hp rr
        | exc c d as' =>
          simp only [q] at h1
          intro cls dd H' po x
          obtain ⟨F2, S2⟩ := F1.call p1 ha nd po (fun _ z => z) (fun _ _ z _ => z) po.al
          exact h1 cls dd H' F2 S2 x
        | bad => simp only [q] at h1; exact h1.elim
      · rw [if_neg nd] at h1; exact h1.elim
    · rw [if_neg hl] at h1; exact h1.elim
end
end
end Fw
namespace Fw
open L2 PyProof.Rows PySem PySem.Spec
section
variable {g : GC} {X : Cx} {W : WK}
def wipeE (e : Ev) : List Nat → Ev
  | [] => e
  | v :: vs => (wipeE e vs).set v .emp
theorem FR.none1 {f : Fx} {A : Addr → Prop} {H : Hp} {σ : Sv} {e : Ev} (F : FR g f A H σ e) {i : Nat} (h : f.pa i = none) : FR g f A H (σ.set i none) (e.set i .emp) where
  len := by rw [List.length_set, List.length_set]; exact F.len
  sl := fun j s o h1 h2 => by
    rcases get_set h1 with ⟨rfl, _, rfl⟩ | ⟨n, h1⟩
    · exact h
    · rw [List.getElem?_set_ne n] at h2
      exact F.sl j s o h1 h2
  inj := fun a b s t p h1 h2 b1 b2 s1 s2 => by
    rcases get_set h1 with ⟨_, _, rfl⟩ | ⟨n1, h1⟩
    · cases b1
    · rcases get_set h2 with ⟨_, _, rfl⟩ | ⟨n2, h2⟩
      · cases b2
      · rw [List.getElem?_set_ne n1] at s1; rw [List.getElem?_set_ne n2] at s2
        exact F.inj a b s t p h1 h2 b1 b2 s1 s2
  nt := fun a s p h1 b1 s1 => by
    rcases get_set h1 with ⟨_, _, rfl⟩ | ⟨n1, h1⟩
    · cases b1
    · rw [List.getElem?_set_ne n1] at s1
      exact F.nt a s p h1 b1 s1
  tp := F.tp
  ob := F.ob
  ob0 := F.ob0
  pb := fun i p q => by rw [List.length_set]; exact F.pb i p q
  al := F.al
  keep := F.keep
  tb := F.tb
  iv := F.iv
theorem FR.wipe {f : Fx} {A : Addr → Prop} {H : Hp} {σ : Sv} {e : Ev} (F : FR g f A H σ e) : ∀ {own : List Nat}, (∀ i ∈ own, f.pa i = none) → FR g f A H (L2.wipe σ own) (wipeE e own)
  | [], _ => F
  | v :: vs, h => (FR.wipe F fun i hi => h i (List.mem_cons_of_mem _ hi)).none1 (h v List.mem_cons_self)
theorem wipe_get {σ : Sv} : ∀ {vs : List Nat} {j : Nat}, j ∉ vs → (L2.wipe σ vs)[j]? = σ[j]?
  | [], _, _ => rfl
  | v :: vs, j, h => by
    unfold L2.wipe
    rw [List.getElem?_set_ne (fun z : v = j => h (by rw [z]; exact List.mem_cons_self))]
    exact wipe_get fun z => h (List.mem_cons_of_mem _ z)
theorem wipe_in {σ : Sv} : ∀ {vs : List Nat} {j : Nat}, j ∈ vs → j < σ.length → (L2.wipe σ vs)[j]? = some none
  | v :: vs, j, h, hl => by
    unfold L2.wipe
    by_cases q : v = j
    · subst q; rw [List.getElem?_set_self (by rw [wipe_length]; exact hl)]
    · rw [List.getElem?_set_ne q]
      rcases List.mem_cons.mp h with z | z
      · exact absurd z.symm q
      · exact wipe_in z hl
theorem wipe_eq {σ σ' : Sv} {vs sl : List Nat} (hl : σ'.length = σ.length) (h : ∀ j : Nat, j ∉ sl → σ'[j]? = σ[j]?) (hs : ∀ j ∈ sl, j ∈ vs) : L2.wipe σ' vs = L2.wipe σ vs := by
  apply List.ext_getElem?
  intro j
  by_cases q : j ∈ vs
  · by_cases hj : j < σ.length
    · rw [wipe_in q hj, wipe_in q (by rw [hl]; exact hj)]
    · rw [List.getElem?_eq_none (by rw [wipe_length]; omega), List.getElem?_eq_none (by rw [wipe_length]; omega)]
  · rw [wipe_get q, wipe_get q]
    exact h j fun z => q (hs j z)
theorem wipe_wipe {σ : Sv} {vs : List Nat} : L2.wipe (L2.wipe σ vs) vs = L2.wipe σ vs := wipe_eq (wipe_length σ vs) (sl := vs) (fun j hj => wipe_get hj) fun _ h => h
def backE (e e' : Ev) (own : List Nat) : Ev := match own with
  | [] => e'
  | v :: vs => match e[v]? with
    | some s => (backE e e' vs).set v s
    | none => backE e e' vs
theorem backE_length (e e' : Ev) : ∀ own : List Nat, (backE e e' own).length = e'.length
  | [] => rfl
  | v :: vs => by
    unfold backE
    cases e[v]? with
    | none => exact backE_length e e' vs
    | some s => simp only [List.length_set]; exact backE_length e e' vs
theorem backE_get {e e' : Ev} (hl : e'.length = e.length) : ∀ {own : List Nat} {j : Nat} {s : Sl}, (backE e e' own)[j]? = some s → (j ∈ own ∧ e[j]? = some s) ∨ (j ∉ own ∧ e'[j]? = some s)
  | [], j, s, h => .inr ⟨by simp, h⟩
  | v :: vs, j, s, h => by
    unfold backE at h
    have next : (backE e e' vs)[j]? = some s → v ≠ j → (j ∈ v :: vs ∧ e[j]? = some s) ∨ (j ∉ v :: vs ∧ e'[j]? = some s) := fun h n => by
      rcases backE_get hl h with ⟨h1, h2⟩ | ⟨h1, h2⟩
      · exact .inl ⟨List.mem_cons_of_mem _ h1, h2⟩
      · exact .inr ⟨fun z => (List.mem_cons.mp z).elim (fun z => n z.symm) h1, h2⟩
    cases q : e[v]? with
    | none =>
      simp only [q] at h
      by_cases z : v = j
      · subst z
        have := (List.getElem?_eq_some_iff.mp h).1
        rw [backE_length, hl] at this
        rw [List.getElem?_eq_getElem this] at q; cases q
      · exact next h z
    | some s0 =>
      simp only [q] at h
      rcases get_set h with ⟨rfl, _, rfl⟩ | ⟨n, h⟩
      · exact .inl ⟨List.mem_cons_self, q⟩
      · exact next h n
def ownOk (e : Ev) (own : List Nat) : Bool := own.all fun i => match e[i]? with
  | some .emp => true
  | some (.val _) => true
  | _ => false
def mLcL (own : List Nat) (bd : D → M Unit) (t : M Bool) (el : M D) : List D → List D → M (List D)
  | [], acc => fun e => .ok acc e
  | d :: ds, acc => fun e => match bd d e with
    | .ok _ e1 => (match t e1 with
      | .ok true e2 => (match el e2 with
        | .ok y e3 => if acc.length < 1000000 then mLcL own bd t el ds (acc ++ [y]) (wipeE e3 own) else .bad
        | _ => .bad)
      | .ok false e2 => mLcL own bd t el ds acc (wipeE e2 own)
      | _ => .bad)
    | _ => .bad
def mLc (mi : M (List D)) (own : List Nat) (bd : D → M Unit) (t : M Bool) (el : M D) : M (List D) := mb mi fun ds e => if ownOk e own = true then (match mLcL own bd t el ds [] (wipeE e own) with
  | .ok ys e' => .ok ys (backE e e' own)
  | _ => .bad) else .bad
theorem Fin.bI {f : Fx} {A : Addr → Prop} {σ : Sv} {H : Hp} {e : Ev} {β : Type} {ok : β → Ev → Prop} {ma : M (List D)} {k : List D → M β} (h : Fin g W f A σ H ok (mb ma k e)) (F : FR g f A H σ e) {G : It → Hp → Prop}
    (go : ∀ ds e1 J H1, FR g f A H1 σ e1 → Step A H H1 → Wlk g A H1 J ds → Fin g W f A σ H1 ok (k ds e1) → G J H1) : rdI g W ma σ H G := by
  refine ⟨f, A, e, F, ?_⟩
  unfold mb at h
  cases q : ma e with
  | ok d e1 => rw [q] at h; exact fun J H1 F1 S1 r => go d e1 J H1 F1 S1 r (h.from S1)
  | exc c d e1 => rw [q] at h; exact h
  | bad => rw [q] at h; exact h
abbrev W0 : WK := fun _ _ _ _ => False
abbrev Fx.tm (f : Fx) (D : Addr) (ys : List V) : Fx := { f with T := upd f.T D (.lst ys) }
theorem FR.tmp {f : Fx} {A : Addr → Prop} {H : Hp} {σ : Sv} {e : Ev} (F : FR g f A H σ e) {D : Addr} (hD : H D = none) : FR g (f.tm D []) (add1 A D) (upd H D (.lst [])) σ e := by
  have F1 := F.new (xs := []) hD
  refine ⟨F1.len, fun i s o h1 h2 => F1.sl i s o h1 h2, F1.inj, fun i s p h1 b1 s1 => ?_, fun a o h => ?_, F1.ob, F1.ob0, F1.pb, F1.al, F1.keep, fun q z => let ⟨z1, z2, z3⟩ := F1.tb q z; ⟨z1, noT_upd z2 rfl, z3⟩, F1.iv⟩
  · have : p ≠ D := fun z => F.nA hD (z ▸ F.boxA h1 b1 s1)
    show upd f.T D _ p = none
    rw [upd_ne this]; exact F.nt i s p h1 b1 s1
  · by_cases q : a = D
    · subst q
      have h : upd f.T a (.lst []) a = some o := h
      rw [upd_same] at h; cases h
      exact ⟨.inr rfl, upd_same⟩
    · have h : upd f.T D (.lst []) a = some o := h
      rw [upd_ne q] at h
      exact F1.tp a o h
theorem FR.tmApp {f : Fx} {A : Addr → Prop} {H : Hp} {σ : Sv} {e : Ev} {D : Addr} {ys zs : List V} (F : FR g (f.tm D ys) A H σ e) (h0 : f.H0 D = none) (hpa : ∀ i, f.pa i ≠ some D) : FR g (f.tm D zs) A (upd H D (.lst zs)) σ e ∧ Mono A H A (upd H D (.lst zs)) := by
  obtain ⟨hA, hH⟩ := F.tp D (.lst ys) upd_same
  have st : ∀ a o, a ≠ D → H a = some o → upd H D (.lst zs) a = some o := fun a o n h => by rw [upd_ne n]; exact h
  have m : Mono A H A (upd H D (.lst zs)) := ⟨F.al, fun a o h n => st a o (fun z => n (z ▸ hA)) h, fun _ _ h _ => h⟩
  have nb : ∀ {i : Nat} {s : Sl} {p : Addr}, e[i]? = some s → s.isBox = true → σ[i]? = some (some (.ref p)) → p ≠ D := fun {i s p} h b q z => by
    have := F.nt i s p h b q
    rw [z] at this
    have this : upd f.T D (.lst ys) D = none := this
    rw [upd_same] at this; cases this
  refine ⟨⟨F.len, fun i s o h1 h2 => ?_, F.inj, fun i s p h1 b1 s1 => ?_, fun a o h => ?_, F.ob, F.ob0, F.pb, fun a h => ?_, fun a o h n n2 => ?_, fun q z => let ⟨z1, z2, z3⟩ := F.tb q z; ⟨z1, noT_swap z2 rfl, tabS_but z3 hH rfl fun b o e n => st b o n e⟩, g.ivM m.w F.iv⟩, m⟩
  · have q := F.sl i s o h1 h2
    cases s with
    | emp => exact q
    | val d => obtain ⟨a, v, b, c⟩ := q; exact ⟨a, v, b, R.mono m d c⟩
    | box d => obtain ⟨a, p, b, c, c0, dd⟩ := q; exact ⟨a, p, b, c, c0, Bx.mono m (fun u hu => st p u (nb h1 rfl (by rw [h2, b])) hu) dd⟩
    | pbox d => obtain ⟨p, a, b, c, dd⟩ := q; exact ⟨p, a, b, c, Bx.mono m (fun u hu => st p u (nb h1 rfl (by rw [h2, b])) hu) dd⟩
  · have n := nb h1 b1 s1
    have := F.nt i s p h1 b1 s1
    show upd f.T D (.lst zs) p = none
    have this : upd f.T D (.lst ys) p = none := this
    rw [upd_ne n] at this ⊢; exact this
  · by_cases q : a = D
    · subst q
      have h : upd f.T a (.lst zs) a = some o := h
      rw [upd_same] at h; cases h
      exact ⟨hA, upd_same⟩
    · have h : upd f.T D (.lst zs) a = some o := h
      rw [upd_ne q] at h
      have := F.tp a o (by show upd f.T D (.lst ys) a = some o; rw [upd_ne q]; exact h)
      exact ⟨this.1, st a o q this.2⟩
  · obtain ⟨o, h1, h2⟩ := F.al a h
    by_cases q : a = D
    · exact ⟨.lst zs, by rw [q]; exact upd_same, rfl⟩
    · exact ⟨o, st a o q h1, h2⟩
  · have q : a ≠ D := fun z => by rw [z] at h; rw [show (f.tm D zs).H0 D = none from h0] at h; cases h
    exact st a o q (F.keep a o h n n2)
theorem FR.back {f : Fx} {A : Addr → Prop} {H H' : Hp} {σ : Sv} {e e' : Ev} {own : List Nat} {D : Addr} {ys : List V} (F : FR g f A H σ e) (hD : H D = none) (ho : ownOk e own = true) (F' : FR g (f.tm D ys) (add1 A D) H' (L2.wipe σ own) e')
    (S : Step (add1 A D) (upd H D (.lst [])) H') : FR g f A H' σ (backE e e' own) ∧ FR g f (add1 A D) H' σ (backE e e' own) ∧ Step A H H' := by
  have hl : e'.length = e.length := by rw [← F'.len, wipe_length, F.len]
  have nA := F.nA hD
  have st : Step A H H' := ⟨fun a o h n => S.st a o (by rw [upd_ne (fun z => by rw [z, hD] at h; cases h)]; exact h) fun z => z.elim n fun z => (by rw [z, hD] at h; cases h), fun a o h => S.un a o (by rw [upd_ne (fun z => by rw [z, hD] at h; cases h)]; exact h)⟩
  have nb : ∀ {i : Nat} {s : Sl} {p : Addr}, e'[i]? = some s → s.isBox = true → (L2.wipe σ own)[i]? = some (some (.ref p)) → p ≠ D ∧ f.T p = none := fun {i s p} h b q => by
    have z := F'.nt i s p h b q
    have z : upd f.T D (.lst ys) p = none := z
    have n : p ≠ D := fun y => by rw [y, upd_same] at z; cases z
    rw [upd_ne n] at z
    exact ⟨n, z⟩
  have own_no : ∀ {j : Nat} {s : Sl}, j ∈ own → e[j]? = some s → s.isBox = true → False := fun {j s} hj h b => by
    have q := List.all_eq_true.mp ho j hj
    simp only [h] at q
    cases s with
    | emp => cases b
    | val _ => cases b
    | box _ => cases q
    | pbox _ => cases q
  have fT : f.T D = none := by
    cases z : f.T D with
    | none => rfl
    | some o => have := (F.tp D o z).2; rw [hD] at this; cases this
  have tp : ∀ a o, f.T a = some o → A a ∧ H' a = some o := fun a o h => by
    have n : a ≠ D := fun z => by rw [z, fT] at h; cases h
    exact ⟨(F.tp a o h).1, (F'.tp a o (by show upd f.T D (.lst ys) a = some o; rw [upd_ne n]; exact h)).2⟩
  have all : ∀ (A' : Addr → Prop), (∀ a, A a → A' a) → (∀ a, A' a → add1 A D a) → FR g f A' H' σ (backE e e' own) := fun A' sub sub2 => by
    have m : Mono A H A' H' := ⟨F.al, st.st, fun a o z q => (sub2 a z).elim id fun z => by rw [z, hD] at q; cases q⟩
    have m2 : Mono (add1 A D) H' A' H' := ⟨F'.al, fun _ _ z _ => z, fun a _ z _ => sub2 a z⟩
    have bx : ∀ {j : Nat} {s : Sl}, (backE e e' own)[j]? = some s → s.isBox = true → j ∉ own ∧ e'[j]? = some s := fun {j s} h b => by
      rcases backE_get hl h with ⟨h1, h2⟩ | h
      · exact (own_no h1 h2 b).elim
      · exact h
    refine ⟨by rw [backE_length, hl]; exact F.len, fun j s o h1 h2 => ?_, fun i j s t p h1 h2 b1 b2 s1 s2 => ?_, fun j s p h1 b1 s1 => ?_, fun a o h => ⟨sub a (tp a o h).1, (tp a o h).2⟩, fun a h => sub a (F.ob a h), F.ob0, fun i p h => by rw [backE_length, hl]; exact F.pb i p h, fun a h => F'.al a (sub2 a h), F'.keep, fun q z => let ⟨z1, z2, _⟩ := F.tb q z; ⟨sub _ z1, z2, (F'.tb q z).2.2⟩, g.ivM m.w F.iv⟩
    · rcases backE_get hl h1 with ⟨h3, h4⟩ | ⟨h3, h4⟩
      · have q := F.sl j s o h4 h2
        cases s with
        | emp => exact q
        | val d => obtain ⟨a, v, b, c⟩ := q; exact ⟨a, v, b, R.mono m d c⟩
        | box d => exact (own_no h3 h4 rfl).elim
        | pbox d => exact (own_no h3 h4 rfl).elim
      · have h5 : (L2.wipe σ own)[j]? = some o := by rw [wipe_get h3]; exact h2
        have q := F'.sl j s o h4 h5
        cases s with
        | emp => exact q
        | val d => obtain ⟨a, v, b, c⟩ := q; exact ⟨a, v, b, R.mono m2 d c⟩
        | box d =>
          obtain ⟨a, p, b, c, c0, dd⟩ := q
          have n := nb h4 rfl (by rw [h5, b])
          exact ⟨a, p, b, sub p (c.elim id fun z => absurd z n.1), c0, Bx.mono m2 (fun _ z => z) dd⟩
        | pbox d =>
          obtain ⟨p, a, b, c, dd⟩ := q
          have n := nb h4 rfl (by rw [h5, b])
          exact ⟨p, a, b, sub p (c.elim id fun z => absurd z n.1), Bx.mono m2 (fun _ z => z) dd⟩
    · obtain ⟨o1, q1⟩ := bx h1 b1
      obtain ⟨o2, q2⟩ := bx h2 b2
      exact F'.inj i j s t p q1 q2 b1 b2 (by rw [wipe_get o1]; exact s1) (by rw [wipe_get o2]; exact s2)
    · obtain ⟨o1, q1⟩ := bx h1 b1
      exact (nb q1 b1 (by rw [wipe_get o1]; exact s1)).2
  exact ⟨all A (fun _ z => z) (fun _ z => .inl z), all (add1 A D) (fun _ z => .inl z) (fun _ z => z), st⟩
theorem t_lc {own sl : List Nat} {mi : M (List D)} {bd : D → M Unit} {mt : M Bool} {el : M D} (σ : Sv) (H : Hp) (Q : VK) (f : Fx) (A : Addr → Prop) (e : Ev) (F : FR g f A H σ e)
    (h : Fin g W f A σ H (fun ds e' => ∀ p xs H', FR g f A H' σ e' → FR g f (add1 A p) H' σ e' → ¬ A p → Step A H H' → H p = none → H' p = some (.lst xs) → RL g (add1 A p) H' ds xs → Q (.ref p) H') (mLc mi own bd mt el e)) (hsl : ∀ j ∈ sl, j ∈ own) :
    tLc (rdI g W mi) (rdG g sl bd) (rdT g W0 mt) (rdE g W0 el) own σ H Q := by
  refine Fin.bI h F fun ds e1 J H1 F1 S1 wk h1 => ?_
  intro D hD
  by_cases ho : ownOk e1 own = true
  · simp only [if_pos ho] at h1
    have hpa : ∀ i ∈ own, f.pa i = none := fun i hi => by
      have q := List.all_eq_true.mp ho i hi
      cases z : e1[i]? with
      | none => simp only [z] at q; cases q
      | some s =>
        simp only [z] at q
        refine F1.pa0 z fun d y => ?_
        rw [y] at q; cases q
    have h0 := F1.h0 hD
    have hpD : ∀ i, f.pa i ≠ some D := fun i z => F1.nA hD (F1.ob D (F1.pb i D z).1)
    have F2 : FR g (f.tm D []) (add1 A D) (upd H1 D (.lst [])) (L2.wipe σ own) (wipeE e1 own) := FR.wipe (F1.tmp hD) hpa
    generalize hr : mLcL own bd mt el ds [] (wipeE e1 own) = res at h1
    have good : ∃ ys e', res = .ok ys e' ∧ ∀ p xs H', FR g f A H' σ (backE e1 e' own) → FR g f (add1 A p) H' σ (backE e1 e' own) → ¬ A p → Step A H H' → H p = none → H' p = some (.lst xs) → RL g (add1 A p) H' ys xs → Q (.ref p) H' := by
      cases res with
      | ok ys e' => exact ⟨ys, e', rfl, h1⟩
      | exc _ _ _ => exact h1.elim
      | bad => exact h1.elim
    obtain ⟨ys, ef, hres, fin⟩ := good
    refine ⟨fun i m H' => m = ds.length - i ∧ i ≤ ds.length ∧ ∃ e' acc accv, FR g (f.tm D accv) (add1 A D) H' (L2.wipe σ own) e' ∧ Step (add1 A D) (upd H1 D (.lst [])) H' ∧ RL g (add1 A D) H' acc accv ∧ mLcL own bd mt el (ds.drop i) acc e' = .ok ys ef,
      ⟨ds.length, rfl, Nat.zero_le _, _, [], [], F2, .refl, rfl, by rw [List.drop_zero, hr, hres]⟩, ?_⟩
    rintro i m H2 ⟨rfl, hi, e2, acc, accv, F3, S3, r3, run⟩
    have M3 : Mono A H1 (add1 A D) H2 := ⟨F1.al, fun a o z n => S3.st a o (by rw [upd_ne (fun y => by rw [y, hD] at z; cases z)]; exact z) fun y => y.elim n fun y => (by rw [y, hD] at z; cases z), fun a o z q => z.elim id fun z => (by rw [z, hD] at q; cases q)⟩
    obtain ⟨w1, w2⟩ := wk (add1 A D) H2 i M3 F3.al
    have hDl : H2 D = some (.lst accv) := (F3.tp D _ upd_same).2
    by_cases hlt : i < ds.length
    · right
      have hd : ds[i]? = some ds[i] := List.getElem?_eq_getElem hlt
      obtain ⟨g1, g2⟩ := w1 _ hd
      rw [List.drop_eq_getElem_cons hlt] at run
      refine ⟨g1, fun H' => ∃ e' acc accv, FR g (f.tm D accv) (add1 A D) H' (L2.wipe σ own) e' ∧ Step (add1 A D) (upd H1 D (.lst [])) H' ∧ RL g (add1 A D) H' acc accv ∧ mLcL own bd mt el (ds.drop (i + 1)) acc e' = .ok ys ef,
        fun H' q => ⟨ds.length - (i + 1), by omega, rfl, hlt, q⟩, fun x H3 y => ?_⟩
      obtain ⟨s3, rx⟩ := g2 x H3 y
      have F4 := F3.same s3
      refine ⟨f.tm D accv, add1 A D, e2, ds[i], F4, rx, ?_⟩
      unfold mLcL at run
      cases q : bd ds[i] e2 with
      | exc _ _ _ => simp only [q] at run; cases run
      | bad => simp only [q] at run; cases run
      | ok u e3 =>
        simp only [q] at run
        intro σ4 H4 F5 S5 sm ln
        have hw : L2.wipe σ4 own = L2.wipe σ own := by
          rw [← wipe_wipe (σ := σ)]
          exact wipe_eq ln (sl := sl) sm hsl
        refine ⟨hw, f.tm D accv, add1 A D, e3, F5, ?_⟩
        cases q2 : mt e3 with
        | exc _ _ _ => simp only [q2] at run; cases run
        | bad => simp only [q2] at run; cases run
        | ok b e4 =>
          simp only [q2] at run
          intro H5 F6 S6
          have SS : Step (add1 A D) (upd H1 D (.lst [])) H5 := S3.trans ((Step.of s3).trans (S5.trans S6))
          have r5 : RL g (add1 A D) H5 acc accv := F3.rl ((Step.of s3).trans (S5.trans S6)) r3
          cases b with
          | false =>
            simp only at run
            rw [if_neg Bool.false_ne_true]
            refine ⟨wipeE e4 own, acc, accv, ?_, SS, r5, run⟩
            have := FR.wipe F6 (own := own) hpa
            rw [hw] at this; exact this
          | true =>
            simp only at run
            rw [if_pos rfl]
            refine ⟨f.tm D accv, add1 A D, e4, F6, ?_⟩
            cases q3 : el e4 with
            | exc _ _ _ => simp only [q3] at run; cases run
            | bad => simp only [q3] at run; cases run
            | ok yd e5 =>
              simp only [q3] at run
              intro yv H6 F7 S7 ry
              by_cases hz : acc.length < 1000000
              · rw [if_pos hz] at run
                have r6 : RL g (add1 A D) H6 acc accv := F6.rl S7 r5
                obtain ⟨F8, M8⟩ := FR.tmApp (zs := accv ++ [yv]) F7 h0 hpD
                refine ⟨accv, (F7.tp D _ upd_same).2, by rw [RL.length r6]; exact Nat.lt_of_lt_of_le hz million, wipeE e5 own, acc ++ [yd], accv ++ [yv], ?_, ?_, ?_, run⟩
                · have := FR.wipe F8 (own := own) hpa
                  rw [hw] at this; exact this
                · refine SS.trans (S7.trans ⟨fun a o z n => M8.st a o z n, fun a o z => ?_⟩)
                  by_cases y : a = D
                  · exact ⟨_, by rw [y]; exact upd_same⟩
                  · exact ⟨o, by rw [upd_ne y]; exact z⟩
                · exact RL.mono M8 _ (RL.append r6 ⟨yv, [], rfl, ry, rfl⟩)
              · rw [if_neg hz] at run; cases run
    · have e0 : i = ds.length := by omega
      left
      refine ⟨w2 (by omega), ?_⟩
      rw [e0, List.drop_length] at run
      unfold mLcL at run
      cases run
      obtain ⟨B1, B2, B3⟩ := FR.back F1 hD ho F3 S3
      exact fin D accv H2 B1 B2 (F1.nA hD) (S1.trans B3) (FR.none_of (f := f) S1 hD) hDl r3
  · simp only [if_neg ho] at h1; exact h1.elim
theorem cf_lc {elt tg iter : Expr} {ifs : List Expr} {scope : Scope} {own : List (Str × Nat)} {pos : Pos} {mi : M (List D)} {sl : List Nat} {bd : D → M Unit} {mt : M Bool} {el : M D}
    (h : PE X (.ListComp elt [⟨tg, iter, ifs, 0⟩] scope pos) (tLc (rdI g W mi) (rdG g sl bd) (rdT g W0 mt) (rdE g W0 el) (own.map (·.2)))) (hsl : ∀ j ∈ sl, j ∈ own.map (·.2)) : CF g X W (.ListComp elt [⟨tg, iter, ifs, 0⟩] scope pos) (mLc mi (own.map (·.2)) bd mt el) :=
  PE.imp h fun σ H Q ⟨f, A, e, F, h⟩ => t_lc σ H Q f A e F h hsl
end
end Fw
namespace Fw
open L2 PyProof.Rows PySem PySem.Spec
section
variable {g : GC} {X : Cx} {W : WK}
def dItems : D → Option (List D)
  | .lst ds => some ds
  | .tup ds => some ds
  | .scr ns => some (ns.map D.int)
  | .ktu ns => some (ns.map D.int)
  | .str z => some (z.cps.toList.map fun c => D.str ⟨#[c]⟩)
  | _ => none
def mIt (m : M D) : M (List D) := mb m fun d => mo (dItems d)
abbrev iAny (K : PySem.W.Frag) (tl : TE) : TI := fun σ H Rk => tl σ H fun x H1 => (∃ a, x = .ref a ∧ (∃ xs, SqL K H1 a xs) ∧ Rk (Itl K a) H1) ∨ (∃ a, x = .ref a ∧ (∃ xs, SqT K H1 a xs) ∧ Rk (Itt K a) H1) ∨ ∃ z, x = .str z ∧ Rk (Its z) H1
theorem pi_any {tg l : Expr} {tl : TE} (hl : PE X l tl) : PI X tg l (iAny X.K tl) := by
  refine ⟨fun pins s σ H Rk I h => thn (hl.run pins s σ H _ I h) fun v s1 ⟨x, H1, I1, r1, q1⟩ => ?_⟩
  have new : ∀ b ∈ [s1.heap.objs.size], FpOk X pins H1 b := fun b hb => by
    rw [List.mem_singleton.mp hb]
    exact I1.fpOk (Nat.le_refl _) (I1.hok.fresh (Nat.le_refl _))
  rcases q1 with ⟨a, rfl, ⟨xs, hq⟩, q⟩ | ⟨a, rfl, ⟨xs, hq⟩, q⟩ | ⟨z, rfl, q⟩
  · cases r1
    obtain ⟨its, rv, p, _⟩ := I1.list hq
    exact wpAny_pyIter_list p.isList ⟨_, _, _, _, H1, rfl, I1.kept (t' := s1.toks) fun b o e => Heap.get?_push_of_some _ e, turn_list a _, ⟨_, Heap.get?_push_size _ rfl, rfl, rfl⟩, new, q⟩
  · cases r1
    obtain ⟨its, rv, p, _⟩ := I1.tuple hq
    exact wpAny_pyIter_tuple (show s1.heap.IsTuple a its.toArray from p) ⟨_, _, _, _, H1, rfl, I1.kept (t' := s1.toks) fun b o e => Heap.get?_push_of_some _ e, turn_tuple a _, ⟨_, Heap.get?_push_size _ rfl, rfl, rfl⟩, new, q⟩
  · obtain ⟨t, rfl⟩ := r1
    cases ha : z.cps.all (· < 128)
    · exact wpAny_pyIter_wide ha (pi_one (tk := s1.toks) I1 _ (turn_str _ z t "str_iterator" (.inr rfl)) ⟨_, Heap.get?_push_size _ rfl, rfl, rfl⟩ q)
    · exact wpAny_pyIter_ascii ha (pi_one (tk := s1.toks) I1 _ (turn_str _ z t "str_ascii_iterator" (.inl rfl)) ⟨_, Heap.get?_push_size _ rfl, rfl, rfl⟩ q)
theorem wlk_list {A : Addr → Prop} {H : Hp} {a : Addr} {xs : List V} {ds : List D} (hq : ∀ A' H', Mono A H A' H' → SqL g.K H' a xs) (r : RL g A H ds xs) : Wlk g A H (Itl g.K a) ds := fun A' H' i m al => by
  refine ⟨fun d hd => ?_, fun hi => have hi := Nat.le_of_eq hi; ⟨xs, hq A' H' m, by rw [RL.length r]; exact hi⟩⟩
  obtain ⟨v, hv, rv⟩ := RL.get (RL.mono m ds r) hd
  refine ⟨⟨xs, v, hq A' H' m, hv⟩, fun x H2 y => ?_⟩
  obtain ⟨rfl, y⟩ := y
  have := y xs (hq A' _ m)
  rw [hv] at this; cases this
  exact ⟨Same.refl _, rv⟩
theorem wlk_tup {A : Addr → Prop} {H : Hp} {a : Addr} {xs : List V} {ds : List D} (hq : ∀ A' H', Mono A H A' H' → SqT g.K H' a xs) (r : RL g A H ds xs) : Wlk g A H (Itt g.K a) ds := fun A' H' i m al => by
  refine ⟨fun d hd => ?_, fun hi => have hi := Nat.le_of_eq hi; ⟨xs, hq A' H' m, by rw [RL.length r]; exact hi⟩⟩
  obtain ⟨v, hv, rv⟩ := RL.get (RL.mono m ds r) hd
  refine ⟨⟨xs, v, hq A' H' m, hv⟩, fun x H2 y => ?_⟩
  obtain ⟨rfl, y⟩ := y
  have := y xs (hq A' _ m)
  rw [hv] at this; cases this
  exact ⟨Same.refl _, rv⟩
theorem wlk_str {A : Addr → Prop} {H : Hp} {z : Str} : Wlk g A H (Its z) (z.cps.toList.map fun c => D.str ⟨#[c]⟩) := fun A' H' i m al => by
  refine ⟨fun d hd => ?_, fun hi => have hi := Nat.le_of_eq hi; (show z.cps.size ≤ i by simpa using hi)⟩
  rw [List.getElem?_map] at hd
  cases q : z.cps.toList[i]? with
  | none => rw [q] at hd; cases hd
  | some c =>
    rw [q] at hd; cases hd
    have hi : i < z.cps.size := by simpa using (List.getElem?_eq_some_iff.mp q).1
    refine ⟨hi, fun x H2 y => ?_⟩
    obtain ⟨rfl, c', h1, rfl⟩ := y
    have : z.cps[i]? = some c := by simpa using q
    rw [this] at h1; cases h1
    exact ⟨Same.refl _, rfl⟩
theorem wlk_rng {A : Addr → Prop} {H : Hp} {lo : Int} {n : Nat} : Wlk g A H (Itr lo n) ((List.range n).map fun (i : Nat) => D.int (lo + (i : Int))) := fun A' H' i m al => by
  refine ⟨fun d hd => ?_, fun hi => have hi := Nat.le_of_eq hi; (show n ≤ i by simpa using hi)⟩
  have hi : i < n := by
    have := (List.getElem?_eq_some_iff.mp hd).1
    simpa using this
  rw [List.getElem?_map, List.getElem?_range hi] at hd
  cases hd
  refine ⟨hi, fun x H2 y => ?_⟩
  obtain ⟨rfl, rfl⟩ := y
  exact ⟨Same.refl _, rfl⟩
theorem ci_any {tg l : Expr} {m : M D} (hK : X.K = g.K) (h : CE g X W l m) : CI g X W tg l (mIt m) := PI.imp (pi_any h) fun σ H Q ⟨f, A, e, F, h⟩ => by
  refine Fin.bE h F fun d e1 v H1 F1 S1 r h1 => ?_
  obtain ⟨ds, q, h2⟩ := Fin.mo h1
  rw [hK]
  cases d with
  | lst ds' =>
    cases q
    obtain ⟨a, xs, rfl, ha, n, rl⟩ := r
    exact .inl ⟨a, rfl, ⟨xs, SqL.of ha⟩, h2 _ H1 F1 S1 (wlk_list (fun A' H' m => SqL.of (m.st a _ ha n)) rl)⟩
  | tup ds' =>
    cases q
    obtain ⟨a, xs, rfl, ha, rl⟩ := r
    exact .inr (.inl ⟨a, rfl, ⟨xs, SqT.of ha⟩, h2 _ H1 F1 S1 (wlk_tup (fun A' H' m => SqT.of (m.ins rfl ha)) rl)⟩)
  | scr ns =>
    cases q
    obtain ⟨a, rfl, ha⟩ := r
    exact .inl ⟨a, rfl, ⟨_, ha.sq⟩, h2 _ H1 F1 S1 (wlk_list (fun A' H' m => (m.lsr ha).sq) (RL.ints ns))⟩
  | ktu ns =>
    cases q
    obtain ⟨a, rfl, ha⟩ := r
    exact .inr (.inl ⟨a, rfl, ⟨_, ha.sq⟩, h2 _ H1 F1 S1 (wlk_tup (fun A' H' m => KtX.sq (ha.imp id fun ⟨o, x, y⟩ => ⟨o, m.ins rfl x, y⟩)) (RL.ints ns))⟩)
  | str z =>
    cases q
    obtain rfl : v = .str z := r
    exact .inr (.inr ⟨z, rfl, h2 _ H1 F1 S1 wlk_str⟩)
  | _ => cases q
def rngOk (i : Int) : Bool := decide (i.natAbs < 4611686018427387904)
def dR1 : List D → Option (List D)
  | [.int j] => if rngOk j = true then some ((List.range j.toNat).map fun (i : Nat) => D.int (0 + (i : Int))) else none
  | _ => none
def dR2 : List D → Option (List D)
  | [.int i, .int j] => if rngOk i = true ∧ rngOk j = true then some ((List.range (j - i).toNat).map fun (k : Nat) => D.int (i + (k : Int))) else none
  | _ => none
def mIA (op : List D → Option (List D)) (os : List Od) : M (List D) := mb (mAs os) fun ds => mo (op ds)
theorem rngOk_ok {i : Int} (h : rngOk i = true) : -(2 ^ 62) ≤ i ∧ i < 2 ^ 62 := by
  have h : i.natAbs < 4611686018427387904 := of_decide_eq_true h
  constructor
  · show -(4611686018427387904 : Int) ≤ i; omega
  · show i < (4611686018427387904 : Int); omega
theorem ci_range1 {tg a : Expr} {os : List Od} {p pos : Pos} (hg : Gl X "range") (hm : X.mg "range" = none) (ha : COs g X W [a] os) (hs : starEach [a] X.env = [(false, eval a X.env)] := by rfl) : CI g X W tg (.Call (.Name "range" p) [a] [] pos) (mIA dR1 os) := PI.imp (pi_range1 hg hm ha hs) fun σ H Q ⟨f, A, e, F, h⟩ =>
  Fin.bAs h F fun ds e1 vs H1 F1 S1 r h1 => by
    obtain ⟨es, q, h2⟩ := Fin.mo h1
    unfold dR1 at q
    split at q
    · rename_i j
      obtain ⟨y, ys, rfl, rfl, rfl⟩ := r
      by_cases z : rngOk j = true
      · rw [if_pos z] at q; cases q
        exact ⟨j, rfl, (rngOk_ok z).1, (rngOk_ok z).2, h2 _ H1 F1 S1 wlk_rng⟩
      · rw [if_neg z] at q; cases q
    · cases q
theorem ci_range2 {tg a b : Expr} {os : List Od} {p pos : Pos} (hg : Gl X "range") (hm : X.mg "range" = none) (ha : COs g X W [a, b] os) (hs : starEach [a, b] X.env = [(false, eval a X.env), (false, eval b X.env)] := by rfl) (hs2 : starEach [b] X.env = [(false, eval b X.env)] := by rfl) : CI g X W tg (.Call (.Name "range" p) [a, b] [] pos) (mIA dR2 os) := PI.imp (pi_range2 hg hm ha hs hs2) fun σ H Q ⟨f, A, e, F, h⟩ =>
  Fin.bAs h F fun ds e1 vs H1 F1 S1 r h1 => by
    obtain ⟨es, q, h2⟩ := Fin.mo h1
    unfold dR2 at q
    split at q
    · rename_i i j
      obtain ⟨y, ys, rfl, rfl, y', ys', rfl, rfl, rfl⟩ := r
      by_cases z : rngOk i = true ∧ rngOk j = true
      · rw [if_pos z] at q; cases q
        exact ⟨i, j, rfl, ⟨(rngOk_ok z.1).1, (rngOk_ok z.1).2, (rngOk_ok z.2).1, (rngOk_ok z.2).2⟩, h2 _ H1 F1 S1 wlk_rng⟩
      · rw [if_neg z] at q; cases q
    · cases q
def dIx : D → D → Option D
  | .lst ds, .int i => atI ds i
  | .tup ds, .int i => atI ds i
  | .scr ns, .int i => (atI ns i).map D.int
  | .str z, .int i => if z.length ≤ 1000000 then (atI z.cps.toList i).map fun c => D.str ⟨#[c]⟩ else none
  | _, _ => none
theorem RL.atI {A : Addr → Prop} {H : Hp} {ds : List D} {xs : List V} {i : Int} {d : D} (r : RL g A H ds xs) (h : L2.atI ds i = some d) : ∃ v, L2.atI xs i = some v ∧ R g A H d v := by
  unfold L2.atI at h ⊢
  rw [RL.length r]
  cases q : ixN ds.length i with
  | none => rw [q] at h; cases h
  | some j =>
    rw [q] at h
    exact RL.get r h
theorem os_ix : OS g (rIx g.K) dIx := fun A H d1 d2 d v1 v2 Q al r1 r2 q k => by
  cases d1 with
  | lst ds => cases d2 with
    | int i =>
      obtain ⟨a, xs, rfl, ha, rl⟩ := r1
      obtain ⟨v, h1, h2⟩ := RL.atI rl q
      exact .inl ⟨a, xs, i, v, rfl, r2, SqL.of ha, h1, k v H (Same.refl H) h2⟩
    | _ => cases q
  | tup ds => cases d2 with
    | int i =>
      obtain ⟨a, xs, rfl, ha, rl⟩ := r1
      obtain ⟨v, h1, h2⟩ := RL.atI rl q
      exact .inr (.inl ⟨a, xs, i, v, rfl, r2, (SqT.of ha), h1, k v H (Same.refl H) h2⟩)
    | _ => cases q
  | scr ns => cases d2 with
    | int i =>
      obtain ⟨a, rfl, ha⟩ := r1
      obtain ⟨n, h0, rfl⟩ := map_some q
      have h0' : L2.atI (ns.map D.int) i = some (.int n) := by
        unfold L2.atI at h0 ⊢
        rw [List.length_map]
        cases z : ixN ns.length i with
        | none => rw [z] at h0; cases h0
        | some j => rw [z] at h0; simp only [Option.bind_some] at h0 ⊢; rw [List.getElem?_map, h0]; rfl
      obtain ⟨v, h1, h2⟩ := RL.atI (RL.ints (g := g) (A := A) (H := H) ns) h0'
      exact .inl ⟨a, _, i, v, rfl, r2, ha.sq, h1, k v H (Same.refl H) h2⟩
    | _ => cases q
  | str z => cases d2 with
    | int i =>
      simp only [dIx] at q
      by_cases hz : z.length ≤ 1000000
      · rw [if_pos hz] at q
        obtain ⟨c, h0, rfl⟩ := map_some q
        exact .inr (.inr ⟨z, i, c, r1, r2, Nat.le_trans hz million, h0, k _ H (Same.refl H) rfl⟩)
      · rw [if_neg hz] at q; cases q
    | _ => cases q
  | _ => cases q
theorem c_ix {a b : Expr} {oa ob : Od} {pos : Pos} (hK : X.K = g.K) (ha : CO g X W a oa) (hb : CO g X W b ob) (hs : PlainIx b) : CE g X W (.Subscript a b pos) (mOp dIx oa ob) := PE.imp (pe_ix ix_seq ha hb hs) (by rw [hK]; exact t_op os_ix)
def cutD (ds : List D) (lo hi : Option Int) : List D := (ds.drop (HT.sIx ds.length 0 lo)).take (HT.sIx ds.length ds.length hi - HT.sIx ds.length 0 lo)
theorem RL.cut {A : Addr → Prop} {H : Hp} {ds : List D} {xs : List V} (r : RL g A H ds xs) (lo hi : Option Int) : RL g A H (cutD ds lo hi) (cutV xs lo hi) := by
  unfold cutD cutV
  rw [RL.length r]
  exact RL.take _ (RL.drop _ r)
def mPart : Option (M D) → M (Option Int)
  | none => mp none
  | some m => mb m fun d => match d with
    | .int i => mp (some i)
    | _ => fun _ => .bad
def rdP (g : GC) (W : WK) : Option (M D) → TO
  | none => tNoPart
  | some m => tPart (rdE g W m)
abbrev CP (g : GC) (X : Cx) (W : WK) (e : Option Expr) (m : Option (M D)) : Prop := PO X e (rdP g W m)
theorem cp_none : CP g X W none none := po_none
theorem cp_some {e : Expr} {m : M D} (h : CE g X W e m) : CP g X W (some e) (some m) := po_some h
theorem Fin.bP {f : Fx} {A : Addr → Prop} {σ : Sv} {H : Hp} {e : Ev} {β : Type} {ok : β → Ev → Prop} {m : Option (M D)} {k : Option Int → M β} (h : Fin g W f A σ H ok (mb (mPart m) k e)) (F : FR g f A H σ e) {G : Option Int → Hp → Prop}
    (go : ∀ o e1 H1, FR g f A H1 σ e1 → Step A H H1 → Fin g W f A σ H1 ok (k o e1) → G o H1) : rdP g W m σ H G := by
  cases m with
  | none => exact go none e H F .refl h
  | some m =>
    unfold mPart at h
    rw [mb_assoc] at h
    refine Fin.bE h F fun d e1 v H1 F1 S1 r h1 => ?_
    cases d with
    | int i => exact ⟨i, r, go (some i) e1 H1 F1 S1 h1⟩
    | _ => exact h1.elim
def mSl {β : Type} (a : Od) (lo hi : Option (M D)) (op : D → Option Int → Option Int → Option β) : M β := match a with
  | .e m => mb m fun d => mb (mPart lo) fun l => mb (mPart hi) fun u => mo (op d l u)
  | .n i => mb (mN i) fun _ => mb (mPart lo) fun l => mb (mPart hi) fun u => mb (mN i) fun d => mo (op d l u)
def dCutV : D → Option Int → Option Int → Option D
  | .tup ds, lo, hi => if HT.sIx ds.length 0 lo = 0 ∧ HT.sIx ds.length ds.length hi = ds.length then none else some (.tup (cutD ds lo hi))
  | .str z, lo, hi => if z.length ≤ 1000000 then some (.str (cutS z lo hi)) else none
  | .lst ds, lo, hi => some (.lst (cutD ds lo hi))
  | _, _, _ => none
def dCutL : D → Option Int → Option Int → Option (List D)
  | .lst ds, lo, hi => some (cutD ds lo hi)
  | .scr ns, lo, hi => some (cutD (ns.map D.int) lo hi)
  | _, _, _ => none
theorem Fin.bS {f : Fx} {A : Addr → Prop} {σ : Sv} {H : Hp} {e : Ev} {β : Type} {ok : β → Ev → Prop} {a : Od} {lo hi : Option (M D)} {op : D → Option Int → Option Int → Option β} (h : Fin g W f A σ H ok (mSl a lo hi op e)) (F : FR g f A H σ e) {G : V → Option Int → Option Int → Hp → Prop}
    (go : ∀ d l u b e1 v H1, FR g f A H1 σ e1 → Step A H H1 → Rt g A H1 d v → op d l u = some b → ok b e1 → G v l u H1) : rdO g W a σ H fun x H1 => rdP g W lo σ H1 fun l H2 => rdP g W hi σ H2 fun u H3 => G x l u H3 := by
  cases a with
  | e m =>
    refine Fin.bE h F fun d e1 v H1 F1 S1 r h1 => ?_
    refine Fin.bP h1 F1 fun l e2 H2 F2 S2 h2 => ?_
    refine Fin.bP h2 F2 fun u e3 H3 F3 S3 h3 => ?_
    obtain ⟨b, q, h4⟩ := Fin.mo h3
    exact go d l u b e3 v H3 F3 (S1.trans (S2.trans S3)) (F1.r (S2.trans S3) r).rt q h4
  | n i =>
    obtain ⟨_, v, hv, _, h1⟩ := Fin.bN h F
    refine ⟨v, hv, ?_⟩
    refine Fin.bP h1 F fun l e2 H2 F2 S2 h2 => ?_
    refine Fin.bP h2 F2 fun u e3 H3 F3 S3 h3 => ?_
    obtain ⟨d, v', hv', r, h4⟩ := Fin.bN h3 F3
    rw [hv] at hv'; cases hv'
    obtain ⟨b, q, h5⟩ := Fin.mo h4
    exact go d l u b e3 v H3 F3 (S2.trans S3) r q h5
theorem c_sl {a : Expr} {lo hi : Option Expr} {oa : Od} {ml mh : Option (M D)} {pos p2 : Pos} (hK : X.K = g.K) (ha : CO g X W a oa) (hl : CP g X W lo ml) (hh : CP g X W hi mh) : CE g X W (.Subscript a (.Slice lo hi none p2) pos) (mSl oa ml mh dCutV) :=
  PE.imp (pe_slice (SlR.or sl_list (SlR.or sl_tup sl_str)) ha hl hh) fun σ H Q ⟨f, A, e, F, h⟩ => Fin.bS h F fun d l u b e1 v H1 F1 S1 r q h1 => by
    rw [hK]
    cases d with
    | lst ds =>
      cases q
      obtain ⟨a, xs, rfl, ha, rl⟩ := r
      refine .inl ⟨a, xs, rfl, SqL.of ha, fun p hp => ?_⟩
      exact h1 _ _ (F1.same (Same.new hp)) (S1.trans (.of (Same.new hp))) ⟨p, _, rfl, upd_same, F1.nA hp, RL.cut (RL.mono (Mono.same F1.al (Same.new hp)) ds rl) l u⟩
    | tup ds =>
      obtain ⟨a, xs, rfl, ha, rl⟩ := r
      simp only [dCutV] at q
      by_cases z : HT.sIx ds.length 0 l = 0 ∧ HT.sIx ds.length ds.length u = ds.length
      · rw [if_pos z] at q; cases q
      · rw [if_neg z] at q; cases q
        refine .inr (.inl ⟨a, xs, rfl, (SqT.of ha), by rw [RL.length rl]; exact z, fun p hp => ?_⟩)
        exact h1 _ _ (F1.same (Same.new hp)) (S1.trans (.of (Same.new hp))) ⟨p, _, rfl, upd_same, RL.cut (RL.mono (Mono.same F1.al (Same.new hp)) ds rl) l u⟩
    | str z =>
      simp only [dCutV] at q
      by_cases hz : z.length ≤ 1000000
      · rw [if_pos hz] at q; cases q
        exact .inr (.inr ⟨z, r, Nat.le_trans hz million, h1 _ H1 F1 S1 rfl⟩)
      · rw [if_neg hz] at q; cases q
    | _ => cases q
theorem cf_sl {a : Expr} {lo hi : Option Expr} {oa : Od} {ml mh : Option (M D)} {pos p2 : Pos} (hK : X.K = g.K) (ha : CO g X W a oa) (hl : CP g X W lo ml) (hh : CP g X W hi mh) : CF g X W (.Subscript a (.Slice lo hi none p2) pos) (mSl oa ml mh dCutL) :=
  PE.imp (pe_slice sl_list ha hl hh) fun σ H Q ⟨f, A, e, F, h⟩ => Fin.bS h F fun d l u b e1 v H1 F1 S1 r q h1 => by
    rw [hK]
    have fin : ∀ (a : Addr) (xs : List V) (ds : List D), v = .ref a → SqL g.K H1 a xs → RL g A H1 ds xs → b = cutD ds l u → rSlL g.K v l u H1 Q := fun a xs ds ev hq rl eb => by
      refine ⟨a, xs, ev, hq, fun p hp => ?_⟩
      rw [eb] at h1
      exact h1 p _ _ (F1.same (Same.new hp)) (F1.new hp) (F1.nA hp) (S1.trans (.of (Same.new hp))) (FR.none_of (f := f) S1 hp) upd_same (RL.mono (Mono.new F1 hp) _ (RL.cut rl l u))
    cases d with
    | lst ds => cases q; obtain ⟨a, xs, ev, ha, rl⟩ := r; exact fin a xs ds ev (SqL.of ha) rl rfl
    | scr ns => cases q; obtain ⟨a, ev, ha⟩ := r; exact fin a _ _ ev ha.sq (RL.ints ns) rfl
    | _ => cases q
end
end Fw
namespace Fw
open L2 PyProof.Rows PySem PySem.Spec
section
variable {g : GC} {X : Cx} {W : WK}
theorem FR.put {f : Fx} {A : Addr → Prop} {H : Hp} {σ : Sv} {e : Ev} (F : FR g f A H σ e) {i : Nat} {s : Sl} {p : Addr} {ds : List D} {xs : List V} (h : e[i]? = some s) (hb : s.isBox = true) (hs : σ[i]? = some (some (.ref p))) (r : RL g A H ds xs) :
    FR g f A (upd H p (.lst xs)) σ (e.set i (s.put (.lst ds))) ∧ Step A H (upd H p (.lst xs)) := by
  have hA := F.boxA h hb hs
  have st : ∀ a o, a ≠ p → H a = some o → upd H p (.lst xs) a = some o := fun a o n z => by rw [upd_ne n]; exact z
  have sp : Step A H (upd H p (.lst xs)) := ⟨fun a o z n => st a o (fun y => n (y ▸ hA)) z, fun a o z => by
    by_cases y : a = p
    · exact ⟨.lst xs, by rw [y]; exact upd_same⟩
    · exact ⟨o, st a o y z⟩⟩
  have m := F.mono sp
  have kb : (s.put (.lst ds)).isBox = true := by
    cases s with
    | emp => cases hb
    | val _ => cases hb
    | box _ => rfl
    | pbox _ => rfl
  have hi : i < e.length := (List.getElem?_eq_some_iff.mp h).1
  have bx : ∀ {j : Nat} {t : Sl}, (e.set i (s.put (.lst ds)))[j]? = some t → t.isBox = true → ∃ t0, e[j]? = some t0 ∧ t0.isBox = true := fun {j t} z b => by
    rcases get_set z with ⟨rfl, _, _⟩ | ⟨_, z⟩
    · exact ⟨s, h, hb⟩
    · exact ⟨t, z, b⟩
  refine ⟨⟨by rw [List.length_set]; exact F.len, fun j t o z1 z2 => ?_, fun a b t u q z1 z2 b1 b2 s1 s2 => ?_, fun a t q z1 b1 s1 => ?_, fun a o z => ?_, F.ob, F.ob0, fun a q z => by rw [List.length_set]; exact F.pb a q z, fun a z => ?_, fun a o z n n2 => ?_, fun q z => let ⟨z1, z2, z3⟩ := F.tb q z; ⟨z1, z2, tabS_keep z3 fun b o y nb => st b o (fun w => F.bxno h hb hs (w ▸ y) nb) y⟩, g.ivM m.w F.iv⟩, sp⟩
  · rcases get_set z1 with ⟨rfl, _, rfl⟩ | ⟨n, z1⟩
    · have q := F.sl i s o h z2
      rw [hs] at z2; cases z2
      cases s with
      | emp => cases hb
      | val _ => cases hb
      | box d => obtain ⟨a, p', b, c, c0, _⟩ := q; cases b; exact ⟨a, p, rfl, c, c0, xs, upd_same, RL.mono m ds r⟩
      | pbox d => obtain ⟨p', a, b, c, _⟩ := q; cases b; exact ⟨p, a, rfl, c, xs, upd_same, RL.mono m ds r⟩
    · have q := F.sl j t o z1 z2
      have np : ∀ p', t.isBox = true → o = some (.ref p') → p' ≠ p := fun p' hb' eo y => n (F.inj i j s t p h z1 hb hb' hs (by rw [z2, eo, y]))
      cases t with
      | emp => exact q
      | val d => obtain ⟨a, v, b, c⟩ := q; exact ⟨a, v, b, R.mono m d c⟩
      | box d => obtain ⟨a, p', b, c, c0, dd⟩ := q; exact ⟨a, p', b, c, c0, Bx.mono m (fun u z => st p' u (np p' rfl b) z) dd⟩
      | pbox d => obtain ⟨p', a, b, c, dd⟩ := q; exact ⟨p', a, b, c, Bx.mono m (fun u z => st p' u (np p' rfl b) z) dd⟩
  · obtain ⟨t0, y1, y2⟩ := bx z1 b1
    obtain ⟨u0, y3, y4⟩ := bx z2 b2
    exact F.inj a b t0 u0 q y1 y3 y2 y4 s1 s2
  · obtain ⟨t0, y1, y2⟩ := bx z1 b1
    exact F.nt a t0 q y1 y2 s1
  · have q := F.tp a o z
    refine ⟨q.1, st a o (fun y => ?_) q.2⟩
    have := F.nt i s p h hb hs
    rw [← y, z] at this; cases this
  · obtain ⟨o, q1, q2⟩ := F.al a z
    by_cases y : a = p
    · exact ⟨.lst xs, by rw [y]; exact upd_same, rfl⟩
    · exact ⟨o, st a o y q1, q2⟩
  · refine st a o (fun y => ?_) (F.keep a o z n n2)
    have q := F.sl i s _ h hs
    cases s with
    | emp => cases hb
    | val _ => cases hb
    | box d => obtain ⟨_, p', b, _, c0, _⟩ := q; cases b; rw [y, c0] at z; cases z
    | pbox d => obtain ⟨p', b0, b, _⟩ := q; cases b; exact n i (y ▸ b0)
def lstOf : Sl → Option (List D)
  | .box (.lst ds) => some ds
  | .pbox (.lst ds) => some ds
  | _ => none
theorem FR.lst {f : Fx} {A : Addr → Prop} {H : Hp} {σ : Sv} {e : Ev} (F : FR g f A H σ e) {i : Nat} {s : Sl} {ds : List D} (h : e[i]? = some s) (q : lstOf s = some ds) : s.isBox = true ∧ ∃ p xs, σ[i]? = some (some (.ref p)) ∧ H p = some (.lst xs) ∧ RL g A H ds xs := by
  obtain ⟨o, h1, h2⟩ := F.at h
  cases s with
  | emp => cases q
  | val _ => cases q
  | box d =>
    cases d with
    | lst ds' => cases q; obtain ⟨_, p, e1, _, _, xs, h3, h4⟩ := h2; exact ⟨rfl, p, xs, by rw [h1, e1], h3, h4⟩
    | _ => cases q
  | pbox d =>
    cases d with
    | lst ds' => cases q; obtain ⟨p, _, e1, _, xs, h3, h4⟩ := h2; exact ⟨rfl, p, xs, by rw [h1, e1], h3, h4⟩
    | _ => cases q
def chB (i : Nat) (op : List D → Option (List D)) : M Unit := fun e => match e[i]? with
  | some s => (match lstOf s with
    | some ds => (match op ds with
      | some ds' => .ok () (e.set i (s.put (.lst ds')))
      | none => .bad)
    | none => .bad)
  | none => .bad
theorem chB_inv {i : Nat} {op : List D → Option (List D)} {e : Ev} : chB i op e = .bad ∨ ∃ s ds ds', e[i]? = some s ∧ lstOf s = some ds ∧ op ds = some ds' ∧ chB i op e = .ok () (e.set i (s.put (.lst ds'))) := by
  unfold chB
  cases q : e[i]? with
  | none => exact .inl rfl
  | some s =>
    cases q2 : lstOf s with
    | none => left; simp only [q2]
    | some ds =>
      cases q3 : op ds with
      | none => left; simp only [q2, q3]
      | some ds' => exact .inr ⟨s, ds, ds', rfl, q2, q3, by simp only [q2, q3]⟩
def hasB (i : Nat) : M Unit := fun e => match e[i]? with
  | some s => (match lstOf s with
    | some _ => .ok () e
    | none => .bad)
  | none => .bad
theorem hasB_inv {i : Nat} {e : Ev} : hasB i e = .bad ∨ ∃ s ds, e[i]? = some s ∧ lstOf s = some ds ∧ hasB i e = .ok () e := by
  unfold hasB
  cases q : e[i]? with
  | none => exact .inl rfl
  | some s =>
    cases q2 : lstOf s with
    | none => left; simp only [q2]
    | some ds => exact .inr ⟨s, ds, rfl, q2, by simp only [q2]⟩
def lim (n : Nat) (ds : List D) : Option (List D) := if ds.length ≤ n then some ds else none
def mApp (i : Nat) (m : M D) : M D := mb (hasB i) fun _ => mb m fun d => mb (chB i fun ds => lim 8000000 (ds ++ [d])) fun _ => mp .non
theorem c_app (i : Nat) {x : Str} {a : Expr} {m : M D} {p apos cpos : Pos} (hK : X.K = g.K)
    (h : PE X (.Call (.Attribute (.Name x p) "append" apos) [a] [] cpos) (tBM X.K "list" rAppend (tVar i) (tCons (rdE g W m) tNil))) : CE g X W (.Call (.Attribute (.Name x p) "append" apos) [a] [] cpos) (mApp i m) :=
  PE.imp h fun σ H Q ⟨f, A, e, F, h⟩ => by
    rcases hasB_inv (i := i) (e := e) with z | ⟨s, ds, z1, z2, z3⟩
    · unfold mApp mb at h; rw [z] at h; exact h.elim
    · have e2 : mApp i m e = mb m (fun d => mb (chB i fun ds => lim 8000000 (ds ++ [d])) fun _ => mp D.non) e := by
        unfold mApp
        conv => lhs; unfold mb; rw [z3]
        rfl
      rw [e2] at h
      obtain ⟨_, p1, xs, y1, y2, y3⟩ := F.lst z1 z2
      refine ⟨.ref p1, y1, .inl ⟨rfl, xs, SqL.of y2⟩, ?_⟩
      refine Fin.bE h F fun d e1 v H1 F1 S1 r h1 => ?_
      unfold mb at h1
      rcases chB_inv (i := i) (op := fun ds => lim 8000000 (ds ++ [d])) (e := e1) with w | ⟨s', es, es', w1, w2, w3, w4⟩
      · rw [w] at h1; exact h1.elim
      · rw [w4] at h1
        obtain ⟨hb, p2, ys, v1, v2, v3⟩ := F1.lst w1 w2
        rw [y1] at v1; cases v1
        have hl : (es ++ [d]).length ≤ 8000000 ∧ es' = es ++ [d] := by
          unfold lim at w3
          by_cases q : (es ++ [d]).length ≤ 8000000
          · rw [if_pos q] at w3; cases w3; exact ⟨q, rfl⟩
          · rw [if_neg q] at w3; cases w3
        rw [hl.2] at h1
        obtain ⟨F2, S2⟩ := F1.put w1 hb y1 (RL.append v3 (show RL g A H1 [d] [v] from ⟨v, [], rfl, r, rfl⟩))
        refine ⟨p1, ys, v, rfl, rfl, v2, ?_, h1 _ _ F2 (S1.trans S2) rfl⟩
        have := RL.length v3
        have h2 := hl.1
        rw [List.length_append, List.length_singleton] at h2
        have : (8000000 : Nat) ≤ sizeLine := by rw [sizeLine_eq]; decide
        omega
def gSt (i : Nat) (mk : M D) : D → M Unit := fun d => mb (hasB i) fun _ => mb mk fun k => match k with
  | .int k => chB i fun ds => (ixN ds.length k).map fun j => ds.set j d
  | _ => fun _ => .bad
theorem cg_st (i : Nat) {x : Str} {b : Expr} {mk : M D} {p pos : Pos} (hx : PE X (.Name x p) (tVar i)) (hk : CE g X W b mk)
    (ha : ∀ v, assign (.Subscript (.Name x p) b pos) X.env v = (do
      let ov ← holding [v] (eval (.Name x p) X.env)
      let iv ← holding [v, ov] (eval b X.env)
      standAt pos
      holding [v, ov, iv] (setItem ov iv v)
      release [v, ov, iv] []) := by intro _; rfl) : CG g X (.Subscript (.Name x p) b pos) [] (gSt i mk) := PG.imp (pg_sub hx hk set_list ha) fun v σ H Q ⟨f, A, e, d, F, r, h⟩ => by
  rcases hasB_inv (i := i) (e := e) with z | ⟨s, ds, z1, z2, z3⟩
  · unfold gSt mb at h; rw [z] at h; exact h.elim
  · obtain ⟨_, p1, xs, y1, y2, y3⟩ := F.lst z1 z2
    refine ⟨.ref p1, y1, f, A, e, F, ?_⟩
    unfold gSt mb at h
    rw [z3] at h
    cases q : mk e with
    | exc _ _ _ => simp only [q] at h; exact h.elim
    | bad => simp only [q] at h; exact h.elim
    | ok kd e1 =>
      simp only [q] at h
      intro kv H1 F1 S1 rk
      cases kd with
      | int k =>
        obtain rfl : kv = .int k := rk
        rcases chB_inv (i := i) (op := fun ds => (ixN ds.length k).map fun j => ds.set j d) (e := e1) with w | ⟨s', es, es', w1, w2, w3, w4⟩
        · simp only [w] at h; exact h.elim
        · simp only [w4] at h
          obtain ⟨j, q3, rfl⟩ := map_some w3
          obtain ⟨hb, p2, ys, v1, v2, v3⟩ := F1.lst w1 w2
          rw [y1] at v1; cases v1
          obtain ⟨F2, S2⟩ := F1.put w1 hb y1 (RL.set (F.r S1 r) j v3)
          exact ⟨p1, ys, k, j, rfl, rfl, v2, by rw [RL.length v3]; exact q3, h σ _ F2 (S1.trans S2) (fun _ _ => rfl) rfl⟩
      | _ => exact h.elim
def mC1 (fn : Fn) (m : M (List D)) : M D := mb m fun ds e => match fn [.pbox (.lst ds)] with
  | .ok rv _ => .ok rv.d e
  | .exc c d _ => .exc c d e
  | .bad => .bad
theorem FR.drop {f : Fx} {A : Addr → Prop} {H H' : Hp} {σ : Sv} {e : Ev} {p : Addr} (F1 : FR g f A H σ e) (F2 : FR g f (add1 A p) H σ e) (n : ¬ A p) (k : ∀ a o, H a = some o → a ≠ p → (∀ q, (a, q) ∉ g.T) → H' a = some o) (tH : ∀ q ∈ g.T, LamX.TabS H' q.1 q.2) (h0 : f.H0 p = none) : FR g f A H' σ e := by
  have m : Mono (add1 A p) H A H' := ⟨F2.al, fun a o h z => k a o h (fun y => z (.inr y)) (F2.nT z), fun a o z _ => .inl z⟩
  have np : ∀ a, A a → a ≠ p := fun a z y => n (y ▸ z)
  refine ⟨F1.len, fun i s o h1 h2 => ?_, F1.inj, F1.nt, fun a o z => ⟨(F1.tp a o z).1, k a o (F1.tp a o z).2 (np a (F1.tp a o z).1) fun q hq => ?_⟩, F1.ob, F1.ob0, F1.pb, fun a z => ?_, fun a o z n' n2 => k a o (F1.keep a o z n' n2) (fun y => (by rw [y, h0] at z; cases z)) n2, fun q z => ⟨(F1.tb q z).1, (F1.tb q z).2.1, tH q z⟩, g.ivM m.w F2.iv⟩
  · have q := F2.sl i s o h1 h2
    have q1 := F1.sl i s o h1 h2
    cases s with
    | emp => exact q
    | val d => obtain ⟨a, v, b, c⟩ := q; exact ⟨a, v, b, R.mono m d c⟩
    | box d =>
      obtain ⟨a, p', b, c, c0, dd⟩ := q
      obtain ⟨_, p1, b1, c1, _⟩ := q1
      rw [b] at b1; cases b1
      exact ⟨a, p', b, c1, c0, Bx.mono m (fun u z => k p' u z (np p' c1) (F1.nB z fun ps y => Bx.no dd z (by rw [y]; rfl))) dd⟩
    | pbox d =>
      obtain ⟨p', a, b, c, dd⟩ := q
      obtain ⟨p1, _, b1, c1, _⟩ := q1
      rw [b] at b1; cases b1
      exact ⟨p', a, b, c1, Bx.mono m (fun u z => k p' u z (np p' c1) (F1.nB z fun ps y => Bx.no dd z (by rw [y]; rfl))) dd⟩
  · obtain ⟨_, y2, ps, y3, _⟩ := F1.tb _ hq
    rw [(F1.tp a o z).2] at y3; cases y3
    exact y2 ps z
  · obtain ⟨o, q1, q2⟩ := F1.al a z
    by_cases c : ∃ q, (a, q) ∈ g.T
    · obtain ⟨q, hq⟩ := c
      obtain ⟨ps, h3, _⟩ := tH _ hq
      exact ⟨_, h3, rfl⟩
    · exact ⟨o, k a o q1 (np a z) fun q z => c ⟨q, z⟩, q2⟩
theorem t_call1 {fn : Fn} {m : M (List D)} : ∀ σ H Q, rdE g W (mC1 fn m) σ H Q → tCg (spF g 1 fn) W (tCons (rdF g W m) tNil) σ H Q := fun σ H Q ⟨f, A, e, F, h⟩ => by
  unfold mC1 mb at h
  refine ⟨f, A, e, F, ?_⟩
  cases q : m e with
  | exc c d e1 => simp only [q] at h; exact h
  | bad => simp only [q] at h; exact h
  | ok ds e1 =>
    simp only [q] at h
    intro p xs H1 F1 F2 n S1 hn hp r
    have ar : ArgsR g (add1 A p) H1 [.pbox (.lst ds)] [.ref p] := by
      refine ⟨rfl, fun i s v z1 z2 => ?_, fun i j s t q z1 z2 _ _ _ _ => ?_, F2.tbA, F2.iv⟩
      · cases i with
        | zero => cases z1; cases z2; exact ⟨p, rfl, .inr rfl, xs, hp, r⟩
        | succ i => simp at z1
      · cases i with
        | zero => cases j with
          | zero => rfl
          | succ j => simp at z2
        | succ i => simp at z1
    refine ⟨rfl, add1 A p, [.pbox (.lst ds)], F2.al, ar, ?_⟩
    have h0 : f.H0 p = none := F.h0 hn
    have after : ∀ {OB' : Addr → Prop} {as' : List Sl} {H' : Hp}, PostA g (add1 A p) OB' H1 H' [.pbox (.lst ds)] as' [.ref p] → FR g f A H' σ e1 ∧ Step A H H' := fun {OB' as' H'} po => by
      have k : ∀ a o, H1 a = some o → a ≠ p → (∀ q, (a, q) ∉ g.T) → H' a = some o := fun a o z n n2 => po.keep a o z (fun i s z1 z2 z3 => by
        cases i with
        | zero => cases z3; exact n rfl
        | succ i => simp at z1) n2
      refine ⟨FR.drop F1 F2 n k po.tb h0, ⟨fun a o z n' => k a o (S1.st a o z n') (fun y => (by rw [y, hn] at z; cases z)) (F1.nT n'), fun a o z => ?_⟩⟩
      obtain ⟨o1, w⟩ := S1.un a o z
      by_cases c : ∃ q, (a, q) ∈ g.T
      · obtain ⟨q, hq⟩ := c
        obtain ⟨ps, h3, _⟩ := po.tb _ hq
        exact ⟨_, h3⟩
      · exact ⟨o1, k a o1 w (fun y => by rw [y, hn] at z; cases z) fun q z => c ⟨q, z⟩⟩
    have less : ∀ {H' : Hp}, Al (add1 A p) H' → ∀ a, A a → add1 A p a := fun _ a z => .inl z
    cases q2 : fn [.pbox (.lst ds)] with
    | bad => simp only [q2] at h; exact h
    | exc c d as' =>
      simp only [q2] at h
      intro cls dd H' po x
      obtain ⟨F3, S3⟩ := after po
      exact h cls dd H' F3 S3 (ExR.less po.al (fun a z => .inl z) x)
    | ok rv as' =>
      simp only [q2] at h
      cases rv with
      | v d =>
        intro v H' po rr
        obtain ⟨F3, S3⟩ := after po
        exact h v H' F3 S3 (R.less po.al (fun a z => .inl z) rr)
      | b es =>
        intro p' ys H' po hn' hp' rr
        obtain ⟨F3, S3⟩ := after po
        have al' : Al (add1 (add1 A p) p') H' := fun a z => z.elim (po.al a) fun z => ⟨.lst ys, by rw [z]; exact hp', rfl⟩
        exact h _ H' F3 S3 ⟨p', ys, rfl, hp', F1.nA hn', RL.less al' (fun a z => .inl (.inl z)) rr⟩
end
end Fw
namespace Fw
open L2 PyProof.Rows PySem PySem.Spec
section
variable {g : GC} {X : Cx} {W : WK}
theorem RtL.one {A : Addr → Prop} {H : Hp} {d : D} {vs : List V} (r : RtL g A H [d] vs) : ∃ v, vs = [v] ∧ Rt g A H d v := by
  obtain ⟨y, ys, e, h, t⟩ := r
  rw [show ys = [] from t] at e
  exact ⟨y, e, h⟩
theorem RtL.two {A : Addr → Prop} {H : Hp} {d d' : D} {vs : List V} (r : RtL g A H [d, d'] vs) : ∃ v w, vs = [v, w] ∧ Rt g A H d v ∧ Rt g A H d' w := by
  obtain ⟨y, ys, e, h, t⟩ := r
  obtain ⟨w, e2, h2⟩ := RtL.one t
  exact ⟨y, w, by rw [e, e2], h, h2⟩
def op1 {β : Type} (f : D → Option β) : List D → Option β
  | [d] => f d
  | _ => none
def op2 {β : Type} (f : D → D → Option β) : List D → Option β
  | [d, e] => f d e
  | _ => none
theorem ls1 {r : List V → Hp → VK → Prop} {f : D → Option D} (h : ∀ A H d d' v Q, Al A H → Rt g A H d v → f d = some d' → (∀ v H', Same H H' → R g A H' d' v → Q v H') → r [v] H Q) : LS g r (op1 f) := fun A H ds d vs Q al rr q k => by
  match ds, q with
  | [x], q => obtain ⟨v, rfl, r1⟩ := RtL.one rr; exact h A H x d v Q al r1 q k
theorem ls2 {r : List V → Hp → VK → Prop} {f : D → D → Option D} (h : ∀ A H d e d' v w Q, Al A H → Rt g A H d v → Rt g A H e w → f d e = some d' → (∀ v H', Same H H' → R g A H' d' v → Q v H') → r [v, w] H Q) : LS g r (op2 f) := fun A H ds d vs Q al rr q k => by
  match ds, q with
  | [x, y], q => obtain ⟨v, w, rfl, r1, r2⟩ := RtL.two rr; exact h A H x y d v w Q al r1 r2 q k
theorem fs1 {r : List V → Hp → VK → Prop} {f : D → Option (List D)} (h : ∀ A H d es v Q, Al A H → Rt g A H d v → f d = some es → (∀ p xs H', H p = none → Same H H' → (∀ b o, b ≠ p → H' b = some o → H b = some o) → H' p = some (.lst xs) → RL g A H es xs → Q (.ref p) H') → r [v] H Q) : FS g r (op1 f) := fun A H ds es vs Q al rr q k => by
  match ds, q with
  | [x], q => obtain ⟨v, rfl, r1⟩ := RtL.one rr; exact h A H x es v Q al r1 q k
theorem upd_only {H : Hp} {p : Addr} {u : HO} : ∀ b o, b ≠ p → upd H p u b = some o → H b = some o := fun b o n h => by rw [upd_ne n] at h; exact h
def dAbs : D → Option D
  | .int i => some (.int (if i < 0 then -i else i))
  | _ => none
theorem ls_abs : LS g (fun xs H Q => ∃ i, xs = [.int i] ∧ Q (.int (if i < 0 then -i else i)) H) (op1 dAbs) := ls1 fun A H d d' v Q al r q k => by
  cases d with
  | int i => cases q; obtain rfl : v = .int i := r; exact ⟨i, rfl, k _ H (Same.refl H) rfl⟩
  | _ => cases q
def dLen : D → Option D
  | .lst ds => some (.int ds.length)
  | .tup ds => some (.int ds.length)
  | .scr ns => some (.int ns.length)
  | .str z => if z.length ≤ 1000000 then some (.int z.length) else none
  | _ => none
theorem ls_len : LS g (fun xs H Q => ∃ x n, xs = [x] ∧ LenV g.K x H n ∧ Q (.int n) H) (op1 dLen) := ls1 fun A H d d' v Q al r q k => by
  cases d with
  | lst ds => cases q; obtain ⟨a, xs, rfl, h1, rl⟩ := r; exact ⟨_, xs.length, rfl, .inl ⟨xs, SqL.of h1, rfl⟩, k _ H (Same.refl H) (by rw [RL.length rl]; rfl)⟩
  | tup ds => cases q; obtain ⟨a, xs, rfl, h1, rl⟩ := r; exact ⟨_, xs.length, rfl, .inr ⟨xs, (SqT.of h1), rfl⟩, k _ H (Same.refl H) (by rw [RL.length rl]; rfl)⟩
  | scr ns => cases q; obtain ⟨a, rfl, h1⟩ := r; exact ⟨_, (ns.map V.int).length, rfl, .inl ⟨_, h1.sq, rfl⟩, k _ H (Same.refl H) (by rw [List.length_map]; rfl)⟩
  | str z =>
    obtain rfl : v = .str z := r
    simp only [dLen] at q
    by_cases hz : z.length ≤ 1000000
    · rw [if_pos hz] at q; cases q; exact ⟨_, z.length, rfl, ⟨Nat.le_trans hz million, rfl⟩, k _ H (Same.refl H) rfl⟩
    · rw [if_neg hz] at q; cases q
  | _ => cases q
def dMax2 : D → D → Option D := dI fun i j => some (.int (if j > i then j else i))
def dMin2 : D → D → Option D := dI fun i j => some (.int (if j < i then j else i))
theorem ls_max2 : LS g (fun xs H Q => ∃ i j, xs = [.int i, .int j] ∧ Q (.int (if j > i then j else i)) H) (op2 dMax2) := ls2 fun A H d e d' v w Q al r r2 q k => by
  cases d with
  | int i => cases e with
    | int j => cases q; obtain rfl : v = .int i := r; obtain rfl : w = .int j := r2; exact ⟨i, j, rfl, k _ H (Same.refl H) rfl⟩
    | _ => cases q
  | _ => cases q
theorem ls_min2 : LS g (fun xs H Q => ∃ i j, xs = [.int i, .int j] ∧ Q (.int (if j < i then j else i)) H) (op2 dMin2) := ls2 fun A H d e d' v w Q al r r2 q k => by
  cases d with
  | int i => cases e with
    | int j => cases q; obtain rfl : v = .int i := r; obtain rfl : w = .int j := r2; exact ⟨i, j, rfl, k _ H (Same.refl H) rfl⟩
    | _ => cases q
  | _ => cases q
def dInt : D → Option D
  | .int i => some (.int i)
  | .bl b => some (.int (if b then 1 else 0))
  | _ => none
theorem ls_int : LS g (fun xs H Q => (∃ i, xs = [.int i] ∧ Q (.int i) H) ∨ ∃ k, xs = [.bl k] ∧ Q (.int (if k then 1 else 0)) H) (op1 dInt) := ls1 fun A H d d' v Q al r q k => by
  cases d with
  | int i => cases q; obtain rfl : v = .int i := r; exact .inl ⟨i, rfl, k _ H (Same.refl H) rfl⟩
  | bl b => cases q; obtain rfl : v = .bl b := r; exact .inr ⟨b, rfl, k _ H (Same.refl H) rfl⟩
  | _ => cases q
def intsD : List D → Option (List Int)
  | [] => some []
  | .int i :: r => (intsD r).map fun l => i :: l
  | _ :: _ => none
theorem intsD_eq : ∀ {ds : List D} {ns : List Int}, intsD ds = some ns → ds = ns.map D.int
  | [], ns, h => by cases h; rfl
  | .int i :: r, ns, h => by
    obtain ⟨l, h1, h2⟩ := map_some (show (intsD r).map (fun l => i :: l) = some ns from h)
    rw [h2, intsD_eq h1]; rfl
  | .non :: _, _, h => nomatch (show (none : Option (List Int)) = some _ from h)
  | .bl _ :: _, _, h => nomatch (show (none : Option (List Int)) = some _ from h)
  | .str _ :: _, _, h => nomatch (show (none : Option (List Int)) = some _ from h)
  | .ty _ :: _, _, h => nomatch (show (none : Option (List Int)) = some _ from h)
  | .tup _ :: _, _, h => nomatch (show (none : Option (List Int)) = some _ from h)
  | .lst _ :: _, _, h => nomatch (show (none : Option (List Int)) = some _ from h)
  | .obj _ _ :: _, _, h => nomatch (show (none : Option (List Int)) = some _ from h)
  | .scr _ :: _, _, h => nomatch (show (none : Option (List Int)) = some _ from h)
  | .mrk :: _, _, h => nomatch (show (none : Option (List Int)) = some _ from h)
  | .ktu _ :: _, _, h => nomatch (show (none : Option (List Int)) = some _ from h)
  | .dct _ _ :: _, _, h => nomatch (show (none : Option (List Int)) = some _ from h)
  | .dtt _ _ :: _, _, h => nomatch (show (none : Option (List Int)) = some _ from h)
  | .exn _ _ :: _, _, h => nomatch (show (none : Option (List Int)) = some _ from h)
def boolsD : List D → Option (List Bool)
  | [] => some []
  | .bl i :: r => (boolsD r).map fun l => i :: l
  | _ :: _ => none
theorem boolsD_eq : ∀ {ds : List D} {ns : List Bool}, boolsD ds = some ns → ds = ns.map D.bl
  | [], ns, h => by cases h; rfl
  | .bl i :: r, ns, h => by
    obtain ⟨l, h1, h2⟩ := map_some (show (boolsD r).map (fun l => i :: l) = some ns from h)
    rw [h2, boolsD_eq h1]; rfl
  | .non :: _, _, h => nomatch (show (none : Option (List Bool)) = some _ from h)
  | .int _ :: _, _, h => nomatch (show (none : Option (List Bool)) = some _ from h)
  | .str _ :: _, _, h => nomatch (show (none : Option (List Bool)) = some _ from h)
  | .ty _ :: _, _, h => nomatch (show (none : Option (List Bool)) = some _ from h)
  | .tup _ :: _, _, h => nomatch (show (none : Option (List Bool)) = some _ from h)
  | .lst _ :: _, _, h => nomatch (show (none : Option (List Bool)) = some _ from h)
  | .obj _ _ :: _, _, h => nomatch (show (none : Option (List Bool)) = some _ from h)
  | .scr _ :: _, _, h => nomatch (show (none : Option (List Bool)) = some _ from h)
  | .mrk :: _, _, h => nomatch (show (none : Option (List Bool)) = some _ from h)
  | .ktu _ :: _, _, h => nomatch (show (none : Option (List Bool)) = some _ from h)
  | .dct _ _ :: _, _, h => nomatch (show (none : Option (List Bool)) = some _ from h)
  | .dtt _ _ :: _, _, h => nomatch (show (none : Option (List Bool)) = some _ from h)
  | .exn _ _ :: _, _, h => nomatch (show (none : Option (List Bool)) = some _ from h)
theorem RL.bls_of {A : Addr → Prop} {H : Hp} : ∀ (ns : List Bool) {xs : List V}, RL g A H (ns.map D.bl) xs → xs = ns.map V.bl
  | [], _, e => e
  | n :: ns, _, ⟨y, ys, e, r, t⟩ => by rw [e, show y = .bl n from r, RL.bls_of ns t]; rfl
def dSum : D → Option D
  | .lst ds => (intsD ds).map fun ns => .int ns.sum
  | _ => none
theorem ls_sum : LS g (rSum g.K) (op1 dSum) := ls1 fun A H d d' v Q al r q k => by
  cases d with
  | lst ds =>
    obtain ⟨ns, h1, rfl⟩ := map_some q
    obtain ⟨a, xs, rfl, h2, rl⟩ := r
    rw [intsD_eq h1] at rl
    rw [RL.ints_of ns rl] at h2
    exact ⟨a, ns, rfl, SqL.of h2, k _ H (Same.refl H) rfl⟩
  | _ => cases q
def dAll : D → Option D
  | .lst ds => (boolsD ds).map fun ns => .bl (ns.all id)
  | _ => none
theorem ls_all : LS g (rAll g.K) (op1 dAll) := ls1 fun A H d d' v Q al r q k => by
  cases d with
  | lst ds =>
    obtain ⟨ns, h1, rfl⟩ := map_some q
    obtain ⟨a, xs, rfl, h2, rl⟩ := r
    rw [boolsD_eq h1] at rl
    rw [RL.bls_of ns rl] at h2
    exact ⟨a, ns, rfl, SqL.of h2, k _ H (Same.refl H) rfl⟩
  | _ => cases q
def dTuple : D → Option D
  | .lst ds => some (.tup ds)
  | .tup ds => some (.tup ds)
  | .scr ns => some (.tup (ns.map D.int))
  | _ => none
theorem ls_tuple : LS g (fun xs H Q => ∃ p ys, xs = [.ref p] ∧ ((SqL g.K H p ys ∧ ∀ l, H l = none → Q (.ref l) (upd H l (.tup ys))) ∨ (SqT g.K H p ys ∧ Q (.ref p) H))) (op1 dTuple) := ls1 fun A H d d' v Q al r q k => by
  cases d with
  | lst ds =>
    cases q; obtain ⟨a, xs, rfl, h1, rl⟩ := r
    exact ⟨a, xs, rfl, .inl ⟨SqL.of h1, fun l hl => k _ _ (Same.new hl) ⟨l, xs, rfl, upd_same, RL.mono (Mono.same al (Same.new hl)) ds rl⟩⟩⟩
  | tup ds => cases q; obtain ⟨a, xs, rfl, h1, rl⟩ := r; exact ⟨a, xs, rfl, .inr ⟨(SqT.of h1), k _ H (Same.refl H) ⟨a, xs, rfl, h1, rl⟩⟩⟩
  | scr ns =>
    cases q; obtain ⟨a, rfl, h1⟩ := r
    exact ⟨a, _, rfl, .inl ⟨h1.sq, fun l hl => k _ _ (Same.new hl) ⟨l, _, rfl, upd_same, RL.ints ns⟩⟩⟩
  | _ => cases q
def dList : D → Option (List D)
  | .lst ds => some ds
  | .tup ds => some ds
  | .scr ns => some (ns.map D.int)
  | _ => none
theorem fs_list : FS g (fun xs H Q => ∃ p ys, xs = [.ref p] ∧ (SqL g.K H p ys ∨ SqT g.K H p ys) ∧ ∀ l, H l = none → Q (.ref l) (upd H l (.lst ys))) (op1 dList) := fs1 fun A H d es v Q al r q k => by
  cases d with
  | lst ds => cases q; obtain ⟨a, xs, rfl, h1, rl⟩ := r; exact ⟨a, xs, rfl, .inl (SqL.of h1), fun l hl => k l xs _ hl (Same.new hl) upd_only upd_same rl⟩
  | tup ds => cases q; obtain ⟨a, xs, rfl, h1, rl⟩ := r; exact ⟨a, xs, rfl, .inr (SqT.of h1), fun l hl => k l xs _ hl (Same.new hl) upd_only upd_same rl⟩
  | scr ns => cases q; obtain ⟨a, rfl, h1⟩ := r; exact ⟨a, _, rfl, .inl h1.sq, fun l hl => k l _ _ hl (Same.new hl) upd_only upd_same (RL.ints ns)⟩
  | _ => cases q
def dCat : D → D → Option (List D)
  | .lst xs, .lst ys => if xs.length + ys.length ≤ 1000000 then some (xs ++ ys) else none
  | _, _ => none
theorem fs_cat : FS2 g rCat dCat := fun A H d1 d2 es v1 v2 Q al r1 r2 q k => by
  cases d1 with
  | lst xs => cases d2 with
    | lst ys =>
      simp only [dCat] at q
      by_cases z : xs.length + ys.length ≤ 1000000
      · rw [if_pos z] at q; cases q
        obtain ⟨a, us, rfl, h1, l1⟩ := r1
        obtain ⟨b, ws, rfl, h2, l2⟩ := r2
        exact ⟨a, b, us, ws, rfl, rfl, h1, h2, by rw [RL.length l1, RL.length l2]; exact Nat.le_trans z million, fun p hp => k p _ hp (RL.append l1 l2)⟩
      · rw [if_neg z] at q; cases q
    | _ => cases q
  | _ => cases q
def dRep : D → D → Option (List D)
  | .lst xs, .int k => if k ≤ 1000000 ∧ 0 ≤ k ∧ xs.length * k.toNat ≤ 1000000 then some (List.replicate k.toNat xs).flatten else none
  | _, _ => none
theorem fs_rep : FS2 g rRep dRep := fun A H d1 d2 es v1 v2 Q al r1 r2 q k => by
  cases d1 with
  | lst xs => cases d2 with
    | int j =>
      simp only [dRep] at q
      by_cases z : j ≤ 1000000 ∧ 0 ≤ j ∧ xs.length * j.toNat ≤ 1000000
      · rw [if_pos z] at q; cases q
        obtain ⟨a, us, rfl, h1, l1⟩ := r1
        exact ⟨a, j, us, rfl, r2, h1, by omega, by omega, by rw [RL.length l1]; exact Nat.le_trans z.2.2 million, fun p hp => k p _ hp (RL.rep l1 _)⟩
      · rw [if_neg z] at q; cases q
    | _ => cases q
  | _ => cases q
def dTy : D → Option String
  | .non => some "NoneType"
  | .bl _ => some "bool"
  | .int _ => some "int"
  | .str _ => some "str"
  | .lst _ => some "list"
  | .scr _ => some "list"
  | .tup _ => some "tuple"
  | .dct _ _ => some "dict"
  | _ => none
theorem Rt.ty {A : Addr → Prop} {H : Hp} {d : D} {v : V} {n : String} (r : Rt g A H d v) (q : dTy d = some n) : TyX g.K H v (.type n) := by
  cases d with
  | non => cases q; rw [show v = .non from r]; exact .base .non
  | bl b => cases q; rw [show v = .bl b from r]; exact .base (.bl b)
  | int b => cases q; rw [show v = .int b from r]; exact .base (.int b)
  | str b => cases q; rw [show v = .str b from r]; exact .base (.str b)
  | lst ds => cases q; obtain ⟨a, xs, rfl, h, _⟩ := r; exact .base (.lst h)
  | scr ns =>
    cases q; obtain ⟨a, rfl, h⟩ := r
    rcases h with ⟨h | ⟨o, h⟩, _⟩ | ⟨o, its, n, h1, h2, _⟩
    · exact .base (.lst h)
    · exact .base (.frz h)
    · exact .kList h1 h2
  | tup ds =>
    cases q; obtain ⟨a, xs, rfl, h, _⟩ := r
    exact .base (.tup h)
  | dct ks ds =>
    cases q; obtain ⟨a, xs, rfl, h, _⟩ := r
    rcases h with h | ⟨ob, h⟩
    · exact .base (.dK h)
    · exact .fDict h
  | _ => cases q
def isiT : String → String → Option Bool
  | "int", "int" => some true | "bool", "int" => some true | "str", "int" => some false | "NoneType", "int" => some false | "list", "int" => some false | "tuple", "int" => some false
  | "int", "bool" => some false | "bool", "bool" => some true | "str", "bool" => some false | "NoneType", "bool" => some false | "list", "bool" => some false | "tuple", "bool" => some false
  | "int", "str" => some false | "bool", "str" => some false | "str", "str" => some true | "NoneType", "str" => some false | "list", "str" => some false | "tuple", "str" => some false
  | "int", "tuple" => some false | "bool", "tuple" => some false | "str", "tuple" => some false | "NoneType", "tuple" => some false | "list", "tuple" => some false | "tuple", "tuple" => some true
  | "int", "list" => some false | "bool", "list" => some false | "str", "list" => some false | "NoneType", "list" => some false | "list", "list" => some true | "tuple", "list" => some false
  | _, _ => none
theorem isiT_ok {K : PySem.W.Frag} {a b : String} {c : Bool} (h : isiT a b = some c) : PySem.W.kitOne K (.type a) (.type b) = some c := by
  unfold isiT at h
  split at h <;> first | (cases h; rfl) | cases h
def dIsi : D → D → Option D
  | d, .ty n => match dTy d with
    | some t => (isiT t n).map D.bl
    | none => none
  | _, _ => none
theorem ls_isi : LS g (rIsi g.K) (op2 dIsi) := ls2 fun A H d e d' v w Q al r r2 q k => by
  cases e with
  | ty n =>
    obtain rfl : w = .ty n := r2
    unfold dIsi at q
    cases z : dTy d with
    | none => simp only [z] at q; cases q
    | some t =>
      simp only [z] at q
      obtain ⟨b, h1, rfl⟩ := map_some q
      exact ⟨v, .ty n, .type t, .type n, b, rfl, .ty n, Rt.ty r z, isiT_ok h1, k _ H (Same.refl H) rfl⟩
  | _ => cases d <;> cases q
end
end Fw
namespace Fw
open L2 PyProof.Rows PySem PySem.Spec
section
variable {g : GC} {X : Cx} {W : WK}
inductive Ed where
  | e (m : M D) | f (m : M (List D))
def rdEd (g : GC) (W : WK) : Ed → TE
  | .e m => rdE g W m
  | .f m => rdF g W m
def rdEds (g : GC) (W : WK) : List Ed → TA
  | [] => tNil
  | o :: os => tCons (rdEd g W o) (rdEds g W os)
abbrev CEd (g : GC) (X : Cx) (W : WK) (e : Expr) (d : Ed) : Prop := PE X e (rdEd g W d)
abbrev CEds (g : GC) (X : Cx) (W : WK) (es : List Expr) (os : List Ed) : Prop := PA X es (rdEds g W os)
theorem ed_nil : CEds g X W [] [] := pa_nil
theorem ed_cons {a : Expr} {es : List Expr} {o : Ed} {os : List Ed} (ha : CEd g X W a o) (hr : CEds g X W es os) (hs : starEach (a :: es) X.env = (false, eval a X.env) :: starEach es X.env := by rfl) : CEds g X W (a :: es) (o :: os) := pa_cons ha hr hs
theorem ed_e {a : Expr} {m : M D} (h : CE g X W a m) : CEd g X W a (.e m) := h
theorem ed_f {a : Expr} {m : M (List D)} (h : CF g X W a m) : CEd g X W a (.f m) := h
def nx1 {α : Type} (m : M α) : M α := fun e => match m e with
  | .ok a e' => .ok a e'
  | _ => .bad
def mEds : List Ed → M (List (Sum D (List D)))
  | [] => mp []
  | .e m :: os => mb (nx1 m) fun d => mb (mEds os) fun r => mp (.inl d :: r)
  | .f m :: os => mb (nx1 m) fun d => mb (mEds os) fun r => mp (.inr d :: r)
theorem nx1_ok {α : Type} {m : M α} {e e' : Ev} {a : α} (h : nx1 m e = .ok a e') : m e = .ok a e' := by
  unfold nx1 at h
  cases q : m e with
  | ok b e1 => rw [q] at h; exact h
  | exc _ _ _ => rw [q] at h; cases h
  | bad => rw [q] at h; cases h
theorem mb_ok {α β : Type} {m : M α} {k : α → M β} {e e' : Ev} {b : β} (h : mb m k e = .ok b e') : ∃ a e1, m e = .ok a e1 ∧ k a e1 = .ok b e' := by
  unfold mb at h
  cases q : m e with
  | ok a e1 => rw [q] at h; exact ⟨a, e1, rfl, h⟩
  | exc _ _ _ => rw [q] at h; cases h
  | bad => rw [q] at h; cases h
def PF (g : GC) (T : Hp) (A : Addr → Prop) (H : Hp) : List (Sum D (List D)) → List V → Prop
  | [], vs => vs = []
  | .inl d :: r, vs => ∃ y ys, vs = y :: ys ∧ R g A H d y ∧ PF g T A H r ys
  | .inr ds :: r, vs => ∃ p ys xs, vs = .ref p :: ys ∧ T p = some (.lst xs) ∧ RL g A H ds xs ∧ PF g T A H r ys
def fre : List (Sum D (List D)) → List V → List Addr
  | .inr _ :: r, .ref p :: ys => p :: fre r ys
  | .inl _ :: r, _ :: ys => fre r ys
  | _, _ => []
theorem FR.lessT {f : Fx} {T : Hp} {A : Addr → Prop} {H : Hp} {σ : Sv} {e : Ev} (F : FR g { f with T := T } A H σ e) (h : ∀ a o, f.T a = some o → T a = some o) : FR g f A H σ e := by
  refine ⟨F.len, F.sl, F.inj, fun i s p h1 b1 s1 => ?_, fun a o z => F.tp a o (h a o z), F.ob, F.ob0, F.pb, F.al, F.keep, fun q z => let ⟨z1, z2, z3⟩ := F.tb q z; ⟨z1, noT_sub h z2, z3⟩, F.iv⟩
  have q : T p = none := F.nt i s p h1 b1 s1
  cases z : f.T p with
  | none => rfl
  | some o => rw [h p o z] at q; cases q
theorem Step.none {A : Addr → Prop} {H H1 : Hp} (S : Step A H H1) {a : Addr} (h : H1 a = none) : H a = none := by
  cases q : H a with
  | none => rfl
  | some o => obtain ⟨o', y⟩ := S.un a o q; rw [h] at y; cases y
theorem FR.asT {f : Fx} {A : Addr → Prop} {H : Hp} {σ : Sv} {e : Ev} {p : Addr} {xs : List V} (F1 : FR g f A H σ e) (F2 : FR g f (add1 A p) H σ e) (n : ¬ A p) (hp : H p = some (.lst xs)) : FR g (f.tm p xs) (add1 A p) H σ e := by
  refine ⟨F2.len, F2.sl, F2.inj, fun i s q z1 b1 s1 => ?_, fun a o z => ?_, F2.ob, F2.ob0, F2.pb, F2.al, F2.keep, fun q z => let ⟨z1, z2, z3⟩ := F2.tb q z; ⟨z1, noT_upd z2 rfl, z3⟩, F2.iv⟩
  · have nq : q ≠ p := fun y => n (y ▸ F1.boxA z1 b1 s1)
    show upd f.T p _ q = none
    rw [upd_ne nq]; exact F2.nt i s q z1 b1 s1
  · by_cases y : a = p
    · subst y
      have z : upd f.T a (.lst xs) a = some o := z
      rw [upd_same] at z; cases z
      exact ⟨.inr rfl, hp⟩
    · have z : upd f.T p (.lst xs) a = some o := z
      rw [upd_ne y] at z
      exact F2.tp a o z
theorem bEds : ∀ (eds : List Ed) {f : Fx} {A : Addr → Prop} {σ : Sv} {H : Hp} {e e1 : Ev} {ps : List (Sum D (List D))} {G : List V → Hp → Prop}, FR g f A H σ e → mEds eds e = .ok ps e1 →
    (∀ T A' vs H', FR g { f with T := T } A' H' σ e1 → (∀ a o, f.T a = some o → T a = some o) → Mono A H A' H' → PF g T A' H' ps vs → (∀ q ∈ fre ps vs, H q = none) → (fre ps vs).Nodup → G vs H') → rdEds g W eds σ H G
  | [], f, A, σ, H, e, e1, ps, G, F, h, go => by
    cases h
    exact go f.T A [] H F (fun _ _ z => z) (Mono.refl F.al) rfl (fun _ z => by simp [fre] at z) (by simp [fre])
  | .e m :: os, f, A, σ, H, e, e1, ps, G, F, h, go => by
    obtain ⟨d, e2, h1, h2⟩ := mb_ok h
    obtain ⟨r, e3, h3, h4⟩ := mb_ok h2
    cases h4
    refine ⟨f, A, e, F, ?_⟩
    rw [nx1_ok h1]
    intro v H1 F1 S1 rv
    refine bEds os F1 h3 fun T A' vs H' F' t1 m' p' q1 q2 => ?_
    exact go T A' (v :: vs) H' F' t1 ((F.mono S1).trans m') ⟨v, vs, rfl, R.mono m' d rv, p'⟩ (fun q z => S1.none (q1 q z)) q2
  | .f m :: os, f, A, σ, H, e, e1, ps, G, F, h, go => by
    obtain ⟨ds, e2, h1, h2⟩ := mb_ok h
    obtain ⟨r, e3, h3, h4⟩ := mb_ok h2
    cases h4
    refine ⟨f, A, e, F, ?_⟩
    rw [nx1_ok h1]
    intro p xs H1 F1 F2 n S1 hn hp rl
    have fT : f.T p = none := by
      cases z : f.T p with
      | none => rfl
      | some o => exact absurd (F1.tp p o z).1 n
    have F3 := FR.asT F1 F2 n hp
    have m1 : Mono A H (add1 A p) H1 := mono_new F S1 hn
    refine bEds os F3 h3 fun T A' vs H' F' t1 m' p' q1 q2 => ?_
    have tp : T p = some (.lst xs) := t1 p _ upd_same
    refine go T A' (.ref p :: vs) H' F' (fun a o z => t1 a o (by show upd f.T p _ a = some o; rw [upd_ne (fun y => by rw [y, fT] at z; cases z)]; exact z)) (m1.trans m') ⟨p, vs, xs, rfl, tp, RL.mono m' ds rl, p'⟩ (fun q z => ?_) ?_
    · rcases List.mem_cons.mp z with rfl | z
      · exact hn
      · exact S1.none (q1 q z)
    · refine List.nodup_cons.mpr ⟨fun z => ?_, q2⟩
      have := q1 p z
      rw [hp] at this; cases this
theorem PF.temp {T : Hp} {A : Addr → Prop} {H : Hp} {q : Addr} : ∀ (ps : List (Sum D (List D))) {vs : List V}, PF g T A H ps vs → q ∈ fre ps vs → ∃ xs, T q = some (.lst xs)
  | [], vs, _, hq => by simp [fre] at hq
  | .inl d :: r, vs, ⟨y, ys, e, _, p⟩, hq => by subst e; exact PF.temp r p hq
  | .inr ds :: r, vs, ⟨p1, ys, xs, e, t, _, p⟩, hq => by
    subst e
    rcases List.mem_cons.mp (show q ∈ p1 :: fre r ys from hq) with rfl | hq
    · exact ⟨xs, t⟩
    · exact PF.temp r p hq
theorem nx1_exc {α : Type} {m : M α} {e e' : Ev} {c : Nat} {d : D} : nx1 m e ≠ .exc c d e' := by
  unfold nx1
  cases m e <;> intro h <;> cases h
def asg1 (i : Nat) : Sum D (List D) → M Unit
  | .inl d => Fw.setV i d
  | .inr ds => Fw.setB i (.lst ds)
theorem FR.setB' {f : Fx} {A : Addr → Prop} {H : Hp} {σ : Sv} {e : Ev} {p : Addr} (F : FR g f A H σ e) {i : Nat} {d : D} (h : f.pa i = none) (hA : A p) (hT : f.T p = none) (h0 : f.H0 p = none) (nb : ∀ (j : Nat) s, e[j]? = some s → s.isBox = true → σ[j]? ≠ some (some (.ref p))) (r : Bx g A H d p) : FR g f A H (σ.set i (some (.ref p))) (e.set i (.box d)) := by
  refine ⟨by rw [List.length_set, List.length_set]; exact F.len, fun j s o h1 h2 => ?_, fun a b s t q h1 h2 b1 b2 s1 s2 => ?_, fun a s q h1 b1 s1 => ?_, F.tp, F.ob, F.ob0, fun i p q => by rw [List.length_set]; exact F.pb i p q, F.al, F.keep, F.tb, F.iv⟩
  · rcases get_set h1 with ⟨rfl, _, rfl⟩ | ⟨n, h1⟩
    · rcases get_set h2 with ⟨_, _, rfl⟩ | ⟨n, _⟩
      · exact ⟨h, p, rfl, hA, h0, r⟩
      · exact absurd rfl n
    · rw [List.getElem?_set_ne n] at h2
      exact F.sl j s o h1 h2
  · rcases get_set h1 with ⟨rfl, l1, rfl⟩ | ⟨n1, h1⟩
    · rcases get_set h2 with ⟨rfl, _, rfl⟩ | ⟨n2, h2⟩
      · rfl
      · rw [List.getElem?_set_ne n2] at s2
        rw [List.getElem?_set_self (by rw [F.len]; exact l1)] at s1
        cases s1
        exact absurd s2 (nb b t h2 b2)
    · rw [List.getElem?_set_ne n1] at s1
      rcases get_set h2 with ⟨rfl, l2, rfl⟩ | ⟨n2, h2⟩
      · rw [List.getElem?_set_self (by rw [F.len]; exact l2)] at s2
        cases s2
        exact absurd s1 (nb a s h1 b1)
      · rw [List.getElem?_set_ne n2] at s2
        exact F.inj a b s t q h1 h2 b1 b2 s1 s2
  · rcases get_set h1 with ⟨rfl, l1, rfl⟩ | ⟨n1, h1⟩
    · rw [List.getElem?_set_self (by rw [F.len]; exact l1)] at s1
      cases s1; exact hT
    · rw [List.getElem?_set_ne n1] at s1
      exact F.nt a s q h1 b1 s1
def asgs : List Nat → List (Sum D (List D)) → M Unit
  | [], [] => mp ()
  | i :: is, p :: ps => mb (asg1 i p) fun _ => asgs is ps
  | _, _ => fun _ => .bad
def setσ : List Nat → List V → Sv → Sv
  | i :: is, v :: vs, σ => setσ is vs (σ.set i (some v))
  | _, _, σ => σ
theorem FR.asgs {f : Fx} {A : Addr → Prop} {H : Hp} : ∀ (is : List Nat) (ps : List (Sum D (List D))) {vs : List V} {T : Hp} {σ : Sv} {e e' : Ev}, FR g f A H σ e → PF g T A H ps vs → (∀ q ∈ fre ps vs, f.H0 q = none ∧ f.T q = none ∧ (∀ xs, T q = some (.lst xs) → A q ∧ H q = some (.lst xs)) ∧ ∀ (j : Nat) s, e[j]? = some s → s.isBox = true → σ[j]? ≠ some (some (.ref q))) → (fre ps vs).Nodup → Fw.asgs is ps e = .ok () e' → FR g f A H (setσ is vs σ) e'
  | [], [], vs, T, σ, e, e', F, p, _, _, h => by cases h; exact F
  | i :: is, .inl d :: ps, vs, T, σ, e, e', F, p, q, nd, h => by
    obtain ⟨y, ys, rfl, r, p⟩ := p
    obtain ⟨u, e1, h1, h2⟩ := mb_ok h
    rcases setV_inv F (i := i) (d := d) with z | ⟨hp, z⟩
    · rw [show asg1 i (.inl d) e = Fw.setV i d e from rfl, z] at h1; cases h1
    · rw [show asg1 i (.inl d) e = Fw.setV i d e from rfl, z] at h1; cases h1
      refine FR.asgs is ps (F.setV hp r) p (fun q' hq => ?_) nd h2
      obtain ⟨w1, w2, w3, w4⟩ := q q' hq
      refine ⟨w1, w2, w3, fun j s hj hb hs => ?_⟩
      rcases get_set hj with ⟨_, _, rfl⟩ | ⟨n, hj⟩
      · cases hb
      · rw [List.getElem?_set_ne n] at hs; exact w4 j s hj hb hs
  | i :: is, .inr ds :: ps, vs, T, σ, e, e', F, p, q, nd, h => by
    obtain ⟨p1, ys, xs, rfl, t1, rl, p⟩ := p
    obtain ⟨u, e1, h1, h2⟩ := mb_ok h
    obtain ⟨w1, w2, w3, w4⟩ := q p1 List.mem_cons_self
    obtain ⟨wA, wH⟩ := w3 xs t1
    rcases setB_inv F (i := i) (d := .lst ds) with z | ⟨hp, z⟩
    · rw [show asg1 i (.inr ds) e = Fw.setB i (.lst ds) e from rfl, z] at h1; cases h1
    · rw [show asg1 i (.inr ds) e = Fw.setB i (.lst ds) e from rfl, z] at h1; cases h1
      have nd := List.nodup_cons.mp nd
      refine FR.asgs is ps (F.setB' (d := .lst ds) hp wA w2 w1 w4 ⟨xs, wH, rl⟩) p (fun q' hq => ?_) nd.2 h2
      obtain ⟨u1, u2, u3, u4⟩ := q q' (List.mem_cons_of_mem _ hq)
      refine ⟨u1, u2, u3, fun j s hj hb hs => ?_⟩
      rcases get_set hj with ⟨rfl, hl, rfl⟩ | ⟨n, hj⟩
      · rw [List.getElem?_set_self (by rw [F.len]; exact hl)] at hs
        cases hs; exact nd.1 hq
      · rw [List.getElem?_set_ne n] at hs; exact u4 j s hj hb hs
def mPar (is : List Nat) (eds : List Ed) : M Fl := mb (nx1 (mEds eds)) fun ps => mb (nx1 (asgs is ps)) fun _ => mp .nx
theorem t_par {is : List Nat} {eds : List Ed} {D : Ends} {σ : Sv} {H : Hp} (h : rdS g W (mPar is eds) D σ H) : rdEds g W eds σ H fun vs H1 => D.nx (setσ is vs σ) H1 := by
  obtain ⟨f, A, e, F, h⟩ := h
  unfold mPar at h
  cases q : nx1 (mEds eds) e with
  | exc c d e1 => exact absurd q nx1_exc
  | bad => unfold mb at h; rw [q] at h; exact h.elim
  | ok ps e1 =>
    unfold mb at h
    simp only [q] at h
    refine bEds eds F (nx1_ok q) fun T A' vs H' F' t1 m' p' q1 q2 => ?_
    cases z : nx1 (asgs is ps) e1 with
    | exc _ _ _ => exact absurd z nx1_exc
    | bad => simp only [z] at h; exact h.elim
    | ok u e2 =>
      simp only [z] at h
      refine h A' _ H' (FR.asgs is ps (F'.lessT t1) p' (fun q hq => ?_) q2 (nx1_ok z)) m'
      have hn := q1 q hq
      refine ⟨F.h0 hn, ?_, fun xs hx => F'.tp q _ hx, fun j s hj hb hs => ?_⟩
      · cases y : f.T q with
        | none => rfl
        | some o => have := (F.tp q o y).2; rw [hn] at this; cases this
      · have y1 : T q = none := F'.nt j s q hj hb hs
        obtain ⟨xs, y2⟩ := PF.temp ps p' hq
        rw [y1] at y2; cases y2
theorem rdEds_mono : ∀ {eds : List Ed} {σ : Sv} {H : Hp} {G G' : List V → Hp → Prop}, (∀ vs H, G vs H → G' vs H) → rdEds g W eds σ H G → rdEds g W eds σ H G'
  | [], σ, H, G, G', i, h => i _ _ h
  | .e m :: os, σ, H, G, G', i, ⟨f, A, e, F, h⟩ => by
    refine ⟨f, A, e, F, ?_⟩
    generalize m e = r at h
    cases r with
    | ok d e' => exact fun v H' F' S r => rdEds_mono (fun vs H z => i _ _ z) (h v H' F' S r)
    | exc c d e' => exact h
    | bad => exact h
  | .f m :: os, σ, H, G, G', i, ⟨f, A, e, F, h⟩ => by
    refine ⟨f, A, e, F, ?_⟩
    generalize m e = r at h
    cases r with
    | ok d e' => exact fun p xs H' F' F2 n S a b r => rdEds_mono (fun vs H z => i _ _ z) (h p xs H' F' F2 n S a b r)
    | exc c d e' => exact h
    | bad => exact h
theorem rdEds_len : ∀ {eds : List Ed} {σ : Sv} {H : Hp} {G : List V → Hp → Prop}, rdEds g W eds σ H G → rdEds g W eds σ H fun vs H1 => vs.length = eds.length ∧ G vs H1
  | [], σ, H, G, h => ⟨rfl, h⟩
  | .e m :: os, σ, H, G, ⟨f, A, e, F, h⟩ => by
    refine ⟨f, A, e, F, ?_⟩
    generalize m e = r at h
    cases r with
    | ok d e' =>
      intro v H' F' S r
      exact rdEds_mono (fun vs H z => ⟨by rw [List.length_cons, List.length_cons, z.1], z.2⟩) (rdEds_len (h v H' F' S r))
    | exc c d e' => exact h
    | bad => exact h
  | .f m :: os, σ, H, G, ⟨f, A, e, F, h⟩ => by
    refine ⟨f, A, e, F, ?_⟩
    generalize m e = r at h
    cases r with
    | ok d e' =>
      intro p xs H' F' F2 n S a b r
      exact rdEds_mono (fun vs H z => ⟨by rw [List.length_cons, List.length_cons, z.1], z.2⟩) (rdEds_len (h p xs H' F' F2 n S a b r))
    | exc c d e' => exact h
    | bad => exact h
theorem cs_par2 (i j : Nat) {st : Stmt} {a b : Ed} (h : PS X st (tPar i j (rdEds g W [a, b]))) : CS g X W st (mPar [i, j] [a, b]) := PS.imp h fun D σ H z =>
  rdEds_mono (fun vs H1 ⟨hl, q⟩ => by
    match vs, hl with
    | [v, w], _ => exact ⟨v, w, rfl, q⟩) (rdEds_len (t_par z))
end
end Fw
namespace Fw
open L2 PyProof.Rows PySem PySem.Spec
section
variable {g : GC} {X : Cx} {W : WK}
def rRepr (K : PySem.W.Frag) : List V → Hp → VK → Prop := fun xs H Q => (∃ x d, xs = [x] ∧ Dp K H x d ∧ SeqAt.shaped d = true ∧ d.showable = true ∧ d.shown.length ≤ sizeLine ∧ Q (.str d.shown) H) ∨
  ∃ a, xs = [.ref a] ∧ Rd H a (.dK []) ∧ Q (.str (PyData.shown (.dict []))) H
theorem call_reprD (hu : X.A.units + 65 < cLine) (gd : X.A.guards = some []) : CallR X (.builtin "repr") (rRepr X.K) := by
  intro pins s σ H xs us Q I r h
  rcases h with ⟨x, d, rfl, hd, sh, sw, sz, q⟩ | ⟨b, rfl, ea, q⟩
  rotate_left
  · obtain ⟨u, rfl, ru⟩ := vals1 r
    cases (show u = Value.ref b from ru)
    have ok : ObjOk X.prog X.w H s.heap b (.dK []) := ea.elim (fun e => I.hok b _ e) fun ⟨ob, e⟩ => (show ObjOk X.prog X.w H s.heap b (.frz ob (.dK [])) from I.hok b _ e).2
    obtain ⟨_, sm, vs, kv, o2, es, ep, h1, h2, h3, _, h5, _⟩ := ok
    cases kv
    obtain ⟨el⟩ := es
    cases h5
    have rd : Reads s.heap (.ref b) (.dict []) (b :: [] ++ []) := Reads.dict h1 h2.1 h3 .nil .nil
    have dp : (PyData.dict []).depth ≤ 2 := by decide
    exact repr_of_reads' rd rfl (fun _ hm => by
      rw [List.append_nil, List.mem_singleton] at hm
      rw [hm] at sm
      simp at sm) gd (by omega) (fun _ _ z => z) (fun h' u tk k => ⟨.str _, H, I.kept k, ⟨_, rfl⟩, q⟩)
  obtain ⟨u, rfl, ru⟩ := vals1 r
  cases hd with
  | non => cases ru; exact PySem.P.repr_of_none ⟨.str _, H, I.tok _, ⟨_, rfl⟩, q⟩
  | bl b => cases ru; exact PySem.P.repr_of_bool ⟨.str _, H, I.tok _, ⟨_, rfl⟩, q⟩
  | int i => obtain ⟨t, rfl⟩ := ru; exact PySem.P.repr_of_int (of_decide_eq_true sw) ⟨.str _, H, I.tok _, ⟨_, rfl⟩, q⟩
  | str z => obtain ⟨t, rfl⟩ := ru; exact PySem.P.repr_of_str ⟨.str _, H, I.tok _, ⟨_, rfl⟩, q⟩ sz
  | lst h1 h2 =>
    have ru' := ru
    cases ru
    obtain ⟨as, rd⟩ := Dp.reads I _ _ _ (Dp.lst h1 h2) ru'
    have sh' := Bool.and_eq_true_iff.mp sh
    have dp := of_decide_eq_true sh'.2
    exact repr_of_reads' rd sw (PyData.noDict_hsm (PyData.hasDict_of_canLay _ sh'.1)) gd (by omega) (fun _ _ z => z) (fun h' u tk k => ⟨.str _, H, I.kept k, ⟨_, rfl⟩, q⟩) sz
  | tup h1 h2 =>
    have ru' := ru
    cases ru
    obtain ⟨as, rd⟩ := Dp.reads I _ _ _ (Dp.tup h1 h2) ru'
    have sh' := Bool.and_eq_true_iff.mp sh
    have dp := of_decide_eq_true sh'.2
    exact repr_of_reads' rd sw (PyData.noDict_hsm (PyData.hasDict_of_canLay _ sh'.1)) gd (by omega) (fun _ _ z => z) (fun h' u tk k => ⟨.str _, H, I.kept k, ⟨_, rfl⟩, q⟩) sz
def dReprE : D → Option D
  | .dct [] [] => some (.str (PyData.shown (.dict [])))
  | _ => none
def dRepr (d : D) : Option D := match py d with
  | some p => if SeqAt.shaped p = true ∧ p.showable = true ∧ p.shown.length ≤ 1000000 then some (.str p.shown) else none
  | none => dReprE d
theorem ls_repr : LS g (rRepr g.K) (op1 dRepr) := ls1 fun A H d d' v Q al r q k => by
  unfold dRepr at q
  cases z : py d with
  | none =>
    rw [z] at q
    have q : dReprE d = some d' := q
    unfold dReprE at q
    split at q
    · cases q
      obtain ⟨a, xs, rfl, h1, _⟩ := r
      exact .inr ⟨a, rfl, h1, k _ H (Same.refl H) rfl⟩
    · cases q
  | some p =>
    rw [z] at q
    have q : (if SeqAt.shaped p = true ∧ p.showable = true ∧ p.shown.length ≤ 1000000 then some (D.str p.shown) else none) = some d' := q
    by_cases c : SeqAt.shaped p = true ∧ p.showable = true ∧ p.shown.length ≤ 1000000
    · rw [if_pos c] at q; cases q
      exact .inl ⟨v, p, rfl, Rt.dp d v p r z, c.1, c.2.1, Nat.le_trans c.2.2 million, k _ H (Same.refl H) rfl⟩
    · rw [if_neg c] at q; cases q
abbrev CKs (g : GC) (X : Cx) (W : WK) (ks : List Keyword) (os : List Od) : Prop := PK X ks (rdOs g W os)
theorem ck_nil : CKs g X W [] [] := pk_nil
theorem ck_cons {a : Expr} {nm : Option Str} {kp : Pos} {ks : List Keyword} {o : Od} {os : List Od} (ha : CO g X W a o) (hr : CKs g X W ks os) : CKs g X W (⟨nm, a, kp⟩ :: ks) (o :: os) := pk_cons ha hr
def permL {α : Type} (π : List Nat) (xs : List α) : List α := π.filterMap fun i => xs[i]?
theorem PL.perm {A : Addr → Prop} {H : Hp} {σ : Sv} {ps : List (Sum D Nat)} {vs : List V} (p : PL g A H σ ps vs) : ∀ (π : List Nat), (∀ i ∈ π, i < ps.length) → PL g A H σ (permL π ps) (permL π vs)
  | [], _ => rfl
  | i :: π, h => by
    have ih := PL.perm p π fun j hj => h j (List.mem_cons_of_mem _ hj)
    have hi := h i List.mem_cons_self
    have e1 : ps[i]? = some ps[i] := List.getElem?_eq_getElem hi
    obtain ⟨v, hv, r⟩ := PL.get p e1
    have e2 : permL (i :: π) ps = ps[i] :: permL π ps := by unfold permL; rw [List.filterMap_cons, e1]
    have e3 : permL (i :: π) vs = v :: permL π vs := by unfold permL; rw [List.filterMap_cons, hv]
    rw [e2, e3]
    cases q : ps[i] with
    | inl d => rw [q] at r; exact ⟨v, _, rfl, r, ih⟩
    | inr j => rw [q] at r; exact ⟨v, _, rfl, r, ih⟩
def mCallP (np : Nat) (fn : Fn) (π : List Nat) (os : List Od) : M RV := mb (mA1 os) fun ps e => if ps.length = π.length ∧ (π.all fun i => decide (i < ps.length)) = true then (match argsOf e (permL π ps) with
  | none => .bad
  | some as => if as.length = np then (if nodupB (nums (permL π ps)) = true then (match fn as with
      | .ok rv as' => .ok rv (wb (permL π ps) as' e)
      | .exc c d as' => .exc c d (wb (permL π ps) as' e)
      | .bad => .bad) else .bad) else .bad) else .bad
def mCvP (np : Nat) (fn : Fn) (π : List Nat) (os : List Od) : M D := mb (mCallP np fn π os) fun rv => mp rv.d
theorem t_callP {np : Nat} {fn : Fn} {π : List Nat} {os : List Od} {σ : Sv} {H : Hp} {Q : VK} (h : rdE g W (mCvP np fn π os) σ H Q) : rdOs g W os σ H fun vs H1 => vs.length = π.length ∧ spF g np fn (permL π vs) H1 Q (WE W σ) := by
  obtain ⟨f, A, e, F, h⟩ := h
  unfold mCvP mCallP at h
  rw [mb_assoc] at h
  refine bAs1 os h F fun ps e1 vs H1 F1 S1 p1 h1 => ?_
  unfold mb at h1
  dsimp only at h1
  by_cases hc : ps.length = π.length ∧ (π.all fun i => decide (i < ps.length)) = true
  · rw [if_pos hc] at h1
    refine ⟨(PL.length p1).trans hc.1, ?_⟩
    have p2 := p1.perm π fun i hi => of_decide_eq_true (List.all_eq_true.mp hc.2 i hi)
    generalize permL π ps = ps' at h1 p2
    generalize permL π vs = vs' at p2
    cases ha : argsOf e1 ps' with
    | none => simp only [ha] at h1; exact h1.elim
    | some as =>
      simp only [ha] at h1
      by_cases hl : as.length = np
      · rw [if_pos hl] at h1
        by_cases nd : nodupB (nums ps') = true
        · rw [if_pos nd] at h1
          have r := args_rel F1 p2 ha nd
          refine ⟨by rw [← r.len]; exact hl, A, as, F1.al, r, ?_⟩
          cases q : fn as with
          | ok rv as' =>
            simp only [q] at h1
            cases rv with
            | v d =>
              intro v H' po rr
              obtain ⟨F2, S2⟩ := F1.call p2 ha nd po (fun _ z => z) (fun _ _ z _ => z) po.al
              exact h1 v H' F2 (S1.trans S2) rr
            | b ds =>
              intro p xs H' po hn hp rr
              have sub : ∀ a, A a → add1 A p a := fun _ z => .inl z
              have al' : Al (add1 A p) H' := fun a z => z.elim (po.al a) fun z => ⟨.lst xs, by rw [z]; exact hp, rfl⟩
              obtain ⟨F2, S2⟩ := F1.call p2 ha nd (po.less sub al') (fun _ z => z) (fun _ _ z _ => z) po.al
              exact h1 _ H' F2 (S1.trans S2) ⟨p, xs, rfl, hp, F1.nA hn, RL.less al' sub rr⟩
          | exc c d as' =>
            simp only [q] at h1
            intro cls dd H' po x
            obtain ⟨F2, S2⟩ := F1.call p2 ha nd po (fun _ z => z) (fun _ _ z _ => z) po.al
            exact h1 cls dd H' F2 S2 x
          | bad => simp only [q] at h1; exact h1.elim
        · rw [if_neg nd] at h1; exact h1.elim
      · rw [if_neg hl] at h1; exact h1.elim
  · rw [if_neg hc] at h1; exact h1.elim
structure Has (P : Program) (w : World) (K : PySem.W.Frag) (mg : Str → Option Value) (base : Heap) (k : Nat) (x : Str) (ps : List Str) (ar : Arguments) (sp : Sp) : Prop where
  ex : ∃ f fd, FnG P w K mg base k f fd ps sp ∧ mg x = some (.ref f) ∧ PySem.W.keepIn K (.ref f) = true ∧ Binds K fd ps [] ∧
    ∃ (nm q : Str) (body : List Stmt) (scope : Scope), FunD K nm q ar body scope [] [] f fd
section
variable {k np : Nat} {x : Str} {ps : List Str} {ar : Arguments} {fn : Fn} {p pos : Pos} {e : Expr} {es : List Expr}
theorem c_call {os : List Od} (F : Has X.prog X.w X.K X.mg X.base k x ps ar (spF g np fn)) (hr : Room k X.A) (gd : X.A.guards = some []) (hg : Gl X x) (tk : L2N.Takes X W) (ha : COs g X W (e :: es) os)
    (hdb : (x == ("__debug__" : Str)) = false) (he : starEach (e :: es) X.env = (false, eval e X.env) :: starEach es X.env := by rfl) (hpl : (backTo pos (starEach es X.env)).any (·.1) = false := by rfl) : CE g X W (.Call (.Name x p) (e :: es) [] pos) (mCv np fn os) := by
  obtain ⟨f, fd, F, hm, hk, hb, _⟩ := F.ex
  exact PE.imp (pe_callG F hr gd hg hm hk hb tk ha hdb he hpl) t_call
theorem cf_call {os : List Od} (F : Has X.prog X.w X.K X.mg X.base k x ps ar (spF g np fn)) (hr : Room k X.A) (gd : X.A.guards = some []) (hg : Gl X x) (tk : L2N.Takes X W) (ha : COs g X W (e :: es) os)
    (hdb : (x == ("__debug__" : Str)) = false) (he : starEach (e :: es) X.env = (false, eval e X.env) :: starEach es X.env := by rfl) (hpl : (backTo pos (starEach es X.env)).any (·.1) = false := by rfl) : CF g X W (.Call (.Name x p) (e :: es) [] pos) (mCl np fn os) := by
  obtain ⟨f, fd, F, hm, hk, hb, _⟩ := F.ex
  exact PE.imp (pe_callG F hr gd hg hm hk hb tk ha hdb he hpl) t_callF
theorem c_call1 {m : M (List D)} (F : Has X.prog X.w X.K X.mg X.base k x ps ar (spF g 1 fn)) (hr : Room k X.A) (gd : X.A.guards = some []) (hg : Gl X x) (tk : L2N.Takes X W) (ha : CF g X W e m)
    (hdb : (x == ("__debug__" : Str)) = false) (he : starEach [e] X.env = (false, eval e X.env) :: starEach [] X.env := by rfl) : CE g X W (.Call (.Name x p) [e] [] pos) (mC1 fn m) := by
  obtain ⟨f, fd, F, hm, hk, hb, _⟩ := F.ex
  exact PE.imp (pe_callG F hr gd hg hm hk hb tk (pa_cons ha pa_nil he) hdb he rfl) t_call1
theorem c_callK {os : List Od} {ks : List Keyword} {π : List Nat} {nms : List Str} (F : Has X.prog X.w X.K X.mg X.base k x ps ar (spF g np fn)) (hr : Room k X.A) (gd : X.A.guards = some []) (hg : Gl X x) (tk : L2N.Takes X W) (ha : CKs g X W ks os)
    (hkb : ∀ (fd : FuncData) (f : Addr) (nm q : Str) (body : List Stmt) (scope : Scope), FunD X.K nm q ar body scope [] [] f fd → ∀ (s : Shared) (us : List Value), us.length = π.length → BindsTo s fd ⟨[], nms.zip us⟩ (ps.zip (permL π us)))
    (hall : (backToKw pos (keywordEach ks X.env)).all (·.1.isSome) = true := by rfl) (hks : (backToKw pos (keywordEach ks X.env)).filterMap (·.1) = nms := by rfl)
    (hdb : (x == ("__debug__" : Str)) = false) (hpl : ((backTo pos (starEach [] X.env)).any (·.1) || (backToKw pos (keywordEach ks X.env)).any (·.1.isNone)) = false := by rfl) : CE g X W (.Call (.Name x p) [] ks pos) (mCvP np fn π os) := by
  obtain ⟨f, fd, F, hm, hk, hb, nm', q', body, scope, FD⟩ := F.ex
  refine ⟨fun pins s σ H Q I h => wpAny_Call_Name_kw (ld_glob I hg hm ?_ hdb)⟩
  refine PySem.W.callWith_KW0 (h₀ := X.base) I.ok.mod.kin hk hall (thn (ha.run pos pins s σ H _ I (t_callP h)) fun us s1 ⟨vs, H1, I1, r, hl, q⟩ => ⟨I1.kIn, ?_⟩) hpl
  rw [hks]
  have perm : ∀ (π : List Nat), Vals (permL π vs) (permL π us) := fun π => by
    induction π with
    | nil => exact .nil
    | cons i π ih =>
      unfold permL
      rw [List.filterMap_cons, List.filterMap_cons]
      cases z : vs[i]? with
      | none => rw [r.none_of z]; exact ih
      | some v => obtain ⟨u, z1, z2⟩ := r.get z; rw [z1]; exact .cons z2 ih
  exact run_g (args := ⟨[], nms.zip us⟩) F hr gd tk I1 (hkb fd f nm' q' body scope FD s1 us (by rw [← r.length]; exact hl)) (perm π) q
end
def dIsN : D → Bool
  | .non => true
  | _ => false
theorem R.isN {A : Addr → Prop} {H : Hp} {d : D} {v : V} (r : Rt g A H d v) : decide (v = .non) = dIsN d := by
  cases d with
  | non => rw [show v = .non from r]; rfl
  | bl b => rw [show v = .bl b from r]; rfl
  | int b => rw [show v = .int b from r]; rfl
  | str b => rw [show v = .str b from r]; rfl
  | ty b => rw [show v = .ty b from r]; rfl
  | tup _ => obtain ⟨a, _, rfl, _⟩ := r; rfl
  | lst _ => obtain ⟨a, _, rfl, _⟩ := r; rfl
  | obj _ _ => obtain ⟨a, _, _, rfl, _⟩ := r; rfl
  | scr _ => obtain ⟨a, rfl, _⟩ := r; rfl
  | mrk => obtain ⟨b, rfl, _⟩ := r; rfl
  | ktu _ => obtain ⟨a, rfl, _⟩ := r; rfl
  | dct _ _ => obtain ⟨a, _, rfl, _⟩ := r; rfl
  | dtt _ _ => obtain ⟨a, _, rfl, _⟩ := r; rfl
  | exn _ _ => obtain ⟨a, _, rfl, _⟩ := r; rfl
def mIsN (a : Od) : M D := mO1 a fun d => mp (.bl (dIsN d))
theorem c_isN {a : Expr} {o : Od} {j} {pos pos' : Pos} (ha : CO g X W a o) : CE g X W (.Compare a [.Is] [.Constant .none j pos'] pos) (mIsN o) := PE.imp (pe_cmp (pc_isN ha)) fun σ H Q ⟨f, A, e, F, h⟩ => Fin.b1 h F fun d e1 v H1 F1 S1 r h1 => h1 _ H1 F1 S1 (by rw [R.isN r]; rfl)
def mIsNT (a : Od) : M Bool := mO1 a fun d => mp (dIsN d)
def mNotNT (a : Od) : M Bool := mO1 a fun d => mp (!dIsN d)
theorem ct_isN {a : Expr} {o : Od} {j} {pos pos' : Pos} (ha : CO g X W a o) : CT g X W (.Compare a [.Is] [.Constant .none j pos'] pos) (mIsNT o) := PT.imp (pt_cmp (pc_isN ha)) fun σ H Q ⟨f, A, e, F, h⟩ => Fin.b1 h F fun d e1 v H1 F1 S1 r h1 => ⟨_, by rw [R.isN r], h1 H1 F1 S1⟩
theorem ct_notN {a : Expr} {o : Od} {j} {pos pos' : Pos} (ha : CO g X W a o) : CT g X W (.Compare a [.IsNot] [.Constant .none j pos'] pos) (mNotNT o) := PT.imp (pt_cmp (pc_notN ha)) fun σ H Q ⟨f, A, e, F, h⟩ => Fin.b1 h F fun d e1 v H1 F1 S1 r h1 => ⟨_, by rw [R.isN r], h1 H1 F1 S1⟩
end
end Fw
namespace Fw
open L2 PyProof.Rows PySem PySem.Spec
section
variable {g : GC} {X : Cx} {W : WK}
theorem ts_nil : PTs X [] (rdT g W (mp true)) := ⟨fun pins s σ H Q I h => pts_nil.run pins s σ H Q I (by
  obtain ⟨f, A, e, F, h⟩ := h
  exact h H F .refl)⟩
theorem ts_one {c : Expr} {m : M Bool} (h : CT g X W c m) : PTs X [c] (rdT g W m) := pts_one h
theorem asg_mono {st : Stmt} {t u : TE} {G : TG} (h : PS X st (tAsg t G)) (i : ∀ σ H Q, u σ H Q → t σ H Q) : PS X st (tAsg u G) := ⟨fun pins s σ H D I q => h.run pins s σ H D I (i _ _ _ q)⟩
theorem lc_of {own sl : List Nat} {mi : M (List D)} {bd : D → M Unit} {mt : M Bool} {el : M D} (hsl : ∀ j ∈ sl, j ∈ own) : ∀ σ H Q, rdF g W (mLc mi own bd mt el) σ H Q → tLc (rdI g W mi) (rdG g sl bd) (rdT g W0 mt) (rdE g W0 el) own σ H Q := fun σ H Q ⟨f, A, e, F, h⟩ => t_lc σ H Q f A e F h hsl
theorem fr_of {m : M (List D)} {t : TE} (h : ∀ σ H Q, rdF g W m σ H Q → t σ H Q) : ∀ σ H Q, rdE g W (mFr m) σ H Q → t σ H Q := fun σ H Q ⟨f, A, e, F, z⟩ => h σ H Q (Fin.bF z F fun ds e1 p xs H1 F1 F2 n S1 hn hp r h1 => h1 _ H1 F1 S1 ⟨p, xs, rfl, hp, n, RL.mono ⟨F2.al, fun _ _ q _ => q, fun _ _ z _ => .inl z⟩ ds r⟩)
theorem u64 {k : Nat} {A : Around} (h : Room k A) : A.units + 64 < cLine := h.units
theorem u1 {k : Nat} {A : Around} (h : Room k A) : A.units + 1 < cLine := by have := h.units; omega
theorem u65 {k : Nat} {A : Around} (h : Room k A) : A.units + 65 < cLine := by have := h.un; omega
def dIsB : D → D → Option D
  | .bl a, .bl b => some (.bl (decide (a = b)))
  | _, _ => none
theorem c_gint {x : Str} {i : Int} {p : Pos} (hg : Gl X x) (h : ∃ t, X.mg x = some (.int i t)) (hd : (x == ("__debug__" : Str)) = false := by decide +kernel) : CE g X W (.Name x p) (mC (.int i)) := by
  obtain ⟨t, h⟩ := h
  exact c_con (pe_glob (v := .int i) hg h ⟨t, rfl⟩ hd) fun _ _ => rfl
theorem c_gty {x : Str} {y : String} {p : Pos} (hg : Gl X x) (hm : X.mg x = none) (hv : bootBuiltins x = some (.type y)) (hn : x ≠ "__name__" := by decide +kernel) (hd : (x == ("__debug__" : Str)) = false := by decide +kernel) : CE g X W (.Name x p) (mC (.ty y)) :=
  c_con (pe_bltn (v := .ty y) hg hm hv rfl hn hd) fun _ _ => rfl
end
end Fw
namespace Fw
open L2 PyProof.Rows PySem PySem.Spec
section
variable {P : Program} {w : World} {K : PySem.W.Frag} {mg mb : Str → Option Value} {k : Nat} {fa a : Addr} {fd : FuncData} {x : Str} {sp : Sp} {s1 : Shared} {vs : List Value} {ns : List Int}
abbrev EndQ (s1 : Shared) : Except Value Flow → Shared → Prop := fun r s2 => r = .ok (.ret (.bool true)) ∧ OldK s1.heap s2.heap ∧ s2.os = s1.os ∧ AllBare s2.gens
end
theorem fd_same {K : PySem.W.Frag} {x y x' y' : Str} {pa pa' : Arguments} {b b' : List Stmt} {sc sc' : Scope} {dv dv' : List V} {kw kw' : List (Str × V)} {f : Addr} {fd fd' : FuncData} (F : FunD K x y pa b sc dv kw f fd) (G : FunD K x' y' pa' b' sc' dv' kw' f fd') : fd = fd' := by
  obtain ⟨_, _, _, _, _, _, _, _, _, _, _, l1, _⟩ := F.ex
  obtain ⟨_, _, _, _, _, _, _, _, _, _, _, l2, _⟩ := G.ex
  cases l1.symm.trans l2
  rfl
theorem spF_law {g : GC} {fn : Fn} {H : Hp} {a : Addr} {ns : List Int} {as' : List Sl} (h : fn [.val (.scr ns)] = .ok (.v (.bl true)) as') (hS : SqL g.K H a (ns.map V.int)) (hT : ∀ p ∈ g.T, LamX.TabS H p.1 p.2) (hI : ∀ A H, g.iv A H) : spF g 1 fn [.ref a] H (fun v _ => v = .bl true) fun _ _ _ => False := by
  have no : ∀ u, H a = some u → (∀ ps, u ≠ .tbl ps) → ¬ ∃ q, (a, q) ∈ g.T := fun u hu n ⟨q, hq⟩ => by
    obtain ⟨ps, h1, _⟩ := hT _ hq
    rw [hu] at h1; exact n ps (Option.some.inj h1)
  refine ⟨rfl, fun b => ∃ q, (b, q) ∈ g.T, [.val (.scr ns)], fun b ⟨q, hq⟩ => ?_, ⟨rfl, ?_, ?_, fun p hp => ⟨⟨p.2, hp⟩, hT p hp⟩, hI _ _⟩, ?_⟩
  · obtain ⟨ps, h1, _⟩ := hT _ hq
    exact ⟨_, h1, rfl⟩
  · intro i s v e1 e2
    cases i with
    | zero =>
      cases e1; cases e2
      refine ⟨a, rfl, hS.elim (fun z => .inl ⟨z, ?_⟩) .inr⟩
      rcases z with z | ⟨o, z⟩
      · exact no _ z fun ps y => nomatch y
      · exact no _ z fun ps y => nomatch y
    | succ i => cases e1
  · intro i j s t p e1 e2 z1
    cases i with
    | zero => cases e1; cases z1
    | succ i => cases e1
  · rw [h]
    exact fun v H' _ r => r
end Fw
namespace Fw
open PySem L2
@[simp high] theorem get_0 {α : Type} {a : α} {l : List α} : (a :: l)[0]? = some a := rfl
@[simp high] theorem get_1 {α : Type} {a : α} {l : List α} {n : Nat} : (a :: l)[n + 1]? = l[n]? := rfl
section
variable {α β : Type} {e : Ev}
@[simp] theorem e_mb {m : M α} {k : α → M β} : mb m k e = (match m e with
  | .ok a e' => k a e'
  | .exc c d e' => .exc c d e'
  | .bad => .bad) := rfl
@[simp] theorem e_mp {a : α} : mp a e = .ok a e := rfl
@[simp] theorem e_mo {a : α} : mo (some a) e = .ok a e := rfl
@[simp] theorem e_mo0 : mo (none : Option α) e = .bad := rfl
@[simp] theorem e_mC {d : D} : mC d e = .ok d e := rfl
@[simp] theorem e_mVar {i : Nat} : mVar i e = (match e[i]? with
  | some (.val d) => .ok d e
  | _ => .bad) := rfl
@[simp] theorem e_mN {i : Nat} : mN i e = (match e[i]? with
  | some s => (match s.dat with
    | some d => .ok d e
    | none => .bad)
  | none => .bad) := rfl
@[simp] theorem e_dat1 {d : D} : Sl.dat (.val d) = some d := rfl
@[simp] theorem e_dat2 {d : D} : Sl.dat (.box d) = some d := rfl
@[simp] theorem e_dat3 {d : D} : Sl.dat (.pbox d) = some d := rfl
@[simp] theorem e_O2ee {m m' : M D} {k : D → D → M β} : mO2 (.e m) (.e m') k e = mb m (fun x => mb m' fun y => k x y) e := rfl
@[simp] theorem e_O2en {m : M D} {j : Nat} {k : D → D → M β} : mO2 (.e m) (.n j) k e = mb m (fun x => mb (mN j) fun y => k x y) e := rfl
@[simp] theorem e_O2ne {i : Nat} {m' : M D} {k : D → D → M β} : mO2 (.n i) (.e m') k e = mb (mN i) (fun _ => mb m' fun y => mb (mN i) fun x => k x y) e := rfl
@[simp] theorem e_O2nn {i j : Nat} {k : D → D → M β} : mO2 (.n i) (.n j) k e = mb (mN i) (fun x => mb (mN j) fun y => k x y) e := rfl
@[simp] theorem e_O1e {m : M D} {k : D → M β} : mO1 (.e m) k e = mb m k e := rfl
@[simp] theorem e_O1n {i : Nat} {k : D → M β} : mO1 (.n i) k e = mb (mN i) k e := rfl
@[simp] theorem e_Op {op : D → D → Option D} {a b : Od} : mOp op a b e = mO2 a b (fun x y => mo (op x y)) e := rfl
@[simp] theorem e_OpF {op : D → D → Option (List D)} {a b : Od} : mOpF op a b e = mO2 a b (fun x y => mo (op x y)) e := rfl
@[simp] theorem e_Un {op : D → Option D} {a : Od} : mUn op a e = mO1 a (fun x => mo (op x)) e := rfl
@[simp] theorem e_Cmp {op : D → D → Option D} {a b : Od} : mCmp op a b e = mO2 a b (fun x y => mo ((op x y).bind dB)) e := rfl
@[simp] theorem e_dB {b : Bool} : dB (.bl b) = some b := rfl
@[simp] theorem e_Chain {o o' : D → D → Option D} {a b c : Od} : mChain o o' a b c e = mO2 a b (fun x y => mb (mo ((o x y).bind dB)) fun k => if k = true then mO1 c fun z => mo (o' y z) else mp (.bl false)) e := rfl
@[simp] theorem e_Tru {a : Od} : mTru a e = mO1 a (fun d => mo (dTru d)) e := rfl
@[simp] theorem e_And {a b : M Bool} : mAnd a b e = (match a e with
  | .ok true e' => b e'
  | .ok false e' => .ok false e'
  | .exc c d e' => .exc c d e'
  | .bad => .bad) := by unfold mAnd mb; cases a e with
    | ok c e' => cases c <;> rfl
    | _ => rfl
@[simp] theorem e_Or {a b : M Bool} : mOr a b e = (match a e with
  | .ok true e' => .ok true e'
  | .ok false e' => b e'
  | .exc c d e' => .exc c d e'
  | .bad => .bad) := by unfold mOr mb; cases a e with
    | ok c e' => cases c <;> rfl
    | _ => rfl
@[simp] theorem e_Not {a : M Bool} : mNot a e = mb a (fun c => mp (!c)) e := rfl
@[simp] theorem e_If {c : M Bool} {a b : M α} : mIf c a b e = (match c e with
  | .ok k e' => if k = true then a e' else b e'
  | .exc c d e' => .exc c d e'
  | .bad => .bad) := by unfold mIf mb; cases c e with
    | ok c e' => cases c <;> rfl
    | _ => rfl
@[simp] theorem e_Fr {m : M (List D)} : mFr m e = mb m (fun ds => mp (.lst ds)) e := rfl
@[simp] theorem e_AndV {a b : M D} : mAndV a b e = (match a e with
  | .ok x e' => (match dTru x with
    | some k => if k = true then b e' else .ok x e'
    | none => .bad)
  | .exc c d e' => .exc c d e'
  | .bad => .bad) := by unfold mAndV mb mo; cases a e with
    | ok x e' =>
      dsimp only
      cases dTru x with
      | none => rfl
      | some k => cases k <;> rfl
    | _ => rfl
@[simp] theorem e_OrV {a b : M D} : mOrV a b e = (match a e with
  | .ok x e' => (match dTru x with
    | some k => if k = true then .ok x e' else b e'
    | none => .bad)
  | .exc c d e' => .exc c d e'
  | .bad => .bad) := by unfold mOrV mb mo; cases a e with
    | ok x e' =>
      dsimp only
      cases dTru x with
      | none => rfl
      | some k => cases k <;> rfl
    | _ => rfl
@[simp] theorem e_NotV {a : Od} : mNotV a e = mO1 a (fun x => mb (mo (dTru x)) fun c => mp (.bl (!c))) e := rfl
@[simp] theorem e_truB {b : Bool} : dTru (.bl b) = some b := rfl
@[simp] theorem e_Nil : mNil e = .ok [] e := rfl
@[simp] theorem e_Cons {a : M D} {b : M (List D)} : mCons a b e = mb a (fun x => mb b fun y => mp (x :: y)) e := rfl
@[simp] theorem e_Tup {m : M (List D)} : mTup m e = (match m e with
  | .ok ds e' => if ds.length ≤ 1000000 then .ok (.tup ds) e' else .bad
  | .exc c d e' => .exc c d e'
  | .bad => .bad) := by unfold mTup mb; cases m e with
    | ok ds e' => dsimp only; split <;> rfl
    | _ => rfl
@[simp] theorem e_Lst {m : M (List D)} : mLst m e = (match m e with
  | .ok ds e' => if ds.length ≤ 1000000 then .ok ds e' else .bad
  | .exc c d e' => .exc c d e'
  | .bad => .bad) := by unfold mLst mb; cases m e with
    | ok ds e' => dsimp only; split <;> rfl
    | _ => rfl
@[simp] theorem e_A1nil : mA1 [] e = .ok [] e := rfl
@[simp] theorem e_A1e {m : M D} {os : List Od} : mA1 (.e m :: os) e = mb m (fun d => mb (mA1 os) fun r => mp (.inl d :: r)) e := rfl
@[simp] theorem e_A1n {i : Nat} {os : List Od} : mA1 (.n i :: os) e = mb (mN i) (fun _ => mb (mA1 os) fun r => mp (.inr i :: r)) e := rfl
@[simp] theorem e_R0 : mRes [] e = .ok [] e := rfl
@[simp] theorem e_R1 {d : D} {r : List (Sum D Nat)} : mRes (.inl d :: r) e = mb (mRes r) (fun ds => mp (d :: ds)) e := rfl
@[simp] theorem e_R2 {i : Nat} {r : List (Sum D Nat)} : mRes (.inr i :: r) e = mb (mN i) (fun d => mb (mRes r) fun ds => mp (d :: ds)) e := rfl
@[simp] theorem e_As {os : List Od} : mAs os e = mb (mA1 os) mRes e := rfl
@[simp] theorem e_CB {op : List D → Option D} {os : List Od} : mCB op os e = mb (mAs os) (fun ds => mo (op ds)) e := rfl
@[simp] theorem e_CF {op : List D → Option (List D)} {os : List Od} : mCF op os e = mb (mAs os) (fun ds => mo (op ds)) e := rfl
@[simp] theorem e_IA {op : List D → Option (List D)} {os : List Od} : mIA op os e = mb (mAs os) (fun ds => mo (op ds)) e := rfl
@[simp] theorem e_op1 {f : D → Option β} {d : D} : op1 f [d] = f d := rfl
@[simp] theorem e_op2 {f : D → D → Option β} {d d' : D} : op2 f [d, d'] = f d d' := rfl
@[simp] theorem e_It {m : M D} : mIt m e = mb m (fun d => mo (dItems d)) e := rfl
@[simp] theorem e_itL {ds : List D} : dItems (.lst ds) = some ds := rfl
@[simp] theorem e_itT {ds : List D} : dItems (.tup ds) = some ds := rfl
@[simp] theorem e_Sq {a b : M Fl} : mSq a b e = (match a e with
  | .ok .nx e' => b e'
  | r => r) := rfl
@[simp] theorem e_Ex {m : M D} : mEx m e = mb m (fun _ => mp .nx) e := rfl
@[simp] theorem e_Ret {m : M D} : mRet m e = mb m (fun d => mp (.rt d)) e := rfl
@[simp] theorem e_RetF {m : M (List D)} : mRetF m e = mb m (fun d => mp (.rb d)) e := rfl
def Sl.isPb : Sl → Bool
  | .pbox _ => true
  | _ => false
def slOf : Option D → Sl
  | none => .emp
  | some d => .val d
@[simp] theorem pb_e : Sl.isPb .emp = false := rfl
@[simp] theorem pb_v {d : D} : Sl.isPb (.val d) = false := rfl
@[simp] theorem pb_b {d : D} : Sl.isPb (.box d) = false := rfl
@[simp] theorem pb_p {d : D} : Sl.isPb (.pbox d) = true := rfl
@[simp] theorem pb_o {o : Option D} : Sl.isPb (slOf o) = false := by cases o <;> rfl
@[simp] theorem e_setV {i : Nat} {d : D} : Fw.setV i d e = (e[i]?).elim .bad (fun s => if s.isPb = true then .bad else .ok () (e.set i (.val d))) := by
  unfold Fw.setV
  cases e[i]? with
  | none => rfl
  | some s => cases s <;> rfl
@[simp] theorem e_setB {i : Nat} {d : D} : Fw.setB i d e = (e[i]?).elim .bad (fun s => if s.isPb = true then .bad else .ok () (e.set i (.box d))) := by
  unfold Fw.setB
  cases e[i]? with
  | none => rfl
  | some s => cases s <;> rfl
@[simp] theorem e_Set {i : Nat} {m : M D} : mSet i m e = mb m (fun d => mb (Fw.setV i d) fun _ => mp .nx) e := rfl
@[simp] theorem e_SetB {i : Nat} {m : M (List D)} : mSetB i m e = mb m (fun d => mb (Fw.setB i (.lst d)) fun _ => mp .nx) e := rfl
@[simp] theorem e_Asg {m : M D} {bd : D → M Unit} : mAsg m bd e = mb m (fun d e => match bd d e with
  | .ok _ e' => .ok .nx e'
  | _ => .bad) e := rfl
@[simp] theorem e_gTup {n : Nat} {bs : List D → M Unit} {ds : List D} : gTupD n bs (.tup ds) e = if ds.length = n then bs ds e else .bad := by unfold gTupD; by_cases h : ds.length = n <;> simp [h]
@[simp] theorem e_gs0 : gsNil [] e = .ok () e := rfl
@[simp] theorem e_gs1 {b : D → M Unit} {bs : List D → M Unit} {d : D} {ds : List D} : gsCons b bs (d :: ds) e = mb (b d) (fun _ => bs ds) e := rfl
@[simp] theorem e_gSt {i : Nat} {mk : M D} {d : D} : gSt i mk d e = mb (hasB i) (fun _ => mb mk fun k => match k with
  | .int k => chB i fun ds => (ixN ds.length k).map fun j => ds.set j d
  | _ => fun _ => .bad) e := rfl
@[simp] theorem e_hasB {i : Nat} : hasB i e = (match e[i]? with
  | some s => (match lstOf s with
    | some _ => .ok () e
    | none => .bad)
  | none => .bad) := rfl
@[simp] theorem e_chB {i : Nat} {op : List D → Option (List D)} : chB i op e = (match e[i]? with
  | some s => (match lstOf s with
    | some ds => (match op ds with
      | some ds' => .ok () (e.set i (s.put (.lst ds')))
      | none => .bad)
    | none => .bad)
  | none => .bad) := rfl
@[simp] theorem e_lo1 {ds : List D} : lstOf (.box (.lst ds)) = some ds := rfl
@[simp] theorem e_lo2 {ds : List D} : lstOf (.pbox (.lst ds)) = some ds := rfl
@[simp] theorem e_pu1 {d d' : D} : Sl.put (.box d) d' = .box d' := rfl
@[simp] theorem e_pu2 {d d' : D} : Sl.put (.pbox d) d' = .pbox d' := rfl
@[simp] theorem e_App {i : Nat} {m : M D} : mApp i m e = mb (hasB i) (fun _ => mb m fun d => mb (chB i fun ds => lim 8000000 (ds ++ [d])) fun _ => mp .non) e := rfl
@[simp] theorem e_nx {m : M α} : nx1 m e = (match m e with
  | .ok a e' => .ok a e'
  | _ => .bad) := rfl
@[simp] theorem e_Eds0 : mEds [] e = .ok [] e := rfl
@[simp] theorem e_Eds1 {m : M D} {os : List Ed} : mEds (.e m :: os) e = mb (nx1 m) (fun d => mb (mEds os) fun r => mp (.inl d :: r)) e := rfl
@[simp] theorem e_Eds2 {m : M (List D)} {os : List Ed} : mEds (.f m :: os) e = mb (nx1 m) (fun d => mb (mEds os) fun r => mp (.inr d :: r)) e := rfl
@[simp] theorem e_as0 : asgs [] [] e = .ok () e := rfl
@[simp] theorem e_as1 {i : Nat} {is : List Nat} {p : Sum D (List D)} {ps : List (Sum D (List D))} : asgs (i :: is) (p :: ps) e = mb (asg1 i p) (fun _ => asgs is ps) e := rfl
@[simp] theorem e_sg1 {i : Nat} {d : D} : asg1 i (.inl d) = Fw.setV i d := rfl
@[simp] theorem e_sg2 {i : Nat} {d : List D} : asg1 i (.inr d) = Fw.setB i (.lst d) := rfl
@[simp] theorem e_Par {is : List Nat} {eds : List Ed} : mPar is eds e = mb (nx1 (mEds eds)) (fun ps => mb (nx1 (asgs is ps)) fun _ => mp .nx) e := rfl
@[simp] theorem e_Call {np : Nat} {fn : Fn} {os : List Od} : mCall np fn os e = mb (mA1 os) (fun ps e => match argsOf e ps with
  | none => .bad
  | some as => if as.length = np then (if nodupB (nums ps) = true then (match fn as with
      | .ok rv as' => .ok rv (wb ps as' e)
      | .exc c d as' => .exc c d (wb ps as' e)
      | .bad => .bad) else .bad) else .bad) e := rfl
@[simp] theorem e_Cv {np : Nat} {fn : Fn} {os : List Od} : mCv np fn os e = mb (mCall np fn os) (fun rv => mp rv.d) e := rfl
@[simp] theorem e_Cl {np : Nat} {fn : Fn} {os : List Od} : mCl np fn os e = mb (mCall np fn os) (fun rv => mo rv.l) e := rfl
@[simp] theorem e_C1 {fn : Fn} {m : M (List D)} : mC1 fn m e = mb m (fun ds e => match fn [.pbox (.lst ds)] with
  | .ok rv _ => .ok rv.d e
  | .exc c d _ => .exc c d e
  | .bad => .bad) e := rfl
@[simp] theorem e_CvP {np : Nat} {fn : Fn} {π : List Nat} {os : List Od} : mCvP np fn π os e = mb (mCallP np fn π os) (fun rv => mp rv.d) e := rfl
@[simp] theorem e_CallP {np : Nat} {fn : Fn} {π : List Nat} {os : List Od} : mCallP np fn π os e = mb (mA1 os) (fun ps e => if ps.length = π.length ∧ (π.all fun i => decide (i < ps.length)) = true then (match argsOf e (permL π ps) with
  | none => .bad
  | some as => if as.length = np then (if nodupB (nums (permL π ps)) = true then (match fn as with
      | .ok rv as' => .ok rv (wb (permL π ps) as' e)
      | .exc c d as' => .exc c d (wb (permL π ps) as' e)
      | .bad => .bad) else .bad) else .bad) else .bad) e := rfl
@[simp] theorem e_d1 {d : D} : RV.d (.v d) = d := rfl
@[simp] theorem e_d2 {ds : List D} : RV.d (.b ds) = .lst ds := rfl
@[simp] theorem e_l2 {ds : List D} : RV.l (.b ds) = some ds := rfl
@[simp] theorem e_ar0 : argsOf e [] = some [] := rfl
@[simp] theorem e_arc {a : Sum D Nat} {ps : List (Sum D Nat)} : argsOf e (a :: ps) = (match argOf e a with
  | some s => (match argsOf e ps with
    | some l => some (s :: l)
    | none => none)
  | none => none) := rfl
@[simp] theorem e_ag1 {d : D} : argOf e (.inl d) = some (.val d) := rfl
@[simp] theorem e_ag2 {i : Nat} : argOf e (.inr i) = (match e[i]? with
  | some (.val d) => some (.val d)
  | some (.box d) => some (.pbox d)
  | some (.pbox d) => some (.pbox d)
  | _ => none) := rfl
@[simp] theorem e_wb1 {i : Nat} {ps : List (Sum D Nat)} {d : D} {as : List Sl} : wb (.inr i :: ps) (.pbox d :: as) e = wb ps as (put1 i d e) := rfl
@[simp] theorem e_wb2 {i : Nat} {ps : List (Sum D Nat)} {d : D} {as : List Sl} : wb (.inr i :: ps) (.val d :: as) e = wb ps as e := rfl
@[simp] theorem e_wb4 {as : List Sl} : wb [] as e = e := by cases as <;> rfl
theorem e_wb5 {ps : List (Sum D Nat)} : wb ps [] e = e := by
  cases ps with
  | nil => rfl
  | cons a ps => cases a <;> rfl
@[simp] theorem e_wb3 {d : D} {ps : List (Sum D Nat)} {as : List Sl} : wb (.inl d :: ps) as e = wb ps as.tail e := by
  cases as with
  | nil => rw [List.tail_nil, e_wb5, e_wb5]
  | cons s as => rfl
@[simp] theorem e_put1 {i : Nat} {d : D} : put1 i d e = (match e[i]? with
  | some s => e.set i (s.put d)
  | none => e) := rfl
@[simp] theorem e_pe0 {xs : List α} : permL [] xs = [] := rfl
@[simp] theorem e_pe1 {i : Nat} {π : List Nat} {xs : List α} : permL (i :: π) xs = (match xs[i]? with
  | some x => x :: permL π xs
  | none => permL π xs) := by
  unfold permL
  rw [List.filterMap_cons]
  cases xs[i]? <;> rfl
@[simp] theorem e_nu0 : nums [] = [] := rfl
@[simp] theorem e_nu1 {d : D} {r : List (Sum D Nat)} : nums (.inl d :: r) = nums r := rfl
@[simp] theorem e_nu2 {i : Nat} {r : List (Sum D Nat)} : nums (.inr i :: r) = i :: nums r := rfl
@[simp] theorem e_nd0 : nodupB [] = true := rfl
@[simp] theorem e_nd1 {i : Nat} {r : List Nat} : nodupB (i :: r) = (!r.contains i && nodupB r) := rfl
@[simp] theorem e_For {mi : M (List D)} {bd : D → M Unit} {b : M Fl} : mFor mi bd b e = mb mi (fun ds => mFl bd b ds) e := rfl
end
theorem fn_eq {np nl : Nat} {body : M Fl} {as : List Sl} : mkFn np nl body as = if as.length = np then
  (match body (as ++ List.replicate (nl - np) .emp) with
  | .ok (.rt d) e => .ok (.v d) (e.take np)
  | .ok (.rb ds) e => .ok (.b ds) (e.take np)
  | .ok .nx e => .ok (.v .non) (e.take np)
  | .exc c d e => .exc c d (e.take np)
  | _ => .bad) else .bad := rfl
theorem dMod_pos {i j : Int} (h : 0 < j) : dMod (.int i) (.int j) = some (.int (i % j)) := by
  simp [dMod, dI, iMod, h]; omega
theorem dFdiv_pos {i j : Int} (h : 0 < j) (h2 : j < 1152921504606846976) : dFdiv (.int i) (.int j) = some (.int (i / j)) := by
  have : j.natAbs.log2 < 9000 := by
    have : j.natAbs.log2 < 61 := by rw [Nat.log2_lt (by omega)]; omega
    omega
  simp [dFdiv, dI, iFdiv, h, this]; omega
theorem dMul_l {i j : Int} (h : -18446744073709551616 < i ∧ i < 18446744073709551616) : dMul (.int i) (.int j) = some (.int (i * j)) := by
  have : i.natAbs < 18446744073709551616 := by omega
  simp [dMul, mulOk, this]
theorem dMul_r {i j : Int} (h : -18446744073709551616 < j ∧ j < 18446744073709551616) : dMul (.int i) (.int j) = some (.int (i * j)) := by
  have : j.natAbs < 18446744073709551616 := by omega
  simp [dMul, mulOk, this]
theorem dR1_ok {j : Int} (h : 0 ≤ j ∧ j < 4611686018427387904) : dR1 [.int j] = some ((List.range j.toNat).map fun (i : Nat) => D.int (0 + (i : Int))) := by
  have : j.natAbs < 4611686018427387904 := by omega
  simp [dR1, rngOk, this]
@[simp] theorem dAdd_i {i j : Int} : dAdd (.int i) (.int j) = some (.int (i + j)) := rfl
@[simp] theorem dSub_i {i j : Int} : dSub (.int i) (.int j) = some (.int (i - j)) := rfl
@[simp] theorem dLt_i {i j : Int} : dLt (.int i) (.int j) = some (.bl (decide (i < j))) := rfl
@[simp] theorem dGt_i {i j : Int} : dGt (.int i) (.int j) = some (.bl (decide (j < i))) := rfl
@[simp] theorem dLe_i {i j : Int} : dLe (.int i) (.int j) = some (.bl (decide (i ≤ j))) := rfl
@[simp] theorem dGe_i {i j : Int} : dGe (.int i) (.int j) = some (.bl (decide (j ≤ i))) := rfl
@[simp] theorem dEq_i {i j : Int} : dEq (.int i) (.int j) = some (.bl (decide (i = j))) := rfl
@[simp] theorem dNe_i {i j : Int} : dNe (.int i) (.int j) = some (.bl (!decide (i = j))) := rfl
@[simp] theorem dEq_b {i j : Bool} : dEq (.bl i) (.bl j) = some (.bl (decide (i = j))) := rfl
@[simp] theorem dNe_b {i j : Bool} : dNe (.bl i) (.bl j) = some (.bl (!decide (i = j))) := rfl
@[simp] theorem dEq_s {i j : Str} : dEq (.str i) (.str j) = some (.bl (decide (i = j))) := rfl
@[simp] theorem dNe_s {i j : Str} : dNe (.str i) (.str j) = some (.bl (!decide (i = j))) := rfl
@[simp] theorem dInt_i {i : Int} : dInt (.int i) = some (.int i) := rfl
@[simp] theorem dInt_b {b : Bool} : dInt (.bl b) = some (.int (if b = true then 1 else 0)) := by cases b <;> rfl
@[simp] theorem dNeg_i {i : Int} : dNeg (.int i) = some (.int (-i)) := rfl
@[simp] theorem dAbs_i {i : Int} : dAbs (.int i) = some (.int (if i < 0 then -i else i)) := rfl
@[simp] theorem dLen_l {ds : List D} : dLen (.lst ds) = some (.int (ds.length : Int)) := rfl
@[simp] theorem dLen_t {ds : List D} : dLen (.tup ds) = some (.int (ds.length : Int)) := rfl
@[simp] theorem dLen_s {ns : List Int} : dLen (.scr ns) = some (.int (ns.length : Int)) := rfl
@[simp] theorem dMax_i {i j : Int} : dMax2 (.int i) (.int j) = some (.int (if j > i then j else i)) := rfl
@[simp] theorem dMin_i {i j : Int} : dMin2 (.int i) (.int j) = some (.int (if j < i then j else i)) := rfl
@[simp] theorem e_Lc {mi : M (List D)} {own : List Nat} {bd : D → M Unit} {t : M Bool} {el : M D} {e : Ev} : mLc mi own bd t el e = mb mi (fun ds e => if ownOk e own = true then (match mLcL own bd t el ds [] (wipeE e own) with
  | .ok ys e' => .ok ys (backE e e' own)
  | _ => .bad) else .bad) e := rfl
@[simp] theorem e_wi0 {e : Ev} : wipeE e [] = e := rfl
@[simp] theorem e_wi1 {e : Ev} {v : Nat} {vs : List Nat} : wipeE e (v :: vs) = (wipeE e vs).set v .emp := rfl
@[simp] theorem e_ba0 {e e' : Ev} : backE e e' [] = e' := rfl
@[simp] theorem e_ba1 {e e' : Ev} {v : Nat} {vs : List Nat} : backE e e' (v :: vs) = (match e[v]? with
  | some s => (backE e e' vs).set v s
  | none => backE e e' vs) := rfl
@[simp] theorem e_ow0 {e : Ev} : ownOk e [] = true := rfl
@[simp] theorem e_ow1 {e : Ev} {v : Nat} {vs : List Nat} : ownOk e (v :: vs) = ((match e[v]? with
  | some .emp => true
  | some (.val _) => true
  | _ => false) && ownOk e vs) := rfl
end Fw
namespace Fw
open L2 PyProof.Rows PySem PySem.Spec
section
variable {g : GC} {X : Cx} {W : WK}
theorem FR.putO {f : Fx} {A : Addr → Prop} {H : Hp} {σ : Sv} {e : Ev} (F : FR g f A H σ e) {i : Nat} {s : Sl} {p : Addr} {dn : D} {on : HO} (mu : isMut on = true) (h : e[i]? = some s) (hb : s.isBox = true) (hs : σ[i]? = some (some (.ref p))) (r : Mono A H A (upd H p on) → Bx g A (upd H p on) dn p) :
    FR g f A (upd H p on) σ (e.set i (s.put dn)) ∧ Step A H (upd H p on) := by
  have hA := F.boxA h hb hs
  have st : ∀ a o, a ≠ p → H a = some o → upd H p on a = some o := fun a o n z => by rw [upd_ne n]; exact z
  have sp : Step A H (upd H p on) := ⟨fun a o z n => st a o (fun y => n (y ▸ hA)) z, fun a o z => by
    by_cases y : a = p
    · exact ⟨on, by rw [y]; exact upd_same⟩
    · exact ⟨o, st a o y z⟩⟩
  have m := F.mono sp
  have kb : (s.put dn).isBox = true := by
    cases s with
    | emp => cases hb
    | val _ => cases hb
    | box _ => rfl
    | pbox _ => rfl
  have hi : i < e.length := (List.getElem?_eq_some_iff.mp h).1
  have bx : ∀ {j : Nat} {t : Sl}, (e.set i (s.put dn))[j]? = some t → t.isBox = true → ∃ t0, e[j]? = some t0 ∧ t0.isBox = true := fun {j t} z b => by
    rcases get_set z with ⟨rfl, _, _⟩ | ⟨_, z⟩
    · exact ⟨s, h, hb⟩
    · exact ⟨t, z, b⟩
  refine ⟨⟨by rw [List.length_set]; exact F.len, fun j t o z1 z2 => ?_, fun a b t u q z1 z2 b1 b2 s1 s2 => ?_, fun a t q z1 b1 s1 => ?_, fun a o z => ?_, F.ob, F.ob0, fun a q z => by rw [List.length_set]; exact F.pb a q z, fun a z => ?_, fun a o z n n2 => ?_, fun q z => let ⟨z1, z2, z3⟩ := F.tb q z; ⟨z1, z2, tabS_keep z3 fun b o y nb => st b o (fun w => F.bxno h hb hs (w ▸ y) nb) y⟩, g.ivM m.w F.iv⟩, sp⟩
  · rcases get_set z1 with ⟨rfl, _, rfl⟩ | ⟨n, z1⟩
    · have q := F.sl i s o h z2
      rw [hs] at z2; cases z2
      cases s with
      | emp => cases hb
      | val _ => cases hb
      | box d => obtain ⟨a, p', b, c, c0, _⟩ := q; cases b; exact ⟨a, p, rfl, c, c0, r m⟩
      | pbox d => obtain ⟨p', a, b, c, _⟩ := q; cases b; exact ⟨p, a, rfl, c, r m⟩
    · have q := F.sl j t o z1 z2
      have np : ∀ p', t.isBox = true → o = some (.ref p') → p' ≠ p := fun p' hb' eo y => n (F.inj i j s t p h z1 hb hb' hs (by rw [z2, eo, y]))
      cases t with
      | emp => exact q
      | val d => obtain ⟨a, v, b, c⟩ := q; exact ⟨a, v, b, R.mono m d c⟩
      | box d => obtain ⟨a, p', b, c, c0, dd⟩ := q; exact ⟨a, p', b, c, c0, Bx.mono m (fun u z => st p' u (np p' rfl b) z) dd⟩
      | pbox d => obtain ⟨p', a, b, c, dd⟩ := q; exact ⟨p', a, b, c, Bx.mono m (fun u z => st p' u (np p' rfl b) z) dd⟩
  · obtain ⟨t0, y1, y2⟩ := bx z1 b1
    obtain ⟨u0, y3, y4⟩ := bx z2 b2
    exact F.inj a b t0 u0 q y1 y3 y2 y4 s1 s2
  · obtain ⟨t0, y1, y2⟩ := bx z1 b1
    exact F.nt a t0 q y1 y2 s1
  · have q := F.tp a o z
    refine ⟨q.1, st a o (fun y => ?_) q.2⟩
    have := F.nt i s p h hb hs
    rw [← y, z] at this; cases this
  · obtain ⟨o, q1, q2⟩ := F.al a z
    by_cases y : a = p
    · exact ⟨on, by rw [y]; exact upd_same, mu⟩
    · exact ⟨o, st a o y q1, q2⟩
  · refine st a o (fun y => ?_) (F.keep a o z n n2)
    have q := F.sl i s _ h hs
    cases s with
    | emp => cases hb
    | val _ => cases hb
    | box d => obtain ⟨_, p', b, _, c0, _⟩ := q; cases b; rw [y, c0] at z; cases z
    | pbox d => obtain ⟨p', b0, b, _⟩ := q; cases b; exact n i (y ▸ b0)
theorem pe_lock {ex : Expr} {t : TE} (h : PE X ex t) : PE X ex (fun σ H Q => t σ H fun v H1 => Q v H1 ∨ ∃ d u, H1 d = some u ∧ Mut (some u) ∧ ∀ od, Q v (upd H1 d (.frz od u))) := ⟨fun pins s σ H Q I q => thn (h.run pins s σ H _ I q) fun u s1 ⟨v, H1, I1, r, q⟩ => by
  rcases q with q | ⟨d, o, e, mu, q⟩
  · exact ⟨v, H1, I1, r, q⟩
  · obtain ⟨od, I'⟩ := I1.lock e mu
    exact ⟨v, _, I', r, q od⟩⟩
def mDn : M D := mp (.dct [] [])
theorem c_dn {pos : Pos} : CE g X W (.Dict [] [] pos) mDn := PE.imp (pe_lock pe_dnewK) fun σ H Q ⟨f, A, e, F, h⟩ p hp => by
  refine .inr ⟨p, _, upd_same, trivial, fun od => ?_⟩
  have s : Same H (upd (upd H p (.dK [])) p (.frz od (.dK []))) := fun b u e => by
    have n : b ≠ p := ne_of_none e hp
    rw [upd_ne n, upd_ne n]; exact e
  exact h _ _ (F.same s) (.of s) ⟨p, od, [], rfl, upd_same, rfl, rfl⟩
def dctOf : Sl → Option (List Key × List D)
  | .box (.dct ks ds) => some (ks, ds)
  | .pbox (.dct ks ds) => some (ks, ds)
  | _ => none
theorem FR.dct {f : Fx} {A : Addr → Prop} {H : Hp} {σ : Sv} {e : Ev} (F : FR g f A H σ e) {i : Nat} {s : Sl} {ks : List Key} {ds : List D} (h : e[i]? = some s) (q : dctOf s = some (ks, ds)) : s.isBox = true ∧ ∃ p xs, σ[i]? = some (some (.ref p)) ∧ H p = some (.dK (ks.zip xs)) ∧ ks.length = xs.length ∧ RL g A H ds xs := by
  obtain ⟨o, h1, h2⟩ := F.at h
  cases s with
  | emp => cases q
  | val _ => cases q
  | box d =>
    cases d with
    | dct ks' ds' => cases q; obtain ⟨_, p, e1, _, _, xs, h3, h4, h5⟩ := h2; exact ⟨rfl, p, xs, by rw [h1, e1], h3, h4, h5⟩
    | _ => cases q
  | pbox d =>
    cases d with
    | dct ks' ds' => cases q; obtain ⟨p, _, e1, _, xs, h3, h4, h5⟩ := h2; exact ⟨rfl, p, xs, by rw [h1, e1], h3, h4, h5⟩
    | _ => cases q
end
end Fw
namespace Fw
open L2 PyProof.Rows PySem PySem.Spec
section
variable {g : GC} {X : Cx} {W : WK}
def listI : D → Option (List Int)
  | .lst ds => intsD ds
  | .scr ns => some ns
  | _ => none
theorem listI_ok {A : Addr → Prop} {H : Hp} {d : D} {v : V} {ns : List Int} (r : Rt g A H d v) (h : listI d = some ns) : ∃ a, v = .ref a ∧ SqL g.K H a (ns.map V.int) := by
  cases d with
  | lst ds =>
    obtain ⟨a, xs, rfl, h2, rl⟩ := r
    have h : intsD ds = some ns := h
    rw [intsD_eq h] at rl
    rw [RL.ints_of ns rl] at h2
    exact ⟨a, rfl, SqL.of h2⟩
  | scr ns' => cases h; obtain ⟨a, rfl, h1⟩ := r; exact ⟨a, rfl, h1.sq⟩
  | _ => cases h
def insI (a : Int) : List Int → List Int
  | [] => [a]
  | b :: l => if a ≤ b then a :: b :: l else b :: insI a l
def sortI : List Int → List Int
  | [] => []
  | a :: l => insI a (sortI l)
theorem insI_perm (a : Int) : ∀ l : List Int, (insI a l).Perm (a :: l)
  | [] => .refl _
  | b :: l => by
    unfold insI
    split
    · exact .refl _
    · exact (List.Perm.cons b (insI_perm a l)).trans (List.Perm.swap a b l)
theorem sortI_perm : ∀ l : List Int, (sortI l).Perm l
  | [] => .refl _
  | a :: l => (insI_perm a (sortI l)).trans (List.Perm.cons a (sortI_perm l))
theorem insI_sorted (a : Int) : ∀ l : List Int, l.Pairwise (· ≤ ·) → (insI a l).Pairwise (· ≤ ·)
  | [], _ => by simp [insI]
  | b :: l, h => by
    unfold insI
    obtain ⟨h1, h2⟩ := List.pairwise_cons.mp h
    split
    · rename_i z
      refine List.pairwise_cons.mpr ⟨fun y hy => ?_, h⟩
      rcases List.mem_cons.mp hy with rfl | hy
      · exact z
      · have := h1 y hy; omega
    · rename_i z
      refine List.pairwise_cons.mpr ⟨fun y hy => ?_, insI_sorted a l h2⟩
      have := (insI_perm a l).mem_iff.mp hy
      rcases List.mem_cons.mp this with rfl | hy
      · omega
      · exact h1 y hy
theorem sortI_sorted : ∀ l : List Int, (sortI l).Pairwise (· ≤ ·)
  | [] => .nil
  | a :: l => insI_sorted a _ (sortI_sorted l)
theorem sorted_uniq : ∀ {l m : List Int}, l.Perm m → l.Pairwise (· ≤ ·) → m.Pairwise (· ≤ ·) → l = m
  | [], m, h, _, _ => (List.nil_perm.mp h).symm
  | a :: l, [], h, _, _ => by have := h.length_eq; simp at this
  | a :: l, b :: m, h, s, t => by
    obtain ⟨s1, s2⟩ := List.pairwise_cons.mp s
    obtain ⟨t1, t2⟩ := List.pairwise_cons.mp t
    have e : a = b := by
      have ha := h.mem_iff.mp (List.mem_cons_self (a := a) (l := l))
      have hb := h.mem_iff.mpr (List.mem_cons_self (a := b) (l := m))
      rcases List.mem_cons.mp ha with z | z
      · exact z
      · rcases List.mem_cons.mp hb with y | y
        · exact y.symm
        · have := t1 a z; have := s1 b y; omega
    subst e
    rw [sorted_uniq (List.Perm.cons_inv h) s2 t2]
def dSorted (d : D) : Option (List D) := (listI d).map fun ns => (sortI ns).map D.int
theorem fs_sorted : FS g (rSortedI g.K) (op1 dSorted) := fs1 fun A H d es v Q al r q k => by
  obtain ⟨ns, z, rfl⟩ := map_some (show (listI d).map (fun ns => (sortI ns).map D.int) = some es from q)
  obtain ⟨a, rfl, h⟩ := listI_ok r z
  refine ⟨a, ns, rfl, h, fun ns' p h1 h2 hp => ?_⟩
  have e : ns' = sortI ns := sorted_uniq (h1.trans (sortI_perm ns).symm) h2 (sortI_sorted ns)
  exact k p _ _ hp (Same.new hp) upd_only upd_same (by rw [e]; exact RL.ints _)
end
end Fw
namespace Fw
open L2 PyProof.Rows PySem PySem.Spec
section
variable {g : GC} {X : Cx} {W : WK}
def dLr1 : D → Option (List D)
  | .int j => if -1000000 ≤ j ∧ j ≤ 1000000 then some ((List.range j.toNat).map fun (i : Nat) => D.int (0 + (i : Int))) else none
  | _ => none
def mLr1 (m : M D) : M (List D) := mb m fun d => mo (dLr1 d)
theorem rl_rg {A : Addr → Prop} {H : Hp} (a : Int) : ∀ l : List Nat, RL g A H (l.map fun (i : Nat) => D.int (a + (i : Int))) (l.map fun i => V.int (a + (i : Nat)))
  | [] => rfl
  | _ :: l => ⟨_, _, rfl, rfl, rl_rg a l⟩
theorem cf_lr1 {a : Expr} {m : M D} {p p2 pos pos2 : Pos} (hg : Gl X "list") (hm : X.mg "list" = none) (hg2 : Gl X "range") (hm2 : X.mg "range" = none) (ha : CE g X W a m) (hc : X.calm = true := by rfl)
    (n1 : starEach [a] X.env = (false, eval a X.env) :: starEach [] X.env := by rfl) (n2 : starEach [.Call (.Name "range" p2) [a] [] pos2] X.env = (false, eval (.Call (.Name "range" p2) [a] [] pos2) X.env) :: starEach [] X.env := by rfl) :
    CF g X W (.Call (.Name "list" p) [.Call (.Name "range" p2) [a] [] pos2] [] pos) (mLr1 m) := PE.imp (pe_listRg hc hg hm (prg_1 hg2 hm2 ha n1) n2) fun σ H Q ⟨f, A, e, F, h⟩ =>
  Fin.bE h F fun d e1 v H1 F1 S1 r h1 => by
    obtain ⟨es, q, h3⟩ := Fin.mo h1
    cases d with
    | int j =>
      obtain rfl : v = .int j := r
      have q : (if -1000000 ≤ j ∧ j ≤ 1000000 then some ((List.range j.toNat).map fun (i : Nat) => D.int (0 + (i : Int))) else none) = some es := q
      by_cases c : -1000000 ≤ j ∧ j ≤ 1000000
      · rw [if_pos c] at q; cases q
        refine ⟨j, rfl, ⟨by omega, by omega, by omega, by omega, by omega⟩, fun p hp => ?_⟩
        refine h3 p _ _ (F1.same (Same.new hp)) (F1.new hp) (F1.nA hp) (S1.trans (.of (Same.new hp))) ?_ upd_same ?_
        · cases z : H p with
          | none => rfl
          | some o => obtain ⟨o', q⟩ := S1.un p o z; rw [hp] at q; cases q
        · unfold rgV
          rw [Int.sub_zero]
          exact rl_rg 0 _
      · rw [if_neg c] at q; cases q
    | _ => cases q
def gLstD (n : Nat) (bs : List D → M Unit) : D → M Unit
  | .lst ds => if ds.length = n then bs ds else fun _ => .bad
  | _ => fun _ => .bad
theorem cg_lst {es : List Expr} {k : Nat} {sl : List Nat} {bs : List D → M Unit} {n : Nat} {p : Pos} (hc : X.calm = true) (h : CGs g X es sl bs) (hn : (assignEach es X.env).length = n := by rfl) (hst : (assignEach es X.env).findIdx? (·.1) = none := by rfl) : CG g X (.Tuple es k p) sl (gLstD n bs) :=
  PG.imp (pg_lst hc h hn hst) fun v σ H Q ⟨f, A, e, d, F, r, h⟩ => by
    cases d with
    | lst ds =>
      obtain ⟨a, xs, e1, h1, _, r⟩ := r
      have h : FinG g f A σ H sl Q ((if ds.length = n then bs ds else fun _ => .bad) e) := h
      by_cases hl : ds.length = n
      · rw [if_pos hl] at h
        exact ⟨a, xs, e1, SqL.of h1, by rw [RL.length r]; exact hl, f, A, e, ds, F, r, h⟩
      · rw [if_neg hl] at h; exact h.elim
    | _ => exact h.elim
end
end Fw
namespace Fw
open PySem L2
section
variable {α β : Type} {e : Ev}
@[simp] theorem e_Ub {i : Nat} {m : M Fl} : mUb i m e = (match e[i]? with
  | some (.box (.lst d)) => m (e.set i (.val (.lst d)))
  | _ => m e) := rfl
@[simp] theorem e_do1 {ks : List Key} {ds : List D} : dctOf (.box (.dct ks ds)) = some (ks, ds) := rfl
@[simp] theorem e_Lr1 {m : M D} : mLr1 m e = mb m (fun d => mo (dLr1 d)) e := rfl
@[simp] theorem e_gLst {n : Nat} {bs : List D → M Unit} {ds : List D} : gLstD n bs (.lst ds) e = if ds.length = n then bs ds e else .bad := by unfold gLstD; by_cases h : ds.length = n <;> simp [h]
@[simp] theorem e_SlE {m : M D} {lo hi : Option (M D)} {op : D → Option Int → Option Int → Option β} : mSl (.e m) lo hi op e = mb m (fun d => mb (mPart lo) fun l => mb (mPart hi) fun u => mo (op d l u)) e := rfl
@[simp] theorem e_Pn : mPart none e = .ok none e := rfl
@[simp] theorem e_Pc {i : Int} : mPart (some (mC (.int i))) e = .ok (some i) e := rfl
end
end Fw
namespace Fw.Ex
open PyProof.Rows PySem PySem.W PySem.Calls PySem.HandSPX
theorem refsT_split {tl : List Value} : ∀ l : List Value, refsT tl l = true → (∃ a k, l = .ref a :: k ∧ refsT tl k = true) ∨ l = tl := fun l e => by
  match l, e with
  | .ref a :: k, e => exact .inl ⟨a, k, rfl, e⟩
  | [], e => exact .inr (eq_of_beq e)
  | .none :: _, e | .ellipsis :: _, e | .notImplemented :: _, e | .bool _ :: _, e | .int _ _ :: _, e | .float _ _ :: _, e | .str _ _ :: _, e | .bytes _ _ :: _, e | .type _ :: _, e | .builtin _ :: _, e => exact .inr (eq_of_beq e)
structure Tl (tl : List Value) (B ni ii : String) : Prop where
  base : ExcBaseFacts B ni ii tl
  pass : ∀ self : Value, refuseLoop self "__setattr__" tl = pure ()
  obj : tl.contains (.type "object") = true
  ne : tl ≠ []
theorem tlV : Tl [.type "ValueError", .type "Exception", .type "BaseException", .type "object"] "ValueError" "ValueError.__new__" "ValueError.__init__" := ⟨F.excBase_ValueError, F.store_ValueError.passes, by decide +kernel, by simp⟩
theorem tlA : Tl [.type "ArithmeticError", .type "Exception", .type "BaseException", .type "object"] "ArithmeticError" "ArithmeticError.__new__" "ArithmeticError.__init__" := ⟨F.excBase_ArithmeticError, F.store_ArithmeticError.passes, by decide +kernel, by simp⟩
section
variable {tl : List Value} {B ni ii : String}
theorem refsT_pass (T : Tl tl B ni ii) (self : Value) : ∀ l : List Value, refsT tl l = true → refuseLoop self "__setattr__" l = pure ()
  | [], e => by
    rcases refsT_split [] e with ⟨_, _, q, _⟩ | q
    · cases q
    · exact absurd q.symm T.ne
  | x :: l, e => by
    rcases refsT_split (x :: l) e with ⟨a, k, q, h⟩ | q
    · cases q
      rw [refuseLoop_ref]; exact refsT_pass T self _ h
    · rw [q]; exact T.pass self
theorem refsT_has (T : Tl tl B ni ii) (n : String) : ∀ l : List Value, refsT tl l = true → l.contains (.type n) = tl.contains (.type n)
  | [], e => by
    rcases refsT_split [] e with ⟨_, _, q, _⟩ | q
    · cases q
    · exact absurd q.symm T.ne
  | x :: l, e => by
    rcases refsT_split (x :: l) e with ⟨a, k, q, h⟩ | q
    · cases q
      rw [List.contains_cons, refsT_has T n _ h]; rfl
    · rw [q]
theorem refsT_ne (T : Tl tl B ni ii) {l : List Value} (e : refsT tl l = true) : l.isEmpty = false := by
  cases l with
  | nil =>
    rcases refsT_split [] e with ⟨_, _, q, _⟩ | q
    · cases q
    · exact absurd q.symm T.ne
  | cons _ _ => rfl
open Builtin Builtin.ObjectAttr
variable {prog : Program} {w : World} {A : Around} {E : Value → Shared → Prop} {R : Result → Shared → Prop} {hp : Heap} {gs : Array GenState} {dr : Drawn} {tk0 : Nat} {os : OsState}
theorem put_first (T : Tl tl B ni ii) {K : Frag} {nm : Str} {tk : Tok} {v : Value} {e C : Addr} {fv : Array Value} {cd : ClassData}
    (X : K.In hp) (he : hp.get? e = some { cls := .ref C, data := .fields fv }) (hcd : clsIn K C = some cd) (hm : refsT tl cd.mro = true) (hd : cd.hasDict = true) (hno : findIn K (.ref C) nm = some none)
    (hq : ∀ h' tk' dx, (∀ b o, b ≠ e → hp.get? b = some o → h'.get? b = some o) → hp.objs.size ≤ dx → dx ≠ e → h'.get? e = some { cls := .ref C, dict := some dx, data := .fields fv } →
      h'.Ns1 dx (fun y => if y = nm then some v else none) → R (.ok (.ret .none)) ⟨h', gs, dr, tk', os⟩) :
    codeAny (model prog w) A (.call (.builtin "object.__setattr__") ⟨[.ref e, .str nm tk, v], []⟩) R ⟨hp, gs, dr, tk0, os⟩ := by
  have I : InstAt hp e { cls := .ref C, data := .fields fv } C none := ⟨he, rfl, rfl, trivial⟩
  have S := F.store_object
  have n0 := refsT_ne T hm
  have ob : cd.mro.contains (.type "object") = true := (refsT_has T "object" _ hm).trans T.obj
  have es : e ≠ hp.objs.size := Nat.ne_of_lt (Heap.lt_size he)
  have isO : Looks (model prog w) hp (isInstance (.ref e) (.type "object")) true := I.type.andThen (looks_mroIn X (by unfold mroIn; rw [hcd, Option.bind_some, if_neg (by rw [n0]; decide), ob]))
  refine codeAny_call_builtin S.slot.plain S.entry (@check_slot (model prog w) _ _ ⟨hp, gs, dr, tk0, os⟩ "object.__setattr__" "object" "__setattr__" (.ref e) [.str nm tk, v] [] _ S.kind S.split isO (S.args (.ref e) (.str nm tk) v) ?_)
  have lm : Looks (model prog w) hp (mroOf (.ref C)) cd.mro := (looks_clsIn X hcd).andThen .now
  have ls : Looks (model prog w) hp (storeTaker? none) none := .now
  have lc : Looks (model prog w) hp (classData C) cd := looks_clsIn X hcd
  rw [osa_eq, refuse_eq]
  refine wpAny_bind (wpAny_bind (I.type.at (wpAny_bind (lm.at ?_)))); rw [refsT_pass T _ _ hm]
  refine wpAny_pure (wpAny_bind (I.type.at (wpAny_bind ((looks_findIn X hno).at (wpAny_bind (ls.at ?_))))))
  show wpAny _ _ (storeInOwnDict (.ref e) (.ref C) (.str nm tk) nm v false) _ _ _
  obtain ⟨c1, c2, c3, c4, c5, c6, c7, c8, c9, c10, c11⟩ := cd; dsimp only at hd; subst hd
  unfold storeInOwnDict ownDictForStores
  repeat (first | with_reducible refine store_in_new ?_ ?_ | with_reducible refine wpAny_loadPart_at he ?_ | with_reducible refine lc.at ?_ | wp_step)
  · exact ⟨_, #[], _, (Heap.get?_update_ne _ _ _ _ es.symm).trans (Heap.get?_push_at rfl rfl), rfl, fun z hz => absurd hz (by simp), fun _ => rfl⟩
  · intro h' tk' n' sb
    have e1 : (hp.push { cls := .type "dict", data := .dict #[] }).get? e = some { cls := .ref C, data := .fields fv } := Heap.get?_push_of_some _ he
    refine hq h' tk' hp.objs.size (fun b o hb ho => ?_) (Nat.le_refl _) es.symm ?_ n'
    · exact (sb.2 b (Nat.ne_of_lt (Heap.lt_size ho))).trans ((Heap.get?_update_ne _ _ _ _ hb).trans (Heap.get?_push_of_some _ ho))
    · exact (sb.2 e es).trans (Heap.get?_update_self _ e1 rfl)
end
theorem one_le (v : Value) : [v].length ≤ sizeLine := by
  rw [sizeLine_eq]
  exact (by decide : 1 ≤ 16777216)
theorem ld_loc {M : Model} {s : Shared} {name : Str} {scope : Scope} {L a : Addr} {cd : Value} {m : Str → Option Value} {x : Str} {pos : Pos} {v : Value} {Q : Value → Shared → Prop} {A : Around} {E : Value → Shared → Prop} (hn : s.heap.Ns L m) (hv : m x = some v) (h : Q v s)
    (hk : scope.kind = .function := by rfl) (hl : (envOfC name scope L a cd).kindOf x = some .local := by rfl) (hd : (x == ("__debug__" : Str)) = false := by decide) :
    wpAny M A (eval (.Name x pos) (envOfC name scope L a cd)) Q E s := wpAny_Name (wpAny_loadName_local hk hl hn hv h) hd
structure Made (h h' : Heap) (e C d : Addr) (f : Str) (v : Value) : Prop where
  keep : ∀ b o, h.get? b = some o → h'.get? b = some o
  new : h.objs.size ≤ e
  obj : ∃ oe vs, h'.get? e = some oe ∧ oe.cls = .ref C ∧ oe.dict = some d ∧ oe.data = .fields vs ∧ vs[1]? = some .none ∧ vs[2]? = some .none
  dbig : h.objs.size ≤ d
  dne : d ≠ e
  ns : h'.Ns1 d (fun y => if y = f then some v else none)
end Fw.Ex
namespace Fw
def mRaise (c : Nat) (m : M D) : M Fl := mb m fun d e => .exc c d e
def mRaise0 (c : Nat) : M Fl := fun e => .exc c .non e
end Fw
namespace Fw.Ex
namespace G
open PyProof.Rows PySem PySem.W PySem.Calls PySem.HandSPX
def prm (p1 p2 : Pos) : Arguments := { posonlyargs := [], args := [⟨"self", none, p1⟩, ⟨"given", none, p2⟩], vararg := none, kwonlyargs := [], kw_defaults := [], kwarg := none, defaults := [] }
def bdy (q1 q2 q3 q4 : Pos) : List Stmt := [.Assign [.Attribute (.Name "self" q1) "given" q2] (.Name "given" q3) q4]
def scp : Scope := ⟨.function, [(PySem.Str.ofString "self", .local), (PySem.Str.ofString "given", .local)], false, false, []⟩
structure Txt (tl : List Value) (ni : String) (K : Frag) (C fI : Addr) (qn : Str) : Prop where
  cls : ∃ nm q N bs bm sn sub ab col dd k0 k1 k2 k3 k5, K.lookup C = some (excClassObj nm q C N bs bm true sn sub ab col dd k0 k1 k2 k3 k5 ni) ∧ refsT tl bm = true
  sa : findIn K (.ref C) "__setattr__" = some (some (.builtin "object.__setattr__"))
  no : findIn K (.ref C) "given" = some none
  iC : findIn K (.ref C) "__init__" = some (some (.ref fI))
  tI : typeIn K (.ref fI) = some (.type "function")
  kC : keepIn K (.ref C) = true
  ex : subIn K (.ref C) (.type "BaseException") = some true
  ty : typeIn K (.ref C) = some (.type "type")
  fn : ∃ (fd : FuncData) (p1 p2 q1 q2 q3 q4 : Pos), L2.FunD K "__init__" qn (prm p1 p2) (bdy q1 q2 q3 q4) scp [] [] fI fd
section
variable {tl : List Value} {B ni ii : String} {prog : Program} {w : World} {A : Around} {E : Value → Shared → Prop} {R : Result → Shared → Prop} {s : Shared} {K : Frag} {C fI : Addr} {qn : Str}
theorem init_run (TL : Tl tl B ni ii) (T : Txt tl ni K C fI qn) {e t0 : Addr} {v : Value} (X : K.In s.heap) (hlim : s.heap.NoLimit) (he : s.heap.get? e = some (excO C t0)) (hroom : A.depth < recursionLimit)
    (hq : ∀ h' tk dx, (∀ b o, b ≠ e → s.heap.get? b = some o → h'.get? b = some o) → h'.get? e = some { cls := .ref C, dict := some dx, data := .fields #[.ref t0, .none, .none, .none, .bool false, .none] } → s.heap.objs.size ≤ dx → dx ≠ e →
      h'.Ns1 dx (fun y => if y = "given" then some v else none) → R (.ok (.ret .none)) { s with heap := h', toks := tk }) :
    codeAny (model prog w) A (.call (.ref fI) ⟨[.ref e, v], []⟩) R s := by
  obtain ⟨fd, p1, p2, q1, q2, q3, q4, FD⟩ := T.fn
  obtain ⟨oc, od, dV, kV, doc, pm, an, cdv, ct, osl, rfl, ho, hcd, hD, _⟩ := FD.ex
  have hD : dV = .none := hD.elim (fun z => z.2) fun z => absurd rfl z.1
  subst hD
  obtain ⟨nm, q, N, bs, bm, sn, sub, ab, col, dd, k0, k1, k2, k3, k5, hC, hbm⟩ := T.cls
  have hcl : clsIn K C = some ⟨nm, bs, .ref C :: bm, N, q, true, sn, sub, ab, col, false⟩ := by unfold clsIn; rw [hC] <;> rfl
  refine Att.call_fn (binds := [("self", .ref e), ("given", v)]) X hlim ho hcd hroom (BindsTo.of_eq (by first | rfl | with_unfolding_all rfl)) (by first | rfl | decide | with_unfolding_all rfl) (fun s₁ IC => ?_) rfl rfl rfl
  obtain ⟨h₁, tk₁, rfl⟩ := IC.toInCall.same
  have k : ∀ b o, s.heap.get? b = some o → h₁.get? b = some o := IC.toInCall.keep
  have hn := IC.toInCall.ns
  have X₁ : K.In h₁ := X.keeps k
  have e₁ := k _ _ he
  show wpAny _ _ (execs _ _) _ _ _
  refine wpAny_execs_cons (plainObj_wpAny_Assign_Attribute (ld_loc (v := v) hn (by first | rfl | with_unfolding_all rfl | kernel_rfl) (ld_loc (v := .ref e) hn (by first | rfl | with_unfolding_all rfl | kernel_rfl) ?_)))
  refine set_plain X₁ (ox := excO C t0) (od := none) ⟨e₁, rfl, rfl, trivial⟩ T.sa (put_first TL X₁ e₁ hcl (show refsT tl (.ref C :: bm) = true from hbm) rfl T.no (fun h₃ tk₃ dx k₃ dn dne x₃ n₃ => ?_))
  show wpAny _ _ (execs _ _) _ _ _
  have z : s.heap.objs.size < h₁.objs.size := hn.lt
  exact wpAny_execs_nil (hq h₃ tk₃ dx (fun b o hb q => k₃ b o hb (k b o q)) x₃ (Nat.le_of_lt (Nat.lt_of_lt_of_le z dn)) dne n₃)
theorem made (TL : Tl tl B ni ii) (T : Txt tl ni K C fI qn) {v : Value} (X : K.In s.heap) (hlim : s.heap.NoLimit) (hroom : A.depth + 1 < recursionLimit)
    (hq : ∀ h' tk e d, Made s.heap h' e C d "given" v → R (.ok (.ret (.ref e))) { s with heap := h', toks := tk }) :
    codeAny (model prog w) A (.call (.ref C) ⟨[v], []⟩) R s := by
  obtain ⟨nm, q, N, bs, bm, sn, sub, ab, col, dd, k0, k1, k2, k3, k5, hC, hbm⟩ := T.cls
  obtain ⟨hp, gs, dr, tk, os⟩ := s
  have k : ∀ b o, hp.get? b = some o → ((hp.push (kdv_tup [v])).push (excO C hp.objs.size)).get? b = some o := fun b o q => Heap.get?_push_of_some _ (Heap.get?_push_of_some _ q)
  have ge : ((hp.push (kdv_tup [v])).push (excO C hp.objs.size)).get? (hp.objs.size + 1) = some (excO C hp.objs.size) := by heap_get
  refine call_own TL.base (fun Y => refsT_has TL Y bm hbm) (X _ _ hC) (looks_findIn X T.iC) (fun self => bind_fn X self T.tI) (one_le v) ?_
  refine init_run (s := ⟨(hp.push (kdv_tup [v])).push (excO C hp.objs.size), gs, dr, tk, os⟩) TL T (X.keeps k) (hlim.keeps k) ge ?_ fun h' tk' dx k' hx dn dne hns => ?_
  · show A.depth + 1 < recursionLimit
    exact hroom
  · have old : ∀ b o, hp.get? b = some o → h'.get? b = some o := fun b o q => k' b o (Nat.ne_of_lt (Nat.lt_succ_of_lt (Heap.lt_size q))) (k b o q)
    have z : hp.objs.size + 1 + 1 ≤ dx := by
      first
        | (simpa only [Heap.size_push] using dn)
        | exact dn
        | (have q := dn; rw [Heap.size_push, Heap.size_push] at q; exact q)
    exact ⟨rfl, hq h' tk' (hp.objs.size + 1) dx ⟨old, Nat.le_succ _, ⟨_, _, hx, rfl, rfl, rfl, rfl, rfl⟩, Nat.le_trans (Nat.le_trans (Nat.le_succ _) (Nat.le_succ _)) z, dne, hns⟩⟩
end
end G
end Fw.Ex
namespace Fw
open L2 PyProof.Rows PySem PySem.Spec
theorem relO_given {v : V} {v' : Value} (r : RelV v v') (f : Str) : RelO (List.lookup f [(("given" : Str), v)]) (if f = "given" then some v' else none) := by
  by_cases hw : f = "given"
  · subst hw
    rw [if_pos rfl, show List.lookup ("given" : Str) [(("given" : Str), v)] = some v by simp [List.lookup]]
    exact r
  · have qw : (f == ("given" : Str)) = false := by simpa using hw
    rw [if_neg hw, show List.lookup f [(("given" : Str), v)] = none by simp [List.lookup, qw]]
    trivial
section
variable {X : Cx} {C fI : Addr} {tl : List Value} {B ni ii : String} {qn : Str}
def tMk_given (C : Addr) (ta : TA) : L2.St → Hp → XK → Prop := fun σ H Q => ta σ H fun vs H1 => ∃ v, vs = [v] ∧ ∀ d, H1 d = none → Q (.ref C) (some d) (upd H1 d (.xd [(("given" : Str), v)]))
theorem pmk_given {x : Str} {a : Expr} {ta : TA} {p pos : Pos} {k : Nat} (TL : Ex.Tl tl B ni ii) (T : Ex.G.Txt tl ni X.K C fI qn) (gC : X.mg x = some (.ref C)) (hr : Room k X.A) (ha : PA X [a] ta) (hg : Gl X x) (hdb : (x == ("__debug__" : Str)) = false)
    (he : starEach (a :: []) X.env = (false, eval a X.env) :: starEach [] X.env := by rfl) (hpl : (backTo pos (starEach [] X.env)).any (·.1) = false := by rfl) :
    L2N.PMk X (.Call (.Name x p) [a] [] pos) (tMk_given C ta) := by
  intro pins s σ H Q I h
  refine wpAny_Call_Name_kw (ld_glob I hg gC ?_ hdb)
  refine PySem.W.callWith_K (h₀ := X.base) I.ok.mod.kin T.kC (thn (ha.run pos pins s σ H _ I h) fun us s1 hh => ?_) he hpl
  obtain ⟨vs, H1, I1, r1, v, rfl, q1⟩ := hh
  refine ⟨I1.kIn, ?_⟩
  cases r1 with
  | cons rv rn =>
    rename_i v' us'
    cases rn
    have hlim := I1.nolimit
    obtain ⟨hp, gs, dr, tk, os⟩ := s1
    show wpAny _ _ (call (.ref C) [v']) _ _ _
    refine wpAny_call (Ex.G.made TL T I1.kIn hlim (by have := hr.dp; omega) fun h' tk' e d M => ?_)
    show L2N.MkP X pins σ Q (.ref e) ⟨h', gs, dr, tk', os⟩
    obtain ⟨oe, fv, hoe, hc, hd, hdat, h1, h2⟩ := M.obj
    have hns := M.ns
    obtain ⟨G', g1, g2⟩ := restrict h' fun b => decide (b ≠ e)
    have gk : ∀ b, b ≠ e → G'.get? b = h'.get? b := fun b hb => g1 b (decide_eq_true hb)
    have ge : G'.get? e = none := g2 e (by simp)
    have old : ∀ b o, hp.get? b = some o → G'.get? b = some o := fun b o q => (gk b (Nat.ne_of_lt (Nat.lt_of_lt_of_le (Heap.lt_size q) M.new))).trans (M.keep b o q)
    have ob : ObjOk X.prog X.w (upd H1 d (.xd [(("given" : Str), v)])) G' d (.xd [(("given" : Str), v)]) := ⟨_, hns.at (fun o q => (gk d M.dne).trans q), fun f => relO_given rv f⟩
    have J : Inv X pins σ (upd H1 d (.xd [(("given" : Str), v)])) ⟨G', gs, dr, tk', os⟩ := I1.laid (t' := tk') old M.dbig ob
    refine ⟨e, oe, fv, ⟨G', gs, dr, tk', os⟩, _, .ref C, some d, rfl, J, fun b o q => ?_, ge, hoe, ⟨hc, hd, fun vs e => by rw [hdat] at e; cases e; exact h2⟩, hdat, h1, ?_, rfl, I1.bare, raises_own T.ex T.ty, q1 d (I1.hok.fresh M.dbig)⟩
    · by_cases hb : b = e
      · have q' : G'.get? b = some o := q
        rw [hb, ge] at q'; cases q'
      · exact (gk b hb).symm.trans q
    · rw [upd_ne (Ne.symm M.dne)]; exact I1.hok.fresh M.new
end
structure Err_given (g : GC) (mg : Str → Option Value) (c : Nat) (x : Str) : Prop where
  glo : mg x = some (.ref (g.ca c))
  fld : g.cf c = [("given" : Str)]
  ex : ∃ tl B ni ii fI qn, Ex.Tl tl B ni ii ∧ Ex.G.Txt tl ni g.K (g.ca c) fI qn
section
variable {g : GC} {X : Cx} {W : WK}
theorem cs_raise_given {c : Nat} {x : Str} {a : Expr} {m : M D} {p pos pos2 : Pos} {k : Nat} (T : Err_given g X.mg c x) (hK : X.K = g.K) (hc : X.calm = true) (hr : Room k X.A) (tk : L2N.Takes X W) (ha : CE g X W a m) (hg : Gl X x) (hdb : (x == ("__debug__" : Str)) = false)
    (he : starEach (a :: []) X.env = (false, eval a X.env) :: starEach [] X.env := by rfl) (hpl : (backTo pos (starEach [] X.env)).any (·.1) = false := by rfl) :
    CS g X W (.Raise (some (.Call (.Name x p) [a] [] pos)) none pos2) (mRaise c m) := by
  obtain ⟨tl, B, ni, ii, fI, qn, TL, TX⟩ := T.ex
  rw [← hK] at TX
  refine PS.imp (L2N.ps_raise hc tk (pmk_given TL TX T.glo hr (pa_cons ha pa_nil he) hg hdb he hpl)) fun D σ H ⟨f, A, e, F, h⟩ => ?_
  refine FinS.bE h F fun d e1 v H1 F1 S1 r h1 => ?_
  refine ⟨v, rfl, fun dd hd => ?_⟩
  have sm := Same.new (o := .xd [(("given" : Str), v)]) hd
  exact h1 A σ (.ref (g.ca c)) (some dd) _ (F1.same sm) (F1.mono (.of sm)) ⟨rfl, by rw [T.fld]; exact ⟨dd, v, rfl, upd_same, R.mono (Mono.same F1.al sm) d r⟩⟩
end
end Fw
namespace Fw
open L2 PyProof.Rows PySem PySem.Spec
abbrev GC.wx (g : GC) (x : Addr × Nat × Option Addr) : GC := { g with ex := some x }
mutual
def noX : D → Bool
  | .tup ds => noXL ds
  | .lst ds => noXL ds
  | .obj _ ds => noXL ds
  | .dct _ ds => noXL ds
  | .dtt _ ds => noXL ds
  | .exn _ _ => false
  | .non => true
  | .bl _ => true
  | .int _ => true
  | .str _ => true
  | .ty _ => true
  | .scr _ => true
  | .mrk => true
  | .ktu _ => true
def noXL : List D → Bool
  | [] => true
  | d :: ds => noX d && noXL ds
end
section
variable {g : GC} {x : Addr × Nat × Option Addr} {A : Addr → Prop} {H : Hp}
mutual
theorem R.inX (hx : g.ex = none) : ∀ (d : D) {v : V}, R g A H d v → R (g.wx x) A H d v
  | .non, _, e => e
  | .bl _, _, e => e
  | .int _, _, e => e
  | .str _, _, e => e
  | .ty _, _, e => e
  | .tup ds, _, ⟨a, xs, e, h1, r⟩ => ⟨a, xs, e, h1, RL.inX hx ds r⟩
  | .lst ds, _, ⟨a, xs, e, h1, n, r⟩ => ⟨a, xs, e, h1, n, RL.inX hx ds r⟩
  | .obj c ds, _, ⟨a, dx, xs, e, h1, n, hl, r⟩ => ⟨a, dx, xs, e, h1, n, hl, RL.inX hx ds r⟩
  | .scr _, _, ⟨a, e, h1⟩ => ⟨a, e, h1⟩
  | .mrk, _, e => e
  | .ktu _, _, ⟨a, e, h1⟩ => ⟨a, e, h1⟩
  | .dct ks ds, _, ⟨a, o, xs, e, h1, hl, r⟩ => ⟨a, o, xs, e, h1, hl, RL.inX hx ds r⟩
  | .dtt ks ds, _, ⟨a, o, xs, e, h1, hl, r⟩ => ⟨a, o, xs, e, h1, hl, RL.inX hx ds r⟩
  | .exn c ds, _, ⟨a, od, e, h0, h⟩ => by rw [hx] at h0; cases h0
theorem RL.inX (hx : g.ex = none) : ∀ (ds : List D) {xs : List V}, RL g A H ds xs → RL (g.wx x) A H ds xs
  | [], _, e => e
  | d :: ds, _, ⟨y, ys, e, r, t⟩ => ⟨y, ys, e, R.inX hx d r, RL.inX hx ds t⟩
end
theorem an {a b : Bool} (h : (a && b) = true) : a = true ∧ b = true := Bool.and_eq_true_iff.mp h
mutual
theorem R.outX : ∀ (d : D) {v : V}, noX d = true → R (g.wx x) A H d v → R g A H d v
  | .non, _, _, e => e
  | .bl _, _, _, e => e
  | .int _, _, _, e => e
  | .str _, _, _, e => e
  | .ty _, _, _, e => e
  | .tup ds, _, z, ⟨a, xs, e, h1, r⟩ => ⟨a, xs, e, h1, RL.outX ds (by rw [noX] at z; exact z) r⟩
  | .lst ds, _, z, ⟨a, xs, e, h1, n, r⟩ => ⟨a, xs, e, h1, n, RL.outX ds (by rw [noX] at z; exact z) r⟩
  | .obj c ds, _, z, ⟨a, dx, xs, e, h1, n, hl, r⟩ => ⟨a, dx, xs, e, h1, n, hl, RL.outX ds (by rw [noX] at z; exact z) r⟩
  | .scr _, _, _, ⟨a, e, h1⟩ => ⟨a, e, h1⟩
  | .mrk, _, _, e => e
  | .ktu _, _, _, ⟨a, e, h1⟩ => ⟨a, e, h1⟩
  | .dct ks ds, _, z, ⟨a, o, xs, e, h1, hl, r⟩ => ⟨a, o, xs, e, h1, hl, RL.outX ds (by rw [noX] at z; exact z) r⟩
  | .dtt ks ds, _, z, ⟨a, o, xs, e, h1, hl, r⟩ => ⟨a, o, xs, e, h1, hl, RL.outX ds (by rw [noX] at z; exact z) r⟩
  | .exn c ds, _, z, _ => by rw [noX] at z; cases z
theorem RL.outX : ∀ (ds : List D) {xs : List V}, noXL ds = true → RL (g.wx x) A H ds xs → RL g A H ds xs
  | [], _, _, e => e
  | d :: ds, _, z, ⟨y, ys, e, r, t⟩ => by
    rw [noXL] at z
    exact ⟨y, ys, e, R.outX d (an z).1 r, RL.outX ds (an z).2 t⟩
end
theorem Bx.inX (hx : g.ex = none) {p : Addr} : ∀ {d : D}, Bx g A H d p → Bx (g.wx x) A H d p
  | .lst ds, ⟨xs, h, r⟩ => ⟨xs, h, RL.inX hx ds r⟩
  | .dct ks ds, ⟨xs, h, hl, r⟩ => ⟨xs, h, hl, RL.inX hx ds r⟩
  | .dtt ks ds, ⟨xs, h, hl, r⟩ => ⟨xs, h, hl, RL.inX hx ds r⟩
  | .obj c ds, ⟨dx, xs, h, hl, r⟩ => ⟨dx, xs, h, hl, RL.inX hx ds r⟩
theorem Bx.outX {p : Addr} : ∀ {d : D}, noX d = true → Bx (g.wx x) A H d p → Bx g A H d p
  | .lst ds, z, ⟨xs, h, r⟩ => ⟨xs, h, RL.outX ds (by rw [noX] at z; exact z) r⟩
  | .dct ks ds, z, ⟨xs, h, hl, r⟩ => ⟨xs, h, hl, RL.outX ds (by rw [noX] at z; exact z) r⟩
  | .dtt ks ds, z, ⟨xs, h, hl, r⟩ => ⟨xs, h, hl, RL.outX ds (by rw [noX] at z; exact z) r⟩
  | .obj c ds, z, ⟨dx, xs, h, hl, r⟩ => ⟨dx, xs, h, hl, RL.outX ds (by rw [noX] at z; exact z) r⟩
def Sl.noX : Sl → Bool
  | .emp => true
  | .val d => Fw.noX d
  | .box d => Fw.noX d
  | .pbox d => Fw.noX d
def forget : Sl → Sl
  | .val _ => .emp
  | s => s
variable {f : Fx} {σ : Sv} {e : Ev}
theorem FR.inX (hx : g.ex = none) (F : FR g f A H σ e) : FR (g.wx x) f A H σ e := ⟨F.len, fun i s o h1 h2 => by
    have q := F.sl i s o h1 h2
    cases s with
    | emp => exact q
    | val d => obtain ⟨a, v, b, c⟩ := q; exact ⟨a, v, b, R.inX hx d c⟩
    | box d => obtain ⟨a, p, b, c, c0, dd⟩ := q; exact ⟨a, p, b, c, c0, Bx.inX hx dd⟩
    | pbox d => obtain ⟨p, a, b, c, dd⟩ := q; exact ⟨p, a, b, c, Bx.inX hx dd⟩, F.inj, F.nt, F.tp, F.ob, F.ob0, F.pb, F.al, F.keep, F.tb, F.iv⟩
theorem FR.outX (F : FR (g.wx x) f A H σ e) (z : e.all Sl.noX = true) : FR g f A H σ e := ⟨F.len, fun i s o h1 h2 => by
    have q := F.sl i s o h1 h2
    have w := List.all_eq_true.mp z s (List.mem_of_getElem? h1)
    cases s with
    | emp => exact q
    | val d => obtain ⟨a, v, b, c⟩ := q; exact ⟨a, v, b, R.outX d w c⟩
    | box d => obtain ⟨a, p, b, c, c0, dd⟩ := q; exact ⟨a, p, b, c, c0, Bx.outX w dd⟩
    | pbox d => obtain ⟨p, a, b, c, dd⟩ := q; exact ⟨p, a, b, c, Bx.outX w dd⟩, F.inj, F.nt, F.tp, F.ob, F.ob0, F.pb, F.al, F.keep, F.tb, F.iv⟩
theorem map_at {i : Nat} {s : Sl} (h : (e.map forget)[i]? = some s) : ∃ t, e[i]? = some t ∧ s = forget t := by
  rw [List.getElem?_map] at h
  cases q : e[i]? with
  | none => rw [q] at h; cases h
  | some t => rw [q] at h; exact ⟨t, rfl, (Option.some.inj h).symm⟩
theorem fbox {t : Sl} (h : (forget t).isBox = true) : t.isBox = true ∧ forget t = t := by
  cases t with
  | emp => cases h
  | val d => cases h
  | box d => exact ⟨rfl, rfl⟩
  | pbox d => exact ⟨rfl, rfl⟩
theorem FR.forget (F : FR g f A H σ e) : FR g f A H σ (e.map Fw.forget) := ⟨by rw [List.length_map]; exact F.len, fun i s o h1 h2 => by
    obtain ⟨t, h3, rfl⟩ := map_at h1
    have q := F.sl i t o h3 h2
    cases t with
    | emp => exact q
    | val d => exact q.1
    | box d => exact q
    | pbox d => exact q, fun i j s t p h1 h2 b1 b2 s1 s2 => by
      obtain ⟨s', h3, rfl⟩ := map_at h1
      obtain ⟨t', h4, rfl⟩ := map_at h2
      exact F.inj i j s' t' p h3 h4 (fbox b1).1 (fbox b2).1 s1 s2, fun i s p h1 b1 s1 => by
      obtain ⟨s', h3, rfl⟩ := map_at h1
      exact F.nt i s' p h3 (fbox b1).1 s1, F.tp, F.ob, F.ob0, fun i p h => by rw [List.length_map]; exact F.pb i p h, F.al, F.keep, F.tb, F.iv⟩
theorem FR.clr (F : FR g f A H σ e) {i : Nat} (h : f.pa i = none) : FR g f A H (σ.set i none) (e.set i .emp) := ⟨by rw [List.length_set, List.length_set]; exact F.len, fun j s o h1 h2 => by
    rcases get_set h1 with ⟨rfl, _, rfl⟩ | ⟨n, h1⟩
    · exact h
    · rw [List.getElem?_set_ne n] at h2
      exact F.sl j s o h1 h2, fun a b s t p h1 h2 b1 b2 s1 s2 => by
    rcases get_set h1 with ⟨_, _, rfl⟩ | ⟨n1, h1⟩
    · cases b1
    · rcases get_set h2 with ⟨_, _, rfl⟩ | ⟨n2, h2⟩
      · cases b2
      · rw [List.getElem?_set_ne n1] at s1; rw [List.getElem?_set_ne n2] at s2
        exact F.inj a b s t p h1 h2 b1 b2 s1 s2, fun a s p h1 b1 s1 => by
    rcases get_set h1 with ⟨_, _, rfl⟩ | ⟨n1, h1⟩
    · cases b1
    · rw [List.getElem?_set_ne n1] at s1
      exact F.nt a s p h1 b1 s1, F.tp, F.ob, F.ob0, fun i p q => by rw [List.length_set]; exact F.pb i p q, F.al, F.keep, F.tb, F.iv⟩
def endX (i : Nat) : Rs Fl → Rs Fl
  | .ok (.rt d) e => if Fw.noX d = true ∧ ((e.set i .emp).map Fw.forget).all Sl.noX = true then .ok (.rt d) ((e.set i .emp).map Fw.forget) else .bad
  | .ok (.rb ds) e => if noXL ds = true ∧ ((e.set i .emp).map Fw.forget).all Sl.noX = true then .ok (.rb ds) ((e.set i .emp).map Fw.forget) else .bad
  | .ok .nx e => if (e.set i .emp).all Sl.noX = true then .ok .nx (e.set i .emp) else .bad
  | .ok .bk e => if (e.set i .emp).all Sl.noX = true then .ok .bk (e.set i .emp) else .bad
  | .ok .ct e => if (e.set i .emp).all Sl.noX = true then .ok .ct (e.set i .emp) else .bad
  | _ => .bad
abbrev endsX (i : Nat) (D : Ends) : Ends := { nx := fun σ' H' => D.nx (σ'.set i none) H', rt := D.rt, bk := fun σ' H' => D.bk (σ'.set i none) H', ct := fun σ' H' => D.ct (σ'.set i none) H' }
theorem fin_suite {W : WK} {D : Ends} {i : Nat} {r : Rs Fl} (hpa : f.pa i = none) (h : FinS g W f A H D (endX i r)) : FinS (g.wx x) W0 f A H (endsX i D) r := by
  cases r with
  | exc c d e => exact h.elim
  | bad => exact h.elim
  | ok fl e =>
    cases fl with
    | nx =>
      by_cases z : (e.set i .emp).all Sl.noX = true
      · simp only [endX, if_pos z] at h; exact fun A' σ' H' F m => h A' _ H' ((F.clr hpa).outX z) m
      · simp only [endX, if_neg z] at h; exact h.elim
    | bk =>
      by_cases z : (e.set i .emp).all Sl.noX = true
      · simp only [endX, if_pos z] at h; exact fun A' σ' H' F m => h A' _ H' ((F.clr hpa).outX z) m
      · simp only [endX, if_neg z] at h; exact h.elim
    | ct =>
      by_cases z : (e.set i .emp).all Sl.noX = true
      · simp only [endX, if_pos z] at h; exact fun A' σ' H' F m => h A' _ H' ((F.clr hpa).outX z) m
      · simp only [endX, if_neg z] at h; exact h.elim
    | rt d =>
      by_cases z : Fw.noX d = true ∧ ((e.set i .emp).map Fw.forget).all Sl.noX = true
      · simp only [endX, if_pos z] at h; exact fun A' σ' H' v F m q => h A' _ H' v ((F.clr hpa).forget.outX z.2) m (R.outX d z.1 q)
      · simp only [endX, if_neg z] at h; exact h.elim
    | rb ds =>
      by_cases z : noXL ds = true ∧ ((e.set i .emp).map Fw.forget).all Sl.noX = true
      · simp only [endX, if_pos z] at h
        refine fun A' σ' H' p xs F m a b c d q => h A' _ H' p xs ((F.clr hpa).forget.outX z.2) m a b (fun j s h1 b1 s1 => ?_) d (RL.outX ds z.1 q)
        obtain ⟨t, h3, rfl⟩ := map_at h1
        obtain ⟨b2, e2⟩ := fbox b1
        rcases get_set h3 with ⟨_, _, rfl⟩ | ⟨n, h4⟩
        · cases b2
        · rw [List.getElem?_set_ne n] at s1
          exact c j t h4 b2 s1
      · simp only [endX, if_neg z] at h; exact h.elim
end
section
variable {g : GC} {X : Cx} {W : WK}
end
end Fw
namespace Fw.Ex
open PySem PySem.Spec PySem.Calls PyProof.Rows PySem.W
structure Isi (K : Frag) (D : Addr) : Prop where
  hg : findIn K (.ref D) "__getattribute__" = some (some (.builtin "BaseException.__getattribute__"))
  hk : findIn K (.ref D) "__getattr__" = some none
  hs : subIn K (.ref D) (.type "BaseException") = some true
  hd : hasDictIn K D = true
  ha : findIn K (.ref D) "__class__" = some (some (.builtin "object.__class__"))
  hn : specialIn K (.builtin "object.__class__") "__get__" = some (some (.builtin "getset_descriptor.__get__"))
  ht : takesIn K (.builtin "object.__class__") = some true
  hm : mroIn K D (.type "object") = some true
theorem isiB_ok {K : Frag} {D : Addr} (h : isiB K D = true) : Isi K D := by
  simp only [isiB, Bool.and_eq_true, decide_eq_true_eq] at h
  obtain ⟨h1, h2, h3, h4, h5, h6, h7, h8⟩ := h
  exact ⟨He.eqO_ok h1, He.eqO_ok h2, h3, h4, He.eqO_ok h5, He.eqO_ok h6, h7, h8⟩
section
variable {prog : Program} {w : World} {A : Around} {E : Value → Shared → Prop} {s : Shared} {K : Frag} {e D : Addr} {oe : Obj} {od : Option Obj}
theorem asks {Q : Option Value → Shared → Prop} (C : Isi K D) (X : K.In s.heap) (I : InstAt s.heap e oe D od) (h : Q (some (.ref D)) { s with toks := s.toks + 1 }) : wpAny (model prog w) A (getAttr? (.ref e) "__class__") Q E s := by
  have fo : findObj K D od "__class__" = some (.bind (.builtin "getset_descriptor.__get__") (.builtin "object.__class__")) := by
    obtain ⟨cd, hc, _⟩ := any_some C.hd
    unfold findObj
    rw [hc, Option.bind_some, C.ha, Option.bind_some]
    simp [C.hn, C.ht]
  obtain ⟨hp, gs, dr, tk, os⟩ := s
  have l0 := I.type (M := model prog w)
  have l1 := looks_findIn (M := model prog w) X C.hg
  have l2 := looks_findIn (M := model prog w) X C.hk
  have l3 := looks_find (M := model prog w) X I fo
  have lb : Looks (model prog w) hp (isInstance (.ref e) (.type "BaseException")) true := l0.andThen (looks_subIn X C.hs)
  have n2 : (Value.builtin "BaseException.__getattribute__" == Value.builtin "object.__getattribute__") = false := by decide +kernel
  unfold getAttr? getAttrBy? getAttrBy
  refine wpAny_bind (wpAny_mkText (wpAny_bind (wpAny_attempt (wpAny_holding (wpAny_bind (l0.at (wpAny_bind (l1.at ?_))))))))
  show wpAny _ _ (if (onTheHeap (Value.ref D) && (Value.builtin "BaseException.__getattribute__" == Value.builtin "object.__getattribute__")) = true then _ else _) _ _ _
  rw [n2, Bool.and_false, if_neg Bool.false_ne_true]
  unfold getAttrByItsOwn hookBefore
  refine wpAny_bind ?_; rw [if_pos (show onTheHeap (Value.ref D) = true from rfl)]
  refine l2.at (wpAny_bind (wpAny_attempt (wpAny_holding ?_)))
  unfold callGetattribute; rw [Bool.false_and, if_neg Bool.false_ne_true]
  unfold boundAndCalled; rw [PySem.F.excAttr_ValueError.ga.bind (.ref e)]
  refine wpAny_bind (wpAny_pure ?_)
  show wpAny _ _ (call (.builtin "BaseException.__getattribute__") [.ref e, .str "__class__" tk]) _ _ _
  refine wpAny_call (codeAny_call_builtin PySem.F.excAttr_ValueError.ga.plain PySem.F.entry_bexc_ga (@check_slot (model prog w) _ _ ⟨hp, gs, dr, tk + 1, os⟩ "BaseException.__getattribute__" "BaseException" "__getattribute__" (.ref e) [.str "__class__" tk] [] _ (by decide +kernel) (by decide +kernel) lb (PySem.F.args_bexc_ga (.ref e) (.str "__class__" tk)) ?_))
  unfold Builtin.«object.__getattribute__»
  refine wpAny_bind (wpAny_of_eq (a := ((Value.ref e : Value), [Value.str "__class__" tk])) (by first | rfl | (simp only [slotArgs]; rfl)) (wpAny_bind (wpAny_pure (wpAny_bind (l0.at (wpAny_bind (l3.at ?_)))))))
  show wpAny _ _ (holding [Value.builtin "object.__class__"] (call (.builtin "getset_descriptor.__get__") [.builtin "object.__class__", .ref e, .ref D]) >>= ret) _ _ _
  refine wpAny_bind (wpAny_holding (wpAny_call (class_get (s := ⟨hp, gs, dr, tk + 1, os⟩) (ox := oe) (od := od) X I C.hm (wpAny_pure ?_))))
  show wpAny _ _ (handedOut (.ref D)) _ _ _
  rw [handedOut_of (v := .ref D) rfl]
  first
    | exact wpAny_pure (wpAny_pure h)
    | exact wpAny_pure h
    | exact wpAny_pure (wpAny_bind (wpAny_pure (wpAny_pure h)))
theorem kitE (C : Isi K D) : KitX K (.ref e) (.ref D) (fun h => ∃ od, InstAt h e oe D od) where
  ty := fun _ _ _ ⟨_, I⟩ => I.type
  it := fun _ _ X _ => by
    obtain ⟨cd, hc, _⟩ := any_some C.hd
    unfold clsIn at hc
    split at hc
    · rename_i ho
      intro A' Q' E' s' k q
      unfold isType loadHead
      exact wpAny_bind (wpAny_loadPart (k _ _ (X _ _ ho)) (wpAny_pure q))
    · cases hc
  ne := fun h tp dd its n sl X htp => by
    obtain ⟨cd, hc, _⟩ := any_some C.hd
    refine Bool.eq_false_iff.mpr fun q => ?_
    obtain rfl : D = tp := Value.ref.inj (beq_iff_eq.mp q)
    unfold clsIn at hc
    split at hc
    · rename_i ho
      cases (X _ _ ho).symm.trans htp
    · cases hc
  ca := fun X ⟨_, I⟩ k => asks C X I k
end
end Fw.Ex
namespace Fw
open L2 PyProof.Rows PySem PySem.Spec
section
variable {g : GC} {X : Cx} {W : WK}
def dFld (pf : Nat → Bool) : D → Option D
  | .exn c [d] => if pf c = true then some d else none
  | _ => none
def mXf (pf : Nat → Bool) (m : M D) : M D := mb m fun d => mo (dFld pf d)
theorem c_xf {pf : Nat → Bool} {a : Addr} {oe : Obj} {c : Nat} {d : Option Addr} {pn : List (Addr × Obj)} {e : Expr} {m : M D} {n : Str} {pos : Pos} (T : ∀ c, pf c = true → g.cf c = [n] ∧ XfC X.K (g.ca c) ∧ PySem.W.findIn X.K (.ref (g.ca c)) n = some none)
    (hz : L2N.Zn (.ref (g.ca c)) d oe) (hf : ∃ vs, oe.data = .fields vs) (he : CE (g.wx (a, c, d)) (X.suite a ((a, oe) :: pn)) W0 e m) (hb : attributeBase e n X.env (eval e X.env) = eval e X.env := by rfl) :
    CE (g.wx (a, c, d)) (X.suite a ((a, oe) :: pn)) W0 (.Attribute e n pos) (mXf pf m) := by
  cases hp : pf c with
  | true =>
    obtain ⟨hn, T1, T2⟩ := T c hp
    refine PE.imp (pe_xf T1 T2 hz.zc hf he hb) fun σ H Q ⟨f, A, e, F, h⟩ => ?_
    refine Fin.bE h F fun d1 e1 v H1 F1 S1 r h1 => ?_
    obtain ⟨d2, q, h2⟩ := Fin.mo h1
    cases d1 with
    | exn c' ds =>
      obtain ⟨a', od, rfl, h0, h⟩ := r
      have h0 : some (a, c, d) = some (a', c', od) := h0
      cases h0
      match ds, q, h with
      | [d3], q, .inl ⟨_, z, _⟩ => cases z
      | [d3], q, .inr ⟨p, xs, ep, h3, h4, y, ys, exs, r, ey⟩ =>
        have q : (if pf c = true then some d3 else none) = some d2 := q
        rw [if_pos hp] at q
        cases q
        have ey : ys = [] := ey
        subst ey; subst exs
        have hc : (g.wx (a, c, d)).cf c = [n] := hn
        rw [hc] at h3
        exact ⟨rfl, rfl, p, _, y, ep, h3, by simp [List.lookup], h2 y H1 F1 S1 r⟩
    | _ => cases q
  | false =>
    have base : PE (X.suite a ((a, oe) :: pn)) (.Attribute e n pos) (fun σ H _ => rdE (g.wx (a, c, d)) W0 m σ H fun _ _ => False) := ⟨fun pins s σ H Q I h =>
      attr_of hb (thn (he.run pins s σ H _ I h) fun u s1 ⟨_, _, _, _, z⟩ => z.elim)⟩
    refine PE.imp base fun σ H Q ⟨f, A, e, F, h⟩ => ?_
    refine Fin.bE h F fun d1 e1 v H1 F1 S1 r h1 => ?_
    obtain ⟨d2, q, h2⟩ := Fin.mo h1
    cases d1 with
    | exn c' ds =>
      obtain ⟨a', od, rfl, h0, _⟩ := r
      have h0 : some (a, c, d) = some (a', c', od) := h0
      cases h0
      match ds, q with
      | [d3], q =>
        have q : (if pf c = true then some d3 else none) = some d2 := q
        rw [if_neg (by rw [hp]; decide)] at q
        cases q
    | _ => cases q
def dIsE (is : Nat → Option Bool) : D → Option D
  | .exn c _ => (is c).map D.bl
  | _ => none
def mIsE (is : Nat → Option Bool) (m : M D) : M D := mb m fun d => mo (dIsE is d)
def rIsX (K : PySem.W.Frag) (D a : Addr) (d : Option Addr) : List V → Hp → VK → Prop := fun xs H Q => ∃ (c : V) (cv : Value) (b : Bool), xs = [.ref a, c] ∧ (d = none ∨ ∃ dd fs, d = some dd ∧ H dd = some (.xd fs)) ∧ (∀ u, RelV c u → u = cv) ∧ PySem.W.kitOne K (.ref D) cv = some b ∧ Q (.bl b) H
theorem call_isX {a D : Addr} {oe : Obj} {d : Option Addr} {pn : List (Addr × Obj)} (C : Ex.Isi X.K D) (hz : L2N.Zn (.ref D) d oe) (hf : ∃ vs, oe.data = .fields vs) : CallR (X.suite a ((a, oe) :: pn)) (.builtin "isinstance") (rIsX X.K D a d) := by
  have hz := hz.zc
  intro pins s σ H xs us Q I r h
  obtain ⟨c, cv, b, rfl, hd, hcv, e, q⟩ := h
  cases r with
  | cons rx rr =>
    cases rr with
    | cons rt rr =>
      cases rr
      cases rx
      obtain rfl := hcv _ rt
      obtain ⟨hget, _⟩ := I.pin (a, oe) (List.mem_append.mpr (.inl List.mem_cons_self))
      obtain ⟨vs, hv⟩ := hf
      have J : ∃ od, PySem.W.InstAt s.heap a oe D od := by
        rcases hd with rfl | ⟨dd, fs, rfl, hdd⟩
        · obtain ⟨oc, od, oda, osl⟩ := oe
          obtain ⟨h1, h2⟩ := hz
          dsimp only at h1 h2 hv
          subst h1; subst h2; subst hv
          exact ⟨none, hget, rfl, rfl, trivial⟩
        · have hx : ObjOk X.prog X.w H s.heap dd (.xd fs) := I.hok dd _ hdd
          obtain ⟨mA, hns, _⟩ := hx
          obtain ⟨od, ho, _⟩ := lookIn_ns hns
          exact ⟨some od, hget, hz.1, by unfold PySem.W.notCls; rw [hv] <;> rfl, by rw [hz.2]; exact ho⟩
      exact PySem.W.kia_one (Ex.kitE C) I.kIn J e (fun z => nomatch z) fun tk => ⟨.bl b, H, I.kept (t' := tk) fun _ _ z => z, rfl, q⟩
theorem c_isE {is : Nat → Option Bool} {a : Addr} {oe : Obj} {c : Nat} {d : Option Addr} {pn : List (Addr × Obj)} {e y : Expr} {m : M D} {c0 : V} {cv : Value} {p pos : Pos} (T : ∀ c b, is c = some b → Ex.Isi X.K (g.ca c) ∧ PySem.W.kitOne X.K (.ref (g.ca c)) cv = some b) (hcv : ∀ u, RelV c0 u → u = cv)
    (hz : L2N.Zn (.ref (g.ca c)) d oe) (hf : ∃ vs, oe.data = .fields vs) (hg : Gl (X.suite a ((a, oe) :: pn)) "isinstance") (hm : (X.suite a ((a, oe) :: pn)).mg "isinstance" = none) (he : CE (g.wx (a, c, d)) (X.suite a ((a, oe) :: pn)) W0 e m) (hy : PE (X.suite a ((a, oe) :: pn)) y (tC c0))
    (hs : starEach [e, y] X.env = (false, eval e X.env) :: starEach [y] X.env := by rfl) (hs2 : starEach [y] X.env = (false, eval y X.env) :: starEach [] X.env := by rfl) (hpl : (backTo pos (starEach [y] X.env)).any (·.1) = false := by rfl) :
    CE (g.wx (a, c, d)) (X.suite a ((a, oe) :: pn)) W0 (.Call (.Name "isinstance" p) [e, y] [] pos) (mIsE is m) := by
  have PAs : PA (X.suite a ((a, oe) :: pn)) [e, y] (tCons (rdE (g.wx (a, c, d)) W0 m) (tCons (tC c0) tNil)) := pa_cons he (pa_cons hy pa_nil hs2) hs
  have inv : ∀ {f : Fx} {A : Addr → Prop} {H1 : Hp} {d1 d2 : D} {v : V}, R (g.wx (a, c, d)) A H1 d1 v → dIsE is d1 = some d2 → v = .ref a ∧ (∃ b, is c = some b ∧ d2 = .bl b) ∧ (d = none ∨ ∃ dd fs, d = some dd ∧ H1 dd = some (.xd fs)) := fun {f A H1 d1 d2 v} r q => by
    cases d1 with
    | exn c' ds =>
      obtain ⟨a', od, rfl, h0, h⟩ := r
      have h0 : some (a, c, d) = some (a', c', od) := h0
      cases h0
      obtain ⟨b, q1, q2⟩ := map_some q
      refine ⟨rfl, ⟨b, q1, q2⟩, ?_⟩
      rcases h with ⟨h, _⟩ | ⟨dd, xs, h1, h2, _⟩
      · exact .inl h
      · exact .inr ⟨dd, _, h1, h2⟩
    | _ => cases q
  cases hi : is c with
  | some b =>
    obtain ⟨T1, T2⟩ := T c b hi
    refine PE.imp (pe_callB (call_isX T1 hz hf) hg hm (by decide +kernel) PAs (by decide +kernel) (by decide +kernel) hs hpl) fun σ H Q ⟨f, A, e, F, h⟩ => ?_
    refine Fin.bE h F fun d1 e1 v H1 F1 S1 r h1 => ?_
    obtain ⟨d2, q, h2⟩ := Fin.mo h1
    obtain ⟨rfl, ⟨b', q1, rfl⟩, hd⟩ := inv (f := f) r q
    rw [hi] at q1; cases q1
    exact ⟨c0, cv, b, rfl, hd, hcv, T2, h2 _ H1 F1 S1 rfl⟩
  | none =>
    have nev : CallR (X.suite a ((a, oe) :: pn)) (.builtin "isinstance") (fun _ _ _ => False) := fun _ _ _ _ _ _ _ _ _ h => h.elim
    refine PE.imp (pe_callB nev hg hm (by decide +kernel) PAs (by decide +kernel) (by decide +kernel) hs hpl) fun σ H Q ⟨f, A, e, F, h⟩ => ?_
    refine Fin.bE h F fun d1 e1 v H1 F1 S1 r h1 => ?_
    obtain ⟨d2, q, h2⟩ := Fin.mo h1
    obtain ⟨_, ⟨b', q1, _⟩, _⟩ := inv (f := f) r q
    rw [hi] at q1; cases q1
end
end Fw
namespace Fw
open L2 PyProof.Rows PySem PySem.Spec
def SaysX (fa : List He.Fa) (ex : List (PySem.W.Frag → Bool)) (fn : List He.DefD) (K : PySem.W.Frag) : Prop := obsX fa ex fn K = He.valD fn
theorem SaysX.d {fa : List He.Fa} {ex : List (PySem.W.Frag → Bool)} {fn : List He.DefD} {K : PySem.W.Frag} (c : SaysX fa ex fn K) : He.SaysD fa fn K := by
  have c1 : ((He.obsD fa fn K).1 && ex.all fun f => f K) = true := congrArg (fun z : He.AlD => z.1) c
  have c2 : (obsX fa ex fn K).2 = (He.valD fn).2 := congrArg (fun z : He.AlD => z.2) (show obsX fa ex fn K = He.valD fn from c)
  exact Prod.ext (Bool.and_eq_true_iff.mp c1).1 c2
theorem SaysX.x {fa : List He.Fa} {ex : List (PySem.W.Frag → Bool)} {fn : List He.DefD} {K : PySem.W.Frag} (c : SaysX fa ex fn K) (i : Nat) {f : PySem.W.Frag → Bool} (h : ex[i]? = some f) : f K = true := by
  have c1 : ((He.obsD fa fn K).1 && ex.all fun f => f K) = true := congrArg (fun z : He.AlD => z.1) c
  exact List.all_eq_true.mp (Bool.and_eq_true_iff.mp c1).2 f (List.mem_of_getElem? h)
theorem clsB_ok {tl : List Value} {ni : String} {K : PySem.W.Frag} {C : Addr} (q : clsB tl ni K C = true) : ∃ nm q N bs bm sn sub ab col dd k0 k1 k2 k3 k5, K.lookup C = some (excClassObj nm q C N bs bm true sn sub ab col dd k0 k1 k2 k3 k5 ni) ∧ Ex.refsT tl bm = true := by
  unfold clsB at q
  split at q
  · rename_i t dd cd sl ho
    split at q
    · rename_i C' bm k0 k1 k2 k3 n k5 hm hs
      simp only [Bool.and_eq_true, decide_eq_true_eq, Bool.not_eq_true'] at q
      obtain ⟨rfl, rfl, rfl, hdel, hd, ht⟩ := q
      obtain ⟨nm, bs, mro, ns, qn, hd', sn, sub, ab, col, del⟩ := cd
      dsimp only at hm hdel hd
      subst hm; subst hdel; subst hd
      have hsl : sl = #[k0, k1, k2, k3, some (.builtin n), k5] := by
        obtain ⟨l⟩ := sl
        simp only at hs
        rw [hs]
      subst hsl
      exact ⟨nm, qn, ns, bs, bm, sn, sub, ab, col, dd, k0, k1, k2, k3, k5, ho, ht⟩
    · cases q
  · cases q
theorem txt_given {tl : List Value} {ni : String} {x qn : Str} {K : PySem.W.Frag} {fd : FuncData} {p1 p2 q1 q2 q3 q4 : Pos} (h : errB tl ni "given" x K = true) (F : L2.FunD K "__init__" qn (Ex.G.prm p1 p2) (Ex.G.bdy q1 q2 q3 q4) Ex.G.scp [] [] (He.fAd K (x, some "__init__")) fd) : Ex.G.Txt tl ni K (He.ga K x) (He.fAd K (x, some "__init__")) qn := by
  simp only [errB, Bool.and_eq_true, decide_eq_true_eq] at h
  obtain ⟨h1, h2, h3, h4, h5, h6, h7, h8⟩ := h
  exact ⟨clsB_ok h1, He.eqO_ok h2, He.eqO_ok h3, He.eqO_ok h4, h5, h6, h7, h8, fd, p1, p2, q1, q2, q3, q4, F⟩
end Fw
namespace Fw
open L2 PyProof.Rows PySem PySem.Spec
section
variable {g : GC} {X : Cx} {W : WK}
theorem OS.or {r r' : R2} {o o' : D → D → Option D} (h : OS g r o) (h' : OS g r' o') : OS g (fun x y H Q => r x y H Q ∨ r' x y H Q) (fun a b => match o a b with
  | some d => some d
  | none => o' a b) := fun A H d1 d2 d v1 v2 Q al r1 r2 q k => by
  cases z : o d1 d2 with
  | some e => simp only [z] at q; cases q; exact .inl (h A H d1 d2 _ v1 v2 Q al r1 r2 z k)
  | none => simp only [z] at q; exact .inr (h' A H d1 d2 d v1 v2 Q al r1 r2 q k)
end
end Fw
namespace L2
open PySem PySem.Spec PyProof.Rows
section
variable {X : Cx} {e st : Expr} {te ts : TE} {p2 pos : Pos}
def rSortedTp (K : PySem.W.Frag) : List V → Hp → VK → Prop := fun vs H Q => ∃ (a : Addr) (ns : List Int), vs = [V.ref a] ∧ SqT K H a (ns.map V.int) ∧
  ∀ (ns' : List Int) (p : Addr), ns'.Perm ns → ns'.Pairwise (· ≤ ·) → H p = none → Q (.ref p) (upd H p (.lst (ns'.map V.int)))
theorem cr_sortedTp : CallR X (.builtin "sorted") (rSortedTp X.K) := by
  intro pins s σ H vs us Q I r h
  obtain ⟨a, ns, rfl, hs, q⟩ := h
  obtain ⟨its, rv, ht, hz⟩ := I.tuple hs
  rw [Vals.ref1 r]
  have hi := rv.ints
  have hz' : its.length ≤ sizeLine := by rw [← rv.length]; exact hz
  obtain ⟨o, ho, hc, n, hd⟩ := ht
  refine Calls.call_function_entry kind_sorted plain_sorted entry_sorted (args_sorted1 _) ?_
  unfold Builtin.«sorted»
  refine wpAny_bind (m := checkCount "sorted" 1 1 _) (wpAny_pure ?_)
  refine wpAny_bind (wpAny_collect_seq a (.inr rfl) ho hc hd (fun h' hk => ?_) (by rw [List.size_toArray]; exact hz'))
  have e : its.toArray.toList = its := by simp
  rw [e]
  refine wpAny_bind (wpAny_newList ?_ hz')
  have I2 : Inv X pins σ H { s with heap := h' } := I.kept (t' := s.toks) hk
  have hoL : (h'.push (seqObj "list" its.toArray 0)).get? h'.objs.size = some (seqObj "list" its.toArray 0) := Heap.get?_push_size _ rfl
  refine wpAny_bind (wpAny_holding (wpAny_call_entry slot_list_sort ⟨_, hoL, rfl⟩ entry_list_sort (SrtO.list_sort_ord SrtO.swo_int hoL hz' (fun h2 => SrtO.ints_sortable hi h2) fun out h1 h2 => ⟨_, rfl, ?_⟩) (args_list_sort _)))
  obtain ⟨k1, k2, k3⟩ := SrtO.ints_out hi h1 h2
  obtain ⟨ep, he'⟩ := PyProof.Rows.sortedHeap_at (vs := its) (out := out.toArray) hoL
  have hlen : ((out.map SrtO.iv).map V.int).length ≤ sizeLine := by
    rw [List.length_map, k2.length_eq]
    rw [List.length_map] at hz
    exact hz
  refine wpAny_pure ⟨_, rfl, ?_⟩
  refine ⟨.ref _, upd H h'.objs.size (.lst ((out.map SrtO.iv).map V.int)), I2.laid (t' := s.toks) (fun b u hu => ?_) (Nat.le_refl _) ⟨hlen, out, ep, vals_of_ints k1, he'⟩, rfl, q _ _ k2 k3 (I2.hok.fresh (Nat.le_refl _))⟩
  have hu' : h'.get? b = some u := hu
  have hlt := Heap.lt_size hu'
  rw [PyProof.Rows.sortedHeap_old (Nat.ne_of_lt hlt) (by rw [size_push']; exact Nat.lt_succ_of_lt hlt)]
  exact Heap.get?_push_of_some _ hu'
end
end L2
namespace Fw
open L2 PyProof.Rows PySem PySem.Spec
section
variable {g : GC} {X : Cx} {W : WK} {a : Expr} {pos : Pos}
theorem RL.reverse {A : Addr → Prop} {H : Hp} : ∀ {ds : List D} {xs : List V}, RL g A H ds xs → RL g A H ds.reverse xs.reverse
  | [], _, e => by rw [show _ = [] from e]; exact rfl
  | d :: ds, _, ⟨y, ys, e, r, t⟩ => by rw [e, List.reverse_cons, List.reverse_cons]; exact RL.append (RL.reverse t) ⟨y, [], rfl, r, rfl⟩
def dSortedT : D → Option (List D)
  | .tup ds => (intsD ds).map fun ns => (sortI ns).map D.int
  | _ => none
theorem RL.int_inv {A : Addr → Prop} {H : Hp} : ∀ {ns : List Int} {xs : List V}, RL g A H (ns.map D.int) xs → xs = ns.map V.int
  | [], _, e => e
  | n :: ns, _, ⟨y, ys, e, r, t⟩ => by rw [e, RL.int_inv t, List.map_cons]; exact congrArg (· :: _) r
theorem fs_sortedT : FS g (rSortedTp g.K) (op1 dSortedT) := fs1 fun A H d es v Q al r q k => by
  cases d with
  | tup ds =>
    obtain ⟨ns, z, rfl⟩ := map_some (show (intsD ds).map (fun ns => (sortI ns).map D.int) = some es from q)
    obtain ⟨a, xs, rfl, h, rl⟩ := r
    rw [intsD_eq z] at rl
    rw [RL.int_inv rl] at h
    refine ⟨a, ns, rfl, (SqT.of h), fun ns' p h1 h2 hp => ?_⟩
    have e : ns' = sortI ns := sorted_uniq (h1.trans (sortI_perm ns).symm) h2 (sortI_sorted ns)
    exact k p _ _ hp (Same.new hp) upd_only upd_same (by rw [e]; exact RL.ints _)
  | _ => cases q
def dSortedA (d : D) : Option (List D) := match d with
  | .tup _ => dSortedT d
  | _ => dSorted d
abbrev rSortedA (K : PySem.W.Frag) : List V → Hp → VK → Prop := fun vs H Q => rSortedI K vs H Q ∨ rSortedTp K vs H Q
theorem cr_sortedA {X : Cx} : CallR X (.builtin "sorted") (rSortedA X.K) := fun pins s σ H vs us Q I r h => by
  rcases h with h | h
  · exact cr_sortedI pins s σ H vs us Q I r h
  · exact cr_sortedTp pins s σ H vs us Q I r h
theorem fs_sortedA : FS g (rSortedA g.K) (op1 dSortedA) := fs1 fun A H d es v Q al r q k => by
  cases d with
  | tup ds => exact .inr (fs_sortedT A H [.tup ds] es [v] Q al ⟨v, [], rfl, r, rfl⟩ q k)
  | lst ds => exact .inl (fs_sorted A H [.lst ds] es [v] Q al ⟨v, [], rfl, r, rfl⟩ q k)
  | scr ds => exact .inl (fs_sorted A H [.scr ds] es [v] Q al ⟨v, [], rfl, r, rfl⟩ q k)
  | _ => cases q
end
end Fw
namespace Fw
open L2 PyProof.Rows PySem PySem.Spec
section
variable {X : Cx} {k : Nat} {f C : Addr} {fd : FuncData} {ps : List Str} {sp : Sp} {W : WK} {x : Str} {p pos : Pos} {e : Expr} {es : List Expr} {t : TA}
theorem guards_make (A : Around) (C : Addr) (us : List Value) (kw : List (Str × Value)) : (A.under (.builtin "type.__call__" ⟨.ref C :: us, kw⟩)).guards = A.guards := by rfl
theorem run_makeG {pins : List (Addr × Obj)} {σ : Sv} {H : Hp} {s : Shared} {Q : VK} {us : List Value} {vs : List V} (M : Mk X.K C f) (F : FnG X.prog X.w X.K X.mg X.base k f fd ps sp) (hr : Room (k + 1) X.A) (gd : X.A.guards = some []) (hb : Binds X.K fd ps []) (tk : L2N.Takes X W)
    (I : Inv X pins σ H s) (r : Vals vs us) (h : ∀ x dx, H x = none → H dx = none → dx ≠ x → sp (V.ref x :: vs) (upd (upd H dx (.own x)) x (.ins C dx [])) (fun v H2 => v = .non ∧ Q (.ref x) H2) (WE W σ)) :
    wpAny (model X.prog X.w) X.A (call (.ref C) us) (EP X pins σ Q) X.xe s := by
  have hq := h (s.heap.objs.size + 1) s.heap.objs.size (I.hok.fresh (Nat.le_succ _)) (I.hok.fresh (Nat.le_refl _)) (Nat.ne_of_lt (Nat.lt_succ_self _))
  have I2 := Inv.made (C := C) I
  have r2 : Vals (V.ref (s.heap.objs.size + 1) :: vs) (Value.ref (s.heap.objs.size + 1) :: us) := .cons rfl r
  have hl : (Value.ref (s.heap.objs.size + 1) :: us).length = ps.length := by rw [← r2.length]; exact F.len _ _ _ _ hq
  have b := hb _ (Value.ref (s.heap.objs.size + 1) :: us) I2.kIn (by rw [List.append_nil]; exact hl)
  rw [List.append_nil] at b
  refine wpAny_call (make_map (f := f) I.kIn M.makes M.init (beq_iff_eq.mp M.fn) (codeAny_mono (F.run _ X.stack _ _ ⟨Value.ref (s.heap.objs.size + 1) :: us, []⟩ (Value.ref (s.heap.objs.size + 1) :: us) _ _ (WE W σ) (hr.make C us []) (by rw [guards_make]; exact gd) (I2.env0.make C us []) b r2 hq) fun r s' hq' => ?_))
  cases r with
  | error e => exact L2N.passAt tk σ pins _ _ e s' I2 hq'
  | ok fl =>
    cases fl with
    | ret u =>
      obtain ⟨v, H', I3, rv, ev, q3⟩ := I2.after hq'
      subst ev
      exact ⟨rv, ⟨V.ref (s.heap.objs.size + 1), H', I3, rfl, q3⟩⟩
    | next => exact hq'.elim
    | brk => exact hq'.elim
    | cont => exact hq'.elim
def tMkG (C : Addr) (sp : Sp) (W : WK) (t : TA) : TE := fun σ H Q => t σ H fun vs H1 => ∀ x dx, H1 x = none → H1 dx = none → dx ≠ x →
  sp (V.ref x :: vs) (upd (upd H1 dx (.own x)) x (.ins C dx [])) (fun v H2 => v = .non ∧ Q (.ref x) H2) (WE W σ)
theorem pe_makeG (M : Mk X.K C f) (F : FnG X.prog X.w X.K X.mg X.base k f fd ps sp) (hr : Room (k + 1) X.A) (gd : X.A.guards = some []) (hb : Binds X.K fd ps []) (hg : Gl X x) (hm : X.mg x = some (.ref C)) (tk : L2N.Takes X W) (ha : PA X (e :: es) t)
    (hdb : (x == ("__debug__" : Str)) = false) (he : starEach (e :: es) X.env = (false, eval e X.env) :: starEach es X.env := by rfl) (hpl : (backTo pos (starEach es X.env)).any (·.1) = false := by rfl) : PE X (.Call (.Name x p) (e :: es) [] pos) (tMkG C sp W t) := by
  refine ⟨fun pins s σ H Q I h => wpAny_Call_Name_kw (ld_glob I hg hm ?_ hdb)⟩
  refine PySem.W.callWith_K (h₀ := X.base) I.ok.mod.kin M.kp (thn (ha.run pos pins s σ H _ I h) fun us s1 ⟨vs, H1, I1, r, q⟩ => ⟨I1.kIn, ?_⟩) he hpl
  exact run_makeG M F hr gd hb tk I1 r q
end
section
variable {g : GC} {X : Cx} {W : WK}
def mMk (c0 : Nat) (fn : Fn) (m : M (List D)) : M D := mb m fun ds e => match fn (.pbox (.obj c0 []) :: ds.map Sl.val) with
  | .ok (.v .non) (.pbox (.obj c fs) :: _) => .ok (.obj c fs) e
  | .exc c d _ => .exc c d e
  | _ => .bad
theorem RL.at {A : Addr → Prop} {H : Hp} : ∀ {ds : List D} {vs : List V} {i : Nat} {s : Sl} {v : V}, RL g A H ds vs → (ds.map Sl.val)[i]? = some s → vs[i]? = some v → ∃ d, s = .val d ∧ R g A H d v
  | [], _, _, _, _, _, h, _ => by simp at h
  | d :: ds, _, 0, _, _, ⟨y, ys, e, r, t⟩, h, h2 => by subst e; simp at h h2; subst h h2; exact ⟨d, rfl, r⟩
  | d :: ds, _, i + 1, _, _, ⟨y, ys, e, r, t⟩, h, h2 => by subst e; exact RL.at t (by simpa using h) (by simpa using h2)
theorem t_mk {c0 : Nat} {C : Addr} {fn : Fn} {m : M (List D)} {np : Nat} (hc : g.ca c0 = C) (hf : g.cf c0 = []) (hn : ∀ ds e e', m e = .ok ds e' → ds.length + 1 = np) : ∀ σ H Q, rdE g W (mMk c0 fn m) σ H Q → tMkG C (spF g np fn) W (rdA g W m) σ H Q := fun σ H Q ⟨f, A, e, F, h⟩ => by
  have hm : ∃ r, m e = r := ⟨_, rfl⟩
  obtain ⟨rs, hm⟩ := hm
  unfold mMk mb at h
  refine ⟨f, A, e, F, ?_⟩
  cases rs with
  | exc c d e1 => rw [hm] at h ⊢; exact h
  | bad => rw [hm] at h; exact h.elim
  | ok ds e1 =>
  rw [hm] at h ⊢
  simp only at h
  intro vs H1 F1 S1 RR x dx hx hdx ne
  have xA : ¬ A x := F1.nA hx
  have sm : Same H1 (upd (upd H1 dx (.own x)) x (.ins C dx [])) := fun a o z => by
    rw [upd_ne (ne_of_none z hx), upd_ne (ne_of_none z hdx)]; exact z
  have mo : Mono A H1 (add1 A x) (upd (upd H1 dx (.own x)) x (.ins C dx [])) := ⟨F1.al, fun a o z _ => sm a o z, fun a o z q => z.elim id fun y => by rw [y, hx] at q; cases q⟩
  have RR2 := RL.mono mo ds RR
  refine ⟨by rw [List.length_cons, RL.length RR]; exact hn ds e e1 hm, add1 A x, .pbox (.obj c0 []) :: ds.map Sl.val, fun a z => ?_, ⟨by rw [List.length_cons, List.length_cons, List.length_map, RL.length RR], fun i s v z1 z2 => ?_, fun i j s t q z1 z2 b1 b2 _ _ => ?_, fun p hp => ⟨.inl (F1.tb p hp).1, (F1.tb p hp).2.2.ext sm⟩, g.ivM mo.w F1.iv⟩, ?_⟩
  · rcases z with z | z
    · obtain ⟨o, q1, q2⟩ := F1.al a z; exact ⟨o, sm a o q1, q2⟩
    · subst z; exact ⟨_, upd_same, rfl⟩
  · cases i with
    | zero => cases z1; cases z2; exact ⟨x, rfl, .inr rfl, dx, [], by rw [hc, hf]; exact upd_same, by rw [hf]; rfl, rfl⟩
    | succ i =>
      obtain ⟨d, e2, r⟩ := RL.at RR2 (by simpa using z1) (by simpa using z2)
      subst e2; exact r
  · have zero : ∀ (i : Nat) (s : Sl), (Sl.pbox (.obj c0 []) :: ds.map Sl.val)[i]? = some s → s.isP = true → i = 0 := fun i s z b => by
      cases i with
      | zero => rfl
      | succ i =>
        rw [List.getElem?_cons_succ, List.getElem?_map] at z
        cases w : ds[i]? with
        | none => rw [w] at z; cases z
        | some d => rw [w] at z; cases z; cases b
    rw [zero i s z1 b1, zero j t z2 b2]
  · have after : ∀ {as' : List Sl} {H' : Hp}, PostA g (add1 A x) (add1 A x) (upd (upd H1 dx (.own x)) x (.ins C dx [])) H' (.pbox (.obj c0 []) :: ds.map Sl.val) as' (.ref x :: vs) → FR g f A H' σ e1 ∧ Step A H H' := fun {as' H'} po => by
      have k : ∀ a o, H1 a = some o → (∀ q, (a, q) ∉ g.T) → H' a = some o := fun a o z n2 => po.keep a o (sm a o z) (fun i s z1 z2 z3 => by
        cases i with
        | zero => cases z3; rw [hx] at z; cases z
        | succ i =>
          rw [List.getElem?_cons_succ, List.getElem?_map] at z1
          cases w : ds[i]? with
          | none => rw [w] at z1; cases z1
          | some d => rw [w] at z1; cases z1; cases z2) n2
      obtain ⟨F3, S3⟩ := F1.sameT k po.tb
      exact ⟨F3, S1.trans S3⟩
    cases q2 : fn (.pbox (.obj c0 []) :: ds.map Sl.val) with
    | bad => simp only [q2] at h; exact h
    | exc c d as' =>
      simp only [q2] at h
      intro cls dd H' po xx
      obtain ⟨F3, S3⟩ := after po
      exact h cls dd H' F3 S3 (ExR.less po.al (fun a z => .inl z) xx)
    | ok rv as' =>
      rw [q2] at h
      cases rv with
      | b _ => exact h.elim
      | v d =>
        cases d with
        | non =>
          match as', h with
          | .pbox (.obj c fs) :: rest, h =>
            intro v H' po rv
            obtain ⟨F3, S3⟩ := after po
            obtain ⟨d', p', b1, b2, b3⟩ := po.box 0 _ rfl
            cases b1; cases b2
            obtain ⟨dx', xs, g1, g2, g3⟩ := b3
            have m2 : Mono (add1 A x) H' A H' := ⟨po.al, fun _ _ z _ => z, fun a _ z _ => .inl z⟩
            exact ⟨rv, h _ H' F3 S3 ⟨x, dx', xs, rfl, g1, xA, g2, RL.mono m2 fs g3⟩⟩
        | _ => exact h.elim
end
end Fw
namespace Fw
open L2 PyProof.Rows PySem PySem.Spec
section
variable {g : GC} {X : Cx} {W : WK}
def FiT (g : GC) (f : Str) (fi : Nat → Option Nat) : Prop := ∀ c i, fi c = some i → Cls g.K (g.ca c) ∧ NoAttr g.K (g.ca c) f ∧ ∀ xs : List V, (g.cf c).length = xs.length → ((g.cf c).zip xs).lookup f = xs[i]?
def dOf (fi : Nat → Option Nat) : D → Option D
  | .obj c ds => (fi c).bind fun i => ds[i]?
  | _ => none
theorem c_fldO {a : Expr} {oa : Od} {f : Str} {fi : Nat → Option Nat} {pos : Pos} (tab : FiT g f fi) (hK : X.K = g.K) (ha : CO g X W a oa) (hb : attributeBase a f X.env (eval a X.env) = eval a X.env) : CE g X W (.Attribute a f pos) (mUn (dOf fi) oa) :=
  PE.imp (pe_fld ha hb) fun σ H Q ⟨f', A, e, F, h⟩ => Fin.b1 h F fun d1 e1 v1 H1 F1 S1 R1 h1 => by
    obtain ⟨d, q, h3⟩ := Fin.mo h1
    cases d1 with
    | obj c ds =>
      obtain ⟨b, dx, xs, rfl, hb, hl, r⟩ := R1
      cases z : fi c with
      | none => simp only [dOf, z] at q; cases q
      | some i =>
        have q : ds[i]? = some d := by simp only [dOf, z] at q; exact q
        obtain ⟨v, w1, w2⟩ := RL.get r q
        obtain ⟨t1, t2, t3⟩ := tab c i z
        rw [hK]
        exact ⟨b, _, dx, _, v, rfl, hb, t1, t2, by rw [t3 xs hl, w1], h3 v H1 F1 S1 w2⟩
    | _ => cases q
def tPropG (C : Addr) (sp : Sp) (W : WK) (ta : TE) : TE := fun σ H Q => ta σ H fun x H1 => ∃ a dx fs, x = .ref a ∧ H1 a = some (.ins C dx fs) ∧ sp [.ref a] H1 Q (fun _ _ _ => False)
theorem getpropG {k : Nat} {C p gf a dx : Addr} {fs : List (Str × V)} {f : Str} {fd : FuncData} {ps : List Str} {sp : Sp} {pins : List (Addr × Obj)} {σ : Sv} {H : Hp} {s : Shared} {Q : VK} {b : Bool} {E' : Value → Shared → Prop} (I : Inv X pins σ H s) (ea : H a = some (.ins C dx fs)) (c : Cls X.K C) (hp : PropOf X.K C f p gf)
    (F : FnG X.prog X.w X.K X.mg X.base k gf fd ps sp) (hr : Room (k + 1) X.A) (gd : X.A.guards = some []) (hb : Binds X.K fd ps []) (h : sp [.ref a] H Q (fun _ _ _ => False)) :
    wpAny (model X.prog X.w) X.A (getAttr (.ref a) f b) (EP X pins σ Q) E' s := by
  obtain ⟨mA, O, _, _, _, _⟩ := ins_get I.hok ea
  obtain ⟨od, J, _⟩ := O.look
  obtain ⟨rest, hrec⟩ := hp.rec_
  have I1 := I.tok (s.toks + 1)
  have hl : ([Value.ref a] ++ []).length = ps.length := by
    rw [← F.len _ _ _ _ h]; rfl
  have hc : (PySem.W.clsIn X.K C).isSome = true := by
    obtain ⟨cd, hc, _⟩ := PySem.W.any_some c.hd
    rw [hc]
    rfl
  have bb := hb { s with toks := s.toks + 1 } [.ref a] I1.kIn hl
  refine PySem.W.get_bind I.kIn J (PySem.W.plainGet_of (c.get f)).1 (PySem.W.findObj_data hc hp.at_ hp.get hp.tak) (PySem.W.plainGet_of (c.get f)).2 (wpAny_call (PySem.W.prop_get (s := { s with toks := s.toks + 1 }) I.kIn hrec ?_))
  refine codeAny_mono (F.run X.A.in1 X.stack { s with toks := s.toks + 1 } H ⟨[.ref a], []⟩ [.ref a] [.ref a] Q (fun _ _ _ => False) hr.in1 gd I1.env0.in1 bb (.cons rfl .nil) h) fun r s' hq => ?_
  cases r with
  | error er =>
    obtain ⟨_, _, _, _, _, _, _, _, _, _, _, _, z⟩ := hq
    exact z.elim
  | ok fl =>
    cases fl with
    | ret u =>
      obtain ⟨v, H', I3, rv, q3⟩ := I1.after hq
      show wpAny _ _ (handedOut u) _ _ _
      rw [PySem.W.handedOut_of (handed_of rv)]
      exact wpAny_pure ⟨v, H', I3, rv, q3⟩
    | next => exact hq.elim
    | brk => exact hq.elim
    | cont => exact hq.elim
theorem pe_propG {k : Nat} {C p gf : Addr} {f : Str} {fd : FuncData} {ps : List Str} {sp : Sp} {e : Expr} {pos : Pos} {ta : TE} (he : PE X e ta) (c : Cls X.K C) (hp : PropOf X.K C f p gf) (F : FnG X.prog X.w X.K X.mg X.base k gf fd ps sp) (hr : Room (k + 1) X.A) (gd : X.A.guards = some []) (hb : Binds X.K fd ps [])
    (hab : attributeBase e f X.env (eval e X.env) = eval e X.env) : PE X (.Attribute e f pos) (tPropG C sp W ta) := by
  refine ⟨fun pins s σ H Q I h => ?_⟩
  refine attr_of hab (thn (he.run pins s σ H _ I h) fun u s1 ⟨x, H1, I1, rx, a, dx, fs, ex, ea, q⟩ => ?_)
  subst ex
  obtain rfl : u = Value.ref a := rx
  exact getpropG I1 ea c hp F hr gd hb q
def mProp (isF : Nat → Bool) (fn : Fn) (m : M D) : M D := mb m fun d e => match d with
  | .obj c ds => if isF c = true then (match fn [.val (.obj c ds)] with
    | .ok (.v d') _ => .ok d' e
    | _ => .bad) else .bad
  | _ => .bad
theorem c_prop {k : Nat} {C p gf : Addr} {f : Str} {fd : FuncData} {ps : List Str} {fn : Fn} {e : Expr} {pos : Pos} {m : M D} {isF : Nat → Bool} (hF : ∀ c, isF c = true → g.ca c = C) (he : CE g X W e m) (c : Cls X.K C) (hp : PropOf X.K C f p gf) (F : FnG X.prog X.w X.K X.mg X.base k gf fd ps (spF g 1 fn)) (hr : Room (k + 1) X.A) (gd : X.A.guards = some []) (hb : Binds X.K fd ps [])
    (hab : attributeBase e f X.env (eval e X.env) = eval e X.env) : CE g X W (.Attribute e f pos) (mProp isF fn m) :=
  PE.imp (pe_propG (W := W) he c hp F hr gd hb hab) fun σ H Q ⟨f', A, e0, F0, h⟩ => Fin.bE h F0 fun d1 e1 v1 H1 F1 S1 R1 h1 => by
    cases d1 with
    | obj cn ds =>
      simp only at h1
      by_cases z : isF cn = true
      · rw [if_pos z] at h1
        have R0 := R1
        obtain ⟨b, dx, xs, rfl, hb, nA, hl, r⟩ := R1
        rw [hF cn z] at hb
        refine ⟨b, dx, _, rfl, hb, rfl, A, [.val (.obj cn ds)], F1.al, ⟨rfl, fun i s v z1 z2 => ?_, fun i j s t q z1 z2 b1 b2 _ _ => ?_, F1.tbA, F1.iv⟩, ?_⟩
        · cases i with
          | zero => cases z1; cases z2; exact R0
          | succ i => simp at z1
        · cases i with
          | zero => cases z1; cases b1
          | succ i => simp at z1
        · cases q2 : fn [.val (.obj cn ds)] with
          | bad => rw [q2] at h1; exact h1.elim
          | exc c d as' => rw [q2] at h1; exact h1.elim
          | ok rv as' =>
            rw [q2] at h1
            cases rv with
            | b _ => exact h1.elim
            | v d =>
              intro v H' po rv
              have k : ∀ a o, H1 a = some o → (∀ q, (a, q) ∉ g.T) → H' a = some o := fun a o z n2 => po.keep a o z (fun i s z1 z2 z3 => by
                cases i with
                | zero => cases z1; cases z2
                | succ i => simp at z1) n2
              obtain ⟨F3, S3⟩ := F1.sameT k po.tb
              exact h1 v H' F3 (S1.trans S3) rv
      · rw [if_neg z] at h1; exact h1.elim
    | _ => exact h1.elim
end
end Fw
namespace Fw
open L2 PyProof.Rows PySem PySem.Spec
section
variable {X : Cx} {k : Nat} {f C : Addr} {fd : FuncData} {ps : List Str} {sp : Sp} {W : WK} {m : Str} {pos apos : Pos} {e o : Expr} {es : List Expr} {ta : TE} {t : TA}
end
section
variable {g : GC} {X : Cx} {W : WK}
end
end Fw
namespace Fw
open L2 PyProof.Rows PySem PySem.Spec
theorem DefP.funD {K : PySem.W.Frag} {d : DefP} (e : fnP K d = d.val) (c : d.ok K = true) : ∃ fd, FunD K d.name d.qual d.params d.body d.scope [] [] (d.at_ K) fd := by
  obtain ⟨kp, c2⟩ := He.ba c
  unfold fnP at e
  cases q : K.lookup (d.at_ K) with
  | none =>
    rw [q] at c2
    cases c2
  | some o =>
    obtain ⟨oc, od, dt, osl⟩ := o
    rw [q] at c2 e
    cases dt with
    | func fd =>
      obtain ⟨n1, n2, n3, n4, n5, n6, n7, n8, n9, n10, n11, n12, n13, n14, n15⟩ := fd
      have e2 : (some (n1, n2, n3, n4, n5, n6, n7, n15) : He.FnW) = some (d.name, d.qual, d.params, .stmts d.body, d.scope, mainGlobals, [], builtinsNs) := e
      simp only [Option.some.injEq, Prod.mk.injEq] at e2
      obtain ⟨h1, h2, h3, h4, h5, h6, h7, h8⟩ := e2
      subst h1 h2 h3 h4 h5 h6 h7 h8
      have c3 : (PySem.W.codeIn K n13 d.qual && (He.dflB K n8 [] && He.kwdB K n9 [])) = true := c2
      obtain ⟨k1, k2⟩ := He.ba c3
      obtain ⟨k3, k4⟩ := He.ba k2
      exact ⟨_, ⟨oc, od, n8, n9, n10, n11, n12, n13, n14, osl, rfl, q, k1, He.dflB_ok k3, He.kwdB_ok k4⟩, kp⟩
    | _ => cases c2
section
variable {fa : List He.Fa} {ex : List (PySem.W.Frag → Bool)} {fn : List He.DefD} {pn : List DefP} {K : PySem.W.Frag}
theorem SaysP.two (c : SaysP fa ex fn pn K) : (obsX fa ex fn K).2 = (He.valD fn).2 ∧ pn.map (fnP K) = pn.map DefP.val := by
  have c2 : (obsX fa ex fn K).2 ++ pn.map (fnP K) = (He.valD fn).2 ++ pn.map DefP.val := congrArg (fun z : He.AlD => z.2) c
  have l : (obsX fa ex fn K).2.length = (He.valD fn).2.length := by
    show (fn.map fun d => He.fnW K d.at_).length = (fn.map He.DefD.val).length
    rw [List.length_map, List.length_map]
  exact List.append_inj c2 l
theorem SaysP.x (c : SaysP fa ex fn pn K) : SaysX fa ex fn K := by
  have c1 : ((obsX fa ex fn K).1 && pn.all fun d => d.ok K) = true := congrArg (fun z : He.AlD => z.1) c
  exact Prod.ext (Bool.and_eq_true_iff.mp c1).1 c.two.1
theorem SaysP.def_ (c : SaysP fa ex fn pn K) (i : Nat) {d : DefP} (h : pn[i]? = some d) : ∃ fd, FunD K d.name d.qual d.params d.body d.scope [] [] (d.at_ K) fd := by
  have c1 : ((obsX fa ex fn K).1 && pn.all fun d => d.ok K) = true := congrArg (fun z : He.AlD => z.1) c
  have e2 : (pn.map (fnP K))[i]? = (pn.map DefP.val)[i]? := by rw [c.two.2]
  rw [List.getElem?_map, List.getElem?_map, h] at e2
  exact DefP.funD (Option.some.inj e2) (List.all_eq_true.mp (Bool.and_eq_true_iff.mp c1).2 d (List.mem_of_getElem? h))
end
theorem eqFO_ok {K : PySem.W.Frag} {C : Addr} {f : Str} {v : Value} (h : eqFO K C f v = true) : PySem.W.findIn K (.ref C) f = some (some v) := by
  unfold eqFO at h
  split at h
  · rename_i a b e; rw [e, of_decide_eq_true h]
  · rename_i a b e; rw [e, of_decide_eq_true h]
  · cases h
theorem clsO_ok {x : Str} {K : PySem.W.Frag} (h : clsO x K = true) : Cls K (He.ga K x) := by
  obtain ⟨a, h⟩ := He.ba h
  obtain ⟨b, h⟩ := He.ba h
  obtain ⟨c, d⟩ := He.ba h
  exact ⟨a, b, c, eqFO_ok d⟩
theorem mkO_ok {x : Str} {K : PySem.W.Frag} (h : mkO x K = true) : Mk K (He.ga K x) (mAt x "__init__" K) := by
  obtain ⟨a, h⟩ := He.ba h
  obtain ⟨b, h⟩ := He.ba h
  obtain ⟨c, d⟩ := He.ba h
  exact ⟨a, eqFO_ok b, c, d⟩
theorem noatO_ok {x f : Str} {K : PySem.W.Frag} (h : noatO x f K = true) : NoAttr K (He.ga K x) f := by
  unfold noatO at h
  split at h
  · assumption
  · cases h
theorem propO_ok {x f : Str} {K : PySem.W.Frag} (h : propO x f K = true) : PropOf K (He.ga K x) f (mAt x f K) (pAt x f K) := by
  obtain ⟨a, h⟩ := He.ba h
  obtain ⟨b, h⟩ := He.ba h
  obtain ⟨c, d⟩ := He.ba h
  refine ⟨eqFO_ok a, ?_, of_decide_eq_true c, ?_⟩
  · split at b
    · rename_i q e; rw [e, of_decide_eq_true b]
    · cases b
  · split at d
    · rename_i g rest e
      refine ⟨rest, ?_⟩
      unfold pAt
      unfold mAt at e ⊢
      rw [e]
    · cases d
end Fw
namespace Fw
open L2 PyProof.Rows PySem PySem.Spec
theorem putF_new {f : Str} {v : V} : ∀ {cs : List Str} {xs : List V}, f ∉ cs → cs.length = xs.length → putF f v (cs.zip xs) = (cs ++ [f]).zip (xs ++ [v])
  | [], [], _, _ => rfl
  | c :: cs, x :: xs, n, l => by
    have n1 : ¬ c = f := fun e => n (e ▸ List.mem_cons_self)
    show (if c = f then (c, v) :: cs.zip xs else (c, x) :: putF f v (cs.zip xs)) = _
    rw [if_neg n1, putF_new (fun z => n (List.mem_cons_of_mem _ z)) (by simpa using l)]
    rfl
  | [], _ :: _, _, l => by simp at l
  | _ :: _, [], _, l => by simp at l
section
variable {g : GC} {X : Cx} {W : WK}
def NxT (g : GC) (f : Str) (nx : Nat → Option Nat) : Prop := ∀ c c', nx c = some c' → Cls g.K (g.ca c) ∧ NoAttr g.K (g.ca c) f ∧ g.ca c' = g.ca c ∧ g.cf c' = g.cf c ++ [f] ∧ f ∉ g.cf c ∧ (g.cf c).length < 1000
def mPutF (i : Nat) (nx : Nat → Option Nat) (m : M D) : M Fl := mb m fun d e => match e[i]? with
  | some (.pbox (.obj c ds)) => (match nx c with
    | some c' => .ok .nx (e.set i (.pbox (.obj c' (ds ++ [d]))))
    | none => .bad)
  | _ => .bad
theorem cs_fld {i : Nat} {x f : Str} {nx : Nat → Option Nat} {value : Expr} {p pos pos' : Pos} {m : M D} (tab : NxT g f nx) (hK : X.K = g.K) (hx : PE X (.Name x p) (tVar i)) (hv : CE g X W value m)
    (hs : swapsWith value (some (.Attribute (.Name x p) f pos')) pos.line X.env = pure false) : CS g X W (.Assign [.Attribute (.Name x p) f pos'] value pos) (mPutF i nx m) :=
  PS.imp (ps_fld hx hv hs) fun E σ H ⟨f', A, e, F, h⟩ => FinS.bE h F fun d e1 v H1 F1 S1 r h1 => by
    cases q : e1[i]? with
    | none => simp only [q] at h1; exact h1.elim
    | some s =>
      simp only [q] at h1
      match s, q, h1 with
      | .pbox (.obj c ds), q, h1 =>
        simp only at h1
        cases z : nx c with
        | none => rw [z] at h1; exact h1.elim
        | some c' =>
          rw [z] at h1
          obtain ⟨t1, t2, t3, t4, t5, t6⟩ := tab c c' z
          obtain ⟨o, w1, w2⟩ := F1.at q
          obtain ⟨a, b1, b2, b3, dx, xs, b4, b5, b6⟩ := w2
          subst b2
          have zl : ((g.cf c).zip xs).length < 1000 := by rw [List.length_zip]; omega
          rw [hK]
          refine ⟨_, w1, a, _, dx, _, rfl, b4, t1, t2, zl, ?_⟩
          rw [putF_new t5 b5]
          have pt := F1.putO (dn := .obj c' (ds ++ [d])) (on := .ins (g.ca c) dx ((g.cf c ++ [f]).zip (xs ++ [v]))) rfl q rfl w1 (fun mo => ⟨dx, xs ++ [v], by rw [t3, t4]; exact upd_same, by rw [t4, List.length_append, List.length_append, b5]; rfl, RL.append (RL.mono mo ds b6) ⟨v, [], rfl, R.mono mo d r, rfl⟩⟩)
          exact h1 A σ _ pt.1 (F1.mono pt.2)
end
end Fw
namespace Fw
open L2 PyProof.Rows PySem PySem.Spec
section
variable {g : GC} {X : Cx} {W : WK}
theorem PK.imp {X : Cx} {e : List Keyword} {t u : TA} (h : PK X e t) (i : ∀ σ H Q, u σ H Q → t σ H Q) : PK X e u := ⟨fun pos pins s σ H Q I q => h.run pos pins s σ H Q I (i _ _ _ q)⟩
theorem RL.perm {A : Addr → Prop} {H : Hp} {ds : List D} {vs : List V} (r : RL g A H ds vs) : ∀ (π : List Nat), (∀ i ∈ π, i < ds.length) → RL g A H (permL π ds) (permL π vs)
  | [], _ => rfl
  | i :: π, h => by
    have ih := RL.perm r π fun j hj => h j (List.mem_cons_of_mem _ hj)
    have hi := h i List.mem_cons_self
    have e1 : ds[i]? = some ds[i] := List.getElem?_eq_getElem hi
    obtain ⟨v, hv, rr⟩ := RL.get r e1
    have e2 : permL (i :: π) ds = ds[i] :: permL π ds := by unfold permL; rw [List.filterMap_cons, e1]
    have e3 : permL (i :: π) vs = v :: permL π vs := by unfold permL; rw [List.filterMap_cons, hv]
    rw [e2, e3]
    exact ⟨v, _, rfl, rr, ih⟩
end
end Fw
namespace Fw
open PySem PySem.W PyProof.Rows L2
end Fw
namespace Fw
open L2 PyProof.Rows PySem PySem.Spec
section
variable {g : GC} {X : Cx} {W : WK}
def NLs (g : GC) (A : Addr → Prop) (H : Hp) (T : Hp) : List (List D) → List Addr → Prop
  | [], bs => bs = []
  | r :: rs, bs => ∃ b cs xs, bs = b :: cs ∧ T b = some (.lst xs) ∧ RL g A H r xs ∧ NLs g A H T rs cs
theorem NLs.mono {A A' : Addr → Prop} {H H' T : Hp} (m : Mono A H A' H') : ∀ {rows : List (List D)} {bs : List Addr}, NLs g A H T rows bs → NLs g A' H' T rows bs
  | [], _, h => h
  | r :: rs, _, ⟨b, cs, xs, e, h1, h2, h3⟩ => ⟨b, cs, xs, e, h1, RL.mono m r h2, NLs.mono m h3⟩
theorem NLs.len {A : Addr → Prop} {H T : Hp} : ∀ {rows : List (List D)} {bs : List Addr}, NLs g A H T rows bs → bs.length = rows.length
  | [], _, h => by rw [show _ = [] from h]; rfl
  | r :: rs, _, ⟨b, cs, xs, e, h1, h2, h3⟩ => by rw [e, List.length_cons, List.length_cons, h3.len]
theorem NLs.get {A : Addr → Prop} {H T : Hp} : ∀ {rows : List (List D)} {bs : List Addr} {k : Nat} {r : List D}, NLs g A H T rows bs → rows[k]? = some r → ∃ b xs, bs[k]? = some b ∧ T b = some (.lst xs) ∧ RL g A H r xs
  | [], _, _, _, _, h => by simp at h
  | r :: rs, _, 0, _, ⟨b, cs, xs, e, h1, h2, h3⟩, h => by cases h; exact ⟨b, xs, by rw [e]; rfl, h1, h2⟩
  | r :: rs, _, k + 1, _, ⟨b, cs, xs, e, h1, h2, h3⟩, h => by
    obtain ⟨b', xs', q1, q2⟩ := NLs.get (k := k) h3 (by simpa using h)
    exact ⟨b', xs', by rw [e]; simpa using q1, q2⟩
theorem NLs.all {A : Addr → Prop} {H T : Hp} : ∀ {rows : List (List D)} {bs : List Addr}, NLs g A H T rows bs → ∀ b ∈ bs, ∃ xs, T b = some (.lst xs)
  | [], _, h, b, hb => by rw [show _ = [] from h] at hb; cases hb
  | r :: rs, _, ⟨b, cs, xs, e, h1, h2, h3⟩, c, hc => by
    rw [e] at hc
    rcases List.mem_cons.mp hc with rfl | hc
    · exact ⟨xs, h1⟩
    · exact h3.all c hc
theorem NLs.swap {A : Addr → Prop} {H T T' : Hp} : ∀ {rows : List (List D)} {bs : List Addr}, NLs g A H T rows bs → (∀ b ∈ bs, T' b = T b) → NLs g A H T' rows bs
  | [], _, h, _ => h
  | r :: rs, _, ⟨b, cs, xs, e, h1, h2, h3⟩, k => ⟨b, cs, xs, e, by rw [k b (by rw [e]; exact List.mem_cons_self)]; exact h1, h2, h3.swap fun c hc => k c (by rw [e]; exact List.mem_cons_of_mem _ hc)⟩
theorem NLs.set {A : Addr → Prop} {H T : Hp} {r' : List D} {zs : List V} (rz : RL g A H r' zs) : ∀ {rows : List (List D)} {bs : List Addr} {k : Nat} {b : Addr}, NLs g A H T rows bs → bs.Nodup → bs[k]? = some b → NLs g A H (upd T b (.lst zs)) (rows.set k r') bs
  | [], _, _, _, h, _, hb => by rw [show _ = [] from h] at hb; simp at hb
  | r :: rs, _, 0, _, ⟨b, cs, xs, e, h1, h2, h3⟩, nd, hb => by
    subst e
    obtain rfl := Option.some.inj hb
    exact ⟨_, cs, zs, rfl, upd_same, rz, h3.swap fun c hc => upd_ne fun z => (List.nodup_cons.mp nd).1 (z ▸ hc)⟩
  | r :: rs, _, k + 1, c, ⟨b, cs, xs, e, h1, h2, h3⟩, nd, hb => by
    subst e
    have hb : cs[k]? = some c := by simpa using hb
    have nb : b ≠ c := fun z => (List.nodup_cons.mp nd).1 (z ▸ List.mem_of_getElem? hb)
    exact ⟨b, cs, xs, rfl, by rw [upd_ne nb]; exact h1, h2, NLs.set rz h3 (List.nodup_cons.mp nd).2 hb⟩
theorem NLs.snoc {A : Addr → Prop} {H T : Hp} {r : List D} {b : Addr} {xs : List V} (hb : T b = some (.lst xs)) (rr : RL g A H r xs) : ∀ {rows : List (List D)} {bs : List Addr}, NLs g A H T rows bs → NLs g A H T (rows ++ [r]) (bs ++ [b])
  | [], _, h => by rw [show _ = [] from h]; exact ⟨b, [], xs, rfl, hb, rr, rfl⟩
  | r :: rs, _, ⟨b, cs, xs, e, h1, h2, h3⟩ => ⟨b, _, xs, by rw [e]; rfl, h1, h2, NLs.snoc hb rr h3⟩
structure NR (g : GC) (f : Fx) (A : Addr → Prop) (H : Hp) (σ : Sv) (e : Ev) (ix : Nat) (rows : List (List D)) (p : Addr) (bs : List Addr) (T : Hp) : Prop where
  fr : FR g { f with T := T } A H σ e
  at_ : σ[ix]? = some (some (.ref p))
  tp : T p = some (.lst (bs.map V.ref))
  nd : bs.Nodup
  np : p ∉ bs
  h0 : ∀ a, a = p ∨ a ∈ bs → f.H0 a = none ∧ f.T a = none
  sub : ∀ a o, f.T a = some o → T a = some o
  rows : NLs g A H T rows bs
  only : ∀ a o, T a = some o → f.T a = some o ∨ a = p ∨ a ∈ bs
theorem NR.step {f : Fx} {A : Addr → Prop} {H H' : Hp} {σ σ' : Sv} {e e' : Ev} {ix : Nat} {rows : List (List D)} {p : Addr} {bs : List Addr} {T : Hp} (N : NR g f A H σ e ix rows p bs T) (F : FR g { f with T := T } A H' σ' e') (S : Step A H H') (hs : σ'[ix]? = σ[ix]?) : NR g f A H' σ' e' ix rows p bs T :=
  ⟨F, by rw [hs]; exact N.at_, N.tp, N.nd, N.np, N.h0, N.sub, N.rows.mono (N.fr.mono S), N.only⟩
theorem FR.tput {f : Fx} {T : Hp} {A : Addr → Prop} {H : Hp} {σ : Sv} {e : Ev} {D : Addr} {ys zs : List V} (F : FR g { f with T := T } A H σ e) (hT : T D = some (.lst ys)) (h0 : f.H0 D = none) : FR g { f with T := upd T D (.lst zs) } A (upd H D (.lst zs)) σ e ∧ Step A H (upd H D (.lst zs)) := by
  have e0 : upd T D (.lst ys) = T := funext fun a => by
    by_cases z : a = D
    · rw [z, upd_same, hT]
    · rw [upd_ne z]
  have F1 : FR g (({ f with T := T } : Fx).tm D ys) A H σ e := by
    have : (({ f with T := T } : Fx).tm D ys) = { f with T := T } := by
      show ({ f with T := upd T D (.lst ys) } : Fx) = { f with T := T }
      rw [e0]
    rw [this]; exact F
  have hpa : ∀ i, f.pa i ≠ some D := fun i z => by
    obtain ⟨o, q⟩ := F.ob0 D (F.pb i D z).1
    have q : f.H0 D = some o := q
    rw [h0] at q; cases q
  obtain ⟨F2, m⟩ := FR.tmApp (zs := zs) F1 h0 hpa
  obtain ⟨hA, hH⟩ := F.tp D _ hT
  refine ⟨F2, ⟨fun a o h n => m.st a o h n, fun a o h => ?_⟩⟩
  by_cases z : a = D
  · exact ⟨.lst zs, by rw [z]; exact upd_same⟩
  · exact ⟨o, by rw [upd_ne z]; exact h⟩
abbrev NE := List (List D) → M D
def rdNE (g : GC) (ix : Nat) (m : NE) : TE := fun σ H Q => ∃ f A e rows p bs T, NR g f A H σ e ix rows p bs T ∧ match m rows e with
  | .ok d e' => ∀ v H', NR g f A H' σ e' ix rows p bs T → Step A H H' → R g A H' d v → Q v H'
  | _ => False
def neL (m : M D) : NE := fun _ => m
theorem ne_lift {ex : Expr} {ix : Nat} {m : M D} (h : CE g X W ex m) : PE X ex (rdNE g ix (neL m)) := PE.imp h fun σ H Q ⟨f, A, e, rows, p, bs, T, N, h⟩ => by
  refine ⟨{ f with T := T }, A, e, N.fr, ?_⟩
  have h : match m e with
    | .ok d e' => ∀ v H', NR g f A H' σ e' ix rows p bs T → Step A H H' → R g A H' d v → Q v H'
    | _ => False := h
  cases q : m e with
  | ok d e' => rw [q] at h; exact fun v H' F' S r => h v H' (N.step F' S rfl) S r
  | exc _ _ _ => rw [q] at h; exact h.elim
  | bad => rw [q] at h; exact h.elim
def at2 (rows : List (List D)) : D → D → Option D
  | .int a, .int b => (atI rows a).bind fun r => atI r b
  | _, _ => none
def neIx (ma mb' : M D) : NE := fun rows => mb ma fun a => mb mb' fun b => mo (at2 rows a b)
theorem atI_some {α : Type} {xs : List α} {i : Int} {v : α} (h : atI xs i = some v) : ∃ j, ixN xs.length i = some j ∧ xs[j]? = some v := by
  unfold atI at h
  cases q : ixN xs.length i with
  | none => rw [q] at h; cases h
  | some j => rw [q] at h; exact ⟨j, rfl, h⟩
theorem atI_of {α : Type} {xs : List α} {i : Int} {j : Nat} {v : α} (h : ixN xs.length i = some j) (h2 : xs[j]? = some v) : atI xs i = some v := by
  unfold atI; rw [h]; exact h2
theorem ne_ix {x : Str} {ix : Nat} {a b : Expr} {ma mb' : M D} {p0 q0 q1 : Pos} (hx : PE X (.Name x p0) (tVar ix)) (ha : CE g X W a ma) (hb : CE g X W b mb') (hsa : PlainIx a) (hsb : PlainIx b) : PE X (.Subscript (.Subscript (.Name x p0) a q0) b q1) (rdNE g ix (neIx ma mb')) :=
  PE.imp (pe_ix ix_seq (pe_ix ix_seq hx ha hsa) hb hsb) fun σ H Q ⟨f, A, e, rows, p, bs, T, N, h⟩ => by
    refine ⟨.ref p, N.at_, { f with T := T }, A, e, N.fr, ?_⟩
    unfold neIx mb at h
    cases q : ma e with
    | exc _ _ _ => rw [q] at h; exact h.elim
    | bad => rw [q] at h; exact h.elim
    | ok da e1 =>
      rw [q] at h
      simp only at h
      intro va H1 F1 S1 ra
      cases q2 : mb' e1 with
      | exc _ _ _ => rw [q2] at h; exact h.elim
      | bad => rw [q2] at h; exact h.elim
      | ok db e2 =>
        rw [q2] at h
        simp only at h
        cases q3 : at2 rows da db with
        | none => rw [q3] at h; exact h.elim
        | some d =>
          rw [q3] at h
          simp only [mo] at h
          cases da with
          | int i =>
            cases db with
            | int j =>
              obtain rfl : va = .int i := ra
              have q3 : ((atI rows i).bind fun r => atI r j) = some d := q3
              cases q4 : atI rows i with
              | none => rw [q4] at q3; cases q3
              | some r =>
                rw [q4] at q3
                have q3 : atI r j = some d := q3
                obtain ⟨k, k1, k2⟩ := atI_some q4
                obtain ⟨b', xs, b1, b2, b3⟩ := N.rows.get k2
                have N1 := N.step F1 S1 rfl
                have hp1 := (F1.tp p _ N.tp).2
                refine .inl ⟨p, bs.map V.ref, i, .ref b', rfl, rfl, SqL.of hp1, atI_of (by rw [List.length_map, N.rows.len]; exact k1) (by rw [List.getElem?_map, b1]; rfl), { f with T := T }, A, e1, F1, ?_⟩
                rw [q2]
                intro vb H2 F2 S2 rb
                obtain rfl : vb = .int j := rb
                have N2 := N1.step F2 S2 rfl
                obtain ⟨l, l1, l2⟩ := atI_some q3
                obtain ⟨b'', xs', c1, c2, c3⟩ := N2.rows.get k2
                rw [b1] at c1; cases c1
                rw [b2] at c2; cases c2
                obtain ⟨v, v1, v2⟩ := RL.get c3 l2
                exact .inl ⟨b', xs, j, v, rfl, rfl, SqL.of (F2.tp b' _ b2).2, atI_of (by rw [RL.length c3]; exact l1) v1, h v H2 N2 (S1.trans S2) v2⟩
            | _ => cases q3
          | _ => cases q3
def neOp (op : D → D → Option D) (ma mb' : NE) : NE := fun rows => mb (ma rows) fun a => mb (mb' rows) fun b => mo (op a b)
theorem ne_op {op : Operator} {r : R2} {a b : Expr} {ix : Nat} {ma mb' : NE} {o : D → D → Option D} {pos : Pos} (hr : OpR X (binaryOp op) r) (ho : OS g r o) (ha : PE X a (rdNE g ix ma)) (hb : PE X b (rdNE g ix mb')) : PE X (.BinOp a op b pos) (rdNE g ix (neOp o ma mb')) :=
  PE.imp (pe_op hr ha hb) fun σ H Q ⟨f, A, e, rows, p, bs, T, N, h⟩ => by
    refine ⟨f, A, e, rows, p, bs, T, N, ?_⟩
    unfold neOp mb at h
    cases q : ma rows e with
    | exc _ _ _ => rw [q] at h; exact h.elim
    | bad => rw [q] at h; exact h.elim
    | ok da e1 =>
      rw [q] at h
      simp only at h
      intro va H1 N1 S1 ra
      refine ⟨f, A, e1, rows, p, bs, T, N1, ?_⟩
      cases q2 : mb' rows e1 with
      | exc _ _ _ => rw [q2] at h; exact h.elim
      | bad => rw [q2] at h; exact h.elim
      | ok db e2 =>
        rw [q2] at h
        simp only at h
        intro vb H2 N2 S2 rb
        cases q3 : o da db with
        | none => rw [q3] at h; exact h.elim
        | some d =>
          rw [q3] at h
          simp only [mo] at h
          exact ho A H2 da db d va vb Q N2.fr.al (N1.fr.r S2 ra).rt rb.rt q3 fun v H3 s r => h v H3 (N2.step (N2.fr.same s) (.of s) rfl) (S1.trans (S2.trans (.of s))) r
abbrev NS := List (List D) → Ev → Option (List (List D) × Ev)
def rdN (g : GC) (ix : Nat) (m : NS) : TS := fun E σ H => ∃ f A e rows p bs T, NR g f A H σ e ix rows p bs T ∧ match m rows e with
  | some (rows', e') => ∀ σ' H' T', NR g f A H' σ' e' ix rows' p bs T' → Step A H H' → E.nx σ' H'
  | none => False
def nStore (ma mb' : M D) (mv : NE) : NS := fun rows e => match mv rows e with
  | .ok d e1 => (match ma e1 with
    | .ok (.int i) e2 => (match mb' e2 with
      | .ok (.int j) e3 => (match ixN rows.length i with
        | some k => (match rows[k]? with
          | some r => (match ixN r.length j with
            | some l => some (rows.set k (r.set l d), e3)
            | none => none)
          | none => none)
        | none => none)
      | _ => none)
    | _ => none)
  | _ => none
theorem n_store {x : Str} {ix : Nat} {a b v : Expr} {ma mb' : M D} {mv : NE} {p0 q0 q1 pos : Pos} (hx : PE X (.Name x p0) (tVar ix)) (ha : CE g X W a ma) (hb : CE g X W b mb') (hsa : PlainIx a) (hv : PE X v (rdNE g ix mv))
    (has : ∀ v, assign (.Subscript (.Subscript (.Name x p0) a q0) b q1) X.env v = (do
      let ov ← holding [v] (eval (.Subscript (.Name x p0) a q0) X.env)
      let iv ← holding [v, ov] (eval b X.env)
      standAt q1
      holding [v, ov, iv] (setItem ov iv v)
      release [v, ov, iv] []) := by intro _; rfl)
    (hs : swapsWithSole [.Subscript (.Subscript (.Name x p0) a q0) b q1] v pos.line X.env = pure false := by rfl) (hw : swappedStores [.Subscript (.Subscript (.Name x p0) a q0) b q1] v X.env = pure none := by rfl)
    (h1 : (assignEach [.Subscript (.Subscript (.Name x p0) a q0) b q1] X.env).map (·.2) = [assign (.Subscript (.Subscript (.Name x p0) a q0) b q1) X.env] := by rfl) :
    PS X (.Assign [.Subscript (.Subscript (.Name x p0) a q0) b q1] v pos) (rdN g ix (nStore ma mb' mv)) :=
  PS.imp (ps_asg hv (pg_sub (pe_ix ix_seq hx ha hsa) hb set_list has) hs hw h1) fun E σ H ⟨f, A, e, rows, p, bs, T, N, h⟩ => by
    refine ⟨f, A, e, rows, p, bs, T, N, ?_⟩
    unfold nStore at h
    cases q : mv rows e with
    | exc _ _ _ => rw [q] at h; exact h.elim
    | bad => rw [q] at h; exact h.elim
    | ok d e1 =>
      rw [q] at h
      simp only at h
      intro vd H1 N1 S1 rd
      refine ⟨.ref p, N1.at_, { f with T := T }, A, e1, N1.fr, ?_⟩
      cases q2 : ma e1 with
      | exc _ _ _ => rw [q2] at h; exact h.elim
      | bad => rw [q2] at h; exact h.elim
      | ok da e2 =>
        rw [q2] at h
        intro va H2 F2 S2 ra
        cases da with
        | int i =>
          simp only at h
          obtain rfl : va = .int i := ra
          have N2 := N1.step F2 S2 rfl
          cases q3 : mb' e2 with
          | exc _ _ _ => rw [q3] at h; exact h.elim
          | bad => rw [q3] at h; exact h.elim
          | ok db e3 =>
            rw [q3] at h
            cases db with
            | int j =>
              simp only at h
              cases k1 : ixN rows.length i with
              | none => rw [k1] at h; exact h.elim
              | some k =>
                simp only [k1] at h
                cases k2 : rows[k]? with
                | none => rw [k2] at h; exact h.elim
                | some r =>
                  simp only [k2] at h
                  cases l1 : ixN r.length j with
                  | none => rw [l1] at h; exact h.elim
                  | some l =>
                    simp only [l1] at h
                    obtain ⟨b', xs, b1, b2, b3⟩ := N2.rows.get k2
                    refine .inl ⟨p, bs.map V.ref, i, .ref b', rfl, rfl, SqL.of (F2.tp p _ N.tp).2, atI_of (by rw [List.length_map, N.rows.len]; exact k1) (by rw [List.getElem?_map, b1]; rfl), { f with T := T }, A, e2, F2, ?_⟩
                    rw [q3]
                    intro vb H3 F3 S3 rb
                    obtain rfl : vb = .int j := rb
                    have N3 := N2.step F3 S3 rfl
                    obtain ⟨b'', xs', c1, c2, c3⟩ := N3.rows.get k2
                    rw [b1] at c1; cases c1
                    rw [b2] at c2; cases c2
                    have rd3 := N1.fr.r (S2.trans S3) rd
                    obtain ⟨F4, S4⟩ := FR.tput (zs := xs.set l vd) F3 b2 (N.h0 b' (.inr (List.mem_of_getElem? b1))).1
                    refine ⟨b', xs, j, l, rfl, rfl, (F3.tp b' _ b2).2, by rw [RL.length c3]; exact l1, ?_⟩
                    refine h σ _ (upd T b' (.lst (xs.set l vd))) ⟨F4, N.at_, ?_, N.nd, N.np, N.h0, fun a o z => ?_, ?_, fun a o z => ?_⟩ (S1.trans (S2.trans (S3.trans S4)))
                    · rw [upd_ne (show p ≠ b' from fun z => N.np (by rw [z]; exact List.mem_of_getElem? b1))]; exact N.tp
                    · have y : a ≠ b' := fun y => by rw [y, (N.h0 b' (.inr (List.mem_of_getElem? b1))).2] at z; cases z
                      rw [upd_ne y]; exact N.sub a o z
                    · exact (NLs.set (RL.set rd3 l c3) N3.rows N.nd b1).mono (F3.mono S4)
                    · by_cases y : a = b'
                      · exact .inr (.inr (by rw [y]; exact List.mem_of_getElem? b1))
                      · rw [upd_ne y] at z; exact N.only a o z
            | _ => exact h.elim
        | _ => exact h.elim
def nSq (a b : NS) : NS := fun rows e => match a rows e with
  | some (r, e') => b r e'
  | none => none
theorem n_one {st : Stmt} {ix : Nat} {a : NS} (h : PS X st (rdN g ix a)) : PSs X [st] (rdN g ix a) := pss_one h
theorem n_cons {st : Stmt} {rest : List Stmt} {ix : Nat} {a b : NS} (h1 : PS X st (rdN g ix a)) (h2 : PSs X rest (rdN g ix b)) : PSs X (st :: rest) (rdN g ix (nSq a b)) := PSs.imp (pss_cons h1 h2) fun E σ H ⟨f, A, e, rows, p, bs, T, N, h⟩ => by
  refine ⟨f, A, e, rows, p, bs, T, N, ?_⟩
  unfold nSq at h
  cases q : a rows e with
  | none => rw [q] at h; exact h.elim
  | some z =>
    obtain ⟨r1, e1⟩ := z
    rw [q] at h
    simp only at h ⊢
    intro σ1 H1 T1 N1 S1
    refine ⟨f, A, e1, r1, p, bs, T1, N1, ?_⟩
    cases q2 : b r1 e1 with
    | none => rw [q2] at h; exact h.elim
    | some z =>
      obtain ⟨r2, e2⟩ := z
      rw [q2] at h
      exact fun σ2 H2 T2 N2 S2 => h σ2 H2 T2 N2 (S1.trans S2)
def nFl (bd : D → M Unit) (b : NS) : List D → NS
  | [] => fun rows e => some (rows, e)
  | d :: ds => fun rows e => match bd d e with
    | .ok _ e1 => (match b rows e1 with
      | some (r2, e2) => nFl bd b ds r2 e2
      | none => none)
    | _ => none
def nFor (mi : M (List D)) (bd : D → M Unit) (b : NS) : NS := fun rows e => match mi e with
  | .ok ds e1 => nFl bd b ds rows e1
  | _ => none
theorem n_for {tg iter : Expr} {body : List Stmt} {ix : Nat} {mi : M (List D)} {bd : D → M Unit} {b : NS} {pos : Pos} {sl : List Nat} (hix : ix ∉ sl) (hp : PassesOwn (model X.prog X.w) X.A X.env X.xe) (hc : X.calm = true) (hi : CI g X W tg iter mi) (hg : CG g X tg sl bd) (hb : PSs X body (rdN g ix b))
    (hs : ∀ x, foldedSetIterable iter X.env x = pure x := by intro _; rfl) : PS X (.For tg iter body [] pos) (rdN g ix (nFor mi bd b)) := PS.imp (ps_for hp hc hi hg hb hs) fun E σ H ⟨f, A, e, rows, p, bs, T, N, h⟩ => by
  refine ⟨{ f with T := T }, A, e, N.fr, ?_⟩
  unfold nFor at h
  cases q : mi e with
  | exc _ _ _ => rw [q] at h; exact h.elim
  | bad => rw [q] at h; exact h.elim
  | ok ds e1 =>
    rw [q] at h
    simp only at h
    intro J H1 F1 S1 wk
    have N1 := N.step F1 S1 rfl
    cases q2 : nFl bd b ds rows e1 with
    | none => rw [q2] at h; exact h.elim
    | some z =>
      obtain ⟨rf, ef⟩ := z
      rw [q2] at h
      simp only at h
      refine ⟨fun i m σ' H' => m = ds.length - i ∧ i ≤ ds.length ∧ ∃ e' rows' T', NR g f A H' σ' e' ix rows' p bs T' ∧ Step A H1 H' ∧ nFl bd b (ds.drop i) rows' e' = some (rf, ef), ⟨ds.length, rfl, Nat.zero_le _, e1, rows, T, N1, .refl, by rw [List.drop_zero]; exact q2⟩, ?_⟩
      rintro i m σ2 H2 ⟨rfl, hi, e2, rows2, T2, N2, S2, run⟩
      have M2 : Mono A H1 A H2 := F1.mono S2
      obtain ⟨w1, w2⟩ := wk A H2 i M2 N2.fr.al
      by_cases hlt : i < ds.length
      · right
        have hd : ds[i]? = some ds[i] := List.getElem?_eq_getElem hlt
        obtain ⟨g1, g2⟩ := w1 _ hd
        refine ⟨g1, fun σ' H' => ∃ e' rows' T', NR g f A H' σ' e' ix rows' p bs T' ∧ Step A H1 H' ∧ nFl bd b (ds.drop (i + 1)) rows' e' = some (rf, ef), fun σ' H' q => ⟨ds.length - (i + 1), by omega, rfl, hlt, q⟩, fun x H3 y => ?_⟩
        obtain ⟨s3, r3⟩ := g2 x H3 y
        have N3 := N2.step (N2.fr.same s3) (.of s3) rfl
        rw [List.drop_eq_getElem_cons hlt] at run
        unfold nFl at run
        refine ⟨{ f with T := T2 }, A, e2, ds[i], N3.fr, r3, ?_⟩
        cases q3 : bd ds[i] e2 with
        | exc _ _ _ => rw [q3] at run; cases run
        | bad => rw [q3] at run; cases run
        | ok u e3 =>
          rw [q3] at run
          simp only at run
          intro σ4 H4 F4 S4 sm ln
          have N4 := N3.step F4 S4 (sm ix hix)
          refine ⟨f, A, e3, rows2, p, bs, T2, N4, ?_⟩
          cases q4 : b rows2 e3 with
          | none => rw [q4] at run; cases run
          | some z =>
            obtain ⟨r5, e5⟩ := z
            rw [q4] at run
            simp only at run
            exact fun σ' H' T' N' S' => ⟨e5, r5, T', N', S2.trans ((Step.of s3).trans (S4.trans S')), run⟩
      · have e0 : i = ds.length := by omega
        left
        refine ⟨w2 (by omega), ?_⟩
        rw [e0, List.drop_length] at run
        unfold nFl at run
        cases run
        exact h σ2 H2 T2 N2 (S1.trans S2)
end
end Fw
namespace Fw
open L2 PyProof.Rows PySem PySem.Spec
section
variable {g : GC} {X : Cx} {W : WK}
theorem FR.setE {f : Fx} {A : Addr → Prop} {H : Hp} {σ : Sv} {e : Ev} (F : FR g f A H σ e) {i : Nat} {o : Option V} (h : f.pa i = none) : FR g f A H (σ.set i o) (e.set i .emp) where
  len := by rw [List.length_set, List.length_set]; exact F.len
  sl := fun j s o h1 h2 => by
    rcases get_set h1 with ⟨rfl, _, rfl⟩ | ⟨n, h1⟩
    · exact h
    · rw [List.getElem?_set_ne n] at h2
      exact F.sl j s o h1 h2
  inj := fun a b s t p h1 h2 b1 b2 s1 s2 => by
    rcases get_set h1 with ⟨_, _, rfl⟩ | ⟨n1, h1⟩
    · cases b1
    · rcases get_set h2 with ⟨_, _, rfl⟩ | ⟨n2, h2⟩
      · cases b2
      · rw [List.getElem?_set_ne n1] at s1; rw [List.getElem?_set_ne n2] at s2
        exact F.inj a b s t p h1 h2 b1 b2 s1 s2
  nt := fun a s p h1 b1 s1 => by
    rcases get_set h1 with ⟨_, _, rfl⟩ | ⟨n1, h1⟩
    · cases b1
    · rw [List.getElem?_set_ne n1] at s1
      exact F.nt a s p h1 b1 s1
  tp := F.tp
  ob := F.ob
  ob0 := F.ob0
  pb := fun i p q => by rw [List.length_set]; exact F.pb i p q
  al := F.al
  keep := F.keep
  tb := F.tb
  iv := F.iv
theorem FR.less2 {f : Fx} {T : Hp} {A A' : Addr → Prop} {H : Hp} {σ : Sv} {e : Ev} (F : FR g { f with T := T } A' H σ e) (sub : ∀ a o, f.T a = some o → T a = some o) (hA : ∀ a, A a → A' a) (hT : ∀ a, A' a → ¬ A a → (∃ o, T a = some o) ∧ f.H0 a = none ∧ f.T a = none) : FR g f A H σ e := by
  have m : Mono A' H A H := ⟨F.al, fun _ _ h _ => h, fun a _ z _ => hA a z⟩
  have bx : ∀ {i : Nat} {s : Sl} {p : Addr}, e[i]? = some s → s.isBox = true → σ[i]? = some (some (.ref p)) → A p := fun {i s p} h b q => by
    have h1 : A' p := F.boxA h b q
    refine Classical.byContradiction fun n => ?_
    obtain ⟨⟨o, z⟩, _⟩ := hT p h1 n
    have := F.nt i s p h b q
    have this : T p = none := this
    rw [z] at this; cases this
  refine ⟨F.len, fun i s o h1 h2 => ?_, F.inj, fun i s p h1 b1 s1 => ?_, fun a o z => ?_, fun a z => ?_, F.ob0, F.pb, fun a z => F.al a (hA a z), F.keep, fun q z => by
    obtain ⟨z1, z2, z3⟩ := F.tb q z
    refine ⟨Classical.byContradiction fun n => ?_, noT_sub sub z2, z3⟩
    obtain ⟨⟨o, y⟩, _⟩ := hT _ z1 n
    obtain ⟨ps, k1, _⟩ := z3
    have k2 := (F.tp _ _ y).2
    rw [k2] at k1; cases k1
    exact z2 ps y, g.ivM m.w F.iv⟩
  · have q := F.sl i s o h1 h2
    cases s with
    | emp => exact q
    | val d => obtain ⟨a, v, b, c⟩ := q; exact ⟨a, v, b, R.mono m d c⟩
    | box d => obtain ⟨a, p, b, c, c0, dd⟩ := q; exact ⟨a, p, b, bx h1 rfl (by rw [h2, b]), c0, Bx.mono m (fun _ z => z) dd⟩
    | pbox d => obtain ⟨p, a, b, c, dd⟩ := q; exact ⟨p, a, b, bx h1 rfl (by rw [h2, b]), Bx.mono m (fun _ z => z) dd⟩
  · have q : T p = none := F.nt i s p h1 b1 s1
    cases z : f.T p with
    | none => rfl
    | some o => rw [sub p o z] at q; cases q
  · obtain ⟨q1, q2⟩ := F.tp a o (sub a o z)
    refine ⟨Classical.byContradiction fun n => ?_, q2⟩
    rw [(hT a q1 n).2.2] at z; cases z
  · refine Classical.byContradiction fun n => ?_
    obtain ⟨o, q⟩ := F.ob0 a z
    have q : f.H0 a = some o := q
    rw [(hT a (F.ob a z) n).2.1] at q; cases q
theorem FR.back2 {f : Fx} {T : Hp} {A A' : Addr → Prop} {H H' : Hp} {σ : Sv} {e e' : Ev} {own : List Nat} (F : FR g f A H σ e) (ho : ownOk e own = true) (F' : FR g { f with T := T } A' H' (L2.wipe σ own) e') (m : Mono A H A' H') : FR g { f with T := T } A' H' σ (backE e e' own) := by
  have hl : e'.length = e.length := by rw [← F'.len, wipe_length, F.len]
  have own_no : ∀ {j : Nat} {s : Sl}, j ∈ own → e[j]? = some s → s.isBox = true → False := fun {j s} hj h b => by
    have q := List.all_eq_true.mp ho j hj
    simp only [h] at q
    cases s with
    | emp => cases b
    | val _ => cases b
    | box _ => cases q
    | pbox _ => cases q
  have bx : ∀ {j : Nat} {s : Sl}, (backE e e' own)[j]? = some s → s.isBox = true → j ∉ own ∧ e'[j]? = some s := fun {j s} h b => by
    rcases backE_get hl h with ⟨h1, h2⟩ | h
    · exact (own_no h1 h2 b).elim
    · exact h
  refine ⟨by rw [backE_length, hl]; exact F.len, fun j s o h1 h2 => ?_, fun i j s t p h1 h2 b1 b2 s1 s2 => ?_, fun j s p h1 b1 s1 => ?_, F'.tp, F'.ob, F.ob0, fun i p h => by rw [backE_length, hl]; exact F.pb i p h, F'.al, F'.keep, F'.tb, F'.iv⟩
  · rcases backE_get hl h1 with ⟨h3, h4⟩ | ⟨h3, h4⟩
    · have q := F.sl j s o h4 h2
      cases s with
      | emp => exact q
      | val d => obtain ⟨a, v, b, c⟩ := q; exact ⟨a, v, b, R.mono m d c⟩
      | box d => exact (own_no h3 h4 rfl).elim
      | pbox d => exact (own_no h3 h4 rfl).elim
    · exact F'.sl j s o h4 (by rw [wipe_get h3]; exact h2)
  · obtain ⟨o1, q1⟩ := bx h1 b1
    obtain ⟨o2, q2⟩ := bx h2 b2
    exact F'.inj i j s t p q1 q2 b1 b2 (by rw [wipe_get o1]; exact s1) (by rw [wipe_get o2]; exact s2)
  · obtain ⟨o1, q1⟩ := bx h1 b1
    exact F'.nt j s p q1 b1 (by rw [wipe_get o1]; exact s1)
def nLcL (own : List Nat) (bd : D → M Unit) (el : M (List D)) : List D → List (List D) → M (List (List D))
  | [], acc => fun e => .ok acc e
  | d :: ds, acc => fun e => match bd d e with
    | .ok _ e1 => (match el e1 with
      | .ok y e3 => if acc.length < 1000000 then nLcL own bd el ds (acc ++ [y]) (wipeE e3 own) else .bad
      | _ => .bad)
    | _ => .bad
def nl (rows : List (List D)) : D := .lst (rows.map D.lst)
def mNst (i : Nat) (mi : M (List D)) (own : List Nat) (bd : D → M Unit) (el : M (List D)) (ns : NS) (rest : M Fl) : M Fl := fun e => match mi e with
  | .ok ds e0 => if ownOk e0 own = true then (match nLcL own bd el ds [] (wipeE e0 own) with
    | .ok rows e1 => (match (backE e0 e1 own)[i]? with
      | some (.pbox _) => .bad
      | some _ => (match ns rows ((backE e0 e1 own).set i .emp) with
        | some (rows2, e2) => rest (e2.set i (.val (nl rows2)))
        | none => .bad)
      | none => .bad)
    | _ => .bad) else .bad
  | _ => .bad
theorem NLs.rl {A A' : Addr → Prop} {H T : Hp} (m : Mono A H A' H) (hT : ∀ a o, T a = some o → H a = some o) : ∀ {rows : List (List D)} {bs : List Addr}, NLs g A H T rows bs → (∀ b ∈ bs, ¬ A' b) → RL g A' H (rows.map D.lst) (bs.map V.ref)
  | [], _, h, _ => by rw [show _ = [] from h]; rfl
  | r :: rs, _, ⟨b, cs, xs, e, h1, h2, h3⟩, n => by
    subst e
    exact ⟨.ref b, cs.map V.ref, rfl, ⟨b, xs, rfl, hT b _ h1, n b List.mem_cons_self, RL.mono m r h2⟩, NLs.rl m hT h3 fun c hc => n c (List.mem_cons_of_mem _ hc)⟩
theorem cb_nestG {i : Nat} {own sl : List Nat} {s1 : Stmt} {rest : List Stmt} {mi : M (List D)} {bd : D → M Unit} {el : M (List D)} {ns : NS} {mr : M Fl} (hsl : ∀ j ∈ sl, j ∈ own)
    (h1 : PS X s1 (tAsg (tLc (rdI g W mi) (rdG g sl bd) (rdT g W0 (mp true)) (rdF g W0 el) own) (gName i))) (h23 : PSs X rest (tSeq (rdN g i ns) (rdS g W mr))) : CB g X W (s1 :: rest) (mNst i mi own bd el ns mr) :=
  PSs.imp (pss_cons h1 h23) fun E σ H ⟨f, A, e, F, h⟩ => by
    unfold mNst at h
    refine ⟨f, A, e, F, ?_⟩
    cases qi : mi e with
    | exc _ _ _ => rw [qi] at h; exact h.elim
    | bad => rw [qi] at h; exact h.elim
    | ok ds e0 =>
    rw [qi] at h
    simp only at h
    intro J H1 F1 S1 wk D hD
    by_cases ho : ownOk e0 own = true
    case neg => rw [if_neg ho] at h; exact h.elim
    rw [if_pos ho] at h
    have hpa : ∀ i ∈ own, f.pa i = none := fun i hi => by
      have q := List.all_eq_true.mp ho i hi
      cases z : e0[i]? with
      | none => simp only [z] at q; cases q
      | some s =>
        simp only [z] at q
        refine F1.pa0 z fun d y => ?_
        rw [y] at q; cases q
    have h0D := F1.h0 hD
    have fTD : f.T D = none := by
      cases z : f.T D with
      | none => rfl
      | some o => have := (F1.tp D o z).2; rw [hD] at this; cases this
    cases hr : nLcL own bd el ds [] (wipeE e0 own) with
    | exc _ _ _ => rw [hr] at h; exact h.elim
    | bad => rw [hr] at h; exact h.elim
    | ok rows ef =>
    rw [hr] at h
    simp only at h
    have F2 : FR g (f.tm D []) (add1 A D) (upd H1 D (.lst [])) (L2.wipe σ own) (wipeE e0 own) := FR.wipe (F1.tmp hD) hpa
    let AA : List Addr → Addr → Prop := fun bs a => A a ∨ a = D ∨ a ∈ bs
    have A0 : AA [] = add1 A D := funext fun a => propext ⟨fun z => z.elim .inl fun z => z.elim .inr (by simp), fun z => z.elim .inl fun z => .inr (.inl z)⟩
    refine ⟨fun i m H' => m = ds.length - i ∧ i ≤ ds.length ∧ ∃ e' acc bs T, FR g { f with T := T } (AA bs) H' (L2.wipe σ own) e' ∧ Mono A H1 (AA bs) H' ∧ T D = some (.lst (bs.map V.ref)) ∧ bs.Nodup ∧ D ∉ bs ∧ (∀ b ∈ bs, H1 b = none) ∧ (∀ a o, f.T a = some o → T a = some o) ∧ (∀ a o, T a = some o → f.T a = some o ∨ a = D ∨ a ∈ bs) ∧ NLs g (AA bs) H' T acc bs ∧ nLcL own bd el (ds.drop i) acc e' = .ok rows ef,
      ⟨ds.length, rfl, Nat.zero_le _, wipeE e0 own, [], [], upd f.T D (.lst []), by rw [A0]; exact F2, ?_, upd_same, List.nodup_nil, (by simp), (by simp), fun a o z => ?_, fun a o z => ?_, rfl, by rw [List.drop_zero]; exact hr⟩, ?_⟩
    · exact ⟨F1.al, fun a o z n => by rw [upd_ne (fun y => by rw [y, hD] at z; cases z)]; exact z, fun a o z q => z.elim id fun z => z.elim (fun z => by rw [z, hD] at q; cases q) (by simp)⟩
    · rw [upd_ne (fun y => by rw [y, fTD] at z; cases z)]; exact z
    · by_cases y : a = D
      · exact .inr (.inl y)
      · rw [upd_ne y] at z; exact .inl z
    rintro k m H2 ⟨rfl, hk, e2, acc, bs, T, F3, M3, TD, nd, nD, hbs, sub, only, N3, run⟩
    obtain ⟨w1, w2⟩ := wk (AA bs) H2 k M3 F3.al
    by_cases hlt : k < ds.length
    · right
      have hd : ds[k]? = some ds[k] := List.getElem?_eq_getElem hlt
      obtain ⟨g1, g2⟩ := w1 _ hd
      rw [List.drop_eq_getElem_cons hlt] at run
      unfold nLcL at run
      refine ⟨g1, fun H' => ∃ e' acc bs T, FR g { f with T := T } (AA bs) H' (L2.wipe σ own) e' ∧ Mono A H1 (AA bs) H' ∧ T D = some (.lst (bs.map V.ref)) ∧ bs.Nodup ∧ D ∉ bs ∧ (∀ b ∈ bs, H1 b = none) ∧ (∀ a o, f.T a = some o → T a = some o) ∧ (∀ a o, T a = some o → f.T a = some o ∨ a = D ∨ a ∈ bs) ∧ NLs g (AA bs) H' T acc bs ∧ nLcL own bd el (ds.drop (k + 1)) acc e' = .ok rows ef,
        fun H' q => ⟨ds.length - (k + 1), by omega, rfl, hlt, q⟩, fun x H3 y => ?_⟩
      obtain ⟨s3, rx⟩ := g2 x H3 y
      have F4 := F3.same s3
      refine ⟨{ f with T := T }, AA bs, e2, ds[k], F4, rx, ?_⟩
      cases q : bd ds[k] e2 with
      | exc _ _ _ => simp only [q] at run; cases run
      | bad => simp only [q] at run; cases run
      | ok u e3 =>
        simp only [q] at run
        intro σ4 H4 F5 S5 sm ln
        have hw : L2.wipe σ4 own = L2.wipe σ own := by
          rw [← wipe_wipe (σ := σ)]
          exact wipe_eq ln (sl := sl) sm hsl
        refine ⟨hw, { f with T := T }, AA bs, e3, F5, ?_⟩
        intro H5 F6 S6
        rw [if_pos rfl]
        refine ⟨{ f with T := T }, AA bs, e3, F6, ?_⟩
        cases q3 : el e3 with
        | exc _ _ _ => simp only [q3] at run; cases run
        | bad => simp only [q3] at run; cases run
        | ok yd e5 =>
          simp only [q3] at run
          intro p xs H6 F7 F8 n S7 hn hp ry
          by_cases hz : acc.length < 1000000
          case neg => rw [if_neg hz] at run; cases run
          rw [if_pos hz] at run
          have SS : Step (AA bs) H2 H6 := (Step.of s3).trans (S5.trans (S6.trans S7))
          have MM : Mono A H1 (AA bs) H6 := M3.trans (F3.mono SS)
          have hDl := (F7.tp D _ TD).2
          have lb : bs.length = acc.length := N3.len
          have h5p : H2 p = none := Step.none ((Step.of s3).trans (S5.trans S6)) hn
          have h1p : H1 p = none := by
            cases z : H1 p with
            | none => rfl
            | some o =>
              by_cases na : A p
              · obtain ⟨o2, z2, _⟩ := F3.al p (.inl na); rw [h5p] at z2; cases z2
              · have := M3.st p o z na; rw [h5p] at this; cases this
          have npD : p ≠ D := fun z => n (.inr (.inl z))
          have npb : p ∉ bs := fun z => n (.inr (.inr z))
          have F9 := FR.asT F7 F8 n hp
          have F9 : FR g { f with T := upd T p (.lst xs) } (add1 (AA bs) p) H6 σ4 e5 := F9
          have TD2 : upd T p (.lst xs) D = some (.lst (bs.map V.ref)) := by rw [upd_ne (Ne.symm npD)]; exact TD
          obtain ⟨F10, S10⟩ := FR.tput (zs := (bs ++ [p]).map V.ref) F9 TD2 h0D
          have A1 : add1 (AA bs) p = AA (bs ++ [p]) := funext fun a => propext ⟨fun z => z.elim (fun z => z.elim .inl fun z => z.elim (fun z => .inr (.inl z)) fun z => .inr (.inr (List.mem_append_left _ z))) fun z => .inr (.inr (List.mem_append_right _ (by rw [z]; exact List.mem_singleton.mpr rfl))), fun z => z.elim (fun z => .inl (.inl z)) fun z => z.elim (fun z => .inl (.inr (.inl z))) fun z => (List.mem_append.mp z).elim (fun z => .inl (.inr (.inr z))) fun z => .inr (List.mem_singleton.mp z)⟩
          have M9 : Mono (AA bs) H2 (AA (bs ++ [p])) (upd H6 D (.lst ((bs ++ [p]).map V.ref))) := ⟨F3.al, fun a o z nn => by rw [upd_ne (fun y => nn (.inr (.inl y)))]; exact SS.st a o z nn, fun a o z q => by
            rcases z with z | z | z
            · exact .inl z
            · exact .inr (.inl z)
            · rcases List.mem_append.mp z with z | z
              · exact .inr (.inr z)
              · rw [List.mem_singleton.mp z, h5p] at q; cases q⟩
          refine ⟨bs.map V.ref, hDl, by rw [List.length_map, lb]; have := million; omega, ?_⟩
          have F11 := FR.wipe F10 (own := own) hpa
          rw [hw, A1] at F11
          have eq1 : bs.map V.ref ++ [V.ref p] = (bs ++ [p]).map V.ref := by rw [List.map_append]; rfl
          rw [eq1]
          refine ⟨wipeE e5 own, acc ++ [yd], bs ++ [p], _, F11, M3.trans M9, upd_same, ?_, ?_, ?_, ?_, ?_, ?_, run⟩
          · refine List.nodup_append.mpr ⟨nd, by simp, ?_⟩
            intro a ha b hb y
            rw [List.mem_singleton.mp hb] at y
            exact npb (y ▸ ha)
          · intro z
            rcases List.mem_append.mp z with z | z
            · exact nD z
            · exact npD (List.mem_singleton.mp z).symm
          · intro b hb
            rcases List.mem_append.mp hb with z | z
            · exact hbs b z
            · rw [List.mem_singleton.mp z]; exact h1p
          · intro a o z
            have y1 : a ≠ D := fun y => by rw [y, fTD] at z; cases z
            have y2 : a ≠ p := fun y => by
              have := (F1.tp a o z).2
              rw [y, h1p] at this; cases this
            rw [upd_ne y1, upd_ne y2]; exact sub a o z
          · intro a o z
            by_cases y1 : a = D
            · exact .inr (.inl y1)
            by_cases y2 : a = p
            · exact .inr (.inr (List.mem_append_right _ (by rw [y2]; exact List.mem_singleton.mpr rfl)))
            rw [upd_ne y1, upd_ne y2] at z
            exact (only a o z).imp id fun w => w.imp id fun w => List.mem_append_left _ w
          · refine NLs.snoc (xs := xs) (by rw [upd_ne npD, upd_same]) ?_ ((N3.mono M9).swap fun b hb => ?_)
            · rw [← A1]; exact RL.mono (F9.mono S10) yd ry
            · have y1 : b ≠ D := fun y => nD (y ▸ hb)
              have y2 : b ≠ p := fun y => npb (y ▸ hb)
              rw [upd_ne y1, upd_ne y2]
    · left
      have e9 : k = ds.length := by omega
      refine ⟨w2 (by omega), ?_⟩
      rw [e9, List.drop_length] at run
      unfold nLcL at run
      have r1 : acc = rows ∧ e2 = ef := by injection run with a b; exact ⟨a, b⟩
      obtain ⟨rfl, rfl⟩ := r1
      have F4 := FR.back2 F1 ho F3 M3
      cases qs : (backE e0 e2 own)[i]? with
      | none => rw [qs] at h; exact h.elim
      | some s =>
        rw [qs] at h
        have hb : (∀ d, s ≠ .pbox d) ∧ (match ns acc ((backE e0 e2 own).set i .emp) with
            | some (rows2, e2) => FinS g W f A H E (mr (e2.set i (.val (nl rows2))))
            | none => False) := by
          cases s with
          | pbox _ => exact h.elim
          | emp => refine ⟨fun d => (by simp), ?_⟩; revert h; simp only; split <;> exact id
          | val _ => refine ⟨fun d => (by simp), ?_⟩; revert h; simp only; split <;> exact id
          | box _ => refine ⟨fun d => (by simp), ?_⟩; revert h; simp only; split <;> exact id
        obtain ⟨np, h⟩ := hb
        have pa : f.pa i = none := F4.pa0 qs np
        have F5 := FR.setE (o := some (.ref D)) F4 (i := i) pa
        have li : i < σ.length := by rw [F4.len]; exact (List.getElem?_eq_some_iff.mp qs).1
        have N5 : NR g f (AA bs) H2 (σ.set i (some (.ref D))) ((backE e0 e2 own).set i .emp) i acc D bs T := ⟨F5, List.getElem?_set_self li, TD, nd, nD, fun a z => ?_, sub, N3, only⟩
        · refine ⟨f, AA bs, _, acc, D, bs, T, N5, ?_⟩
          cases qn : ns acc ((backE e0 e2 own).set i .emp) with
          | none => rw [qn] at h; exact h.elim
          | some z =>
            obtain ⟨rows2, e6⟩ := z
            rw [qn] at h
            simp only at h ⊢
            intro σ6 H6 T6 N6 S6
            have nA : ∀ a, a = D ∨ a ∈ bs → ¬ A a := fun a z => by
              rcases z with rfl | z
              · exact F1.nA hD
              · exact F1.nA (hbs a z)
            have F7 : FR g f A H6 σ6 e6 := FR.less2 N6.fr N6.sub (fun a z => .inl z) fun a z n => by
              have z2 : a = D ∨ a ∈ bs := z.elim (fun z => absurd z n) id
              refine ⟨?_, N6.h0 a z2⟩
              rcases z2 with rfl | z2
              · exact ⟨_, N6.tp⟩
              · obtain ⟨xs, q⟩ := N6.rows.all a z2; exact ⟨_, q⟩
            have m7 : Mono (AA bs) H6 A H6 := ⟨N6.fr.al, fun _ _ z _ => z, fun a _ z _ => .inl z⟩
            have r7 : R g A H6 (nl rows2) (.ref D) := ⟨D, bs.map V.ref, rfl, (N6.fr.tp D _ N6.tp).2, nA D (.inl rfl), NLs.rl m7 (fun a o z => (N6.fr.tp a o z).2) N6.rows fun b hb => nA b (.inr hb)⟩
            have F8 := FR.setV F7 (i := i) pa r7
            have e8 : σ6.set i (some (.ref D)) = σ6 := by
              have := N6.at_
              exact List.ext_getElem? fun j => by
                by_cases y : i = j
                · subst y
                  rw [List.getElem?_set_self (List.getElem?_eq_some_iff.mp this).1, this]
                · rw [List.getElem?_set_ne y]
            rw [e8] at F8
            have st8 : ∀ a o, H a = some o → ¬ A a → H6 a = some o := fun a o z n => by
              have z1 := S1.st a o z n
              have z2 := M3.st a o z1 n
              refine S6.st a o z2 fun y => ?_
              rcases y with y | y | y
              · exact n y
              · rw [y, hD] at z1; cases z1
              · rw [hbs a y] at z1; cases z1
            have m8 : Mono A H A H6 := ⟨F.al, st8, fun a o z _ => z⟩
            exact ⟨f, A, _, F8, h.from m8⟩
        · rcases z with rfl | z
          · exact ⟨h0D, fTD⟩
          · have z1 := hbs a z
            refine ⟨F1.h0 z1, ?_⟩
            cases y : f.T a with
            | none => rfl
            | some o => have := (F1.tp a o y).2; rw [z1] at this; cases this
theorem cb_nest {i : Nat} {own sl : List Nat} {s1 s2 : Stmt} {rest : List Stmt} {mi : M (List D)} {bd : D → M Unit} {el : M (List D)} {ns : NS} {mr : M Fl} (hsl : ∀ j ∈ sl, j ∈ own)
    (h1 : PS X s1 (tAsg (tLc (rdI g W mi) (rdG g sl bd) (rdT g W0 (mp true)) (rdF g W0 el) own) (gName i))) (h2 : PS X s2 (rdN g i ns)) (h3 : CB g X W rest mr) : CB g X W (s1 :: s2 :: rest) (mNst i mi own bd el ns mr) :=
  cb_nestG hsl h1 (pss_cons h2 h3)
end
end Fw
namespace Fw
open L2 PyProof.Rows PySem PySem.Spec
inductive Kd where
  | l | t
def KIt : Kd → Heap → Addr → Addr → Nat → Prop
  | .l, h, it, a, i => h.IsListIter it a i
  | .t, h, it, a, i => h.IsTupleIter it a i
def KLs : Kd → Heap → Addr → Array Value → Prop
  | .l, h, a, xs => h.IsList a xs
  | .t, h, a, xs => h.IsTuple a xs
def KSq (K : PySem.W.Frag) : Kd → Hp → Addr → List V → Prop
  | .l, H, a, xs => SqL K H a xs
  | .t, H, a, xs => SqT K H a xs
def Kd.cls : Kd → String
  | .l => "list_iterator"
  | .t => "tuple_iterator"
def kObj (k : Kd) (a : Addr) : Obj := { cls := .type k.cls, data := .fields #[.ref a, .int 0 0] }
section
variable {P : Program} {w : World} {A : Around}
theorem k_draws (k : Kd) (hh : A.handled = none) (it a : Addr) (ne : a ≠ it) (xs : Array Value) : Draws P w A it [it, a] xs.size (fun i v => xs[i]? = some v) (fun i h => KIt k h it a i ∧ KLs k h a xs) :=
  match k with
  | .l => Draws.list hh it a ne xs
  | .t => Draws.tuple hh it a ne xs
theorem k_begins (k : Kd) (a : Addr) (xs : Array Value) : Begins (.ref a) (kObj k a) fun h => KLs k h a xs :=
  match k with
  | .l => begins_list a xs
  | .t => begins_tuple a xs
theorem KIt.keep {k : Kd} {h h' : Heap} {it a : Addr} {i : Nat} (z : KIt k h it a i) (q : ∀ o, h.get? it = some o → h'.get? it = some o) : KIt k h' it a i :=
  match k, z with
  | .l, z => z.at q
  | .t, z => z.at q
theorem KIt.cell {k : Kd} {h : Heap} {it a : Addr} {i : Nat} (z : KIt k h it a i) : ∃ o, h.get? it = some o ∧ ∀ v, o.data ≠ .cell v :=
  match k, z with
  | .l, ⟨o, e, _, d⟩ => ⟨o, e, fun v q => by rw [d] at q; cases q⟩
  | .t, ⟨o, e, _, d⟩ => ⟨o, e, fun v q => by rw [d] at q; cases q⟩
theorem KIt.start {k : Kd} {h : Heap} {it a : Addr} (z : h.get? it = some (kObj k a)) : KIt k h it a 0 :=
  match k, z with
  | .l, z => ⟨_, z, rfl, rfl⟩
  | .t, z => ⟨_, z, rfl, rfl⟩
theorem KLs.lt {k : Kd} {h : Heap} {a : Addr} {xs : Array Value} (z : KLs k h a xs) : a < h.objs.size :=
  match k, z with
  | .l, ⟨o, e, _⟩ => Heap.lt_size e
  | .t, ⟨o, e, _⟩ => Heap.lt_size e
end
section
variable {X : Cx} {pins : List (Addr × Obj)} {σ : L2.St} {H : Hp} {s : Shared}
theorem k_inv {k : Kd} {a : Addr} {xs : List V} (I : Inv X pins σ H s) (z : KSq X.K k H a xs) : ∃ us : List Value, Vals xs us ∧ KLs k s.heap a us.toArray :=
  match k, z with
  | .l, z => let ⟨us, r, p, _⟩ := I.list z; ⟨us, r, p.isList⟩
  | .t, z => let ⟨us, r, p, _⟩ := I.tuple z; ⟨us, r, p⟩
theorem k_inj {k : Kd} {a : Addr} {xs ys : List V} (I : Inv X pins σ H s) (z : KSq X.K k H a xs) (q : KSq X.K k H a ys) : xs = ys :=
  match k, z, q with
  | .l, z, q => I.list_inj z q
  | .t, z, q => I.tuple_inj z q
end
def Ip (K : PySem.W.Frag) (k1 k2 : Kd) (a b : Addr) : It where
  go := fun i H => ∃ (xs ys : List V) (x y : V), KSq K k1 H a xs ∧ KSq K k2 H b ys ∧ xs[i]? = some x ∧ ys[i]? = some y
  yld := fun i H v H' => ∃ T x y, v = .ref T ∧ H T = none ∧ H' = upd H T (.tup [x, y]) ∧ (∀ xs, KSq K k1 H a xs → xs[i]? = some x) ∧ ∀ ys, KSq K k2 H b ys → ys[i]? = some y
  stop := fun i H => ∃ xs ys : List V, KSq K k1 H a xs ∧ KSq K k2 H b ys ∧ i ≤ xs.length ∧ i ≤ ys.length ∧ (xs.length = i ∨ ys.length = i)
theorem sep2 (n a b : Nat) (ha : a < n) (hb : b < n) : ZipSep2 (n + 4) (n + 2) (n + 3) n (n + 1) [n, a] [n + 1, b] := by
  constructor
  all_goals first
    | exact List.mem_cons_self
    | (intro (e : (_ : Nat) = _); omega)
    | (intro e
       rcases List.mem_cons.mp e with e | e
       · have e : (_ : Nat) = _ := e
         omega
       · have e : (_ : Nat) = _ := List.mem_singleton.mp e
         omega)
theorem turn_pairs {P : Program} {w : World} {K : PySem.W.Frag} {elts : List Expr} {kk : Nat} {tpos : Pos} {k1 k2 : Kd} {a b z TI TO c1 c2 : Addr} (S : ZipSep2 z TI TO c1 c2 [c1, a] [c2, b]) (m1 : a ≠ c1) (m2 : b ≠ c2) :
    Turn P w K (.Tuple elts kk tpos) (Ip K k1 k2 a b) [z, TI, TO, c1, c2] z (fun i h => IsZip h z TI TO .none ∧ IsTupOf2 h TI (.ref c1) (.ref c2) ∧ (∃ x y, IsTupOf2 h TO x y) ∧ KIt k1 h c1 a i ∧ KIt k2 h c2 b i) where
  mem := List.mem_cons_self
  obj := fun i h st c hc => by
    obtain ⟨q1, q2, ⟨x, y, q3⟩, q4, q5⟩ := st
    have hc : c = z ∨ c = TI ∨ c = TO ∨ c = c1 ∨ c = c2 := by simpa using hc
    rcases hc with e | e | e | e | e <;> subst e
    · exact ⟨_, q1, nofun⟩
    · exact ⟨_, q2, nofun⟩
    · exact ⟨_, q3, nofun⟩
    · exact q4.cell
    · exact q5.cell
  keep := fun i h h' st k => by
    obtain ⟨q1, q2, ⟨x, y, q3⟩, q4, q5⟩ := st
    exact ⟨k z (by simp) _ q1, k TI (by simp) _ q2, ⟨x, y, k TO (by simp) _ q3⟩, q4.keep (k c1 (by simp)), q5.keep (k c2 (by simp))⟩
  item := by
    intro X hP hw hK hc i pins s σ H E I hf st hg
    cases hP; cases hw; cases hK
    obtain ⟨q1, q2, ⟨x0, y0, q3⟩, q4, q5⟩ := st
    obtain ⟨xs, ys, x, y, sx, sy, ex, ey⟩ := hg
    obtain ⟨us, rx, lx⟩ := k_inv I sx
    obtain ⟨vs, ry, ly⟩ := k_inv I sy
    obtain ⟨u, eu, ru⟩ := rx.get ex
    obtain ⟨v, ev, rv⟩ := ry.get ey
    have hh : X.A.in1.handled = none := I.ok.hd hc
    have n1 : i < us.toArray.size := by simpa using (List.getElem?_eq_some_iff.mp eu).1
    have n2 : i < vs.toArray.size := by simpa using (List.getElem?_eq_some_iff.mp ev).1
    have zl : z < s.heap.objs.size := Heap.lt_size q1
    refine wpAny_pyNext_zipD2_item S (k_draws k1 hh c1 a m1 us.toArray) (k_draws k2 hh c2 b m2 vs.toArray) q1 q2 q3 ⟨q4, lx⟩ ⟨q5, ly⟩ n1 n2 fun y1 y2 h1 tk p1 p2 z1 to1 t1 t2 pr _ kp => ?_
    have e1 : y1 = u := Option.some.inj (p1.symm.trans (by simpa using eu))
    have e2 : y2 = v := Option.some.inj (p2.symm.trans (by simpa using ev))
    subst e1 e2
    refine ⟨_, rfl, wpAny_letOwnedTupleGo_zip (s := ⟨h1, s.gens, s.drawn, tk, s.os⟩) z1 fun h2 z2 sb => ?_⟩
    have other : ∀ c, c ≠ z → ∀ o, h1.get? c = some o → h2.get? c = some o := fun c n o q => (sb.2 c n).trans q
    have pair : h2.get? s.heap.objs.size = some { cls := .type "tuple", data := .seq #[y1, y2] } := other _ (Nat.ne_of_gt zl) _ pr
    have new : ObjOk X.prog X.w (upd H s.heap.objs.size (.tup [x, y])) h2 s.heap.objs.size (.tup [x, y]) := ⟨show 2 ≤ sizeLine by decide, [y1, y2], .cons ru (.cons rv .nil), _, pair, rfl, _, rfl⟩
    have J := I.turnedNew (t' := tk) (ch := [z, TI, TO, c1, c2]) (T := s.heap.objs.size) (h' := h2) (fun c o nc q => other c (fun e => nc (by simp [e])) o (kp c o (fun e => nc (by simp [e])) (fun e => nc (by simp [e])) (fun e => nc (by simp [e])) (fun e => nc (by simp [e])) q)) hf (Nat.le_refl _) new
    have far : ∀ c ∈ [z, TI, TO, c1, c2], c < s.heap.objs.size := fun c hc => by
      have hc : c = z ∨ c = TI ∨ c = TO ∨ c = c1 ∨ c = c2 := by simpa using hc
      rcases hc with e | e | e | e | e <;> subst e
      · exact zl
      · exact Heap.lt_size q2
      · exact Heap.lt_size q3
      · obtain ⟨o, q, _⟩ := q4.cell; exact Heap.lt_size q
      · obtain ⟨o, q, _⟩ := q5.cell; exact Heap.lt_size q
    refine ⟨.ref s.heap.objs.size, _, J, rfl, ⟨_, x, y, rfl, I.hok.fresh (Nat.le_refl _), rfl, fun l hl => by rw [k_inj I hl sx]; exact ex, fun l hl => by rw [k_inj I hl sy]; exact ey⟩, ⟨z2, other TI S.TIz _ (kp TI _ S.TIz S.TITO S.TIi1 S.TIi2 q2), ⟨y1, y2, other TO S.TOz _ to1⟩, t1.1.keep (other c1 (Ne.symm S.zi1)), t2.1.keep (other c2 (Ne.symm S.zi2))⟩, fun c hc => ?_⟩
    rw [upd_ne (Nat.ne_of_lt (far c hc))]; exact (hf c hc).1
  done := by
    intro X hP hw hK hc i pins s σ H E I hf st hg
    cases hP; cases hw; cases hK
    obtain ⟨q1, q2, ⟨x0, y0, q3⟩, q4, q5⟩ := st
    obtain ⟨xs, ys, sx, sy, l1, l2, l3⟩ := hg
    obtain ⟨us, rx, lx⟩ := k_inv I sx
    obtain ⟨vs, ry, ly⟩ := k_inv I sy
    have hh : X.A.in1.handled = none := I.ok.hd hc
    have r1 := rx.length
    have r2 := ry.length
    refine wpAny_pyNext_zipD2_end S (k_draws k1 hh c1 a m1 us.toArray) (k_draws k2 hh c2 b m2 vs.toArray) q1 q2 q3 ⟨q4, lx⟩ ⟨q5, ly⟩ (by simp; omega) (by simp; omega) (by simp; omega) fun h1 tk kp => ⟨rfl, ?_⟩
    exact I.turnedL (t' := tk) (ch := [z, TI, TO, c1, c2]) (fun c o nc q => kp c o (fun e => nc (by simp [e])) (fun e => nc (by simp [e])) (fun e => nc (by simp [e])) (fun e => nc (by simp [e])) q) hf
  self := fun A i s Q E st h => wpAny_pyIter_zip st.1 h
def iPairs (K : PySem.W.Frag) (ta : TA) : TI := fun σ H Rk => ta σ H fun vs H1 => ∃ k1 k2 a b xs ys, vs = [.ref a, .ref b] ∧ KSq K k1 H1 a xs ∧ KSq K k2 H1 b ys ∧ Rk (Ip K k1 k2 a b) H1
theorem pi_pairs {X : Cx} {e1 e2 : Expr} {ta : TA} {p pos tpos : Pos} {elts : List Expr} {kk : Nat} (hg : Gl X "zip") (hm : X.mg "zip" = none) (ha : PA X [e1, e2] ta)
    (hs : starEach [e1, e2] X.env = (false, eval e1 X.env) :: starEach [e2] X.env := by rfl) (hpl : (backTo pos (starEach [e2] X.env)).any (·.1) = false := by rfl) : PI X (.Tuple elts kk tpos) (.Call (.Name "zip" p) [e1, e2] [] pos) (iPairs X.K ta) := by
  refine ⟨fun pins s σ H Rk I h => Call_ (ld_blt I hg hm PyProof.Rows.boot_zip (PyProof.Rows.callWith_type1 (thn (ha.run pos pins s σ H _ I h) fun us t ⟨vs, H1, I1, rr, qq⟩ => ?_) hs hpl))⟩
  obtain ⟨k1, k2, a, b, xs, ys, ev, sx, sy, go⟩ := qq
  subst ev
  cases rr with
  | cons ra rr =>
  cases rr with
  | cons rb rr =>
  cases rr; cases ra; cases rb
  obtain ⟨us, _, lx⟩ := k_inv I1 sx
  obtain ⟨ws, _, ly⟩ := k_inv I1 sy
  have la := lx.lt
  have lb := ly.lt
  refine zip_begins2 (k_begins k1 a us.toArray) (k_begins k2 b ws.toArray) lx ly fun h' z1 z2 z3 z4 z5 _ kp => wpAny_pyIter_zip z1 ?_
  have I2 : Inv X pins σ H1 { t with heap := h' } := I1.kept (t' := t.toks) kp
  refine ⟨t.heap.objs.size + 4, [t.heap.objs.size + 4, t.heap.objs.size + 2, t.heap.objs.size + 3, t.heap.objs.size, t.heap.objs.size + 1], _, _, H1, rfl, I2, turn_pairs (k1 := k1) (k2 := k2) (a := a) (b := b) (sep2 t.heap.objs.size a b la lb) (Nat.ne_of_lt la) (Nat.ne_of_lt (Nat.lt_succ_of_lt lb)), ⟨z1, z2, ⟨_, _, z3⟩, .start z4, .start z5⟩, fun c hc => ?_, go⟩
  have hc : c = t.heap.objs.size + 4 ∨ c = t.heap.objs.size + 2 ∨ c = t.heap.objs.size + 3 ∨ c = t.heap.objs.size ∨ c = t.heap.objs.size + 1 := by simpa using hc
  have hle : t.heap.objs.size ≤ c := by
    rcases hc with e | e | e | e | e <;> subst e
    · exact Nat.le_add_right _ 4
    · exact Nat.le_add_right _ 2
    · exact Nat.le_add_right _ 3
    · exact Nat.le_refl _
    · exact Nat.le_add_right _ 1
  exact I1.fpOk hle (I1.hok.fresh hle)
section
variable {g : GC} {X : Cx} {W : WK}
def rowOf : D → Option (Kd × List D)
  | .lst ds => some (.l, ds)
  | .tup ds => some (.t, ds)
  | _ => none
theorem row_of {A : Addr → Prop} {H : Hp} {d : D} {k : Kd} {ds : List D} {v : V} (h : rowOf d = some (k, ds)) (r : R g A H d v) : ∃ a xs, v = .ref a ∧ KSq g.K k H a xs ∧ RL g A H ds xs ∧ ∀ A' H', Mono A H A' H' → KSq g.K k H' a xs := by
  cases d with
  | lst es => cases h; obtain ⟨a, xs, e, h1, n, rl⟩ := r; exact ⟨a, xs, e, SqL.of h1, rl, fun A' H' m => SqL.of (m.st a _ h1 n)⟩
  | tup es => cases h; obtain ⟨a, xs, e, h1, rl⟩ := r; exact ⟨a, xs, e, SqT.of h1, rl, fun A' H' m => SqT.of (m.ins rfl h1)⟩
  | _ => cases h
def zipD (ds es : List D) : List D := List.zipWith (fun x y => .tup [x, y]) ds es
def dPairs : List D → Option (List D)
  | [d, e] => (match rowOf d, rowOf e with
    | some (_, ds), some (_, es) => some (zipD ds es)
    | _, _ => none)
  | _ => none
theorem wlk_pairs {A : Addr → Prop} {H : Hp} {k1 k2 : Kd} {a b : Addr} {xs ys : List V} {ds es : List D} (hx : ∀ A' H', Mono A H A' H' → KSq g.K k1 H' a xs) (hy : ∀ A' H', Mono A H A' H' → KSq g.K k2 H' b ys) (rx : RL g A H ds xs) (ry : RL g A H es ys) : Wlk g A H (Ip g.K k1 k2 a b) (zipD ds es) := fun A' H' i m al => by
  have lx := RL.length rx
  have ly := RL.length ry
  refine ⟨fun d hd => ?_, fun hi => ?_⟩
  · unfold zipD at hd
    rw [List.getElem?_zipWith] at hd
    cases q1 : ds[i]? with
    | none => rw [q1] at hd; cases hd
    | some dx =>
      cases q2 : es[i]? with
      | none => rw [q1, q2] at hd; cases hd
      | some dy =>
        rw [q1, q2] at hd; cases hd
        obtain ⟨x, ex, r1⟩ := RL.get rx q1
        obtain ⟨y, ey, r2⟩ := RL.get ry q2
        refine ⟨⟨xs, ys, x, y, hx A' H' m, hy A' H' m, ex, ey⟩, fun v H2 q => ?_⟩
        obtain ⟨T, x', y', rfl, hT, rfl, u1, u2⟩ := q
        have := u1 xs (hx A' H' m); rw [ex] at this; cases this
        have := u2 ys (hy A' H' m); rw [ey] at this; cases this
        have sm : Same H' (upd H' T (.tup [x, y])) := Same.new hT
        have m2 : Mono A' H' A' (upd H' T (.tup [x, y])) := Mono.same al sm
        exact ⟨sm, T, [x, y], rfl, upd_same, x, [y], rfl, R.mono (m.trans m2) dx r1, y, [], rfl, R.mono (m.trans m2) dy r2, rfl⟩
  · unfold zipD at hi
    rw [List.length_zipWith] at hi
    exact ⟨xs, ys, hx A' H' m, hy A' H' m, by omega, by omega, by omega⟩
theorem ci_pairs {e1 e2 : Expr} {m : M (List D)} {p pos tpos : Pos} {elts : List Expr} {kk : Nat} (hK : X.K = g.K) (hg : Gl X "zip") (hm : X.mg "zip" = none) (ha : CA g X W [e1, e2] m)
    (hs : starEach [e1, e2] X.env = (false, eval e1 X.env) :: starEach [e2] X.env := by rfl) (hpl : (backTo pos (starEach [e2] X.env)).any (·.1) = false := by rfl) : CI g X W (.Tuple elts kk tpos) (.Call (.Name "zip" p) [e1, e2] [] pos) (mb m fun ds => mo (dPairs ds)) :=
  PI.imp (pi_pairs hg hm ha hs hpl) fun σ H Q ⟨f, A, e, F, h⟩ => Fin.bA h F fun ds e1 vs H1 F1 S1 r h1 => by
    obtain ⟨es, q, h2⟩ := Fin.mo h1
    rw [hK]
    match ds, r, q with
    | [d1, d2], r, q =>
      obtain ⟨v1, t1, rfl, r1, v2, t2, rfl, r2, rfl⟩ := r
      unfold dPairs at q
      simp only at q
      cases q1 : rowOf d1 with
      | none => rw [q1] at q; cases q
      | some z1 =>
        cases q2 : rowOf d2 with
        | none => rw [q1, q2] at q; cases q
        | some z2 =>
          obtain ⟨k1, ds1⟩ := z1
          obtain ⟨k2, ds2⟩ := z2
          rw [q1, q2] at q; cases q
          obtain ⟨a, xs, rfl, sx, rx, mx⟩ := row_of q1 r1
          obtain ⟨b, ys, rfl, sy, ry, my⟩ := row_of q2 r2
          exact ⟨k1, k2, a, b, xs, ys, rfl, sx, sy, h2 _ H1 F1 S1 (wlk_pairs mx my rx ry)⟩
end
def Iq (K : PySem.W.Frag) (k : Kd) (a : Addr) : It where
  go := fun i H => ∃ (xs : List V) (x : V), KSq K k H a xs ∧ xs[i]? = some x
  yld := fun i H v H' => ∃ T x, v = .ref T ∧ H T = none ∧ H' = upd H T (.tup [.int (i : Nat), x]) ∧ ∀ xs, KSq K k H a xs → xs[i]? = some x
  stop := fun i H => ∃ xs : List V, KSq K k H a xs ∧ xs.length = i
theorem turn_nums {P : Program} {w : World} {K : PySem.W.Frag} {elts : List Expr} {kk : Nat} {tpos : Pos} {k : Kd} {a c it : Addr} (n1 : c ≠ it) (n2 : c ≠ a) (n3 : a ≠ it) :
    Turn P w K (.Tuple elts kk tpos) (Iq K k a) [c, it] c (fun i h => (∃ old, IsEnum h c it ((i : Nat) : Int) old) ∧ KIt k h it a i) where
  mem := List.mem_cons_self
  obj := fun i h st b hb => by
    obtain ⟨⟨old, q1⟩, q2⟩ := st
    have hb : b = c ∨ b = it := by simpa using hb
    rcases hb with e | e <;> subst e
    · exact ⟨_, q1, nofun⟩
    · exact q2.cell
  keep := fun i h h' st kp => by
    obtain ⟨⟨old, q1⟩, q2⟩ := st
    exact ⟨⟨old, kp c (by simp) _ q1⟩, q2.keep (kp it (by simp))⟩
  item := by
    intro X hP hw hK hc i pins s σ H E I hf st hg
    cases hP; cases hw; cases hK
    obtain ⟨⟨old, q1⟩, q2⟩ := st
    obtain ⟨xs, x, sx, ex⟩ := hg
    obtain ⟨us, rx, lx⟩ := k_inv I sx
    obtain ⟨u, eu, ru⟩ := rx.get ex
    have hh : X.A.in1.handled = none := I.ok.hd hc
    have lt : i < us.toArray.size := by simpa using (List.getElem?_eq_some_iff.mp eu).1
    have cl : c < s.heap.objs.size := Heap.lt_size q1
    refine wpAny_pyNext_enum_itemD (k_draws k hh it a n3 us.toArray) q1 ⟨q2, lx⟩ lt n1 (by simp [n1, n2]) fun y h1 tk p1 o1 t1 pr _ kp => ?_
    have e1 : y = u := Option.some.inj (p1.symm.trans (by simpa using eu))
    subst e1
    refine ⟨_, rfl, wpAny_letOwnedTupleGo_enum (s := ⟨h1, s.gens, s.drawn, tk + 1, s.os⟩) o1 fun h2 z2 sb => ?_⟩
    have other : ∀ b, b ≠ c → ∀ o, h1.get? b = some o → h2.get? b = some o := fun b n o q => (sb.2 b n).trans q
    have pair : h2.get? s.heap.objs.size = some { cls := .type "tuple", data := .seq #[.int i tk, y] } := other _ (Nat.ne_of_gt cl) _ pr
    have new : ObjOk X.prog X.w (upd H s.heap.objs.size (.tup [.int (i : Nat), x])) h2 s.heap.objs.size (.tup [.int (i : Nat), x]) := ⟨show 2 ≤ sizeLine by decide, [.int i tk, y], .cons ⟨_, rfl⟩ (.cons ru .nil), _, pair, rfl, _, rfl⟩
    have J := I.turnedNew (t' := tk + 1) (ch := [c, it]) (T := s.heap.objs.size) (h' := h2) (fun b o nb q => other b (fun e => nb (by simp [e])) o (kp b o (fun e => nb (by simp [e])) (fun e => nb (by simp [e])) q)) hf (Nat.le_refl _) new
    refine ⟨.ref s.heap.objs.size, _, J, rfl, ⟨_, x, rfl, I.hok.fresh (Nat.le_refl _), rfl, fun l hl => by rw [k_inj I hl sx]; exact ex⟩, ⟨⟨y, ?_⟩, t1.1.keep (other it (Ne.symm n1))⟩, fun b hb => ?_⟩
    · have e1 : ((i + 1 : Nat) : Int) = (i : Int) + 1 := by omega
      rw [e1]; exact z2
    · have lb : b < s.heap.objs.size := by
        have hb : b = c ∨ b = it := by simpa using hb
        rcases hb with e | e <;> subst e
        · exact cl
        · obtain ⟨o, q, _⟩ := q2.cell; exact Heap.lt_size q
      rw [upd_ne (Nat.ne_of_lt lb)]; exact (hf b hb).1
  done := by
    intro X hP hw hK hc i pins s σ H E I hf st hg
    cases hP; cases hw; cases hK
    obtain ⟨⟨old, q1⟩, q2⟩ := st
    obtain ⟨xs, sx, l1⟩ := hg
    obtain ⟨us, rx, lx⟩ := k_inv I sx
    have hh : X.A.in1.handled = none := I.ok.hd hc
    have r1 := rx.length
    have e1 : us.toArray.size = i := by simp; omega
    refine wpAny_pyNext_enum_endD (k_draws k hh it a n3 us.toArray) q1 (by rw [e1]; exact ⟨q2, lx⟩) fun h1 kp => ⟨rfl, ?_⟩
    exact I.turnedL (t' := s.toks) (ch := [c, it]) (fun b o nb q => kp b o (fun e => nb (by simp [e])) q) hf
  self := fun A i s Q E st h => let ⟨⟨_, q1⟩, _⟩ := st; wpAny_pyIter_enum q1 h
theorem meets_nums {v : Value} {o : Obj} {Hh : Heap → Prop} (B : Begins v o Hh) : Meets (Builtin.«enumerate.__new__» ⟨[.type "enumerate", v], []⟩) (fun _ R s => Hh s.heap ∧
    R (.ok (.ret (.ref (s.heap.push o).objs.size))) { s with heap := (s.heap.push o).push { cls := .type "enumerate", data := .fields #[.none, .bool false, .ref s.heap.objs.size, rawInt 0, .none, .none] } }) :=
  .of_wp fun prog w A R s h => by
    obtain ⟨hp, g0, d0, tk, os⟩ := s
    obtain ⟨h1, h⟩ := h
    have hsub := sub_enumerate
    have it0 : ∀ {A' : Around} {E : Value → Shared → Prop} {Q : Value → Shared → Prop}, Q (.ref hp.objs.size) ⟨hp.push o, g0, d0, tk, os⟩ → wpAny (model prog w) A' (pyIter v) Q E ⟨hp, g0, d0, tk, os⟩ := fun q => B.iter prog w _ _ ⟨hp, g0, d0, tk, os⟩ _ h1 q
    wp_walk using it0
    refine wpAny_stack_any fun st => wpAny_pure ?_
    split
    · rename_i c _ _ _ _ _
      cases (c == Value.type "enumerate") <;> (wp_walk using it0; exact ⟨_, rfl, h⟩)
    · wp_walk using it0
      exact ⟨_, rfl, h⟩
theorem call_nums {P : Program} {w : World} {A : Around} {E : Value → Shared → Prop} {s : Shared} {v : Value} {o : Obj} {Hh : Heap → Prop} {Q : Value → Shared → Prop} (B : Begins v o Hh) (h1 : Hh s.heap)
    (h : ∀ h', IsEnum h' (s.heap.objs.size + 1) s.heap.objs.size 0 .none → h'.get? s.heap.objs.size = some o → (∀ b u, s.heap.get? b = some u → h'.get? b = some u) → Q (.ref (s.heap.objs.size + 1)) { s with heap := h' }) : wpAny (model P w) A (call (.type "enumerate") [v]) Q E s := by
  refine callType_new F.called_enumerate (by decide) (F.typeCall_enumerate_1 _) (F.newCall_enumerate_1 _) (fun obj => F.args_object_init_2 obj _) F.entry_enumerate_new (meets_nums B) ⟨h1, ?_⟩
  have sz : (s.heap.push o).objs.size = s.heap.objs.size + 1 := Heap.size_push ..
  have g1 : ((s.heap.push o).push { cls := .type "enumerate", data := .fields #[.none, .bool false, .ref s.heap.objs.size, rawInt 0, .none, .none] }).get? (s.heap.push o).objs.size = some { cls := .type "enumerate", data := .fields #[.none, .bool false, .ref s.heap.objs.size, rawInt 0, .none, .none] } := Heap.get?_push_size _ rfl
  have g2 := Heap.get?_push_of_some { cls := .type "enumerate", data := .fields #[.none, .bool false, .ref s.heap.objs.size, rawInt 0, .none, .none] } (Heap.get?_push_size s.heap B.free)
  show _ ∧ _
  rw [sz] at g1 ⊢
  exact ⟨⟨_, g1, rfl⟩, h _ g1 g2 fun b u q => Heap.get?_push_of_some _ (Heap.get?_push_of_some _ q)⟩
def iNums (K : PySem.W.Frag) (ta : TA) : TI := fun σ H Rk => ta σ H fun vs H1 => ∃ k a xs, vs = [.ref a] ∧ KSq K k H1 a xs ∧ Rk (Iq K k a) H1
theorem pi_nums {X : Cx} {e1 : Expr} {ta : TA} {p pos tpos : Pos} {elts : List Expr} {kk : Nat} (hg : Gl X "enumerate") (hm : X.mg "enumerate" = none) (ha : PA X [e1] ta)
    (hs : starEach [e1] X.env = [(false, eval e1 X.env)] := by rfl) : PI X (.Tuple elts kk tpos) (.Call (.Name "enumerate" p) [e1] [] pos) (iNums X.K ta) := by
  refine ⟨fun pins s σ H Rk I h => Call_ (ld_blt I hg hm boot_enumerate (PyProof.Rows.callWith_type1 (thn (ha.run pos pins s σ H _ I h) fun us t ⟨vs, H1, I1, rr, qq⟩ => ?_) hs rfl))⟩
  obtain ⟨k, a, xs, ev, sx, go⟩ := qq
  subst ev
  cases rr with
  | cons ra rr =>
  cases rr; cases ra
  obtain ⟨us, _, lx⟩ := k_inv I1 sx
  have la := lx.lt
  refine call_nums (k_begins k a us.toArray) lx fun h' z1 z2 kp => wpAny_pyIter_enum z1 ?_
  have I2 : Inv X pins σ H1 { t with heap := h' } := I1.kept (t' := t.toks) kp
  refine ⟨t.heap.objs.size + 1, [t.heap.objs.size + 1, t.heap.objs.size], _, _, H1, rfl, I2, turn_nums (k := k) (a := a) (Nat.succ_ne_self _) (Nat.ne_of_gt (Nat.lt_succ_of_lt la)) (Nat.ne_of_lt la), ⟨⟨.none, z1⟩, .start z2⟩, fun c hc => ?_, go⟩
  have hc : c = t.heap.objs.size + 1 ∨ c = t.heap.objs.size := by simpa using hc
  have hle : t.heap.objs.size ≤ c := by
    rcases hc with e | e <;> subst e
    · exact Nat.le_add_right _ 1
    · exact Nat.le_refl _
  exact I1.fpOk hle (I1.hok.fresh hle)
section
variable {g : GC} {X : Cx} {W : WK}
def numD : Nat → List D → List D
  | _, [] => []
  | n, d :: ds => .tup [.int (n : Nat), d] :: numD (n + 1) ds
theorem numD_get : ∀ (ds : List D) (n i : Nat), (numD n ds)[i]? = (ds[i]?).map fun d => .tup [.int ((n + i : Nat) : Int), d]
  | [], _, _ => by simp [numD]
  | d :: ds, n, 0 => by simp [numD]
  | d :: ds, n, i + 1 => by
    have := numD_get ds (n + 1) i
    have e : n + 1 + i = n + (i + 1) := by omega
    rw [e] at this
    simp only [numD, List.getElem?_cons_succ, this]
theorem numD_len : ∀ (ds : List D) (n : Nat), (numD n ds).length = ds.length
  | [], _ => rfl
  | d :: ds, n => by simp [numD, numD_len ds (n + 1)]
def dNums : List D → Option (List D)
  | [d] => (rowOf d).map fun z => numD 0 z.2
  | _ => none
theorem wlk_nums {A : Addr → Prop} {H : Hp} {k : Kd} {a : Addr} {xs : List V} {ds : List D} (hx : ∀ A' H', Mono A H A' H' → KSq g.K k H' a xs) (rx : RL g A H ds xs) : Wlk g A H (Iq g.K k a) (numD 0 ds) := fun A' H' i m al => by
  have lx := RL.length rx
  refine ⟨fun d hd => ?_, fun hi => ⟨xs, hx A' H' m, by rw [numD_len] at hi; omega⟩⟩
  rw [numD_get] at hd
  cases q1 : ds[i]? with
  | none => rw [q1] at hd; cases hd
  | some dx =>
    rw [q1] at hd; cases hd
    obtain ⟨x, ex, r1⟩ := RL.get rx q1
    refine ⟨⟨xs, x, hx A' H' m, ex⟩, fun v H2 q => ?_⟩
    obtain ⟨T, x', rfl, hT, rfl, u1⟩ := q
    have := u1 xs (hx A' H' m); rw [ex] at this; cases this
    have sm : Same H' (upd H' T (.tup [.int (i : Nat), x])) := Same.new hT
    have m2 : Mono A' H' A' (upd H' T (.tup [.int (i : Nat), x])) := Mono.same al sm
    exact ⟨sm, T, [.int (i : Nat), x], rfl, upd_same, .int (i : Nat), [x], rfl, by rw [Nat.zero_add]; rfl, x, [], rfl, R.mono (m.trans m2) dx r1, rfl⟩
theorem ci_nums {e1 : Expr} {m : M (List D)} {p pos tpos : Pos} {elts : List Expr} {kk : Nat} (hK : X.K = g.K) (hg : Gl X "enumerate") (hm : X.mg "enumerate" = none) (ha : CA g X W [e1] m)
    (hs : starEach [e1] X.env = [(false, eval e1 X.env)] := by rfl) : CI g X W (.Tuple elts kk tpos) (.Call (.Name "enumerate" p) [e1] [] pos) (mb m fun ds => mo (dNums ds)) :=
  PI.imp (pi_nums hg hm ha hs) fun σ H Q ⟨f, A, e, F, h⟩ => Fin.bA h F fun ds e1 vs H1 F1 S1 r h1 => by
    obtain ⟨es, q, h2⟩ := Fin.mo h1
    rw [hK]
    match ds, r, q with
    | [d1], r, q =>
      obtain ⟨v1, t1, rfl, r1, rfl⟩ := r
      have q : ((rowOf d1).map fun z => numD 0 z.2) = some es := q
      cases q1 : rowOf d1 with
      | none => rw [q1] at q; cases q
      | some z1 =>
        obtain ⟨k1, ds1⟩ := z1
        rw [q1] at q; cases q
        obtain ⟨a, xs, rfl, sx, rx, mx⟩ := row_of q1 r1
        exact ⟨k1, a, xs, rfl, sx, h2 _ H1 F1 S1 (wlk_nums mx rx)⟩
end
end Fw
namespace Fw
open L2 PyProof.Rows PySem PySem.Spec
section
variable {g : GC} {X : Cx} {W : WK}
def mLcL2 (own own1 : List Nat) (bd : D → M Unit) (t : M Bool) (mi1 : M (List D)) (bd1 : D → M Unit) (t1 : M Bool) (el : M D) : List D → List D → M (List D)
  | [], acc => fun e => .ok acc e
  | d :: ds, acc => fun e => match bd d e with
    | .ok _ e1 => (match t e1 with
      | .ok true e2 => (match mi1 e2 with
        | .ok ds1 e3 => (match mLcL own1 bd1 t1 el ds1 acc (wipeE e3 own1) with
          | .ok acc' e4 => mLcL2 own own1 bd t mi1 bd1 t1 el ds acc' (wipeE e4 own)
          | _ => .bad)
        | _ => .bad)
      | .ok false e2 => mLcL2 own own1 bd t mi1 bd1 t1 el ds acc (wipeE e2 own)
      | _ => .bad)
    | _ => .bad
def mLc2 (mi : M (List D)) (own own1 : List Nat) (bd : D → M Unit) (t : M Bool) (mi1 : M (List D)) (bd1 : D → M Unit) (t1 : M Bool) (el : M D) : M (List D) := mb mi fun ds e => if ownOk e own = true then (match mLcL2 own own1 bd t mi1 bd1 t1 el ds [] (wipeE e own) with
  | .ok ys e' => .ok ys (backE e e' own)
  | _ => .bad) else .bad
theorem wipe_sub {σ : Sv} {vs ws : List Nat} (h : ∀ j ∈ ws, j ∈ vs) : L2.wipe (L2.wipe σ ws) vs = L2.wipe σ vs := wipe_eq (wipe_length σ ws) (sl := ws) (fun j hj => wipe_get hj) h
theorem t_lc2 {own own1 sl sl1 : List Nat} {mi mi1 : M (List D)} {bd bd1 : D → M Unit} {mt mt1 : M Bool} {el : M D} (σ : Sv) (H : Hp) (Q : VK) (f : Fx) (A : Addr → Prop) (e : Ev) (F : FR g f A H σ e)
    (h : Fin g W f A σ H (fun ds e' => ∀ p xs H', FR g f A H' σ e' → FR g f (add1 A p) H' σ e' → ¬ A p → Step A H H' → H p = none → H' p = some (.lst xs) → RL g (add1 A p) H' ds xs → Q (.ref p) H') (mLc2 mi own own1 bd mt mi1 bd1 mt1 el e)) (hsl : ∀ j ∈ sl, j ∈ own) (hsl1 : ∀ j ∈ sl1, j ∈ own1) (hoo : ∀ j ∈ own1, j ∈ own) :
    tLc2 (rdI g W mi) (rdG g sl bd) (rdT g W0 mt) (rdI g W0 mi1) (rdG g sl1 bd1) (rdT g W0 mt1) (rdE g W0 el) own own1 σ H Q := by
  refine Fin.bI h F fun ds e1 J H1 F1 S1 wk h1 => ?_
  intro D hD
  by_cases ho : ownOk e1 own = true
  case neg => simp only [if_neg ho] at h1; exact h1.elim
  simp only [if_pos ho] at h1
  have hpa : ∀ i ∈ own, f.pa i = none := fun i hi => by
    have q := List.all_eq_true.mp ho i hi
    cases z : e1[i]? with
    | none => simp only [z] at q; cases q
    | some s =>
      simp only [z] at q
      refine F1.pa0 z fun d y => ?_
      rw [y] at q; cases q
  have hpa1 : ∀ i ∈ own1, f.pa i = none := fun i hi => hpa i (hoo i hi)
  have h0 := F1.h0 hD
  have hpD : ∀ i, f.pa i ≠ some D := fun i z => F1.nA hD (F1.ob D (F1.pb i D z).1)
  have F2 : FR g (f.tm D []) (add1 A D) (upd H1 D (.lst [])) (L2.wipe σ own) (wipeE e1 own) := FR.wipe (F1.tmp hD) hpa
  generalize hr : mLcL2 own own1 bd mt mi1 bd1 mt1 el ds [] (wipeE e1 own) = res at h1
  have good : ∃ ys e', res = .ok ys e' ∧ ∀ p xs H', FR g f A H' σ (backE e1 e' own) → FR g f (add1 A p) H' σ (backE e1 e' own) → ¬ A p → Step A H H' → H p = none → H' p = some (.lst xs) → RL g (add1 A p) H' ys xs → Q (.ref p) H' := by
    cases res with
    | ok ys e' => exact ⟨ys, e', rfl, h1⟩
    | exc _ _ _ => exact h1.elim
    | bad => exact h1.elim
  obtain ⟨ys, ef, hres, fin⟩ := good
  let Sta : List Fw.D → Ev → Hp → Sv → Prop := fun acc e' H' τ => ∃ accv, FR g (f.tm D accv) (add1 A D) H' τ e' ∧ Step (add1 A D) (upd H1 D (.lst [])) H' ∧ RL g (add1 A D) H' acc accv
  refine ⟨fun i m H' => m = ds.length - i ∧ i ≤ ds.length ∧ ∃ e' acc, Sta acc e' H' (L2.wipe σ own) ∧ mLcL2 own own1 bd mt mi1 bd1 mt1 el (ds.drop i) acc e' = .ok ys ef,
    ⟨ds.length, rfl, Nat.zero_le _, _, [], ⟨[], F2, .refl, rfl⟩, by rw [List.drop_zero, hr, hres]⟩, ?_⟩
  rintro i m H2 ⟨rfl, hi, e2, acc, ⟨accv, F3, S3, r3⟩, run⟩
  have M3 : Mono A H1 (add1 A D) H2 := ⟨F1.al, fun a o z n => S3.st a o (by rw [upd_ne (fun y => by rw [y, hD] at z; cases z)]; exact z) fun y => y.elim n fun y => (by rw [y, hD] at z; cases z), fun a o z q => z.elim id fun z => (by rw [z, hD] at q; cases q)⟩
  obtain ⟨w1, w2⟩ := wk (add1 A D) H2 i M3 F3.al
  have hDl : H2 D = some (.lst accv) := (F3.tp D _ upd_same).2
  by_cases hlt : i < ds.length
  · right
    have hd : ds[i]? = some ds[i] := List.getElem?_eq_getElem hlt
    obtain ⟨g1, g2⟩ := w1 _ hd
    rw [List.drop_eq_getElem_cons hlt] at run
    unfold mLcL2 at run
    refine ⟨g1, fun H' => ∃ e' acc, Sta acc e' H' (L2.wipe σ own) ∧ mLcL2 own own1 bd mt mi1 bd1 mt1 el (ds.drop (i + 1)) acc e' = .ok ys ef, fun H' q => ⟨ds.length - (i + 1), by omega, rfl, hlt, q⟩, fun x H3 y => ?_⟩
    obtain ⟨s3, rx⟩ := g2 x H3 y
    have F4 := F3.same s3
    refine ⟨f.tm D accv, add1 A D, e2, ds[i], F4, rx, ?_⟩
    cases q : bd ds[i] e2 with
    | exc _ _ _ => simp only [q] at run; cases run
    | bad => simp only [q] at run; cases run
    | ok u e3 =>
    simp only [q] at run
    intro σ4 H4 F5 S5 sm ln
    have hw : L2.wipe σ4 own = L2.wipe σ own := by
      rw [← wipe_wipe (σ := σ)]
      exact wipe_eq ln (sl := sl) sm hsl
    refine ⟨hw, f.tm D accv, add1 A D, e3, F5, ?_⟩
    cases q2 : mt e3 with
    | exc _ _ _ => simp only [q2] at run; cases run
    | bad => simp only [q2] at run; cases run
    | ok b e4 =>
    simp only [q2] at run
    intro H5 F6 S6
    have SS : Step (add1 A D) (upd H1 D (.lst [])) H5 := S3.trans ((Step.of s3).trans (S5.trans S6))
    have r5 : RL g (add1 A D) H5 acc accv := F3.rl ((Step.of s3).trans (S5.trans S6)) r3
    cases b with
    | false =>
      simp only at run
      rw [if_neg Bool.false_ne_true]
      refine ⟨wipeE e4 own, acc, ⟨accv, ?_, SS, r5⟩, run⟩
      have := FR.wipe F6 (own := own) hpa
      rw [hw] at this; exact this
    | true =>
    simp only at run
    rw [if_pos rfl]
    refine ⟨f.tm D accv, add1 A D, e4, F6, ?_⟩
    cases q3 : mi1 e4 with
    | exc _ _ _ => simp only [q3] at run; cases run
    | bad => simp only [q3] at run; cases run
    | ok ds1 e5 =>
    simp only [q3] at run
    intro J1 H6 F7 S7 wk1
    have SS7 := SS.trans S7
    have r7 : RL g (add1 A D) H6 acc accv := F6.rl S7 r5
    have F8 : FR g (f.tm D accv) (add1 A D) H6 (L2.wipe σ4 own1) (wipeE e5 own1) := FR.wipe F7 hpa1
    cases q4 : mLcL own1 bd1 mt1 el ds1 acc (wipeE e5 own1) with
    | exc _ _ _ => simp only [q4] at run; cases run
    | bad => simp only [q4] at run; cases run
    | ok acc9 e9 =>
    simp only [q4] at run
    refine ⟨fun j k H' => k = ds1.length - j ∧ j ≤ ds1.length ∧ ∃ e' acc', Sta acc' e' H' (L2.wipe σ4 own1) ∧ Step (add1 A D) H6 H' ∧ mLcL own1 bd1 mt1 el (ds1.drop j) acc' e' = .ok acc9 e9,
      ⟨ds1.length, rfl, Nat.zero_le _, _, acc, ⟨accv, F8, SS7, r7⟩, .refl, by rw [List.drop_zero, q4]⟩, ?_⟩
    rintro j k H8 ⟨rfl, hj, e6, acc6, ⟨accv6, G3, T3, v3⟩, U3, run1⟩
    obtain ⟨x1, x2⟩ := wk1 (add1 A D) H8 j (F7.mono U3) G3.al
    by_cases hlt1 : j < ds1.length
    · right
      have hd1 : ds1[j]? = some ds1[j] := List.getElem?_eq_getElem hlt1
      obtain ⟨p1, p2⟩ := x1 _ hd1
      rw [List.drop_eq_getElem_cons hlt1] at run1
      unfold mLcL at run1
      refine ⟨p1, fun H' => ∃ e' acc', Sta acc' e' H' (L2.wipe σ4 own1) ∧ Step (add1 A D) H6 H' ∧ mLcL own1 bd1 mt1 el (ds1.drop (j + 1)) acc' e' = .ok acc9 e9, fun H' q => ⟨ds1.length - (j + 1), by omega, rfl, hlt1, q⟩, fun x H9 y => ?_⟩
      obtain ⟨s4, ry⟩ := p2 x H9 y
      have G4 := G3.same s4
      refine ⟨f.tm D accv6, add1 A D, e6, ds1[j], G4, ry, ?_⟩
      cases k1 : bd1 ds1[j] e6 with
      | exc _ _ _ => simp only [k1] at run1; cases run1
      | bad => simp only [k1] at run1; cases run1
      | ok u7 e7 =>
      simp only [k1] at run1
      intro σ7 HA GA SA sm1 ln1
      have hw1 : L2.wipe σ7 own1 = L2.wipe σ4 own1 := by
        rw [← wipe_wipe (σ := σ4)]
        exact wipe_eq ln1 (sl := sl1) sm1 hsl1
      refine ⟨hw1, f.tm D accv6, add1 A D, e7, GA, ?_⟩
      cases k2 : mt1 e7 with
      | exc _ _ _ => simp only [k2] at run1; cases run1
      | bad => simp only [k2] at run1; cases run1
      | ok b e8 =>
      simp only [k2] at run1
      intro HB GB SB
      have SZ : Step (add1 A D) H8 HB := (Step.of s4).trans (SA.trans SB)
      have vB : RL g (add1 A D) HB acc6 accv6 := G3.rl SZ v3
      cases b with
      | false =>
        simp only at run1
        rw [if_neg Bool.false_ne_true]
        refine ⟨wipeE e8 own1, acc6, ⟨accv6, ?_, T3.trans SZ, vB⟩, U3.trans SZ, run1⟩
        have := FR.wipe GB (own := own1) hpa1
        rw [hw1] at this; exact this
      | true =>
        simp only at run1
        rw [if_pos rfl]
        refine ⟨f.tm D accv6, add1 A D, e8, GB, ?_⟩
        cases k3 : el e8 with
        | exc _ _ _ => simp only [k3] at run1; cases run1
        | bad => simp only [k3] at run1; cases run1
        | ok yd eA =>
          simp only [k3] at run1
          intro yv HC GC SC rC
          by_cases hz : acc6.length < 1000000
          case neg => rw [if_neg hz] at run1; cases run1
          rw [if_pos hz] at run1
          have vC : RL g (add1 A D) HC acc6 accv6 := GB.rl SC vB
          obtain ⟨GD, MD⟩ := FR.tmApp (zs := accv6 ++ [yv]) GC h0 hpD
          have SD : Step (add1 A D) HC (upd HC D (.lst (accv6 ++ [yv]))) := ⟨fun a o z n => MD.st a o z n, fun a o z => by
            by_cases y : a = D
            · exact ⟨_, by rw [y]; exact upd_same⟩
            · exact ⟨o, by rw [upd_ne y]; exact z⟩⟩
          refine ⟨accv6, (GC.tp D _ upd_same).2, by rw [RL.length vC]; exact Nat.lt_of_lt_of_le hz million, wipeE eA own1, acc6 ++ [yd], ⟨accv6 ++ [yv], ?_, T3.trans (SZ.trans (SC.trans SD)), ?_⟩, U3.trans (SZ.trans (SC.trans SD)), run1⟩
          · have := FR.wipe GD (own := own1) hpa1
            rw [hw1] at this; exact this
          · exact RL.mono MD _ (RL.append vC ⟨yv, [], rfl, rC, rfl⟩)
    · have e0 : j = ds1.length := by omega
      left
      refine ⟨x2 (by omega), ?_⟩
      rw [e0, List.drop_length] at run1
      unfold mLcL at run1
      have r1 : acc6 = acc9 ∧ e6 = e9 := by injection run1 with a b; exact ⟨a, b⟩
      obtain ⟨rfl, rfl⟩ := r1
      refine ⟨wipeE e6 own, acc6, ⟨accv6, ?_, T3, v3⟩, run⟩
      have := FR.wipe G3 (own := own) hpa
      rw [wipe_sub hoo, hw] at this; exact this
  · have e0 : i = ds.length := by omega
    left
    refine ⟨w2 (by omega), ?_⟩
    rw [e0, List.drop_length] at run
    unfold mLcL2 at run
    cases run
    obtain ⟨B1, B2, B3⟩ := FR.back F1 hD ho F3 S3
    exact fin D accv H2 B1 B2 (F1.nA hD) (S1.trans B3) (FR.none_of (f := f) S1 hD) hDl r3
theorem cf_lc2 {elt tg iter tg1 iter1 : Expr} {ifs ifs1 : List Expr} {scope : Scope} {own : List (Str × Nat)} {own1 : List Nat} {pos : Pos} {mi mi1 : M (List D)} {sl sl1 : List Nat} {bd bd1 : D → M Unit} {mt mt1 : M Bool} {el : M D}
    (h : PE X (.ListComp elt [⟨tg, iter, ifs, 0⟩, ⟨tg1, iter1, ifs1, 0⟩] scope pos) (tLc2 (rdI g W mi) (rdG g sl bd) (rdT g W0 mt) (rdI g W0 mi1) (rdG g sl1 bd1) (rdT g W0 mt1) (rdE g W0 el) (own.map (·.2)) own1)) (hsl : ∀ j ∈ sl, j ∈ own.map (·.2)) (hsl1 : ∀ j ∈ sl1, j ∈ own1) (hoo : ∀ j ∈ own1, j ∈ own.map (·.2)) :
    CF g X W (.ListComp elt [⟨tg, iter, ifs, 0⟩, ⟨tg1, iter1, ifs1, 0⟩] scope pos) (mLc2 mi (own.map (·.2)) own1 bd mt mi1 bd1 mt1 el) :=
  PE.imp h fun σ H Q ⟨f, A, e, F, h⟩ => t_lc2 σ H Q f A e F h hsl hsl1 hoo
end
end Fw
namespace Fw
open L2 PyProof.Rows PySem PySem.Spec
section
variable {g : GC} {X : Cx} {W : WK}
def dStr : D → Option D
  | .int i => if i.natAbs.log2 < 1920 then some (.str (toString i)) else none
  | _ => none
theorem ls_str : LS g (fun xs H Q => ∃ i, xs = [.int i] ∧ i.natAbs.log2 < 1920 ∧ Q (.str (toString i)) H) (op1 dStr) := ls1 fun A H d d' v Q al r q k => by
  cases d with
  | int i =>
    obtain rfl : v = .int i := r
    unfold dStr at q
    by_cases z : i.natAbs.log2 < 1920
    · simp only [if_pos z] at q; cases q; exact ⟨i, rfl, z, k _ H (Same.refl H) rfl⟩
    · simp only [if_neg z] at q; cases q
  | _ => cases q
def strsD : List D → Option (List Str)
  | [] => some []
  | .str x :: r => (strsD r).map fun l => x :: l
  | _ :: _ => none
theorem strsD_ok {A : Addr → Prop} {H : Hp} : ∀ {ds : List D} {ys : List Str} {xs : List V}, strsD ds = some ys → RL g A H ds xs → xs = ys.map V.str
  | [], _, _, h, r => by cases h; exact r
  | .str x :: ds, _, _, h, ⟨y, t, e, r, r2⟩ => by
    obtain ⟨l, h1, h2⟩ := map_some h
    subst h2
    rw [e, show y = .str x from r, strsD_ok h1 r2]
    rfl
  | .non :: _, _, _, h, _ => by cases h
  | .bl _ :: _, _, _, h, _ => by cases h
  | .int _ :: _, _, _, h, _ => by cases h
  | .ty _ :: _, _, _, h, _ => by cases h
  | .tup _ :: _, _, _, h, _ => by cases h
  | .lst _ :: _, _, _, h, _ => by cases h
  | .obj _ _ :: _, _, _, h, _ => by cases h
  | .scr _ :: _, _, _, h, _ => by cases h
  | .mrk :: _, _, _, h, _ => by cases h
  | .ktu _ :: _, _, _, h, _ => by cases h
  | .dct _ _ :: _, _, _, h, _ => by cases h
  | .dtt _ _ :: _, _, _, h, _ => by cases h
  | .exn _ _ :: _, _, _, h, _ => by cases h
def dJoin : D → D → Option D
  | .str a, d => (rowOf d).bind fun z => (strsD z.2).bind fun ys => if (ys.map (·.length)).sum + ys.length * a.length ≤ 16777216 then some (.str (Txt.join a ys)) else none
  | _, _ => none
def mJoin (mo' ma : M D) : M D := mb mo' fun x => match x with
  | .str a => mb ma fun y => mo (dJoin (.str a) y)
  | _ => fun _ => .bad
theorem c_join {o e : Expr} {m1 m2 : M D} {apos pos : Pos} (hK : X.K = g.K) (ho : CE g X W o m1) (he : CE g X W e m2) (hs : starEach [e] X.env = [(false, eval e X.env)] := by rfl) (hbase : attributeBase o "join" X.env (eval o X.env) = eval o X.env := by rfl) (hline : (apos.endLine == pos.line) = true := by rfl) :
    CE g X W (.Call (.Attribute o "join" apos) [e] [] pos) (mJoin m1 m2) :=
  PE.imp (pe_join ho he hs hbase hline) fun σ H Q ⟨f, A, e0, F, h⟩ => Fin.bE h F fun d1 e1 v1 H1 F1 S1 r1 h1 => by
    cases d1 with
    | str a =>
      obtain rfl : v1 = .str a := r1
      refine ⟨⟨a, rfl⟩, Fin.bE h1 F1 fun d2 e2 v2 H2 F2 S2 r2 h2 => ?_⟩
      obtain ⟨d, q, h3⟩ := Fin.mo h2
      have q : ((rowOf d2).bind fun z => (strsD z.2).bind fun ys => if (ys.map (·.length)).sum + ys.length * a.length ≤ 16777216 then some (.str (Txt.join a ys)) else none) = some d := q
      cases z1 : rowOf d2 with
      | none => rw [z1] at q; cases q
      | some z =>
        obtain ⟨k, ds⟩ := z
        simp only [z1, Option.bind_some] at q
        cases z2 : strsD ds with
        | none => rw [z2] at q; cases q
        | some ys =>
          simp only [z2, Option.bind_some] at q
          by_cases z3 : (ys.map (·.length)).sum + ys.length * a.length ≤ 16777216
          · rw [if_pos z3] at q; cases q
            obtain ⟨p, xs, rfl, sx, rx, _⟩ := row_of z1 r2
            have ex := strsD_ok z2 rx
            subst ex
            refine ⟨a, p, ys, rfl, rfl, ?_, z3, h3 _ H2 F2 (S1.trans S2) rfl⟩
            rw [hK]
            cases k with
            | l => exact .inl sx
            | t => exact .inr sx
          · rw [if_neg z3] at q; cases q
    | _ => exact h1.elim
structure TabI (K : PySem.W.Frag) (a : Addr) (kvs : List (Int × Int)) : Prop where
  ex : ∃ es n, K.lookup a = some ⟨.type "dict", none, .dict es n, #[]⟩ ∧ ieB es.toList kvs = true
  sm : (a == sysModules) = false
theorem tabO_ok {x : Str} {kvs : List (Int × Int)} {K : PySem.W.Frag} (h : tabO x kvs K = true) : TabI K (He.ga K x) kvs := by
  unfold tabO at h
  cases q : K.lookup (He.ga K x) with
  | none => rw [q] at h; cases h
  | some o =>
    rw [q] at h
    obtain ⟨c, dd, dt, sl⟩ := o
    simp only at h
    split at h
    · rename_i c' es n sl' e
      cases e
      obtain ⟨h1, h⟩ := He.ba h
      obtain ⟨h2, h⟩ := He.ba h
      obtain ⟨h3, h4⟩ := He.ba h
      have e1 := of_decide_eq_true h1
      have e2 : sl = #[] := Array.size_eq_zero_iff.mp (of_decide_eq_true h2)
      subst e1 e2
      exact ⟨⟨es, n, q, h3⟩, by simpa using h4⟩
    · cases h
theorem ie_keys {P : Program} {w : World} : ∀ {es : List DictEntry} {kvs : List (Int × Int)}, ieB es kvs = true → ∀ e ∈ es, ∃ k, (PySem.intKind P w).is k e.key = true ∧ e.hash = (PySem.intKind P w).hash k
  | e :: es, (k, v) :: r, h, e', he => by
    unfold ieB at h
    obtain ⟨h1, h2⟩ := He.ba h
    rcases List.mem_cons.mp he with rfl | he
    · split at h1
      · rename_i a t b u q1 q2
        obtain ⟨h3, h4⟩ := He.ba h1
        obtain ⟨h4, h5⟩ := He.ba h4
        have := of_decide_eq_true h3
        subst this
        exact ⟨a, by rw [q1]; exact PySem.intKind_is P w a t, of_decide_eq_true h5⟩
      · cases h1
    · exact ie_keys h2 e' he
  | [], _, _, e', he => by cases he
  | _ :: _, [], h, _, _ => by cases h
theorem ie_find : ∀ {es : List DictEntry} {kvs : List (Int × Int)} (k : Int), ieB es kvs = true → ∃ t, (es.find? fun e => Value.isInt k e.key).map (·.val) = (kvs.lookup k).map fun v => Value.int v t
  | e :: es, (k', v) :: r, k, h => by
    unfold ieB at h
    obtain ⟨h1, h2⟩ := He.ba h
    split at h1
    · rename_i a t b u q1 q2
      obtain ⟨h3, h4⟩ := He.ba h1
      obtain ⟨h4, h5⟩ := He.ba h4
      have e1 := of_decide_eq_true h3
      have e2 := of_decide_eq_true h4
      subst e1 e2
      rw [List.find?_cons, List.lookup_cons, q1]
      show ∃ t, Option.map _ (match (a == k) with | true => _ | false => _) = _
      by_cases z : k = a
      · subst z
        exact ⟨u, by simp [q2]⟩
      · have z1 : (a == k) = false := by simpa using Ne.symm z
        have z2 : (k == a) = false := by simpa using z
        rw [z1, z2]
        exact ie_find k h2
    · cases h1
  | [], [], k, _ => ⟨0, rfl⟩
  | [], _ :: _, _, h => by cases h
  | _ :: _, [], _, h => by cases h
theorem tab_map {P : Program} {w : World} {K : PySem.W.Frag} {h : Heap} {a : Addr} {kvs : List (Int × Int)} (I : K.In h) (T : TabI K a kvs) : ∃ f, h.MapOf (PySem.intKind P w) a f ∧ ∀ k, ∃ t, f k = (kvs.lookup k).map fun v => Value.int v t := by
  obtain ⟨es, n, e1, e2⟩ := T.ex
  refine ⟨fun k => findBy Value.isInt es k, ⟨_, es, n, I _ _ e1, ⟨rfl, rfl, rfl⟩, rfl, fun e he => ie_keys e2 e (Array.mem_toList_iff.mpr he), fun _ => rfl⟩, fun k => ?_⟩
  obtain ⟨t, q⟩ := ie_find k e2
  refine ⟨t, ?_⟩
  obtain ⟨l⟩ := es
  show Option.map (fun x => x.val) (Array.find? (fun e => Value.isInt k e.key) l.toArray) = _
  rw [List.find?_toArray]
  exact q
theorem ix_tab {a : Addr} {kvs : List (Int × Int)} (T : TabI X.K a kvs) : IxR X (fun x y H Q => ∃ k v, x = .ref a ∧ y = .int k ∧ kvs.lookup k = some v ∧ Q (.int v) H) := by
  intro value slice pins s σ H x y v u Q I rx ry h hs
  obtain ⟨k, b, rfl, rfl, e, q⟩ := h
  obtain rfl : v = Value.ref a := rx
  obtain ⟨t, rfl⟩ := ry
  obtain ⟨f, hm, hf⟩ := tab_map (P := X.prog) (w := X.w) I.kIn T
  obtain ⟨t', e'⟩ := hf k
  rw [e] at e'
  exact tail_any hm.typeIs slot_dict_getitem.lookup (wpAny_getItem_of (PySem.intKind_is X.prog X.w k t) hm e' ⟨.int b, H, I.tok _, ⟨t', rfl⟩, q⟩) hs
theorem op_notinTab {a : Addr} {kvs : List (Int × Int)} (T : TabI X.K a kvs) : OpR X (compareOp .NotIn) (fun x y H Q => ∃ k, x = .int k ∧ y = .ref a ∧ Q (.bl (!(kvs.lookup k).isSome)) H) := by
  intro pins s σ H x y v u Q I rx ry h
  obtain ⟨k, rfl, rfl, q⟩ := h
  obtain ⟨t, rfl⟩ := rx
  obtain rfl : u = Value.ref a := ry
  obtain ⟨f, hm, hf⟩ := tab_map (P := X.prog) (w := X.w) I.kIn T
  obtain ⟨t', e'⟩ := hf k
  refine wpAny_notIn_of (PySem.intKind_is X.prog X.w k t) T.sm hm ?_
  rw [e', Option.isSome_map]
  exact ⟨.bl _, H, I.tok _, rfl, q⟩
def mGd (kvs : List (Int × Int)) (m : M D) : M D := mb m fun d => match d with
  | .int k => mo ((kvs.lookup k).map D.int)
  | _ => fun _ => .bad
theorem c_gd {x : Str} {e : Expr} {kvs : List (Int × Int)} {m : M D} {a : Addr} {p pos : Pos} (hK : X.K = g.K) (T : TabI g.K a kvs) (hg : Gl X x) (hm : X.mg x = some (.ref a)) (he : CE g X W e m) (hs : PlainIx e) (hd : (x == ("__debug__" : Str)) = false) : CE g X W (.Subscript (.Name x p) e pos) (mGd kvs m) :=
  PE.imp (pe_ix (ix_tab (hK ▸ T)) (pe_glob (v := .ref a) hg hm rfl hd) he hs) fun σ H Q ⟨f, A, e0, F, h⟩ => Fin.bE h F fun d e1 v H1 F1 S1 r h1 => by
    cases d with
    | int k =>
      obtain rfl : v = .int k := r
      obtain ⟨d, q, h2⟩ := Fin.mo h1
      obtain ⟨b, q1, rfl⟩ := map_some q
      exact ⟨k, b, rfl, rfl, q1, h2 _ H1 F1 S1 rfl⟩
    | _ => exact h1.elim
def mGin (n : Bool) (kvs : List (Int × Int)) (m : M D) : M Bool := mb m fun d => match d with
  | .int k => mp (Bool.xor n (kvs.lookup k).isSome)
  | _ => fun _ => .bad
theorem ct_gnotin {x : Str} {e : Expr} {kvs : List (Int × Int)} {m : M D} {a : Addr} {p pos : Pos} (hK : X.K = g.K) (T : TabI g.K a kvs) (hg : Gl X x) (hm : X.mg x = some (.ref a)) (he : CE g X W e m) (hd : (x == ("__debug__" : Str)) = false) (hb : behindInMarks .NotIn (.Name x p) = false) : CT g X W (.Compare e [.NotIn] [.Name x p] pos) (mGin true kvs m) :=
  PT.imp (pt_cmpR (op_notinTab (hK ▸ T)) he (pe_glob (v := .ref a) hg hm rfl hd) hb) fun σ H Q ⟨f, A, e0, F, h⟩ => Fin.bE h F fun d e1 v H1 F1 S1 r h1 => by
    cases d with
    | int k => obtain rfl : v = .int k := r; exact ⟨k, rfl, rfl, _, rfl, by have := h1 H1 F1 S1; simpa using this⟩
    | _ => exact h1.elim
structure InsF (g : GC) (C : Addr) (isF : Nat → Bool) : Prop where
  ca : ∀ c, isF c = true → g.ca c = C
  ins : C8.InsC g.K C
  no : ∀ t ∈ plainTys, PySem.W.kitOne g.K (.type t) (.ref C) = some false
theorem eqOB_ok {a : Option Bool} {b : Bool} (h : eqOB a b = true) : a = some b := by
  unfold eqOB at h
  split at h
  · rw [eq_of_beq h]
  · cases h
theorem eqBi_ok {a : Option (Option Value)} {b : String} (h : eqBi a b = true) : a = some (some (.builtin b)) := by
  unfold eqBi at h
  split at h
  · rw [of_decide_eq_true h]
  · cases h
theorem insO_ok {x : Str} {g : GC} {isF : Nat → Bool} (h : insO x g.K = true) (hc : ∀ c, isF c = true → g.ca c = He.ga g.K x) : InsF g (He.ga g.K x) isF := by
  obtain ⟨a, h⟩ := He.ba h
  obtain ⟨b, h⟩ := He.ba h
  obtain ⟨c, h⟩ := He.ba h
  obtain ⟨d, h⟩ := He.ba h
  obtain ⟨e, h⟩ := He.ba h
  obtain ⟨f, h⟩ := He.ba h
  exact ⟨hc, ⟨clsO_ok a, eqBi_ok b, eqBi_ok c, eqOB_ok d, eqOB_ok e, eqOB_ok f⟩, fun t ht => eqOB_ok (List.all_eq_true.mp h t ht)⟩
def dIsC (isF : Nat → Bool) : D → Option D
  | .obj c _ => if isF c = true then some (.bl true) else none
  | d => (dTy d).bind fun t => if plainTys.contains t = true then some (.bl false) else none
def mIsC (isF : Nat → Bool) (m : M D) : M D := mb m fun d => mo (dIsC isF d)
theorem c_isC {isF : Nat → Bool} {C : Addr} {e : Expr} {m : M D} {x : Str} {p p2 pos : Pos} (hK : X.K = g.K) (T : InsF g C isF) (hg : Gl X "isinstance") (hm : X.mg "isinstance" = none) (hg2 : Gl X x) (hm2 : X.mg x = some (.ref C)) (hd : (x == ("__debug__" : Str)) = false) (he : CE g X W e m)
    (hs : starEach [e, .Name x p2] X.env = (false, eval e X.env) :: starEach [.Name x p2] X.env := by rfl) (hs2 : starEach [.Name x p2] X.env = (false, eval (.Name x p2) X.env) :: starEach [] X.env := by rfl) (hpl : (backTo pos (starEach [.Name x p2] X.env)).any (·.1) = false := by rfl) :
    CE g X W (.Call (.Name "isinstance" p) [e, .Name x p2] [] pos) (mIsC isF m) := by
  have PAs : PA X [e, .Name x p2] (tCons (rdE g W m) (tCons (tC (.ref C)) tNil)) := pa_cons he (pa_cons (pe_glob (v := .ref C) hg2 hm2 rfl hd) pa_nil hs2) hs
  refine PE.imp (pe_callB call_isi hg hm (by decide +kernel) PAs (by decide +kernel) (by decide +kernel) hs hpl) fun σ H Q ⟨f, A, e, F, h⟩ => ?_
  refine Fin.bE h F fun d1 e1 v H1 F1 S1 r h1 => ?_
  obtain ⟨d2, q, h2⟩ := Fin.mo h1
  rw [hK]
  have other : (dTy d1).bind (fun t => if plainTys.contains t = true then some (D.bl false) else none) = some d2 → rIsi g.K [v, .ref C] H1 Q := fun q => by
    cases z : dTy d1 with
    | none => rw [z] at q; cases q
    | some t =>
      simp only [z, Option.bind_some] at q
      by_cases y : plainTys.contains t = true
      · rw [if_pos y] at q; cases q
        exact ⟨v, .ref C, .type t, .ref C, false, rfl, .own C, Rt.ty r.rt z, T.no t (by simpa using y), h2 _ H1 F1 S1 rfl⟩
      · rw [if_neg y] at q; cases q
  cases d1 with
  | obj c ds =>
    unfold dIsC at q
    simp only at q
    by_cases y : isF c = true
    · rw [if_pos y] at q; cases q
      obtain ⟨a, dx, xs, rfl, ha, nA, hl, rl⟩ := r
      rw [T.ca c y] at ha
      exact ⟨.ref a, .ref C, .ref C, .ref C, true, rfl, .own C, .base (TyOf.ins ha T.ins.cl T.ins.ha T.ins.hn T.ins.htk T.ins.hm), T.ins.me, h2 _ H1 F1 S1 rfl⟩
    · rw [if_neg y] at q; cases q
  | _ => exact other q
end
end Fw
namespace Fw
open L2 PyProof.Rows PySem PySem.Spec
structure HasM (P : Program) (w : World) (K : PySem.W.Frag) (mg : Str → Option Value) (base : Heap) (k : Nat) (fa : Addr) (x q : Str) (ps : List Str) (ar : Arguments) (sp : Sp) : Prop where
  ex : ∃ fd, FnG P w K mg base k fa fd ps sp ∧ Binds K fd ps [] ∧ ∃ (body : List Stmt) (scope : Scope), FunD K x q ar body scope [] [] fa fd
section
variable {g : GC} {X : Cx} {W : WK}
def LenM (m : M (List D)) (n : Nat) : Prop := ∀ ds e e', m e = .ok ds e' → ds.length = n
theorem ml_nil : LenM mNil 0 := fun ds e e' h => by cases h; rfl
theorem ml_cons {m : M D} {m' : M (List D)} {n : Nat} (h : LenM m' n) : LenM (mCons m m') (n + 1) := fun ds e e' q => by
  unfold mCons mb at q
  cases z : m e with
  | exc _ _ _ => rw [z] at q; cases q
  | bad => rw [z] at q; cases q
  | ok d e1 =>
    rw [z] at q
    simp only at q
    cases z2 : m' e1 with
    | exc _ _ _ => rw [z2] at q; cases q
    | bad => rw [z2] at q; cases q
    | ok es e3 =>
      rw [z2] at q
      have := h es e1 e3 z2
      cases q
      rw [List.length_cons, this]
variable {k np : Nat} {C fa : Addr} {x nm q : Str} {ps : List Str} {ar : Arguments} {fn : Fn} {p pos apos : Pos} {o e : Expr} {es : List Expr}
theorem c_makeM {c0 : Nat} {m : M (List D)} (hc : g.ca c0 = C) (hf : g.cf c0 = []) (M : Mk X.K C fa) (F : HasM X.prog X.w X.K X.mg X.base k fa nm q ps ar (spF g np fn)) (hl : LenM m n0) (hn : n0 + 1 = np) (hr : Room (k + 1) X.A) (gd : X.A.guards = some []) (hg : Gl X x) (hm : X.mg x = some (.ref C)) (tk : L2N.Takes X W) (ha : CA g X W (e :: es) m)
    (hdb : (x == ("__debug__" : Str)) = false) (he : starEach (e :: es) X.env = (false, eval e X.env) :: starEach es X.env := by rfl) (hpl : (backTo pos (starEach es X.env)).any (·.1) = false := by rfl) : CE g X W (.Call (.Name x p) (e :: es) [] pos) (mMk c0 fn m) := by
  obtain ⟨fd, F, hb, _⟩ := F.ex
  exact PE.imp (pe_makeG M F hr gd hb hg hm tk ha hdb he hpl) (t_mk hc hf fun ds e e' z => by rw [hl ds e e' z]; exact hn)
theorem c_propM {isF : Nat → Bool} {pp : Addr} {f : Str} {m : M D} (hF : ∀ c, isF c = true → g.ca c = C) (he : CE g X W e m) (c : Cls X.K C) (hp : PropOf X.K C f pp fa) (F : HasM X.prog X.w X.K X.mg X.base k fa nm q ps ar (spF g 1 fn)) (hr : Room (k + 1) X.A) (gd : X.A.guards = some [])
    (hab : attributeBase e f X.env (eval e X.env) = eval e X.env := by rfl) : CE g X W (.Attribute e f pos) (mProp isF fn m) := by
  obtain ⟨fd, F, hb, _⟩ := F.ex
  exact c_prop hF he c hp F hr gd hb hab
end
end Fw
namespace Fw
open L2 PyProof.Rows PySem PySem.Spec
theorem lookup_at {f : Str} : ∀ {cs : List Str} {i : Nat} {xs : List V}, ((cs.take i).all fun c => !(f == c)) = true → cs[i]? = some f → cs.length = xs.length → (cs.zip xs).lookup f = xs[i]?
  | [], _, _, _, h, _ => by simp at h
  | c :: cs, _, [], _, _, l => by simp at l
  | c :: cs, 0, x :: xs, _, h, _ => by
    have h : c = f := by simpa using h
    subst h
    rw [List.zip_cons_cons, List.lookup_cons]
    simp
  | c :: cs, i + 1, x :: xs, h, h2, l => by
    rw [List.take_succ_cons] at h
    obtain ⟨h1, h3⟩ := He.ba h
    rw [List.zip_cons_cons, List.lookup_cons, show (f == c) = false by simpa using h1]
    simpa using lookup_at h3 (by simpa using h2) (by simpa using l)
end Fw
namespace Fw
open L2 PyProof.Rows PySem PySem.Spec
section
variable {g : GC} {X : Cx} {W : WK}
theorem PF.mono {T : Hp} {A A' : Addr → Prop} {H H' : Hp} (m : Mono A H A' H') : ∀ (ps : List (Sum D (List D))) {vs : List V}, PF g T A H ps vs → PF g T A' H' ps vs
  | [], _, h => h
  | .inl d :: r, _, ⟨y, ys, e, h, p⟩ => ⟨y, ys, e, R.mono m d h, PF.mono m r p⟩
  | .inr ds :: r, _, ⟨q, ys, xs, e, t, h, p⟩ => ⟨q, ys, xs, e, t, RL.mono m ds h, PF.mono m r p⟩
theorem t_parS {is : List Nat} {eds : List Ed} {D : Ends} {σ : Sv} {H : Hp} (h : rdS g W (mPar is eds) D σ H) : rdEds g W eds σ H fun vs H1 => ∀ H2, Same H1 H2 → D.nx (setσ is vs σ) H2 := by
  obtain ⟨f, A, e, F, h⟩ := h
  unfold mPar at h
  cases q : nx1 (mEds eds) e with
  | exc c d e1 => exact absurd q nx1_exc
  | bad => unfold mb at h; rw [q] at h; exact h.elim
  | ok ps e1 =>
    unfold mb at h
    simp only [q] at h
    refine bEds eds F (nx1_ok q) fun T A' vs H' F' t1 m' p' q1 q2 => ?_
    cases z : nx1 (asgs is ps) e1 with
    | exc _ _ _ => exact absurd z nx1_exc
    | bad => simp only [z] at h; exact h.elim
    | ok u e2 =>
      simp only [z] at h
      intro H2 sm
      have mm : Mono A' H' A' H2 := Mono.same F'.al sm
      refine h A' _ H2 (FR.asgs is ps ((F'.lessT t1).same sm) (PF.mono mm ps p') (fun q hq => ?_) q2 (nx1_ok z)) (m'.trans mm)
      have hn := q1 q hq
      refine ⟨F.h0 hn, ?_, fun xs hx => ⟨(F'.tp q _ hx).1, sm q _ (F'.tp q _ hx).2⟩, fun j s hj hb hs => ?_⟩
      · cases y : f.T q with
        | none => rfl
        | some o => have := (F.tp q o y).2; rw [hn] at this; cases this
      · have y1 : T q = none := F'.nt j s q hj hb hs
        obtain ⟨xs, y2⟩ := PF.temp ps p' hq
        rw [y1] at y2; cases y2
def gsN : List Nat → TGs
  | [] => gNil
  | i :: is => gCons (gName i) (gsN is)
theorem gsN_ok : ∀ {is : List Nat} {vs : List V} {σ : Sv} {H : Hp} {Q : Sv → Hp → Prop}, vs.length = is.length → Q (setσ is vs σ) H → gsN is vs σ H Q
  | [], [], σ, H, Q, _, h => ⟨rfl, h⟩
  | i :: is, v :: vs, σ, H, Q, l, h => ⟨v, vs, rfl, gsN_ok (by simpa using l) h⟩
  | [], _ :: _, _, _, _, l, _ => by simp at l
  | _ :: _, [], _, _, _, l, _ => by simp at l
theorem cs_parT {is : List Nat} {eds : List Ed} {ts es : List Expr} {k x1 : Nat} {p1 p2 pos : Pos} {n : Nat} (hc : X.calm = true) (hl : eds.length = is.length) (hln : is.length = n) (h15 : eds.length ≤ 15) (he : CEds g X W es eds) (hg : PGs X ts (gsN is))
    (hn : (assignEach ts X.env).length = n := by rfl) (hst : (assignEach ts X.env).findIdx? (·.1) = none := by rfl)
    (hs : swapsWithSole [.Tuple ts k p1] (.Tuple es x1 p2) pos.line X.env = pure false := by rfl) (hw : swappedStores [.Tuple ts k p1] (.Tuple es x1 p2) X.env = pure none := by rfl)
    (h1 : (assignEach [.Tuple ts k p1] X.env).map (·.2) = [assign (.Tuple ts k p1) X.env] := by rfl) : CS g X W (.Assign [.Tuple ts k p1] (.Tuple es x1 p2) pos) (mPar is eds) :=
  PS.imp (ps_asg (pe_tup he) (pg_tup hc hg hn hst) hs hw h1) fun D σ H z => rdEds_mono (fun vs H1 ⟨hv, q⟩ => ⟨by have := million; omega, fun p hp => ⟨p, vs, rfl, SqT.of upd_same, by omega, gsN_ok (by omega) (q _ (Same.new hp))⟩⟩) (rdEds_len (t_parS z))
end
end Fw
namespace Fw
open L2 PyProof.Rows PySem PySem.Spec
section
variable {X : Cx} {k : Nat} {C f : Addr} {fd : FuncData} {ps : List Str} {sp : Sp}
def rEqO (C : Addr) (sp : Sp) (n : Bool) : R2 := fun x y H Q => ∃ a b dx dy fs gs, x = .ref a ∧ y = .ref b ∧ H a = some (.ins C dx fs) ∧ H b = some (.ins C dy gs) ∧ sp [.ref a, .ref b] H (fun v H' => ∃ r, v = .bl r ∧ Q (.bl (Bool.xor n r)) H') (fun _ _ _ => False)
end
section
variable {g : GC} {X : Cx} {W : WK}
variable {k : Nat} {C fa : Addr} {nm q : Str} {ps : List Str} {ar : Arguments} {fn : Fn} {isF : Nat → Bool} {a b : Expr} {ma mb' : M D} {pos : Pos}
end
end Fw
namespace Fw
open L2 PyProof.Rows PySem PySem.Spec
section
variable {g : GC} {X : Cx} {W : WK}
def mExt (i : Nat) (m : M D) : M D := mb (hasB i) fun _ => mb m fun d => match d with
  | .lst zs => mb (chB i fun ds => lim 1000000 (ds ++ zs)) fun _ => mp .non
  | _ => fun _ => .bad
theorem c_ext (i : Nat) {x : Str} {a : Expr} {m : M D} {p apos cpos : Pos} (hK : X.K = g.K)
    (h : PE X (.Call (.Attribute (.Name x p) "extend" apos) [a] [] cpos) (tBM X.K "list" rExtend (tVar i) (tCons (rdE g W m) tNil))) : CE g X W (.Call (.Attribute (.Name x p) "extend" apos) [a] [] cpos) (mExt i m) :=
  PE.imp h fun σ H Q ⟨f, A, e, F, h⟩ => by
    rcases hasB_inv (i := i) (e := e) with z | ⟨s, ds, z1, z2, z3⟩
    · unfold mExt mb at h; rw [z] at h; exact h.elim
    · have e2 : mExt i m e = mb m (fun d => match d with
          | .lst zs => mb (chB i fun ds => lim 1000000 (ds ++ zs)) fun _ => mp .non
          | _ => fun _ => .bad) e := by
        unfold mExt
        conv => lhs; unfold mb; rw [z3]
        rfl
      rw [e2] at h
      obtain ⟨_, p1, xs, y1, y2, y3⟩ := F.lst z1 z2
      refine ⟨.ref p1, y1, .inl ⟨rfl, xs, SqL.of y2⟩, ?_⟩
      refine Fin.bE h F fun d e1 v H1 F1 S1 r h1 => ?_
      cases d with
      | lst zs =>
        have h1 : Fin g W f A σ H1 _ (mb (chB i fun ds => lim 1000000 (ds ++ zs)) (fun _ => mp D.non) e1) := h1
        unfold mb at h1
        obtain ⟨b, us, rfl, hb2, _, rl⟩ := r
        rcases chB_inv (i := i) (op := fun ds => lim 1000000 (ds ++ zs)) (e := e1) with w | ⟨s', es, es', w1, w2, w3, w4⟩
        · rw [w] at h1; exact h1.elim
        · rw [w4] at h1
          obtain ⟨hb, p2, ys, v1, v2, v3⟩ := F1.lst w1 w2
          rw [y1] at v1; cases v1
          have hl : (es ++ zs).length ≤ 1000000 ∧ es' = es ++ zs := by
            unfold lim at w3
            by_cases q : (es ++ zs).length ≤ 1000000
            · rw [if_pos q] at w3; cases w3; exact ⟨q, rfl⟩
            · rw [if_neg q] at w3; cases w3
          rw [hl.2] at h1
          obtain ⟨F2, S2⟩ := F1.put w1 hb y1 (RL.append v3 rl)
          refine ⟨p1, b, ys, us, rfl, rfl, v2, hb2, ?_, h1 _ _ F2 (S1.trans S2) rfl⟩
          have := RL.length v3
          have := RL.length rl
          have h2 := hl.1
          rw [List.length_append] at h2
          have := million
          omega
      | _ => exact h1.elim
end
end Fw
namespace Fw
open L2 PyProof.Rows PySem PySem.Spec
def itF : D → Option (Option Nat × List Int)
  | .int i => some (none, [i])
  | .tup ds => (intsD ds).map fun ns => (some ns.length, ns)
  | _ => none
def rowF : List D → Option (List (Option Nat) × List Int)
  | [] => some ([], [])
  | d :: r => match itF d with
    | some x => (match rowF r with
      | some y => some (x.1 :: y.1, x.2 ++ y.2)
      | none => none)
    | none => none
def elF : D → Option (List (Option Nat) × List Int)
  | .tup (d :: r) => rowF (d :: r)
  | _ => none
def keysF (sh : List (Option Nat)) : List D → Option (List (List Int × D))
  | [] => some []
  | d :: r => match elF d with
    | some x => if x.1 = sh then (match keysF sh r with
      | some l => some ((x.2, d) :: l)
      | none => none) else none
    | none => none
def lexI : List Int → List Int → Bool
  | [], [] => false
  | [], _ :: _ => true
  | _ :: _, [] => false
  | a :: l, b :: m => if a = b then lexI l m else decide (a < b)
theorem lexI_cons (a b : Int) (l m : List Int) : lexI (a :: l) (b :: m) = if a = b then lexI l m else decide (a < b) := rfl
theorem lexI_total : ∀ l m : List Int, (!lexI m l || !lexI l m) = true
  | [], [] => rfl
  | [], _ :: _ => rfl
  | _ :: _, [] => rfl
  | a :: l, b :: m => by
    unfold lexI
    by_cases e : a = b
    · subst e; rw [if_pos rfl, if_pos rfl]; exact lexI_total l m
    · rw [if_neg e, if_neg (fun z => e z.symm)]
      rcases Int.lt_or_gt_of_ne e with z | z
      · rw [decide_eq_false (show ¬ b < a by omega)]; rfl
      · rw [decide_eq_false (show ¬ a < b by omega), Bool.not_false, Bool.or_true]
theorem lexI_trans : ∀ l m k : List Int, lexI m l = false → lexI k m = false → lexI k l = false
  | [], [], k, _, h => h
  | [], _ :: _, [], _, _ => rfl
  | [], b :: m, c :: k, h, h' => rfl
  | a :: l, [], _, h, _ => by cases h
  | a :: l, b :: m, [], _, h' => by cases h'
  | a :: l, b :: m, c :: k, h, h' => by
    unfold lexI at *
    by_cases e : b = a
    · subst e
      rw [if_pos rfl] at h
      by_cases e2 : c = b
      · subst e2; rw [if_pos rfl] at h' ⊢; exact lexI_trans l m k h h'
      · rw [if_neg e2] at h' ⊢; exact h'
    · rw [if_neg e] at h
      have h := of_decide_eq_false h
      by_cases e2 : c = b
      · subst e2; rw [if_neg e]; exact decide_eq_false h
      · rw [if_neg e2] at h'
        have h' := of_decide_eq_false h'
        rw [if_neg (by omega)]; exact decide_eq_false (by omega)
theorem lexI_anti : ∀ l m : List Int, lexI m l = false → lexI l m = false → l = m
  | [], [], _, _ => rfl
  | [], _ :: _, _, h => by cases h
  | _ :: _, [], h, _ => by cases h
  | a :: l, b :: m, h, h' => by
    unfold lexI at h h'
    by_cases e : a = b
    · subst e; rw [if_pos rfl] at h h'; rw [lexI_anti l m h h']
    · rw [if_neg (fun z => e z.symm)] at h; rw [if_neg e] at h'
      have := of_decide_eq_false h
      have := of_decide_eq_false h'
      omega
theorem lexI_app : ∀ (x y l m : List Int), x.length = y.length → lexI (x ++ l) (y ++ m) = if x = y then lexI l m else lexI x y
  | [], [], l, m, _ => by simp
  | [], _ :: _, _, _, h => by simp at h
  | _ :: _, [], _, _, h => by simp at h
  | a :: x, b :: y, l, m, h => by
    rw [List.cons_append, List.cons_append, lexI_cons, lexI_cons]
    by_cases e : a = b
    · subst e
      rw [if_pos rfl, if_pos rfl, lexI_app x y l m (by simpa using h)]
      by_cases e2 : x = y
      · rw [if_pos e2, if_pos (by rw [e2])]
      · rw [if_neg e2, if_neg (fun z => e2 (List.cons.inj z).2)]
    · rw [if_neg e, if_neg e, if_neg (fun z => e (List.cons.inj z).1)]
theorem lexI_eq : ∀ x y : List Int, lexI x y = decide (x < y)
  | [], [] => by simp [lexI]
  | [], _ :: _ => by simp [lexI]
  | _ :: _, [] => by simp [lexI]
  | a :: l, b :: m => by
    unfold lexI
    rw [lexI_eq l m]
    by_cases e : a = b
    · subst e; rw [if_pos rfl]; simp [List.cons_lt_cons_iff]
    · rw [if_neg e]; simp [List.cons_lt_cons_iff, e]
def insK (x : List Int × D) : List (List Int × D) → List (List Int × D)
  | [] => [x]
  | y :: r => if lexI y.1 x.1 = true then y :: insK x r else x :: y :: r
def srtK : List (List Int × D) → List (List Int × D)
  | [] => []
  | x :: r => insK x (srtK r)
theorem insK_perm (x : List Int × D) : ∀ l, (insK x l).Perm (x :: l)
  | [] => .refl _
  | y :: r => by
    unfold insK
    by_cases h : lexI y.1 x.1 = true
    · rw [if_pos h]; exact ((insK_perm x r).cons y).trans (.swap x y r)
    · rw [if_neg h]
theorem srtK_perm : ∀ l, (srtK l).Perm l
  | [] => .refl _
  | x :: r => (insK_perm x _).trans ((srtK_perm r).cons x)
def leK (x y : List Int × D) : Bool := !lexI y.1 x.1
theorem leK_trans (x y z : List Int × D) (h : leK x y = true) (h' : leK y z = true) : leK x z = true := by
  unfold leK at *
  rw [Bool.not_eq_true'] at *
  exact lexI_trans _ _ _ h h'
theorem insK_sorted (x : List Int × D) : ∀ l, l.Pairwise (fun a b => leK a b = true) → (insK x l).Pairwise (fun a b => leK a b = true)
  | [], _ => .cons (fun _ h => by cases h) .nil
  | y :: r, h => by
    obtain ⟨h1, h2⟩ := List.pairwise_cons.mp h
    unfold insK
    by_cases c : lexI y.1 x.1 = true
    · rw [if_pos c]
      refine .cons (fun z hz => ?_) (insK_sorted x r h2)
      rcases List.mem_cons.mp ((insK_perm x r).mem_iff.mp hz) with rfl | hz
      · have := lexI_total y.1 z.1
        rw [c, Bool.not_true, Bool.or_false] at this
        exact this
      · exact h1 z hz
    · rw [if_neg c]
      have c' : leK x y = true := by unfold leK; rw [eq_false_of_ne_true c]; rfl
      refine .cons (fun z hz => ?_) h
      rcases List.mem_cons.mp hz with rfl | hz
      · exact c'
      · exact leK_trans x y z c' (h1 z hz)
theorem srtK_sorted : ∀ l, (srtK l).Pairwise (fun a b => leK a b = true)
  | [] => .nil
  | x :: r => insK_sorted x _ (srtK_sorted r)
theorem sorted_one {α : Type} {le : α → α → Bool} : ∀ {l m : List α}, l.Perm m → l.Pairwise (fun a b => le a b = true) → m.Pairwise (fun a b => le a b = true) → (∀ a ∈ l, ∀ b ∈ l, le a b = true → le b a = true → a = b) → l = m
  | [], m, p, _, _, _ => (List.Perm.nil_eq p)
  | a :: l, [], p, _, _, _ => by have := p.length_eq; simp at this
  | a :: l, b :: m, p, h, h', an => by
    obtain ⟨h1, h2⟩ := List.pairwise_cons.mp h
    obtain ⟨k1, k2⟩ := List.pairwise_cons.mp h'
    have e : a = b := by
      have ma : a ∈ b :: m := p.mem_iff.mp List.mem_cons_self
      have mb : b ∈ a :: l := p.mem_iff.mpr List.mem_cons_self
      rcases List.mem_cons.mp ma with e | ma
      · exact e
      · rcases List.mem_cons.mp mb with e | mb'
        · exact e.symm
        · exact an a List.mem_cons_self b mb (h1 b mb') (k1 a ma)
    subst e
    rw [sorted_one (p.cons_inv) h2 k2 fun x hx y hy => an x (List.mem_cons_of_mem _ hx) y (List.mem_cons_of_mem _ hy)]
theorem pyL_int : ∀ L : List Int, pyL (L.map D.int) = some (L.map PyData.int)
  | [] => by simp [pyL]
  | a :: L => by simp [pyL, py, pyL_int L]
theorem it_py {d : D} {x : Option Nat × List Int} (h : itF d = some x) : ∃ p, py d = some p ∧ ((d = .int (x.2.headD 0) ∧ x.1 = none ∧ x.2 = [x.2.headD 0] ∧ p = .int (x.2.headD 0)) ∨ (d = .tup (x.2.map D.int) ∧ x.1 = some x.2.length ∧ p = .tuple (x.2.map PyData.int))) := by
  cases d with
  | int i => cases h; exact ⟨.int i, by rw [py], .inl ⟨rfl, rfl, rfl, rfl⟩⟩
  | tup ds =>
    obtain ⟨ns, h1, rfl⟩ := map_some (show (intsD ds).map (fun ns => (some ns.length, ns)) = some x from h)
    have e := intsD_eq h1
    subst e
    exact ⟨.tuple (ns.map PyData.int), by rw [py_tup, pyL_int]; rfl, .inr ⟨rfl, rfl, rfl⟩⟩
  | _ => cases h
theorem eqv_int (x y : Int) : PyData.eqv (.int x) (.int y) = decide (x = y) := by
  by_cases h : x = y <;> simp [PyData.eqv, h]
theorem eqvAll_ints : ∀ xs ys : List Int, PyData.eqv (.tuple (xs.map .int)) (.tuple (ys.map .int)) = decide (xs = ys)
  | [], [] => by simp [PyData.eqv, PyData.eqvAll]
  | [], _ :: _ => by simp [PyData.eqv, PyData.eqvAll]
  | _ :: _, [] => by simp [PyData.eqv, PyData.eqvAll]
  | x :: xs, y :: ys => by
    have ih := eqvAll_ints xs ys
    simp only [PyData.eqv, List.map_cons, PyData.eqvAll] at ih ⊢
    rw [ih]
    by_cases h : x = y <;> simp [h]
theorem it_ord {d e : D} {x y : Option Nat × List Int} {p q : PyData} (h : itF d = some x) (h' : itF e = some y) (hp : py d = some p) (hq : py e = some q) (s : x.1 = y.1) :
    PySem.W.alike p q = true ∧ x.2.length = y.2.length ∧ PyData.eqv p q = decide (x.2 = y.2) ∧ PySem.W.dataLt p q = lexI x.2 y.2 ∧ p.depth ≤ 1 := by
  obtain ⟨p', e1, h1⟩ := it_py h
  obtain ⟨q', e2, h2⟩ := it_py h'
  rw [hp] at e1; cases e1
  rw [hq] at e2; cases e2
  obtain ⟨x1, x2⟩ := x
  obtain ⟨y1, y2⟩ := y
  rcases h1 with ⟨_, h3, h4, rfl⟩ | ⟨_, h3, rfl⟩
  · rcases h2 with ⟨_, k3, k4, rfl⟩ | ⟨_, k3, rfl⟩
    · simp only at h4 k4
      rw [h4, k4]
      refine ⟨by simp [PySem.W.alike], rfl, ?_, ?_, by simp [PyData.depth]⟩
      · rw [eqv_int]; simp
      · rw [PySem.W.dataLt_int]
        generalize x2.headD 0 = i
        generalize y2.headD 0 = j
        show decide (i < j) = (if i = j then false else decide (i < j))
        by_cases z : i = j
        · rw [if_pos z]; exact decide_eq_false (by omega)
        · rw [if_neg z]
    · simp only at s h3 k3; rw [s, k3] at h3; cases h3
  · rcases h2 with ⟨_, k3, k4, rfl⟩ | ⟨_, k3, rfl⟩
    · simp only at s h3 k3; rw [s, k3] at h3; cases h3
    · simp only at s h3 k3
      have ln : x2.length = y2.length := by rw [h3, k3] at s; exact Option.some.inj s
      refine ⟨?_, ln, eqvAll_ints _ _, ?_, ?_⟩
      · simp only [PySem.W.alike]; exact PySem.W.alike_ints _ _
      · rw [PySem.W.dataLt_tuple, lexI_eq]; exact PySem.W.dataLt_ints _ _
      · simp [PyData.depth, PySem.W.depth_ints]
theorem row_ord : ∀ {ds es : List D} {x y : List (Option Nat) × List Int} {ps qs : List PyData}, rowF ds = some x → rowF es = some y → pyL ds = some ps → pyL es = some qs → x.1 = y.1 →
    PySem.W.alikeAll ps qs = true ∧ x.2.length = y.2.length ∧ PySem.W.rowLt ps qs = lexI x.2 y.2 ∧ PyData.depthAll ps ≤ 1
  | [], [], x, y, ps, qs, h, h', hp, hq, s => by
    cases h; cases h'
    simp only [pyL] at hp hq
    cases hp; cases hq
    exact ⟨by simp [PySem.W.alikeAll], rfl, lex_irrefl _, by simp [PyData.depthAll]⟩
  | [], e :: es, x, y, ps, qs, h, h', hp, hq, s => by
    cases h
    unfold rowF at h'
    split at h'
    · split at h'
      · cases h'; cases s
      · cases h'
    · cases h'
  | d :: ds, [], x, y, ps, qs, h, h', hp, hq, s => by
    cases h'
    unfold rowF at h
    split at h
    · split at h
      · cases h; cases s
      · cases h
    · cases h
  | d :: ds, e :: es, x, y, ps, qs, h, h', hp, hq, s => by
    unfold rowF at h h'
    cases a1 : itF d with
    | none => rw [a1] at h; cases h
    | some u =>
      cases a2 : rowF ds with
      | none => rw [a1, a2] at h; cases h
      | some v =>
        cases b1 : itF e with
        | none => rw [b1] at h'; cases h'
        | some w =>
          cases b2 : rowF es with
          | none => rw [b1, b2] at h'; cases h'
          | some z =>
            rw [a1, a2] at h; rw [b1, b2] at h'
            cases h; cases h'
            obtain ⟨p, ps', p1, p2, rfl⟩ := pyL_inv hp
            obtain ⟨q, qs', q1, q2, rfl⟩ := pyL_inv hq
            obtain ⟨s1, s2⟩ := List.cons.inj s
            obtain ⟨i1, i2, i3, i4, i5⟩ := it_ord a1 b1 p1 q1 s1
            obtain ⟨j1, j2, j3, j4⟩ := row_ord a2 b2 p2 q2 s2
            refine ⟨by simp [PySem.W.alikeAll, i1, j1], by simp [i2, j2], ?_, ?_⟩
            · show PyProof.Rows.lexLt itemOrd (PySem.W.keyToksAll (p :: ps')) (PySem.W.keyToksAll (q :: qs')) = lexI (u.2 ++ v.2) (w.2 ++ z.2)
              rw [PySem.W.dataLt_cons i1, lexI_app _ _ _ _ i2, i3, i4]
              have j3 : PyProof.Rows.lexLt itemOrd (PySem.W.keyToksAll ps') (PySem.W.keyToksAll qs') = lexI v.2 z.2 := j3
              rw [j3]
              by_cases c : u.2 = w.2 <;> simp [c]
            · simp only [PyData.depthAll]; omega
end Fw
namespace Fw
open L2 PyProof.Rows PySem PySem.Spec
def rSortedD (K : PySem.W.Frag) : List V → Hp → VK → Prop := fun vs H Q => ∃ (a : Addr) (ws : List (V × PyData)), vs = [.ref a] ∧ SqL K H a (ws.map (·.1)) ∧ (∀ w ∈ ws, Dp K H w.1 w.2) ∧ PySem.W.AllAlike (ws.map (·.2)) ∧ PySem.W.Sortable (ws.map (·.2)) ∧ (∀ w ∈ ws, w.2.depth ≤ 8) ∧
  ∀ p, H p = none → Q (.ref p) (upd H p (.lst ((ws.mergeSort (PySem.W.dataLe false (·.2))).map (·.1))))
theorem each_of_vals {α : Type} {P : V → Value → Prop} : ∀ {ws : List (V × α)} {us : List Value}, Vals (ws.map (·.1)) us → (∀ w ∈ ws, ∀ u, RelV w.1 u → P w.1 u) → PySem.W.EachIs (fun u (w : V × α) => P w.1 u) us ws
  | [], _, r, _ => by cases r; exact .nil
  | w :: ws, us, r, h => by
    cases r with
    | cons r1 r2 => exact .cons (h w List.mem_cons_self _ r1) (each_of_vals r2 fun z hz => h z (List.mem_cons_of_mem _ hz))
theorem vals_of_each {α : Type} : ∀ {ws : List (V × α)} {us : List Value}, PySem.W.EachIs (fun u (w : V × α) => RelV w.1 u) us ws → Vals (ws.map (·.1)) us
  | [], _, r => by cases r; exact .nil
  | w :: ws, us, r => by
    cases r with
    | cons r1 r2 => exact .cons r1 (vals_of_each r2)
theorem each_reads {X : Cx} {pins : List (Addr × Obj)} {σ : L2.St} {H : Hp} {s : Shared} (I : L2.Inv X pins σ H s) : ∀ {ws : List (V × PyData)} {us : List Value}, Vals (ws.map (·.1)) us → (∀ w ∈ ws, Dp X.K H w.1 w.2) → PySem.W.EachIs (fun u (w : V × PyData) => ∃ as, Reads s.heap u w.2 as) us ws
  | [], _, r, _ => by cases r; exact .nil
  | w :: ws, us, r, h => by
    cases r with
    | cons r1 r2 => exact .cons (Dp.reads I w.2 w.1 _ (h w List.mem_cons_self) r1) (each_reads I r2 fun z hz => h z (List.mem_cons_of_mem _ hz))
theorem cr_sortedD {X : Cx} (hu : X.A.units + 64 < cLine) : CallR X (.builtin "sorted") (rSortedD X.K) := by
  intro pins s σ H vs us Q I r h
  obtain ⟨a, ws, rfl, hs, hd, hal, hk, hdp, q⟩ := h
  obtain ⟨its, rv, hl, hz⟩ := I.list hs
  rw [Vals.ref1 r]
  have e : PySem.W.EachIs (fun u (w : V × PyData) => RelV w.1 u) its ws := each_of_vals rv fun _ _ _ h => h
  have er := each_reads I rv hd
  rw [List.length_map] at hz
  refine PySem.W.sorted_data (enc := fun w : V × PyData => w.2) hl.isList e er hal hk hz (fun w hw => ?_) fun out hlen eo => ?_
  · have := hdp w hw; omega
  · obtain ⟨ep, he'⟩ := PyProof.Rows.sortedAll_at s.heap its out.toArray
    have vv := vals_of_each eo
    refine ⟨.ref _, upd H (s.heap.objs.size + 1) (.lst ((ws.mergeSort (PySem.W.dataLe false (·.2))).map (·.1))), I.laid (t' := s.toks) (fun _ _ => PyProof.Rows.sortedAll_old) (Nat.le_succ _) ⟨?_, out, ep, vv, he'⟩, rfl, q _ (I.hok.fresh (Nat.le_succ _))⟩
    rw [List.length_map, List.length_mergeSort]; exact hz
section
variable {g : GC} {A : Addr → Prop} {H : Hp}
theorem RL.pairs : ∀ {ds : List D} {xs : List V}, RL g A H ds xs → ∃ bs : List (V × D), bs.map (·.1) = xs ∧ bs.map (·.2) = ds ∧ ∀ b ∈ bs, R g A H b.2 b.1
  | [], xs, e => ⟨[], by rw [show xs = [] from e]; rfl, rfl, fun _ h => by cases h⟩
  | d :: ds, xs, ⟨y, ys, e, r, t⟩ => by
    obtain ⟨bs, h1, h2, h3⟩ := RL.pairs t
    refine ⟨(y, d) :: bs, by rw [e, List.map_cons, h1], by rw [List.map_cons, h2], fun b hb => ?_⟩
    rcases List.mem_cons.mp hb with rfl | hb
    · exact r
    · exact h3 b hb
theorem RL.of_pairs : ∀ (bs : List (V × D)), (∀ b ∈ bs, R g A H b.2 b.1) → RL g A H (bs.map (·.2)) (bs.map (·.1))
  | [], _ => rfl
  | b :: bs, h => ⟨b.1, _, rfl, h b List.mem_cons_self, RL.of_pairs bs fun z hz => h z (List.mem_cons_of_mem _ hz)⟩
end
def dSortedV : D → Option (List D)
  | .lst (d :: r) => match elF d with
    | some x => (keysF x.1 (d :: r)).map fun l => (srtK l).map (·.2)
    | none => none
  | _ => none
def pyOf (d : D) : PyData := (py d).getD .none
def flatF (d : D) : List Int := match elF d with
  | some x => x.2
  | none => []
theorem keysF_ok {sh : List (Option Nat)} : ∀ {ds : List D} {l : List (List Int × D)}, keysF sh ds = some l → l = ds.map (fun d => (flatF d, d)) ∧ ∀ d ∈ ds, ∃ x, elF d = some x ∧ x.1 = sh
  | [], l, h => by cases h; exact ⟨rfl, fun _ h => by cases h⟩
  | d :: r, l, h => by
    unfold keysF at h
    cases e : elF d with
    | none => rw [e] at h; cases h
    | some x =>
      rw [e] at h
      by_cases c : x.1 = sh
      · have h : (match keysF sh r with
          | some l => some ((x.2, d) :: l)
          | none => none) = some l := by rw [← h]; exact (if_pos c).symm
        cases q : keysF sh r with
        | none => rw [q] at h; cases h
        | some l' =>
          rw [q] at h; cases h
          obtain ⟨h1, h2⟩ := keysF_ok q
          refine ⟨by rw [List.map_cons, h1]; simp only [flatF, e], fun z hz => ?_⟩
          rcases List.mem_cons.mp hz with rfl | hz
          · exact ⟨x, e, c⟩
          · exact h2 z hz
      · have h : (none : Option (List (List Int × D))) = some l := by rw [← h]; exact (if_neg c).symm
        cases h
theorem el_inv {d : D} {x : List (Option Nat) × List Int} (h : elF d = some x) : ∃ e r, d = .tup (e :: r) ∧ rowF (e :: r) = some x := by
  cases d with
  | tup ds =>
    cases ds with
    | nil => cases h
    | cons e r => exact ⟨e, r, rfl, h⟩
  | _ => cases h
theorem row_py : ∀ {ds : List D} {x : List (Option Nat) × List Int}, rowF ds = some x → ∃ ps, pyL ds = some ps ∧ ps.length = ds.length
  | [], x, h => ⟨[], by simp [pyL], rfl⟩
  | d :: r, x, h => by
    unfold rowF at h
    cases a1 : itF d with
    | none => rw [a1] at h; cases h
    | some u =>
      cases a2 : rowF r with
      | none => rw [a1, a2] at h; cases h
      | some v =>
        obtain ⟨p, p1, _⟩ := it_py a1
        obtain ⟨ps, p2, p3⟩ := row_py a2
        exact ⟨p :: ps, by rw [pyL_cons, p1, p2], by simp [p3]⟩
theorem el_ord {d e : D} {x y : List (Option Nat) × List Int} (h : elF d = some x) (h' : elF e = some y) (s : x.1 = y.1) :
    ∃ p q, py d = some p ∧ py e = some q ∧ PySem.W.alike p q = true ∧ (∃ u r, p = .tuple (u :: r)) ∧ p.depth ≤ 2 ∧ PySem.W.dataLt p q = lexI x.2 y.2 := by
  obtain ⟨a, r, rfl, h1⟩ := el_inv h
  obtain ⟨b, r', rfl, h2⟩ := el_inv h'
  obtain ⟨ps, p1, p2⟩ := row_py h1
  obtain ⟨qs, q1, q2⟩ := row_py h2
  obtain ⟨i1, i2, i3, i4⟩ := row_ord h1 h2 p1 q1 s
  refine ⟨.tuple ps, .tuple qs, by rw [py_tup, p1]; rfl, by rw [py_tup, q1]; rfl, by simp only [PySem.W.alike]; exact i1, ?_, by simp only [PyData.depth]; omega, by rw [PySem.W.dataLt_tuple]; exact i3⟩
  cases ps with
  | nil => simp at p2
  | cons u r => exact ⟨u, r, rfl⟩
theorem it_inj {d e : D} {x : Option Nat × List Int} (h : itF d = some x) (h' : itF e = some x) : d = e := by
  obtain ⟨p, _, h1⟩ := it_py h
  obtain ⟨q, _, h2⟩ := it_py h'
  rcases h1 with ⟨rfl, h3, _⟩ | ⟨rfl, h3, _⟩
  · rcases h2 with ⟨rfl, k3, _⟩ | ⟨rfl, k3, _⟩
    · rfl
    · rw [h3] at k3; cases k3
  · rcases h2 with ⟨rfl, k3, _⟩ | ⟨rfl, k3, _⟩
    · rw [h3] at k3; cases k3
    · rfl
theorem it_len {d : D} {x : Option Nat × List Int} (h : itF d = some x) : x.2.length = x.1.getD 1 := by
  obtain ⟨p, _, h1⟩ := it_py h
  rcases h1 with ⟨_, h3, h4, _⟩ | ⟨_, h3, _⟩
  · rw [h3, h4]; rfl
  · rw [h3]; rfl
theorem row_inj : ∀ {ds es : List D} {x : List (Option Nat) × List Int}, rowF ds = some x → rowF es = some x → ds = es
  | [], [], _, _, _ => rfl
  | [], e :: es, x, h, h' => by
    cases h
    unfold rowF at h'
    split at h'
    · split at h' <;> cases h'
    · cases h'
  | d :: ds, [], x, h, h' => by
    cases h'
    unfold rowF at h
    split at h
    · split at h <;> cases h
    · cases h
  | d :: ds, e :: es, x, h, h' => by
    unfold rowF at h h'
    cases a1 : itF d with
    | none => rw [a1] at h; cases h
    | some u =>
      cases a2 : rowF ds with
      | none => rw [a1, a2] at h; cases h
      | some v =>
        cases b1 : itF e with
        | none => rw [b1] at h'; cases h'
        | some w =>
          cases b2 : rowF es with
          | none => rw [b1, b2] at h'; cases h'
          | some z =>
            rw [a1, a2] at h; rw [b1, b2] at h'
            cases h
            have h' := Option.some.inj h'
            obtain ⟨s1, s2⟩ := Prod.mk.inj h'
            obtain ⟨s3, s4⟩ := List.cons.inj s1
            have ln : w.2.length = u.2.length := by rw [it_len a1, it_len b1, s3]
            obtain ⟨s5, s6⟩ := List.append_inj s2 ln
            have e1 : w = u := Prod.ext s3 s5
            have e2 : z = v := Prod.ext s4 s6
            subst e1; subst e2
            rw [it_inj a1 b1, row_inj a2 b2]
theorem el_inj {d e : D} {x : List (Option Nat) × List Int} (h : elF d = some x) (h' : elF e = some x) : d = e := by
  obtain ⟨a, r, rfl, h1⟩ := el_inv h
  obtain ⟨b, r', rfl, h2⟩ := el_inv h'
  rw [row_inj h1 h2]
theorem fs_sortedV {g : GC} : FS g (rSortedD g.K) (op1 dSortedV) := fs1 fun A H d es v Q al r q k => by
  cases d with
  | lst ds =>
    cases ds with
    | nil => cases q
    | cons d0 r0 =>
      have q : (match elF d0 with
        | some x => (keysF x.1 (d0 :: r0)).map fun l => (srtK l).map (·.2)
        | none => none) = some es := q
      cases e0 : elF d0 with
      | none => rw [e0] at q; cases q
      | some x0 =>
        rw [e0] at q
        obtain ⟨l, hl, rfl⟩ := map_some (show (keysF x0.1 (d0 :: r0)).map (fun l => (srtK l).map (·.2)) = some es from q)
        obtain ⟨rfl, hsh⟩ := keysF_ok hl
        obtain ⟨a, xs, rfl, h1, rl⟩ := r
        obtain ⟨bs, b1, b2, b3⟩ := RL.pairs rl
        have hb : ∀ b ∈ bs, ∃ x, elF b.2 = some x ∧ x.1 = x0.1 := fun b hb => hsh b.2 (by rw [← b2]; exact List.mem_map.mpr ⟨b, hb, rfl⟩)
        have two : ∀ b ∈ bs, ∀ c ∈ bs, PySem.W.alike (pyOf b.2) (pyOf c.2) = true ∧ (∃ u r, pyOf b.2 = .tuple (u :: r)) ∧ (pyOf b.2).depth ≤ 2 ∧ PySem.W.dataLt (pyOf b.2) (pyOf c.2) = lexI (flatF b.2) (flatF c.2) ∧ py b.2 = some (pyOf b.2) := by
          intro b hb' c hc'
          obtain ⟨x, x1, x2⟩ := hb b hb'
          obtain ⟨y, y1, y2⟩ := hb c hc'
          obtain ⟨p, q, p1, q1, p2, p3, p4, p5⟩ := el_ord x1 y1 (by rw [x2, y2])
          have ep : pyOf b.2 = p := by unfold pyOf; rw [p1]; rfl
          have eq : pyOf c.2 = q := by unfold pyOf; rw [q1]; rfl
          rw [ep, eq]
          refine ⟨p2, p3, p4, ?_, p1⟩
          unfold flatF; rw [x1, y1]; exact p5
        let f : V × D → V × PyData := fun b => (b.1, pyOf b.2)
        let rr : V × D → V × D → Bool := fun b c => PySem.W.dataLe false (fun w : V × PyData => w.2) (f b) (f c)
        have m1 : (bs.mergeSort rr).map f = (bs.map f).mergeSort (PySem.W.dataLe false fun w : V × PyData => w.2) := List.map_mergeSort fun _ _ _ _ => rfl
        have m2 : (bs.mergeSort rr).map (fun b => (flatF b.2, b.2)) = (bs.map (fun b => (flatF b.2, b.2))).mergeSort leK := List.map_mergeSort fun b hb' c hc' => by
          show (!PySem.W.dataLt (pyOf c.2) (pyOf b.2)) = !lexI (flatF c.2) (flatF b.2)
          rw [(two c hc' b hb').2.2.2.1]
        have m3 : bs.map (fun b => (flatF b.2, b.2)) = (d0 :: r0).map fun d => (flatF d, d) := by rw [← b2, List.map_map]; rfl
        have m4 : ((d0 :: r0).map fun d => (flatF d, d)).mergeSort leK = srtK ((d0 :: r0).map fun d => (flatF d, d)) := by
          refine sorted_one ((List.mergeSort_perm _ _).trans (srtK_perm _).symm) (List.pairwise_mergeSort leK_trans (fun a b => lexI_total a.1 b.1) _) (srtK_sorted _) fun z hz y hy h1 h2 => ?_
          rw [List.mem_mergeSort] at hz hy
          obtain ⟨z', z1, rfl⟩ := List.mem_map.mp hz
          obtain ⟨y', y1, rfl⟩ := List.mem_map.mp hy
          obtain ⟨x, x1, x2⟩ := hsh z' z1
          obtain ⟨w, w1, w2⟩ := hsh y' y1
          unfold leK at h1 h2
          rw [Bool.not_eq_true'] at h1 h2
          have fl : flatF z' = flatF y' := lexI_anti _ _ h1 h2
          have : x = w := Prod.ext (by rw [x2, w2]) (by have := fl; unfold flatF at this; rw [x1, w1] at this; exact this)
          subst this
          rw [el_inj x1 w1]
        refine ⟨a, bs.map f, rfl, ?_, ?_, ?_, ?_, ?_, fun p hp => ?_⟩
        · rw [List.map_map]
          show SqL g.K H a (bs.map (·.1))
          rw [b1]; exact SqL.of h1
        · intro w hw
          obtain ⟨b, hb', rfl⟩ := List.mem_map.mp hw
          exact R.dp b.2 b.1 _ (b3 b hb') (two b hb' b hb').2.2.2.2
        · intro u hu v hv
          rw [List.map_map] at hu hv
          obtain ⟨b, hb', rfl⟩ := List.mem_map.mp hu
          obtain ⟨c, hc', rfl⟩ := List.mem_map.mp hv
          exact (two b hb' c hc').1
        · refine .inl fun u hu => ?_
          rw [List.map_map] at hu
          obtain ⟨b, hb', rfl⟩ := List.mem_map.mp hu
          exact (two b hb' b hb').2.1
        · intro w hw
          obtain ⟨b, hb', rfl⟩ := List.mem_map.mp hw
          have := (two b hb' b hb').2.2.1
          exact Nat.le_trans this (by omega)
        · refine k p _ _ hp (Same.new hp) upd_only upd_same ?_
          rw [← m1, List.map_map]
          have e2 : (srtK ((d0 :: r0).map fun d => (flatF d, d))).map (·.2) = (bs.mergeSort rr).map (·.2) := by
            rw [← m4, ← m3, ← m2, List.map_map]; rfl
          rw [e2]
          exact RL.of_pairs _ fun b hb' => b3 b (List.mem_mergeSort.mp hb')
  | _ => cases q
def dSortedZ (d : D) : Option (List D) := match dSortedA d with
  | some l => some l
  | none => dSortedV d
abbrev rSortedZ (K : PySem.W.Frag) : List V → Hp → VK → Prop := fun vs H Q => rSortedA K vs H Q ∨ rSortedD K vs H Q
theorem cr_sortedZ {X : Cx} (hu : X.A.units + 64 < cLine) : CallR X (.builtin "sorted") (rSortedZ X.K) := fun pins s σ H vs us Q I r h => by
  rcases h with h | h
  · exact cr_sortedA pins s σ H vs us Q I r h
  · exact cr_sortedD hu pins s σ H vs us Q I r h
theorem fs_sortedZ {g : GC} : FS g (rSortedZ g.K) (op1 dSortedZ) := fs1 fun A H d es v Q al r q k => by
  unfold dSortedZ at q
  cases e : dSortedA d with
  | some l =>
    rw [e] at q; cases q
    exact .inl (fs_sortedA A H [d] es [v] Q al ⟨v, [], rfl, r, rfl⟩ e k)
  | none =>
    rw [e] at q
    exact .inr (fs_sortedV A H [d] es [v] Q al ⟨v, [], rfl, r, rfl⟩ q k)
end Fw
namespace Fw
open L2 PyProof.Rows PySem PySem.Spec
section
variable {g : GC} {X : Cx} {W : WK}
def sdL (i : Int) : List Int := if i = 0 then [0] else if i < 0 then [i, -i] else [-i, i]
def mSD (i : Nat) : M (List D) := fun e => match e[i]? with
  | some (.val (.int n)) => .ok ((sdL n).map D.int) e
  | _ => .bad
theorem sd_merge (n : Int) : mergeK [] [((.inl n : Key), V.bl true), ((.inl (-n) : Key), V.bl true)] = (if n = 0 then [((.inl n : Key), V.bl true)] else [((.inl n : Key), V.bl true), ((.inl (-n) : Key), V.bl true)]) := by
  by_cases z : n = 0
  · subst z; rfl
  · rw [if_neg z]
    simp only [mergeK, List.foldl, putK]
    have : ¬ (n = -n) := by omega
    have : ¬ (-n = n) := by omega
    simp_all [putK]
theorem cf_sd (i : Nat) {x : Str} {p p1 p2 p3 pd pos q1 q2 : Pos} {k1 k2 : Nat} (hx1 : PE X (.Name x p1) (tVar i)) (hx2 : PE X (.Name x p2) (tVar i)) (hc : X.calm = true) (hg : Gl X "sorted") (hm : X.mg "sorted" = none)
    (hs : starEach [.Dict [some (.Name x p1), some (.UnaryOp .USub (.Name x p2) p3)] [.Constant (.bool true) k1 q1, .Constant (.bool true) k2 q2] pd] X.env = (false, eval (.Dict [some (.Name x p1), some (.UnaryOp .USub (.Name x p2) p3)] [.Constant (.bool true) k1 q1, .Constant (.bool true) k2 q2] pd) X.env) :: starEach [] X.env := by rfl) (hpl : (backTo pos (starEach [] X.env)).any (·.1) = false := by rfl) :
    CF g X W (.Call (.Name "sorted" p) [.Dict [some (.Name x p1), some (.UnaryOp .USub (.Name x p2) p3)] [.Constant (.bool true) k1 q1, .Constant (.bool true) k2 q2] pd] [] pos) (mSD i) := by
  have PAs : PA X [.Dict [some (.Name x p1), some (.UnaryOp .USub (.Name x p2) p3)] [.Constant (.bool true) k1 q1, .Constant (.bool true) k2 q2] pd] (tCons (tDisp [(tVar i, tC (.bl true)), (tUn (rU fun i => .int (-i)) (tVar i), tC (.bl true))]) tNil) :=
    pa_cons (pe_disp (pps_cons hx1 pe_bl (pps_cons (pe_un un_neg hx2) pe_bl pps_nil)) rfl rfl (by simp) (by simp)) pa_nil hs
  refine PE.imp (pe_callB (call_sortedDI hc) hg hm (by decide +kernel) PAs (by decide +kernel) (by decide +kernel) hs hpl) fun σ H Q ⟨f, A, e, F, h⟩ => ?_
  unfold mSD at h
  split at h
  · rename_i n q
    obtain ⟨o, h1, _, v, h2, h3⟩ := F.at q
    have h3 : v = .int n := h3
    subst h3
    have hv : σ[i]? = some (some (.int n)) := by rw [h1, h2]
    intro p0 hp0
    refine ⟨.int n, hv, .int n, hv, n, rfl, upd_same, [((.inl n : Key), V.bl true), ((.inl (-n) : Key), V.bl true)], rfl, by simp, ?_⟩
    rw [sd_merge]
    refine ⟨p0, _, (if n = 0 then [n] else [n, -n]), rfl, .inl upd_same, ?_, ?_, fun ys p' perm srt hp' => ?_⟩
    · by_cases z : n = 0 <;> simp [z]
    · by_cases z : n = 0 <;> simp [z]
    · have es : ys = sdL n := by
        refine sorted_uniq (perm.trans ?_) srt ?_
        · unfold sdL
          by_cases z : n = 0
          · subst z; exact .refl _
          · rw [if_neg z, if_neg z]
            by_cases y : n < 0
            · rw [if_pos y]
            · rw [if_neg y]; exact .swap _ _ _
        · unfold sdL
          by_cases z : n = 0
          · subst z; simp
          · rw [if_neg z]
            by_cases y : n < 0
            · rw [if_pos y]; simp; omega
            · rw [if_neg y]; simp; omega
      subst es
      have ne : p' ≠ p0 := fun z => by rw [z, upd_same] at hp'; cases hp'
      have hpH : H p' = none := by rw [upd_ne ne, upd_ne ne] at hp'; exact hp'
      have sm : Same H (upd (upd (upd H p0 (.dK [])) p0 (.dK (if n = 0 then [((.inl n : Key), V.bl true)] else [((.inl n : Key), V.bl true), ((.inl (-n) : Key), V.bl true)]))) p' (.lst ((sdL n).map V.int))) := fun a o z => by
        have n1 : a ≠ p' := ne_of_none z hpH
        have n2 : a ≠ p0 := ne_of_none z hp0
        rw [upd_ne n1, upd_ne n2, upd_ne n2]; exact z
      exact h p' _ _ (F.same sm) (F.new' hpH sm upd_same) (F.nA hpH) (.of sm) hpH upd_same (RL.ints _)
  · exact h.elim
end
end Fw
namespace Fw
open L2 PyProof.Rows PySem PySem.Spec
section
variable {g : GC} {X : Cx} {W : WK} {a b c d : Expr} {pos : Pos} {ta tb tc td : TE}
end
end Fw
namespace Fw
open L2 PyProof.Rows PySem PySem.Spec
theorem EachIs.and {α : Type} {P Q : Value → α → Prop} : ∀ {ws : List α} {us : List Value}, PySem.W.EachIs P us ws → PySem.W.EachIs Q us ws → PySem.W.EachIs (fun u w => P u w ∧ Q u w) us ws
  | [], _, r, r' => by cases r; exact .nil
  | w :: ws, us, r, r' => by
    cases r with
    | cons r1 r2 =>
      cases r' with
      | cons q1 q2 => exact .cons ⟨r1, q1⟩ (EachIs.and r2 q2)
end Fw
namespace Fw
open L2 PyProof.Rows PySem PySem.Spec
section
variable {g : GC} {X : Cx} {W : WK}
end
end Fw
namespace Fw
open L2 PyProof.Rows PySem PySem.Spec
section
variable {g : GC} {X : Cx} {W : WK}
def replT {α : Type} (k : List Key) (d : α) : List (List Key) → List α → List α
  | k' :: ks, x :: xs => (if k' = k then d else x) :: replT k d ks xs
  | _, xs => xs
def tput (k : List Key) (d : D) (ks : List (List Key)) (ds : List D) : List (List Key) × List D := if (ks.any fun k' => decide (k' = k)) = true then (ks, replT k d ks ds) else (ks ++ [k], ds ++ [d])
def dttOf : Sl → Option (List (List Key) × List D)
  | .box (.dtt ks ds) => some (ks, ds)
  | .pbox (.dtt ks ds) => some (ks, ds)
  | _ => none
theorem FR.dtt {f : Fx} {A : Addr → Prop} {H : Hp} {σ : Sv} {e : Ev} (F : FR g f A H σ e) {i : Nat} {s : Sl} {ks : List (List Key)} {ds : List D} (h : e[i]? = some s) (q : dttOf s = some (ks, ds)) : s.isBox = true ∧ ∃ p xs, σ[i]? = some (some (.ref p)) ∧ H p = some (.dT (ks.zip xs)) ∧ ks.length = xs.length ∧ RL g A H ds xs := by
  obtain ⟨o, h1, h2⟩ := F.at h
  cases s with
  | emp => cases q
  | val _ => cases q
  | box d =>
    cases d with
    | dtt ks' ds' => cases q; obtain ⟨_, p, e1, _, _, xs, h3, h4, h5⟩ := h2; exact ⟨rfl, p, xs, by rw [h1, e1], h3, h4, h5⟩
    | _ => cases q
  | pbox d =>
    cases d with
    | dtt ks' ds' => cases q; obtain ⟨p, _, e1, _, xs, h3, h4, h5⟩ := h2; exact ⟨rfl, p, xs, by rw [h1, e1], h3, h4, h5⟩
    | _ => cases q
end
end Fw
namespace Fw
open L2 PyProof.Rows PySem PySem.Spec
end Fw
namespace Fw
open L2 PyProof.Rows PySem PySem.Spec
end Fw
namespace Fw
open L2 PyProof.Rows PySem PySem.Spec
section
variable {X : Cx}
end
end Fw
namespace Fw
open L2 PyProof.Rows PySem PySem.Spec
section
variable {g : GC} {X : Cx} {W : WK}
abbrev Fx.to (f : Fx) (D : Addr) (o : HO) : Fx := { f with T := upd f.T D o }
end
end Fw
namespace Fw
open L2 PyProof.Rows PySem PySem.Spec
section
variable {g : GC} {X : Cx} {W : WK}
variable {k np : Nat} {x : Str} {ps : List Str} {fn : Fn} {p pos : Pos} {e : Expr} {es : List Expr} {b : Bool}
end
end Fw
namespace GQ
open PySem PySem.SeqAt
open AutoSeq1 (wpAny_loadPart')
open MeetsSeq MeetsSeq2 MeetsSeq3 SeqRoads2
end GQ
namespace Fw
open L2 PyProof.Rows PySem PySem.Spec
section
variable {X : Cx} {k : Nat} {C f : Addr} {fd : FuncData} {ps : List Str} {sp : Sp}
end
section
variable {g : GC} {X : Cx} {W : WK}
variable {k : Nat} {C fa : Addr} {nm q : Str} {ps : List Str} {ar : Arguments} {fn : Fn} {isF : Nat → Bool} {a b : Expr} {ma mb' : M D} {pos : Pos}
variable {e : Ev}
end
end Fw
namespace Fw
open L2 PyProof.Rows PySem PySem.Spec
end Fw
namespace GQ
open PySem PySem.SeqAt
open AutoSeq1 (wpAny_loadPart')
open MeetsSeq MeetsSeq2 MeetsSeq3 SeqRoads2
section
variable {prog : Program} {w : World} {A : Around} {R : Result → Shared → Prop}
end
section
variable {prog : Program} {w : World} {A : Around} {E : Value → Shared → Prop} {s : Shared}
end
end GQ
namespace Fw
open L2 PyProof.Rows PySem PySem.Spec
section
variable {X : Cx} {k : Nat} {C f : Addr} {fd : FuncData} {ps : List Str} {sp : Sp}
end
section
variable {g : GC} {X : Cx} {W : WK} {pos p : Pos} {e : Expr}
variable {k : Nat} {C fa : Addr} {nm q : Str} {ps : List Str} {ar : Arguments} {fn : Fn} {isF : Nat → Bool} {a b : Expr} {ma mb' : M D}
variable {e : Ev}
end
end Fw
namespace Fw
open L2 PyProof.Rows PySem PySem.Spec
section
variable {g : GC} {X : Cx} {W : WK}
end
end Fw
namespace GQ
open PySem PySem.SeqAt
open AutoSeq1 (wpAny_loadPart')
open MeetsSeq MeetsSeq2 MeetsSeq3 SeqRoads2
section
variable {prog : Program} {w : World} {A : Around} {R : Result → Shared → Prop}
end
section
variable {prog : Program} {w : World} {A : Around} {E : Value → Shared → Prop} {s : Shared}
end
end GQ
namespace Fw
open L2 PyProof.Rows PySem PySem.Spec
section
variable {X : Cx} {k : Nat} {C f : Addr} {fd : FuncData} {ps : List Str} {sp : Sp}
def rPairsL (K : PySem.W.Frag) (C : Addr) (sp : Sp) (p q : Addr) (xs0 ys0 : List V) : List V → List V → Hp → (Hp → Prop) → Prop
  | [], [], H, Q => SqL K H p xs0 ∧ SqL K H q ys0 ∧ Q H
  | x :: xs, y :: ys, H, Q => SqL K H p xs0 ∧ SqL K H q ys0 ∧ (∀ a, x = .ref a → y = .ref a → rPairsL K C sp p q xs0 ys0 xs ys H Q) ∧ rEqO C sp false x y H (fun v H' => v = .bl true ∧ rPairsL K C sp p q xs0 ys0 xs ys H' Q)
  | _, _, _, _ => False
theorem rPairsL.sq {K : PySem.W.Frag} {p q : Addr} {xs0 ys0 : List V} : ∀ {xs ys : List V} {H : Hp} {Q : Hp → Prop}, rPairsL K C sp p q xs0 ys0 xs ys H Q → SqL K H p xs0 ∧ SqL K H q ys0
  | [], [], _, _, h => ⟨h.1, h.2.1⟩
  | _ :: _, _ :: _, _, _, h => ⟨h.1, h.2.1⟩
  | [], _ :: _, _, _, h => h.elim
  | _ :: _, [], _, _, h => h.elim
end
section
variable {g : GC} {X : Cx} {W : WK} {pos p : Pos} {e : Expr}
variable {k : Nat} {C fa : Addr} {nm q : Str} {ps : List Str} {ar : Arguments} {fn : Fn} {isF : Nat → Bool} {a b : Expr} {ma mb' : M D}
variable {e : Ev}
end
end Fw
namespace Fw
open L2 PyProof.Rows PySem PySem.Spec
section
variable {g : GC} {X : Cx} {W : WK}
end
end Fw
namespace Fw
open L2 PyProof.Rows PySem PySem.Spec
section
variable {P : Program} {w : World} {A : Around} {E : Value → Shared → Prop} {s : Shared}
end
section
variable {g : GC} {X : Cx} {W : WK}
end
end Fw
namespace Fw
open L2 PyProof.Rows PySem PySem.Spec
theorem zip_nolen : typeLookup (.type "zip") "__len__" = pure none := by rw [typeLookup_type, builtinLookup_eq_fast]; kernel_rfl
theorem zip_nohint : typeLookup (.type "zip") "__length_hint__" = pure none := by rw [typeLookup_type, builtinLookup_eq_fast]; kernel_rfl
section
variable {P : Program} {w : World} {A : Around} {E : Value → Shared → Prop} {s : Shared} {z TI TO T i1 i2 : Addr} {fp1 fp2 : List Addr} {n1 n2 i : Nat} {P1 P2 : Nat → Value → Prop} {St1 St2 : Nat → Heap → Prop} {f : Bool} {oT : Obj}
theorem zh_body {Q : Value → Shared → Prop} (S : ZipSep2 z TI TO i1 i2 fp1 fp2) (D1 : Draws P w A i1 fp1 n1 P1 St1) (D2 : Draws P w A i2 fp2 n2 P2 St2)
    (hz : IsZipHeld s.heap z TI TO T f) (hT : s.heap.get? T = some oT) (hTI : IsTupOf2 s.heap TI (.ref i1) (.ref i2)) (t1 : St1 i s.heap) (t2 : St2 i s.heap) (l1 : i < n1) (l2 : i < n2)
    (hq : ∀ x y h tk, P1 i x → P2 i y → IsZipHeld h z TI TO T true → St1 (i + 1) h → St2 (i + 1) h → IsTupOf2 h s.heap.objs.size x y → h.objs.size = s.heap.objs.size + 1 → (∀ c o, c ≠ z → c ≠ i1 → c ≠ i2 → s.heap.get? c = some o → h.get? c = some o) → Q (.ref s.heap.objs.size) { s with heap := h, toks := tk }) :
    wpAny (model P w) A (Builtin.«zip.__next__» ⟨[.ref z], []⟩) (fun fin t => ∃ v, fin = .done (.ret v) ∧ Q v t) E s := by
  obtain ⟨h0, g, d, k0, os⟩ := s
  show wpAny _ _ (field (.ref z) 2 >>= _) _ _ _; refine wpAny_bind (wpAny_field hz rfl (x := .bool false) rfl ?_)
  show wpAny _ _ (field (.ref z) 3 >>= _) _ _ _; refine wpAny_bind (wpAny_field hz rfl (x := .ref TI) rfl (wpAny_bind (wpAny_seqItems hTI rfl ?_)))
  show wpAny _ _ (Builtin.SmallTypes.ownedTupleIsFree (.ref z) >>= _) _ _ _; refine wpAny_bind (wpAny_tupleHeld_zip hz hT fun ha za sa => ?_)
  simp only [Bool.false_eq_true, if_false]; refine wpAny_bind ?_
  rw [← Array.forIn_toList]; simp only [List.forIn_cons, List.forIn_nil]
  refine wpAny_bind (wpAny_bind (wpAny_holding (show wpAny _ _ (Builtin.SmallTypes.nextOf (.ref i1) >>= _) _ _ _ from ?_)))
  refine wpAny_bind (D1.item i _ _ _ l1 (D1.over t1 sa S.zf1) fun x hb kb px u1 sb => wpAny_pure (wpAny_pure ?_))
  refine wpAny_bind (wpAny_bind (wpAny_holding (show wpAny _ _ (Builtin.SmallTypes.nextOf (.ref i2) >>= _) _ _ _ from ?_)))
  refine wpAny_bind (D2.item i _ _ _ l2 (D2.over (D2.over t2 sa S.zf2) sb S.sep1_2) fun y hc kc py u2 sc => wpAny_pure (wpAny_pure (wpAny_pure ?_)))
  show wpAny _ _ (newTuple [x, y] >>= _) _ _ _; refine wpAny_bind (wpAny_newTuple (wpAny_pure ⟨_, rfl, ?_⟩))
  have ez : hc.objs.size = h0.objs.size := by rw [sc.1, sb.1, sa.1]
  have zc : IsZipHeld hc z TI TO T true := sc.extBut _ _ S.zi2 (sb.extBut _ _ S.zi1 za)
  have kk : ∀ c o, c ≠ z → c ≠ i1 → c ≠ i2 → h0.get? c = some o → hc.get? c = some o := fun c o c1 c2 c3 e => sc.extBut _ _ c3 (sb.extBut _ _ c2 (sa.extBut _ _ c1 e))
  have pr : IsTupOf2 (hc.push { cls := .type "tuple", data := .seq #[x, y] }) hc.objs.size x y := Heap.get?_push_size _ rfl
  have e1 : (hc.push { cls := .type "tuple", data := .seq #[x, y] }).objs.size = hc.objs.size + 1 := Heap.size_push ..
  have up : ∀ b o, hc.get? b = some o → (hc.push { cls := .type "tuple", data := .seq #[x, y] }).get? b = some o := fun b o e => Heap.get?_push_of_some _ e
  show Q (.ref hc.objs.size) _
  rw [ez] at pr e1 ⊢
  exact hq x y _ kc px py (up _ _ zc) (D1.frame _ _ _ (D1.over u1 sc S.sep2_1) fun b _ o e => up b o e) (D2.frame _ _ _ u2 fun b _ o e => up b o e) pr e1 fun c o c1 c2 c3 e => up _ _ (kk c o c1 c2 c3 e)
theorem zh_next {Q : Option Value → Shared → Prop} (S : ZipSep2 z TI TO i1 i2 fp1 fp2) (D1 : Draws P w A.in1 i1 fp1 n1 P1 St1) (D2 : Draws P w A.in1 i2 fp2 n2 P2 St2)
    (hz : IsZipHeld s.heap z TI TO T f) (hT : s.heap.get? T = some oT) (hTI : IsTupOf2 s.heap TI (.ref i1) (.ref i2)) (t1 : St1 i s.heap) (t2 : St2 i s.heap) (l1 : i < n1) (l2 : i < n2)
    (hq : ∀ x y h tk, P1 i x → P2 i y → IsZipHeld h z TI TO T true → St1 (i + 1) h → St2 (i + 1) h → IsTupOf2 h s.heap.objs.size x y → h.objs.size = s.heap.objs.size + 1 → (∀ c o, c ≠ z → c ≠ i1 → c ≠ i2 → s.heap.get? c = some o → h.get? c = some o) → Q (some (.ref s.heap.objs.size)) { s with heap := h, toks := tk }) :
    wpAny (model P w) A (pyNext (.ref z)) Q E s := by
  have ty : s.TypeIs (.ref z) "zip" := ⟨_, hz, rfl⟩
  unfold pyNext
  exact wpAny_bind (wpAny_attempt (wpAny_callSpecial?_slot (name := Str.ofString "__next__") ty PySem.F.slot_zip_next (wpAny_call_entry PySem.F.slot_zip_next ty PySem.F.entry_zip_next
    (zh_body S D1 D2 hz hT hTI t1 t2 l1 l2 fun x y h tk a b c d e u v k => wpAny_pure (hq x y h tk a b c d e u v k)) (PySem.F.args_zip_next_1 _))))
theorem zh_stop {Q : PySem.Fin → Shared → Prop} (S : ZipSep2 z TI TO i1 i2 fp1 fp2) (D1 : Draws P w A i1 fp1 n1 P1 St1) (D2 : Draws P w A i2 fp2 n2 P2 St2)
    (hz : IsZipHeld s.heap z TI TO T f) (hT : s.heap.get? T = some oT) (hTI : IsTupOf2 s.heap TI (.ref i1) (.ref i2)) (t1 : St1 i s.heap) (t2 : St2 i s.heap) (l1 : i ≤ n1) (l2 : i ≤ n2) (le : i = n1 ∨ i = n2)
    (he : ∀ h tk e, (∀ c o, c ≠ z → c ≠ i1 → c ≠ i2 → s.heap.get? c = some o → h.get? c = some o) → (∃ o, h.get? e = some o ∧ o.cls = .type "StopIteration") → E (.ref e) { s with heap := h, toks := tk }) :
    wpAny (model P w) A (Builtin.«zip.__next__» ⟨[.ref z], []⟩) Q E s := by
  obtain ⟨h0, g, d, k0, os⟩ := s
  show wpAny _ _ (field (.ref z) 2 >>= _) _ _ _; refine wpAny_bind (wpAny_field hz rfl (x := .bool false) rfl ?_)
  show wpAny _ _ (field (.ref z) 3 >>= _) _ _ _; refine wpAny_bind (wpAny_field hz rfl (x := .ref TI) rfl (wpAny_bind (wpAny_seqItems hTI rfl ?_)))
  show wpAny _ _ (Builtin.SmallTypes.ownedTupleIsFree (.ref z) >>= _) _ _ _; refine wpAny_bind (wpAny_tupleHeld_zip hz hT fun ha za sa => ?_)
  simp only [Bool.false_eq_true, if_false]; refine wpAny_bind ?_
  rw [← Array.forIn_toList]; simp only [List.forIn_cons, List.forIn_nil]
  refine wpAny_bind (wpAny_bind (wpAny_holding (show wpAny _ _ (Builtin.SmallTypes.nextOf (.ref i1) >>= _) _ _ _ from ?_)))
  by_cases q : i < n1
  · refine wpAny_bind (D1.item i _ _ _ q (D1.over t1 sa S.zf1) fun x hb kb px u1 sb => wpAny_pure (wpAny_pure ?_))
    refine wpAny_bind (wpAny_bind (wpAny_holding (show wpAny _ _ (Builtin.SmallTypes.nextOf (.ref i2) >>= _) _ _ _ from ?_)))
    obtain rfl : i = n2 := by omega
    refine wpAny_bind (D2.done _ _ _ (D2.over (D2.over t2 sa S.zf2) sb S.sep1_2) fun hc e sc ho => ?_)
    exact he hc kb e (fun c o c1 c2 c3 e => sc _ _ c3 (sb.extBut _ _ c2 (sa.extBut _ _ c1 e))) ho
  · obtain rfl : i = n1 := by omega
    refine wpAny_bind (D1.done _ _ _ (D1.over t1 sa S.zf1) fun hc e sc ho => ?_)
    exact he hc k0 e (fun c o c1 c2 _ e => sc _ _ c2 (sa.extBut _ _ c1 e)) ho
theorem zh_end {Q : Option Value → Shared → Prop} (S : ZipSep2 z TI TO i1 i2 fp1 fp2) (D1 : Draws P w A.in1 i1 fp1 n1 P1 St1) (D2 : Draws P w A.in1 i2 fp2 n2 P2 St2)
    (hz : IsZipHeld s.heap z TI TO T f) (hT : s.heap.get? T = some oT) (hTI : IsTupOf2 s.heap TI (.ref i1) (.ref i2)) (t1 : St1 i s.heap) (t2 : St2 i s.heap) (l1 : i ≤ n1) (l2 : i ≤ n2) (le : i = n1 ∨ i = n2)
    (hq : ∀ h tk, (∀ c o, c ≠ z → c ≠ i1 → c ≠ i2 → s.heap.get? c = some o → h.get? c = some o) → Q none { s with heap := h, toks := tk }) : wpAny (model P w) A (pyNext (.ref z)) Q E s := by
  have ty : s.TypeIs (.ref z) "zip" := ⟨_, hz, rfl⟩
  unfold pyNext
  refine wpAny_bind (wpAny_attempt (wpAny_callSpecial?_slot (name := Str.ofString "__next__") ty PySem.F.slot_zip_next (wpAny_call_entry PySem.F.slot_zip_next ty PySem.F.entry_zip_next
    (zh_stop S D1 D2 hz hT hTI t1 t2 l1 l2 le fun h tk e k ho => ?_) (PySem.F.args_zip_next_1 _))))
  obtain ⟨o, ho, hc⟩ := ho
  exact wpAny_bind (wpAny_isInstance (T := "StopIteration") (b := true) ⟨o, ho, hc⟩ isSubtype_stop (wpAny_pure (hq _ _ k)))
end
theorem SqL.ups {K : PySem.W.Frag} {H H' : Hp} {a : Addr} {xs : List V} (h : SqL K H a xs) (s : Same H H') : SqL K H' a xs := h.imp (fun r => r.imp (s _ _) fun ⟨o, q⟩ => ⟨o, s _ _ q⟩) id
theorem SqT.ups {K : PySem.W.Frag} {H H' : Hp} {a : Addr} {xs : List V} (h : SqT K H a xs) (s : Same H H') : SqT K H' a xs := h.imp (fun r => r.imp (s _ _) fun ⟨o, q⟩ => ⟨o, s _ _ q⟩) id
theorem KSq.ups {K : PySem.W.Frag} {k : Kd} {H H' : Hp} {a : Addr} {xs : List V} (h : KSq K k H a xs) (s : Same H H') : KSq K k H' a xs :=
  match k, h with
  | .l, h => SqL.ups h s
  | .t, h => SqT.ups h s
theorem fpUpd {X : Cx} {pins : List (Addr × Obj)} {H : Hp} {b T : Addr} {o : HO} (h : FpOk X pins H b) (n : b ≠ T) : FpOk X pins (upd H T o) b := ⟨by rw [upd_ne n]; exact h.1, h.2⟩
theorem adopt {X : Cx} {pins : List (Addr × Obj)} {σ : L2.St} {H : Hp} {s : Shared} {L : Addr} {vs : List V} (I : Inv X pins σ H s) (h : FpOk X pins H L) (new : ObjOk X.prog X.w (upd H L (.lst vs)) s.heap L (.lst vs)) : Inv X pins σ (upd H L (.lst vs)) s := by
  have hn := h.1
  refine I.step (h' := s.heap) (g' := s.gens) (d' := s.drawn) (t' := s.toks) (ch := [L]) (fun b hb => ?_) (fun b o _ _ _ e _ => e) (fun b o _ _ _ e _ => ⟨o.slots, e⟩) (fun b o hc _ n => ?_) (fun b o _ e => ⟨o, e⟩) (fun b xs e => ?_) (fun b o u e => ?_) (fun b ps e => ⟨#[], ?_⟩) (fun m hm => hm) (fun b u e => ?_) I.bare
  · rw [List.mem_singleton.mp hb]; exact ⟨h.2.2.2.1, h.2.1, h.2.2.2.2.1, h.2.2.2.2.2⟩
  · rw [upd_ne fun z => hc (by simp [z])]; exact n
  · rw [upd_ne (ne_of_none e hn)]; exact e
  · rw [upd_ne (ne_of_none e hn)]; exact e
  · rw [upd_ne (ne_of_none e hn), e]; simp
  · by_cases hb : b = L
    · subst hb; rw [upd_same] at e; cases e; exact new
    · rw [upd_ne hb] at e
      exact (I.hok b u e).stay (fun c v _ q => q) (fun c q => by rw [upd_ne (ne_of_none q hn)]; exact q) fun c xs q => by rw [upd_ne (ne_of_none q hn)]; exact q
def PrI (H : Hp) (xs ys vs : List V) : Prop := ∀ (j : Nat) (v : V), vs[j]? = some v → ∃ T x y, v = .ref T ∧ xs[j]? = some x ∧ ys[j]? = some y ∧ H T = some (.tup [x, y])
theorem PrI.ups {H H' : Hp} {xs ys vs : List V} (h : PrI H xs ys vs) (s : Same H H') : PrI H' xs ys vs := fun j v q => by
  obtain ⟨T, x, y, a, b, c, d⟩ := h j v q
  exact ⟨T, x, y, a, b, c, s _ _ d⟩
theorem PrI.snoc {H : Hp} {xs ys vs : List V} (h : PrI H xs ys vs) {T : Addr} {x y : V} (hx : xs[vs.length]? = some x) (hy : ys[vs.length]? = some y) (hT : H T = some (.tup [x, y])) : PrI H xs ys (vs ++ [.ref T]) := fun j v q => by
  rcases Nat.lt_or_ge j vs.length with c | c
  · rw [List.getElem?_append_left c] at q; exact h j v q
  · rw [List.getElem?_append_right c] at q
    have e : j - vs.length = 0 := by
      rcases Nat.eq_zero_or_pos (j - vs.length) with z | z
      · exact z
      · rw [List.getElem?_eq_none (by simp; omega)] at q; cases q
    rw [e] at q; cases q
    have e : j = vs.length := by omega
    exact ⟨T, x, y, rfl, by rw [e]; exact hx, by rw [e]; exact hy, hT⟩
theorem Vals.snoc' {v : V} {u : Value} (r : RelV v u) : ∀ {vs : List V} {us : List Value}, Vals vs us → Vals (vs ++ [v]) (us ++ [u])
  | _, _, .nil => .cons r .nil
  | _, _, .cons a t => .cons a (Vals.snoc' r t)
theorem accSize {vs : List V} {acc : Array Value} (h : Vals vs acc.toList) : acc.size = vs.length := by
  have q : vs.length = acc.toList.length := h.length
  rw [q, Array.length_toList]
abbrev lstOb (acc : Array Value) (c : Nat) : Obj := { cls := .type "list", dict := none, data := .seq acc c, slots := #[] }
section
variable {X : Cx} {pins : List (Addr × Obj)} {σ : L2.St} {z TI TO c1 c2 a b L : Addr} {k1 k2 : Kd} {xs ys : List V} {A : Around} {res : Value} {R : Result → Shared → Prop}
structure ZPriv (X : Cx) (pins : List (Addr × Obj)) (z TI TO c1 c2 L a b : Addr) : Prop where
  S : ZipSep2 z TI TO c1 c2 [c1, a] [c2, b]
  m1 : a ≠ c1
  m2 : b ≠ c2
  lz : L ≠ z
  lI : L ≠ TI
  lO : L ≠ TO
  l1 : L ≠ c1
  l2 : L ≠ c2
def ZFp (X : Cx) (pins : List (Addr × Obj)) (H : Hp) (z TI TO c1 c2 L : Addr) : Prop := ∀ q ∈ [z, TI, TO, c1, c2, L], FpOk X pins H q
theorem mem3 {d z TI TO c1 c2 L : Addr} (hd : d ∈ [z, c1, c2]) : d ∈ [z, TI, TO, c1, c2, L] := by
  simp at hd ⊢
  rcases hd with h | h | h <;> simp [h]
theorem zl_loop (p : ZPriv X pins z TI TO c1 c2 L a b) (hA : A.handled = none) (hn : min xs.length ys.length ≤ 1000) : ∀ (k i : Nat) (s : Shared) (H : Hp) (acc : Array Value) (c : Nat) (vs : List V) (T : Addr) (f : Bool) (oT : Obj),
    min xs.length ys.length - i = k → i ≤ min xs.length ys.length → Inv X pins σ H s → ZFp X pins H z TI TO c1 c2 L → IsZipHeld s.heap z TI TO T f → s.heap.get? T = some oT → T ∉ [z, c1, c2, L] → IsTupOf2 s.heap TI (.ref c1) (.ref c2) → (∃ o, s.heap.get? TO = some o) →
    KIt k1 s.heap c1 a i → KIt k2 s.heap c2 b i → KSq X.K k1 H a xs → KSq X.K k2 H b ys → s.heap.get? L = some (lstOb acc c) → Vals vs acc.toList → vs.length = i → PrI H xs ys vs →
    (∀ s' H' acc' c' vs', Inv X pins σ H' s' → ZFp X pins H' z TI TO c1 c2 L → Same H H' → s'.heap.get? L = some (lstOb acc' c') → Vals vs' acc'.toList → vs'.length = min xs.length ys.length → PrI H' xs ys vs' → R (.ok (.ret res)) s') →
    codeAny (model X.prog X.w) A (.builtin "list.extend.loop" ⟨[.ref L, .ref z, res], []⟩) R s := by
  intro k
  induction k with
  | zero =>
    intro i s H acc c vs T f oT hk hi I hf hz hT nT hTI hTO q1 q2 sx sy hL vl len pr hR
    obtain rfl : i = min xs.length ys.length := by omega
    obtain ⟨us, rx, lx⟩ := k_inv I sx
    obtain ⟨ws, ry, ly⟩ := k_inv I sy
    have e1 := rx.length; have e2 := ry.length
    refine codeAny_builtin PySem.F.entry_extend_loop ?_
    rw [Around.under_plainId PySem.F.plain_extend_loop _]
    show wpAny _ A.in1 (pyNext (.ref z) >>= _) _ _ s
    refine wpAny_bind (zh_end p.S (k_draws k1 (by simp [hA]) c1 a p.m1 us.toArray) (k_draws k2 (by simp [hA]) c2 b p.m2 ws.toArray) hz hT hTI ⟨q1, lx⟩ ⟨q2, ly⟩ (by simp; omega) (by simp; omega) (by simp; omega) fun h tk kp => ?_)
    have J := I.turnedL (t' := tk) (ch := [z, c1, c2]) (fun d o nd e => kp d o (fun e => nd (by simp [e])) (fun e => nd (by simp [e])) (fun e => nd (by simp [e])) e) fun d hd => hf d (mem3 hd)
    exact wpAny_pure (hR _ H acc c vs J hf (fun _ _ e => e) (kp L _ p.lz p.l1 p.l2 hL) vl len pr)
  | succ k ih =>
    intro i s H acc c vs T f oT hk hi I hf hz hT nT hTI hTO q1 q2 sx sy hL vl len pr hR
    obtain ⟨oO, hTO⟩ := hTO
    obtain ⟨us, rx, lx⟩ := k_inv I sx
    obtain ⟨ws, ry, ly⟩ := k_inv I sy
    have e1 := rx.length; have e2 := ry.length
    have i1 : i < xs.length := by omega
    have i2 : i < ys.length := by omega
    have ex : xs[i]? = some xs[i] := List.getElem?_eq_getElem i1
    have ey : ys[i]? = some ys[i] := List.getElem?_eq_getElem i2
    obtain ⟨u, eu, ru⟩ := rx.get ex
    obtain ⟨v, ev, rv⟩ := ry.get ey
    refine codeAny_builtin PySem.F.entry_extend_loop ?_
    rw [Around.under_plainId PySem.F.plain_extend_loop _]
    show wpAny _ A.in1 (pyNext (.ref z) >>= _) _ _ s
    refine wpAny_bind (zh_next p.S (k_draws k1 (by simp [hA]) c1 a p.m1 us.toArray) (k_draws k2 (by simp [hA]) c2 b p.m2 ws.toArray) hz hT hTI ⟨q1, lx⟩ ⟨q2, ly⟩ (by simp; omega) (by simp; omega) fun x y h tk px py z1 t1 t2 tp hs kp => ?_)
    have ex' : x = u := Option.some.inj (px.symm.trans (by simpa using eu))
    have ey' : y = v := Option.some.inj (py.symm.trans (by simpa using ev))
    subst ex' ey'
    have new : ObjOk X.prog X.w (upd H s.heap.objs.size (.tup [xs[i], ys[i]])) h s.heap.objs.size (.tup [xs[i], ys[i]]) := ⟨show 2 ≤ sizeLine by decide, [x, y], .cons ru (.cons rv .nil), _, tp, rfl, _, rfl⟩
    have J := I.turnedNew (t' := tk) (ch := [z, c1, c2]) (T := s.heap.objs.size) (fun d o nd e => kp d o (fun e => nd (by simp [e])) (fun e => nd (by simp [e])) (fun e => nd (by simp [e])) e) (fun d hd => hf d (mem3 hd)) (Nat.le_refl _) new
    have hn0 : H s.heap.objs.size = none := I.hok.fresh (Nat.le_refl _)
    have far : ∀ {d o}, s.heap.get? d = some o → d ≠ s.heap.objs.size := fun e z => Nat.lt_irrefl _ (z ▸ Heap.lt_size e)
    have hL1 : h.get? L = some (lstOb acc c) := kp L _ p.lz p.l1 p.l2 hL
    show wpAny _ A.in1 (updateSeq L (·.push (.ref s.heap.objs.size)) >>= _) _ _ _
    refine wpAny_bind (wpAny_updateSeq (o := lstOb acc c) hL1 rfl ?_ ?_ ?_)
    · have oth : ∀ d o, d ≠ L → h.get? d = some o → (h.update L (Obj.mapSeq (·.push (.ref s.heap.objs.size)))).get? d = some o := fun d o nd e => (Heap.get?_update_other _ _ (Ne.symm nd)).trans e
      have hfJ : ZFp X pins (upd H s.heap.objs.size (.tup [xs[i], ys[i]])) z TI TO c1 c2 L := fun d hd => fpUpd (hf d hd) (by
        obtain ⟨o1, y1, _⟩ := q1.cell
        obtain ⟨o2, y2, _⟩ := q2.cell
        simp at hd
        rcases hd with e | e | e | e | e | e <;> rw [e]
        · exact far hz
        · exact far hTI
        · exact far hTO
        · exact far y1
        · exact far y2
        · exact far hL)
      have J2 := J.turnedL (t' := tk) (ch := [L]) (h' := h.update L (Obj.mapSeq (·.push (.ref s.heap.objs.size)))) (fun d o nd e => oth d o (fun z => nd (by simp [z])) e) fun d hd => hfJ d (by rw [List.mem_singleton.mp hd]; simp)
      have sm : Same H (upd H s.heap.objs.size (.tup [xs[i], ys[i]])) := Same.new hn0
      refine wpAny_pure ⟨plainId_quiet PySem.F.plain_extend_loop _, ih (i + 1) _ _ (acc.push (.ref s.heap.objs.size)) _ (vs ++ [.ref s.heap.objs.size]) T true oT (by omega) (by omega) J2 hfJ (oth z _ (Ne.symm p.lz) z1) (oth T _ (fun z => nT (by simp [z])) (kp T _ (fun z => nT (by simp [z])) (fun z => nT (by simp [z])) (fun z => nT (by simp [z])) hT)) nT
        (oth TI _ (Ne.symm p.lI) (kp TI _ p.S.TIz p.S.TIi1 p.S.TIi2 hTI)) ⟨oO, oth TO _ (Ne.symm p.lO) (kp TO _ p.S.TOz p.S.Ti1 p.S.Ti2 hTO)⟩ (t1.1.keep fun o e => oth c1 o (Ne.symm p.l1) e) (t2.1.keep fun o e => oth c2 o (Ne.symm p.l2) e) (sx.ups sm) (sy.ups sm) (Heap.get?_update_self _ hL1 rfl) ?_ ?_ ?_ fun s' H' acc' c' vs' I' f' m' => hR s' H' acc' c' vs' I' f' (sm.trans m')⟩
      · rw [Array.toList_push]; exact Vals.snoc' (v := .ref s.heap.objs.size) (u := .ref s.heap.objs.size) (show RelV (.ref s.heap.objs.size) (.ref s.heap.objs.size) from rfl) vl
      · simp [len]
      · exact (pr.ups sm).snoc (by rw [len]; exact ex) (by rw [len]; exact ey) upd_same
    · rw [accSize vl, len, sizeLine_eq]; omega
    · show (acc.push _).size ≤ _; rw [Array.size_push, accSize vl, len, sizeLine_eq]; omega
end
end Fw
namespace Fw
open L2 PyProof.Rows PySem PySem.Spec
section
variable {X : Cx} {pins : List (Addr × Obj)} {σ : L2.St} {z TI TO c1 c2 a b : Addr} {k1 k2 : Kd} {xs ys : List V} {A : Around} {E : Value → Shared → Prop} {s : Shared} {H : Hp}
theorem list_zip {Q : Value → Shared → Prop} {a1 a2 : Value} (S : ZipSep2 z TI TO c1 c2 [c1, a] [c2, b]) (m1 : a ≠ c1) (m2 : b ≠ c2) (hA : A.handled = none) (I : Inv X pins σ H s) (hf : ∀ q ∈ [z, TI, TO, c1, c2], FpOk X pins H q) (hz : IsZip s.heap z TI TO .none) (hTI : IsTupOf2 s.heap TI (.ref c1) (.ref c2)) (hTO : IsTupOf2 s.heap TO a1 a2)
    (q1 : KIt k1 s.heap c1 a 0) (q2 : KIt k2 s.heap c2 b 0) (sx : KSq X.K k1 H a xs) (sy : KSq X.K k2 H b ys) (h0 : 0 < min xs.length ys.length) (hn : min xs.length ys.length ≤ 1000)
    (hq : ∀ s' H' vs p, Inv X pins σ (upd H' p (.lst vs)) s' → Same H H' → H' p = none → vs.length = min xs.length ys.length → PrI H' xs ys vs → Q (.ref p) s') : wpAny (model X.prog X.w) A (call (.type "list") [.ref z]) Q E s := by
  obtain ⟨o1, y1, _⟩ := q1.cell
  obtain ⟨o2, y2, _⟩ := q2.cell
  have far : ∀ {d o}, s.heap.get? d = some o → s.heap.objs.size ≠ d := fun e q => Nat.lt_irrefl _ (q ▸ Heap.lt_size e)
  generalize eL : s.heap.objs.size = L at *
  have hn0 : H L = none := I.hok.fresh (by rw [eL]; exact Nat.le_refl _)
  have fL : FpOk X pins H L := I.fpOk (by rw [eL]; exact Nat.le_refl _) hn0
  have p : ZPriv X pins z TI TO c1 c2 L a b := ⟨S, m1, m2, far hz, far hTI, far hTO, far y1, far y2⟩
  have hf6 : ZFp X pins H z TI TO c1 c2 L := fun q hq => by
    simp at hq
    rcases hq with e | e | e | e | e | e <;> rw [e]
    · exact hf z (by simp)
    · exact hf TI (by simp)
    · exact hf TO (by simp)
    · exact hf c1 (by simp)
    · exact hf c2 (by simp)
    · exact fL
  refine callType_codes (Q₁ := fun v t => v = .ref L ∧ t = { s with heap := s.heap.push { cls := .type "list", data := .seq #[] } }) PySem.F.called_list (PySem.F.typeCall_list_1 _) PySem.F.entry_list_init (code_list_new _ (by rw [eL]; exact ⟨rfl, rfl⟩)) fun v t ht => ?_
  obtain ⟨e1, e2⟩ := ht
  subst e1 e2
  have g0 : (s.heap.push { cls := .type "list", data := .seq #[] }).get? L = some { cls := .type "list", data := .seq #[] } := by rw [← eL]; exact Heap.get?_push_size _ rfl
  refine ⟨⟨_, g0, rfl⟩, PySem.F.args_list_init_2 _ _, ?_⟩
  show wpAny _ _ (do let old ← Builtin.List.listItems (.ref L); Builtin.List.listUpdate (.ref L) (fun _ => #[]); letGo old.toList.reverse; Builtin.List.listExtendWith (.ref L) (.ref z) .none) _ _ _
  refine wpAny_bind ?_
  unfold Builtin.List.listItems
  refine wpAny_bind (wpAny_seqItems g0 rfl (wpAny_pure ?_))
  show wpAny _ _ (updateSeq L (fun _ => #[]) >>= fun _ => letGo (#[] : Array Value).toList.reverse >>= fun _ => Builtin.List.listExtendWith (.ref L) (.ref z) .none) _ _ _
  refine wpAny_bind (wpAny_updateSeq g0 rfl (wpAny_bind (wpAny_letGo ?_)))
  have g1 := Heap.get?_update_self (Obj.mapSeq (fun _ => (#[] : Array Value))) g0 rfl
  have old1 : ∀ d o, s.heap.get? d = some o → ((s.heap.push { cls := .type "list", data := .seq #[] }).update L (Obj.mapSeq fun _ => (#[] : Array Value))).get? d = some o := fun d o e => (Heap.get?_update_other _ _ (far e)).trans (Heap.get?_push_of_some _ e)
  generalize (s.heap.push { cls := .type "list", data := .seq #[] }).update L (Obj.mapSeq fun _ => (#[] : Array Value)) = h1 at *
  unfold Builtin.List.listExtendWith
  have ty : Shared.TypeIs { s with heap := h1 } (.ref z) "zip" := ⟨_, old1 z _ hz, rfl⟩
  refine wpAny_bind (wpAny_typeOf ty ?_)
  have n1 : Builtin.List.listSameRef (.ref L) (.ref z) = false := by simp [Builtin.List.listSameRef, p.lz]
  have n2 : (Value.type "zip" == Value.type "list") = false := by decide
  have n3 : (Value.type "zip" == Value.type "tuple") = false := by decide
  simp only [n1, n2, n3, Bool.or_false, Bool.false_eq_true, if_false]
  refine wpAny_bind (wpAny_pyIter_zip (old1 z _ hz) (wpAny_bind (wpAny_holding ?_)))
  unfold Builtin.List.listLengthHint
  refine wpAny_bind (wpAny_specialOf ty zip_nolen ?_)
  show wpAny _ _ (specialOf (Value.ref z) (Str.ofString "__length_hint__") >>= _) _ _ _
  refine wpAny_bind (wpAny_specialOf ty zip_nohint (wpAny_pure ?_))
  show wpAny _ _ (rule "list.extend.makes-room" >>= fun _ => Builtin.List.listTouch (.ref L) >>= fun _ => again (.builtin "list.extend.loop" ⟨[.ref L, .ref z, .none], []⟩)) _ _ _
  refine wpAny_bind (wpAny_rule (wpAny_bind ?_))
  show wpAny _ _ (updateSeq L (·.push .none) >>= fun _ => updateSeq L (·.pop)) _ _ _
  refine wpAny_bind (wpAny_updateSeq g1 rfl ?_)
  have g2 := Heap.get?_update_self (Obj.mapSeq (·.push Value.none)) g1 rfl
  refine wpAny_updateSeq g2 rfl ?_
  have g3 := Heap.get?_update_self (Obj.mapSeq (·.pop)) g2 rfl
  have old3 : ∀ d o, s.heap.get? d = some o → ((h1.update L (Obj.mapSeq (·.push Value.none))).update L (Obj.mapSeq (·.pop))).get? d = some o := fun d o e => (Heap.get?_update_other _ _ (far e)).trans ((Heap.get?_update_other _ _ (far e)).trans (old1 d o e))
  obtain ⟨cc, g3⟩ : ∃ cc, ((h1.update L (Obj.mapSeq (·.push Value.none))).update L (Obj.mapSeq (·.pop))).get? L = some (lstOb #[] cc) := ⟨_, g3⟩
  generalize (h1.update L (Obj.mapSeq (·.push Value.none))).update L (Obj.mapSeq (·.pop)) = h3 at *
  have I3 : Inv X pins σ H { s with heap := h3 } := I.kept (t' := s.toks) old3
  obtain ⟨us, rx, lx⟩ := k_inv I3 sx
  obtain ⟨ws, ry, ly⟩ := k_inv I3 sy
  have e1 := rx.length; have e2 := ry.length
  have i1 : 0 < xs.length := by omega
  have i2 : 0 < ys.length := by omega
  have ex : xs[0]? = some xs[0] := List.getElem?_eq_getElem i1
  have ey : ys[0]? = some ys[0] := List.getElem?_eq_getElem i2
  obtain ⟨u, eu, ru⟩ := rx.get ex
  obtain ⟨v, ev, rv⟩ := ry.get ey
  refine wpAny_pure ⟨plainId_quiet PySem.F.plain_extend_loop _, codeAny_builtin PySem.F.entry_extend_loop ?_⟩
  rw [Around.under_plainId PySem.F.plain_extend_loop _]
  show wpAny _ _ (pyNext (.ref z) >>= _) _ _ _
  refine wpAny_bind (wpAny_pyNext_zipD2_item (i := 0) p.S (k_draws k1 (by simp [hA]) c1 a p.m1 us.toArray) (k_draws k2 (by simp [hA]) c2 b p.m2 ws.toArray) (old3 z _ hz) (old3 TI _ hTI) (old3 TO _ hTO) ⟨q1.keep (old3 c1), lx⟩ ⟨q2.keep (old3 c2), ly⟩ (by simp; omega) (by simp; omega) fun x y h tk px py z1 to1 t1 t2 tp hs kp => ?_)
  have ex' : x = u := Option.some.inj (px.symm.trans (by simpa using eu))
  have ey' : y = v := Option.some.inj (py.symm.trans (by simpa using ev))
  subst ex' ey'
  have new : ObjOk X.prog X.w (upd H h3.objs.size (.tup [xs[0], ys[0]])) h h3.objs.size (.tup [xs[0], ys[0]]) := ⟨show 2 ≤ sizeLine by decide, [x, y], .cons ru (.cons rv .nil), _, tp, rfl, _, rfl⟩
  have J := I3.turnedNew (t' := tk) (ch := [z, TO, c1, c2]) (T := h3.objs.size) (fun d o nd e => kp d o (fun e => nd (by simp [e])) (fun e => nd (by simp [e])) (fun e => nd (by simp [e])) (fun e => nd (by simp [e])) e) (fun d hd => hf6 d (by simp at hd ⊢; rcases hd with e | e | e | e <;> simp [e])) (Nat.le_refl _) new
  have hT0 : H h3.objs.size = none := I3.hok.fresh (Nat.le_refl _)
  have far3 : ∀ {d o}, h3.get? d = some o → d ≠ h3.objs.size := fun e q => Nat.lt_irrefl _ (q ▸ Heap.lt_size e)
  have gL : h.get? L = some (lstOb #[] cc) := kp L _ p.lz p.lO p.l1 p.l2 g3
  show wpAny _ _ (updateSeq L (·.push (.ref h3.objs.size)) >>= _) _ _ _
  refine wpAny_bind (wpAny_updateSeq (o := lstOb #[] cc) gL rfl ?_ (by decide) (by show 1 ≤ sizeLine + 1; rw [sizeLine_eq]; omega))
  have oth : ∀ d o, d ≠ L → h.get? d = some o → (h.update L (Obj.mapSeq (·.push (.ref h3.objs.size)))).get? d = some o := fun d o nd e => (Heap.get?_update_other _ _ (Ne.symm nd)).trans e
  have hfJ : ZFp X pins (upd H h3.objs.size (.tup [xs[0], ys[0]])) z TI TO c1 c2 L := fun d hd => fpUpd (hf6 d hd) (by
    simp at hd
    rcases hd with e | e | e | e | e | e <;> rw [e]
    · exact far3 (old3 _ _ hz)
    · exact far3 (old3 _ _ hTI)
    · exact far3 (old3 _ _ hTO)
    · exact far3 (old3 _ _ y1)
    · exact far3 (old3 _ _ y2)
    · exact far3 g3)
  have J2 := J.turnedL (t' := tk) (ch := [L]) (h' := h.update L (Obj.mapSeq (·.push (.ref h3.objs.size)))) (fun d o nd e => oth d o (fun z => nd (by simp [z])) e) fun d hd => hfJ d (by rw [List.mem_singleton.mp hd]; simp)
  have sm : Same H (upd H h3.objs.size (.tup [xs[0], ys[0]])) := Same.new hT0
  have nT : h3.objs.size ∉ [z, c1, c2, L] := fun q => by
    simp at q
    rcases q with e | e | e | e
    · exact far3 (old3 _ _ hz) e.symm
    · exact far3 (old3 _ _ y1) e.symm
    · exact far3 (old3 _ _ y2) e.symm
    · exact far3 g3 e.symm
  have hTl : h3.objs.size ≠ L := fun e => nT (by simp [e])
  refine wpAny_pure ⟨plainId_quiet PySem.F.plain_extend_loop _, zl_loop p (by simp [hA]) hn (min xs.length ys.length - 1) 1 _ _ (#[].push (.ref h3.objs.size)) _ [.ref h3.objs.size] h3.objs.size false _ rfl (by omega) J2 hfJ (oth z _ (Ne.symm p.lz) z1) (oth _ _ hTl tp) nT (oth TI _ (Ne.symm p.lI) (kp TI _ p.S.TIz p.S.TITO p.S.TIi1 p.S.TIi2 (old3 _ _ hTI))) ⟨_, oth TO _ (Ne.symm p.lO) to1⟩
    (t1.1.keep fun o e => oth c1 o (Ne.symm p.l1) e) (t2.1.keep fun o e => oth c2 o (Ne.symm p.l2) e) (sx.ups sm) (sy.ups sm) (Heap.get?_update_self _ gL rfl) (.cons (show RelV (.ref h3.objs.size) (.ref h3.objs.size) from rfl) .nil) rfl (fun j v q => ?_) fun s' H' acc' c' vs' I' f' m' gl' vl' len' pr' => ?_⟩
  · cases j with
    | zero => cases q; exact ⟨_, _, _, rfl, ex, ey, upd_same⟩
    | succ j => simp at q
  · have sz := accSize vl'
    refine ⟨rfl, hq s' H' vs' L (adopt I' (f' L (by simp)) ⟨by rw [len', sizeLine_eq]; omega, acc'.toList, c', vl', by rw [gl']⟩) (sm.trans m') (f' L (by simp)).1 len' pr'⟩
def tLz (K : PySem.W.Frag) (ta : TA) : TE := fun σ H Q => ta σ H fun vs H1 => ∃ k1 k2 a b xs ys, vs = [.ref a, .ref b] ∧ KSq K k1 H1 a xs ∧ KSq K k2 H1 b ys ∧ 0 < min xs.length ys.length ∧ min xs.length ys.length ≤ 1000 ∧
  ∀ H' vs p, Same H1 H' → H' p = none → vs.length = min xs.length ys.length → PrI H' xs ys vs → Q (.ref p) (upd H' p (.lst vs))
theorem pe_lzip {e1 e2 : Expr} {ta : TA} {p p2 pos pos2 : Pos} (hc : X.calm = true) (hg : Gl X "list") (hm : X.mg "list" = none) (hg2 : Gl X "zip") (hm2 : X.mg "zip" = none) (ha : PA X [e1, e2] ta)
    (hs : starEach [.Call (.Name "zip" p2) [e1, e2] [] pos2] X.env = (false, eval (.Call (.Name "zip" p2) [e1, e2] [] pos2) X.env) :: starEach [] X.env := by rfl)
    (hs2 : starEach [e1, e2] X.env = (false, eval e1 X.env) :: starEach [e2] X.env := by rfl) (hpl2 : (backTo pos2 (starEach [e2] X.env)).any (·.1) = false := by rfl) :
    PE X (.Call (.Name "list" p) [.Call (.Name "zip" p2) [e1, e2] [] pos2] [] pos) (tLz X.K ta) := by
  refine ⟨fun pins s σ H Q I h => ?_⟩
  refine Call_ (ld_blt I hg hm PyProof.Rows.boot_list ?_)
  refine PyProof.Rows.callWith_type1 (PyProof.Rows.args_cons ?_ hs) hs rfl
  refine Call_ (ld_blt I hg2 hm2 PyProof.Rows.boot_zip (PyProof.Rows.callWith_type1 (thn (ha.run pos2 pins s σ H _ I h) fun us t ⟨vs, H1, I1, rr, qq⟩ => ?_) hs2 hpl2))
  obtain ⟨k1, k2, a, b, xs, ys, ev, sx, sy, h0, hn, go⟩ := qq
  subst ev
  cases rr with
  | cons ra rr =>
  cases rr with
  | cons rb rr =>
  cases rr; cases ra; cases rb
  obtain ⟨us, _, lx⟩ := k_inv I1 sx
  obtain ⟨ws, _, ly⟩ := k_inv I1 sy
  have la := lx.lt
  have lb := ly.lt
  refine zip_begins2 (k_begins k1 a us.toArray) (k_begins k2 b ws.toArray) lx ly fun h' z1 z2 z3 z4 z5 _ kp => PyProof.Rows.args_nil ?_
  have I2 : Inv X pins σ H1 { t with heap := h' } := I1.kept (t' := t.toks) kp
  refine list_zip (sep2 t.heap.objs.size a b la lb) (Nat.ne_of_lt la) (Nat.ne_of_lt (Nat.lt_succ_of_lt lb)) (I.ok.hd hc) I2 (fun c hc => ?_) z1 z2 z3 (.start z4) (.start z5) sx sy h0 hn fun s' H' vs p I' sm hp hl pr => ⟨.ref p, _, I', rfl, go H' vs p sm hp hl pr⟩
  have hc : c = t.heap.objs.size + 4 ∨ c = t.heap.objs.size + 2 ∨ c = t.heap.objs.size + 3 ∨ c = t.heap.objs.size ∨ c = t.heap.objs.size + 1 := by simpa using hc
  have hle : t.heap.objs.size ≤ c := by
    rcases hc with e | e | e | e | e <;> rw [e] <;> first | exact Nat.le_refl _ | exact Nat.le_add_right _ _
  exact I1.fpOk hle (I1.hok.fresh hle)
end
end Fw
namespace Fw
open L2 PyProof.Rows PySem PySem.Spec
def dZipL (ds : List D) : Option (List D) := match dPairs ds with
  | some es => if 0 < es.length ∧ es.length ≤ 1000 then some es else none
  | none => none
theorem PrI.tail {H : Hp} {x y v : V} {xs ys vs : List V} (h : PrI H (x :: xs) (y :: ys) (v :: vs)) : PrI H xs ys vs := fun j u q => by
  obtain ⟨T, a, b, e1, e2, e3, e4⟩ := h (j + 1) u (by simpa using q)
  exact ⟨T, a, b, e1, by simpa using e2, by simpa using e3, e4⟩
theorem rl_pairs {g : GC} {A A' : Addr → Prop} {H1 H2 : Hp} (M : Mono A H1 A' H2) : ∀ {ds es : List D} {xs ys vs : List V}, RL g A H1 ds xs → RL g A H1 es ys → vs.length = min xs.length ys.length → PrI H2 xs ys vs → RL g A' H2 (zipD ds es) vs
  | [], es, xs, ys, vs, r1, r2, hl, pr => by
    rw [show xs = [] from r1] at hl
    have : vs = [] := List.length_eq_zero_iff.mp (by simpa using hl)
    exact this
  | d :: ds, [], xs, ys, vs, r1, r2, hl, pr => by
    rw [show ys = [] from r2] at hl
    have : vs = [] := List.length_eq_zero_iff.mp (by simpa using hl)
    exact this
  | d :: ds, e :: es, xs, ys, vs, ⟨x, xs', ex, rx, tx⟩, ⟨y, ys', ey, ry, ty⟩, hl, pr => by
    subst ex ey
    cases vs with
    | nil => simp at hl
    | cons v vs =>
      obtain ⟨T, a, b, e1, e2, e3, e4⟩ := pr 0 v rfl
      cases e2; cases e3
      exact ⟨v, vs, rfl, ⟨T, [x, y], e1, e4, x, [y], rfl, R.mono M d rx, y, [], rfl, R.mono M e ry, rfl⟩, rl_pairs M tx ty (by simp at hl ⊢; omega) pr.tail⟩
section
variable {g : GC} {X : Cx} {W : WK}
theorem cf_lzip {e1 e2 : Expr} {m : M (List D)} {p p2 pos pos2 : Pos} (hK : X.K = g.K) (hc : X.calm = true) (hg : Gl X "list") (hm : X.mg "list" = none) (hg2 : Gl X "zip") (hm2 : X.mg "zip" = none) (ha : CA g X W [e1, e2] m)
    (hs : starEach [.Call (.Name "zip" p2) [e1, e2] [] pos2] X.env = (false, eval (.Call (.Name "zip" p2) [e1, e2] [] pos2) X.env) :: starEach [] X.env := by rfl)
    (hs2 : starEach [e1, e2] X.env = (false, eval e1 X.env) :: starEach [e2] X.env := by rfl) (hpl2 : (backTo pos2 (starEach [e2] X.env)).any (·.1) = false := by rfl) :
    CF g X W (.Call (.Name "list" p) [.Call (.Name "zip" p2) [e1, e2] [] pos2] [] pos) (mb m fun ds => mo (dZipL ds)) :=
  PE.imp (pe_lzip hc hg hm hg2 hm2 ha hs hs2 hpl2) fun σ H Q ⟨f, A, e, F, h⟩ => Fin.bA h F fun ds e1 vs H1 F1 S1 r h1 => by
    obtain ⟨es, q, h2⟩ := Fin.mo h1
    rw [hK]
    match ds, r, q with
    | [d1, d2], r, q =>
      obtain ⟨v1, t1, rfl, r1, v2, t2, rfl, r2, rfl⟩ := r
      unfold dZipL dPairs at q
      simp only at q
      cases q1 : rowOf d1 with
      | none => rw [q1] at q; cases q
      | some z1 =>
        cases q2 : rowOf d2 with
        | none => rw [q1, q2] at q; cases q
        | some z2 =>
          obtain ⟨k1, ds1⟩ := z1
          obtain ⟨k2, ds2⟩ := z2
          rw [q1, q2] at q
          simp only at q
          by_cases c : 0 < (zipD ds1 ds2).length ∧ (zipD ds1 ds2).length ≤ 1000
          · rw [if_pos c] at q; cases q
            obtain ⟨a, xs, rfl, sx, rx, mx⟩ := row_of q1 r1
            obtain ⟨b, ys, rfl, sy, ry, my⟩ := row_of q2 r2
            have l1 := RL.length rx
            have l2 := RL.length ry
            have lz : (zipD ds1 ds2).length = min xs.length ys.length := by unfold zipD; rw [List.length_zipWith]; omega
            rw [lz] at c
            refine ⟨k1, k2, a, b, xs, ys, rfl, sx, sy, c.1, c.2, fun H' vs p sm hp hl pr => ?_⟩
            have hp1 : H1 p = none := by
              cases z : H1 p with
              | none => rfl
              | some o => rw [sm p o z] at hp; cases hp
            have s2 : Same H1 (upd H' p (.lst vs)) := fun x o z => by rw [upd_ne (ne_of_none (sm x o z) hp)]; exact sm x o z
            refine h2 p vs _ (F1.same s2) (F1.new' hp1 s2 upd_same) (F1.nA hp1) (S1.trans (.of s2)) (FR.none_of (f := f) S1 hp1) upd_same (rl_pairs ⟨F1.al, fun a u q _ => s2 a u q, fun a u z q => z.elim id fun z => by rw [z, hp1] at q; cases q⟩ rx ry hl fun j v q => ?_)
            obtain ⟨T, x, y, e1, e2, e3, e4⟩ := pr j v q
            exact ⟨T, x, y, e1, e2, e3, by rw [upd_ne (ne_of_none e4 hp)]; exact e4⟩
          · rw [if_neg c] at q; cases q
variable {e : Ev}
end
end Fw
namespace Fw
open L2 PyProof.Rows PySem PySem.Spec
def cutH (H H2 : Hp) : Hp := fun p => match H p, H2 p with
  | some _, o => o
  | none, some (.tup xs) => some (.tup xs)
  | none, _ => none
section
variable {H H2 : Hp} {P : Program} {w : World} {h0 h : Heap}
theorem cut_of {p : Addr} {o : HO} (e : H p = some o) : cutH H H2 p = H2 p := by unfold cutH; rw [e]
theorem cut_tup {p : Addr} {xs : List V} (e : H2 p = some (.tup xs)) : cutH H H2 p = some (.tup xs) := by
  unfold cutH; rw [e]; cases H p <;> rfl
theorem cut_none {p : Addr} (e : H2 p = none) : cutH H H2 p = none := by
  unfold cutH; rw [e]; cases H p <;> rfl
theorem cut_some {p : Addr} {o : HO} (e : cutH H H2 p = some o) : H2 p = some o ∧ ((∃ u, H p = some u) ∨ ∃ xs, o = .tup xs) := by
  unfold cutH at e
  cases q : H p with
  | some u => rw [q] at e; exact ⟨e, .inl ⟨u, rfl⟩⟩
  | none =>
    rw [q] at e
    cases q2 : H2 p with
    | none => rw [q2] at e; cases e
    | some z =>
      rw [q2] at e
      cases z with
      | tup xs => cases e; exact ⟨rfl, .inr ⟨xs, rfl⟩⟩
      | _ => cases e
theorem cut_obj (sm : Same H H2) {a : Addr} : ∀ (o : HO), ObjOk P w H h0 a o → ObjOk P w H2 h a o → ObjOk P w (cutH H H2) h a o
  | .lst xs, _, y => y
  | .tup xs, _, y => y
  | .dK kvs, _, y => y
  | .dT kvs, _, ⟨z, n, xs, pr, y⟩ => ⟨z, n, xs, L2.Paired.mapP pr fun p q c => ⟨c.1, cut_tup c.2.1, c.2.2⟩, y⟩
  | .set S n, _, y => y
  | .ins C dx fs, ⟨x, _⟩, ⟨y, z⟩ => ⟨by rw [cut_of x]; exact y, z⟩
  | .own y, _, z => z
  | .xd fs, _, z => z
  | .rng lo hi, _, z => z
  | .frz o u, ⟨_, x⟩, ⟨y, z⟩ => ⟨y, cut_obj sm u x z⟩
  | .tbl ps, _, z => z
  | .met f x, _, z => z
  | .ext φ, _, z => z
theorem cut_hok (sm : Same H H2) (ok0 : HOk P w H h0) (ok : HOk P w H2 h) : HOk P w (cutH H H2) h := fun a o e => by
  obtain ⟨e2, c⟩ := cut_some e
  rcases c with ⟨u, q⟩ | ⟨xs, rfl⟩
  · have e3 := sm a u q
    rw [e2] at e3
    have e4 : o = u := Option.some.inj e3
    subst e4
    exact cut_obj sm o (ok0 a o q) (ok a o e2)
  · exact ok a _ e2
end
section
variable {X : Cx} {k : Nat} {f : Addr} {fd : FuncData} {ps : List Str} {sp : Sp} {pins : List (Addr × Obj)} {σ : Sv} {H H2 : Hp} {s s' : Shared}
theorem Inv.cut (I0 : L2.Inv X pins σ H s) (I : L2.Inv X pins σ H2 s') (sm : Same H H2) : L2.Inv X pins σ (cutH H H2) s' :=
  ⟨I.ok, I.os, I.bare, ⟨I.base.keep, I.base.slot, fun b o e n hx => cut_none (I.base.free b o e n hx), I.base.there, fun b xs e => cut_tup (I.base.tups b xs e),
    fun b o u e => by rw [cut_of (I0.base.frzs b o u e)]; exact I.base.frzs b o u e,
    fun b ps e => by
      obtain ⟨m, q⟩ := I0.base.tbls b ps e
      obtain ⟨m2, q2⟩ := I.base.tbls b ps e
      exact ⟨m2, by rw [cut_of q]; exact q2⟩⟩, I.loc, I.cell, cut_none I.free, fun x c e => cut_none (I.freeC x c e),
    fun p hp => let ⟨e, n, r⟩ := I.pin p hp; ⟨e, cut_none n, r⟩, cut_hok sm I0.hok I.hok, I.len⟩
end
theorem RL.at_ {g : GC} {A : Addr → Prop} {H : Hp} : ∀ {ds : List D} {xs : List V} {i : Nat} {x : V}, RL g A H ds xs → xs[i]? = some x → ∃ d, ds[i]? = some d ∧ R g A H d x
  | [], xs, i, x, r, e => by rw [show xs = [] from r] at e; simp at e
  | d :: ds, _, i, x, ⟨y, ys, rfl, r, t⟩, e => by
    cases i with
    | zero => simp at e; subst e; exact ⟨d, rfl, r⟩
    | succ i =>
      obtain ⟨d', h1, h2⟩ := RL.at_ t (show ys[i]? = some x by simpa using e)
      exact ⟨d', by simpa using h1, h2⟩
section
variable {g : GC} {X : Cx} {W : WK}
end
end Fw
namespace Fw
open L2 PyProof.Rows PySem PySem.Spec
section
variable {X : Cx}
end
section
variable {g : GC} {X : Cx} {W : WK}
end
section
variable {g : GC} {X : Cx} {W : WK}
end
section
variable {g : GC} {X : Cx} {W : WK}
end
end Fw
namespace Fw
open L2 PyProof.Rows PySem PySem.Spec
section
variable {g : GC} {X : Cx} {W : WK}
end
end Fw
namespace Fw
open L2 PyProof.Rows PySem PySem.Spec
section
variable {g : GC} {X : Cx} {W : WK}
end
end Fw
namespace Fw
open L2 PyProof.Rows PySem PySem.Spec
section
variable {P : Program} {w : World} {A : Around} {E : Value → Shared → Prop} {s : Shared}
abbrev setE (w : World) : Obj := { cls := .type "set", dict := none, data := .set #[] 0 (.fresh 0 0 (!w.params.followText "set-order")) }
end
section
variable {g : GC} {X : Cx} {W : WK}
end
section
variable {X : Cx}
end
end Fw
namespace Fw
open L2 PyProof.Rows PySem PySem.Spec
section
variable {g : GC} {X : Cx} {W : WK}
theorem itB_ok : ∀ {vs : List Value} {ns : List Int}, itB vs ns = true → Vals (ns.map V.int) vs
  | [], [], _ => .nil
  | v :: vs, [], h => by cases v <;> cases h
  | [], b :: bs, h => by cases h
  | v :: vs, b :: bs, h => by
    cases v with
    | int a t =>
      have h : (decide (a = b) && itB vs bs) = true := h
      obtain ⟨h1, h2⟩ := He.ba h
      have e := of_decide_eq_true h1
      subst e
      exact .cons ⟨t, rfl⟩ (itB_ok h2)
    | _ => cases h
end
end Fw
namespace GQ
open PySem PySem.SeqAt
open AutoSeq1 (wpAny_loadPart')
open MeetsSeq MeetsSeq2 MeetsSeq3 SeqRoads2
section
variable {prog : Program} {w : World} {A : Around} {R : Result → Shared → Prop}
end
section
variable {prog : Program} {w : World} {A : Around} {E : Value → Shared → Prop} {s : Shared}
end
end GQ
namespace Fw
open L2 PyProof.Rows PySem PySem.Spec
section
variable {X : Cx} {k : Nat} {C f : Addr} {fd : FuncData} {ps : List Str} {sp : Sp}
end
section
variable {g : GC} {X : Cx} {W : WK}
variable {k : Nat} {C fa : Addr} {nm q : Str} {ps : List Str} {ar : Arguments} {fn : Fn} {isF : Nat → Bool} {a b : Expr} {ma mb' : M D} {pos : Pos}
variable {e : Ev}
end
end Fw
namespace Fw
open L2 PyProof.Rows PySem PySem.Spec
section
variable {g : GC} {X : Cx} {W : WK}
end
section
variable {X : Cx} {k : Nat} {C f : Addr} {fd : FuncData} {ps : List Str} {sp : Sp}
end
section
variable {g : GC} {X : Cx} {W : WK}
variable {k : Nat} {C fa : Addr} {nm q : Str} {ps : List Str} {ar : Arguments} {fn : Fn} {isF : Nat → Bool} {a b : Expr} {ma mb' : M D} {pos : Pos}
variable {e : Ev}
end
end Fw
namespace Fw
open L2 PyProof.Rows PySem PySem.Spec
end Fw
namespace Fw
open L2 PyProof.Rows PySem PySem.Spec
end Fw
namespace Fw
open L2 PyProof.Rows PySem PySem.Spec
section
variable {g : GC} {X : Cx} {W : WK}
end
end Fw
namespace Fw
open L2 PyProof.Rows PySem PySem.Spec
section
variable {g : GC} {X : Cx} {W : WK}
end
end Fw
namespace Fw
open L2 PyProof.Rows PySem PySem.Spec
section
variable {g : GC} {X : Cx} {W : WK}
theorem op_isBl : OpR X (compareOp .Is) (fun x y H Q => ∃ a b, x = .bl a ∧ y = .bl b ∧ Q (.bl (decide (a = b))) H) := by
  intro pins s σ H x y v u Q I rx ry h
  obtain ⟨a, b, rfl, rfl, q⟩ := h
  cases rx; cases ry
  cases a <;> cases b <;> exact wpAny_pure ⟨.bl _, H, I, rfl, q⟩
theorem os_isB : OS g (fun x y H Q => ∃ a b, x = .bl a ∧ y = .bl b ∧ Q (.bl (decide (a = b))) H) dIsB := fun A H d1 d2 d v1 v2 Q al r1 r2 q k => by
  cases d1 with
  | bl a => cases d2 with
    | bl b => cases q; exact ⟨a, b, r1, r2, k _ H (Same.refl H) rfl⟩
    | _ => cases q
  | _ => cases q
theorem tuB_kt {K : PySem.W.Frag} {b : Addr} {ns : List Int} (h : (tuB K b ns && ktB K b) = true) : KtR K b (ns.map V.int) := by
  obtain ⟨h, hd⟩ := He.ba h
  unfold ktB at hd
  unfold tuB at h
  cases q : K.lookup b with
  | none => rw [q] at h; cases h
  | some o =>
    rw [q] at h hd
    simp only at h hd
    split at h
    · rename_i its n e
      split at h
      · rename_i c e2
        obtain ⟨h1, h2⟩ := He.ba h
        obtain ⟨h2, h3⟩ := He.ba h2
        have e3 := of_decide_eq_true h1
        subst e3
        have h4 := of_decide_eq_true h2
        exact ⟨o, its, n, q, e2, Option.isNone_iff_eq_none.mp hd, e, by rw [sizeLine_eq]; omega, itB_ok h3⟩
      · cases h
    · cases h
theorem c_gtu {x : Str} {a : Addr} {ns : List Int} {p : Pos} (hg : Gl X x) (hm : X.mg x = some (.ref a)) (h : KtR g.K a (ns.map V.int)) (hd : (x == ("__debug__" : Str)) = false := by decide +kernel) : CE g X W (.Name x p) (mC (.ktu ns)) :=
  c_con (pe_glob (v := .ref a) hg hm rfl hd) fun _ _ => ⟨a, rfl, .inl h⟩
end
end Fw
namespace Fw
open L2 PyProof.Rows PySem PySem.Spec
section
variable {P : Program} {w : World} {A : Around} {E : Value → Shared → Prop} {s : Shared} {a : Addr}
end
section
variable {g : GC} {X : Cx} {W : WK}
end
end Fw
namespace Fw
open L2 PyProof.Rows PySem PySem.Spec
section
variable {g : GC} {X : Cx} {W : WK}
variable {k : Nat} {x y : Str} {ps : List Str} {ar : Arguments} {fn : Fn} {p p2 pos : Pos} {e : Expr}
end
end Fw
namespace Fw
open L2 PyProof.Rows PySem PySem.Spec
section
variable {g : GC} {X : Cx} {W : WK}
theorem KtX.noD {pins : List (Addr × Obj)} {σ : L2.St} {H : Hp} {s : Shared} {a : Addr} {xs : List V} (I : Inv X pins σ H s) (h : KtX X.K H a xs) : ∃ ob, s.heap.get? a = some ob ∧ ob.dict = none := by
  rcases h with ⟨o, its, n, e, c, d, _⟩ | ⟨o, e, d⟩
  · exact ⟨o, I.kIn a o e, d⟩
  · obtain ⟨e1, _⟩ := (show ObjOk X.prog X.w H s.heap a (.frz o (.tup xs)) from I.hok a _ e)
    exact ⟨o, e1, d⟩
end
end Fw
namespace GQ
open PySem PySem.SeqAt
open AutoSeq1 (wpAny_loadPart')
open MeetsSeq MeetsSeq2 MeetsSeq3 SeqRoads2
section
variable {prog : Program} {w : World} {A : Around} {R : Result → Shared → Prop}
end
end GQ
namespace Fw
open L2 PyProof.Rows PySem PySem.Spec
section
variable {X : Cx} {k : Nat} {C f : Addr} {fd : FuncData} {ps : List Str} {sp : Sp}
def rInL (K : PySem.W.Frag) (C : Addr) (sp : Sp) (p : Addr) (xs0 : List V) (x : V) : List V → Hp → (Bool → Hp → Prop) → Prop
  | [], H, Q => SqL K H p xs0 ∧ Q false H
  | y :: ys, H, Q => SqL K H p xs0 ∧ (∀ a, y = .ref a → x = .ref a → Q true H) ∧ rEqO C sp false y x H (fun v H' => ∃ r, v = .bl r ∧ (r = true → Q true H') ∧ (r = false → rInL K C sp p xs0 x ys H' Q))
theorem rInL.sq {K : PySem.W.Frag} {p : Addr} {xs0 : List V} {x : V} : ∀ {xs : List V} {H : Hp} {Q : Bool → Hp → Prop}, rInL K C sp p xs0 x xs H Q → SqL K H p xs0
  | [], _, _, h => h.1
  | _ :: _, _, _, h => h.1
end
section
variable {g : GC} {X : Cx} {W : WK}
variable {k : Nat} {C fa : Addr} {nm q : Str} {ps : List Str} {ar : Arguments} {fn : Fn} {isF : Nat → Bool} {a b : Expr} {ma mb' : M D} {pos : Pos}
variable {e : Ev}
end
end Fw
namespace GQ
open PySem PySem.SeqAt
open AutoSeq1 (wpAny_loadPart')
open MeetsSeq MeetsSeq2 MeetsSeq3 SeqRoads2
section
variable {prog : Program} {w : World} {A : Around} {R : Result → Shared → Prop}
end
end GQ
namespace Fw
open L2 PyProof.Rows PySem PySem.Spec
section
variable {X : Cx} {k : Nat} {C f : Addr} {fd : FuncData} {ps : List Str} {sp : Sp}
def rCnt (K : PySem.W.Frag) (C : Addr) (sp : Sp) (p : Addr) (xs0 : List V) (x : V) : List V → Nat → Hp → (Nat → Hp → Prop) → Prop
  | [], c, H, Q => SqL K H p xs0 ∧ Q c H
  | y :: ys, c, H, Q => SqL K H p xs0 ∧ (∀ a, y = .ref a → x = .ref a → rCnt K C sp p xs0 x ys (c + 1) H Q) ∧ rEqO C sp false y x H (fun v H' => ∃ r, v = .bl r ∧ rCnt K C sp p xs0 x ys (if r then c + 1 else c) H' Q)
theorem rCnt.sq {K : PySem.W.Frag} {p : Addr} {xs0 : List V} {x : V} : ∀ {xs : List V} {c : Nat} {H : Hp} {Q : Nat → Hp → Prop}, rCnt K C sp p xs0 x xs c H Q → SqL K H p xs0
  | [], _, _, _, h => h.1
  | _ :: _, _, _, _, h => h.1
end
section
variable {g : GC} {X : Cx} {W : WK}
variable {k : Nat} {C fa : Addr} {nm q : Str} {ps : List Str} {ar : Arguments} {fn : Fn} {isF : Nat → Bool}
variable {e : Ev}
end
end Fw
namespace Fw
open L2 PyProof.Rows PySem PySem.Spec
section
variable {X : Cx}
end
section
variable {g : GC} {X : Cx} {W : WK}
variable {e : Ev}
end
end Fw
namespace Fw
open L2 PyProof.Rows PySem PySem.Spec
section
variable {g : GC}
theorem MonoW.rd {A A' : Addr → Prop} {H H' : Hp} (m : MonoW A H A' H') {a : Addr} {o : HO} (n : isMut o = false) (h : Rd H a o) : Rd H' a o := by
  rcases h with h | ⟨ob, h⟩
  · refine .inl (m.st a _ h (fun z => ?_) fun kvs y => ?_)
    · obtain ⟨u, e, q⟩ := m.al a z
      rw [h] at e; cases e; rw [n] at q; cases q
    · rw [y] at n; cases n
  · refine .inr ⟨ob, m.st a _ h (fun z => ?_) fun kvs y => by cases y⟩
    obtain ⟨u, e, q⟩ := m.al a z
    rw [h] at e; cases e; cases q
theorem MonoW.ins {A A' : Addr → Prop} {H H' : Hp} (m : MonoW A H A' H') {a : Addr} {o : HO} (n : isMut o = false) (h : H a = some o) : H' a = some o := by
  refine m.st a _ h (fun z => ?_) fun kvs y => by rw [y] at n; cases n
  obtain ⟨u, e, q⟩ := m.al a z
  rw [h] at e; cases e; rw [n] at q; cases q
theorem MonoW.lsr {A A' : Addr → Prop} {H H' : Hp} (m : MonoW A H A' H') {a : Addr} {xs : List V} (h : LsR g A H a xs) : LsR g A' H' a xs := by
  rcases h with ⟨h, n⟩ | h
  · rcases h with h | ⟨ob, h⟩
    · exact .inl ⟨.inl (m.st a _ h n fun _ y => by cases y), fun z => n (m.av a _ z h)⟩
    · exact .inl ⟨.inr ⟨ob, m.st a _ h n fun _ y => by cases y⟩, fun z => n (m.av a _ z h)⟩
  · exact .inr h
mutual
theorem R.monoW {A A' : Addr → Prop} {H H' : Hp} (m : MonoW A H A' H') : ∀ (d : D) {v : V}, R g A H d v → R g A' H' d v
  | .non, _, e => e
  | .bl _, _, e => e
  | .int _, _, e => e
  | .str _, _, e => e
  | .ty _, _, e => e
  | .tup ds, _, ⟨a, xs, e, h1, r⟩ => ⟨a, xs, e, m.ins rfl h1, RL.monoW m ds r⟩
  | .lst ds, _, ⟨a, xs, e, h1, n, r⟩ => ⟨a, xs, e, m.st a _ h1 n (fun _ y => nomatch y), fun z => n (m.av a _ z h1), RL.monoW m ds r⟩
  | .obj c ds, _, ⟨a, dx, xs, e, h1, n, hl, r⟩ => ⟨a, dx, xs, e, m.st a _ h1 n (fun _ y => nomatch y), fun z => n (m.av a _ z h1), hl, RL.monoW m ds r⟩
  | .scr _, _, ⟨a, e, h1⟩ => ⟨a, e, m.lsr h1⟩
  | .mrk, _, e => e
  | .ktu _, _, ⟨a, e, h1⟩ => ⟨a, e, h1.imp id fun ⟨o, x, y⟩ => ⟨o, m.ins rfl x, y⟩⟩
  | .dct ks ds, _, ⟨a, o, xs, e, h1, hl, r⟩ => ⟨a, o, xs, e, m.ins rfl h1, hl, RL.monoW m ds r⟩
  | .dtt ks ds, _, ⟨a, o, xs, e, h1, hl, r⟩ => ⟨a, o, xs, e, m.ins rfl h1, hl, RL.monoW m ds r⟩
  | .exn c ds, _, ⟨a, od, e, h0, h⟩ => ⟨a, od, e, h0, h.imp id fun ⟨dd, xs, h1, h2, h3, r⟩ => ⟨dd, xs, h1, m.ins rfl h2, h3, RL.monoW m ds r⟩⟩
theorem RL.monoW {A A' : Addr → Prop} {H H' : Hp} (m : MonoW A H A' H') : ∀ (ds : List D) {xs : List V}, RL g A H ds xs → RL g A' H' ds xs
  | [], _, e => e
  | d :: ds, _, ⟨y, ys, e, r, t⟩ => ⟨y, ys, e, R.monoW m d r, RL.monoW m ds t⟩
end
structure Lam where
  f : Addr
  c : Addr
  q : Str
  σ : Sv
  e : Ev
def Cap (g : GC) (A : Addr → Prop) (H : Hp) (L : Lam) : Prop := H L.c = some (LamX.CodeO L.c L.q) ∧ ∀ (i : Nat) d, L.e[i]? = some (.val d) → ∃ v, L.σ[i]? = some (some v) ∧ R g A H d v
theorem Cap.mono {A A' : Addr → Prop} {H H' : Hp} {L : Lam} (m : MonoW A H A' H') (h : Cap g A H L) : Cap g A' H' L := by
  refine ⟨m.ins rfl h.1, fun i d z => ?_⟩
  obtain ⟨v, a, b⟩ := h.2 i d z
  exact ⟨v, a, R.monoW m d b⟩
def GC.wl (g : GC) (L : Lam) : GC := { g with own := some L.f, iv := fun A H => g.iv A H ∧ Cap g A H L, ivM := fun m h => ⟨g.ivM m h.1, h.2.mono m⟩ }
end
mutual
def noM : D → Bool
  | .tup ds => noML ds
  | .lst ds => noML ds
  | .obj _ ds => noML ds
  | .dct _ ds => noML ds
  | .dtt _ ds => noML ds
  | .exn _ ds => noML ds
  | .non => true
  | .bl _ => true
  | .int _ => true
  | .str _ => true
  | .ty _ => true
  | .scr _ => true
  | .ktu _ => true
  | .mrk => false
def noML : List D → Bool
  | [] => true
  | d :: ds => noM d && noML ds
end
section
variable {g : GC} {L : Lam} {A : Addr → Prop} {H : Hp}
mutual
theorem R.inL (ho : g.own = none) : ∀ (d : D) {v : V}, R g A H d v → R (g.wl L) A H d v
  | .non, _, e => e
  | .bl _, _, e => e
  | .int _, _, e => e
  | .str _, _, e => e
  | .ty _, _, e => e
  | .mrk, _, ⟨b, _, e⟩ => by rw [ho] at e; cases e
  | .tup ds, _, ⟨a, xs, e, h1, r⟩ => ⟨a, xs, e, h1, RL.inL ho ds r⟩
  | .lst ds, _, ⟨a, xs, e, h1, n, r⟩ => ⟨a, xs, e, h1, n, RL.inL ho ds r⟩
  | .obj c ds, _, ⟨a, dx, xs, e, h1, n, hl, r⟩ => ⟨a, dx, xs, e, h1, n, hl, RL.inL ho ds r⟩
  | .scr _, _, e => e
  | .ktu _, _, e => e
  | .dct ks ds, _, ⟨a, o, xs, e, h1, hl, r⟩ => ⟨a, o, xs, e, h1, hl, RL.inL ho ds r⟩
  | .dtt ks ds, _, ⟨a, o, xs, e, h1, hl, r⟩ => ⟨a, o, xs, e, h1, hl, RL.inL ho ds r⟩
  | .exn c ds, _, ⟨a, od, e, h0, h⟩ => ⟨a, od, e, h0, h.imp id fun ⟨dd, xs, h1, h2, h3, r⟩ => ⟨dd, xs, h1, h2, h3, RL.inL ho ds r⟩⟩
theorem RL.inL (ho : g.own = none) : ∀ (ds : List D) {xs : List V}, RL g A H ds xs → RL (g.wl L) A H ds xs
  | [], _, e => e
  | d :: ds, _, ⟨y, ys, e, r, t⟩ => ⟨y, ys, e, R.inL ho d r, RL.inL ho ds t⟩
end
mutual
theorem R.outL : ∀ (d : D) {v : V}, noM d = true → R (g.wl L) A H d v → R g A H d v
  | .non, _, _, e => e
  | .bl _, _, _, e => e
  | .int _, _, _, e => e
  | .str _, _, _, e => e
  | .ty _, _, _, e => e
  | .mrk, _, z, _ => by rw [noM] at z; cases z
  | .tup ds, _, z, ⟨a, xs, e, h1, r⟩ => ⟨a, xs, e, h1, RL.outL ds (by rw [noM] at z; exact z) r⟩
  | .lst ds, _, z, ⟨a, xs, e, h1, n, r⟩ => ⟨a, xs, e, h1, n, RL.outL ds (by rw [noM] at z; exact z) r⟩
  | .obj c ds, _, z, ⟨a, dx, xs, e, h1, n, hl, r⟩ => ⟨a, dx, xs, e, h1, n, hl, RL.outL ds (by rw [noM] at z; exact z) r⟩
  | .scr _, _, _, e => e
  | .ktu _, _, _, e => e
  | .dct ks ds, _, z, ⟨a, o, xs, e, h1, hl, r⟩ => ⟨a, o, xs, e, h1, hl, RL.outL ds (by rw [noM] at z; exact z) r⟩
  | .dtt ks ds, _, z, ⟨a, o, xs, e, h1, hl, r⟩ => ⟨a, o, xs, e, h1, hl, RL.outL ds (by rw [noM] at z; exact z) r⟩
  | .exn c ds, _, z, ⟨a, od, e, h0, h⟩ => ⟨a, od, e, h0, h.imp id fun ⟨dd, xs, h1, h2, h3, r⟩ => ⟨dd, xs, h1, h2, h3, RL.outL ds (by rw [noM] at z; exact z) r⟩⟩
theorem RL.outL : ∀ (ds : List D) {xs : List V}, noML ds = true → RL (g.wl L) A H ds xs → RL g A H ds xs
  | [], _, _, e => e
  | d :: ds, _, z, ⟨y, ys, e, r, t⟩ => by
    rw [noML, Bool.and_eq_true] at z
    exact ⟨y, ys, e, R.outL d z.1 r, RL.outL ds z.2 t⟩
end
theorem ExR.inL (ho : g.own = none) {c : Nat} {d : D} {cls : Value} {dd : Option Addr} (x : ExR g A H c d cls dd) : ExR (g.wl L) A H c d cls dd := by
  unfold ExR at x ⊢
  refine ⟨x.1, ?_⟩
  have x := x.2
  show (match g.cf c with
    | [] => dd = none
    | x :: _ => ∃ a v, dd = some a ∧ H a = some (.xd [(x, v)]) ∧ R (g.wl L) A H d v)
  cases q : g.cf c with
  | nil => simp only [q] at x ⊢; exact x
  | cons y l => simp only [q] at x ⊢; obtain ⟨a, v, h1, h2, h3⟩ := x; exact ⟨a, v, h1, h2, R.inL ho d h3⟩
theorem ExR.outL {c : Nat} {d : D} {cls : Value} {dd : Option Addr} (z : noM d = true) (x : ExR (g.wl L) A H c d cls dd) : ExR g A H c d cls dd := by
  unfold ExR at x ⊢
  refine ⟨x.1, ?_⟩
  have x : (match g.cf c with
    | [] => dd = none
    | x :: _ => ∃ a v, dd = some a ∧ H a = some (.xd [(x, v)]) ∧ R (g.wl L) A H d v) := x.2
  cases q : g.cf c with
  | nil => simp only [q] at x ⊢; exact x
  | cons y l => simp only [q] at x ⊢; obtain ⟨a, v, h1, h2, h3⟩ := x; exact ⟨a, v, h1, h2, R.outL d z h3⟩
end
section
variable {g : GC} {W : WK}
def mAct (i : Nat) (r : Rs D) : M D := fun e => match e[i]? with
  | some (.val .mrk) => (match r with
    | .ok d _ => .ok d e
    | .exc c d _ => .exc c d e
    | .bad => .bad)
  | _ => .bad
abbrev fxL (A : Addr → Prop) (H : Hp) : Fx := ⟨fun _ => none, A, fun _ => none, H⟩
def flatE (e : Ev) : Bool := e.all fun s => match s with
  | .emp => true
  | .val _ => true
  | _ => false
theorem flatE_no {e : Ev} (h : flatE e = true) {i : Nat} {s : Sl} (z : e[i]? = some s) (b : s.isBox = true) : False := by
  have q := List.all_eq_true.mp h s (List.mem_of_getElem? z)
  cases s with
  | box d => cases q
  | pbox d => cases q
  | _ => cases b
theorem cap_fr {L : Lam} {f : Fx} {A : Addr → Prop} {H : Hp} {σ : Sv} {e : Ev} (F : FR (g.wl L) f A H σ e) (hl : L.σ.length = L.e.length) (hb : flatE L.e = true) : FR g (fxL A H) A H L.σ L.e where
  len := hl
  sl := fun i s o h1 h2 => by
    cases s with
    | emp => exact rfl
    | val d =>
      obtain ⟨v, a, b⟩ := F.iv.2.2 i d h1
      rw [h2] at a; cases a
      exact ⟨rfl, v, rfl, b⟩
    | box d => exact (flatE_no hb h1 rfl).elim
    | pbox d => exact (flatE_no hb h1 rfl).elim
  inj := fun i j s t p h1 _ b1 _ _ _ => (flatE_no hb h1 b1).elim
  nt := fun _ _ _ _ _ _ => rfl
  tp := fun _ _ z => nomatch z
  ob := fun _ z => z
  ob0 := fun a z => let ⟨o, q, _⟩ := F.al a z; ⟨o, q⟩
  pb := fun _ _ z => nomatch z
  al := F.al
  keep := fun _ _ z _ _ => z
  tb := fun p hp => ⟨(F.tb p hp).1, fun _ z => (nomatch z), (F.tb p hp).2.2⟩
  iv := F.iv.1
theorem act_of {L : Lam} {mbody : M D} {i : Nat} {σ : Sv} {H : Hp} {Q : VK} (ho : g.own = none) (hl : L.σ.length = L.e.length) (hb : flatE L.e = true) (h : rdE (g.wl L) W (mAct i (mbody L.e)) σ H Q) : σ[i]? = some (some (.ref L.f)) ∧ H L.c = some (LamX.CodeO L.c L.q) ∧ rdE g (fun cls dd _ H' => WE W σ cls dd H') mbody L.σ H Q := by
  obtain ⟨f, A, e, F, h⟩ := h
  unfold mAct at h
  split at h
  · rename_i z
    obtain ⟨o, z1, _, v, z2, b, z3, z4⟩ := F.at z
    have z4 : some L.f = some b := z4
    cases z4
    refine ⟨by rw [z1, z2, z3], F.iv.2.1, fxL A H, A, L.e, cap_fr F hl hb, ?_⟩
    have back : ∀ {H' : Hp} {e' : Ev}, FR g (fxL A H) A H' L.σ e' → FR (g.wl L) f A H' σ e := fun F' =>
      (F.sameT (fun a o z n2 => F'.keep a o z (fun _ y => nomatch y) n2) fun p hp => (F'.tb p hp).2.2).1
    cases q : mbody L.e with
    | ok d e1 => rw [q] at h; exact fun v H' F' S' r => h v H' (back F') S' (R.inL ho d r)
    | exc c d e1 => rw [q] at h; exact fun cls dd H' F' S' x => h cls dd H' (back F') S' (ExR.inL ho x)
    | bad => rw [q] at h; exact h.elim
  · exact h.elim
end
end Fw
namespace Fw
open L2 PyProof.Rows PySem PySem.Spec LamX
abbrev lamN (X : Cx) (A : Around) (outer : List Env) (s : Shared) (H : Hp) (E : XK) (scope : Scope) (f c' : Addr) : Cx :=
  { lamCx X A outer s H E scope f c' with
    xe := fun e r => wpAny (model X.prog X.w) (A.deeper (lamEnv X scope s.heap.objs.size f c')) (leaving (lamEnv X scope s.heap.objs.size f c') e) (fun _ r2 => L2N.CX X.prog X.w outer H s E e r2) (fun e2 r2 => L2N.CX X.prog X.w outer H s E e2 r2) r }
theorem inv_lamN {X : Cx} {A : Around} {outer : List Env} {s : Shared} {H : Hp} {E : XK} {scope : Scope} {f c' : Addr} {pins : List (Addr × Obj)} {σ : L2.St} {H1 : Hp} {s1 : Shared} (I : Inv (lamCx X A outer s H E scope f c') pins σ H1 s1) : Inv (lamN X A outer s H E scope f c') pins σ H1 s1 :=
  ⟨⟨I.ok.mod, I.ok.kind, I.ok.glob, I.ok.blt, I.ok.above, I.ok.inj, I.ok.has, I.ok.cab, I.ok.hd, I.ok.frames, I.ok.stk, I.ok.exf, I.ok.bs, I.ok.bsz, I.ok.noex, I.ok.exfs, I.ok.funs, I.ok.frf⟩,
    I.os, I.bare, I.base, I.loc, I.cell, I.free, I.freeC, I.pin, I.hok, I.len⟩
section
variable {X : Cx} {pins : List (Addr × Obj)} {σ : Sv} {H : Hp} {s : Shared}
theorem pe_actG {Eg : XK} {Ng : List Str} {qg : Str} {sg : Scope} {gx f c' : Addr} {cdg pm ctv : Value} {params : Arguments} {body : Expr} {scope : Scope} {k i : Nat} {a : Str} {pn : List (Addr × Obj)} {xe : Value → Shared → Prop} {W : WX} {t : XK → TE} {p1 p2 : Pos}
    (I : Inv X pins σ H s) (LS : LamS X.env.scope scope) (at_ : s.heap.get? f = some (PySem.W.kla_obj "<lambda>" (X.env.qual ++ "<lambda>") params body scope (cloFrom X.env.cells scope.names []) pm c' ctv)) (no : H f = none) (nofr : f ∉ frs X.stack)
    (nob : bindArgs (PySem.W.kla_fn "<lambda>" (X.env.qual ++ "<lambda>") params body scope (cloFrom X.env.cells scope.names []) pm (.ref c') ctv) ⟨[], []⟩ = pure [])
    (tk : L2N.Takes ((cxOf (L2N.CX X.prog X.w) X.prog X.w X.K X.mg X.base Ng qg sg gx cdg X.A X.stack s H Eg).tr pn xe) W) (room : Room (k + 1) (X.A.deeper (envOfC qg sg s.heap.objs.size gx cdg))) (gd : X.A.guards = some [])
    (bod : ∀ (E : XK) (A : Around) (outer : List Env) (s : Shared) (H : Hp), Room k (A.deeper (lamEnv X scope s.heap.objs.size f c')) → A.guards = some [] → PE (lamN X A outer s H E scope f c') body (t E))
    (hN : Ng[i]? = some a) (hv : Vis sg a) (nd : (a == ("__debug__" : Str)) = false := by decide) (nc : (a == ("__classdict__" : Str)) = false := by decide) :
    PE ((cxOf (L2N.CX X.prog X.w) X.prog X.w X.K X.mg X.base Ng qg sg gx cdg X.A X.stack s H Eg).tr pn xe) (.Call (.Name a p1) [] [] p2)
      (fun σZ HZ Q => σZ[i]? = some (some (.ref f)) ∧ HZ c' = some (CodeO c' (X.env.qual ++ "<lambda>")) ∧ t (WE W σZ) σ HZ Q) := by
  constructor
  intro pinsZ sZ σZ HZ Q IZ ⟨h1, h2, h3⟩
  have look := (pe_var (pos := p1) (i := i) hN hv nd nc).run pinsZ sZ σZ HZ (fun v H1 => v = .ref f ∧ H1 = HZ) IZ ⟨.ref f, h1, rfl, rfl⟩
  apply wpAny_Call_Name_kw
  apply thn look
  rintro u s1 ⟨v, H1, I1, r1, rfl, rfl⟩
  cases r1
  have here := I1.base.keep f _ at_ no nofr fun z => nomatch (show f ∈ ([] : List Addr) from z)
  apply PySem.W.callWith_F0 ⟨_, _, _, _, here⟩
  have un : Un (frs X.stack) [] H H1 s.heap s1.heap := I1.base
  obtain ⟨⟨oc, vs, tk0, b1, b2, b3⟩, _, _⟩ := I1.hok c' _ h2
  have run : codeAny (model X.prog X.w) (X.A.deeper (envOfC qg sg s.heap.objs.size gx cdg)) (.call (.ref f) ⟨[], []⟩) (CR (L2N.CX X.prog X.w) (envOfC qg sg s.heap.objs.size gx cdg :: X.stack) X.prog X.w H1 s1 Q (WE W σZ)) s1 := by
    apply PySem.W.kla_callFunE room.depth here rfl LS.co LS.gen rfl ⟨c', oc, vs, tk0, rfl, b1, b2, b3⟩
    rw [nob]
    apply wpAny_pure
    refine wpAny_newFunctionEnv (fun y hy => (LS.own y hy).2) (fun y hy => nomatch hy) (fun h₁ ns sb => ⟨I1.nolimit.fresh _ sb, ?_⟩) LS.kind
    show codeAny _ _ (.expr body (lamEnv X scope s1.heap.objs.size f c')) _ _
    have old : ∀ b o, s1.heap.get? b = some o → h₁.get? b = some o := fun b o e => sb.extBut b o (Nat.ne_of_lt (Heap.lt_size e)) (Heap.get?_push_of_some _ e)
    have J := inv_lamN (lam_start2 (f := f) (c' := c') (E := WE W σZ) (tk := s1.toks + ([] : List (Str × Value)).length) I LS I1.env0 room.hd un ns old)
    apply PySem.W.kla_codeExpr
    refine wpAny_mono ((bod (WE W σZ) _ _ s1 H1 (room.deeper _) gd).run [] _ _ H1 Q J h3) (fun v s' q => ?_) fun e s' q => q
    obtain ⟨w', H', J', rv, q⟩ := q
    exact ⟨w', H', J'.os, J'.bare, J'.base, J'.hok, rv, q⟩
  refine wpAny_call (codeAny_mono run fun r s' q => ?_)
  match r, q with
  | .error e, q => exact L2N.passAt tk σZ pinsZ H1 s1 e s' I1 q
  | .ok (.ret u), q => exact I1.after q
  | .ok .next, q => exact q.elim
  | .ok .brk, q => exact q.elim
  | .ok .cont, q => exact q.elim
end
end Fw
namespace Fw
open L2 PyProof.Rows PySem PySem.Spec LamX
section
variable {X : Cx} {pins : List (Addr × Obj)} {σ : Sv} {H : Hp} {s : Shared}
theorem lam_makeG {T : List (Addr × Str)} {c P : Addr} {params : Arguments} {body : Expr} {scope : Scope} {pos : Pos} {E Q : Value → Shared → Prop} (I : Inv X pins σ H s) (TB : TabB X.base X.mg c P) (code : X.env.code = .ref c)
    (mem : (P, X.env.qual ++ "<lambda>") ∈ T) (one : ∀ p ∈ T, p.1 = P → p.2 = X.env.qual ++ "<lambda>") (tabs : Tabs T H) (plain : defaultsOf params X.env = ([], [])) (free : ∀ y ∈ scope.names, y.2 = .free → ∃ c, X.env.cells.lookup y.1 = some c)
    (go : ∀ (f c' : Addr) (pm ctv : Value) (H1 : Hp) (s' : Shared), Inv X pins σ H1 s' → (∀ b o, H b = some o → b ≠ P → H1 b = some o) → Tabs T H1 →
      s'.heap.get? f = some (PySem.W.kla_obj "<lambda>" (X.env.qual ++ "<lambda>") params body scope (cloFrom X.env.cells scope.names []) pm c' ctv) → H1 f = none → f ∉ frs X.stack → H1 c' = some (CodeO c' (X.env.qual ++ "<lambda>")) → Q (.ref f) s') :
    wpAny (model X.prog X.w) X.A (eval (.Lambda params body scope pos) X.env) Q E s := by
  have tP := tabs _ mem
  obtain ⟨ps, p1, p2, p3⟩ := tP
  have raw : s.heap.get? P = some { cls := .none, data := .fields ps } := I.hok P _ p1
  have mods : s.heap.BuiltinsAt X.mg P := TB.bm.keeps I.bk
  have off : ∀ b, s.heap.objs.size ≤ b → b ∉ frs X.stack := fun b hb z => by
    rcases List.mem_cons.mp (I.stkSub _ z) with e | e
    · have lt := I.lt
      rw [← e] at lt
      exact Nat.lt_irrefl _ (Nat.lt_of_lt_of_le lt hb)
    · exact I.nofs hb e
  apply PySem.W.kla_eval plain
  cases am : codeAmong pos ps.toList with
  | some cv =>
    obtain ⟨c', rfl, hc'⟩ := p3 pos cv am
    apply PySem.W.kla_makeFunctionHit (mg := X.mg) (c := c) (P := P) (ps := ps) (closure_ok free) I.ok.glob (I.mod.glob.keeps I.bk) code (TB.code.keeps I.bk) raw p2 am mods
    intro ctv h' tk hx hsz
    have J : Inv X pins σ H { s with heap := h'.push (PySem.W.kla_obj "<lambda>" (X.env.qual ++ "<lambda>") params body scope (cloFrom X.env.cells scope.names []) ((X.mg "__name__").getD .none) c' ctv), toks := tk } := I.kept fun b o e => Heap.get?_push_of_some _ (hx b o e)
    exact go h'.objs.size c' _ ctv H _ J (fun _ _ z _ => z) tabs (Heap.get?_push_size _ rfl) (I.hok.fresh hsz) (off _ hsz) hc'
  | none =>
    apply PySem.W.kla_makeFunction (mg := X.mg) (c := c) (P := P) (ps := ps) (closure_ok free) I.ok.glob (I.mod.glob.keeps I.bk) code (TB.code.keeps I.bk) raw p2 am TB.gP mods
    intro c' ctv h' tk hx hge hlt rec tab
    obtain ⟨c2, oc, vs, t, e2, o1, o2, o3⟩ := rec
    cases e2
    have nC : H c' = none := I.hok.fresh hge
    have big : s.heap.objs.size ≤ h'.objs.size := by omega
    have J := inv_table (t' := tk) (q := X.env.qual ++ "<lambda>") (more := #[rawInt pos.line, rawInt pos.col, .ref c']) (h' := h'.push (PySem.W.kla_obj "<lambda>" (X.env.qual ++ "<lambda>") params body scope (cloFrom X.env.cells scope.names []) ((X.mg "__name__").getD .none) c' ctv)) I p1
      (fun b o hb e => Heap.get?_push_of_some _ (hx b o hb e)) (Heap.get?_push_of_some _ tab) hge ⟨oc, vs, t, Heap.get?_push_of_some _ o1, o2, o3⟩
    have old : ∀ b o, H b = some o → b ≠ P → upd (upd H P (.tbl (ps ++ #[rawInt pos.line, rawInt pos.col, .ref c']))) c' (CodeO c' (X.env.qual ++ "<lambda>")) b = some o := fun b o z n => by
      rw [upd_ne (ne_of_none z nC), upd_ne n]; exact z
    have lst : (ps ++ #[rawInt pos.line, rawInt pos.col, .ref c']).toList = ps.toList ++ [rawInt pos.line, rawInt pos.col, .ref c'] := by simp
    have nP : P ≠ c' := ne_of_none p1 nC
    have codeNe : ∀ {d : Addr} {q : Str}, H d = some (CodeO d q) → d ≠ P := fun z y => by rw [y, p1] at z; unfold CodeO at z; cases z
    refine go h'.objs.size c' _ ctv _ _ J old (fun p hp => ?_) (Heap.get?_push_size _ rfl) ?_ (off _ big) upd_same
    · by_cases hb : p.1 = P
      · rw [one p hp hb, hb]
        refine ⟨_, by rw [upd_ne nP, upd_same], by rw [lst]; exact PySem.TriplesOk_snoc _ _ _ _ p2, fun p' cv hcv => ?_⟩
        rw [lst] at hcv
        rcases among_app _ p2 hcv with z | z
        · obtain ⟨c0, e1, e2⟩ := p3 p' cv z
          exact ⟨c0, e1, old _ _ e2 (codeNe e2)⟩
        · exact ⟨c', z, upd_same⟩
      · obtain ⟨ps', a1, a2, a3⟩ := tabs p hp
        refine ⟨ps', old _ _ a1 hb, a2, fun p' cv hcv => ?_⟩
        obtain ⟨c0, e1, e2⟩ := a3 p' cv hcv
        exact ⟨c0, e1, old _ _ e2 (codeNe e2)⟩
    · have n2 : h'.objs.size ≠ P := Nat.ne_of_gt (Nat.lt_of_lt_of_le (Heap.lt_size raw) big)
      rw [upd_ne (Nat.ne_of_gt hlt), upd_ne n2]
      exact I.hok.fresh big
end
theorem run_x {P : Program} {w : World} {K : PySem.W.Frag} {mg : Str → Option Value} {base : Heap} {x qual : Str} {params : Arguments} {body : List Stmt} {scope : Scope} {dvs : List V} {kws : List (Str × V)} {fa f : Addr} {fd : FuncData} {N : List Str} {a : Str} {k : Nat} {A : Around} {outer : List Env} {s : Shared} {H : Hp} {Q : VK} {E : XK}
    (F : FunD K x qual params body scope dvs kws fa fd) (S : FnScope N [a] scope) (room : Room (k + 1) A) (ev : Env0 P w K mg base A outer s H) (binds : BindsTo s fd ⟨[.ref f], []⟩ ([a].zip [.ref f]))
    (hbody : ∀ cdv : Value, Room k (A.deeper (envOfC qual scope s.heap.objs.size fa cdv)) → ∃ t, PSs (cxOf (L2N.CX P w) P w K mg base N qual scope fa cdv A outer s H E) body t ∧ t ⟨fun _ H' => Q .non H', Q, fun _ _ => False, fun _ _ => False⟩ (L2.start N [.ref f]) H) :
    codeAny (model P w) A (.call (.ref fa) ⟨[.ref f], []⟩) (CR (L2N.CX P w) outer P w H s Q E) s := by
  obtain ⟨oc, od, dV, kV, doc, pm, an, cdv, ct, osl, rfl, lk, hcd, _, _⟩ := F.ex
  have kin : K.In s.heap := ev.mod.kin.keeps fun b o q => (ev.bs b o q).1
  refine codeAny_call_function room.depth (kin _ _ lk) rfl S.co S.gen rfl (PySem.W.codeRec_of kin hcd) (binds _ _ _ _ ?_)
  refine wpAny_newFunctionEnv_cells S.kind (fun ⟨n, v⟩ hy => (S.par n (List.of_mem_zip hy).1).imp id fun q => ⟨q, PySem.W.cellsFrom_some _ _ _ (.inl q)⟩) fun env he s1 ic => ?_
  subst he
  refine ⟨(ev.mod.nolimit.keeps fun b o q => (ev.bs b o q).1).keeps ic.toInCall.keep, codeAny_func ?_⟩
  obtain ⟨t, ht, hq⟩ := hbody cdv (room.deeper _)
  have J := inv_start (CX := L2N.CX P w) (E := E) (vs := [.ref f]) S room.hd ev rfl (.cons (show L2.RelV (.ref f) (.ref f) from rfl) .nil) ic
  refine wpAny_mono (ht.run [] s1 (L2.start N [.ref f]) H _ J hq) (fun fl s' z => ?_) fun _ _ z => z
  cases fl with
  | ret u => obtain ⟨v, σ', H', J, rv, q⟩ := z; exact ⟨v, H', J.os, J.bare, J.base, J.hok, rv, q⟩
  | next => obtain ⟨σ', H', J, q⟩ := z; exact ⟨.non, H', J.os, J.bare, J.base, J.hok, rfl, q⟩
  | brk => obtain ⟨_, _, _, q⟩ := z; exact q.elim
  | cont => obtain ⟨_, _, _, q⟩ := z; exact q.elim
end Fw
namespace Fw
open L2 PyProof.Rows PySem PySem.Spec LamX
def hideS : Sl → Sl
  | .val d => .val d
  | _ => .emp
def hideE (e : Ev) : Ev := e.map hideS
theorem hide_flat (e : Ev) : flatE (hideE e) = true := by
  unfold flatE hideE
  rw [List.all_eq_true]
  intro s hs
  obtain ⟨t, _, rfl⟩ := List.mem_map.mp hs
  cases t <;> rfl
theorem hide_at {e : Ev} {i : Nat} {d : D} (h : (hideE e)[i]? = some (.val d)) : e[i]? = some (.val d) := by
  unfold hideE at h
  rw [List.getElem?_map] at h
  cases q : e[i]? with
  | none => rw [q] at h; cases h
  | some t =>
    rw [q] at h
    have h := Option.some.inj h
    cases t with
    | val d' => cases h; rfl
    | emp => cases h
    | box _ => cases h
    | pbox _ => cases h
def outL : Rs Fl → Ev → Rs D
  | .ok (.rt d) _, e => if noM d = true then .ok d e else .bad
  | .ok (.rb ds) _, e => if noML ds = true then .ok (.lst ds) e else .bad
  | .ok .nx _, e => .ok .non e
  | .exc c d _, e => if noM d = true then .exc c d e else .bad
  | _, _ => .bad
theorem outL_exc {c : Nat} {d : D} {e1 e : Ev} : outL (.exc c d e1) e = if noM d = true then .exc c d e else .bad := rfl
theorem outL_rt {d : D} {e1 e : Ev} : outL (.ok (.rt d) e1) e = if noM d = true then .ok d e else .bad := rfl
theorem outL_rb {ds : List D} {e1 e : Ev} : outL (.ok (.rb ds) e1) e = if noML ds = true then .ok (.lst ds) e else .bad := rfl
def mLam (nl : Nat) (mx : Rs D → M Fl) (mbody : M D) : M D := fun e => outL (mx (mbody (hideE e)) (.val .mrk :: List.replicate (nl - 1) .emp)) e
section
variable {g : GC} {X : Cx} {W : WK}
theorem fr_x {L : Lam} {fr : Fx} {A : Addr → Prop} {H : Hp} {σ : Sv} {e : Ev} {Ng : List Str} {nl : Nat} (F : FR g fr A H σ e) (cp : Cap g A H L) (hN : Ng.length = nl) (h1 : 1 ≤ nl) : FR (g.wl L) (fxL A H) A H (L2.start Ng [.ref L.f]) (.val .mrk :: List.replicate (nl - 1) .emp) where
  len := by unfold L2.start; simp; omega
  sl := fun i s o z1 z2 => by
    cases i with
    | zero =>
      cases z1
      have z2 : (some (some (V.ref L.f)) : Option (Option V)) = some o := z2
      cases z2
      exact ⟨rfl, _, rfl, L.f, rfl, rfl⟩
    | succ i =>
      rw [List.getElem?_cons_succ, List.getElem?_replicate] at z1
      split at z1
      · cases z1; exact rfl
      · cases z1
  inj := fun i j s t p z1 _ b1 _ _ _ => by
    cases i with
    | zero => cases z1; cases b1
    | succ i =>
      rw [List.getElem?_cons_succ, List.getElem?_replicate] at z1
      split at z1
      · cases z1; cases b1
      · cases z1
  nt := fun _ _ _ _ _ _ => rfl
  tp := fun _ _ z => nomatch z
  ob := fun _ z => z
  ob0 := fun a z => let ⟨o, q, _⟩ := F.al a z; ⟨o, q⟩
  pb := fun _ _ z => nomatch z
  al := F.al
  keep := fun _ _ z _ _ => z
  tb := fun p hp => ⟨(F.tb p hp).1, fun _ z => (nomatch z), (F.tb p hp).2.2⟩
  iv := ⟨F.iv, cp⟩
theorem c_lamcall {x a : Str} {gx c P : Addr} {k nl : Nat} {pg : Arguments} {bg : List Stmt} {sg : Scope} {fd : FuncData} {Ng : List Str} {params : Arguments} {body : Expr} {scope : Scope} {mbody : M D} {mx : Rs D → M Fl} {p lpos pos : Pos} (ho : g.own = none)
    (hgl : Gl X x) (hm : X.mg x = some (.ref gx)) (hk : PySem.W.keepIn X.K (.ref gx) = true) (F : FunD X.K x x pg bg sg [] [] gx fd) (hb : Binds X.K fd [a] []) (Sg : FnScope Ng [a] sg) (hN0 : Ng[0]? = some a) (hva : Vis sg a) (hNl : Ng.length = nl) (hn1 : 1 ≤ nl)
    (mem : (P, X.env.qual ++ "<lambda>") ∈ g.T) (one : ∀ p ∈ g.T, p.1 = P → p.2 = X.env.qual ++ "<lambda>") (TB : TabB X.base X.mg c P) (code : X.env.code = .ref c) (hr : Room (k + 2) X.A) (gd : X.A.guards = some []) (tk : L2N.Takes X W)
    (LS : LamS X.env.scope scope) (plain : defaultsOf params X.env = ([], [])) (nob : ∀ (q : Str) (cl : List (Str × Addr)) (pm cv ctv : Value), bindArgs (PySem.W.kla_fn "<lambda>" q params body scope cl pm cv ctv) ⟨[], []⟩ = pure [])
    (hbody : ∀ (E : XK) (A : Around) (outer : List Env) (s : Shared) (H : Hp) (f c' : Addr), Room k (A.deeper (lamEnv X scope s.heap.objs.size f c')) → A.guards = some [] → CE g (lamN X A outer s H E scope f c') (fun cls d _ H => E cls d H) body mbody)
    (hx : ∀ (cdv : Value) (A : Around) (outer : List Env) (s : Shared) (H : Hp) (E : XK) (L : Lam), Room (k + 1) (A.deeper (envOfC x sg s.heap.objs.size gx cdv)) → A.guards = some [] →
      (∀ (W' : WK) (pn : List (Addr × Obj)) (xe : Value → Shared → Prop) (p1 p2 : Pos), L2N.Takes ((cxOf (L2N.CX X.prog X.w) X.prog X.w X.K X.mg X.base Ng x sg gx cdv A outer s H E).tr pn xe) W' → CE (g.wl L) ((cxOf (L2N.CX X.prog X.w) X.prog X.w X.K X.mg X.base Ng x sg gx cdv A outer s H E).tr pn xe) W' (.Call (.Name a p1) [] [] p2) (mAct 0 (mbody L.e))) →
      CB (g.wl L) (cxOf (L2N.CX X.prog X.w) X.prog X.w X.K X.mg X.base Ng x sg gx cdv A outer s H E) (fun cls d _ H => E cls d H) bg (mx (mbody L.e)))
    (hdb : (x == ("__debug__" : Str)) = false := by decide) (nda : (a == ("__debug__" : Str)) = false := by decide) (nca : (a == ("__classdict__" : Str)) = false := by decide) :
    CE g X W (.Call (.Name x p) [.Lambda params body scope lpos] [] pos) (mLam nl mx mbody) := by
  refine ⟨fun pins s σ H Q I ⟨fr, A, e, F0, h⟩ => ?_⟩
  apply wpAny_Call_Name_kw (ld_glob I hgl hm ?_ hdb)
  apply PySem.W.callWith_K (h₀ := X.base) I.ok.mod.kin hk ?_ (by rfl) (by rfl)
  show wpAny _ _ (spliced ((false, eval (.Lambda params body scope lpos) X.env) :: backTo pos (starEach [] X.env))) _ _ s
  refine Calls.spliced_cons (lam_makeG I TB code mem one (fun p hp => (F0.tb p hp).2.2) plain (LS.has I.ok) fun f c' pm ctv H1 s' I1 eN T1 hf hfn hfr hco => ?_)
  refine Calls.spliced_nil ⟨I1.kIn, ?_⟩
  obtain ⟨F1, S1⟩ := F0.sameT (fun b o z n => eN b o z fun y => n _ (y ▸ mem)) T1
  have h := h.from S1
  have cp : Cap g A H1 ⟨f, c', X.env.qual ++ "<lambda>", σ, hideE e⟩ := by
    refine ⟨hco, fun i d z => ?_⟩
    obtain ⟨o, z1, _, v, z2, r⟩ := F1.at (hide_at z)
    exact ⟨v, by rw [z1, z2], r⟩
  have len : σ.length = (hideE e).length := by unfold hideE; rw [List.length_map]; exact F1.len
  have rc : codeAny (model X.prog X.w) X.A (.call (.ref gx) ⟨[.ref f], []⟩) (CR (L2N.CX X.prog X.w) X.stack X.prog X.w H1 s' Q (WE W σ)) s' := by
    have b := hb s' [.ref f] I1.kIn rfl
    refine run_x F Sg hr I1.env0 b fun cdv hr' => ?_
    refine ⟨_, hx cdv X.A X.stack s' H1 (WE W σ) ⟨f, c', X.env.qual ++ "<lambda>", σ, hideE e⟩ hr' gd (fun W' pn xe p1 p2 tk' => ?_), fxL A H1, A, _, fr_x F1 cp hNl hn1, ?_⟩
    · exact PE.imp (pe_actG (i := 0) (t := fun E => rdE g (fun cls d _ H => E cls d H) mbody) I1 LS hf hfn hfr (nob _ _ _ _ _) tk' hr' gd (fun E A outer s H hr2 gd2 => hbody E A outer s H f c' hr2 gd2) hN0 hva nda nca) fun σZ HZ QZ q => act_of (L := ⟨f, c', X.env.qual ++ "<lambda>", σ, hideE e⟩) ho len (hide_flat e) q
    · unfold mLam at h
      have back : ∀ {A' : Addr → Prop} {H' : Hp} {σ' : Sv} {e' : Ev}, FR (g.wl ⟨f, c', X.env.qual ++ "<lambda>", σ, hideE e⟩) (fxL A H1) A' H' σ' e' → FR g fr A H' σ e ∧ Step A H1 H' := fun F' =>
        F1.sameT (fun a o z n2 => F'.keep a o z (fun _ y => nomatch y) n2) fun p hp => (F'.tb p hp).2.2
      show FinS (g.wl ⟨f, c', X.env.qual ++ "<lambda>", σ, hideE e⟩) _ (fxL A H1) A H1 _ (mx (mbody (hideE e)) (.val .mrk :: List.replicate (nl - 1) .emp))
      generalize mx (mbody (hideE e)) (.val .mrk :: List.replicate (nl - 1) .emp) = res at h ⊢
      cases res with
      | bad => exact h.elim
      | exc ec d e1 =>
        rw [outL_exc] at h
        by_cases z : noM d = true
        · rw [if_pos z] at h
          intro A' σ' cls dd H' F' m xx
          obtain ⟨F2, S2⟩ := back F'
          exact h cls dd H' F2 S2 (ExR.less F'.al F'.ob (ExR.outL z xx))
        · rw [if_neg z] at h; exact h.elim
      | ok fl e1 =>
        cases fl with
        | bk => exact h.elim
        | ct => exact h.elim
        | nx =>
          intro A' σ' H' F' m
          obtain ⟨F2, S2⟩ := back F'
          exact h .non H' F2 (S1.trans S2) rfl
        | rt d =>
          rw [outL_rt] at h
          by_cases z : noM d = true
          · rw [if_pos z] at h
            intro A' σ' H' v F' m r
            obtain ⟨F2, S2⟩ := back F'
            exact h v H' F2 (S1.trans S2) (R.less F'.al F'.ob (R.outL d z r))
          · rw [if_neg z] at h; exact h.elim
        | rb ds =>
          rw [outL_rb] at h
          by_cases z : noML ds = true
          · rw [if_pos z] at h
            intro A' σ' H' p xs F' m hA h0 nb hp r
            obtain ⟨F2, S2⟩ := back F'
            exact h (.ref p) H' F2 (S1.trans S2) ⟨p, xs, rfl, hp, F1.nA h0, RL.less F'.al F'.ob (RL.outL ds z r)⟩
          · rw [if_neg z] at h; exact h.elim
  refine wpAny_call (codeAny_mono rc fun r s2 hq => ?_)
  cases r with
  | error e => exact L2N.passAt tk σ pins H1 s' e s2 I1 hq
  | ok fl => cases fl with
    | ret u => exact I1.after hq
    | next => exact hq.elim
    | brk => exact hq.elim
    | cont => exact hq.elim
end
end Fw
namespace Fw
open L2 PyProof.Rows PySem PySem.Spec
abbrev Sut := Addr → Value → Option Addr → TS
structure HdName (X : Cx) (nm : Option Str) (io : Option Nat) : Prop where
  ok : (nm = none ∧ io = none) ∨ ∃ n i, nm = some n ∧ io = some i ∧ X.N[i]? = some n ∧ X.env.kindOf n = some .local
inductive HdsA (X : Cx) : List ExceptHandler → List (Value × Option Nat × Sut) → Prop
  | nil : HdsA X [] []
  | cons {x : Str} {nm : Option Str} {io : Option Nat} {c : Value} {ts : Sut} {b₀ : Stmt} {suite : List Stmt} {np pos' : Pos} {hds : List ExceptHandler} {l : List (Value × Option Nat × Sut)} (hc : Names X x c) (hn : HdName X nm io)
      (hsu : ∀ (a : Addr) (oe : Obj) (cls : Value) (d : Option Addr) (pn : List (Addr × Obj)), L2N.Zn cls d oe → (∃ vs, oe.data = .fields vs) → PSs (X.suite a ((a, oe) :: pn)) (b₀ :: suite) (ts a cls d)) (r : HdsA X hds l) :
      HdsA X (.ExceptHandler (some (.Name x np)) nm (b₀ :: suite) pos' :: hds) ((c, io, ts) :: l)
section
variable {X : Cx} {body : List Stmt} {h0 : ExceptHandler} {hds : List ExceptHandler} {l : List (Value × Option Nat × Sut)} {pos : Pos} {tb : WX → TS} {Wout : WX}
end
end Fw
namespace Fw
open L2 PyProof.Rows PySem PySem.Spec
structure HdM where
  cv : Value
  mt : Nat → Option Bool
  io : Option Nat
  ms : M Fl
def endN : Rs Fl → Rs Fl
  | .exc _ _ _ => .bad
  | r => r
def hdGo (hf : Nat → Bool) (c : Nat) (d : D) (e1 : Ev) : List HdM → Rs Fl
  | [] => .exc c d e1
  | m :: l => match m.mt c with
    | none => .bad
    | some false => hdGo hf c d e1 l
    | some true => (match m.io with
      | none => endN (m.ms e1)
      | some i => (match e1[i]? with
        | some .emp => endX i (m.ms (e1.set i (.val (.exn c (if hf c = true then [d] else [])))))
        | some (.val _) => endX i (m.ms (e1.set i (.val (.exn c (if hf c = true then [d] else [])))))
        | _ => .bad))
def mTryHs (hf : Nat → Bool) (l : List HdM) (b : M Fl) : M Fl := fun e => match b e with
  | .exc c d e1 => hdGo hf c d e1 l
  | r => r
def GC.sel (g : GC) (io : Option Nat) (x : Addr × Nat × Option Addr) : GC := match io with
  | some _ => g.wx x
  | none => g
inductive HdsC (g : GC) (X : Cx) (ok : Nat → Bool) : List ExceptHandler → List HdM → Prop
  | nil : HdsC g X ok [] []
  | cons {x : Str} {nm : Option Str} {m : HdM} {b₀ : Stmt} {suite : List Stmt} {np pos' : Pos} {hds : List ExceptHandler} {l : List HdM} (hc : Names X x m.cv) (ht : ∀ c b, m.mt c = some b → PySem.W.exmOne X.K (.ref (g.ca c)) m.cv = some b) (hk : ∀ c, m.mt c = some true → ok c = true) (hn : HdName X nm m.io)
      (hsu : ∀ (a : Addr) (oe : Obj) (c : Nat) (d : Option Addr) (pn : List (Addr × Obj)), L2N.Zn (.ref (g.ca c)) d oe → (∃ vs, oe.data = .fields vs) → CB (g.sel m.io (a, c, d)) (X.suite a ((a, oe) :: pn)) W0 (b₀ :: suite) m.ms) (r : HdsC g X ok hds l) :
      HdsC g X ok (.ExceptHandler (some (.Name x np)) nm (b₀ :: suite) pos' :: hds) (m :: l)
section
variable {g : GC} {X : Cx} {W : WK} {ok : Nat → Bool}
theorem exn_r1 {A : Addr → Prop} {H : Hp} {c : Nat} {d : D} {a : Addr} {dd : Option Addr} {cls : Value} (hx : g.ex = none) (hf : Nat → Bool) (hc : (hf c = true ∧ ∃ x, g.cf c = [x]) ∨ (hf c = false ∧ g.cf c = [])) (x : ExR g A H c d cls dd) : R (g.wx (a, c, dd)) A H (.exn c (if hf c = true then [d] else [])) (.ref a) := by
  obtain ⟨_, x⟩ := x
  refine ⟨a, dd, rfl, rfl, ?_⟩
  rcases hc with ⟨h1, n, h2⟩ | ⟨h1, h2⟩
  · rw [h2] at x
    obtain ⟨p, v, rfl, h3, r⟩ := x
    rw [if_pos h1]
    exact .inr ⟨p, [v], rfl, by rw [show (g.wx (a, c, some p)).cf c = [n] from h2]; exact h3, by rw [show (g.wx (a, c, some p)).cf c = [n] from h2]; rfl, v, [], rfl, R.inX hx d r, rfl⟩
  · rw [h2] at x
    rw [if_neg (by rw [h1]; decide)]
    exact .inl ⟨x, rfl, h2⟩
def hdT (g : GC) (m : HdM) : Value × Option Nat × Sut := (m.cv, m.io, fun a cls d D σ H => ∃ c, cls = .ref (g.ca c) ∧ rdS (g.sel m.io (a, c, d)) W0 m.ms D σ H)
theorem HdsC.a {hds : List ExceptHandler} {l : List HdM} (h : HdsC g X ok hds l) : HdsA X hds (l.map (hdT g)) := by
  induction h with
  | nil => exact .nil
  | cons hc ht hk hn hsu r ih => exact .cons hc hn (fun a oe cls d pn hz hd => ⟨fun pins s σ H D I ⟨c, ec, q⟩ => by subst ec; exact (hsu a oe c d pn hz hd).run pins s σ H D I q⟩) ih
end
end Fw
namespace Fw
open L2 PyProof.Rows PySem PySem.Spec
end Fw
namespace Fw
open L2 PyProof.Rows PySem PySem.Spec
section
variable {P : Program} {w : World} {K : PySem.W.Frag} {mg mb : Str → Option Value} {k : Nat} {fa a : Addr} {fd : FuncData} {x : Str} {sp : Sp} {s1 : Shared} {vs : List Value} {ns : List Int} {cs : List (Addr × Addr)}
structure JustT (P : Program) (w : World) (K : PySem.W.Frag) (H : Hp) (a : Addr) (cs : List (Addr × Addr)) (h : Heap) : Prop where
  one : ∀ b u, H b = some u → (b = a ∧ (∃ o xs, u = .frz o (.lst xs)) ∧ K.lookup a = none) ∨ (b ∈ cs.map (·.2) ∧ u = .tbl #[])
  tb : ∀ p ∈ cs, H p.2 = some (.tbl #[])
  ok : HOk P w H h
theorem end_coreT {H : Hp} (J : JustT P w K H a cs s1.heap) (ha : s1.heap.get? a = some { cls := .type "list", data := .seq vs.toArray })
    (hT : ∀ p ∈ cs, s1.heap.get? p.2 = some { cls := .none, data := .fields #[] }) (nT : ∀ p ∈ cs, K.lookup p.2 = none) (C : ∀ p ∈ cs, PySem.W.CodeHd s1.heap p.1 p.2)
    (hbm : ∃ (bm : Addr) (ob : Obj), mg "__builtins__" = some (.ref bm) ∧ bm ≠ builtinsNs ∧ s1.heap.get? bm = some ob ∧ ob.cls = .type "module" ∧ ob.dict = some builtinsNs ∧ ob.data = .plain)
    (gm : s1.heap.Ns mainGlobals mg) (gb : s1.heap.Ns builtinsNs mb) (bb : ∀ y : Str, y ≠ "__name__" → mb y = bootBuiltins y) (nl : s1.heap.NoLimit) (ng : s1.gens = #[]) (KX : K.In s1.heap) (rm : Room k callerA)
    (F : ∀ base : Heap, K.In base → base.Ns mainGlobals mg → (∀ p ∈ cs, LamX.TabB base mg p.1 p.2) → FnG P w K mg base k fa fd [x] sp) (bi : ∀ (s : Shared) (u : Value), BindsTo s fd ⟨[u], []⟩ [(x, u)])
    (prom : sp [.ref a] H (fun v _ => v = .bl true) fun _ _ _ => False) : codeAny (model P w) callerA (.call (.ref fa) ⟨[.ref a], []⟩) (EndQ s1) s1 := by
  have isT : ∀ b : Addr, b ∈ cs.map (·.2) → s1.heap.get? b = some { cls := .none, data := .fields #[] } := fun b hb => by
    obtain ⟨p, hp, e⟩ := List.mem_map.mp hb
    rw [← e]
    exact hT p hp
  have noD : ∀ {b : Addr} {o : Obj}, s1.heap.get? b = some o → (∀ vs n, o.data ≠ .seq vs n) → o.data ≠ .fields #[] → H b = none := fun {b o} e h1 h2 => by
    cases q : H b with
    | none => rfl
    | some u =>
      rcases J.one b u q with ⟨e', _⟩ | ⟨e', _⟩
      · rw [e', ha] at e
        cases e
        exact (h1 _ _ rfl).elim
      · rw [isT b e'] at e
        cases e
        exact (h2 rfl).elim
  have free : ∀ {b o es ep}, s1.heap.get? b = some o → o.data = .dict es ep → H b = none := fun {b o es ep} e d => noD e (fun vs n z => by rw [d] at z; cases z) fun z => by rw [d] at z; cases z
  have down : ∀ {b : Addr} {m : Str → Option Value}, s1.heap.Ns b m → (hidT s1.heap H).Ns b m := by
    rintro b m ⟨o, es, ep, e, d, r⟩
    exact ⟨o, es, ep, hidT_get e (free e d), d, r⟩
  have kin : K.In (hidT s1.heap H) := by
    intro b o e
    refine hidT_get (KX b o e) ?_
    cases z : H b with
    | none => rfl
    | some u =>
      rcases J.one b u z with ⟨rfl, _, no⟩ | ⟨e', _⟩
      · rw [no] at e; cases e
      · obtain ⟨p, hp, rfl⟩ := List.mem_map.mp e'
        rw [nT p hp] at e; cases e
  obtain ⟨mc, c1, c2⟩ := nl
  have md : Mod K mg (hidT s1.heap H) := ⟨kin, down gm, ⟨mb, down gb, bb⟩, mc, down c1, c2⟩
  have TB : ∀ p ∈ cs, LamX.TabB (hidT s1.heap H) mg p.1 p.2 := fun p hp => by
    have hTp := hT p hp
    refine ⟨?_, ?_, fun z => ?_⟩
    · obtain ⟨o, us, file, tf, flags, tg, inF, text, tt, e1, r1, r2, r3, r4, r5, r6, r7, r8, hne⟩ := C p hp
      refine ⟨o, us, file, tf, flags, tg, inF, text, tt, hidT_get e1 (noD e1 (fun vs n z => ?_) fun z => ?_), r1, r2, r3, r4, r5, r6, r7, r8, hne⟩
      · rw [r2] at z
        cases z
      · rw [r2] at z
        cases z
        simp at r3
    · obtain ⟨bm, ob, b1, b2, b3, b4, b5, b6⟩ := hbm
      have nG : bm ≠ mainGlobals := fun q => by
        obtain ⟨o, es, ep, e, hd, _⟩ := gm
        rw [q, e] at b3
        cases b3
        rw [hd] at b6
        cases b6
      have nP : bm ≠ p.2 := fun q => by
        rw [q, hTp] at b3
        cases b3
        cases b6
      refine ⟨bm, ob, b1, b2, nG, nP, hidT_get b3 (noD b3 (fun vs n z => ?_) fun z => ?_), b4, b5, b6⟩
      · rw [b6] at z
        cases z
      · rw [b6] at z
        cases z
    · obtain ⟨o, es, ep, e, hd, _⟩ := gm
      rw [z, hTp] at e
      cases e
      cases hd
  have ev : Env0 P w K mg (hidT s1.heap H) callerA [] s1 H := by
    refine ⟨rfl, md, fun b o e => of_hidT e, Nat.le_of_eq (hidT_size _ _), trivial, fun b hb => ?_, J.ok, .of_eq ng⟩
    have hb : b ∈ ([] : List Addr) := hb
    cases hb
  have go := (F _ kin (down gm) TB).run callerA [] s1 H ⟨[.ref a], []⟩ [.ref a] [.ref a] _ _ rm rfl ev (bi s1 (.ref a)) (.cons rfl .nil) prom
  refine codeAny_mono go fun r s2 h => ?_
  cases r with
  | error e =>
    obtain ⟨_, _, _, _, _, _, _, _, _, _, _, _, h⟩ := h
    exact h.elim
  | ok fl => cases fl with
    | ret u =>
      obtain ⟨v, H2, os, bare, un, ok2, rv, q⟩ := h
      cases (show v = .bl true from q)
      cases (show u = Value.bool true from rv)
      have key : ∀ b o, b ∉ cs.map (·.2) → s1.heap.get? b = some o → s2.heap.get? b = some o := fun b o nb e => by
        cases z : H b with
        | none =>
          refine un.keep b o e z (fun y => ?_) (by simp)
          have y : b ∈ ([] : List Addr) := y
          cases y
        | some u =>
          rcases J.one b u z with ⟨_, ⟨ob, xs, rfl⟩, _⟩ | ⟨y, _⟩
          · obtain ⟨e1, _⟩ := J.ok b _ z
            obtain ⟨e2, _⟩ := ok2 b _ (un.frzs b ob _ z)
            cases e.symm.trans e1
            exact e2
          · exact absurd y nb
      have grown : ∀ p ∈ cs, ∃ more : Array Value, s2.heap.get? p.2 = some { cls := .none, data := .fields more } := fun p hp => by
        obtain ⟨more, z⟩ := un.tbls p.2 #[] (J.tb p hp)
        exact ⟨_, ok2 p.2 _ z⟩
      refine ⟨rfl, ⟨fun b o e => ?_, fun b o e => ?_⟩, os, bare⟩
      · by_cases hb : b ∈ cs.map (·.2)
        · obtain ⟨p, hp, ep⟩ := List.mem_map.mp hb
          obtain ⟨more, hm⟩ := grown p hp
          rw [← ep] at e ⊢
          rw [hT p hp] at e
          cases e
          exact .inr (.inl ⟨((C p hp).tab (hT p hp)).isCodeTable, rfl, #[], more, rfl, by rw [Array.empty_append]; exact hm⟩)
        · exact .inl (key b o hb e)
      · by_cases hb : b ∈ cs.map (·.2)
        · obtain ⟨p, hp, ep⟩ := List.mem_map.mp hb
          obtain ⟨more, hm⟩ := grown p hp
          rw [← ep]
          exact ⟨_, hm⟩
        · exact ⟨o, key b o hb e⟩
    | next => exact h.elim
    | brk => exact h.elim
    | cont => exact h.elim
theorem end_callT (KX : K.In s1.heap) (hT : ∀ p ∈ cs, s1.heap.get? p.2 = some { cls := .none, data := .fields #[] }) (nT : ∀ p ∈ cs, K.lookup p.2 = none) (C : ∀ p ∈ cs, PySem.W.CodeHd s1.heap p.1 p.2)
    (hbm : ∃ (bm : Addr) (ob : Obj), mg "__builtins__" = some (.ref bm) ∧ bm ≠ builtinsNs ∧ s1.heap.get? bm = some ob ∧ ob.cls = .type "module" ∧ ob.dict = some builtinsNs ∧ ob.data = .plain)
    (gm : s1.heap.Ns mainGlobals mg) (gb : s1.heap.Ns builtinsNs mb) (bb : ∀ y : Str, y ≠ "__name__" → mb y = bootBuiltins y) (nl : s1.heap.NoLimit) (ng : s1.gens = #[])
    (ha : s1.heap.get? a = some { cls := .type "list", data := .seq vs.toArray }) (hi : IntsAre vs ns) (hl : ns.length ≤ sizeLine) (rm : Room k callerA)
    (F : ∀ base : Heap, K.In base → base.Ns mainGlobals mg → (∀ p ∈ cs, LamX.TabB base mg p.1 p.2) → FnG P w K mg base k fa fd [x] sp) (bi : ∀ (s : Shared) (u : Value), BindsTo s fd ⟨[u], []⟩ [(x, u)])
    (prom : ∀ H : Hp, (∀ p ∈ cs, H p.2 = some (.tbl #[])) → SqL K H a (ns.map V.int) → sp [.ref a] H (fun v _ => v = .bl true) fun _ _ _ => False) : codeAny (model P w) callerA (.call (.ref fa) ⟨[.ref a], []⟩) (EndQ s1) s1 := by
  have isT : ∀ b : Addr, b ∈ cs.map (·.2) → s1.heap.get? b = some { cls := .none, data := .fields #[] } := fun b hb => by
    obtain ⟨p, hp, e⟩ := List.mem_map.mp hb
    rw [← e]
    exact hT p hp
  have memT : ∀ p ∈ cs, p.2 ∈ cs.map (·.2) := fun p hp => List.mem_map.mpr ⟨p, hp, rfl⟩
  have aT : a ∉ cs.map (·.2) := fun z => by
    have q := isT a z
    rw [ha] at q
    have z' : Data.seq vs.toArray _ = Data.fields #[] := congrArg Obj.data (Option.some.inj q)
    cases z'
  cases hk : K.lookup a with
  | some o =>
    cases (KX a o hk).symm.trans ha
    have J : JustT P w K (fun b => if b ∈ cs.map (·.2) then some (.tbl #[]) else none) a cs s1.heap := by
      refine ⟨fun b u z => ?_, fun p hp => if_pos (memT p hp), fun b u z => ?_⟩
      · split at z
        · cases z; exact .inr ⟨by assumption, rfl⟩
        · cases z
      · split at z
        · cases z; exact isT b (by assumption)
        · cases z
    exact end_coreT J ha hT nT C hbm gm gb bb nl ng KX rm F bi (prom _ J.tb (.inr ⟨_, vs.toArray, _, hk, rfl, rfl, rfl, by rw [List.size_toArray, hi.length]; exact hl, by simpa using vals_ints hi⟩))
  | none =>
    have J : JustT P w K (fun b => if b = a then some (HO.frz { cls := .type "list", data := .seq vs.toArray } (.lst (ns.map V.int))) else if b ∈ cs.map (·.2) then some (.tbl #[]) else none) a cs s1.heap := by
      refine ⟨fun b u z => ?_, fun p hp => (if_neg (show ¬ p.2 = a from fun z => aT (z ▸ memT p hp))).trans (if_pos (memT p hp)), fun b u z => ?_⟩
      · split at z
        · cases z; exact .inl ⟨by assumption, ⟨_, _, rfl⟩, hk⟩
        · split at z
          · cases z; exact .inr ⟨by assumption, rfl⟩
          · cases z
      · split at z
        · cases z
          rename_i y
          rw [y]
          exact ⟨ha, by rw [List.length_map]; exact hl, vs, _, vals_ints hi, ha⟩
        · split at z
          · cases z; exact isT b (by assumption)
          · cases z
    exact end_coreT J ha hT nT C hbm gm gb bb nl ng KX rm F bi (prom _ J.tb (.inl (.inr ⟨{ cls := .type "list", data := .seq vs.toArray }, if_pos rfl⟩)))
end
theorem walk_gT {l : PySem.W.OpenLaw} {n k : Nat} {q : Program} {loose : List Str} {XP : (Str → Option Value) → Heap → Prop} {YP : World → Heap → Prop} {d : DefRec} {x : Str} (hn : l.most = some n) (hn2 : n ≤ sizeLine) (hdf : d.params.defaults = []) (rm : Room k callerA)
    (F : ∀ (w : World) (mg : Str → Option Value) (fa : Addr) (h : Heap), YP w h → h.Ns mainGlobals mg → mg d.name = some (.ref fa) → ∃ (K : PySem.W.Frag) (fd : FuncData) (sp : Sp) (cs : List (Addr × Addr)), K.In h ∧ (∀ (s : Shared) (u : Value), BindsTo s fd ⟨[u], []⟩ [(x, u)]) ∧
        ((∀ p ∈ cs, h.get? p.2 = some { cls := .none, data := .fields #[] }) ∧ (∀ p ∈ cs, K.lookup p.2 = none) ∧ ∀ p ∈ cs, PySem.W.CodeHd h p.1 p.2) ∧
        (∀ (H : Hp) (a : Addr) (ns : List Int), ns.length ≤ n → (∀ p ∈ cs, H p.2 = some (.tbl #[])) → SqL K H a (ns.map V.int) → sp [.ref a] H (fun v _ => v = .bl true) fun _ _ _ => False) ∧
        ∀ base : Heap, K.In base → base.Ns mainGlobals mg → (∀ p ∈ cs, LamX.TabB base mg p.1 p.2) → FnG l.prog w K mg base k fa fd [x] sp) :
    PySem.W.WalkO q loose XP YP l.row.toRowW d [] (fun f vs => PySem.call f vs) := by
  refine Att.attach_call hn hdf fun w s0 s1 mg mb fa o pm cd doc a vs ns G Y ho hd hcd hm hobj hi hlen hg => ?_
  obtain ⟨K, fd, sp, cs, KX, hb, ⟨hT, nT, C⟩, hsp, hF⟩ := F w mg fa _ Y G.T.g hm
  exact end_callT KX hT nT C G.T.bmain G.T.g G.T.b G.T.builtins G.T.nolimit hg hobj hi (Nat.le_trans hlen hn2) rm hF hb fun H h1 hS => hsp H a ns hlen h1 hS
theorem tabS_empty {H : Hp} {P : Addr} {q : Str} (h : H P = some (.tbl #[])) : LamX.TabS H P q := ⟨#[], h, by first | exact trivial | (intro x hx; cases hx) | (simp [TriplesOk]), fun pos cv z => by first | cases z | (simp [codeAmong] at z)⟩
theorem one_of {l : List (Addr × Str)} (nd : (l.map (·.1)).Nodup) {P : Addr} {q : Str} (h : (P, q) ∈ l) : ∀ p ∈ l, p.1 = P → p.2 = q := by
  induction l with
  | nil => cases h
  | cons a r ih =>
    rw [List.map_cons, List.nodup_cons] at nd
    intro p hp e
    cases h with
    | head => cases hp with
      | head => rfl
      | tail _ z => exact absurd (List.mem_map.mpr ⟨p, z, e⟩) nd.1
    | tail _ y => cases hp with
      | head => exact absurd (List.mem_map.mpr ⟨_, y, e.symm⟩) nd.1
      | tail _ z => exact ih nd.2 y p z e
end Fw
namespace Fw
open L2 PyProof.Rows PySem PySem.Spec LamX
theorem cA_of {K : PySem.W.Frag} {x qual : Str} {params : Arguments} {body : List Stmt} {scope : Scope} {dvs : List V} {kws : List (Str × V)} {f : Addr} {fd : FuncData} (F : FunD K x qual params body scope dvs kws f fd) : fd.code = .ref (cA K f) := by
  obtain ⟨oc, od, dV, kV, doc, pm, an, cdv, ct, osl, rfl, lk, hcd, _, _⟩ := F.ex
  obtain ⟨c, rfl⟩ := He.codeIn_ref hcd
  show Value.ref c = .ref (cA K f)
  unfold cA
  rw [lk] <;> rfl
section
variable {g : GC}
theorem FnG.ofC {P : Program} {w : World} {K : PySem.W.Frag} {mg : Str → Option Value} {base : Heap} {x qual : Str} {params : Arguments} {body : List Stmt} {scope : Scope} {dvs : List V} {kws : List (Str × V)} {f : Addr} {fd : FuncData} {N ps : List Str} {k : Nat} {sp : Sp}
    (F : FunD K x qual params body scope dvs kws f fd) (S : FnScope N ps scope) (len : ∀ vs H Q E, sp vs H Q E → vs.length = ps.length)
    (hbody : ∀ (cdv : Value) (A : Around) (outer : List Env) (s : Shared) (H : Hp) (vs : List V) (Q : VK) (E : XK), Room k (A.deeper (envOfC qual scope s.heap.objs.size f cdv)) → A.guards = some [] → cdv = .ref (cA K f) → sp vs H Q E →
      ∃ t, PSs (cxOf (L2N.CX P w) P w K mg base N qual scope f cdv A outer s H E) body t ∧ t ⟨fun _ H' => Q .non H', Q, fun _ _ => False, fun _ _ => False⟩ (L2.start N vs) H) : FnG P w K mg base (k + 1) f fd ps sp := by
  have hc := cA_of F
  obtain ⟨oc, od, dV, kV, doc, pm, an, cdv, ct, osl, rfl, lk, hcd, _, _⟩ := F.ex
  have hc : cdv = .ref (cA K f) := hc
  refine ⟨len, fun A outer s H args us vs Q E room gd ev binds rel hsp => ?_⟩
  have kin : K.In s.heap := ev.mod.kin.keeps fun b o q => (ev.bs b o q).1
  refine codeAny_call_function room.depth (kin _ _ lk) rfl S.co S.gen rfl (PySem.W.codeRec_of kin hcd) (binds _ _ _ _ ?_)
  refine wpAny_newFunctionEnv_cells S.kind (fun ⟨n, v⟩ hy => ?_) fun env he s1 ic => ?_
  · exact (S.par n (List.of_mem_zip hy).1).imp id fun q => ⟨q, PySem.W.cellsFrom_some _ _ _ (.inl q)⟩
  · subst he
    refine ⟨(ev.mod.nolimit.keeps fun b o q => (ev.bs b o q).1).keeps ic.toInCall.keep, codeAny_func ?_⟩
    obtain ⟨t, ht, hq⟩ := hbody cdv A outer s H vs Q E (room.deeper _) gd hc hsp
    refine wpAny_mono (ht.run [] s1 (L2.start N vs) H _ (inv_start S room.hd ev (len _ _ _ _ hsp) rel ic) hq) (fun fl s' z => ?_) fun _ _ z => z
    cases fl with
    | ret u => obtain ⟨v, σ', H', J, rv, q⟩ := z; exact ⟨v, H', J.os, J.bare, J.base, J.hok, rv, q⟩
    | next => obtain ⟨σ', H', J, q⟩ := z; exact ⟨.non, H', J.os, J.bare, J.base, J.hok, rfl, q⟩
    | brk => obtain ⟨_, _, _, q⟩ := z; exact q.elim
    | cont => obtain ⟨_, _, _, q⟩ := z; exact q.elim
theorem FnG.byC {P : Program} {w : World} {mg : Str → Option Value} {base : Heap} {x qual : Str} {params : Arguments} {body : List Stmt} {scope : Scope} {dvs : List V} {kws : List (Str × V)} {f : Addr} {fd : FuncData} {N ps : List Str} {k np nl : Nat} {m : M Fl}
    (F : FunD g.K x qual params body scope dvs kws f fd) (S : FnScope N ps scope) (hp : ps.length = np) (hN : N.length = nl) (hle : np ≤ nl)
    (hbody : ∀ (cdv : Value) (A : Around) (outer : List Env) (s : Shared) (H : Hp) (E : XK), Room k (A.deeper (envOfC qual scope s.heap.objs.size f cdv)) → A.guards = some [] → cdv = .ref (cA g.K f) →
      CB g (cxOf (L2N.CX P w) P w g.K mg base N qual scope f cdv A outer s H E) (fun cls d _ H => E cls d H) body m) : FnG P w g.K mg base (k + 1) f fd ps (spF g np (mkFn np nl m)) := by
  refine FnG.ofC F S (fun vs H Q E h => h.1.trans hp.symm) fun cdv A outer s H vs Q E hr gd hc h => ⟨_, hbody cdv A outer s H E hr gd hc, ?_⟩
  obtain ⟨hl, OB, as, al, r, h⟩ := h
  have hla : as.length = np := r.len.trans hl
  unfold mkFn at h
  rw [if_pos hla] at h
  refine ⟨fxOf OB H as vs, OB, as ++ List.replicate (nl - np) .emp, by
    have := FR.init (g := g) (N := N) (nl := nl) hN (by omega) al r
    rw [hla] at this; exact this, ?_⟩
  generalize m (as ++ List.replicate (nl - np) .emp) = res at h
  have post : ∀ {A' OB' : Addr → Prop} {H' : Hp} {σ' : Sv} {e' : Ev}, FR g (fxOf OB H as vs) A' H' σ' e' → (∀ a, OB' a → A' a) → PostA g OB OB' H H' as (e'.take np) vs := fun F z => by rw [← hla]; exact FR.post r F z
  cases res with
  | ok fl e =>
    cases fl with
    | nx => exact fun A' σ' H' F' _ => h _ H' (post F' F'.ob) rfl
    | bk => exact h.elim
    | ct => exact h.elim
    | rt d => exact fun A' σ' H' v F' _ q => h v H' (post F' F'.ob) (R.less F'.al F'.ob q)
    | rb ds => exact fun A' σ' H' p xs F' _ hA h0 hb hp q => h p xs H' (post F' fun a z => z.elim (F'.ob a) fun z => by rw [z]; exact hA) h0 hp (RL.less F'.al (fun a z => z.elim (F'.ob a) fun z => by rw [z]; exact hA) q)
  | exc c d e => exact fun A' σ' cls dd H' F' _ x => h cls dd H' (post F' F'.ob) (ExR.less F'.al F'.ob x)
  | bad => exact h.elim
structure HasL (P : Program) (w : World) (g : GC) (mg : Str → Option Value) (base : Heap) (j : Nat) (x : Str) (nl : Nat) (mx : Rs D → M Fl) : Prop where
  ex : ∃ (gx : Addr) (fd : FuncData) (pg : Arguments) (bg : List Stmt) (sg : Scope) (Ng : List Str) (a : Str), mg x = some (.ref gx) ∧ PySem.W.keepIn g.K (.ref gx) = true ∧ FunD g.K x x pg bg sg [] [] gx fd ∧ Binds g.K fd [a] [] ∧ FnScope Ng [a] sg ∧ Ng[0]? = some a ∧ Vis sg a ∧ Ng.length = nl ∧ 1 ≤ nl ∧
    (a == ("__debug__" : Str)) = false ∧ (a == ("__classdict__" : Str)) = false ∧
    ∀ (cdv : Value) (A : Around) (outer : List Env) (s : Shared) (H : Hp) (E : XK) (L : Lam) (r : Rs D), Room j (A.deeper (envOfC x sg s.heap.objs.size gx cdv)) → A.guards = some [] →
      (∀ (W' : WK) (pn : List (Addr × Obj)) (xe : Value → Shared → Prop) (p1 p2 : Pos), L2N.Takes ((cxOf (L2N.CX P w) P w g.K mg base Ng x sg gx cdv A outer s H E).tr pn xe) W' → CE (g.wl L) ((cxOf (L2N.CX P w) P w g.K mg base Ng x sg gx cdv A outer s H E).tr pn xe) W' (.Call (.Name a p1) [] [] p2) (mAct 0 r)) →
      CB (g.wl L) (cxOf (L2N.CX P w) P w g.K mg base Ng x sg gx cdv A outer s H E) (fun cls d _ H => E cls d H) bg (mx r)
theorem takes_lam {X : Cx} {A : Around} {outer : List Env} {s : Shared} {H : Hp} {E : XK} {scope : Scope} {f c' : Addr} : L2N.Takes (lamN X A outer s H E scope f c') (fun cls d _ H => E cls d H) := L2N.takes_of rfl rfl rfl rfl
theorem c_lam {X : Cx} {W : WK} {x : Str} {c P : Addr} {k j nl : Nat} {params : Arguments} {body : Expr} {scope : Scope} {mbody : M D} {mx : Rs D → M Fl} {p lpos pos : Pos} (hK : X.K = g.K) (HL : HasL X.prog X.w g X.mg X.base j x nl mx) (ho : g.own = none) (hj : j ≤ k + 1)
    (hgl : Gl X x) (mem : (P, X.env.qual ++ "<lambda>") ∈ g.T) (nd : (g.T.map (·.1)).Nodup) (TB : TabB X.base X.mg c P) (code : X.env.code = .ref c) (hr : Room (k + 2) X.A) (gd : X.A.guards = some []) (tk : L2N.Takes X W)
    (LS : lamSB X.env.scope scope = true) (plain : defaultsOf params X.env = ([], [])) (nob : ∀ (q : Str) (cl : List (Str × Addr)) (pm cv ctv : Value), bindArgs (PySem.W.kla_fn "<lambda>" q params body scope cl pm cv ctv) ⟨[], []⟩ = pure [])
    (hbody : ∀ (E : XK) (A : Around) (outer : List Env) (s : Shared) (H : Hp) (f c' : Addr), Room k (A.deeper (lamEnv X scope s.heap.objs.size f c')) → A.guards = some [] → CE g (lamN X A outer s H E scope f c') (fun cls d _ H => E cls d H) body mbody)
    (hdb : (x == ("__debug__" : Str)) = false := by decide) :
    CE g X W (.Call (.Name x p) [.Lambda params body scope lpos] [] pos) (mLam nl mx mbody) := by
  obtain ⟨gx, fd, pg, bg, sg, Ng, a, hm, hk, F, hb, Sg, hN0, hva, hNl, hn1, nda, nca, hx⟩ := HL.ex
  rw [← hK] at hk F hb hx
  exact c_lamcall ho hgl hm hk F hb Sg hN0 hva hNl hn1 mem (one_of nd mem) TB code hr gd tk (lamS_by LS) plain nob hbody (fun cdv A outer s H E L r gd' act => hx cdv A outer s H E L (mbody L.e) (r.mono hj) gd' act) hdb nda nca
def HdM.bare (m : HdM) : HdM := { m with cv := .none }
end
end Fw
namespace Fw
open L2 PyProof.Rows PySem PySem.Spec
theorem pmk_own0 {X : Cx} {C : Addr} {bmB : List Value} {B newId initId : String} {x : Str} {p pos : Pos} (F : ExcBaseFacts B newId initId bmB) (q : PySem.W.excIn X.K C bmB newId = true) (gC : X.mg x = some (.ref C)) (kC : PySem.W.keepIn X.K (.ref C) = true) (r : Raises X (.ref C)) (hg : Gl X x)
    (hdb : (x == ("__debug__" : Str)) = false := by decide) : L2N.PMk X (.Call (.Name x p) [] [] pos) (fun _ H Q => Q (.ref C) none H) := by
  intro pins s σ H Q I h
  refine wpAny_Call_Name_kw (ld_glob I hg gC ?_ hdb)
  refine PySem.W.callWith_K0 (first := []) I.kIn kC ?_
  show wpAny _ _ (call (.ref C) []) _ _ _
  obtain ⟨bm, N, nm, qn, bs, hdct, sn, sub, ab, col, dd, k0, k1, k2, k3, k5, mN, hC, hN, hni, T⟩ := exc_obj I.kIn q
  obtain ⟨hp, gs, dr, tk, os⟩ := s
  refine wpAny_call_exc_subT F T hC hN hni (fun h' e hm => ?_) (Nat.zero_le _)
  exact L2N.mk_of I hm r h (I.hok.gone hm.new)
structure Err_0 (g : GC) (mg : Str → Option Value) (c : Nat) (x : Str) : Prop where
  glo : mg x = some (.ref (g.ca c))
  fld : g.cf c = []
  ex : ∃ B ni ii tl, ExcBaseFacts B ni ii tl ∧ PySem.W.excIn g.K (g.ca c) tl ni = true
  kC : PySem.W.keepIn g.K (.ref (g.ca c)) = true
  sb : PySem.W.subIn g.K (.ref (g.ca c)) (.type "BaseException") = some true
  ty : PySem.W.typeIn g.K (.ref (g.ca c)) = some (.type "type")
theorem err0_ok {tl : List Value} {B ni ii : String} {x : Str} {c : Nat} {g : GC} {mg : Str → Option Value} (TL : Ex.Tl tl B ni ii) (h : err0B tl ni x g.K = true) (e : g.ca c = He.ga g.K x) (gl : mg x = some (.ref (He.ga g.K x))) (hf : g.cf c = []) : Err_0 g mg c x := by
  simp only [err0B, Bool.and_eq_true, decide_eq_true_eq] at h
  obtain ⟨h1, h2, h3, h4⟩ := h
  rw [← e] at h1 h2 h3 h4 gl
  exact ⟨gl, hf, ⟨_, _, _, _, TL.base, h1⟩, h2, h3, h4⟩
section
variable {g : GC} {X : Cx} {W : WK}
theorem cs_raise0 {c : Nat} {x : Str} {p pos pos2 : Pos} (T : Err_0 g X.mg c x) (hK : X.K = g.K) (hc : X.calm = true) (tk : L2N.Takes X W) (hg : Gl X x) (hdb : (x == ("__debug__" : Str)) = false) :
    CS g X W (.Raise (some (.Call (.Name x p) [] [] pos)) none pos2) (mRaise0 c) := by
  obtain ⟨B, ni, ii, tl, TL, q⟩ := T.ex
  have kC := T.kC; have sb := T.sb; have ty := T.ty
  rw [← hK] at q kC sb ty
  refine PS.imp (L2N.ps_raise hc tk (pmk_own0 TL q T.glo kC (raises_own sb ty) hg hdb)) fun D σ H ⟨f, A, e, F, h⟩ => ?_
  exact h A σ (.ref (g.ca c)) none H F (by first | exact Step.refl | exact Step.refl _ | exact Mono.refl F.al | exact F.refl) ⟨rfl, by rw [T.fld]⟩
end
end Fw
namespace Fw
open L2 PyProof.Rows PySem PySem.Spec LamX
structure LamS1 (a : Str) (sc scope : Scope) : Prop where
  kind : scope.kind = .function
  co : scope.isCoroutine = false
  gen : scope.isGenerator = false
  own : ∀ y ∈ scope.names, y.2 ≠ .cell ∧ (y.2 = .local → y.1 = a)
  par : scope.names.lookup a = some .local
  free : ∀ y ∈ scope.names, y.2 = .free → sc.names.lookup y.1 = some .cell ∨ sc.names.lookup y.1 = some .free
theorem LamS1.has {a : Str} {X : Cx} {scope : Scope} (L : LamS1 a X.env.scope scope) (ok : X.Ok) : ∀ y ∈ scope.names, y.2 = .free → ∃ c, X.env.cells.lookup y.1 = some c := fun y hy e => by
  rcases L.free y hy e with k | k
  · exact ok.has _ (.inl k)
  · exact ok.has _ (.inr k)
section
variable {X : Cx} {pins : List (Addr × Obj)} {σ : L2.St} {H HZ : Hp} {s s1 : Shared}
end
section
variable {g : GC} {W : WK}
end
section
variable {g : GC} {X : Cx} {W : WK}
end
end Fw
namespace Fw
open L2 PyProof.Rows PySem PySem.Spec
theorem mark_same {A : Around} {v : Value} (h : A.handled = some v) : A.mark (some v) = A := by
  cases A
  cases h
  rfl
theorem inv_suite0 {Y : Cx} {q : Addr × Obj} {σ : Sv} {H : Hp} {s : Shared} (I : Inv Y [] σ H s) (hq : Y.pn = [q]) : Inv (Y.suite q.1 [q]) [] σ H s :=
  ⟨I.ok.suite _ _, I.os, I.bare, I.base, I.loc, I.cell, I.free, I.freeC, by rw [← hq]; exact I.pin, I.hok, I.len⟩
structure FnX (g : GC) (P : Program) (w : World) (mg : Str → Option Value) (base : Heap) (k : Nat) (f : Addr) (fd : FuncData) (n : Str) (fn : Fn) : Prop where
  run : ∀ (A : Around) (outer : List Env) (s : Shared) (H : Hp) (args : Args) (us : List Value) (vs : List V) (Q : VK) (a : Addr) (oe : Obj) (c : Nat) (dd : Option Addr),
    L2H.RoomH k A → A.guards = some [] → A.handled = some (.ref a) → L2N.Zn (.ref (g.ca c)) dd oe → (∃ z, oe.data = .fields z) → L2H.PinOk outer H s (a, oe) →
    Env0 P w g.K mg base A outer s H → BindsTo s fd args ([n].zip us) → Vals vs us → spF (g.wx (a, c, dd)) 1 fn vs H Q (fun _ _ _ => False) →
    codeAny (model P w) A (.call (.ref f) args) (CR (L2N.CX P w) outer P w H s Q (fun _ _ _ => False)) s
theorem FnX.by {g : GC} {P : Program} {w : World} {mg : Str → Option Value} {base : Heap} {x qual n : Str} {params : Arguments} {body : List Stmt} {scope : Scope} {dvs : List V} {kws : List (Str × V)} {f : Addr} {fd : FuncData} {N : List Str} {k nl : Nat} {m : M Fl}
    (F : FunD g.K x qual params body scope dvs kws f fd) (S : FnScope N [n] scope) (hN : N.length = nl) (hle : 1 ≤ nl)
    (hbody : ∀ (cdv : Value) (A : Around) (outer : List Env) (s : Shared) (H : Hp) (a : Addr) (oe : Obj) (c : Nat) (dd : Option Addr), L2H.RoomH k (A.deeper (envOfC qual scope s.heap.objs.size f cdv)) → A.guards = some [] → L2N.Zn (.ref (g.ca c)) dd oe → (∃ z, oe.data = .fields z) →
      CB (g.wx (a, c, dd)) ((cxOf (L2N.CX P w) P w g.K mg base N qual scope f cdv A outer s H (fun _ _ _ => False)).suite a [(a, oe)]) W0 body m) : FnX g P w mg base (k + 1) f fd n (mkFn 1 nl m) := by
  obtain ⟨oc, od, dV, kV, doc, pm, an, cdv, ct, osl, rfl, lk, hcd, _, _⟩ := F.ex
  refine ⟨fun A outer s H args us vs Q a oe c dd room gd hh hz hf pin ev binds rel hsp => ?_⟩
  have kin : g.K.In s.heap := ev.mod.kin.keeps fun b o q => (ev.bs b o q).1
  refine codeAny_call_function room.depth (kin _ _ lk) rfl S.co S.gen rfl (PySem.W.codeRec_of kin hcd) (binds _ _ _ _ ?_)
  refine wpAny_newFunctionEnv_cells S.kind (fun ⟨y, v⟩ hy => ?_) fun env he s1 ic => ?_
  · exact (S.par y (List.of_mem_zip hy).1).imp id fun q => ⟨q, PySem.W.cellsFrom_some _ _ _ (.inl q)⟩
  subst he
  refine ⟨(ev.mod.nolimit.keeps fun b o q => (ev.bs b o q).1).keeps ic.toInCall.keep, codeAny_func ?_⟩
  have hl : vs.length = 1 := hsp.1
  have I0 : Inv (L2H.cxH (L2N.CX P w) P w g.K mg base N qual scope f cdv A outer s H (fun _ _ _ => False) (a, oe)) [] (L2.start N vs) H s1 := L2H.inv_startH S pin ev hl rel ic
  have I1 : Inv ((cxOf (L2N.CX P w) P w g.K mg base N qual scope f cdv A outer s H (fun _ _ _ => False)).suite a [(a, oe)]) [] (L2.start N vs) H s1 := inv_suite0 I0 rfl
  have hb := hbody cdv A outer s H a oe c dd (room.deeper _) gd hz hf
  obtain ⟨_, OB, as, al, r, h⟩ := hsp
  have hla : as.length = 1 := r.len.trans hl
  unfold mkFn at h
  rw [if_pos hla] at h
  have mk : (A.deeper (envOfC qual scope s.heap.objs.size f cdv)).mark (some (.ref a)) = A.deeper (envOfC qual scope s.heap.objs.size f cdv) := mark_same hh
  have go : wpAny (model P w) ((A.deeper (envOfC qual scope s.heap.objs.size f cdv)).mark (some (.ref a))) (execs body (envOfC qual scope s.heap.objs.size f cdv)) (SP ((cxOf (L2N.CX P w) P w g.K mg base N qual scope f cdv A outer s H (fun _ _ _ => False)).suite a [(a, oe)]) [] ⟨fun _ H' => Q .non H', Q, fun _ _ => False, fun _ _ => False⟩) (fun _ _ => False) s1 := hb.run [] s1 (L2.start N vs) H ⟨fun _ H' => Q .non H', Q, fun _ _ => False, fun _ _ => False⟩ I1 ⟨fxOf OB H as vs, OB, as ++ List.replicate (nl - 1) .emp, by
    have := FR.init (g := g.wx (a, c, dd)) (N := N) (nl := nl) hN (by omega) al r
    rw [hla] at this; exact this, by
    generalize m (as ++ List.replicate (nl - 1) .emp) = res at h
    have post : ∀ {A' OB' : Addr → Prop} {H' : Hp} {σ' : Sv} {e' : Ev}, FR (g.wx (a, c, dd)) (fxOf OB H as vs) A' H' σ' e' → (∀ b, OB' b → A' b) → PostA (g.wx (a, c, dd)) OB OB' H H' as (e'.take 1) vs := fun F z => by rw [← hla]; exact FR.post r F z
    cases res with
    | ok fl e =>
      cases fl with
      | nx => exact fun A' σ' H' F' _ => h _ H' (post F' F'.ob) rfl
      | bk => exact h.elim
      | ct => exact h.elim
      | rt d => exact fun A' σ' H' v F' _ q => h v H' (post F' F'.ob) (R.less F'.al F'.ob q)
      | rb ds => exact fun A' σ' H' p xs F' _ hA h0 hb hp q => h p xs H' (post F' fun b z => z.elim (F'.ob b) fun z => by rw [z]; exact hA) h0 hp (RL.less F'.al (fun b z => z.elim (F'.ob b) fun z => by rw [z]; exact hA) q)
    | exc c d e => exact fun A' σ' cls dd H' F' _ x => h cls dd H' (post F' F'.ob) (ExR.less F'.al F'.ob x)
    | bad => exact h.elim⟩
  rw [mk] at go
  refine wpAny_mono go (fun fl s' z => ?_) fun _ _ z => z.elim
  cases fl with
  | ret u => obtain ⟨v, σ', H', J, rv, q⟩ := z; exact ⟨v, H', J.os, J.bare, J.base, J.hok, rv, q⟩
  | next => obtain ⟨σ', H', J, q⟩ := z; exact ⟨.non, H', J.os, J.bare, J.base, J.hok, rfl, q⟩
  | brk => obtain ⟨_, _, _, q⟩ := z; exact q.elim
  | cont => obtain ⟨_, _, _, q⟩ := z; exact q.elim
section
variable {g : GC} {X : Cx} {k : Nat} {f : Addr} {fd : FuncData} {n x : Str} {fn : Fn} {p pos : Pos} {e : Expr} {a : Addr} {oe : Obj} {c : Nat} {dd : Option Addr} {pn : List (Addr × Obj)} {t : TA}
theorem pe_callX (hK : X.K = g.K) (F : FnX g X.prog X.w X.mg X.base k f fd n fn) (hr : L2H.RoomH k X.A) (gd : X.A.guards = some []) (hz : L2N.Zn (.ref (g.ca c)) dd oe) (hf : ∃ z, oe.data = .fields z) (hg : Gl (X.suite a ((a, oe) :: pn)) x) (hm : X.mg x = some (.ref f)) (hk : PySem.W.keepIn X.K (.ref f) = true) (hb : Binds X.K fd [n] [])
    (ha : PA (X.suite a ((a, oe) :: pn)) [e] t) (hdb : (x == ("__debug__" : Str)) = false) (he : starEach [e] X.env = (false, eval e X.env) :: starEach [] X.env := by rfl) :
    PE (X.suite a ((a, oe) :: pn)) (.Call (.Name x p) [e] [] pos) (tCg (spF (g.wx (a, c, dd)) 1 fn) W0 t) := by
  refine ⟨fun pins s σ H Q I h => wpAny_Call_Name_kw (ld_glob I hg hm ?_ hdb)⟩
  refine PySem.W.callWith_K (h₀ := X.base) I.ok.mod.kin hk (thn (ha.run pos pins s σ H _ I h) fun us s1 ⟨vs, H1, I1, r, q⟩ => ⟨I1.kIn, ?_⟩) he rfl
  have hl : us.length = 1 := by rw [← r.length]; exact q.1
  have b := hb s1 us I1.kIn (by rw [List.append_nil]; exact hl)
  rw [List.append_nil] at b
  have P1 := I1.pin (a, oe) (List.mem_append.mpr (.inl List.mem_cons_self))
  have pin : L2H.PinOk X.stack H1 s1 (a, oe) := ⟨P1.1, P1.2.1, fun hm => (List.mem_cons.mp (I1.stkSub a hm)).elim P1.2.2.1 P1.2.2.2.1, P1.2.2.2.2⟩
  have ev := I1.env0
  refine wpAny_call (codeAny_mono (F.run (X.A.mark (some (.ref a))) X.stack s1 H1 ⟨us, []⟩ us vs Q a oe c dd ⟨hr.dp, hr.un⟩ gd rfl hz hf pin (hK ▸ ev) b r q) fun r s' hq => ?_)
  cases r with
  | error e => obtain ⟨_, _, _, _, _, _, _, _, _, _, _, _, _, z⟩ := hq
  | ok fl => cases fl with
    | ret u => exact I1.after hq
    | next => exact hq.elim
    | brk => exact hq.elim
    | cont => exact hq.elim
end
structure HasX (g : GC) (P : Program) (w : World) (mg : Str → Option Value) (base : Heap) (k : Nat) (x n : Str) (fn : Fn) : Prop where
  ex : ∃ f fd, FnX g P w mg base k f fd n fn ∧ mg x = some (.ref f) ∧ PySem.W.keepIn g.K (.ref f) = true ∧ Binds g.K fd [n] []
section
variable {g : GC} {X : Cx} {k : Nat} {n x : Str} {fn : Fn} {p pos : Pos} {e : Expr} {a : Addr} {oe : Obj} {c : Nat} {dd : Option Addr} {pn : List (Addr × Obj)} {os : List Od}
theorem c_callX (hK : X.K = g.K) (F : HasX g X.prog X.w X.mg X.base k x n fn) (hr : L2H.RoomH k X.A) (gd : X.A.guards = some []) (hz : L2N.Zn (.ref (g.ca c)) dd oe) (hf : ∃ z, oe.data = .fields z) (hg : Gl (X.suite a ((a, oe) :: pn)) x)
    (ha : COs (g.wx (a, c, dd)) (X.suite a ((a, oe) :: pn)) W0 [e] os) (hdb : (x == ("__debug__" : Str)) = false) (he : starEach [e] X.env = (false, eval e X.env) :: starEach [] X.env := by rfl) :
    CE (g.wx (a, c, dd)) (X.suite a ((a, oe) :: pn)) W0 (.Call (.Name x p) [e] [] pos) (mCv 1 fn os) := by
  obtain ⟨f, fd, F, hm, hk, hb⟩ := F.ex
  exact PE.imp (pe_callX hK F hr gd hz hf hg hm (by rw [hK]; exact hk) (by rw [hK]; exact hb) ha hdb he) t_call
end
end Fw
namespace Fw
open L2 PyProof.Rows PySem PySem.Spec
theorem frames_keeps {base h h' : Heap} (k : ∀ b o, h.get? b = some o → h'.get? b = some o) : ∀ {l : List Env}, h.FunFrames base l → h'.FunFrames base l
  | [], _ => trivial
  | _ :: l, h => by
    obtain ⟨a1, ⟨L, o, a2, a3, a4, a5⟩, a6⟩ := h
    exact ⟨a1, ⟨L, o, a2, a3, k L o a4, a5⟩, frames_keeps k a6⟩
theorem flying_keeps {base h h' : Heap} {l : List Env} {e : Addr} {Z : Obj → Prop} (k : ∀ b o, h.get? b = some o → h'.get? b = some o) (x : HandSPX.FlyingZ base l e Z h) : HandSPX.FlyingZ base l e Z h' := by
  obtain ⟨a1, a2, a3, oe, vs, T, oT, ts, b1, b2, b3, b4, t1, t2, t3, t4, t5⟩ := x
  refine ⟨fun b o q => k b o (a1 b o q), a2, frames_keeps k a3, oe, vs, T, oT, ts, k _ _ b1, b2, b3, b4, t1, t2, k _ _ t3, t4, t5⟩
def wAs3 (K : PySem.W.Frag) (cs : List Value) (i : Nat) (ts : Sut) (Wout : WX) (D : Ends) : WX := fun cls d σ H => ∃ b, PySem.W.exmAny K cls cs = some b ∧ (b = true → ∀ a, H a = none → ts a cls d (endsX i D) (σ.set i (some (.ref a))) H) ∧ (b = false → Wout cls d σ H)
section
variable {X : Cx} {body suite : List Stmt} {b₀ : Stmt} {x1 x2 x3 n : Str} {i kk : Nat} {c1 c2 c3 : Value} {ts : Sut} {p1 p2 p3 tp pos pos' : Pos} {tb : WX → TS} {Wout : WX}
theorem ps_try_tup (hs : X.stack = X.env :: X.outer) (hf : X.env.frame = some X.env.locals) (hN : X.N.Nodup) (tk : L2N.Takes X Wout) (hi : X.N[i]? = some n) (hln : X.env.kindOf n = some .local) (g1 : Names X x1 c1) (g2 : Names X x2 c2) (g3 : Names X x3 c3)
    (hb : ∀ (W : WX) (pn : List (Addr × Obj)) (xe : Value → Shared → Prop), L2N.Takes (X.tr pn xe) W → PassesOwn (model X.prog X.w) X.A X.env xe → PSs (X.tr pn xe) body (tb W))
    (hsu : ∀ (a : Addr) (oe : Obj) (cls : Value) (d : Option Addr) (pn : List (Addr × Obj)), L2N.Zn cls d oe → (∃ vs, oe.data = .fields vs) → PSs (X.suite a ((a, oe) :: pn)) (b₀ :: suite) (ts a cls d)) :
    PS X (.Try body [.ExceptHandler (some (.Tuple [.Name x1 p1, .Name x2 p2, .Name x3 p3] kk tp)) (some n) (b₀ :: suite) pos'] [] [] pos) (fun D σ H => tb (wAs3 X.K [c1, c2, c3] i ts Wout D) D σ H) := by
  constructor
  intro pins s σ H D I h
  have ok := I.ok
  have frames : X.A.frames = some (X.env :: X.outer) := by rw [ok.frames, hs]
  apply wpAny_Try_except
  have run := (hb (wAs3 X.K [c1, c2, c3] i ts Wout D) (X.pn ++ pins) (fun e r1 => wpAny (model X.prog X.w) X.A (noteFrame e X.env) (fun _ r2 => wpAny (model X.prog X.w) X.A (setFlight e none) (fun _ r3 =>
    wpAny (model X.prog X.w) X.A (handleBy e X.env [.ExceptHandler (some (.Tuple [.Name x1 p1, .Name x2 p2, .Name x3 p3] kk tp)) (some n) (b₀ :: suite) pos']) (SP X pins D) X.xe r3) X.xe r2) X.xe r1) ?grab PassesOwn.looking).run [] s σ H D (I.toTry _) h
  case grab =>
    intro u s' xx
    obtain ⟨a, B, sI, pins', σ', H', cls, d, rfl, J', nb, up, sky, na, os, ag, w⟩ := xx
    have J : Inv X pins σ' H' sI := J'.ofTry ok
    rw [hs] at sky
    show wpAny (model X.prog X.w) X.A (noteFrame (.ref a) X.env) _ _ _
    refine L2N.Sky.land L2N.Zn.steady frames hf sky fun h0 fl0 up0 => ?_
    have J0 : Inv X pins σ' H' { s' with heap := h0 } := J.landed nb fl0.1 (up.trans up0) os ag
    obtain ⟨oe0, vs0, get0, z0, d0⟩ := fl0.there
    have out : a ∉ frs (X.env :: X.outer) := fun hm => by
      obtain ⟨_, o', e', no⟩ := fl0.2.2.1.mem hm
      cases get0.symm.trans e'
      exact no _ d0
    have nL : a ≠ X.env.locals := fun z => out (List.mem_filterMap.mpr ⟨X.env, List.mem_cons_self, by rw [hf, z]⟩)
    have nF : a ∉ X.fs := fun hm => let ⟨e, he, q⟩ := List.mem_filterMap.mp hm; out (List.mem_filterMap.mpr ⟨e, List.mem_cons_of_mem _ he, q⟩)
    have S0 := J0.suite get0 d0 na nL nF
    obtain ⟨b, e1, yes, no⟩ := w
    refine wpAny_handleBy_cons (codeAny_handlers_test ?_) (by intro q; cases q)
    have named : ∀ {y : Str} {c : Value} {yp : Pos} {Q E : Value → Shared → Prop}, Names X y c → (Q : Value → Shared → Prop) c { s' with heap := h0 } → wpAny (model X.prog X.w) (X.A.mark (some (.ref a))) (eval (.Name y yp) X.env) Q (E : Value → Shared → Prop) { s' with heap := h0 } := fun {y c yp Q E} hc q => by
      obtain ⟨n1, n2, n3 | ⟨n3, n4, n5⟩⟩ := hc
      · exact ld_glob (X := X.suite a ((a, oe0) :: (X.pn ++ pins))) S0 n1 n3 q n2
      · exact ld_blt (X := X.suite a ((a, oe0) :: (X.pn ++ pins))) S0 n1 n3 n4 q n5 n2
    refine wpAny_Tuple ?_
    refine wpAny_items_cons (named g1 ?_)
    refine wpAny_items_cons (named g2 ?_)
    refine wpAny_items_cons (named g3 ?_)
    refine wpAny_items_nil ⟨by size_fits, ?_⟩
    have kp : ∀ q o, h0.get? q = some o → (h0.push { cls := .type "tuple", data := .seq [c1, c2, c3].toArray }).get? q = some o := fun _ _ z => Heap.get?_push_of_some _ z
    have ty : PySem.W.Looks (model X.prog X.w) (h0.push { cls := .type "tuple", data := .seq [c1, c2, c3].toArray }) (typeOf (.ref a)) cls := fun A Q E s k q => wpAny_typeOf_ref (k _ _ (kp _ _ get0)) (by rw [z0.1]; exact q)
    have mt := PySem.W.exm_tup3 (M := model X.prog X.w) (J0.kIn.keeps kp) ty (Heap.get?_push_size h0 rfl) e1
    have fl3 := flying_keeps kp fl0
    have up3 : s'.heap.UpToSlots (h0.push { cls := .type "tuple", data := .seq [c1, c2, c3].toArray }) := up0.trans (Heap.UpToSlots.of_keeps kp)
    generalize (h0.push { cls := .type "tuple", data := .seq [c1, c2, c3].toArray }) = h3 at *
    refine mt.here ?_
    cases b with
    | false =>
      show wpAny _ X.A (handleBy (.ref a) X.env []) _ _ _
      have w := no rfl
      apply wpAny_handleBy_nil
      obtain ⟨_, _, _, oe, vs, T, oT, ts', he, hz, hd, h1, _⟩ := id fl3
      unfold PySem.passOn
      apply wpAny_bind (wpAny_field he hd h1 ?_)
      rw [if_neg (show ¬ ((Value.ref T == Value.none) = true) by simp)]
      have on : wpAny (model X.prog X.w) X.A (setFlight (.ref a) X.env.frame) (fun _ r4 => wpAny (model X.prog X.w) X.A (throw (.ref a) : Sem Flow) (SP X pins D) X.xe r4) X.xe { s' with heap := h3 } := by
        rw [hf]
        refine HandSPX.setFlight_upZ fl3 fun h4 hh4 up4 => wpAny_throw (tk _ _ ?_)
        refine ⟨a, B, sI, pins, σ', H', cls, d, rfl, J, nb, (up.trans up3).trans up4, .inr (.inr ?_), na, os, ag, w⟩
        rw [hs]; exact hh4
      first
        | exact wpAny_bind on
        | exact wpAny_bind (wpAny_pure (wpAny_bind on))
    | true =>
      have wish := yes rfl a na
      apply codeAny_handlers_suite_as
      refine HandSPX.lands_againZ fl3 fun h4 fl4 up4 => ?_
      have J4 : Inv X pins σ' H' { s' with heap := h4 } := J.landed nb fl4.1 ((up.trans up3).trans up4) os ag
      obtain ⟨oe4, vs4, get4, z4, d4⟩ := fl4.there
      refine store_ok (X := X.suite a ((a, oe4) :: (X.pn ++ pins))) (v := .ref a) (J4.suite get4 d4 na nL nF) hN hi (show Loc X.env.scope n from .inl hln) rfl (fun s5 S5 => ?_) (.inr hln)
      refine wpAny_mono ((hsu a oe4 cls d (X.pn ++ pins) z4 ⟨_, d4⟩).run [] s5 _ H' _ S5 wish) (fun f s6 sp => ?_) (fun _ _ z => z.elim)
      have gone : ∀ {σ6 : Sv} {H6 : Hp} {Q : Shared → Prop}, Inv (X.suite a ((a, oe4) :: (X.pn ++ pins))) [] σ6 H6 s6 → (∀ s7, Inv X pins (σ6.set i none) H6 s7 → Q s7) →
          wpAny (model X.prog X.w) X.A (do bindName X.env n .none; unbindBehindTheSuite X.env n pos') (fun _ s7 => Q s7) X.xe s6 := fun S6 hq => gone_ok (S6.unsuite ok) hN hi hln hq
      match f, sp with
      | .next, ⟨σ6, H6, S6, q6⟩ => exact gone S6 fun s7 J7 => ⟨_, _, J7, q6⟩
      | .brk, ⟨σ6, H6, S6, q6⟩ => exact gone S6 fun s7 J7 => ⟨_, _, J7, q6⟩
      | .cont, ⟨σ6, H6, S6, q6⟩ => exact gone S6 fun s7 J7 => ⟨_, _, J7, q6⟩
      | .ret u, ⟨v6, σ6, H6, S6, r6, q6⟩ => exact gone S6 fun s7 J7 => ⟨_, _, _, J7, r6, q6⟩
  refine wpAny_mono run (fun f s1 sp => ?_) (fun e s1 he => he)
  match f, sp with
  | .next, ⟨σ', H', J', q⟩ => exact wpAny_execs_nil ⟨σ', H', J'.ofTry ok, q⟩
  | .brk, ⟨σ', H', J', q⟩ => exact ⟨σ', H', J'.ofTry ok, q⟩
  | .cont, ⟨σ', H', J', q⟩ => exact ⟨σ', H', J'.ofTry ok, q⟩
  | .ret u, ⟨v, σ', H', J', r, q⟩ => exact ⟨v, σ', H', J'.ofTry ok, r, q⟩
end
end Fw
namespace Fw
open L2 PyProof.Rows PySem PySem.Spec
def mt3 (m1 m2 m3 : Nat → Option Bool) : Nat → Option Bool := fun c => match m1 c, m2 c, m3 c with
  | some a, some b, some d => some (a || (b || (d || false)))
  | _, _, _ => none
theorem mt3_ok {m1 m2 m3 : Nat → Option Bool} {ok : Nat → Bool} (h1 : ∀ c, m1 c = some true → ok c = true) (h2 : ∀ c, m2 c = some true → ok c = true) (h3 : ∀ c, m3 c = some true → ok c = true) : ∀ c, mt3 m1 m2 m3 c = some true → ok c = true := by
  intro c h
  unfold mt3 at h
  cases e1 : m1 c with
  | none => rw [e1] at h; cases h
  | some a =>
    cases e2 : m2 c with
    | none => rw [e1, e2] at h; cases h
    | some b =>
      cases e3 : m3 c with
      | none => rw [e1, e2, e3] at h; cases h
      | some d =>
        rw [e1, e2, e3] at h
        cases a with
        | true => exact h1 c e1
        | false => cases b with
          | true => exact h2 c e2
          | false => cases d with
            | true => exact h3 c e3
            | false => cases h
theorem exm3 {K : PySem.W.Frag} {ca : Nat → Addr} {v1 v2 v3 : Value} {m1 m2 m3 : Nat → Option Bool} (t1 : ∀ c b, m1 c = some b → PySem.W.exmOne K (.ref (ca c)) v1 = some b) (t2 : ∀ c b, m2 c = some b → PySem.W.exmOne K (.ref (ca c)) v2 = some b)
    (t3 : ∀ c b, m3 c = some b → PySem.W.exmOne K (.ref (ca c)) v3 = some b) : ∀ c b, mt3 m1 m2 m3 c = some b → PySem.W.exmAny K (.ref (ca c)) [v1, v2, v3] = some b := by
  intro c b h
  unfold mt3 at h
  cases e1 : m1 c with
  | none => rw [e1] at h; cases h
  | some a =>
    cases e2 : m2 c with
    | none => rw [e1, e2] at h; cases h
    | some b2 =>
      cases e3 : m3 c with
      | none => rw [e1, e2, e3] at h; cases h
      | some d =>
        rw [e1, e2, e3] at h
        cases h
        unfold PySem.W.exmAny
        rw [t1 c a e1]
        unfold PySem.W.exmAny
        rw [t2 c b2 e2]
        unfold PySem.W.exmAny
        rw [t3 c d e3]
        rfl
theorem u64H {k : Nat} {A : Around} (h : L2H.RoomH k A) : A.units + 64 < cLine := by have := h.un; omega
theorem u65H {k : Nat} {A : Around} (h : L2H.RoomH k A) : A.units + 65 < cLine := by have := h.un; omega
section
variable {g : GC} {X : Cx} {W : WK} {ok : Nat → Bool}
theorem cs_try3 {hf : Nat → Bool} {body suite : List Stmt} {b₀ : Stmt} {x1 x2 x3 n : Str} {i kk : Nat} {c1 c2 c3 : Value} {p1 p2 p3 tp pos pos' : Pos} {mb' ms : M Fl} {mt : Nat → Option Bool} (hx : g.ex = none) (hcf : ∀ c, ok c = true → (hf c = true ∧ ∃ x, g.cf c = [x]) ∨ (hf c = false ∧ g.cf c = []))
    (hs : X.stack = X.env :: X.outer) (hfr : X.env.frame = some X.env.locals) (hN : X.N.Nodup) (hi : X.N[i]? = some n) (hln : X.env.kindOf n = some .local) (g1 : Names X x1 c1) (g2 : Names X x2 c2) (g3 : Names X x3 c3) (tk : L2N.Takes X W)
    (ht : ∀ c b, mt c = some b → PySem.W.exmAny X.K (.ref (g.ca c)) [c1, c2, c3] = some b) (hk : ∀ c, mt c = some true → ok c = true)
    (hb : ∀ (W : WK) (pn : List (Addr × Obj)) (xe : Value → Shared → Prop), L2N.Takes (X.tr pn xe) W → PassesOwn (model X.prog X.w) X.A X.env xe → CB g (X.tr pn xe) W body mb')
    (hsu : ∀ (a : Addr) (oe : Obj) (c : Nat) (d : Option Addr) (pn : List (Addr × Obj)), L2N.Zn (.ref (g.ca c)) d oe → (∃ vs, oe.data = .fields vs) → CB (g.wx (a, c, d)) (X.suite a ((a, oe) :: pn)) W0 (b₀ :: suite) ms) :
    CS g X W (.Try body [.ExceptHandler (some (.Tuple [.Name x1 p1, .Name x2 p2, .Name x3 p3] kk tp)) (some n) (b₀ :: suite) pos'] [] [] pos) (mTryHs hf [⟨.none, mt, some i, ms⟩] mb') := by
  refine PS.imp (ps_try_tup (tb := fun W => rdS g W mb') (ts := fun a cls d D σ H => ∃ c, cls = .ref (g.ca c) ∧ rdS (g.wx (a, c, d)) W0 ms D σ H) hs hfr hN tk hi hln g1 g2 g3 hb (fun a oe cls d pn hz hd => ⟨fun pins s σ H D I ⟨c, ec, q⟩ => by subst ec; exact (hsu a oe c d pn hz hd).run pins s σ H D I q⟩)) fun D σ H ⟨f, A, e, F, h⟩ => ?_
  refine ⟨f, A, e, F, ?_⟩
  unfold mTryHs at h
  cases q : mb' e with
  | ok fl e1 => rw [q] at h; exact h
  | bad => rw [q] at h; exact h
  | exc c d e1 =>
    rw [q] at h
    intro A' σ' cls dd H' F' m ex
    have ecl : cls = .ref (g.ca c) := ex.1
    unfold hdGo at h
    cases z : mt c with
    | none => simp only [z] at h; exact h.elim
    | some b =>
      refine ⟨b, by rw [ecl]; exact ht c b z, fun hb a ha => ?_, fun hb => ?_⟩
      · subst hb
        simp only [z] at h
        refine ⟨c, ecl, ?_⟩
        have go : ∀ s0 : Sl, e1[i]? = some s0 → (∀ d, s0 ≠ .pbox d) → FinS g W f A H D (endX i (ms (e1.set i (.val (.exn c (if hf c = true then [d] else [])))))) → rdS (g.wx (a, c, dd)) W0 ms (endsX i D) (σ'.set i (some (.ref a))) H' := fun s0 h0 np hh => by
          have hpa := F'.pa0 h0 np
          exact ⟨f, A', _, (F'.inX hx).setV hpa (exn_r1 hx hf (hcf c (hk c z)) ex), fin_suite hpa (hh.from m)⟩
        cases w : e1[i]? with
        | none => simp only [w] at h; exact h.elim
        | some s0 =>
          cases s0 with
          | emp => simp only [w] at h; exact go .emp w (fun _ z => nomatch z) h
          | val d0 => simp only [w] at h; exact go (.val d0) w (fun _ z => nomatch z) h
          | box d0 => simp only [w] at h; exact h.elim
          | pbox d0 => simp only [w] at h; exact h.elim
      · subst hb
        simp only [z, hdGo] at h
        exact h A' σ' cls dd H' F' m ex
end
end Fw
namespace Fw
open L2 PyProof.Rows PySem PySem.Spec
section
variable {X : Cx}
def rCountD (K : PySem.W.Frag) : V → List V → Hp → VK → Prop := fun x xs H Q => ∃ (a : Addr) (y : V) (d : PyData) (ds : List PyData), x = V.ref a ∧ xs = [y] ∧ Dp K H (V.ref a) (.list ds) ∧ Dp K H y d ∧
  SeqAt.shaped d = true ∧ PyData.plainAll ds = true ∧ d.plain = true ∧ Q (.int ((ds.countP fun z => PyData.eqv z d : Nat) : Int)) H
theorem mt_countD (hu : X.A.units + 65 < cLine) : MtR X "list.count" (rCountD X.K) := by
  intro pins s σ H x xs v us Q I rx rxs h
  obtain ⟨a, y, d, ds, rfl, rfl, hl, hy, sd, pl, pd, q⟩ := h
  cases rx
  obtain ⟨u, rfl, ru⟩ := rxs.one
  obtain ⟨bs, rd⟩ := Dp.reads I d y u hy ru
  have room : X.A.units + 1 + min (PyData.depthAll ds) d.depth < cLine := room_in_shaped sd hu
  cases hl with
  | lst hs ha =>
    obtain ⟨its, rv, pl2, _⟩ := I.list hs
    obtain ⟨as, h4⟩ := Dp.readsAll I ds _ its ha rv
    exact SeqAt.count_list_data pl2.isList (by simpa using h4) rd pl pd room ⟨.int _, H, I.tok _, ⟨_, rfl⟩, q⟩
end
def dCountD (l d : D) : Option D := match l with
  | .lst ds => (match pyL ds, py d with
    | some ps, some p => if SeqAt.shaped p = true ∧ PyData.plainAll ps = true ∧ p.plain = true then some (.int ((ps.countP fun z => PyData.eqv z p : Nat) : Int)) else none
    | _, _ => none)
  | _ => none
def mCountD (ol : Od) (m : M D) : M D := match ol with
  | .e m0 => mb m0 fun l => match l with
    | .lst ds => mb m fun d => mo (dCountD (.lst ds) d)
    | _ => fun _ => .bad
  | .n i => mb (mN i) fun l => match l with
    | .lst _ => mb m fun d => mb (mN i) fun l2 => mo (dCountD l2 d)
    | _ => fun _ => .bad
section
variable {g : GC} {X : Cx} {W : WK}
theorem cntD_of {A : Addr → Prop} {H : Hp} {d1 d2 d : D} {v1 v2 : V} {Q : VK} (R1 : Rt g A H d1 v1) (R2 : Rt g A H d2 v2) (q : dCountD d1 d2 = some d) (h : ∀ v, R g A H d v → Q v H) : rCountD g.K v1 [v2] H Q := by
  cases d1 with
  | lst ds =>
    have R0 := R1
    obtain ⟨a, xs, rfl, ha, rl⟩ := R1
    unfold dCountD at q
    cases z1 : pyL ds with
    | none => simp only [z1] at q; cases q
    | some ps =>
      cases z2 : py d2 with
      | none => simp only [z1, z2] at q; cases q
      | some p =>
        simp only [z1, z2] at q
        by_cases c : SeqAt.shaped p = true ∧ PyData.plainAll ps = true ∧ p.plain = true
        · rw [if_pos c] at q
          cases q
          exact ⟨a, v2, p, ps, rfl, rfl, Rt.dp (.lst ds) _ (.list ps) R0 (by rw [py_lst, z1]; rfl), Rt.dp d2 v2 p R2 z2, c.1, c.2.1, c.2.2, h _ rfl⟩
        · rw [if_neg c] at q; cases q
  | _ => cases q
theorem c_countD {o e : Expr} {oo : Od} {m : M D} {apos cpos : Pos} (hK : X.K = g.K) (hu : X.A.units + 65 < cLine) (ho : CO g X W o oo) (he : CE g X W e m)
    (hbase : attributeBase o "count" X.env (eval o X.env) = eval o X.env := by rfl)
    (hfew : ((backTo cpos (starEach [e] X.env)).all (fun x => !x.1) && (backToKw cpos (keywordEach [] X.env)).all (fun x => x.1.isSome)
      && decide ([e].length + ([] : List Keyword).length + (if ([] : List Keyword).isEmpty then 0 else 1) < 30)) = true := by rfl)
    (hline : (apos.endLine == cpos.line) = true := by rfl) (hs : starEach [e] X.env = (false, eval e X.env) :: starEach [] X.env := by rfl) (hplain : (backTo cpos (starEach [] X.env)).any (·.1) = false := by rfl) : CE g X W (.Call (.Attribute o "count" apos) [e] [] cpos) (mCountD oo m) :=
  PE.imp (pe_bm PySem.F.plainAttrs_list PySem.F.slot_list_count PySem.F.type_list_count (mt_countD hu) ho (pa_cons he pa_nil hs) hbase hfew hline hs hplain) fun σ H Q ⟨f, A, e0, F, h⟩ => by
    rw [hK]
    cases oo with
    | e m0 =>
      refine Fin.bE h F fun d1 e1 v1 H1 F1 S1 R1 h1 => ?_
      cases d1 with
      | lst ds =>
        have R0 := R1
        obtain ⟨a, xs, rfl, ha, nA, rl⟩ := R1
        refine ⟨.inl ⟨rfl, xs, SqL.of ha⟩, ?_⟩
        refine Fin.bE h1 F1 fun d2 e2 v2 H2 F2 S2 r2 h2 => ?_
        obtain ⟨d, q, h3⟩ := Fin.mo h2
        exact cntD_of (F1.r S2 R0).rt r2.rt q fun v r => h3 v H2 F2 (S1.trans S2) r
      | _ => exact h1.elim
    | n i =>
      obtain ⟨d0, v0, hv, R0, h⟩ := Fin.bN h F
      refine ⟨v0, hv, ?_⟩
      cases d0 with
      | lst ds =>
        obtain ⟨a, xs, rfl, ha, rl⟩ := R0
        refine ⟨.inl ⟨rfl, xs, SqL.of ha⟩, ?_⟩
        refine Fin.bE h F fun d2 e2 v2 H2 F2 S2 r2 h2 => ?_
        obtain ⟨d1, v1, q1, R1, h3⟩ := Fin.bN h2 F2
        rw [hv] at q1; cases q1
        obtain ⟨d, q, h4⟩ := Fin.mo h3
        exact cntD_of R1 r2.rt q fun v r => h4 v H2 F2 S2 r
      | _ => exact h.elim
end
section
variable {g : GC} {X : Cx} {W : WK} {k : Nat} {x : Str} {ar : Arguments} {fn : Fn} {p pos : Pos}
theorem cf_call0 (F : Has X.prog X.w X.K X.mg X.base k x [] ar (spF g 0 fn)) (hr : Room k X.A) (gd : X.A.guards = some []) (hg : Gl X x) (tk : L2N.Takes X W)
    (hdb : (x == ("__debug__" : Str)) = false) : CF g X W (.Call (.Name x p) [] [] pos) (mCl 0 fn []) := by
  obtain ⟨f, fd, F, hm, hk, hb, _⟩ := F.ex
  exact PE.imp (pe_callG0 F hr gd hg hm hk hb tk hdb) (t_callF (os := []))
end
end Fw
namespace Fw
open L2 PyProof.Rows PySem PySem.Spec
def hasC : Nat → Bool := fun c => match c with
  | 2 => true
  | 3 => true
  | 8 => true
  | 9 => true
  | _ => false
def is_WrongName : Nat → Option Bool := fun c => match c with
  | 2 => some false
  | 3 => some false
  | 8 => some false
  | 9 => some false
  | _ => none
def is_NoAnswer : Nat → Option Bool := fun c => match c with
  | 2 => some false
  | 3 => some false
  | 8 => some true
  | 9 => some true
  | _ => none
def is_WrongValue : Nat → Option Bool := fun c => match c with
  | 2 => some true
  | 3 => some true
  | 8 => some false
  | 9 => some false
  | _ => none
def is_LookupError : Nat → Option Bool := fun c => match c with
  | 2 => some false
  | 3 => some false
  | 8 => some false
  | 9 => some false
  | _ => none
def is_ArithmeticError : Nat → Option Bool := fun c => match c with
  | 2 => some false
  | 3 => some false
  | 8 => some true
  | 9 => some true
  | _ => none
def is_ValueError : Nat → Option Bool := fun c => match c with
  | 2 => some true
  | 3 => some true
  | 8 => some false
  | 9 => some false
  | _ => none
def is_InvalidNumber : Nat → Option Bool := fun c => match c with
  | 2 => some true
  | 3 => some false
  | 8 => some false
  | 9 => some false
  | _ => none
def pf_given : Nat → Bool := fun c => match c with
  | 2 => true
  | 3 => true
  | 8 => false
  | 9 => true
  | _ => false
def is_NotAForm : Nat → Option Bool := fun c => match c with
  | 2 => some false
  | 3 => some true
  | 8 => some false
  | 9 => some false
  | _ => none
def is_NotPositive : Nat → Option Bool := fun c => match c with
  | 2 => some false
  | 3 => some false
  | 8 => some true
  | 9 => some false
  | _ => none
def is_TooGreat : Nat → Option Bool := fun c => match c with
  | 2 => some false
  | 3 => some false
  | 8 => some false
  | 9 => some true
  | _ => none
def mt_WrongValue : Nat → Option Bool := fun c => match c with
  | 2 => some true
  | 3 => some true
  | 8 => some false
  | 9 => some false
  | _ => none
theorem mt_WrongValue_ok : ∀ c, mt_WrongValue c = some true → hasC c = true := by
  intro c h
  unfold mt_WrongValue at h
  split at h <;> first | rfl | cases h
def mt_NoAnswer : Nat → Option Bool := fun c => match c with
  | 2 => some false
  | 3 => some false
  | 8 => some true
  | 9 => some true
  | _ => none
theorem mt_NoAnswer_ok : ∀ c, mt_NoAnswer c = some true → hasC c = true := by
  intro c h
  unfold mt_NoAnswer at h
  split at h <;> first | rfl | cases h
def mt_WrongName : Nat → Option Bool := fun c => match c with
  | 2 => some false
  | 3 => some false
  | 8 => some false
  | 9 => some false
  | _ => none
theorem mt_WrongName_ok : ∀ c, mt_WrongName c = some true → hasC c = true := by
  intro c h
  unfold mt_WrongName at h
  split at h <;> first | rfl | cases h
def is_Form : Nat → Bool := fun c => match c with
  | 102 => true
  | _ => false
def fi_Form_held : Nat → Option Nat := fun c => match c with
  | 102 => some 0
  | _ => none
def nx_Form_held : Nat → Option Nat := fun c => match c with
  | 100 => some 101
  | _ => none
def nx_Form_words : Nat → Option Nat := fun c => match c with
  | 101 => some 102
  | _ => none
def hasF : Nat → Bool := fun c => match c with
  | 2 => true
  | 3 => true
  | 8 => false
  | 9 => true
  | _ => false
def m__law_draw (n : Nat) : M Fl :=
  (mSq (mAsg (mOp dAdd (.e (mOp dIx (.n 0) (.e (mC (.int 2))))) (.e (mC (.int 1)))) (gSt 0 (mC (.int 2))))
    (mSq (mIf (mCmp dGt (.e (mOp dIx (.n 0) (.e (mC (.int 0))))) (.e (mC (.int 0))))
    (mSq (mSet 2 (mOp dMod (.e (mCB (op1 dInt) [(.e (mOp dIx (.n 0) (.e (mC (.int 0)))))])) (.e (mVar 1))))
    (mSq (mAsg (mOp dFdiv (.e (mOp dIx (.n 0) (.e (mC (.int 0))))) (.e (mVar 1))) (gSt 0 (mC (.int 0))))
    (mRet (mVar 2))))
    (mp .nx))
    (mSq (mSet 3 (mOp dAdd (.e (mCB (op1 dInt) [(.e (mOp dIx (.n 0) (.e (mC (.int 1)))))])) (.e (mOp dMul (.e (mC (.int 72019))) (.e (mOp dIx (.n 0) (.e (mC (.int 2)))))))))
    (mSq (mSet 4 (mOp dAdd (.e (mOp dMod (.e (mCB (op1 dInt) [(.e (mVar 3))])) (.e (mC (.int 67033))))) (.e (mC (.int 56009)))))
    (mSq (mAsg (mOp dMod (.e (mCB (op1 dInt) [(.e (mOp dAdd (.e (mOp dAdd (.e (mOp dMul (.e (mVar 3)) (.e (mVar 4)))) (.e (mOp dMul (.e (mC (.int 11))) (.e (mOp dIx (.n 0) (.e (mC (.int 2))))))))) (.e (mC (.int 19)))))])) (.e (mC (.int 2147483549)))) (gSt 0 (mC (.int 1))))
    (mRet (mOp dMod (.e (mOp dFdiv (.e (mCB (op1 dInt) [(.e (mOp dIx (.n 0) (.e (mC (.int 1)))))])) (.e (mC (.int 509))))) (.e (mVar 1)))))))))
def f__law_draw (n : Nat) : Fn := mkFn 2 5 (m__law_draw n)
def m__law_one (n : Nat) : M Fl :=
  (mRet (mOp dIx (.e (mVar 1)) (.e (mCv 2 (f__law_draw n) [(.n 0), (.e (mCB (op1 dLen) [(.e (mVar 1))]))]))))
def f__law_one (n : Nat) : Fn := mkFn 2 2 (m__law_one n)
def m__law_sort (n : Nat) : M Fl :=
  (mSq (mSet 1 (mFr (mLst (mCons (mIsE is_WrongValue (mVar 0)) (mCons (mIsE is_NoAnswer (mVar 0)) (mCons (mIsE is_WrongName (mVar 0)) mNil))))))
    (mSq (mSet 2 (mFr (mLst (mCons (mIsE is_ValueError (mVar 0)) (mCons (mIsE is_ArithmeticError (mVar 0)) (mCons (mIsE is_LookupError (mVar 0)) mNil))))))
    (mSq (mSetB 3 (mLst mNil))
    (mSq (mIf (mTru (.e (mIsE is_InvalidNumber (mVar 0))))
    (mEx (mApp 3 (mFr (mLst (mCons (mC (.str "InvalidNumber")) (mCons (mCB (op1 dRepr) [(.e (mXf pf_given (mVar 0)))]) mNil))))))
    (mp .nx))
    (mSq (mIf (mTru (.e (mIsE is_NotAForm (mVar 0))))
    (mEx (mApp 3 (mFr (mLst (mCons (mC (.str "NotAForm")) (mCons (mCB (op1 dRepr) [(.e (mXf pf_given (mVar 0)))]) mNil))))))
    (mp .nx))
    (mSq (mIf (mTru (.e (mIsE is_NotPositive (mVar 0))))
    (mEx (mApp 3 (mFr (mLst (mCons (mC (.str "NotPositive")) (mCons (mC (.str "None")) mNil))))))
    (mp .nx))
    (mSq (mIf (mTru (.e (mIsE is_TooGreat (mVar 0))))
    (mEx (mApp 3 (mFr (mLst (mCons (mC (.str "TooGreat")) (mCons (mCB (op1 dRepr) [(.e (mXf pf_given (mVar 0)))]) mNil))))))
    (mp .nx))
    (mRet (mIf (mAnd (mCmp dEq (.e (mCB (op1 dLen) [(.n 3)])) (.e (mC (.int 1)))) (mAnd (mCmp dEq (.e (mVar 1)) (.e (mVar 2))) (mCmp dEq (.e (mCountD (.e (mVar 1)) (mC (.bl true)))) (.e (mC (.int 1)))))) (mOp dIx (.n 3) (.e (mC (.int 0)))) (mFr (mLst (mCons (mC (.str "other")) mNil))))))))))))
def f__law_sort (n : Nat) : Fn := mkFn 1 4 (m__law_sort n)
def u__law_answer_1 (n : Nat) : M Fl :=
  (mRet (mCv 1 (f__law_sort n) [(.e (mVar 2))]))
def m__law_answer (n : Nat) (r : Rs D) : M Fl :=
  (mSq (mTryHs hasF [⟨.none, (mt3 mt_WrongValue mt_NoAnswer mt_WrongName), some 2, (u__law_answer_1 n)⟩]
    (mSet 1 (mAct 0 r)))
    (mRetF (mLst (mCons (mC (.str "returned")) (mCons (mVar 1) mNil)))))
def m_check_form (n : Nat) : M Fl :=
  (mIf (mNot (mTru (.e (mIsC is_Form (mVar 0)))))
    (mRaise 3 (mVar 0))
    (mp .nx))
def f_check_form (n : Nat) : Fn := mkFn 1 1 (m_check_form n)
def m_is_integer (n : Nat) : M Fl :=
  (mRet (mAndV (mCB (op2 dIsi) [(.e (mVar 0)), (.e (mC (.ty "int")))]) (mNotV (.e (mCB (op2 dIsi) [(.e (mVar 0)), (.e (mC (.ty "bool")))])))))
def f_is_integer (n : Nat) : Fn := mkFn 1 1 (m_is_integer n)
def m_is_between (n : Nat) : M Fl :=
  (mRet (mAndV (mCv 1 (f_is_integer n) [(.e (mVar 0))]) (mChain dLe dLe (.e (mVar 1)) (.e (mVar 0)) (.e (mVar 2)))))
def f_is_between (n : Nat) : Fn := mkFn 3 3 (m_is_between n)
def m_Form_kind (n : Nat) : M Fl :=
  (mRet (mOp dIx (.e (mUn (dOf fi_Form_held) (.e (mVar 0)))) (.e (mC (.int 4)))))
def f_Form_kind (n : Nat) : Fn := mkFn 1 1 (m_Form_kind n)
def m_first_beyond (n : Nat) : M Fl :=
  (mSq (mSet 2 (mFr (mLc (mIt (mVar 0)) [3] (Fw.setV 3) (mCmp dGt (.e (mCB (op1 dAbs) [(.e (mVar 3))])) (.e (mVar 1))) (mVar 3))))
    (mRet (mIf (mCmp dNe (.e (mVar 2)) (.e (mFr (mLst mNil)))) (mOp dIx (.e (mVar 2)) (.e (mC (.int 0)))) (mC .non))))
def f_first_beyond (n : Nat) : Fn := mkFn 2 4 (m_first_beyond n)
def m_Form_coefficients (n : Nat) : M Fl :=
  (mRet (mOp dIx (.e (mUn (dOf fi_Form_held) (.e (mVar 0)))) (.e (mC (.int 0)))))
def f_Form_coefficients (n : Nat) : Fn := mkFn 1 1 (m_Form_coefficients n)
def m_check_small (n : Nat) : M Fl :=
  (mSq (mIf (mCmp dNe (.e (mProp is_Form (f_Form_kind n) (mVar 0))) (.e (mC (.str "positive"))))
    (mRaise0 8)
    (mp .nx))
    (mSq (mSet 1 (mCv 2 (f_first_beyond n) [(.e (mProp is_Form (f_Form_coefficients n) (mVar 0))), (.e (mC (.int 1000)))]))
    (mIf (mNotNT (.e (mVar 1)))
    (mRaise 9 (mVar 1))
    (mp .nx))))
def f_check_small (n : Nat) : Fn := mkFn 1 2 (m_check_small n)
def m_check_number (n : Nat) : M Fl :=
  (mSq (mEx (mCv 1 (f_check_form n) [(.e (mVar 0))]))
    (mSq (mIf (mNot (mTru (.e (mCv 3 (f_is_between n) [(.e (mVar 1)), (.e (mC (.int 1))), (.e (mC (.int 1000)))]))))
    (mRaise 2 (mVar 1))
    (mp .nx))
    (mEx (mCv 1 (f_check_small n) [(.e (mVar 0))]))))
def f_check_number (n : Nat) : Fn := mkFn 2 2 (m_check_number n)
def m_unit_table (n : Nat) : M Fl :=
  (mRet (mCB (op1 dTuple) [(.e (mFr (mLc (mIA dR1 [(.e (mVar 0))]) [1] (Fw.setV 1) (mp true) (mCB (op1 dTuple) [(.e (mFr (mLc (mIA dR1 [(.e (mVar 0))]) [2] (Fw.setV 2) (mp true) (mCB (op1 dInt) [(.e (mOp dEq (.e (mVar 2)) (.e (mVar 1))))]))))]))))]))
def f_unit_table (n : Nat) : Fn := mkFn 1 3 (m_unit_table n)
def m_nearest_part (n : Nat) : M Fl :=
  (mRet (mOp dFdiv (.e (mOp dAdd (.e (mOp dMul (.e (mC (.int 2))) (.e (mVar 0)))) (.e (mVar 1)))) (.e (mOp dMul (.e (mC (.int 2))) (.e (mVar 1))))))
def f_nearest_part (n : Nat) : Fn := mkFn 2 2 (m_nearest_part n)
def m_product (n : Nat) : M Fl :=
  (mRet (mCB (op1 dSum) [(.e (mFr (mLc (mb (mCons (mVar 1) (mCons (mVar 0) mNil)) fun ds => mo (dPairs ds)) [3, 4] (gTupD 2 (gsCons (Fw.setV 3) (gsCons (Fw.setV 4) gsNil))) (mp true) (mOp dMul (.e (mVar 3)) (.e (mCB (op1 dSum) [(.e (mFr (mLc (mb (mCons (mVar 4) (mCons (mVar 2) mNil)) fun ds => mo (dPairs ds)) [5, 6] (gTupD 2 (gsCons (Fw.setV 5) (gsCons (Fw.setV 6) gsNil))) (mp true) (mOp dMul (.e (mVar 5)) (.e (mVar 6))))))]))))))]))
def f_product (n : Nat) : Fn := mkFn 3 7 (m_product n)
def m_combined (n : Nat) : M Fl :=
  (mRet (mCB (op1 dTuple) [(.e (mFr (mLc (mIA dR1 [(.e (mCB (op1 dLen) [(.e (mOp dIx (.e (mVar 1)) (.e (mC (.int 0)))))]))]) [2] (Fw.setV 2) (mp true) (mCB (op1 dSum) [(.e (mFr (mLc (mb (mCons (mVar 0) (mCons (mVar 1) mNil)) fun ds => mo (dPairs ds)) [3, 4] (gTupD 2 (gsCons (Fw.setV 3) (gsCons (Fw.setV 4) gsNil))) (mp true) (mOp dMul (.e (mVar 3)) (.e (mOp dIx (.e (mVar 4)) (.e (mVar 2))))))))]))))]))
def f_combined (n : Nat) : Fn := mkFn 2 5 (m_combined n)
def b_shorter_1 (n : Nat) : M Fl :=
  (mIf (mCmp dNe (.e (mVar 3)) (.e (mVar 2)))
    (mSq (mSet 4 (mCv 2 (f_nearest_part n) [(.e (mCv 3 (f_product n) [(.e (mVar 0)), (.e (mOp dIx (.e (mVar 1)) (.e (mVar 2)))), (.e (mOp dIx (.e (mVar 1)) (.e (mVar 3))))])), (.e (mCv 3 (f_product n) [(.e (mVar 0)), (.e (mOp dIx (.e (mVar 1)) (.e (mVar 3)))), (.e (mOp dIx (.e (mVar 1)) (.e (mVar 3))))]))]))
    (mSq (mSet 5 (mCv 2 (f_combined n) [(.e (mTup (mCons (mC (.int 1)) (mCons (mUn dNeg (.e (mVar 4))) mNil)))), (.e (mTup (mCons (mOp dIx (.e (mVar 1)) (.e (mVar 2))) (mCons (mOp dIx (.e (mVar 1)) (.e (mVar 3))) mNil))))]))
    (mIf (mCmp dLt (.e (mCv 3 (f_product n) [(.e (mVar 0)), (.e (mVar 5)), (.e (mVar 5))])) (.e (mCv 3 (f_product n) [(.e (mVar 0)), (.e (mOp dIx (.e (mVar 1)) (.e (mVar 2)))), (.e (mOp dIx (.e (mVar 1)) (.e (mVar 2))))])))
    (mSet 1 (mFr (mOpF dCat (.e (mFr (mOpF dCat (.e (mSl (.e (mVar 1)) none (some (mVar 2)) dCutV)) (.e (mFr (mLst (mCons (mVar 5) mNil))))))) (.e (mSl (.e (mVar 1)) (some (mOp dAdd (.e (mVar 2)) (.e (mC (.int 1))))) none dCutV)))))
    (mp .nx))))
    (mp .nx))
def m_shorter (n : Nat) : M Fl :=
  (mSq (mFor (mIA dR1 [(.e (mCB (op1 dLen) [(.e (mVar 1))]))]) (Fw.setV 3)
    (b_shorter_1 n))
    (mRet (mVar 1)))
def f_shorter (n : Nat) : Fn := mkFn 3 6 (m_shorter n)
def b_small_base_1 (n : Nat) : M Fl :=
  (mSet 1 (mCv 3 (f_shorter n) [(.e (mVar 0)), (.e (mVar 1)), (.e (mVar 3))]))
def c_small_base_1 (n : Nat) : M Bool :=
  (mCmp dNe (.e (mVar 1)) (.e (mVar 2)))
def b_small_base_2 (n : Nat) : M Fl :=
  (mSq (mSet 2 (mVar 1))
    (mSq (mFor (mIA dR1 [(.e (mCB (op1 dLen) [(.e (mVar 1))]))]) (Fw.setV 3)
    (b_small_base_1 n))
    (mSet 1 (mFr (mLc (mIt (mFr (mCF (op1 dSortedZ) [(.e (mFr (mLc (mIt (mVar 1)) [5] (Fw.setV 5) (mp true) (mTup (mCons (mCv 3 (f_product n) [(.e (mVar 0)), (.e (mVar 5)), (.e (mVar 5))]) (mCons (mVar 5) mNil))))))]))) [4, 5] (gTupD 2 (gsCons (Fw.setV 4) (gsCons (Fw.setV 5) gsNil))) (mp true) (mVar 5))))))
def m_small_base (n : Nat) : M Fl :=
  (mSq (mPar [1, 2] [.e (mFr (mCF (op1 dList) [(.e (mCv 1 (f_unit_table n) [(.e (mCB (op1 dLen) [(.e (mVar 0))]))]))])), .e (mFr (mLst mNil))])
    (mSq (mWh (c_small_base_1 n)
    (b_small_base_2 n) n)
    (mRet (mVar 1))))
def f_small_base (n : Nat) : Fn := mkFn 1 6 (m_small_base n)
def b_squares_of_1 (n : Nat) : M Fl :=
  (mSq (mSet 6 (mOp dIx (.e (mOp dIx (.n 1) (.e (mVar 5)))) (.e (mVar 4))))
    (mAsg (mFr (mLc (mIA dR1 [(.e (mVar 3))]) [8] (Fw.setV 8) (mp true) (mOp dFdiv (.e (mOp dSub (.e (mOp dMul (.e (mOp dIx (.e (mOp dIx (.n 1) (.e (mVar 4)))) (.e (mVar 4)))) (.e (mOp dIx (.e (mOp dIx (.n 1) (.e (mVar 5)))) (.e (mVar 8)))))) (.e (mOp dMul (.e (mVar 6)) (.e (mOp dIx (.e (mOp dIx (.n 1) (.e (mVar 4)))) (.e (mVar 8)))))))) (.e (mOp dIx (.n 2) (.e (mVar 4))))))) (gSt 1 (mVar 5))))
def b_squares_of_2 (n : Nat) : M Fl :=
  (mSq (mEx (mApp 2 (mOp dIx (.e (mOp dIx (.n 1) (.e (mVar 4)))) (.e (mVar 4)))))
    (mFor (mIA dR2 [(.e (mOp dAdd (.e (mVar 4)) (.e (mC (.int 1))))), (.e (mVar 3))]) (Fw.setV 5)
    (b_squares_of_1 n)))
def m_squares_of (n : Nat) : M Fl :=
  (mSq (mPar [1, 2, 3] [.f (mLc (mIt (mVar 0)) [7] (Fw.setV 7) (mp true) (mFr (mCF (op1 dList) [(.e (mVar 7))]))), .f (mLst (mCons (mC (.int 1)) mNil)), .e (mCB (op1 dLen) [(.e (mVar 0))])])
    (mSq (mFor (mIA dR1 [(.e (mVar 3))]) (Fw.setV 4)
    (b_squares_of_2 n))
    (mUb 1 (mUb 2 (mRet (mTup (mCons (mVar 1) (mCons (mVar 2) mNil))))))))
def f_squares_of (n : Nat) : Fn := mkFn 1 9 (m_squares_of n)
def m_table_of (n : Nat) : M Fl :=
  (mRet (mCB (op1 dTuple) [(.e (mFr (mLc (mIt (mVar 1)) [2] (Fw.setV 2) (mp true) (mCB (op1 dTuple) [(.e (mFr (mLc (mIt (mVar 1)) [3] (Fw.setV 3) (mp true) (mCv 3 (f_product n) [(.e (mVar 0)), (.e (mVar 2)), (.e (mVar 3))]))))]))))]))
def f_table_of (n : Nat) : Fn := mkFn 2 4 (m_table_of n)
def c_root_of_1 (n : Nat) : M Bool :=
  (mCmp dLe (.e (mOp dMul (.e (mVar 2)) (.e (mVar 2)))) (.e (mVar 0)))
def b_root_of_1 (n : Nat) : M Fl :=
  (mSet 2 (mOp dMul (.e (mC (.int 2))) (.e (mVar 2))))
def c_root_of_2 (n : Nat) : M Bool :=
  (mCmp dGt (.e (mOp dSub (.e (mVar 2)) (.e (mVar 1)))) (.e (mC (.int 1))))
def b_root_of_2 (n : Nat) : M Fl :=
  (mSq (mSet 3 (mOp dFdiv (.e (mOp dAdd (.e (mVar 1)) (.e (mVar 2)))) (.e (mC (.int 2)))))
    (mIf (mCmp dLe (.e (mOp dMul (.e (mVar 3)) (.e (mVar 3)))) (.e (mVar 0)))
    (mSet 1 (mVar 3))
    (mSet 2 (mVar 3))))
def m_root_of (n : Nat) : M Fl :=
  (mSq (mAsg (mTup (mCons (mC (.int 0)) (mCons (mC (.int 1)) mNil))) (gTupD 2 (gsCons (Fw.setV 1) (gsCons (Fw.setV 2) gsNil))))
    (mSq (mWh (c_root_of_1 n)
    (b_root_of_1 n) n)
    (mSq (mWh (c_root_of_2 n)
    (b_root_of_2 n) n)
    (mRet (mVar 1)))))
def f_root_of (n : Nat) : Fn := mkFn 1 4 (m_root_of n)
def m_exact_heads (n : Nat) : M Fl :=
  (mSq (mIf (mCmp dNe (.e (mOp dMod (.e (mOp dMul (.e (mVar 3)) (.e (mOp dIx (.e (mVar 1)) (.e (mC (.int 1))))))) (.e (mVar 4)))) (.e (mC (.int 0))))
    (mRetF (mLst mNil))
    (mp .nx))
    (mSq (mAsg (mTup (mCons (mOp dFdiv (.e (mOp dMul (.e (mVar 3)) (.e (mOp dIx (.e (mVar 1)) (.e (mC (.int 1))))))) (.e (mVar 4))) (mCons (mCB (op1 dSum) [(.e (mFr (mLc (mb (mCons (mSl (.e (mVar 0)) (some (mC (.int 1))) none dCutV) (mCons (mVar 2) mNil)) fun ds => mo (dPairs ds)) [10, 11] (gTupD 2 (gsCons (Fw.setV 10) (gsCons (Fw.setV 11) gsNil))) (mp true) (mOp dMul (.e (mVar 10)) (.e (mVar 11))))))]) mNil))) (gTupD 2 (gsCons (Fw.setV 5) (gsCons (Fw.setV 6) gsNil))))
    (mSq (mSet 7 (mCv 1 (f_root_of n) [(.e (mVar 5))]))
    (mSq (mIf (mCmp dNe (.e (mOp dMul (.e (mVar 7)) (.e (mVar 7)))) (.e (mVar 5)))
    (mRetF (mLst mNil))
    (mp .nx))
    (mSq (mSet 8 (mFr (mSD 7)))
    (mRetF (mLc (mIt (mVar 8)) [9] (Fw.setV 9) (mCmp dEq (.e (mOp dMod (.e (mOp dSub (.e (mVar 9)) (.e (mVar 6)))) (.e (mOp dIx (.e (mVar 1)) (.e (mC (.int 1))))))) (.e (mC (.int 0)))) (mOp dFdiv (.e (mOp dSub (.e (mVar 9)) (.e (mVar 6)))) (.e (mOp dIx (.e (mVar 1)) (.e (mC (.int 1)))))))))))))
def f_exact_heads (n : Nat) : Fn := mkFn 5 12 (m_exact_heads n)
def b_spread_1 (n : Nat) : M Fl :=
  (mSq (mSet 13 (mOp dAdd (.e (mOp dMul (.e (mOp dIx (.e (mVar 1)) (.e (mOp dAdd (.e (mVar 2)) (.e (mC (.int 1))))))) (.e (mVar 12)))) (.e (mVar 7))))
    (mEx (mApp 11 (mTup (mCons (mVar 12) (mCons (mOp dSub (.e (mOp dMul (.e (mVar 4)) (.e (mVar 6)))) (.e (mOp dMul (.e (mOp dMul (.e (mVar 13)) (.e (mVar 13)))) (.e (mVar 5))))) (mCons (mOp dMul (.e (mVar 5)) (.e (mVar 6))) mNil)))))))
def m_spread (n : Nat) : M Fl :=
  (mSq (mSet 6 (mOp dMul (.e (mOp dIx (.e (mVar 1)) (.e (mVar 2)))) (.e (mOp dIx (.e (mVar 1)) (.e (mOp dAdd (.e (mVar 2)) (.e (mC (.int 1)))))))))
    (mSq (mSet 7 (mCB (op1 dSum) [(.e (mFr (mLc (mb (mCons (mSl (.e (mVar 0)) (some (mOp dAdd (.e (mVar 2)) (.e (mC (.int 1))))) none dCutV) (mCons (mVar 3) mNil)) fun ds => mo (dPairs ds)) [14, 12] (gTupD 2 (gsCons (Fw.setV 14) (gsCons (Fw.setV 12) gsNil))) (mp true) (mOp dMul (.e (mVar 14)) (.e (mVar 12))))))]))
    (mSq (mSet 8 (mCv 1 (f_root_of n) [(.e (mOp dFdiv (.e (mOp dMul (.e (mVar 4)) (.e (mVar 6)))) (.e (mVar 5))))]))
    (mSq (mPar [9, 10] [.e (mUn dNeg (.e (mOp dFdiv (.e (mOp dAdd (.e (mVar 8)) (.e (mVar 7)))) (.e (mOp dIx (.e (mVar 1)) (.e (mOp dAdd (.e (mVar 2)) (.e (mC (.int 1)))))))))), .e (mOp dFdiv (.e (mOp dSub (.e (mVar 8)) (.e (mVar 7)))) (.e (mOp dIx (.e (mVar 1)) (.e (mOp dAdd (.e (mVar 2)) (.e (mC (.int 1))))))))])
    (mSq (mSetB 11 (mLst mNil))
    (mSq (mFor (mIA dR2 [(.e (mVar 9)), (.e (mOp dAdd (.e (mVar 10)) (.e (mC (.int 1)))))]) (Fw.setV 12)
    (b_spread_1 n))
    (mRetB 11)))))))
def f_spread (n : Nat) : Fn := mkFn 6 15 (m_spread n)
def b_writings_from_1 (n : Nat) (self : Fn) : M Fl :=
  (mSq (mEx (mExt 6 (mFr (mCl 6 self [(.e (mVar 0)), (.e (mVar 1)), (.e (mOp dSub (.e (mVar 2)) (.e (mC (.int 1))))), (.e (mOp dAdd (.e (mTup (mCons (mVar 7) mNil))) (.e (mVar 3)))), (.e (mTup (mCons (mVar 8) (mCons (mVar 9) mNil)))), (.e (mVar 5))]))))
    (mIf (mAnd (mTru (.e (mVar 5))) (mCmp dNe (.n 6) (.e (mFr (mLst mNil)))))
    (mRetB 6)
    (mp .nx)))
def m_writings_from (n : Nat) (self : Fn) : M Fl :=
  (mSq (mIf (mCmp dEq (.e (mVar 2)) (.e (mC (.int 0))))
    (mRetF (mLc (mIt (mFr (mCl 5 (f_exact_heads n) [(.e (mOp dIx (.e (mVar 0)) (.e (mC (.int 0))))), (.e (mVar 1)), (.e (mVar 3)), (.e (mOp dIx (.e (mVar 4)) (.e (mC (.int 0))))), (.e (mOp dIx (.e (mVar 4)) (.e (mC (.int 1)))))]))) [7] (Fw.setV 7) (mp true) (mOp dAdd (.e (mTup (mCons (mVar 7) mNil))) (.e (mVar 3)))))
    (mp .nx))
    (mSq (mSetB 6 (mLst mNil))
    (mSq (mFor (mIt (mFr (mCl 6 (f_spread n) [(.e (mOp dIx (.e (mVar 0)) (.e (mVar 2)))), (.e (mVar 1)), (.e (mVar 2)), (.e (mVar 3)), (.e (mOp dIx (.e (mVar 4)) (.e (mC (.int 0))))), (.e (mOp dIx (.e (mVar 4)) (.e (mC (.int 1)))))]))) (gTupD 3 (gsCons (Fw.setV 7) (gsCons (Fw.setV 8) (gsCons (Fw.setV 9) gsNil))))
    (b_writings_from_1 n self))
    (mRetB 6))))
def f_writings_from (n : Nat) : Nat → Fn
  | 0 => mkFn 6 10 (fun _ => .bad)
  | k + 1 => mkFn 6 10 (m_writings_from n (f_writings_from n k))
def m_vectors_of (n : Nat) : M Fl :=
  (mSq (mSet 3 (mCv 1 (f_small_base n) [(.e (mVar 0))]))
    (mSq (mAsg (mCv 1 (f_squares_of n) [(.e (mCv 2 (f_table_of n) [(.e (mVar 0)), (.e (mVar 3))]))]) (gTupD 2 (gsCons (Fw.setV 4) (gsCons (Fw.setV 5) gsNil))))
    (mRetF (mLc (mIt (mFr (mCl 6 (f_writings_from n 6) [(.e (mVar 4)), (.e (mVar 5)), (.e (mOp dSub (.e (mCB (op1 dLen) [(.e (mVar 0))])) (.e (mC (.int 1))))), (.e (mTup mNil)), (.e (mTup (mCons (mOp dMul (.e (mC (.int 2))) (.e (mVar 1))) (mCons (mC (.int 1)) mNil)))), (.e (mVar 2))]))) [6] (Fw.setV 6) (mp true) (mCv 2 (f_combined n) [(.e (mVar 6)), (.e (mVar 3))])))))
def f_vectors_of (n : Nat) : Fn := mkFn 3 7 (m_vectors_of n)
def m_Form_table (n : Nat) : M Fl :=
  (mRet (mOp dIx (.e (mUn (dOf fi_Form_held) (.e (mVar 0)))) (.e (mC (.int 1)))))
def f_Form_table (n : Nat) : Fn := mkFn 1 1 (m_Form_table n)
def m_is_given (n : Nat) : M Fl :=
  (mRet (mOp dNe (.e (mFr (mCl 3 (f_vectors_of n) [(.e (mProp is_Form (f_Form_table n) (mVar 0))), (.e (mVar 1)), (.e (mC (.bl true)))]))) (.e (mFr (mLst mNil)))))
def f_is_given (n : Nat) : Fn := mkFn 2 2 (m_is_given n)
def m_gives (n : Nat) : M Fl :=
  (mSq (mEx (mCv 2 (f_check_number n) [(.e (mVar 0)), (.e (mVar 1))]))
    (mRet (mCv 2 (f_is_given n) [(.e (mVar 0)), (.e (mVar 1))])))
def f_gives (n : Nat) : Fn := mkFn 2 2 (m_gives n)
def m_all_writings (n : Nat) : M Fl :=
  (mRetF (mCF (op1 dSortedZ) [(.e (mFr (mCl 3 (f_vectors_of n) [(.e (mProp is_Form (f_Form_table n) (mVar 0))), (.e (mVar 1)), (.e (mC (.bl false)))])))]))
def f_all_writings (n : Nat) : Fn := mkFn 2 2 (m_all_writings n)
def m_writings (n : Nat) : M Fl :=
  (mSq (mEx (mCv 2 (f_check_number n) [(.e (mVar 0)), (.e (mVar 1))]))
    (mRet (mCB (op1 dTuple) [(.e (mFr (mCl 2 (f_all_writings n) [(.e (mVar 0)), (.e (mVar 1))])))])))
def f_writings (n : Nat) : Fn := mkFn 2 2 (m_writings n)
def m_count_writings (n : Nat) : M Fl :=
  (mSq (mEx (mCv 2 (f_check_number n) [(.e (mVar 0)), (.e (mVar 1))]))
    (mRet (mCB (op1 dLen) [(.e (mFr (mCl 2 (f_all_writings n) [(.e (mVar 0)), (.e (mVar 1))])))])))
def f_count_writings (n : Nat) : Fn := mkFn 2 2 (m_count_writings n)
def c_common_divisor_1 (n : Nat) : M Bool :=
  (mCmp dNe (.e (mVar 1)) (.e (mC (.int 0))))
def b_common_divisor_1 (n : Nat) : M Fl :=
  (mPar [0, 1] [.e (mVar 1), .e (mOp dMod (.e (mVar 0)) (.e (mVar 1)))])
def m_common_divisor (n : Nat) : M Fl :=
  (mSq (mPar [0, 1] [.e (mCB (op1 dAbs) [(.e (mVar 0))]), .e (mCB (op1 dAbs) [(.e (mVar 1))])])
    (mSq (mWh (c_common_divisor_1 n)
    (b_common_divisor_1 n) n)
    (mRet (mVar 0))))
def f_common_divisor (n : Nat) : Fn := mkFn 2 2 (m_common_divisor n)
def b_common_of_1 (n : Nat) : M Fl :=
  (mSet 1 (mCv 2 (f_common_divisor n) [(.e (mVar 1)), (.e (mVar 2))]))
def m_common_of (n : Nat) : M Fl :=
  (mSq (mSet 1 (mC (.int 0)))
    (mSq (mFor (mIt (mVar 0)) (Fw.setV 2)
    (b_common_of_1 n))
    (mRet (mVar 1))))
def f_common_of (n : Nat) : Fn := mkFn 1 3 (m_common_of n)
def m_count_proper (n : Nat) : M Fl :=
  (mSq (mEx (mCv 2 (f_check_number n) [(.e (mVar 0)), (.e (mVar 1))]))
    (mRet (mCB (op1 dLen) [(.e (mFr (mLc (mIt (mFr (mCl 2 (f_all_writings n) [(.e (mVar 0)), (.e (mVar 1))]))) [2] (Fw.setV 2) (mCmp dEq (.e (mCv 1 (f_common_of n) [(.e (mVar 2))])) (.e (mC (.int 1)))) (mVar 2))))])))
def f_count_proper (n : Nat) : Fn := mkFn 2 3 (m_count_proper n)
def m_missed (n : Nat) : M Fl :=
  (mSq (mEx (mCv 2 (f_check_number n) [(.e (mVar 0)), (.e (mVar 1))]))
    (mRet (mCB (op1 dTuple) [(.e (mFr (mLc (mIA dR2 [(.e (mC (.int 1))), (.e (mOp dAdd (.e (mVar 1)) (.e (mC (.int 1)))))]) [2] (Fw.setV 2) (mNot (mTru (.e (mCv 2 (f_is_given n) [(.e (mVar 0)), (.e (mVar 2))])))) (mVar 2))))])))
def f_missed (n : Nat) : Fn := mkFn 2 3 (m_missed n)
def m__law_calls (n : Nat) : M Fl :=
  (mSq (mSetB 2 (mLst (mCons (mLam 3 (m__law_answer n) (mCv 2 (f_gives n) [(.e (mVar 0)), (.e (mVar 1))])) mNil)))
    (mSq (mEx (mApp 2 (mLam 3 (m__law_answer n) (mCvP 2 (f_writings n) [1, 0] [(.e (mVar 1)), (.e (mVar 0))]))))
    (mSq (mEx (mApp 2 (mLam 3 (m__law_answer n) (mCv 2 (f_count_writings n) [(.e (mVar 0)), (.e (mVar 1))]))))
    (mSq (mEx (mApp 2 (mLam 3 (m__law_answer n) (mCv 2 (f_count_proper n) [(.e (mVar 0)), (.e (mVar 1))]))))
    (mSq (mEx (mApp 2 (mLam 3 (m__law_answer n) (mCvP 2 (f_missed n) [1, 0] [(.e (mVar 1)), (.e (mVar 0))]))))
    (mRetB 2))))))
def f__law_calls (n : Nat) : Fn := mkFn 2 3 (m__law_calls n)
def m_pairs_of (n : Nat) : M Fl :=
  (mRetF (mLc2 (mIA dR1 [(.e (mVar 0))]) [1, 2] [2] (Fw.setV 1) (mp true) (mIA dR2 [(.e (mVar 1)), (.e (mVar 0))]) (Fw.setV 2) (mp true) (mTup (mCons (mVar 1) (mCons (mVar 2) mNil)))))
def f_pairs_of (n : Nat) : Fn := mkFn 1 3 (m_pairs_of n)
def m_Form_unknowns (n : Nat) : M Fl :=
  (mRet (mCB (op1 dLen) [(.e (mOp dIx (.e (mUn (dOf fi_Form_held) (.e (mVar 0)))) (.e (mC (.int 1)))))]))
def f_Form_unknowns (n : Nat) : Fn := mkFn 1 1 (m_Form_unknowns n)
def m_Form_is_even_between (n : Nat) : M Fl :=
  (mSq (mSet 1 (mFr (mb (mCons (mFr (mCl 1 (f_pairs_of n) [(.e (mProp is_Form (f_Form_unknowns n) (mVar 0)))])) (mCons (mOp dIx (.e (mUn (dOf fi_Form_held) (.e (mVar 0)))) (.e (mC (.int 0)))) mNil)) fun ds => mo (dZipL ds))))
    (mRet (mCB (op1 dAll) [(.e (mFr (mLc (mIt (mVar 1)) [2, 3, 4] (gTupD 2 (gsCons (gTupD 2 (gsCons (Fw.setV 2) (gsCons (Fw.setV 3) gsNil))) (gsCons (Fw.setV 4) gsNil))) (mp true) (mOrV (mOp dEq (.e (mVar 2)) (.e (mVar 3))) (mOp dEq (.e (mOp dMod (.e (mVar 4)) (.e (mC (.int 2))))) (.e (mC (.int 0))))))))])))
def f_Form_is_even_between (n : Nat) : Fn := mkFn 1 5 (m_Form_is_even_between n)
def m_keys_of (n : Nat) : M Fl :=
  (mRet (mIf (mTru (.e (mProp is_Form (f_Form_is_even_between n) (mVar 0)))) (mC (.ktu [1, 2, 3, 5, 6, 7, 10, 14, 15])) (mC (.ktu [1, 2, 3, 5, 6, 7, 10, 13, 14, 15, 17, 19, 21, 22, 23, 26, 29, 30, 31, 34, 35, 37, 42, 58, 93, 110, 145, 203, 290]))))
def f_keys_of (n : Nat) : Fn := mkFn 1 1 (m_keys_of n)
def b_first_missed_1 (n : Nat) : M Fl :=
  (mIf (mNot (mTru (.e (mCv 2 (f_is_given n) [(.e (mVar 0)), (.e (mVar 1))]))))
    (mRet (mVar 1))
    (mp .nx))
def m_first_missed (n : Nat) : M Fl :=
  (mSq (mFor (mIt (mCv 1 (f_keys_of n) [(.e (mVar 0))])) (Fw.setV 1)
    (b_first_missed_1 n))
    (mRet (mC .non)))
def f_first_missed (n : Nat) : Fn := mkFn 1 2 (m_first_missed n)
def m_gives_all (n : Nat) : M Fl :=
  (mSq (mEx (mCv 1 (f_check_form n) [(.e (mVar 0))]))
    (mSq (mEx (mCv 1 (f_check_small n) [(.e (mVar 0))]))
    (mRet (mIsN (.e (mCv 1 (f_first_missed n) [(.e (mVar 0))]))))))
def f_gives_all (n : Nat) : Fn := mkFn 1 1 (m_gives_all n)
def m_least_missed (n : Nat) : M Fl :=
  (mSq (mEx (mCv 1 (f_check_form n) [(.e (mVar 0))]))
    (mSq (mEx (mCv 1 (f_check_small n) [(.e (mVar 0))]))
    (mSq (mIf (mIsNT (.e (mCv 1 (f_first_missed n) [(.e (mVar 0))])))
    (mRet (mC .non))
    (mp .nx))
    (mRet (mOp dIx (.e (mFr (mLc (mIA dR2 [(.e (mC (.int 1))), (.e (mOp dAdd (.e (mCv 1 (f_first_missed n) [(.e (mVar 0))])) (.e (mC (.int 1)))))]) [1] (Fw.setV 1) (mNot (mTru (.e (mCv 2 (f_is_given n) [(.e (mVar 0)), (.e (mVar 1))])))) (mVar 1)))) (.e (mC (.int 0))))))))
def f_least_missed (n : Nat) : Fn := mkFn 1 2 (m_least_missed n)
def m__law_all_calls (n : Nat) : M Fl :=
  (mSq (mSetB 1 (mLst (mCons (mLam 3 (m__law_answer n) (mCv 1 (f_gives_all n) [(.e (mVar 0))])) mNil)))
    (mSq (mEx (mApp 1 (mLam 3 (m__law_answer n) (mCvP 1 (f_gives_all n) [0] [(.e (mVar 0))]))))
    (mSq (mEx (mApp 1 (mLam 3 (m__law_answer n) (mCv 1 (f_least_missed n) [(.e (mVar 0))]))))
    (mSq (mEx (mApp 1 (mLam 3 (m__law_answer n) (mCvP 1 (f_least_missed n) [0] [(.e (mVar 0))]))))
    (mRetB 1)))))
def f__law_all_calls (n : Nat) : Fn := mkFn 1 2 (m__law_all_calls n)
def m__law_odd_forms (n : Nat) : M Fl :=
  (mSq (mSet 0 (mFr (mLst (mCons (mFr (mLst (mCons (mTup (mCons (mC (.int 1)) (mCons (mC (.int 0)) (mCons (mUn dNeg (.e (mC (.int 1)))) mNil)))) (mCons (mFr (mLst (mCons (mC (.str "NotPositive")) (mCons (mC (.str "None")) mNil)))) mNil)))) (mCons (mFr (mLst (mCons (mTup (mCons (mUn dNeg (.e (mC (.int 2)))) (mCons (mC (.int 1)) (mCons (mUn dNeg (.e (mC (.int 3)))) mNil)))) (mCons (mFr (mLst (mCons (mC (.str "NotPositive")) (mCons (mC (.str "None")) mNil)))) mNil)))) mNil)))))
    (mSq (mSet 0 (mFr (mOpF dCat (.e (mVar 0)) (.e (mFr (mLst (mCons (mFr (mLst (mCons (mTup (mCons (mC (.int 1)) (mCons (mC (.int 2)) (mCons (mC (.int 1)) mNil)))) (mCons (mFr (mLst (mCons (mC (.str "NotPositive")) (mCons (mC (.str "None")) mNil)))) mNil)))) (mCons (mFr (mLst (mCons (mTup (mCons (mC (.int 0)) (mCons (mC (.int 0)) (mCons (mC (.int 0)) mNil)))) (mCons (mFr (mLst (mCons (mC (.str "NotPositive")) (mCons (mC (.str "None")) mNil)))) mNil)))) mNil))))))))
    (mSq (mSet 0 (mFr (mOpF dCat (.e (mVar 0)) (.e (mFr (mLst (mCons (mFr (mLst (mCons (mTup (mCons (mC (.int 1)) (mCons (mC (.int 0)) (mCons (mC (.int 0)) (mCons (mC (.int 1)) (mCons (mC (.int 0)) (mCons (mC (.int 0)) mNil))))))) (mCons (mFr (mLst (mCons (mC (.str "NotPositive")) (mCons (mC (.str "None")) mNil)))) mNil)))) (mCons (mFr (mLst (mCons (mTup (mCons (mC (.int 2000)) (mCons (mC (.int 0)) (mCons (mUn dNeg (.e (mC (.int 5000)))) mNil)))) (mCons (mFr (mLst (mCons (mC (.str "NotPositive")) (mCons (mC (.str "None")) mNil)))) mNil)))) mNil))))))))
    (mSq (mSet 0 (mFr (mOpF dCat (.e (mVar 0)) (.e (mFr (mLst (mCons (mFr (mLst (mCons (mTup (mCons (mC (.int 1001)) (mCons (mC (.int 0)) (mCons (mC (.int 2000)) mNil)))) (mCons (mFr (mLst (mCons (mC (.str "TooGreat")) (mCons (mC (.str "1001")) mNil)))) mNil)))) (mCons (mFr (mLst (mCons (mTup (mCons (mC (.int 1)) (mCons (mC (.int 0)) (mCons (mC (.int 1001)) mNil)))) (mCons (mFr (mLst (mCons (mC (.str "TooGreat")) (mCons (mC (.str "1001")) mNil)))) mNil)))) mNil))))))))
    (mSq (mSet 0 (mFr (mOpF dCat (.e (mVar 0)) (.e (mFr (mLst (mCons (mFr (mLst (mCons (mTup (mCons (mC (.int 999)) (mCons (mUn dNeg (.e (mC (.int 1001)))) (mCons (mC (.int 999)) mNil)))) (mCons (mFr (mLst (mCons (mC (.str "TooGreat")) (mCons (mC (.str "-1001")) mNil)))) mNil)))) (mCons (mFr (mLst (mCons (mTup (mCons (mC (.int 5)) (mCons (mC (.int 0)) (mCons (mC (.int 0)) (mCons (mC (.int 7)) (mCons (mC (.int 0)) (mCons (mOp dPow (.e (mC (.int 10))) (.e (mC (.int 9)))) mNil))))))) (mCons (mFr (mLst (mCons (mC (.str "TooGreat")) (mCons (mC (.str "1000000000")) mNil)))) mNil)))) mNil))))))))
    (mRetF (mOpF dCat (.e (mVar 0)) (.e (mFr (mLst (mCons (mFr (mLst (mCons (mTup (mCons (mC (.int 3)) (mCons (mC (.int 0)) (mCons (mC (.int 0)) (mCons (mC (.int 0)) (mCons (mC (.int 3)) (mCons (mC (.int 0)) (mCons (mC (.int 0)) (mCons (mC (.int 3)) (mCons (mC (.int 0)) (mCons (mC (.int 5000)) mNil))))))))))) (mCons (mFr (mLst (mCons (mC (.str "TooGreat")) (mCons (mC (.str "5000")) mNil)))) mNil)))) mNil)))))))))))
def f__law_odd_forms (n : Nat) : Fn := mkFn 0 1 (m__law_odd_forms n)
def b_check_coefficients_1 (n : Nat) : M Fl :=
  (mIf (mNot (mTru (.e (mCv 3 (f_is_between n) [(.e (mVar 2)), (.e (mUn dNeg (.e (mC (.int 1000000000000))))), (.e (mC (.int 1000000000000)))]))))
    (fun _ => .bad)
    (mp .nx))
def m_check_coefficients (n : Nat) : M Fl :=
  (mSq (mIf (mOr (mNot (mTru (.e (mCB (op2 dIsi) [(.e (mVar 0)), (.e (mC (.ty "tuple")))])))) (mGin true [(3, 2), (6, 3), (10, 4), (15, 5)] (mCB (op1 dLen) [(.e (mVar 0))])))
    (fun _ => .bad)
    (mp .nx))
    (mFor (mb (mCons (mVar 0) mNil) fun ds => mo (dNums ds)) (gTupD 2 (gsCons (Fw.setV 1) (gsCons (Fw.setV 2) gsNil)))
    (b_check_coefficients_1 n)))
def f_check_coefficients (n : Nat) : Fn := mkFn 1 3 (m_check_coefficients n)
def b_table_for_1 (n : Nat) : NS :=
  (nSq (nStore (mVar 3) (mVar 4) (neOp dAdd (neIx (mVar 3) (mVar 4)) (neL (mVar 5)))) (nStore (mVar 4) (mVar 3) (neOp dAdd (neIx (mVar 4) (mVar 3)) (neL (mVar 5)))))
def m_table_for (n : Nat) : M Fl :=
  (mSq (mSet 1 (mGd [(3, 2), (6, 3), (10, 4), (15, 5)] (mCB (op1 dLen) [(.e (mVar 0))])))
    (mNst 2 (mIA dR1 [(.e (mVar 1))]) [3] (Fw.setV 3) (mOpF dRep (.e (mFr (mLst (mCons (mC (.int 0)) mNil)))) (.e (mVar 1))) (nFor (mb (mCons (mFr (mCl 1 (f_pairs_of n) [(.e (mVar 1))])) (mCons (mVar 0) mNil)) fun ds => mo (dPairs ds)) (gTupD 2 (gsCons (gTupD 2 (gsCons (Fw.setV 3) (gsCons (Fw.setV 4) gsNil))) (gsCons (Fw.setV 5) gsNil))) (b_table_for_1 n))
    (mRet (mCB (op1 dTuple) [(.e (mFr (mLc (mIt (mVar 2)) [3] (Fw.setV 3) (mp true) (mCB (op1 dTuple) [(.e (mVar 3))]))))]))))
def f_table_for (n : Nat) : Fn := mkFn 1 6 (m_table_for n)
def m_exchanged (n : Nat) : M Fl :=
  (mSq (mSetB 3 (mLr1 (mCB (op1 dLen) [(.e (mVar 0))])))
    (mSq (mAsg (mTup (mCons (mOp dIx (.n 3) (.e (mVar 2))) (mCons (mOp dIx (.n 3) (.e (mVar 1))) mNil))) (gTupD 2 (gsCons (gSt 3 (mVar 1)) (gsCons (gSt 3 (mVar 2)) gsNil))))
    (mUb 3 (mRetF (mLc (mIt (mVar 3)) [4] (Fw.setV 4) (mp true) (mFr (mLc (mIt (mVar 3)) [5] (Fw.setV 5) (mp true) (mOp dIx (.e (mOp dIx (.e (mVar 0)) (.e (mVar 4)))) (.e (mVar 5))))))))))
def f_exchanged (n : Nat) : Fn := mkFn 3 6 (m_exchanged n)
def m_fraction (n : Nat) : M Fl :=
  (mSq (mSet 2 (mCv 2 (f_common_divisor n) [(.e (mVar 0)), (.e (mVar 1))]))
    (mSq (mSet 2 (mIf (mCmp dGt (.e (mVar 1)) (.e (mC (.int 0)))) (mVar 2) (mUn dNeg (.e (mVar 2)))))
    (mRet (mTup (mCons (mOp dFdiv (.e (mVar 0)) (.e (mVar 2))) (mCons (mOp dFdiv (.e (mVar 1)) (.e (mVar 2))) mNil))))))
def f_fraction (n : Nat) : Fn := mkFn 2 3 (m_fraction n)
def m_plus (n : Nat) : M Fl :=
  (mRet (mCv 2 (f_fraction n) [(.e (mOp dAdd (.e (mOp dMul (.e (mOp dIx (.e (mVar 0)) (.e (mC (.int 0))))) (.e (mOp dIx (.e (mVar 1)) (.e (mC (.int 1))))))) (.e (mOp dMul (.e (mOp dIx (.e (mVar 1)) (.e (mC (.int 0))))) (.e (mOp dIx (.e (mVar 0)) (.e (mC (.int 1))))))))), (.e (mOp dMul (.e (mOp dIx (.e (mVar 0)) (.e (mC (.int 1))))) (.e (mOp dIx (.e (mVar 1)) (.e (mC (.int 1)))))))]))
def f_plus (n : Nat) : Fn := mkFn 2 2 (m_plus n)
def m_added (n : Nat) : M Fl :=
  (mRetF (mLc (mb (mCons (mVar 0) mNil) fun ds => mo (dNums ds)) [3, 4] (gTupD 2 (gsCons (Fw.setV 3) (gsCons (Fw.setV 4) gsNil))) (mp true) (mIf (mCmp dEq (.e (mVar 3)) (.e (mVar 1))) (mCv 2 (f_plus n) [(.e (mVar 4)), (.e (mOp dIx (.e (mVar 0)) (.e (mVar 2))))]) (mVar 4))))
def f_added (n : Nat) : Fn := mkFn 3 5 (m_added n)
def m_summed (n : Nat) : M Fl :=
  (mSq (mSetB 3 (mLc (mIt (mVar 0)) [4] (Fw.setV 4) (mp true) (mFr (mCl 3 (f_added n) [(.e (mVar 4)), (.e (mVar 1)), (.e (mVar 2))]))))
    (mSq (mAsg (mFr (mLc (mb (mCons (mOp dIx (.n 3) (.e (mVar 1))) (mCons (mOp dIx (.n 3) (.e (mVar 2))) mNil)) fun ds => mo (dPairs ds)) [5, 6] (gTupD 2 (gsCons (Fw.setV 5) (gsCons (Fw.setV 6) gsNil))) (mp true) (mCv 2 (f_plus n) [(.e (mVar 5)), (.e (mVar 6))]))) (gSt 3 (mVar 1)))
    (mRetB 3)))
def f_summed (n : Nat) : Fn := mkFn 3 7 (m_summed n)
def b_with_lead_1 (n : Nat) : M Fl :=
  (mIf (mCmp dNe (.e (mOp dIx (.e (mOp dIx (.e (mOp dIx (.e (mVar 0)) (.e (mVar 2)))) (.e (mVar 2)))) (.e (mC (.int 0))))) (.e (mC (.int 0))))
    (mRetF (mCl 3 (f_exchanged n) [(.e (mVar 0)), (.e (mC (.int 0))), (.e (mVar 2))]))
    (mp .nx))
def b_with_lead_2 (n : Nat) : M Fl :=
  (mIf (mCmp dNe (.e (mOp dIx (.e (mOp dIx (.e (mOp dIx (.e (mVar 0)) (.e (mVar 3)))) (.e (mVar 4)))) (.e (mC (.int 0))))) (.e (mC (.int 0))))
    (mRetF (mCl 3 (f_exchanged n) [(.e (mFr (mCl 3 (f_summed n) [(.e (mVar 0)), (.e (mVar 3)), (.e (mVar 4))]))), (.e (mC (.int 0))), (.e (mVar 3))]))
    (mp .nx))
def b_with_lead_3 (n : Nat) : M Fl :=
  (mFor (mIA dR2 [(.e (mOp dAdd (.e (mVar 3)) (.e (mC (.int 1))))), (.e (mVar 1))]) (Fw.setV 4)
    (b_with_lead_2 n))
def m_with_lead (n : Nat) : M Fl :=
  (mSq (mSet 1 (mCB (op1 dLen) [(.e (mVar 0))]))
    (mSq (mFor (mIA dR1 [(.e (mVar 1))]) (Fw.setV 2)
    (b_with_lead_1 n))
    (mSq (mFor (mIA dR1 [(.e (mVar 1))]) (Fw.setV 3)
    (b_with_lead_3 n))
    (mRet (mVar 0)))))
def f_with_lead (n : Nat) : Fn := mkFn 1 5 (m_with_lead n)
def b_behind_1 (n : Nat) : M Fl :=
  (mSq (mSet 6 (mOp dSub (.e (mOp dMul (.e (mOp dMul (.e (mOp dIx (.e (mVar 4)) (.e (mC (.int 0))))) (.e (mOp dIx (.e (mVar 2)) (.e (mC (.int 1))))))) (.e (mOp dIx (.e (mVar 5)) (.e (mC (.int 1))))))) (.e (mOp dMul (.e (mOp dMul (.e (mOp dIx (.e (mVar 2)) (.e (mC (.int 0))))) (.e (mOp dIx (.e (mVar 5)) (.e (mC (.int 0))))))) (.e (mOp dIx (.e (mVar 4)) (.e (mC (.int 1)))))))))
    (mEx (mApp 3 (mCv 2 (f_fraction n) [(.e (mVar 6)), (.e (mOp dMul (.e (mOp dMul (.e (mOp dIx (.e (mVar 4)) (.e (mC (.int 1))))) (.e (mOp dIx (.e (mVar 2)) (.e (mC (.int 1))))))) (.e (mOp dIx (.e (mVar 5)) (.e (mC (.int 1)))))))]))))
def m_behind (n : Nat) : M Fl :=
  (mSq (mIf (mCmp dEq (.e (mOp dIx (.e (mOp dIx (.e (mVar 1)) (.e (mC (.int 0))))) (.e (mC (.int 0))))) (.e (mC (.int 0))))
    (mRet (mSl (.e (mVar 0)) (some (mC (.int 1))) none dCutV))
    (mp .nx))
    (mSq (mSet 2 (mCv 2 (f_fraction n) [(.e (mOp dMul (.e (mOp dIx (.e (mOp dIx (.e (mVar 0)) (.e (mC (.int 0))))) (.e (mC (.int 0))))) (.e (mOp dIx (.e (mOp dIx (.e (mVar 1)) (.e (mC (.int 0))))) (.e (mC (.int 1))))))), (.e (mOp dMul (.e (mOp dIx (.e (mOp dIx (.e (mVar 0)) (.e (mC (.int 0))))) (.e (mC (.int 1))))) (.e (mOp dIx (.e (mOp dIx (.e (mVar 1)) (.e (mC (.int 0))))) (.e (mC (.int 0)))))))]))
    (mSq (mSetB 3 (mLst mNil))
    (mSq (mFor (mb (mCons (mSl (.e (mVar 0)) (some (mC (.int 1))) none dCutV) (mCons (mSl (.e (mVar 1)) (some (mC (.int 1))) none dCutV) mNil)) fun ds => mo (dPairs ds)) (gTupD 2 (gsCons (Fw.setV 4) (gsCons (Fw.setV 5) gsNil)))
    (b_behind_1 n))
    (mRetB 3)))))
def f_behind (n : Nat) : Fn := mkFn 2 7 (m_behind n)
def c_diagonal_1 (n : Nat) : M Bool :=
  (mCmp dNe (.e (mVar 1)) (.e (mFr (mLst mNil))))
def b_diagonal_1 (n : Nat) : M Fl :=
  (mSq (mSet 1 (mCv 1 (f_with_lead n) [(.e (mVar 1))]))
    (mSq (mSet 3 (mOp dIx (.e (mVar 1)) (.e (mC (.int 0)))))
    (mSq (mEx (mApp 2 (mOp dIx (.e (mVar 3)) (.e (mC (.int 0))))))
    (mSet 1 (mFr (mLc (mIt (mSl (.e (mVar 1)) (some (mC (.int 1))) none dCutV)) [4] (Fw.setV 4) (mp true) (mCv 2 (f_behind n) [(.e (mVar 4)), (.e (mVar 3))])))))))
def m_diagonal (n : Nat) : M Fl :=
  (mSq (mPar [1, 2] [.e (mFr (mLc (mIt (mVar 0)) [4] (Fw.setV 4) (mp true) (mFr (mLc (mIt (mVar 4)) [5] (Fw.setV 5) (mp true) (mTup (mCons (mVar 5) (mCons (mC (.int 1)) mNil))))))), .f (mLst mNil)])
    (mSq (mWh (c_diagonal_1 n)
    (b_diagonal_1 n) n)
    (mRetB 2)))
def f_diagonal (n : Nat) : Fn := mkFn 1 6 (m_diagonal n)
def m_signature_for (n : Nat) : M Fl :=
  (mSq (mSet 1 (mFr (mCl 1 (f_diagonal n) [(.e (mVar 0))])))
    (mRet (mTup (mCons (mCB (op1 dLen) [(.e (mFr (mLc (mIt (mVar 1)) [2] (Fw.setV 2) (mCmp dGt (.e (mOp dIx (.e (mVar 2)) (.e (mC (.int 0))))) (.e (mC (.int 0)))) (mVar 2))))]) (mCons (mCB (op1 dLen) [(.e (mFr (mLc (mIt (mVar 1)) [2] (Fw.setV 2) (mCmp dLt (.e (mOp dIx (.e (mVar 2)) (.e (mC (.int 0))))) (.e (mC (.int 0)))) (mVar 2))))]) mNil)))))
def f_signature_for (n : Nat) : Fn := mkFn 1 3 (m_signature_for n)
def m_lessened (n : Nat) : M Fl :=
  (mRetF (mLc (mb (mCons (mVar 0) (mCons (mVar 1) mNil)) fun ds => mo (dPairs ds)) [4, 5] (gTupD 2 (gsCons (Fw.setV 4) (gsCons (Fw.setV 5) gsNil))) (mp true) (mOp dFdiv (.e (mOp dSub (.e (mOp dMul (.e (mVar 4)) (.e (mOp dIx (.e (mVar 1)) (.e (mVar 2)))))) (.e (mOp dMul (.e (mOp dIx (.e (mVar 0)) (.e (mVar 2)))) (.e (mVar 5)))))) (.e (mVar 3)))))
def f_lessened (n : Nat) : Fn := mkFn 4 6 (m_lessened n)
def b_determinant_1 (n : Nat) : M Fl :=
  (mAsg (mFr (mCl 4 (f_lessened n) [(.e (mOp dIx (.n 1) (.e (mVar 7)))), (.e (mVar 6)), (.e (mVar 4)), (.e (mVar 3))])) (gSt 1 (mVar 7)))
def b_determinant_2 (n : Nat) : M Fl :=
  (mSq (mSet 5 (mFr (mLc (mIA dR2 [(.e (mVar 4)), (.e (mCB (op1 dLen) [(.n 1)]))]) [7] (Fw.setV 7) (mCmp dNe (.e (mOp dIx (.e (mOp dIx (.n 1) (.e (mVar 7)))) (.e (mVar 4)))) (.e (mC (.int 0)))) (mVar 7))))
    (mSq (mIf (mCmp dEq (.e (mVar 5)) (.e (mFr (mLst mNil))))
    (mRet (mC (.int 0)))
    (mp .nx))
    (mSq (mIf (mCmp dNe (.e (mOp dIx (.e (mVar 5)) (.e (mC (.int 0))))) (.e (mVar 4)))
    (mSq (mAsg (mTup (mCons (mOp dIx (.n 1) (.e (mOp dIx (.e (mVar 5)) (.e (mC (.int 0)))))) (mCons (mOp dIx (.n 1) (.e (mVar 4))) mNil))) (gTupD 2 (gsCons (gSt 1 (mVar 4)) (gsCons (gSt 1 (mOp dIx (.e (mVar 5)) (.e (mC (.int 0))))) gsNil))))
    (mSet 2 (mUn dNeg (.e (mVar 2)))))
    (mp .nx))
    (mSq (mSet 6 (mOp dIx (.n 1) (.e (mVar 4))))
    (mSq (mFor (mIA dR2 [(.e (mOp dAdd (.e (mVar 4)) (.e (mC (.int 1))))), (.e (mCB (op1 dLen) [(.n 1)]))]) (Fw.setV 7)
    (b_determinant_1 n))
    (mSet 3 (mOp dIx (.e (mVar 6)) (.e (mVar 4)))))))))
def m_determinant (n : Nat) : M Fl :=
  (mSq (mPar [1, 2, 3] [.f (mLc (mIt (mVar 0)) [8] (Fw.setV 8) (mp true) (mFr (mCF (op1 dList) [(.e (mVar 8))]))), .e (mC (.int 1)), .e (mC (.int 1))])
    (mSq (mFor (mIA dR1 [(.e (mOp dSub (.e (mCB (op1 dLen) [(.n 1)])) (.e (mC (.int 1)))))]) (Fw.setV 4)
    (b_determinant_2 n))
    (mRet (mOp dMul (.e (mVar 2)) (.e (mOp dIx (.e (mOp dIx (.n 1) (.e (mUn dNeg (.e (mC (.int 1))))))) (.e (mUn dNeg (.e (mC (.int 1)))))))))))
def f_determinant (n : Nat) : Fn := mkFn 1 9 (m_determinant n)
def m_kind_for (n : Nat) : M Fl :=
  (mSq (mAsg (mVar 0) (gTupD 2 (gsCons (Fw.setV 2) (gsCons (Fw.setV 3) gsNil))))
    (mSq (mIf (mCmp dLt (.e (mOp dAdd (.e (mVar 2)) (.e (mVar 3)))) (.e (mVar 1)))
    (mRet (mC (.str "flat")))
    (mp .nx))
    (mSq (mIf (mCmp dEq (.e (mVar 3)) (.e (mC (.int 0))))
    (mRet (mC (.str "positive")))
    (mp .nx))
    (mRet (mIf (mCmp dGt (.e (mVar 2)) (.e (mC (.int 0)))) (mC (.str "mixed")) (mC (.str "negative")))))))
def f_kind_for (n : Nat) : Fn := mkFn 2 4 (m_kind_for n)
def m_Form___init__ (n : Nat) : M Fl :=
  (mSq (mEx (mCv 1 (f_check_coefficients n) [(.e (mVar 1))]))
    (mSq (mSet 2 (mCv 1 (f_table_for n) [(.e (mVar 1))]))
    (mSq (mSet 3 (mCv 1 (f_signature_for n) [(.e (mVar 2))]))
    (mSq (mPutF 0 nx_Form_held (mTup (mCons (mVar 1) (mCons (mVar 2) (mCons (mCv 1 (f_determinant n) [(.e (mVar 2))]) (mCons (mVar 3) (mCons (mCv 2 (f_kind_for n) [(.e (mVar 3)), (.e (mCB (op1 dLen) [(.e (mVar 2))]))]) mNil)))))))
    (mPutF 0 nx_Form_words (mJoin (mC (.str " ")) (mFr (mLc (mIt (mVar 1)) [4] (Fw.setV 4) (mp true) (mCB (op1 dStr) [(.e (mVar 4))])))))))))
def f_Form___init__ (n : Nat) : Fn := mkFn 2 5 (m_Form___init__ n)
def b__law_right_1 (n : Nat) : M Fl :=
  (mSq (mSet 2 (mCv 2 (f__law_one n) [(.n 0), (.e (mFr (mLst (mCons (mC .non) (mCons (mTup (mCons (mC (.int 1)) (mCons (mC (.int 0)) (mCons (mC (.int 1)) mNil)))) (mCons (mC (.str "1 0 1")) (mCons (mC (.int 3)) (mCons (mFr (mLst mNil)) (mCons (mC (.bl true)) (mCons mDn mNil))))))))))]))
    (mSq (mSet 3 (mCv 2 (f__law_one n) [(.n 0), (.e (mFr (mLst (mCons (mC .non) (mCons (mC (.int 0)) (mCons (mUn dNeg (.e (mC (.int 1)))) (mCons (mC (.int 1001)) (mCons (mC (.bl true)) (mCons (mC (.str "3")) (mCons (mTup (mCons (mC (.int 3)) mNil)) (mCons (mOp dPow (.e (mC (.int 10))) (.e (mC (.int 30)))) mNil)))))))))))]))
    (mSq (mIf (mCmp dNe (.e (mFr (mOpF dCat (.e (mFr (mCl 2 (f__law_calls n) [(.e (mVar 2)), (.e (mVar 3))]))) (.e (mFr (mCl 1 (f__law_all_calls n) [(.e (mVar 2))])))))) (.e (mFr (mOpF dRep (.e (mFr (mLst (mCons (mFr (mLst (mCons (mC (.str "NotAForm")) (mCons (mCB (op1 dRepr) [(.e (mVar 2))]) mNil)))) mNil)))) (.e (mC (.int 9)))))))
    (mRet (mC (.bl false)))
    (mp .nx))
    (mSq (mAsg (mCv 2 (f__law_one n) [(.n 0), (.e (mFr (mCl 0 (f__law_odd_forms n) [])))]) (gLstD 2 (gsCons (Fw.setV 4) (gsCons (Fw.setV 5) gsNil))))
    (mSq (mSet 6 (mMk 100 (f_Form___init__ n) (mCons (mVar 4) mNil)))
    (mSq (mIf (mCmp dNe (.e (mFr (mCl 2 (f__law_calls n) [(.e (mVar 6)), (.e (mVar 3))]))) (.e (mFr (mOpF dRep (.e (mFr (mLst (mCons (mFr (mLst (mCons (mC (.str "InvalidNumber")) (mCons (mCB (op1 dRepr) [(.e (mVar 3))]) mNil)))) mNil)))) (.e (mC (.int 5)))))))
    (mRet (mC (.bl false)))
    (mp .nx))
    (mSq (mIf (mCmp dNe (.e (mFr (mOpF dCat (.e (mFr (mCl 2 (f__law_calls n) [(.e (mVar 6)), (.e (mOp dAdd (.e (mC (.int 1))) (.e (mCv 2 (f__law_draw n) [(.n 0), (.e (mC (.int 1000)))]))))]))) (.e (mFr (mCl 1 (f__law_all_calls n) [(.e (mVar 6))])))))) (.e (mFr (mOpF dRep (.e (mFr (mLst (mCons (mVar 5) mNil)))) (.e (mC (.int 9)))))))
    (mRet (mC (.bl false)))
    (mp .nx))
    (mIf (mCmp dNe (.e (mFr (mLc (mIt (mFr (mCl 2 (f__law_calls n) [(.e (mMk 100 (f_Form___init__ n) (mCons (mTup (mCons (mC (.int 1000)) (mCons (mC (.int 0)) (mCons (mC (.int 999)) mNil)))) mNil))), (.e (mCv 2 (f__law_one n) [(.n 0), (.e (mFr (mLst (mCons (mC (.int 1)) (mCons (mC (.int 7)) (mCons (mC (.int 30)) mNil))))))]))]))) [8] (Fw.setV 8) (mp true) (mOp dIx (.e (mVar 8)) (.e (mC (.int 0))))))) (.e (mFr (mOpF dRep (.e (mFr (mLst (mCons (mC (.str "returned")) mNil)))) (.e (mC (.int 5)))))))
    (mRet (mC (.bl false)))
    (mp .nx)))))))))
def m__law_right (n : Nat) : M Fl :=
  (mSq (mFor (mIA dR1 [(.e (mC (.int 4)))]) (Fw.setV 1)
    (b__law_right_1 n))
    (mSq (mIf (mCmp dNe (.e (mFr (mLc (mIt (mFr (mLst (mCons (mC (.int 1000)) (mCons (mC (.int 999)) (mCons (mC (.int 998)) mNil)))))) [7] (Fw.setV 7) (mp true) (mCv 2 (f_gives n) [(.e (mMk 100 (f_Form___init__ n) (mCons (mTup (mCons (mC (.int 1000)) (mCons (mC (.int 0)) (mCons (mC (.int 999)) mNil)))) mNil))), (.e (mVar 7))])))) (.e (mFr (mLst (mCons (mC (.bl true)) (mCons (mC (.bl true)) (mCons (mC (.bl false)) mNil)))))))
    (mRet (mC (.bl false)))
    (mp .nx))
    (mRet (mOp dIsB (.e (mCv 2 (f_gives n) [(.e (mMk 100 (f_Form___init__ n) (mCons (mTup (mCons (mC (.int 1)) (mCons (mC (.int 0)) (mCons (mC (.int 0)) (mCons (mC (.int 0)) (mCons (mC (.int 0)) (mCons (mC (.int 1)) (mCons (mC (.int 0)) (mCons (mC (.int 0)) (mCons (mC (.int 0)) (mCons (mC (.int 1)) (mCons (mC (.int 0)) (mCons (mC (.int 0)) (mCons (mC (.int 1)) (mCons (mC (.int 0)) (mCons (mC (.int 1)) mNil)))))))))))))))) mNil))), (.e (mC (.int 7)))])) (.e (mC (.bl true)))))))
def f__law_right (n : Nat) : Fn := mkFn 1 9 (m__law_right n)
def b__law_bag_1 (n : Nat) : M Fl :=
  (mSet 3 (mOp dMod (.e (mCB (op1 dInt) [(.e (mOp dAdd (.e (mOp dAdd (.e (mOp dMul (.e (mVar 3)) (.e (mC (.int 58711))))) (.e (mOp dMod (.e (mCB (op1 dInt) [(.e (mVar 4))])) (.e (mC (.int 1000121))))))) (.e (mOp dMul (.e (mC (.int 17))) (.e (mVar 1))))))])) (.e (mC (.int 2147483549)))))
def m__law_bag (n : Nat) : M Fl :=
  (mSq (mPar [2, 3] [.e (mIf (mCmp dLt (.e (mVar 1)) (.e (mCB (op1 dLen) [(.e (mVar 0))]))) (mCB (op1 dInt) [(.e (mOp dIx (.e (mVar 0)) (.e (mVar 1))))]) (mC (.int 0))), .e (mOp dMul (.e (mC (.int 95917))) (.e (mOp dAdd (.e (mVar 1)) (.e (mC (.int 5))))))])
    (mSq (mFor (mIt (mFr (mSl (.e (mVar 0)) none (some (mC (.int 7))) dCutL))) (Fw.setV 4)
    (b__law_bag_1 n))
    (mSq (mSet 5 (mIf (mOr (mCmp dLt (.e (mVar 2)) (.e (mC (.int 0)))) (mCmp dGe (.e (mVar 2)) (.e (mOp dPow (.e (mC (.int 10))) (.e (mC (.int 15))))))) (mCB (op1 dAbs) [(.e (mVar 2))]) (mC (.int 0))))
    (mRetF (mLst (mCons (mVar 5) (mCons (mOp dMod (.e (mCB (op1 dInt) [(.e (mOp dAdd (.e (mVar 3)) (.e (mOp dMul (.e (mC (.int 89003))) (.e (mOp dMod (.e (mCB (op1 dInt) [(.e (mVar 2))])) (.e (mC (.int 999931)))))))))])) (.e (mC (.int 2147483549)))) (mCons (mC (.int 0)) mNil))))))))
def f__law_bag (n : Nat) : Fn := mkFn 2 6 (m__law_bag n)
def m_law (n : Nat) : M Fl :=
  (mRet (mCB (op1 dAll) [(.e (mFr (mLc (mIA dR1 [(.e (mCB (op2 dMax2) [(.e (mC (.int 2))), (.e (mCB (op2 dMin2) [(.e (mCB (op1 dLen) [(.e (mVar 0))])), (.e (mC (.int 4)))]))]))]) [1] (Fw.setV 1) (mp true) (mC1 (f__law_right n) (mCl 2 (f__law_bag n) [(.e (mVar 0)), (.e (mVar 1))])))))]))
def f_law (n : Nat) : Fn := mkFn 1 2 (m_law n)
end Fw
namespace Fw
open L2 PyProof.Rows PySem PySem.Spec
def gcA (K : PySem.W.Frag) : Nat → Addr := fun c => match c with
  | 2 => He.ga K "InvalidNumber"
  | 3 => He.ga K "NotAForm"
  | 8 => He.ga K "NotPositive"
  | 9 => He.ga K "TooGreat"
  | 100 => He.ga K "Form"
  | 101 => He.ga K "Form"
  | 102 => He.ga K "Form"
  | _ => 0
def gcF : Nat → List Str := fun c => match c with
  | 2 => ["given"]
  | 3 => ["given"]
  | 8 => []
  | 9 => ["given"]
  | 100 => []
  | 101 => ["held"]
  | 102 => ["held", "words"]
  | _ => []
def gcT (K : PySem.W.Frag) : List (Addr × Str) := [(tA K (tb__law_calls K), ((("_law_calls" : Str) ++ ".<locals>.") ++ "<lambda>" : Str)), (tA K (tb__law_all_calls K), ((("_law_all_calls" : Str) ++ ".<locals>.") ++ "<lambda>" : Str))]
def gc (K : PySem.W.Frag) : GC := { K := K, ca := gcA K, cf := gcF, T := gcT K }
theorem takes0N {X : L2.Cx} : L2N.Takes X (fun _ _ _ _ => False) := fun _ _ ⟨_, _, _, _, _, _, _, _, _, _, _, _, _, _, _, _, w⟩ => w.elim
structure Tx (g : GC) (mg : Str → Option Value) : Prop where
  says : SaysX fas exs fns g.K
  ns : ∃ h, g.K.In h ∧ h.Ns mainGlobals mg
  sp : SaysP fas exs fns pns g.K
  ca : g.ca = (Fw.gc g.K).ca
  cf : g.cf = (Fw.gc g.K).cf
  gx : g.ex = none
  gT : g.T = (Fw.gc g.K).T
  ivo : g.own = none → ∀ A H, g.iv A H
  tnd : (tbs.map fun f => tA g.K (f g.K)).Nodup
theorem in__law_calls : tb__law_calls ∈ tbs := by unfold tbs; exact List.mem_cons_self
theorem in__law_all_calls : tb__law_all_calls ∈ tbs := by unfold tbs; exact (List.mem_cons_of_mem _ List.mem_cons_self)
theorem Tx.mem__law_calls {g : GC} {mg : Str → Option Value} (T : Tx g mg) : (tA g.K (tb__law_calls g.K), ((("_law_calls" : Str) ++ ".<locals>.") ++ "<lambda>" : Str)) ∈ g.T := by rw [T.gT]; show _ ∈ gcT g.K; unfold gcT; exact List.mem_cons_self
theorem Tx.mem__law_all_calls {g : GC} {mg : Str → Option Value} (T : Tx g mg) : (tA g.K (tb__law_all_calls g.K), ((("_law_all_calls" : Str) ++ ".<locals>.") ++ "<lambda>" : Str)) ∈ g.T := by rw [T.gT]; show _ ∈ gcT g.K; unfold gcT; exact (List.mem_cons_of_mem _ List.mem_cons_self)
theorem Tx.ndT {g : GC} {mg : Str → Option Value} (T : Tx g mg) : (g.T.map (·.1)).Nodup := by rw [T.gT]; exact T.tnd
theorem Tx.wl {g : GC} {mg : Str → Option Value} (T : Tx g mg) (L : Lam) : Tx (g.wl L) mg := ⟨T.says, T.ns, T.sp, T.ca, T.cf, T.gx, T.gT, (fun h => nomatch h), T.tnd⟩
abbrev TBs (mg : Str → Option Value) (base : Heap) (g : GC) : Prop := ∀ f ∈ tbs, LamX.TabB base mg (cA g.K (f g.K)) (tA g.K (f g.K))
theorem Tx.glo {g : GC} {mg : Str → Option Value} (T : Tx g mg) (i : Nat) {x : Str} (h : fas[i]? = some (.glo x)) : mg x = some (.ref (He.fAd g.K (x, none))) := let ⟨_, X, G⟩ := T.ns; He.glo_ok X G (T.says.d.fact i h)
theorem Tx.g_int {g : GC} {mg : Str → Option Value} (T : Tx g mg) : mg "int" = none := let ⟨h, X, G⟩ := T.ns; He.free_ok X G (T.says.d.fact 57 rfl)
theorem Tx.g_len {g : GC} {mg : Str → Option Value} (T : Tx g mg) : mg "len" = none := let ⟨h, X, G⟩ := T.ns; He.free_ok X G (T.says.d.fact 58 rfl)
theorem Tx.g_isinstance {g : GC} {mg : Str → Option Value} (T : Tx g mg) : mg "isinstance" = none := let ⟨h, X, G⟩ := T.ns; He.free_ok X G (T.says.d.fact 59 rfl)
theorem Tx.g_LookupError {g : GC} {mg : Str → Option Value} (T : Tx g mg) : mg "LookupError" = none := let ⟨h, X, G⟩ := T.ns; He.free_ok X G (T.says.d.fact 60 rfl)
theorem Tx.g_ArithmeticError {g : GC} {mg : Str → Option Value} (T : Tx g mg) : mg "ArithmeticError" = none := let ⟨h, X, G⟩ := T.ns; He.free_ok X G (T.says.d.fact 61 rfl)
theorem Tx.g_ValueError {g : GC} {mg : Str → Option Value} (T : Tx g mg) : mg "ValueError" = none := let ⟨h, X, G⟩ := T.ns; He.free_ok X G (T.says.d.fact 62 rfl)
theorem Tx.g_repr {g : GC} {mg : Str → Option Value} (T : Tx g mg) : mg "repr" = none := let ⟨h, X, G⟩ := T.ns; He.free_ok X G (T.says.d.fact 63 rfl)
theorem Tx.g_bool {g : GC} {mg : Str → Option Value} (T : Tx g mg) : mg "bool" = none := let ⟨h, X, G⟩ := T.ns; He.free_ok X G (T.says.d.fact 64 rfl)
theorem Tx.g_abs {g : GC} {mg : Str → Option Value} (T : Tx g mg) : mg "abs" = none := let ⟨h, X, G⟩ := T.ns; He.free_ok X G (T.says.d.fact 65 rfl)
theorem Tx.g_MOST_SMALL {g : GC} {mg : Str → Option Value} (T : Tx g mg) : ∃ t, mg "MOST_SMALL" = some (.int 1000 t) := let ⟨h, X, G⟩ := T.ns; He.int_ok X G (T.says.d.fact 66 rfl)
theorem Tx.g_MOST_NUMBER {g : GC} {mg : Str → Option Value} (T : Tx g mg) : ∃ t, mg "MOST_NUMBER" = some (.int 1000 t) := let ⟨h, X, G⟩ := T.ns; He.int_ok X G (T.says.d.fact 67 rfl)
theorem Tx.g_range {g : GC} {mg : Str → Option Value} (T : Tx g mg) : mg "range" = none := let ⟨h, X, G⟩ := T.ns; He.free_ok X G (T.says.d.fact 68 rfl)
theorem Tx.g_tuple {g : GC} {mg : Str → Option Value} (T : Tx g mg) : mg "tuple" = none := let ⟨h, X, G⟩ := T.ns; He.free_ok X G (T.says.d.fact 69 rfl)
theorem Tx.g_zip {g : GC} {mg : Str → Option Value} (T : Tx g mg) : mg "zip" = none := let ⟨h, X, G⟩ := T.ns; He.free_ok X G (T.says.d.fact 70 rfl)
theorem Tx.g_sum {g : GC} {mg : Str → Option Value} (T : Tx g mg) : mg "sum" = none := let ⟨h, X, G⟩ := T.ns; He.free_ok X G (T.says.d.fact 71 rfl)
theorem Tx.g_list {g : GC} {mg : Str → Option Value} (T : Tx g mg) : mg "list" = none := let ⟨h, X, G⟩ := T.ns; He.free_ok X G (T.says.d.fact 72 rfl)
theorem Tx.g_sorted {g : GC} {mg : Str → Option Value} (T : Tx g mg) : mg "sorted" = none := let ⟨h, X, G⟩ := T.ns; He.free_ok X G (T.says.d.fact 73 rfl)
theorem Tx.g_all {g : GC} {mg : Str → Option Value} (T : Tx g mg) : mg "all" = none := let ⟨h, X, G⟩ := T.ns; He.free_ok X G (T.says.d.fact 74 rfl)
theorem Tx.g_enumerate {g : GC} {mg : Str → Option Value} (T : Tx g mg) : mg "enumerate" = none := let ⟨h, X, G⟩ := T.ns; He.free_ok X G (T.says.d.fact 75 rfl)
theorem Tx.g_MOST_SIZE {g : GC} {mg : Str → Option Value} (T : Tx g mg) : ∃ t, mg "MOST_SIZE" = some (.int 1000000000000 t) := let ⟨h, X, G⟩ := T.ns; He.int_ok X G (T.says.d.fact 76 rfl)
theorem Tx.g_str {g : GC} {mg : Str → Option Value} (T : Tx g mg) : mg "str" = none := let ⟨h, X, G⟩ := T.ns; He.free_ok X G (T.says.d.fact 77 rfl)
theorem Tx.g_min {g : GC} {mg : Str → Option Value} (T : Tx g mg) : mg "min" = none := let ⟨h, X, G⟩ := T.ns; He.free_ok X G (T.says.d.fact 78 rfl)
theorem Tx.g_max {g : GC} {mg : Str → Option Value} (T : Tx g mg) : mg "max" = none := let ⟨h, X, G⟩ := T.ns; He.free_ok X G (T.says.d.fact 79 rfl)
theorem Tx.e_InvalidNumber {g : GC} {mg : Str → Option Value} (T : Tx g mg) : Err_given g mg 2 "InvalidNumber" := by
  obtain ⟨fd, F⟩ := T.says.d.def_ 57 (d := di "InvalidNumber" 4) rfl
  refine ⟨?_, by rw [T.cf]; rfl, ⟨_, _, _, _, He.fAd g.K ("InvalidNumber", some "__init__"), (di "InvalidNumber" 4).qual, Ex.tlV, ?_⟩⟩
  · rw [T.ca]; obtain ⟨_, X, G⟩ := T.ns; exact He.glo_ok X G (T.says.x 31 rfl)
  · rw [T.ca]; exact txt_given (T.says.x 83 rfl) F
theorem Tx.e_NotAForm {g : GC} {mg : Str → Option Value} (T : Tx g mg) : Err_given g mg 3 "NotAForm" := by
  obtain ⟨fd, F⟩ := T.says.d.def_ 58 (d := di "NotAForm" 5) rfl
  refine ⟨?_, by rw [T.cf]; rfl, ⟨_, _, _, _, He.fAd g.K ("NotAForm", some "__init__"), (di "NotAForm" 5).qual, Ex.tlV, ?_⟩⟩
  · rw [T.ca]; obtain ⟨_, X, G⟩ := T.ns; exact He.glo_ok X G (T.says.x 39 rfl)
  · rw [T.ca]; exact txt_given (T.says.x 84 rfl) F
theorem Tx.e_TooGreat {g : GC} {mg : Str → Option Value} (T : Tx g mg) : Err_given g mg 9 "TooGreat" := by
  obtain ⟨fd, F⟩ := T.says.d.def_ 59 (d := di "TooGreat" 11) rfl
  refine ⟨?_, by rw [T.cf]; rfl, ⟨_, _, _, _, He.fAd g.K ("TooGreat", some "__init__"), (di "TooGreat" 11).qual, Ex.tlA, ?_⟩⟩
  · rw [T.ca]; obtain ⟨_, X, G⟩ := T.ns; exact He.glo_ok X G (T.says.x 49 rfl)
  · rw [T.ca]; exact txt_given (T.says.x 85 rfl) F
theorem Tx.hcfC {g : GC} {mg : Str → Option Value} (T : Tx g mg) : ∀ c, hasC c = true → (hasF c = true ∧ ∃ x, g.cf c = [x]) ∨ (hasF c = false ∧ g.cf c = []) := by
  intro c h
  rw [T.cf]
  by_cases h2 : c = 2
  · subst h2; exact .inl ⟨rfl, _, rfl⟩
  by_cases h3 : c = 3
  · subst h3; exact .inl ⟨rfl, _, rfl⟩
  by_cases h8 : c = 8
  · subst h8; exact .inr ⟨rfl, rfl⟩
  by_cases h9 : c = 9
  · subst h9; exact .inl ⟨rfl, _, rfl⟩
  exfalso; revert h; unfold hasC; split <;> simp_all
theorem Tx.gl_WrongName {g : GC} {mg : Str → Option Value} (T : Tx g mg) : mg "WrongName" = some (.ref (He.ga g.K "WrongName")) := let ⟨_, X, G⟩ := T.ns; He.glo_ok X G (T.says.x 0 rfl)
theorem Tx.gl_NoAnswer {g : GC} {mg : Str → Option Value} (T : Tx g mg) : mg "NoAnswer" = some (.ref (He.ga g.K "NoAnswer")) := let ⟨_, X, G⟩ := T.ns; He.glo_ok X G (T.says.x 9 rfl)
theorem Tx.gl_WrongValue {g : GC} {mg : Str → Option Value} (T : Tx g mg) : mg "WrongValue" = some (.ref (He.ga g.K "WrongValue")) := let ⟨_, X, G⟩ := T.ns; He.glo_ok X G (T.says.x 14 rfl)
theorem Tx.gl_InvalidNumber {g : GC} {mg : Str → Option Value} (T : Tx g mg) : mg "InvalidNumber" = some (.ref (He.ga g.K "InvalidNumber")) := let ⟨_, X, G⟩ := T.ns; He.glo_ok X G (T.says.x 31 rfl)
theorem Tx.gl_NotAForm {g : GC} {mg : Str → Option Value} (T : Tx g mg) : mg "NotAForm" = some (.ref (He.ga g.K "NotAForm")) := let ⟨_, X, G⟩ := T.ns; He.glo_ok X G (T.says.x 39 rfl)
theorem Tx.gl_NotPositive {g : GC} {mg : Str → Option Value} (T : Tx g mg) : mg "NotPositive" = some (.ref (He.ga g.K "NotPositive")) := let ⟨_, X, G⟩ := T.ns; He.glo_ok X G (T.says.x 44 rfl)
theorem Tx.gl_TooGreat {g : GC} {mg : Str → Option Value} (T : Tx g mg) : mg "TooGreat" = some (.ref (He.ga g.K "TooGreat")) := let ⟨_, X, G⟩ := T.ns; He.glo_ok X G (T.says.x 49 rfl)
theorem Tx.gl_Form {g : GC} {mg : Str → Option Value} (T : Tx g mg) : mg "Form" = some (.ref (He.ga g.K "Form")) := let ⟨_, X, G⟩ := T.ns; He.glo_ok X G (T.says.x 66 rfl)
theorem Tx.gl_EVEN_KEYS {g : GC} {mg : Str → Option Value} (T : Tx g mg) : mg "EVEN_KEYS" = some (.ref (He.ga g.K "EVEN_KEYS")) := let ⟨_, X, G⟩ := T.ns; He.glo_ok X G (T.says.x 67 rfl)
theorem Tx.gl_KEYS {g : GC} {mg : Str → Option Value} (T : Tx g mg) : mg "KEYS" = some (.ref (He.ga g.K "KEYS")) := let ⟨_, X, G⟩ := T.ns; He.glo_ok X G (T.says.x 68 rfl)
theorem Tx.gl_UNKNOWNS {g : GC} {mg : Str → Option Value} (T : Tx g mg) : mg "UNKNOWNS" = some (.ref (He.ga g.K "UNKNOWNS")) := let ⟨_, X, G⟩ := T.ns; He.glo_ok X G (T.says.x 69 rfl)
theorem Tx.e0_NotPositive {g : GC} {mg : Str → Option Value} (T : Tx g mg) : Err_0 g mg 8 "NotPositive" := err0_ok Ex.tlA (T.says.x 86 rfl) (by rw [T.ca]; rfl) T.gl_NotPositive (by rw [T.cf]; rfl)
theorem Tx.t_is_WrongName {g : GC} {mg : Str → Option Value} (T : Tx g mg) : ∀ c b, is_WrongName c = some b → Ex.Isi g.K (g.ca c) ∧ PySem.W.kitOne g.K (.ref (g.ca c)) (.ref (He.ga g.K "WrongName")) = some b := by
  intro c b h
  rw [T.ca]
  by_cases h2 : c = 2
  · subst h2; cases h; exact ⟨Ex.isiB_ok (T.says.x 1 rfl), of_decide_eq_true (T.says.x 2 rfl)⟩
  by_cases h3 : c = 3
  · subst h3; cases h; exact ⟨Ex.isiB_ok (T.says.x 3 rfl), of_decide_eq_true (T.says.x 4 rfl)⟩
  by_cases h8 : c = 8
  · subst h8; cases h; exact ⟨Ex.isiB_ok (T.says.x 5 rfl), of_decide_eq_true (T.says.x 6 rfl)⟩
  by_cases h9 : c = 9
  · subst h9; cases h; exact ⟨Ex.isiB_ok (T.says.x 7 rfl), of_decide_eq_true (T.says.x 8 rfl)⟩
  exfalso; revert h; unfold is_WrongName; split <;> simp_all
theorem Tx.t_is_NoAnswer {g : GC} {mg : Str → Option Value} (T : Tx g mg) : ∀ c b, is_NoAnswer c = some b → Ex.Isi g.K (g.ca c) ∧ PySem.W.kitOne g.K (.ref (g.ca c)) (.ref (He.ga g.K "NoAnswer")) = some b := by
  intro c b h
  rw [T.ca]
  by_cases h2 : c = 2
  · subst h2; cases h; exact ⟨Ex.isiB_ok (T.says.x 1 rfl), of_decide_eq_true (T.says.x 10 rfl)⟩
  by_cases h3 : c = 3
  · subst h3; cases h; exact ⟨Ex.isiB_ok (T.says.x 3 rfl), of_decide_eq_true (T.says.x 11 rfl)⟩
  by_cases h8 : c = 8
  · subst h8; cases h; exact ⟨Ex.isiB_ok (T.says.x 5 rfl), of_decide_eq_true (T.says.x 12 rfl)⟩
  by_cases h9 : c = 9
  · subst h9; cases h; exact ⟨Ex.isiB_ok (T.says.x 7 rfl), of_decide_eq_true (T.says.x 13 rfl)⟩
  exfalso; revert h; unfold is_NoAnswer; split <;> simp_all
theorem Tx.t_is_WrongValue {g : GC} {mg : Str → Option Value} (T : Tx g mg) : ∀ c b, is_WrongValue c = some b → Ex.Isi g.K (g.ca c) ∧ PySem.W.kitOne g.K (.ref (g.ca c)) (.ref (He.ga g.K "WrongValue")) = some b := by
  intro c b h
  rw [T.ca]
  by_cases h2 : c = 2
  · subst h2; cases h; exact ⟨Ex.isiB_ok (T.says.x 1 rfl), of_decide_eq_true (T.says.x 15 rfl)⟩
  by_cases h3 : c = 3
  · subst h3; cases h; exact ⟨Ex.isiB_ok (T.says.x 3 rfl), of_decide_eq_true (T.says.x 16 rfl)⟩
  by_cases h8 : c = 8
  · subst h8; cases h; exact ⟨Ex.isiB_ok (T.says.x 5 rfl), of_decide_eq_true (T.says.x 17 rfl)⟩
  by_cases h9 : c = 9
  · subst h9; cases h; exact ⟨Ex.isiB_ok (T.says.x 7 rfl), of_decide_eq_true (T.says.x 18 rfl)⟩
  exfalso; revert h; unfold is_WrongValue; split <;> simp_all
theorem Tx.t_is_LookupError {g : GC} {mg : Str → Option Value} (T : Tx g mg) : ∀ c b, is_LookupError c = some b → Ex.Isi g.K (g.ca c) ∧ PySem.W.kitOne g.K (.ref (g.ca c)) (.type "LookupError") = some b := by
  intro c b h
  rw [T.ca]
  by_cases h2 : c = 2
  · subst h2; cases h; exact ⟨Ex.isiB_ok (T.says.x 1 rfl), of_decide_eq_true (T.says.x 19 rfl)⟩
  by_cases h3 : c = 3
  · subst h3; cases h; exact ⟨Ex.isiB_ok (T.says.x 3 rfl), of_decide_eq_true (T.says.x 20 rfl)⟩
  by_cases h8 : c = 8
  · subst h8; cases h; exact ⟨Ex.isiB_ok (T.says.x 5 rfl), of_decide_eq_true (T.says.x 21 rfl)⟩
  by_cases h9 : c = 9
  · subst h9; cases h; exact ⟨Ex.isiB_ok (T.says.x 7 rfl), of_decide_eq_true (T.says.x 22 rfl)⟩
  exfalso; revert h; unfold is_LookupError; split <;> simp_all
theorem Tx.t_is_ArithmeticError {g : GC} {mg : Str → Option Value} (T : Tx g mg) : ∀ c b, is_ArithmeticError c = some b → Ex.Isi g.K (g.ca c) ∧ PySem.W.kitOne g.K (.ref (g.ca c)) (.type "ArithmeticError") = some b := by
  intro c b h
  rw [T.ca]
  by_cases h2 : c = 2
  · subst h2; cases h; exact ⟨Ex.isiB_ok (T.says.x 1 rfl), of_decide_eq_true (T.says.x 23 rfl)⟩
  by_cases h3 : c = 3
  · subst h3; cases h; exact ⟨Ex.isiB_ok (T.says.x 3 rfl), of_decide_eq_true (T.says.x 24 rfl)⟩
  by_cases h8 : c = 8
  · subst h8; cases h; exact ⟨Ex.isiB_ok (T.says.x 5 rfl), of_decide_eq_true (T.says.x 25 rfl)⟩
  by_cases h9 : c = 9
  · subst h9; cases h; exact ⟨Ex.isiB_ok (T.says.x 7 rfl), of_decide_eq_true (T.says.x 26 rfl)⟩
  exfalso; revert h; unfold is_ArithmeticError; split <;> simp_all
theorem Tx.t_is_ValueError {g : GC} {mg : Str → Option Value} (T : Tx g mg) : ∀ c b, is_ValueError c = some b → Ex.Isi g.K (g.ca c) ∧ PySem.W.kitOne g.K (.ref (g.ca c)) (.type "ValueError") = some b := by
  intro c b h
  rw [T.ca]
  by_cases h2 : c = 2
  · subst h2; cases h; exact ⟨Ex.isiB_ok (T.says.x 1 rfl), of_decide_eq_true (T.says.x 27 rfl)⟩
  by_cases h3 : c = 3
  · subst h3; cases h; exact ⟨Ex.isiB_ok (T.says.x 3 rfl), of_decide_eq_true (T.says.x 28 rfl)⟩
  by_cases h8 : c = 8
  · subst h8; cases h; exact ⟨Ex.isiB_ok (T.says.x 5 rfl), of_decide_eq_true (T.says.x 29 rfl)⟩
  by_cases h9 : c = 9
  · subst h9; cases h; exact ⟨Ex.isiB_ok (T.says.x 7 rfl), of_decide_eq_true (T.says.x 30 rfl)⟩
  exfalso; revert h; unfold is_ValueError; split <;> simp_all
theorem Tx.t_is_InvalidNumber {g : GC} {mg : Str → Option Value} (T : Tx g mg) : ∀ c b, is_InvalidNumber c = some b → Ex.Isi g.K (g.ca c) ∧ PySem.W.kitOne g.K (.ref (g.ca c)) (.ref (He.ga g.K "InvalidNumber")) = some b := by
  intro c b h
  rw [T.ca]
  by_cases h2 : c = 2
  · subst h2; cases h; exact ⟨Ex.isiB_ok (T.says.x 1 rfl), of_decide_eq_true (T.says.x 32 rfl)⟩
  by_cases h3 : c = 3
  · subst h3; cases h; exact ⟨Ex.isiB_ok (T.says.x 3 rfl), of_decide_eq_true (T.says.x 33 rfl)⟩
  by_cases h8 : c = 8
  · subst h8; cases h; exact ⟨Ex.isiB_ok (T.says.x 5 rfl), of_decide_eq_true (T.says.x 34 rfl)⟩
  by_cases h9 : c = 9
  · subst h9; cases h; exact ⟨Ex.isiB_ok (T.says.x 7 rfl), of_decide_eq_true (T.says.x 35 rfl)⟩
  exfalso; revert h; unfold is_InvalidNumber; split <;> simp_all
theorem Tx.t_pf_given {g : GC} {mg : Str → Option Value} (T : Tx g mg) : ∀ c, pf_given c = true → g.cf c = [("given" : Str)] ∧ XfC g.K (g.ca c) ∧ PySem.W.findIn g.K (.ref (g.ca c)) "given" = some none := by
  intro c h
  by_cases h2 : c = 2
  · subst h2; exact ⟨by rw [T.cf]; rfl, by rw [T.ca]; exact xfB_ok (He.ba (T.says.x 36 rfl)).1, by rw [T.ca]; exact He.eqO_ok (He.ba (T.says.x 36 rfl)).2⟩
  by_cases h3 : c = 3
  · subst h3; exact ⟨by rw [T.cf]; rfl, by rw [T.ca]; exact xfB_ok (He.ba (T.says.x 37 rfl)).1, by rw [T.ca]; exact He.eqO_ok (He.ba (T.says.x 37 rfl)).2⟩
  by_cases h8 : c = 8
  · subst h8; cases h
  by_cases h9 : c = 9
  · subst h9; exact ⟨by rw [T.cf]; rfl, by rw [T.ca]; exact xfB_ok (He.ba (T.says.x 38 rfl)).1, by rw [T.ca]; exact He.eqO_ok (He.ba (T.says.x 38 rfl)).2⟩
  exfalso; revert h; unfold pf_given; split <;> simp_all
theorem Tx.t_is_NotAForm {g : GC} {mg : Str → Option Value} (T : Tx g mg) : ∀ c b, is_NotAForm c = some b → Ex.Isi g.K (g.ca c) ∧ PySem.W.kitOne g.K (.ref (g.ca c)) (.ref (He.ga g.K "NotAForm")) = some b := by
  intro c b h
  rw [T.ca]
  by_cases h2 : c = 2
  · subst h2; cases h; exact ⟨Ex.isiB_ok (T.says.x 1 rfl), of_decide_eq_true (T.says.x 40 rfl)⟩
  by_cases h3 : c = 3
  · subst h3; cases h; exact ⟨Ex.isiB_ok (T.says.x 3 rfl), of_decide_eq_true (T.says.x 41 rfl)⟩
  by_cases h8 : c = 8
  · subst h8; cases h; exact ⟨Ex.isiB_ok (T.says.x 5 rfl), of_decide_eq_true (T.says.x 42 rfl)⟩
  by_cases h9 : c = 9
  · subst h9; cases h; exact ⟨Ex.isiB_ok (T.says.x 7 rfl), of_decide_eq_true (T.says.x 43 rfl)⟩
  exfalso; revert h; unfold is_NotAForm; split <;> simp_all
theorem Tx.t_is_NotPositive {g : GC} {mg : Str → Option Value} (T : Tx g mg) : ∀ c b, is_NotPositive c = some b → Ex.Isi g.K (g.ca c) ∧ PySem.W.kitOne g.K (.ref (g.ca c)) (.ref (He.ga g.K "NotPositive")) = some b := by
  intro c b h
  rw [T.ca]
  by_cases h2 : c = 2
  · subst h2; cases h; exact ⟨Ex.isiB_ok (T.says.x 1 rfl), of_decide_eq_true (T.says.x 45 rfl)⟩
  by_cases h3 : c = 3
  · subst h3; cases h; exact ⟨Ex.isiB_ok (T.says.x 3 rfl), of_decide_eq_true (T.says.x 46 rfl)⟩
  by_cases h8 : c = 8
  · subst h8; cases h; exact ⟨Ex.isiB_ok (T.says.x 5 rfl), of_decide_eq_true (T.says.x 47 rfl)⟩
  by_cases h9 : c = 9
  · subst h9; cases h; exact ⟨Ex.isiB_ok (T.says.x 7 rfl), of_decide_eq_true (T.says.x 48 rfl)⟩
  exfalso; revert h; unfold is_NotPositive; split <;> simp_all
theorem Tx.t_is_TooGreat {g : GC} {mg : Str → Option Value} (T : Tx g mg) : ∀ c b, is_TooGreat c = some b → Ex.Isi g.K (g.ca c) ∧ PySem.W.kitOne g.K (.ref (g.ca c)) (.ref (He.ga g.K "TooGreat")) = some b := by
  intro c b h
  rw [T.ca]
  by_cases h2 : c = 2
  · subst h2; cases h; exact ⟨Ex.isiB_ok (T.says.x 1 rfl), of_decide_eq_true (T.says.x 50 rfl)⟩
  by_cases h3 : c = 3
  · subst h3; cases h; exact ⟨Ex.isiB_ok (T.says.x 3 rfl), of_decide_eq_true (T.says.x 51 rfl)⟩
  by_cases h8 : c = 8
  · subst h8; cases h; exact ⟨Ex.isiB_ok (T.says.x 5 rfl), of_decide_eq_true (T.says.x 52 rfl)⟩
  by_cases h9 : c = 9
  · subst h9; cases h; exact ⟨Ex.isiB_ok (T.says.x 7 rfl), of_decide_eq_true (T.says.x 53 rfl)⟩
  exfalso; revert h; unfold is_TooGreat; split <;> simp_all
theorem Tx.t_mt_WrongValue {g : GC} {mg : Str → Option Value} (T : Tx g mg) : ∀ c b, mt_WrongValue c = some b → PySem.W.exmOne g.K (.ref (g.ca c)) (.ref (He.ga g.K "WrongValue")) = some b := by
  intro c b h
  rw [T.ca]
  by_cases h2 : c = 2
  · subst h2; cases h; exact of_decide_eq_true (T.says.x 54 rfl)
  by_cases h3 : c = 3
  · subst h3; cases h; exact of_decide_eq_true (T.says.x 55 rfl)
  by_cases h8 : c = 8
  · subst h8; cases h; exact of_decide_eq_true (T.says.x 56 rfl)
  by_cases h9 : c = 9
  · subst h9; cases h; exact of_decide_eq_true (T.says.x 57 rfl)
  exfalso; revert h; unfold mt_WrongValue; split <;> simp_all
theorem Tx.t_mt_NoAnswer {g : GC} {mg : Str → Option Value} (T : Tx g mg) : ∀ c b, mt_NoAnswer c = some b → PySem.W.exmOne g.K (.ref (g.ca c)) (.ref (He.ga g.K "NoAnswer")) = some b := by
  intro c b h
  rw [T.ca]
  by_cases h2 : c = 2
  · subst h2; cases h; exact of_decide_eq_true (T.says.x 58 rfl)
  by_cases h3 : c = 3
  · subst h3; cases h; exact of_decide_eq_true (T.says.x 59 rfl)
  by_cases h8 : c = 8
  · subst h8; cases h; exact of_decide_eq_true (T.says.x 60 rfl)
  by_cases h9 : c = 9
  · subst h9; cases h; exact of_decide_eq_true (T.says.x 61 rfl)
  exfalso; revert h; unfold mt_NoAnswer; split <;> simp_all
theorem Tx.t_mt_WrongName {g : GC} {mg : Str → Option Value} (T : Tx g mg) : ∀ c b, mt_WrongName c = some b → PySem.W.exmOne g.K (.ref (g.ca c)) (.ref (He.ga g.K "WrongName")) = some b := by
  intro c b h
  rw [T.ca]
  by_cases h2 : c = 2
  · subst h2; cases h; exact of_decide_eq_true (T.says.x 62 rfl)
  by_cases h3 : c = 3
  · subst h3; cases h; exact of_decide_eq_true (T.says.x 63 rfl)
  by_cases h8 : c = 8
  · subst h8; cases h; exact of_decide_eq_true (T.says.x 64 rfl)
  by_cases h9 : c = 9
  · subst h9; cases h; exact of_decide_eq_true (T.says.x 65 rfl)
  exfalso; revert h; unfold mt_WrongName; split <;> simp_all
theorem Tx.cls_Form {g : GC} {mg : Str → Option Value} (T : Tx g mg) : Cls g.K (He.ga g.K "Form") := clsO_ok (T.says.x 70 rfl)
theorem Tx.ca_Form {g : GC} {mg : Str → Option Value} (T : Tx g mg) : g.ca 100 = He.ga g.K "Form" := by rw [T.ca]; rfl
theorem Tx.cf_Form {g : GC} {mg : Str → Option Value} (T : Tx g mg) : g.cf 100 = [] := by rw [T.cf]; rfl
theorem Tx.is_Form {g : GC} {mg : Str → Option Value} (T : Tx g mg) : ∀ c, Fw.is_Form c = true → g.ca c = He.ga g.K "Form" := by
  intro c h
  unfold Fw.is_Form at h
  split at h
  · rw [T.ca]; rfl
  · cases h
theorem Tx.mk_Form {g : GC} {mg : Str → Option Value} (T : Tx g mg) : Mk g.K (He.ga g.K "Form") (mAt "Form" "__init__" g.K) := mkO_ok (T.says.x 71 rfl)
theorem Tx.ins_Form {g : GC} {mg : Str → Option Value} (T : Tx g mg) : InsF g (He.ga g.K "Form") Fw.is_Form := insO_ok (T.says.x 72 rfl) T.is_Form
theorem Tx.prop_Form_coefficients {g : GC} {mg : Str → Option Value} (T : Tx g mg) : PropOf g.K (He.ga g.K "Form") "coefficients" (mAt "Form" "coefficients" g.K) (pAt "Form" "coefficients" g.K) := propO_ok (T.says.x 73 rfl)
theorem Tx.prop_Form_is_even_between {g : GC} {mg : Str → Option Value} (T : Tx g mg) : PropOf g.K (He.ga g.K "Form") "is_even_between" (mAt "Form" "is_even_between" g.K) (pAt "Form" "is_even_between" g.K) := propO_ok (T.says.x 74 rfl)
theorem Tx.prop_Form_kind {g : GC} {mg : Str → Option Value} (T : Tx g mg) : PropOf g.K (He.ga g.K "Form") "kind" (mAt "Form" "kind" g.K) (pAt "Form" "kind" g.K) := propO_ok (T.says.x 75 rfl)
theorem Tx.prop_Form_table {g : GC} {mg : Str → Option Value} (T : Tx g mg) : PropOf g.K (He.ga g.K "Form") "table" (mAt "Form" "table" g.K) (pAt "Form" "table" g.K) := propO_ok (T.says.x 76 rfl)
theorem Tx.prop_Form_unknowns {g : GC} {mg : Str → Option Value} (T : Tx g mg) : PropOf g.K (He.ga g.K "Form") "unknowns" (mAt "Form" "unknowns" g.K) (pAt "Form" "unknowns" g.K) := propO_ok (T.says.x 77 rfl)
theorem Tx.fi_Form_held {g : GC} {mg : Str → Option Value} (T : Tx g mg) : FiT g "held" Fw.fi_Form_held := by
  intro c i h
  unfold Fw.fi_Form_held at h
  split at h
  · cases h; refine ⟨by rw [T.ca]; exact T.cls_Form, by rw [T.ca]; exact noatO_ok (T.says.x 78 rfl), fun xs hl => ?_⟩
    rw [T.cf] at hl ⊢
    exact lookup_at (cs := ["held", "words"]) (i := 0) (by decide) rfl hl
  · cases h
theorem Tx.nx_Form_held {g : GC} {mg : Str → Option Value} (T : Tx g mg) : NxT g "held" Fw.nx_Form_held := by
  intro c c2 h
  unfold Fw.nx_Form_held at h
  split at h
  · cases h; refine ⟨by rw [T.ca]; exact T.cls_Form, by rw [T.ca]; exact noatO_ok (T.says.x 78 rfl), by rw [T.ca]; rfl, by rw [T.cf]; rfl, by rw [T.cf]; exact (by decide : ("held" : Str) ∉ ([] : List Str)), by rw [T.cf]; exact (by decide : ([] : List Str).length < 1000)⟩
  · cases h
theorem Tx.nx_Form_words {g : GC} {mg : Str → Option Value} (T : Tx g mg) : NxT g "words" Fw.nx_Form_words := by
  intro c c2 h
  unfold Fw.nx_Form_words at h
  split at h
  · cases h; refine ⟨by rw [T.ca]; exact T.cls_Form, by rw [T.ca]; exact noatO_ok (T.says.x 79 rfl), by rw [T.ca]; rfl, by rw [T.cf]; rfl, by rw [T.cf]; exact (by decide : ("words" : Str) ∉ (["held"] : List Str)), by rw [T.cf]; exact (by decide : (["held"] : List Str).length < 1000)⟩
  · cases h
theorem Tx.tab_UNKNOWNS {g : GC} {mg : Str → Option Value} (T : Tx g mg) : TabI g.K (He.ga g.K "UNKNOWNS") [(3, 2), (6, 3), (10, 4), (15, 5)] := tabO_ok (T.says.x 80 rfl)
theorem Tx.ktu_EVEN_KEYS {g : GC} {mg : Str → Option Value} (T : Tx g mg) : KtR g.K (He.ga g.K "EVEN_KEYS") (([1, 2, 3, 5, 6, 7, 10, 14, 15] : List Int).map V.int) := tuB_kt (T.says.x 81 rfl)
theorem Tx.ktu_KEYS {g : GC} {mg : Str → Option Value} (T : Tx g mg) : KtR g.K (He.ga g.K "KEYS") (([1, 2, 3, 5, 6, 7, 10, 13, 14, 15, 17, 19, 21, 22, 23, 26, 29, 30, 31, 34, 35, 37, 42, 58, 93, 110, 145, 203, 290] : List Int).map V.int) := tuB_kt (T.says.x 82 rfl)
section
variable {P : Program} {w : World} {mg : Str → Option Value} {base : Heap} {g : GC}
theorem K_kb_gives_all_form {K : PySem.W.Frag} : ∀ (fd : FuncData) (f : Addr) (nm q : Str) (body : List Stmt) (scope : Scope), FunD K nm q (defArgs (top 78)) body scope [] [] f fd → ∀ (s : Shared) (us : List Value), us.length = [0].length → BindsTo s fd ⟨[], (["form"] : List Str).zip us⟩ ((["form"] : List Str).zip (permL [0] us)) := by
  intro fd f nm q body scope F s us hl
  obtain ⟨oc, od, dV, kV, doc, pm, an, cdv, ct, osl, rfl, lk, hcd, hD, hK⟩ := F.ex
  rcases hD with ⟨_, rfl⟩ | ⟨e, _⟩
  · match us, hl with
    | [_], _ => exact .of_eq rfl
  · exact absurd rfl e
theorem K_kb_least_missed_form {K : PySem.W.Frag} : ∀ (fd : FuncData) (f : Addr) (nm q : Str) (body : List Stmt) (scope : Scope), FunD K nm q (defArgs (top 79)) body scope [] [] f fd → ∀ (s : Shared) (us : List Value), us.length = [0].length → BindsTo s fd ⟨[], (["form"] : List Str).zip us⟩ ((["form"] : List Str).zip (permL [0] us)) := by
  intro fd f nm q body scope F s us hl
  obtain ⟨oc, od, dV, kV, doc, pm, an, cdv, ct, osl, rfl, lk, hcd, hD, hK⟩ := F.ex
  rcases hD with ⟨_, rfl⟩ | ⟨e, _⟩
  · match us, hl with
    | [_], _ => exact .of_eq rfl
  · exact absurd rfl e
theorem K_kb_missed_most_form {K : PySem.W.Frag} : ∀ (fd : FuncData) (f : Addr) (nm q : Str) (body : List Stmt) (scope : Scope), FunD K nm q (defArgs (top 75)) body scope [] [] f fd → ∀ (s : Shared) (us : List Value), us.length = [1, 0].length → BindsTo s fd ⟨[], (["most", "form"] : List Str).zip us⟩ ((["form", "most"] : List Str).zip (permL [1, 0] us)) := by
  intro fd f nm q body scope F s us hl
  obtain ⟨oc, od, dV, kV, doc, pm, an, cdv, ct, osl, rfl, lk, hcd, hD, hK⟩ := F.ex
  rcases hD with ⟨_, rfl⟩ | ⟨e, _⟩
  · match us, hl with
    | [_, _], _ => exact .of_eq rfl
  · exact absurd rfl e
theorem K_kb_writings_number_form {K : PySem.W.Frag} : ∀ (fd : FuncData) (f : Addr) (nm q : Str) (body : List Stmt) (scope : Scope), FunD K nm q (defArgs (top 72)) body scope [] [] f fd → ∀ (s : Shared) (us : List Value), us.length = [1, 0].length → BindsTo s fd ⟨[], (["number", "form"] : List Str).zip us⟩ ((["form", "number"] : List Str).zip (permL [1, 0] us)) := by
  intro fd f nm q body scope F s us hl
  obtain ⟨oc, od, dV, kV, doc, pm, an, cdv, ct, osl, rfl, lk, hcd, hD, hK⟩ := F.ex
  rcases hD with ⟨_, rfl⟩ | ⟨e, _⟩
  · match us, hl with
    | [_, _], _ => exact .of_eq rfl
  · exact absurd rfl e
def N__law_draw : List Str := ["_law_bag_here", "_law_wide", "_law_figure", "_law_kept", "_law_times"]
theorem sc__law_draw : FnScope N__law_draw ["_law_bag_here", "_law_wide"] (defScope (top 82)) := ⟨rfl, rfl, rfl, by decide +kernel, rfl, by decide +kernel, by decide +kernel⟩
theorem ok__law_draw (n : Nat) (T : Tx g mg) : Has P w g.K mg base 1 "_law_draw" ["_law_bag_here", "_law_wide"] (defArgs (top 82)) (spF g 2 (f__law_draw n)) := by
  obtain ⟨fd, F⟩ := T.says.d.def_ 0 (d := dd "_law_draw" 82) rfl
  have F : FunD g.K "_law_draw" "_law_draw" (defArgs (top 82)) (defBody (top 82)) (defScope (top 82)) [] [] (He.fAd g.K ("_law_draw", none)) fd := F
  have nd := sc__law_draw.nd
  refine ⟨_, fd, FnG.by (k := 0) F sc__law_draw rfl rfl (by decide) (fun cdv A outer s H E hr gd => ?_), T.glo 0 rfl, F.kp, F.bindsN (fun _ _ _ _ _ _ us hl => match us, hl with | [_, _], _ => rfl), _, _, _, _, F⟩
  exact (cb_cons (cs_asg (c_op or_add os_add (co_e (c_ix rfl (co_n 0 (pv 0)) (co_e c_int) (fun _ _ => rfl))) (co_e c_int)) (cg_st (W := fun cls d _ H => E cls d H) 0 (pv 0) c_int))
    (cb_cons (cs_if (ct_cmp op_gt os_gt (co_e (c_ix rfl (co_n 0 (pv 0)) (co_e c_int) (fun _ _ => rfl))) (co_e c_int) (by first | exact nomark _ | rfl | with_unfolding_all rfl))
    (cb_cons (cs_set 2 (ps_set (i := 2) nd rfl (by first | exact Or.inl rfl | exact Or.inr rfl) (c_op op_modN os_mod (co_e (c_ct call_int1 ls_int (by rfl) T.g_int (by decide +kernel) (co_cons (co_e (c_ix rfl (co_n 0 (pv 0)) (co_e c_int) (fun _ _ => rfl))) co_nil) (by decide +kernel) (by decide +kernel))) (co_e (c_var 1 (pv 1))))))
    (cb_cons (cs_asg (c_op op_fdivG os_fdiv (co_e (c_ix rfl (co_n 0 (pv 0)) (co_e c_int) (fun _ _ => rfl))) (co_e (c_var 1 (pv 1)))) (cg_st (W := fun cls d _ H => E cls d H) 0 (pv 0) c_int))
    (cb_one (cs_ret (c_var 2 (pv 2))))))
    cb_nil)
    (cb_cons (cs_set 3 (ps_set (i := 3) nd rfl (by first | exact Or.inl rfl | exact Or.inr rfl) (c_op or_add os_add (co_e (c_ct call_int1 ls_int (by rfl) T.g_int (by decide +kernel) (co_cons (co_e (c_ix rfl (co_n 0 (pv 0)) (co_e c_int) (fun _ _ => rfl))) co_nil) (by decide +kernel) (by decide +kernel))) (co_e (c_op or_mul os_mul (co_e c_int) (co_e (c_ix rfl (co_n 0 (pv 0)) (co_e c_int) (fun _ _ => rfl))))))))
    (cb_cons (cs_set 4 (ps_set (i := 4) nd rfl (by first | exact Or.inl rfl | exact Or.inr rfl) (c_op or_add os_add (co_e (c_op op_modN os_mod (co_e (c_ct call_int1 ls_int (by rfl) T.g_int (by decide +kernel) (co_cons (co_e (c_var 3 (pv 3))) co_nil) (by decide +kernel) (by decide +kernel))) (co_e c_int))) (co_e c_int))))
    (cb_cons (cs_asg (c_op op_modN os_mod (co_e (c_ct call_int1 ls_int (by rfl) T.g_int (by decide +kernel) (co_cons (co_e (c_op or_add os_add (co_e (c_op or_add os_add (co_e (c_op or_mul os_mul (co_e (c_var 3 (pv 3))) (co_e (c_var 4 (pv 4))))) (co_e (c_op or_mul os_mul (co_e c_int) (co_e (c_ix rfl (co_n 0 (pv 0)) (co_e c_int) (fun _ _ => rfl))))))) (co_e c_int))) co_nil) (by decide +kernel) (by decide +kernel))) (co_e c_int)) (cg_st (W := fun cls d _ H => E cls d H) 0 (pv 0) c_int))
    (cb_one (cs_ret (c_op op_modN os_mod (co_e (c_op op_fdivG os_fdiv (co_e (c_ct call_int1 ls_int (by rfl) T.g_int (by decide +kernel) (co_cons (co_e (c_ix rfl (co_n 0 (pv 0)) (co_e c_int) (fun _ _ => rfl))) co_nil) (by decide +kernel) (by decide +kernel))) (co_e c_int))) (co_e (c_var 1 (pv 1)))))))))))
def N__law_one : List Str := ["_law_bag_here", "_law_some"]
theorem sc__law_one : FnScope N__law_one ["_law_bag_here", "_law_some"] (defScope (top 83)) := ⟨rfl, rfl, rfl, by decide +kernel, rfl, by decide +kernel, by decide +kernel⟩
theorem ok__law_one (n : Nat) (T : Tx g mg) (H__law_draw : Has P w g.K mg base 1 "_law_draw" ["_law_bag_here", "_law_wide"] (defArgs (top 82)) (spF g 2 (f__law_draw n))) : Has P w g.K mg base 2 "_law_one" ["_law_bag_here", "_law_some"] (defArgs (top 83)) (spF g 2 (f__law_one n)) := by
  obtain ⟨fd, F⟩ := T.says.d.def_ 1 (d := dd "_law_one" 83) rfl
  have F : FunD g.K "_law_one" "_law_one" (defArgs (top 83)) (defBody (top 83)) (defScope (top 83)) [] [] (He.fAd g.K ("_law_one", none)) fd := F
  refine ⟨_, fd, FnG.by (k := 1) F sc__law_one rfl rfl (by decide) (fun cdv A outer s H E hr gd => ?_), T.glo 1 rfl, F.kp, F.bindsN (fun _ _ _ _ _ _ us hl => match us, hl with | [_, _], _ => rfl), _, _, _, _, F⟩
  have tk : L2N.Takes (cxOf (L2N.CX P w) P w g.K mg base N__law_one "_law_one" (defScope (top 83)) (He.fAd g.K ("_law_one", none)) cdv A outer s H E) (fun cls d _ H => E cls d H) := L2N.takes_of rfl rfl rfl rfl
  exact (cb_one (cs_ret (c_ix rfl (co_e (c_var 1 (pv 1))) (co_e (c_call H__law_draw (hr.mono (by decide)) gd (by rfl) tk (co_cons (co_n 0 (pv 0)) (co_cons (co_e (c_cb call_len ls_len (by rfl) T.g_len (by decide +kernel) (co_cons (co_e (c_var 1 (pv 1))) co_nil) (by decide +kernel) (by decide +kernel))) co_nil)) (by decide +kernel))) (fun _ _ => rfl))))
def N__law_sort : List Str := ["_law_e", "_law_bases", "_law_sorts", "_law_found"]
theorem sc__law_sort : FnScope N__law_sort ["_law_e"] (defScope (top 86)) := ⟨rfl, rfl, rfl, by decide +kernel, rfl, by decide +kernel, by decide +kernel⟩
theorem ok__law_sort (n : Nat) (T : Tx g mg) : HasX g P w mg base 1 "_law_sort" "_law_e" (f__law_sort n) := by
  obtain ⟨fd, F⟩ := T.says.d.def_ 2 (d := dd "_law_sort" 86) rfl
  have F : FunD g.K "_law_sort" "_law_sort" (defArgs (top 86)) (defBody (top 86)) (defScope (top 86)) [] [] (He.fAd g.K ("_law_sort", none)) fd := F
  have nd := sc__law_sort.nd
  refine ⟨_, fd, FnX.by (k := 0) F sc__law_sort rfl (by decide) (fun cdv A outer s H a oe c dd hr gd hz hf => ?_), T.glo 2 rfl, F.kp, F.bindsN (fun _ _ _ _ _ _ us hl => match us, hl with | [_], _ => rfl)⟩
  exact (cb_cons (cs_set 1 (ps_set (i := 1) nd rfl (by first | exact Or.inl rfl | exact Or.inr rfl) (c_fr (cf_lst (ca_cons (c_isE (c0 := .ref (He.ga g.K "WrongValue")) T.t_is_WrongValue (fun u z => z) hz hf (by rfl) T.g_isinstance (c_var 0 (pv 0)) (pe_glob (v := .ref (He.ga g.K "WrongValue")) (by rfl) T.gl_WrongValue rfl (by decide +kernel))) (ca_cons (c_isE (c0 := .ref (He.ga g.K "NoAnswer")) T.t_is_NoAnswer (fun u z => z) hz hf (by rfl) T.g_isinstance (c_var 0 (pv 0)) (pe_glob (v := .ref (He.ga g.K "NoAnswer")) (by rfl) T.gl_NoAnswer rfl (by decide +kernel))) (ca_cons (c_isE (c0 := .ref (He.ga g.K "WrongName")) T.t_is_WrongName (fun u z => z) hz hf (by rfl) T.g_isinstance (c_var 0 (pv 0)) (pe_glob (v := .ref (He.ga g.K "WrongName")) (by rfl) T.gl_WrongName rfl (by decide +kernel))) ca_nil)))))))
    (cb_cons (cs_set 2 (ps_set (i := 2) nd rfl (by first | exact Or.inl rfl | exact Or.inr rfl) (c_fr (cf_lst (ca_cons (c_isE (c0 := .ty "ValueError") T.t_is_ValueError (fun u z => z) hz hf (by rfl) T.g_isinstance (c_var 0 (pv 0)) (pe_bltn (v := .ty "ValueError") (by rfl) T.g_ValueError (by decide +kernel) rfl (by decide +kernel) (by decide +kernel))) (ca_cons (c_isE (c0 := .ty "ArithmeticError") T.t_is_ArithmeticError (fun u z => z) hz hf (by rfl) T.g_isinstance (c_var 0 (pv 0)) (pe_bltn (v := .ty "ArithmeticError") (by rfl) T.g_ArithmeticError (by decide +kernel) rfl (by decide +kernel) (by decide +kernel))) (ca_cons (c_isE (c0 := .ty "LookupError") T.t_is_LookupError (fun u z => z) hz hf (by rfl) T.g_isinstance (c_var 0 (pv 0)) (pe_bltn (v := .ty "LookupError") (by rfl) T.g_LookupError (by decide +kernel) rfl (by decide +kernel) (by decide +kernel))) ca_nil)))))))
    (cb_cons (cs_setB 3 (ps_set (i := 3) nd rfl (by first | exact Or.inl rfl | exact Or.inr rfl) (cf_lst ca_nil)))
    (cb_cons (cs_if (ct_tru (co_e (c_isE (c0 := .ref (He.ga g.K "InvalidNumber")) T.t_is_InvalidNumber (fun u z => z) hz hf (by rfl) T.g_isinstance (c_var 0 (pv 0)) (pe_glob (v := .ref (He.ga g.K "InvalidNumber")) (by rfl) T.gl_InvalidNumber rfl (by decide +kernel)))) rfl (by intro _; rfl))
    (cb_one (cs_expr (c_app 3 rfl (pe_bm PySem.F.plainAttrs_list PySem.F.slot_list_append PySem.F.type_list_append mt_append (pv 3) (pa_cons (c_fr (cf_lst (ca_cons c_str (ca_cons (c_cb (call_reprD (have z := u65H hr; z) gd) ls_repr (by rfl) T.g_repr (by decide +kernel) (co_cons (co_e (c_xf T.t_pf_given hz hf (c_var 0 (pv 0)))) co_nil) (by decide +kernel) (by decide +kernel)) ca_nil)))) pa_nil)))))
    cb_nil)
    (cb_cons (cs_if (ct_tru (co_e (c_isE (c0 := .ref (He.ga g.K "NotAForm")) T.t_is_NotAForm (fun u z => z) hz hf (by rfl) T.g_isinstance (c_var 0 (pv 0)) (pe_glob (v := .ref (He.ga g.K "NotAForm")) (by rfl) T.gl_NotAForm rfl (by decide +kernel)))) rfl (by intro _; rfl))
    (cb_one (cs_expr (c_app 3 rfl (pe_bm PySem.F.plainAttrs_list PySem.F.slot_list_append PySem.F.type_list_append mt_append (pv 3) (pa_cons (c_fr (cf_lst (ca_cons c_str (ca_cons (c_cb (call_reprD (have z := u65H hr; z) gd) ls_repr (by rfl) T.g_repr (by decide +kernel) (co_cons (co_e (c_xf T.t_pf_given hz hf (c_var 0 (pv 0)))) co_nil) (by decide +kernel) (by decide +kernel)) ca_nil)))) pa_nil)))))
    cb_nil)
    (cb_cons (cs_if (ct_tru (co_e (c_isE (c0 := .ref (He.ga g.K "NotPositive")) T.t_is_NotPositive (fun u z => z) hz hf (by rfl) T.g_isinstance (c_var 0 (pv 0)) (pe_glob (v := .ref (He.ga g.K "NotPositive")) (by rfl) T.gl_NotPositive rfl (by decide +kernel)))) rfl (by intro _; rfl))
    (cb_one (cs_expr (c_app 3 rfl (pe_bm PySem.F.plainAttrs_list PySem.F.slot_list_append PySem.F.type_list_append mt_append (pv 3) (pa_cons (c_fr (cf_lst (ca_cons c_str (ca_cons c_str ca_nil)))) pa_nil)))))
    cb_nil)
    (cb_cons (cs_if (ct_tru (co_e (c_isE (c0 := .ref (He.ga g.K "TooGreat")) T.t_is_TooGreat (fun u z => z) hz hf (by rfl) T.g_isinstance (c_var 0 (pv 0)) (pe_glob (v := .ref (He.ga g.K "TooGreat")) (by rfl) T.gl_TooGreat rfl (by decide +kernel)))) rfl (by intro _; rfl))
    (cb_one (cs_expr (c_app 3 rfl (pe_bm PySem.F.plainAttrs_list PySem.F.slot_list_append PySem.F.type_list_append mt_append (pv 3) (pa_cons (c_fr (cf_lst (ca_cons c_str (ca_cons (c_cb (call_reprD (have z := u65H hr; z) gd) ls_repr (by rfl) T.g_repr (by decide +kernel) (co_cons (co_e (c_xf T.t_pf_given hz hf (c_var 0 (pv 0)))) co_nil) (by decide +kernel) (by decide +kernel)) ca_nil)))) pa_nil)))))
    cb_nil)
    (cb_one (cs_ret (c_if (ct_w (cw_and (ct_cmp (or_eq (have z := u64H hr; z)) os_eq (co_e (c_cb call_len ls_len (by rfl) T.g_len (by decide +kernel) (co_cons (co_n 3 (pv 3)) co_nil) (by decide +kernel) (by decide +kernel))) (co_e c_int) (by first | exact nomark _ | rfl | with_unfolding_all rfl)) (cw_and (ct_cmp (or_eq (have z := u64H hr; z)) os_eq (co_e (c_var 1 (pv 1))) (co_e (c_var 2 (pv 2))) (by first | exact nomark _ | rfl | with_unfolding_all rfl)) (cw_and1 (ct_cmp (or_eq (have z := u64H hr; z)) os_eq (co_e (c_countD rfl (have z := u65H hr; z) (co_e (c_var 1 (pv 1))) c_bl)) (co_e c_int) (by first | exact nomark _ | rfl | with_unfolding_all rfl)))))) (c_ix rfl (co_n 3 (pv 3)) (co_e c_int) (fun _ _ => rfl)) (c_fr (cf_lst (ca_cons c_str ca_nil)))))))))))))
def N__law_answer : List Str := ["_law_call_here", "_law_got", "_law_e"]
theorem sc__law_answer : FnScope N__law_answer ["_law_call_here"] (defScope (top 85)) := ⟨rfl, rfl, rfl, by decide +kernel, rfl, by decide +kernel, by decide +kernel⟩
theorem bd__law_answer (n : Nat) (T : Tx g mg) (H__law_sort : HasX g P w mg base 1 "_law_sort" "_law_e" (f__law_sort n)) {cdv : Value} {A : Around} {outer : List Env} {s : Shared} {H : Hp} {E : XK} (r : Rs D) (hr : Room 1 (A.deeper (envOfC "_law_answer" (defScope (top 85)) s.heap.objs.size (He.fAd g.K ("_law_answer", none)) cdv))) (gd : A.guards = some [])
    (act : ∀ (W' : WK) (pn : List (Addr × Obj)) (xe : Value → Shared → Prop) (p1 p2 : Pos), L2N.Takes ((cxOf (L2N.CX P w) P w g.K mg base N__law_answer "_law_answer" (defScope (top 85)) (He.fAd g.K ("_law_answer", none)) cdv A outer s H E).tr pn xe) W' → CE g ((cxOf (L2N.CX P w) P w g.K mg base N__law_answer "_law_answer" (defScope (top 85)) (He.fAd g.K ("_law_answer", none)) cdv A outer s H E).tr pn xe) W' (.Call (.Name "_law_call_here" p1) [] [] p2) (mAct 0 r)) : CB g (cxOf (L2N.CX P w) P w g.K mg base N__law_answer "_law_answer" (defScope (top 85)) (He.fAd g.K ("_law_answer", none)) cdv A outer s H E) (fun cls d _ H => E cls d H) (defBody (top 85)) (m__law_answer n r) := by
  have nd := sc__law_answer.nd
  have tk : L2N.Takes (cxOf (L2N.CX P w) P w g.K mg base N__law_answer "_law_answer" (defScope (top 85)) (He.fAd g.K ("_law_answer", none)) cdv A outer s H E) (fun cls d _ H => E cls d H) := L2N.takes_of rfl rfl rfl rfl
  have po : PassesOwn (model P w) (A.deeper (envOfC "_law_answer" (defScope (top 85)) s.heap.objs.size (He.fAd g.K ("_law_answer", none)) cdv)) (envOfC "_law_answer" (defScope (top 85)) s.heap.objs.size (He.fAd g.K ("_law_answer", none)) cdv) (cxOf (L2N.CX P w) P w g.K mg base N__law_answer "_law_answer" (defScope (top 85)) (He.fAd g.K ("_law_answer", none)) cdv A outer s H E).xe := passes_of (X := cxOf (L2N.CX P w) P w g.K mg base N__law_answer "_law_answer" (defScope (top 85)) (He.fAd g.K ("_law_answer", none)) cdv A outer s H E) rfl
  exact (cb_cons (cs_try3 (ok := hasC) T.gx T.hcfC rfl rfl nd (by rfl : _ = some _) rfl ⟨by rfl, by decide +kernel, .inl T.gl_WrongValue⟩ ⟨by rfl, by decide +kernel, .inl T.gl_NoAnswer⟩ ⟨by rfl, by decide +kernel, .inl T.gl_WrongName⟩ tk (exm3 (ca := g.ca) T.t_mt_WrongValue T.t_mt_NoAnswer T.t_mt_WrongName) (mt3_ok mt_WrongValue_ok mt_NoAnswer_ok mt_WrongName_ok) (fun W pn xe tk po => (cb_one (cs_set 1 (ps_set (i := 1) nd rfl (by first | exact Or.inl rfl | exact Or.inr rfl) (act _ _ _ _ _ tk)))))
    (fun a oe c d pn hz hf => (cb_one (cs_ret (c_callX rfl H__law_sort (L2H.roomH_of (hr.mono (by decide))) gd hz hf (by rfl) (co_cons (co_e (c_var 2 (pv 2))) co_nil) (by decide +kernel))))))
    (cb_one (cs_retF (cf_lst (ca_cons c_str (ca_cons (c_var 1 (pv 1)) ca_nil))))))
theorem ok__law_answer (n : Nat) (T : Tx g mg) (H__law_sort : ∀ L : Lam, HasX (g.wl L) P w mg base 1 "_law_sort" "_law_e" (f__law_sort n)) : HasL P w g mg base 1 "_law_answer" 3 (m__law_answer n) := by
  obtain ⟨fd, F⟩ := T.says.d.def_ 3 (d := dd "_law_answer" 85) rfl
  have F : FunD g.K "_law_answer" "_law_answer" (defArgs (top 85)) (defBody (top 85)) (defScope (top 85)) [] [] (He.fAd g.K ("_law_answer", none)) fd := F
  exact ⟨_, fd, _, _, _, N__law_answer, "_law_call_here", T.glo 3 rfl, F.kp, F, F.bindsN (fun _ _ _ _ _ _ us hl => match us, hl with | [_], _ => rfl), sc__law_answer, rfl, (by first | exact Or.inl rfl | exact Or.inr (Or.inl rfl)), rfl, by decide, by decide, by decide, fun cdv A outer s H E L r hr gd act => bd__law_answer n (T.wl L) (H__law_sort L) r hr gd act⟩
def N_check_form : List Str := ["value"]
theorem sc_check_form : FnScope N_check_form ["value"] (defScope (top 50)) := ⟨rfl, rfl, rfl, by decide +kernel, rfl, by decide +kernel, by decide +kernel⟩
theorem ok_check_form (n : Nat) (T : Tx g mg) : Has P w g.K mg base 1 "check_form" ["value"] (defArgs (top 50)) (spF g 1 (f_check_form n)) := by
  obtain ⟨fd, F⟩ := T.says.d.def_ 4 (d := dd "check_form" 50) rfl
  have F : FunD g.K "check_form" "check_form" (defArgs (top 50)) (defBody (top 50)) (defScope (top 50)) [] [] (He.fAd g.K ("check_form", none)) fd := F
  refine ⟨_, fd, FnG.by (k := 0) F sc_check_form rfl rfl (by decide) (fun cdv A outer s H E hr gd => ?_), T.glo 4 rfl, F.kp, F.bindsN (fun _ _ _ _ _ _ us hl => match us, hl with | [_], _ => rfl), _, _, _, _, F⟩
  have tk : L2N.Takes (cxOf (L2N.CX P w) P w g.K mg base N_check_form "check_form" (defScope (top 50)) (He.fAd g.K ("check_form", none)) cdv A outer s H E) (fun cls d _ H => E cls d H) := L2N.takes_of rfl rfl rfl rfl
  exact (cb_one (cs_if (ct_not (ct_tru (co_e (c_isC rfl T.ins_Form (by rfl) T.g_isinstance (by rfl) T.gl_Form (by decide +kernel) (c_var 0 (pv 0)))) rfl (by intro _; rfl)))
    (cb_one (cs_raise_given T.e_NotAForm rfl rfl hr tk (c_var 0 (pv 0)) (by rfl) (by decide +kernel)))
    cb_nil))
def N_is_integer : List Str := ["value"]
theorem sc_is_integer : FnScope N_is_integer ["value"] (defScope (top 14)) := ⟨rfl, rfl, rfl, by decide +kernel, rfl, by decide +kernel, by decide +kernel⟩
theorem ok_is_integer (n : Nat) (T : Tx g mg) : Has P w g.K mg base 1 "is_integer" ["value"] (defArgs (top 14)) (spF g 1 (f_is_integer n)) := by
  obtain ⟨fd, F⟩ := T.says.d.def_ 5 (d := dd "is_integer" 14) rfl
  have F : FunD g.K "is_integer" "is_integer" (defArgs (top 14)) (defBody (top 14)) (defScope (top 14)) [] [] (He.fAd g.K ("is_integer", none)) fd := F
  refine ⟨_, fd, FnG.by (k := 0) F sc_is_integer rfl rfl (by decide) (fun cdv A outer s H E hr gd => ?_), T.glo 5 rfl, F.kp, F.bindsN (fun _ _ _ _ _ _ us hl => match us, hl with | [_], _ => rfl), _, _, _, _, F⟩
  exact (cb_one (cs_ret (c_and rfl (c_cb call_isi ls_isi (by rfl) T.g_isinstance (by decide +kernel) (co_cons (co_e (c_var 0 (pv 0))) (co_cons (co_e (c_gty (by rfl) T.g_int (by decide +kernel))) co_nil)) (by decide +kernel) (by decide +kernel)) (c_one (c_not rfl (co_e (c_cb call_isi ls_isi (by rfl) T.g_isinstance (by decide +kernel) (co_cons (co_e (c_var 0 (pv 0))) (co_cons (co_e (c_gty (by rfl) T.g_bool (by decide +kernel))) co_nil)) (by decide +kernel) (by decide +kernel))))))))
def N_is_between : List Str := ["value", "low", "high"]
theorem sc_is_between : FnScope N_is_between ["value", "low", "high"] (defScope (top 15)) := ⟨rfl, rfl, rfl, by decide +kernel, rfl, by decide +kernel, by decide +kernel⟩
theorem ok_is_between (n : Nat) (T : Tx g mg) (H_is_integer : Has P w g.K mg base 1 "is_integer" ["value"] (defArgs (top 14)) (spF g 1 (f_is_integer n))) : Has P w g.K mg base 2 "is_between" ["value", "low", "high"] (defArgs (top 15)) (spF g 3 (f_is_between n)) := by
  obtain ⟨fd, F⟩ := T.says.d.def_ 6 (d := dd "is_between" 15) rfl
  have F : FunD g.K "is_between" "is_between" (defArgs (top 15)) (defBody (top 15)) (defScope (top 15)) [] [] (He.fAd g.K ("is_between", none)) fd := F
  refine ⟨_, fd, FnG.by (k := 1) F sc_is_between rfl rfl (by decide) (fun cdv A outer s H E hr gd => ?_), T.glo 6 rfl, F.kp, F.bindsN (fun _ _ _ _ _ _ us hl => match us, hl with | [_, _, _], _ => rfl), _, _, _, _, F⟩
  have tk : L2N.Takes (cxOf (L2N.CX P w) P w g.K mg base N_is_between "is_between" (defScope (top 15)) (He.fAd g.K ("is_between", none)) cdv A outer s H E) (fun cls d _ H => E cls d H) := L2N.takes_of rfl rfl rfl rfl
  exact (cb_one (cs_ret (c_and rfl (c_call H_is_integer (hr.mono (by decide)) gd (by rfl) tk (co_cons (co_e (c_var 0 (pv 0))) co_nil) (by decide +kernel)) (c_one (c_chain op_le op_le os_le os_le (co_e (c_var 1 (pv 1))) (co_e (c_var 0 (pv 0))) (co_e (c_var 2 (pv 2))) (by with_unfolding_all rfl) flatI)))))
def N_Form_kind : List Str := ["self"]
theorem sc_Form_kind : FnScope N_Form_kind ["self"] (defScope (inClass (top 49) 7)) := ⟨rfl, rfl, rfl, by decide +kernel, rfl, by decide +kernel, by decide +kernel⟩
theorem ok_Form_kind (n : Nat) (T : Tx g mg) : HasM P w g.K mg base 1 (pAt "Form" "kind" g.K) "kind" "Form.kind" ["self"] (defArgs (inClass (top 49) 7)) (spF g 1 (f_Form_kind n)) := by
  obtain ⟨fd, F⟩ := T.sp.def_ 0 (d := dp (pAt "Form" "kind") "kind" "Form.kind" (inClass (top 49) 7)) rfl
  have F : FunD g.K "kind" "Form.kind" (defArgs (inClass (top 49) 7)) (defBody (inClass (top 49) 7)) (defScope (inClass (top 49) 7)) [] [] (pAt "Form" "kind" g.K) fd := F
  refine ⟨fd, FnG.by (k := 0) F sc_Form_kind rfl rfl (by decide) (fun cdv A outer s H E hr gd => ?_), F.bindsN (fun _ _ _ _ _ _ us hl => match us, hl with | [_], _ => rfl), _, _, F⟩
  exact (cb_one (cs_ret (c_ix rfl (co_e (c_fldO T.fi_Form_held rfl (co_e (c_var 0 (pv 0))) rfl)) (co_e c_int) (fun _ _ => rfl))))
def N_first_beyond : List Str := ["coefficients", "most", "found", "own"]
theorem sc_first_beyond : FnScope N_first_beyond ["coefficients", "most"] (defScope (top 45)) := ⟨rfl, rfl, rfl, by decide +kernel, rfl, by decide +kernel, by decide +kernel⟩
theorem ok_first_beyond (n : Nat) (T : Tx g mg) : Has P w g.K mg base 1 "first_beyond" ["coefficients", "most"] (defArgs (top 45)) (spF g 2 (f_first_beyond n)) := by
  obtain ⟨fd, F⟩ := T.says.d.def_ 7 (d := dd "first_beyond" 45) rfl
  have F : FunD g.K "first_beyond" "first_beyond" (defArgs (top 45)) (defBody (top 45)) (defScope (top 45)) [] [] (He.fAd g.K ("first_beyond", none)) fd := F
  have nd := sc_first_beyond.nd
  refine ⟨_, fd, FnG.by (k := 0) F sc_first_beyond rfl rfl (by decide) (fun cdv A outer s H E hr gd => ?_), T.glo 7 rfl, F.kp, F.bindsN (fun _ _ _ _ _ _ us hl => match us, hl with | [_, _], _ => rfl), _, _, _, _, F⟩
  exact (cb_cons (cs_set 2 (asg_mono (ps_setLc (i := 2) (own := [("own", 3)]) (by rfl) nd rfl rfl (sw_true rfl rfl rfl (by decide +kernel)) (ci_any rfl (c_var 0 (pv 0))) (blkOk_by (own := [("own", 3)]) (N := N_first_beyond) (sc := defScope (top 45)) (by decide +kernel)) (fun _ _ _ _ _ => (cg_name 3 (pg_name (i := 3) nd rfl (by first | exact Or.inl rfl | exact Or.inr rfl)))) (fun _ _ _ _ _ => (ts_one (ct_cmp op_gt os_gt (co_e (c_cb call_abs ls_abs (by rfl) T.g_abs (by decide +kernel) (co_cons (co_e (c_var 3 (pv 3))) co_nil) (by decide +kernel) (by decide +kernel))) (co_e (c_var 1 (pv 1))) (by first | exact nomark _ | rfl | with_unfolding_all rfl)))) (fun _ _ _ _ _ => (c_var 3 (pv 3)))) (fr_of (lc_of (by decide)))))
    (cb_one (cs_ret (c_if (ct_cmp (or_ne (u64 hr)) os_ne (co_e (c_var 2 (pv 2))) (co_e (c_fr (cf_lst ca_nil))) (by first | exact nomark _ | rfl | with_unfolding_all rfl)) (c_ix rfl (co_e (c_var 2 (pv 2))) (co_e c_int) (fun _ _ => rfl)) c_non))))
def N_Form_coefficients : List Str := ["self"]
theorem sc_Form_coefficients : FnScope N_Form_coefficients ["self"] (defScope (inClass (top 49) 2)) := ⟨rfl, rfl, rfl, by decide +kernel, rfl, by decide +kernel, by decide +kernel⟩
theorem ok_Form_coefficients (n : Nat) (T : Tx g mg) : HasM P w g.K mg base 1 (pAt "Form" "coefficients" g.K) "coefficients" "Form.coefficients" ["self"] (defArgs (inClass (top 49) 2)) (spF g 1 (f_Form_coefficients n)) := by
  obtain ⟨fd, F⟩ := T.sp.def_ 1 (d := dp (pAt "Form" "coefficients") "coefficients" "Form.coefficients" (inClass (top 49) 2)) rfl
  have F : FunD g.K "coefficients" "Form.coefficients" (defArgs (inClass (top 49) 2)) (defBody (inClass (top 49) 2)) (defScope (inClass (top 49) 2)) [] [] (pAt "Form" "coefficients" g.K) fd := F
  refine ⟨fd, FnG.by (k := 0) F sc_Form_coefficients rfl rfl (by decide) (fun cdv A outer s H E hr gd => ?_), F.bindsN (fun _ _ _ _ _ _ us hl => match us, hl with | [_], _ => rfl), _, _, F⟩
  exact (cb_one (cs_ret (c_ix rfl (co_e (c_fldO T.fi_Form_held rfl (co_e (c_var 0 (pv 0))) rfl)) (co_e c_int) (fun _ _ => rfl))))
def N_check_small : List Str := ["form", "beyond"]
theorem sc_check_small : FnScope N_check_small ["form"] (defScope (top 51)) := ⟨rfl, rfl, rfl, by decide +kernel, rfl, by decide +kernel, by decide +kernel⟩
theorem ok_check_small (n : Nat) (T : Tx g mg) (H_Form_kind : HasM P w g.K mg base 1 (pAt "Form" "kind" g.K) "kind" "Form.kind" ["self"] (defArgs (inClass (top 49) 7)) (spF g 1 (f_Form_kind n))) (H_first_beyond : Has P w g.K mg base 1 "first_beyond" ["coefficients", "most"] (defArgs (top 45)) (spF g 2 (f_first_beyond n))) (H_Form_coefficients : HasM P w g.K mg base 1 (pAt "Form" "coefficients" g.K) "coefficients" "Form.coefficients" ["self"] (defArgs (inClass (top 49) 2)) (spF g 1 (f_Form_coefficients n))) : Has P w g.K mg base 3 "check_small" ["form"] (defArgs (top 51)) (spF g 1 (f_check_small n)) := by
  obtain ⟨fd, F⟩ := T.says.d.def_ 8 (d := dd "check_small" 51) rfl
  have F : FunD g.K "check_small" "check_small" (defArgs (top 51)) (defBody (top 51)) (defScope (top 51)) [] [] (He.fAd g.K ("check_small", none)) fd := F
  have nd := sc_check_small.nd
  refine ⟨_, fd, FnG.by (k := 2) F sc_check_small rfl rfl (by decide) (fun cdv A outer s H E hr gd => ?_), T.glo 8 rfl, F.kp, F.bindsN (fun _ _ _ _ _ _ us hl => match us, hl with | [_], _ => rfl), _, _, _, _, F⟩
  have tk : L2N.Takes (cxOf (L2N.CX P w) P w g.K mg base N_check_small "check_small" (defScope (top 51)) (He.fAd g.K ("check_small", none)) cdv A outer s H E) (fun cls d _ H => E cls d H) := L2N.takes_of rfl rfl rfl rfl
  exact (cb_cons (cs_if (ct_cmp (or_ne (u64 hr)) os_ne (co_e (c_propM T.is_Form (c_var 0 (pv 0)) T.cls_Form T.prop_Form_kind H_Form_kind (hr.mono (by decide)) gd)) (co_e c_str) (by first | exact nomark _ | rfl | with_unfolding_all rfl))
    (cb_one (cs_raise0 T.e0_NotPositive rfl rfl tk (by rfl) (by decide +kernel)))
    cb_nil)
    (cb_cons (cs_set 1 (ps_set (i := 1) nd rfl (by first | exact Or.inl rfl | exact Or.inr rfl) (c_call H_first_beyond (hr.mono (by decide)) gd (by rfl) tk (co_cons (co_e (c_propM T.is_Form (c_var 0 (pv 0)) T.cls_Form T.prop_Form_coefficients H_Form_coefficients (hr.mono (by decide)) gd)) (co_cons (co_e (c_gint (by rfl) T.g_MOST_SMALL)) co_nil)) (by decide +kernel))))
    (cb_one (cs_if (ct_notN (co_e (c_var 1 (pv 1))))
    (cb_one (cs_raise_given T.e_TooGreat rfl rfl hr tk (c_var 1 (pv 1)) (by rfl) (by decide +kernel)))
    cb_nil))))
def N_check_number : List Str := ["form", "number"]
theorem sc_check_number : FnScope N_check_number ["form", "number"] (defScope (top 68)) := ⟨rfl, rfl, rfl, by decide +kernel, rfl, by decide +kernel, by decide +kernel⟩
theorem ok_check_number (n : Nat) (T : Tx g mg) (H_check_form : Has P w g.K mg base 1 "check_form" ["value"] (defArgs (top 50)) (spF g 1 (f_check_form n))) (H_is_between : Has P w g.K mg base 2 "is_between" ["value", "low", "high"] (defArgs (top 15)) (spF g 3 (f_is_between n))) (H_check_small : Has P w g.K mg base 3 "check_small" ["form"] (defArgs (top 51)) (spF g 1 (f_check_small n))) : Has P w g.K mg base 4 "check_number" ["form", "number"] (defArgs (top 68)) (spF g 2 (f_check_number n)) := by
  obtain ⟨fd, F⟩ := T.says.d.def_ 9 (d := dd "check_number" 68) rfl
  have F : FunD g.K "check_number" "check_number" (defArgs (top 68)) (defBody (top 68)) (defScope (top 68)) [] [] (He.fAd g.K ("check_number", none)) fd := F
  refine ⟨_, fd, FnG.by (k := 3) F sc_check_number rfl rfl (by decide) (fun cdv A outer s H E hr gd => ?_), T.glo 9 rfl, F.kp, F.bindsN (fun _ _ _ _ _ _ us hl => match us, hl with | [_, _], _ => rfl), _, _, _, _, F⟩
  have tk : L2N.Takes (cxOf (L2N.CX P w) P w g.K mg base N_check_number "check_number" (defScope (top 68)) (He.fAd g.K ("check_number", none)) cdv A outer s H E) (fun cls d _ H => E cls d H) := L2N.takes_of rfl rfl rfl rfl
  exact (cb_cons (cs_expr (c_call H_check_form (hr.mono (by decide)) gd (by rfl) tk (co_cons (co_e (c_var 0 (pv 0))) co_nil) (by decide +kernel)))
    (cb_cons (cs_if (ct_not (ct_tru (co_e (c_call H_is_between (hr.mono (by decide)) gd (by rfl) tk (co_cons (co_e (c_var 1 (pv 1))) (co_cons (co_e c_int) (co_cons (co_e (c_gint (by rfl) T.g_MOST_NUMBER)) co_nil))) (by decide +kernel))) rfl (by intro _; rfl)))
    (cb_one (cs_raise_given T.e_InvalidNumber rfl rfl hr tk (c_var 1 (pv 1)) (by rfl) (by decide +kernel)))
    cb_nil)
    (cb_one (cs_expr (c_call H_check_small (hr.mono (by decide)) gd (by rfl) tk (co_cons (co_e (c_var 0 (pv 0))) co_nil) (by decide +kernel))))))
def N_unit_table : List Str := ["size", "row", "column"]
theorem sc_unit_table : FnScope N_unit_table ["size"] (defScope (top 27)) := ⟨rfl, rfl, rfl, by decide +kernel, rfl, by decide +kernel, by decide +kernel⟩
theorem ok_unit_table (n : Nat) (T : Tx g mg) : Has P w g.K mg base 1 "unit_table" ["size"] (defArgs (top 27)) (spF g 1 (f_unit_table n)) := by
  obtain ⟨fd, F⟩ := T.says.d.def_ 10 (d := dd "unit_table" 27) rfl
  have F : FunD g.K "unit_table" "unit_table" (defArgs (top 27)) (defBody (top 27)) (defScope (top 27)) [] [] (He.fAd g.K ("unit_table", none)) fd := F
  have nd := sc_unit_table.nd
  refine ⟨_, fd, FnG.by (k := 0) F sc_unit_table rfl rfl (by decide) (fun cdv A outer s H E hr gd => ?_), T.glo 10 rfl, F.kp, F.bindsN (fun _ _ _ _ _ _ us hl => match us, hl with | [_], _ => rfl), _, _, _, _, F⟩
  exact (cb_one (cs_ret (c_ct call_tuple_of ls_tuple (by rfl) T.g_tuple (by decide +kernel) (co_cons (co_e (c_fr (cf_lc (pe_lc (own := [("row", 1)]) (by rfl) nd (ci_range1 (by rfl) T.g_range (co_cons (co_e (c_var 0 (pv 0))) co_nil)) (blkOk_by (own := [("row", 1)]) (N := N_unit_table) (sc := defScope (top 27)) (by decide +kernel)) (fun _ _ _ _ _ => (cg_name 1 (pg_name (i := 1) nd rfl (by first | exact Or.inl rfl | exact Or.inr rfl)))) (fun _ _ _ _ _ => ts_nil) (fun _ _ _ _ _ => (c_ct call_tuple_of ls_tuple (by rfl) T.g_tuple (by decide +kernel) (co_cons (co_e (c_fr (cf_lc (pe_lc (own := [("column", 2)]) (by rfl) nd (ci_range1 (by rfl) T.g_range (co_cons (co_e (c_var 0 (pv 0))) co_nil)) (blkOk_by (own := [("column", 2)]) (N := N_unit_table) (by kernel_rfl)) (fun _ _ _ _ _ => (cg_name 2 (pg_name (i := 2) nd rfl (by first | exact Or.inl rfl | exact Or.inr rfl)))) (fun _ _ _ _ _ => ts_nil) (fun _ _ _ _ _ => (c_ct call_int1 ls_int (by rfl) T.g_int (by decide +kernel) (co_cons (co_e (c_cmp (or_eq (u64 hr)) os_eq (co_e (c_var 2 (pv 2))) (co_e (c_var 1 (pv 1))) (by first | exact nomark _ | rfl | with_unfolding_all rfl))) co_nil) (by decide +kernel) (by decide +kernel)))) (by decide)))) co_nil) (by decide +kernel) (by decide +kernel)))) (by decide)))) co_nil) (by decide +kernel) (by decide +kernel))))
def N_nearest_part : List Str := ["top", "bottom"]
theorem sc_nearest_part : FnScope N_nearest_part ["top", "bottom"] (defScope (top 56)) := ⟨rfl, rfl, rfl, by decide +kernel, rfl, by decide +kernel, by decide +kernel⟩
theorem ok_nearest_part (n : Nat) (T : Tx g mg) : Has P w g.K mg base 1 "nearest_part" ["top", "bottom"] (defArgs (top 56)) (spF g 2 (f_nearest_part n)) := by
  obtain ⟨fd, F⟩ := T.says.d.def_ 11 (d := dd "nearest_part" 56) rfl
  have F : FunD g.K "nearest_part" "nearest_part" (defArgs (top 56)) (defBody (top 56)) (defScope (top 56)) [] [] (He.fAd g.K ("nearest_part", none)) fd := F
  refine ⟨_, fd, FnG.by (k := 0) F sc_nearest_part rfl rfl (by decide) (fun cdv A outer s H E hr gd => ?_), T.glo 11 rfl, F.kp, F.bindsN (fun _ _ _ _ _ _ us hl => match us, hl with | [_, _], _ => rfl), _, _, _, _, F⟩
  exact (cb_one (cs_ret (c_op op_fdivG os_fdiv (co_e (c_op or_add os_add (co_e (c_op or_mul os_mul (co_e c_int) (co_e (c_var 0 (pv 0))))) (co_e (c_var 1 (pv 1))))) (co_e (c_op or_mul os_mul (co_e c_int) (co_e (c_var 1 (pv 1))))))))
def N_product : List Str := ["table", "x", "y", "number", "row", "entry", "other"]
theorem sc_product : FnScope N_product ["table", "x", "y"] (defScope (top 53)) := ⟨rfl, rfl, rfl, by decide +kernel, rfl, by decide +kernel, by decide +kernel⟩
theorem ok_product (n : Nat) (T : Tx g mg) : Has P w g.K mg base 1 "product" ["table", "x", "y"] (defArgs (top 53)) (spF g 3 (f_product n)) := by
  obtain ⟨fd, F⟩ := T.says.d.def_ 12 (d := dd "product" 53) rfl
  have F : FunD g.K "product" "product" (defArgs (top 53)) (defBody (top 53)) (defScope (top 53)) [] [] (He.fAd g.K ("product", none)) fd := F
  have nd := sc_product.nd
  refine ⟨_, fd, FnG.by (k := 0) F sc_product rfl rfl (by decide) (fun cdv A outer s H E hr gd => ?_), T.glo 12 rfl, F.kp, F.bindsN (fun _ _ _ _ _ _ us hl => match us, hl with | [_, _, _], _ => rfl), _, _, _, _, F⟩
  exact (cb_one (cs_ret (c_cb (cr_sum rfl) ls_sum (by rfl) T.g_sum (by decide +kernel) (co_cons (co_e (c_fr (cf_lc (pe_lc (own := [("number", 3), ("row", 4)]) (by rfl) nd (ci_pairs rfl (by rfl) T.g_zip (ca_cons (c_var 1 (pv 1)) (ca_cons (c_var 0 (pv 0)) ca_nil))) (blkOk_by (own := [("number", 3), ("row", 4)]) (N := N_product) (sc := defScope (top 53)) (by decide +kernel)) (fun _ _ _ _ _ => (cg_tup (by rfl) rfl (cgs_cons (cg_name 3 (pg_name (i := 3) nd rfl (by first | exact Or.inl rfl | exact Or.inr rfl))) (cgs_cons (cg_name 4 (pg_name (i := 4) nd rfl (by first | exact Or.inl rfl | exact Or.inr rfl))) cgs_nil)))) (fun _ _ _ _ _ => ts_nil) (fun _ _ _ _ _ => (c_op or_mul os_mul (co_e (c_var 3 (pv 3))) (co_e (c_cb (cr_sum rfl) ls_sum (by rfl) T.g_sum (by decide +kernel) (co_cons (co_e (c_fr (cf_lc (pe_lc (own := [("entry", 5), ("other", 6)]) (by rfl) nd (ci_pairs rfl (by rfl) T.g_zip (ca_cons (c_var 4 (pv 4)) (ca_cons (c_var 2 (pv 2)) ca_nil))) (blkOk_by (own := [("entry", 5), ("other", 6)]) (N := N_product) (by kernel_rfl)) (fun _ _ _ _ _ => (cg_tup (by rfl) rfl (cgs_cons (cg_name 5 (pg_name (i := 5) nd rfl (by first | exact Or.inl rfl | exact Or.inr rfl))) (cgs_cons (cg_name 6 (pg_name (i := 6) nd rfl (by first | exact Or.inl rfl | exact Or.inr rfl))) cgs_nil)))) (fun _ _ _ _ _ => ts_nil) (fun _ _ _ _ _ => (c_op or_mul os_mul (co_e (c_var 5 (pv 5))) (co_e (c_var 6 (pv 6)))))) (by decide)))) co_nil) (by decide +kernel) (by decide +kernel)))))) (by decide)))) co_nil) (by decide +kernel) (by decide +kernel))))
def N_combined : List Str := ["numbers", "vectors", "k", "number", "x"]
theorem sc_combined : FnScope N_combined ["numbers", "vectors"] (defScope (top 54)) := ⟨rfl, rfl, rfl, by decide +kernel, rfl, by decide +kernel, by decide +kernel⟩
theorem ok_combined (n : Nat) (T : Tx g mg) : Has P w g.K mg base 1 "combined" ["numbers", "vectors"] (defArgs (top 54)) (spF g 2 (f_combined n)) := by
  obtain ⟨fd, F⟩ := T.says.d.def_ 13 (d := dd "combined" 54) rfl
  have F : FunD g.K "combined" "combined" (defArgs (top 54)) (defBody (top 54)) (defScope (top 54)) [] [] (He.fAd g.K ("combined", none)) fd := F
  have nd := sc_combined.nd
  refine ⟨_, fd, FnG.by (k := 0) F sc_combined rfl rfl (by decide) (fun cdv A outer s H E hr gd => ?_), T.glo 13 rfl, F.kp, F.bindsN (fun _ _ _ _ _ _ us hl => match us, hl with | [_, _], _ => rfl), _, _, _, _, F⟩
  exact (cb_one (cs_ret (c_ct call_tuple_of ls_tuple (by rfl) T.g_tuple (by decide +kernel) (co_cons (co_e (c_fr (cf_lc (pe_lc (own := [("k", 2)]) (by rfl) nd (ci_range1 (by rfl) T.g_range (co_cons (co_e (c_cb call_len ls_len (by rfl) T.g_len (by decide +kernel) (co_cons (co_e (c_ix rfl (co_e (c_var 1 (pv 1))) (co_e c_int) (fun _ _ => rfl))) co_nil) (by decide +kernel) (by decide +kernel))) co_nil)) (blkOk_by (own := [("k", 2)]) (N := N_combined) (sc := defScope (top 54)) (by decide +kernel)) (fun _ _ _ _ _ => (cg_name 2 (pg_name (i := 2) nd rfl (by first | exact Or.inl rfl | exact Or.inr rfl)))) (fun _ _ _ _ _ => ts_nil) (fun _ _ _ _ _ => (c_cb (cr_sum rfl) ls_sum (by rfl) T.g_sum (by decide +kernel) (co_cons (co_e (c_fr (cf_lc (pe_lc (own := [("number", 3), ("x", 4)]) (by rfl) nd (ci_pairs rfl (by rfl) T.g_zip (ca_cons (c_var 0 (pv 0)) (ca_cons (c_var 1 (pv 1)) ca_nil))) (blkOk_by (own := [("number", 3), ("x", 4)]) (N := N_combined) (by kernel_rfl)) (fun _ _ _ _ _ => (cg_tup (by rfl) rfl (cgs_cons (cg_name 3 (pg_name (i := 3) nd rfl (by first | exact Or.inl rfl | exact Or.inr rfl))) (cgs_cons (cg_name 4 (pg_name (i := 4) nd rfl (by first | exact Or.inl rfl | exact Or.inr rfl))) cgs_nil)))) (fun _ _ _ _ _ => ts_nil) (fun _ _ _ _ _ => (c_op or_mul os_mul (co_e (c_var 3 (pv 3))) (co_e (c_ix rfl (co_e (c_var 4 (pv 4))) (co_e (c_var 2 (pv 2))) (fun _ _ => rfl)))))) (by decide)))) co_nil) (by decide +kernel) (by decide +kernel)))) (by decide)))) co_nil) (by decide +kernel) (by decide +kernel))))
def N_shorter : List Str := ["table", "base", "i", "j", "times", "x"]
theorem sc_shorter : FnScope N_shorter ["table", "base", "i"] (defScope (top 57)) := ⟨rfl, rfl, rfl, by decide +kernel, rfl, by decide +kernel, by decide +kernel⟩
theorem ok_shorter (n : Nat) (T : Tx g mg) (H_nearest_part : Has P w g.K mg base 1 "nearest_part" ["top", "bottom"] (defArgs (top 56)) (spF g 2 (f_nearest_part n))) (H_product : Has P w g.K mg base 1 "product" ["table", "x", "y"] (defArgs (top 53)) (spF g 3 (f_product n))) (H_combined : Has P w g.K mg base 1 "combined" ["numbers", "vectors"] (defArgs (top 54)) (spF g 2 (f_combined n))) : Has P w g.K mg base 2 "shorter" ["table", "base", "i"] (defArgs (top 57)) (spF g 3 (f_shorter n)) := by
  obtain ⟨fd, F⟩ := T.says.d.def_ 14 (d := dd "shorter" 57) rfl
  have F : FunD g.K "shorter" "shorter" (defArgs (top 57)) (defBody (top 57)) (defScope (top 57)) [] [] (He.fAd g.K ("shorter", none)) fd := F
  have nd := sc_shorter.nd
  refine ⟨_, fd, FnG.by (k := 1) F sc_shorter rfl rfl (by decide) (fun cdv A outer s H E hr gd => ?_), T.glo 14 rfl, F.kp, F.bindsN (fun _ _ _ _ _ _ us hl => match us, hl with | [_, _, _], _ => rfl), _, _, _, _, F⟩
  have tk : L2N.Takes (cxOf (L2N.CX P w) P w g.K mg base N_shorter "shorter" (defScope (top 57)) (He.fAd g.K ("shorter", none)) cdv A outer s H E) (fun cls d _ H => E cls d H) := L2N.takes_of rfl rfl rfl rfl
  have po : PassesOwn (model P w) (A.deeper (envOfC "shorter" (defScope (top 57)) s.heap.objs.size (He.fAd g.K ("shorter", none)) cdv)) (envOfC "shorter" (defScope (top 57)) s.heap.objs.size (He.fAd g.K ("shorter", none)) cdv) (cxOf (L2N.CX P w) P w g.K mg base N_shorter "shorter" (defScope (top 57)) (He.fAd g.K ("shorter", none)) cdv A outer s H E).xe := passes_of (X := cxOf (L2N.CX P w) P w g.K mg base N_shorter "shorter" (defScope (top 57)) (He.fAd g.K ("shorter", none)) cdv A outer s H E) rfl
  exact (cb_cons (cs_for po (by rfl) (ci_range1 (by rfl) T.g_range (co_cons (co_e (c_cb call_len ls_len (by rfl) T.g_len (by decide +kernel) (co_cons (co_e (c_var 1 (pv 1))) co_nil) (by decide +kernel) (by decide +kernel))) co_nil)) (cg_name 3 (pg_name (i := 3) nd rfl (by first | exact Or.inl rfl | exact Or.inr rfl)))
    (cb_one (cs_if (ct_cmp (or_ne (u64 hr)) os_ne (co_e (c_var 3 (pv 3))) (co_e (c_var 2 (pv 2))) (by first | exact nomark _ | rfl | with_unfolding_all rfl))
    (cb_cons (cs_set 4 (ps_set (i := 4) nd rfl (by first | exact Or.inl rfl | exact Or.inr rfl) (c_call H_nearest_part (hr.mono (by decide)) gd (by rfl) tk (co_cons (co_e (c_call H_product (hr.mono (by decide)) gd (by rfl) tk (co_cons (co_e (c_var 0 (pv 0))) (co_cons (co_e (c_ix rfl (co_e (c_var 1 (pv 1))) (co_e (c_var 2 (pv 2))) (fun _ _ => rfl))) (co_cons (co_e (c_ix rfl (co_e (c_var 1 (pv 1))) (co_e (c_var 3 (pv 3))) (fun _ _ => rfl))) co_nil))) (by decide +kernel))) (co_cons (co_e (c_call H_product (hr.mono (by decide)) gd (by rfl) tk (co_cons (co_e (c_var 0 (pv 0))) (co_cons (co_e (c_ix rfl (co_e (c_var 1 (pv 1))) (co_e (c_var 3 (pv 3))) (fun _ _ => rfl))) (co_cons (co_e (c_ix rfl (co_e (c_var 1 (pv 1))) (co_e (c_var 3 (pv 3))) (fun _ _ => rfl))) co_nil))) (by decide +kernel))) co_nil)) (by decide +kernel))))
    (cb_cons (cs_set 5 (ps_set (i := 5) nd rfl (by first | exact Or.inl rfl | exact Or.inr rfl) (c_call H_combined (hr.mono (by decide)) gd (by rfl) tk (co_cons (co_e (c_tup (ca_cons c_int (ca_cons (c_un un_neg us_neg (co_e (c_var 4 (pv 4)))) ca_nil)))) (co_cons (co_e (c_tup (ca_cons (c_ix rfl (co_e (c_var 1 (pv 1))) (co_e (c_var 2 (pv 2))) (fun _ _ => rfl)) (ca_cons (c_ix rfl (co_e (c_var 1 (pv 1))) (co_e (c_var 3 (pv 3))) (fun _ _ => rfl)) ca_nil)))) co_nil)) (by decide +kernel))))
    (cb_one (cs_if (ct_cmp op_lt os_lt (co_e (c_call H_product (hr.mono (by decide)) gd (by rfl) tk (co_cons (co_e (c_var 0 (pv 0))) (co_cons (co_e (c_var 5 (pv 5))) (co_cons (co_e (c_var 5 (pv 5))) co_nil))) (by decide +kernel))) (co_e (c_call H_product (hr.mono (by decide)) gd (by rfl) tk (co_cons (co_e (c_var 0 (pv 0))) (co_cons (co_e (c_ix rfl (co_e (c_var 1 (pv 1))) (co_e (c_var 2 (pv 2))) (fun _ _ => rfl))) (co_cons (co_e (c_ix rfl (co_e (c_var 1 (pv 1))) (co_e (c_var 2 (pv 2))) (fun _ _ => rfl))) co_nil))) (by decide +kernel))) (by first | exact nomark _ | rfl | with_unfolding_all rfl))
    (cb_one (cs_set 1 (ps_set (i := 1) nd rfl (by first | exact Or.inl rfl | exact Or.inr rfl) (c_fr (cf_op op_cat fs_cat (co_e (c_fr (cf_op op_cat fs_cat (co_e (c_sl rfl (co_e (c_var 1 (pv 1))) cp_none (cp_some (c_var 2 (pv 2))))) (co_e (c_fr (cf_lst (ca_cons (c_var 5 (pv 5)) ca_nil))))))) (co_e (c_sl rfl (co_e (c_var 1 (pv 1))) (cp_some (c_op or_add os_add (co_e (c_var 2 (pv 2))) (co_e c_int))) cp_none)))))))
    cb_nil))))
    cb_nil)))
    (cb_one (cs_ret (c_var 1 (pv 1)))))
def N_small_base : List Str := ["table", "base", "known", "i", "size", "x"]
theorem sc_small_base : FnScope N_small_base ["table"] (defScope (top 58)) := ⟨rfl, rfl, rfl, by decide +kernel, rfl, by decide +kernel, by decide +kernel⟩
theorem ok_small_base (n : Nat) (T : Tx g mg) (H_unit_table : Has P w g.K mg base 1 "unit_table" ["size"] (defArgs (top 27)) (spF g 1 (f_unit_table n))) (H_shorter : Has P w g.K mg base 2 "shorter" ["table", "base", "i"] (defArgs (top 57)) (spF g 3 (f_shorter n))) (H_product : Has P w g.K mg base 1 "product" ["table", "x", "y"] (defArgs (top 53)) (spF g 3 (f_product n))) : Has P w g.K mg base 3 "small_base" ["table"] (defArgs (top 58)) (spF g 1 (f_small_base n)) := by
  obtain ⟨fd, F⟩ := T.says.d.def_ 15 (d := dd "small_base" 58) rfl
  have F : FunD g.K "small_base" "small_base" (defArgs (top 58)) (defBody (top 58)) (defScope (top 58)) [] [] (He.fAd g.K ("small_base", none)) fd := F
  have nd := sc_small_base.nd
  refine ⟨_, fd, FnG.by (k := 2) F sc_small_base rfl rfl (by decide) (fun cdv A outer s H E hr gd => ?_), T.glo 15 rfl, F.kp, F.bindsN (fun _ _ _ _ _ _ us hl => match us, hl with | [_], _ => rfl), _, _, _, _, F⟩
  have tk : L2N.Takes (cxOf (L2N.CX P w) P w g.K mg base N_small_base "small_base" (defScope (top 58)) (He.fAd g.K ("small_base", none)) cdv A outer s H E) (fun cls d _ H => E cls d H) := L2N.takes_of rfl rfl rfl rfl
  have po : PassesOwn (model P w) (A.deeper (envOfC "small_base" (defScope (top 58)) s.heap.objs.size (He.fAd g.K ("small_base", none)) cdv)) (envOfC "small_base" (defScope (top 58)) s.heap.objs.size (He.fAd g.K ("small_base", none)) cdv) (cxOf (L2N.CX P w) P w g.K mg base N_small_base "small_base" (defScope (top 58)) (He.fAd g.K ("small_base", none)) cdv A outer s H E).xe := passes_of (X := cxOf (L2N.CX P w) P w g.K mg base N_small_base "small_base" (defScope (top 58)) (He.fAd g.K ("small_base", none)) cdv A outer s H E) rfl
  exact (cb_cons (cs_par2 1 2 (ps_par (i := 1) (j := 2) (by rfl) nd rfl rfl (by decide) rfl rfl (ed_cons (ed_e (c_fr (cf_ct call_list_of fs_list (by rfl) T.g_list (by decide +kernel) (co_cons (co_e (c_call H_unit_table (hr.mono (by decide)) gd (by rfl) tk (co_cons (co_e (c_cb call_len ls_len (by rfl) T.g_len (by decide +kernel) (co_cons (co_e (c_var 0 (pv 0))) co_nil) (by decide +kernel) (by decide +kernel))) co_nil) (by decide +kernel))) co_nil) (by decide +kernel) (by decide +kernel)))) (ed_cons (ed_e (c_fr (cf_lst ca_nil))) ed_nil)) (by rfl)))
    (cb_cons (cs_while n po (ct_cmp (or_ne (u64 hr)) os_ne (co_e (c_var 1 (pv 1))) (co_e (c_var 2 (pv 2))) (by first | exact nomark _ | rfl | with_unfolding_all rfl))
    (cb_cons (cs_set 2 (ps_set (i := 2) nd rfl (by first | exact Or.inl rfl | exact Or.inr rfl) (c_var 1 (pv 1))))
    (cb_cons (cs_for po (by rfl) (ci_range1 (by rfl) T.g_range (co_cons (co_e (c_cb call_len ls_len (by rfl) T.g_len (by decide +kernel) (co_cons (co_e (c_var 1 (pv 1))) co_nil) (by decide +kernel) (by decide +kernel))) co_nil)) (cg_name 3 (pg_name (i := 3) nd rfl (by first | exact Or.inl rfl | exact Or.inr rfl)))
    (cb_one (cs_set 1 (ps_set (i := 1) nd rfl (by first | exact Or.inl rfl | exact Or.inr rfl) (c_call H_shorter (hr.mono (by decide)) gd (by rfl) tk (co_cons (co_e (c_var 0 (pv 0))) (co_cons (co_e (c_var 1 (pv 1))) (co_cons (co_e (c_var 3 (pv 3))) co_nil))) (by decide +kernel))))))
    (cb_one (cs_set 1 (asg_mono (ps_setLc (i := 1) (own := [("size", 4), ("x", 5)]) (by rfl) nd rfl rfl (sw_true rfl rfl rfl (by decide +kernel)) (ci_any rfl (c_fr (cf_cb (cr_sortedZ (u64 hr)) fs_sortedZ (by rfl) T.g_sorted (by decide +kernel) (co_cons (co_e (c_fr (cf_lc (pe_lc (own := [("x", 5)]) (by rfl) nd (ci_any rfl (c_var 1 (pv 1))) (blkOk_by (own := [("x", 5)]) (N := N_small_base) (sc := defScope (top 58)) (by decide +kernel)) (fun _ _ _ _ _ => (cg_name 5 (pg_name (i := 5) nd rfl (by first | exact Or.inl rfl | exact Or.inr rfl)))) (fun _ _ _ _ _ => ts_nil) (fun _ _ _ _ _ => (c_tup (ca_cons (c_call H_product (hr.mono (by decide)) gd (by rfl) takes0N (co_cons (co_e (c_var 0 (pv 0))) (co_cons (co_e (c_var 5 (pv 5))) (co_cons (co_e (c_var 5 (pv 5))) co_nil))) (by decide +kernel)) (ca_cons (c_var 5 (pv 5)) ca_nil))))) (by decide)))) co_nil) (by decide +kernel) (by decide +kernel)))) (blkOk_by (own := [("size", 4), ("x", 5)]) (N := N_small_base) (sc := defScope (top 58)) (by decide +kernel)) (fun _ _ _ _ _ => (cg_tup (by rfl) rfl (cgs_cons (cg_name 4 (pg_name (i := 4) nd rfl (by first | exact Or.inl rfl | exact Or.inr rfl))) (cgs_cons (cg_name 5 (pg_name (i := 5) nd rfl (by first | exact Or.inl rfl | exact Or.inr rfl))) cgs_nil)))) (fun _ _ _ _ _ => ts_nil) (fun _ _ _ _ _ => (c_var 5 (pv 5)))) (fr_of (lc_of (by decide)))))))))
    (cb_one (cs_ret (c_var 1 (pv 1))))))
def N_squares_of : List Str := ["table", "rows", "minors", "many", "k", "i", "head", "row", "j"]
theorem sc_squares_of : FnScope N_squares_of ["table"] (defScope (top 59)) := ⟨rfl, rfl, rfl, by decide +kernel, rfl, by decide +kernel, by decide +kernel⟩
theorem ok_squares_of (n : Nat) (T : Tx g mg) : Has P w g.K mg base 1 "squares_of" ["table"] (defArgs (top 59)) (spF g 1 (f_squares_of n)) := by
  obtain ⟨fd, F⟩ := T.says.d.def_ 16 (d := dd "squares_of" 59) rfl
  have F : FunD g.K "squares_of" "squares_of" (defArgs (top 59)) (defBody (top 59)) (defScope (top 59)) [] [] (He.fAd g.K ("squares_of", none)) fd := F
  have nd := sc_squares_of.nd
  refine ⟨_, fd, FnG.by (k := 0) F sc_squares_of rfl rfl (by decide) (fun cdv A outer s H E hr gd => ?_), T.glo 16 rfl, F.kp, F.bindsN (fun _ _ _ _ _ _ us hl => match us, hl with | [_], _ => rfl), _, _, _, _, F⟩
  have po : PassesOwn (model P w) (A.deeper (envOfC "squares_of" (defScope (top 59)) s.heap.objs.size (He.fAd g.K ("squares_of", none)) cdv)) (envOfC "squares_of" (defScope (top 59)) s.heap.objs.size (He.fAd g.K ("squares_of", none)) cdv) (cxOf (L2N.CX P w) P w g.K mg base N_squares_of "squares_of" (defScope (top 59)) (He.fAd g.K ("squares_of", none)) cdv A outer s H E).xe := passes_of (X := cxOf (L2N.CX P w) P w g.K mg base N_squares_of "squares_of" (defScope (top 59)) (He.fAd g.K ("squares_of", none)) cdv A outer s H E) rfl
  exact (cb_cons (cs_parT (by rfl) rfl rfl (by decide) (ed_cons (ed_f (cf_lc (pe_lc (own := [("row", 7)]) (by rfl) nd (ci_any rfl (c_var 0 (pv 0))) (blkOk_by (own := [("row", 7)]) (N := N_squares_of) (sc := defScope (top 59)) (by decide +kernel)) (fun _ _ _ _ _ => (cg_name 7 (pg_name (i := 7) nd rfl (by first | exact Or.inl rfl | exact Or.inr rfl)))) (fun _ _ _ _ _ => ts_nil) (fun _ _ _ _ _ => (c_fr (cf_ct call_list_of fs_list (by rfl) T.g_list (by decide +kernel) (co_cons (co_e (c_var 7 (pv 7))) co_nil) (by decide +kernel) (by decide +kernel))))) (by decide))) (ed_cons (ed_f (cf_lst (ca_cons c_int ca_nil))) (ed_cons (ed_e (c_cb call_len ls_len (by rfl) T.g_len (by decide +kernel) (co_cons (co_e (c_var 0 (pv 0))) co_nil) (by decide +kernel) (by decide +kernel))) ed_nil))) (pgs_cons (pg_name (i := 1) nd rfl (by first | exact Or.inl rfl | exact Or.inr rfl)) (pgs_cons (pg_name (i := 2) nd rfl (by first | exact Or.inl rfl | exact Or.inr rfl)) (pgs_cons (pg_name (i := 3) nd rfl (by first | exact Or.inl rfl | exact Or.inr rfl)) pgs_nil))))
    (cb_cons (cs_for po (by rfl) (ci_range1 (by rfl) T.g_range (co_cons (co_e (c_var 3 (pv 3))) co_nil)) (cg_name 4 (pg_name (i := 4) nd rfl (by first | exact Or.inl rfl | exact Or.inr rfl)))
    (cb_cons (cs_expr (c_app 2 rfl (pe_bm PySem.F.plainAttrs_list PySem.F.slot_list_append PySem.F.type_list_append mt_append (pv 2) (pa_cons (c_ix rfl (co_e (c_ix rfl (co_n 1 (pv 1)) (co_e (c_var 4 (pv 4))) (fun _ _ => rfl))) (co_e (c_var 4 (pv 4))) (fun _ _ => rfl)) pa_nil))))
    (cb_one (cs_for po (by rfl) (ci_range2 (by rfl) T.g_range (co_cons (co_e (c_op or_add os_add (co_e (c_var 4 (pv 4))) (co_e c_int))) (co_cons (co_e (c_var 3 (pv 3))) co_nil))) (cg_name 5 (pg_name (i := 5) nd rfl (by first | exact Or.inl rfl | exact Or.inr rfl)))
    (cb_cons (cs_set 6 (ps_set (i := 6) nd rfl (by first | exact Or.inl rfl | exact Or.inr rfl) (c_ix rfl (co_e (c_ix rfl (co_n 1 (pv 1)) (co_e (c_var 5 (pv 5))) (fun _ _ => rfl))) (co_e (c_var 4 (pv 4))) (fun _ _ => rfl))))
    (cb_one (cs_asg (c_fr (cf_lc (pe_lc (own := [("j", 8)]) (by rfl) nd (ci_range1 (by rfl) T.g_range (co_cons (co_e (c_var 3 (pv 3))) co_nil)) (blkOk_by (own := [("j", 8)]) (N := N_squares_of) (sc := defScope (top 59)) (by decide +kernel)) (fun _ _ _ _ _ => (cg_name 8 (pg_name (i := 8) nd rfl (by first | exact Or.inl rfl | exact Or.inr rfl)))) (fun _ _ _ _ _ => ts_nil) (fun _ _ _ _ _ => (c_op op_fdivG os_fdiv (co_e (c_op op_sub os_sub (co_e (c_op or_mul os_mul (co_e (c_ix rfl (co_e (c_ix rfl (co_n 1 (pv 1)) (co_e (c_var 4 (pv 4))) (fun _ _ => rfl))) (co_e (c_var 4 (pv 4))) (fun _ _ => rfl))) (co_e (c_ix rfl (co_e (c_ix rfl (co_n 1 (pv 1)) (co_e (c_var 5 (pv 5))) (fun _ _ => rfl))) (co_e (c_var 8 (pv 8))) (fun _ _ => rfl))))) (co_e (c_op or_mul os_mul (co_e (c_var 6 (pv 6))) (co_e (c_ix rfl (co_e (c_ix rfl (co_n 1 (pv 1)) (co_e (c_var 4 (pv 4))) (fun _ _ => rfl))) (co_e (c_var 8 (pv 8))) (fun _ _ => rfl))))))) (co_e (c_ix rfl (co_n 2 (pv 2)) (co_e (c_var 4 (pv 4))) (fun _ _ => rfl)))))) (by decide))) (cg_st (W := fun cls d _ H => E cls d H) 1 (pv 1) (c_var 5 (pv 5))))))))))
    (cb_ub 1 (cb_ub 2 (cb_one (cs_ret (c_tup (ca_cons (c_var 1 (pv 1)) (ca_cons (c_var 2 (pv 2)) ca_nil)))))))))
def N_table_of : List Str := ["table", "base", "x", "y"]
theorem sc_table_of : FnScope N_table_of ["table", "base"] (defScope (top 55)) := ⟨rfl, rfl, rfl, by decide +kernel, rfl, by decide +kernel, by decide +kernel⟩
theorem ok_table_of (n : Nat) (T : Tx g mg) (H_product : Has P w g.K mg base 1 "product" ["table", "x", "y"] (defArgs (top 53)) (spF g 3 (f_product n))) : Has P w g.K mg base 2 "table_of" ["table", "base"] (defArgs (top 55)) (spF g 2 (f_table_of n)) := by
  obtain ⟨fd, F⟩ := T.says.d.def_ 17 (d := dd "table_of" 55) rfl
  have F : FunD g.K "table_of" "table_of" (defArgs (top 55)) (defBody (top 55)) (defScope (top 55)) [] [] (He.fAd g.K ("table_of", none)) fd := F
  have nd := sc_table_of.nd
  refine ⟨_, fd, FnG.by (k := 1) F sc_table_of rfl rfl (by decide) (fun cdv A outer s H E hr gd => ?_), T.glo 17 rfl, F.kp, F.bindsN (fun _ _ _ _ _ _ us hl => match us, hl with | [_, _], _ => rfl), _, _, _, _, F⟩
  exact (cb_one (cs_ret (c_ct call_tuple_of ls_tuple (by rfl) T.g_tuple (by decide +kernel) (co_cons (co_e (c_fr (cf_lc (pe_lc (own := [("x", 2)]) (by rfl) nd (ci_any rfl (c_var 1 (pv 1))) (blkOk_by (own := [("x", 2)]) (N := N_table_of) (sc := defScope (top 55)) (by decide +kernel)) (fun _ _ _ _ _ => (cg_name 2 (pg_name (i := 2) nd rfl (by first | exact Or.inl rfl | exact Or.inr rfl)))) (fun _ _ _ _ _ => ts_nil) (fun _ _ _ _ _ => (c_ct call_tuple_of ls_tuple (by rfl) T.g_tuple (by decide +kernel) (co_cons (co_e (c_fr (cf_lc (pe_lc (own := [("y", 3)]) (by rfl) nd (ci_any rfl (c_var 1 (pv 1))) (blkOk_by (own := [("y", 3)]) (N := N_table_of) (by kernel_rfl)) (fun _ _ _ _ _ => (cg_name 3 (pg_name (i := 3) nd rfl (by first | exact Or.inl rfl | exact Or.inr rfl)))) (fun _ _ _ _ _ => ts_nil) (fun _ _ _ _ _ => (c_call H_product (hr.mono (by decide)) gd (by rfl) takes0N (co_cons (co_e (c_var 0 (pv 0))) (co_cons (co_e (c_var 2 (pv 2))) (co_cons (co_e (c_var 3 (pv 3))) co_nil))) (by decide +kernel)))) (by decide)))) co_nil) (by decide +kernel) (by decide +kernel)))) (by decide)))) co_nil) (by decide +kernel) (by decide +kernel))))
def N_root_of : List Str := ["value", "low", "high", "middle"]
theorem sc_root_of : FnScope N_root_of ["value"] (defScope (top 25)) := ⟨rfl, rfl, rfl, by decide +kernel, rfl, by decide +kernel, by decide +kernel⟩
theorem ok_root_of (n : Nat) (T : Tx g mg) : Has P w g.K mg base 1 "root_of" ["value"] (defArgs (top 25)) (spF g 1 (f_root_of n)) := by
  obtain ⟨fd, F⟩ := T.says.d.def_ 18 (d := dd "root_of" 25) rfl
  have F : FunD g.K "root_of" "root_of" (defArgs (top 25)) (defBody (top 25)) (defScope (top 25)) [] [] (He.fAd g.K ("root_of", none)) fd := F
  have nd := sc_root_of.nd
  refine ⟨_, fd, FnG.by (k := 0) F sc_root_of rfl rfl (by decide) (fun cdv A outer s H E hr gd => ?_), T.glo 18 rfl, F.kp, F.bindsN (fun _ _ _ _ _ _ us hl => match us, hl with | [_], _ => rfl), _, _, _, _, F⟩
  have po : PassesOwn (model P w) (A.deeper (envOfC "root_of" (defScope (top 25)) s.heap.objs.size (He.fAd g.K ("root_of", none)) cdv)) (envOfC "root_of" (defScope (top 25)) s.heap.objs.size (He.fAd g.K ("root_of", none)) cdv) (cxOf (L2N.CX P w) P w g.K mg base N_root_of "root_of" (defScope (top 25)) (He.fAd g.K ("root_of", none)) cdv A outer s H E).xe := passes_of (X := cxOf (L2N.CX P w) P w g.K mg base N_root_of "root_of" (defScope (top 25)) (He.fAd g.K ("root_of", none)) cdv A outer s H E) rfl
  exact (cb_cons (cs_asg (c_tup (ca_cons c_int (ca_cons c_int ca_nil))) (cg_tup (by rfl) rfl (cgs_cons (cg_name 1 (pg_name (i := 1) nd rfl (by first | exact Or.inl rfl | exact Or.inr rfl))) (cgs_cons (cg_name 2 (pg_name (i := 2) nd rfl (by first | exact Or.inl rfl | exact Or.inr rfl))) cgs_nil))))
    (cb_cons (cs_while n po (ct_cmp op_le os_le (co_e (c_op or_mul os_mul (co_e (c_var 2 (pv 2))) (co_e (c_var 2 (pv 2))))) (co_e (c_var 0 (pv 0))) (by first | exact nomark _ | rfl | with_unfolding_all rfl))
    (cb_one (cs_set 2 (ps_set (i := 2) nd rfl (by first | exact Or.inl rfl | exact Or.inr rfl) (c_op or_mul os_mul (co_e c_int) (co_e (c_var 2 (pv 2))))))))
    (cb_cons (cs_while n po (ct_cmp op_gt os_gt (co_e (c_op op_sub os_sub (co_e (c_var 2 (pv 2))) (co_e (c_var 1 (pv 1))))) (co_e c_int) (by first | exact nomark _ | rfl | with_unfolding_all rfl))
    (cb_cons (cs_set 3 (ps_set (i := 3) nd rfl (by first | exact Or.inl rfl | exact Or.inr rfl) (c_op op_fdivG os_fdiv (co_e (c_op or_add os_add (co_e (c_var 1 (pv 1))) (co_e (c_var 2 (pv 2))))) (co_e c_int))))
    (cb_one (cs_if (ct_cmp op_le os_le (co_e (c_op or_mul os_mul (co_e (c_var 3 (pv 3))) (co_e (c_var 3 (pv 3))))) (co_e (c_var 0 (pv 0))) (by first | exact nomark _ | rfl | with_unfolding_all rfl))
    (cb_one (cs_set 1 (ps_set (i := 1) nd rfl (by first | exact Or.inl rfl | exact Or.inr rfl) (c_var 3 (pv 3)))))
    (cb_one (cs_set 2 (ps_set (i := 2) nd rfl (by first | exact Or.inl rfl | exact Or.inr rfl) (c_var 3 (pv 3)))))))))
    (cb_one (cs_ret (c_var 1 (pv 1)))))))
def N_exact_heads : List Str := ["line", "minors", "tail", "top", "bottom", "size", "shift", "most", "some", "one", "entry", "number"]
theorem sc_exact_heads : FnScope N_exact_heads ["line", "minors", "tail", "top", "bottom"] (defScope (top 61)) := ⟨rfl, rfl, rfl, by decide +kernel, rfl, by decide +kernel, by decide +kernel⟩
theorem ok_exact_heads (n : Nat) (T : Tx g mg) (H_root_of : Has P w g.K mg base 1 "root_of" ["value"] (defArgs (top 25)) (spF g 1 (f_root_of n))) : Has P w g.K mg base 2 "exact_heads" ["line", "minors", "tail", "top", "bottom"] (defArgs (top 61)) (spF g 5 (f_exact_heads n)) := by
  obtain ⟨fd, F⟩ := T.says.d.def_ 19 (d := dd "exact_heads" 61) rfl
  have F : FunD g.K "exact_heads" "exact_heads" (defArgs (top 61)) (defBody (top 61)) (defScope (top 61)) [] [] (He.fAd g.K ("exact_heads", none)) fd := F
  have nd := sc_exact_heads.nd
  refine ⟨_, fd, FnG.by (k := 1) F sc_exact_heads rfl rfl (by decide) (fun cdv A outer s H E hr gd => ?_), T.glo 19 rfl, F.kp, F.bindsN (fun _ _ _ _ _ _ us hl => match us, hl with | [_, _, _, _, _], _ => rfl), _, _, _, _, F⟩
  have tk : L2N.Takes (cxOf (L2N.CX P w) P w g.K mg base N_exact_heads "exact_heads" (defScope (top 61)) (He.fAd g.K ("exact_heads", none)) cdv A outer s H E) (fun cls d _ H => E cls d H) := L2N.takes_of rfl rfl rfl rfl
  exact (cb_cons (cs_if (ct_cmp (or_ne (u64 hr)) os_ne (co_e (c_op op_modN os_mod (co_e (c_op or_mul os_mul (co_e (c_var 3 (pv 3))) (co_e (c_ix rfl (co_e (c_var 1 (pv 1))) (co_e c_int) (fun _ _ => rfl))))) (co_e (c_var 4 (pv 4))))) (co_e c_int) (by first | exact nomark _ | rfl | with_unfolding_all rfl))
    (cb_one (cs_retF (cf_lst ca_nil)))
    cb_nil)
    (cb_cons (cs_asg (c_tup (ca_cons (c_op op_fdivG os_fdiv (co_e (c_op or_mul os_mul (co_e (c_var 3 (pv 3))) (co_e (c_ix rfl (co_e (c_var 1 (pv 1))) (co_e c_int) (fun _ _ => rfl))))) (co_e (c_var 4 (pv 4)))) (ca_cons (c_cb (cr_sum rfl) ls_sum (by rfl) T.g_sum (by decide +kernel) (co_cons (co_e (c_fr (cf_lc (pe_lc (own := [("entry", 10), ("number", 11)]) (by rfl) nd (ci_pairs rfl (by rfl) T.g_zip (ca_cons (c_sl rfl (co_e (c_var 0 (pv 0))) (cp_some c_int) cp_none) (ca_cons (c_var 2 (pv 2)) ca_nil))) (blkOk_by (own := [("entry", 10), ("number", 11)]) (N := N_exact_heads) (sc := defScope (top 61)) (by decide +kernel)) (fun _ _ _ _ _ => (cg_tup (by rfl) rfl (cgs_cons (cg_name 10 (pg_name (i := 10) nd rfl (by first | exact Or.inl rfl | exact Or.inr rfl))) (cgs_cons (cg_name 11 (pg_name (i := 11) nd rfl (by first | exact Or.inl rfl | exact Or.inr rfl))) cgs_nil)))) (fun _ _ _ _ _ => ts_nil) (fun _ _ _ _ _ => (c_op or_mul os_mul (co_e (c_var 10 (pv 10))) (co_e (c_var 11 (pv 11)))))) (by decide)))) co_nil) (by decide +kernel) (by decide +kernel)) ca_nil))) (cg_tup (by rfl) rfl (cgs_cons (cg_name 5 (pg_name (i := 5) nd rfl (by first | exact Or.inl rfl | exact Or.inr rfl))) (cgs_cons (cg_name 6 (pg_name (i := 6) nd rfl (by first | exact Or.inl rfl | exact Or.inr rfl))) cgs_nil))))
    (cb_cons (cs_set 7 (ps_set (i := 7) nd rfl (by first | exact Or.inl rfl | exact Or.inr rfl) (c_call H_root_of (hr.mono (by decide)) gd (by rfl) tk (co_cons (co_e (c_var 5 (pv 5))) co_nil) (by decide +kernel))))
    (cb_cons (cs_if (ct_cmp (or_ne (u64 hr)) os_ne (co_e (c_op or_mul os_mul (co_e (c_var 7 (pv 7))) (co_e (c_var 7 (pv 7))))) (co_e (c_var 5 (pv 5))) (by first | exact nomark _ | rfl | with_unfolding_all rfl))
    (cb_one (cs_retF (cf_lst ca_nil)))
    cb_nil)
    (cb_cons (cs_set 8 (ps_set (i := 8) nd rfl (by first | exact Or.inl rfl | exact Or.inr rfl) (c_fr (cf_sd 7 (pv 7) (pv 7) rfl (by rfl) T.g_sorted))))
    (cb_one (cs_retF (cf_lc (pe_lc (own := [("one", 9)]) (by rfl) nd (ci_any rfl (c_var 8 (pv 8))) (blkOk_by (own := [("one", 9)]) (N := N_exact_heads) (sc := defScope (top 61)) (by decide +kernel)) (fun _ _ _ _ _ => (cg_name 9 (pg_name (i := 9) nd rfl (by first | exact Or.inl rfl | exact Or.inr rfl)))) (fun _ _ _ _ _ => (ts_one (ct_cmp (or_eq (u64 hr)) os_eq (co_e (c_op op_modN os_mod (co_e (c_op op_sub os_sub (co_e (c_var 9 (pv 9))) (co_e (c_var 6 (pv 6))))) (co_e (c_ix rfl (co_e (c_var 1 (pv 1))) (co_e c_int) (fun _ _ => rfl))))) (co_e c_int) (by first | exact nomark _ | rfl | with_unfolding_all rfl)))) (fun _ _ _ _ _ => (c_op op_fdivG os_fdiv (co_e (c_op op_sub os_sub (co_e (c_var 9 (pv 9))) (co_e (c_var 6 (pv 6))))) (co_e (c_ix rfl (co_e (c_var 1 (pv 1))) (co_e c_int) (fun _ _ => rfl)))))) (by decide)))))))))
def N_spread : List Str := ["line", "minors", "k", "tail", "top", "bottom", "whole", "shift", "most", "least", "last", "found", "number", "size", "entry"]
theorem sc_spread : FnScope N_spread ["line", "minors", "k", "tail", "top", "bottom"] (defScope (top 60)) := ⟨rfl, rfl, rfl, by decide +kernel, rfl, by decide +kernel, by decide +kernel⟩
theorem ok_spread (n : Nat) (T : Tx g mg) (H_root_of : Has P w g.K mg base 1 "root_of" ["value"] (defArgs (top 25)) (spF g 1 (f_root_of n))) : Has P w g.K mg base 2 "spread" ["line", "minors", "k", "tail", "top", "bottom"] (defArgs (top 60)) (spF g 6 (f_spread n)) := by
  obtain ⟨fd, F⟩ := T.says.d.def_ 20 (d := dd "spread" 60) rfl
  have F : FunD g.K "spread" "spread" (defArgs (top 60)) (defBody (top 60)) (defScope (top 60)) [] [] (He.fAd g.K ("spread", none)) fd := F
  have nd := sc_spread.nd
  refine ⟨_, fd, FnG.by (k := 1) F sc_spread rfl rfl (by decide) (fun cdv A outer s H E hr gd => ?_), T.glo 20 rfl, F.kp, F.bindsN (fun _ _ _ _ _ _ us hl => match us, hl with | [_, _, _, _, _, _], _ => rfl), _, _, _, _, F⟩
  have tk : L2N.Takes (cxOf (L2N.CX P w) P w g.K mg base N_spread "spread" (defScope (top 60)) (He.fAd g.K ("spread", none)) cdv A outer s H E) (fun cls d _ H => E cls d H) := L2N.takes_of rfl rfl rfl rfl
  have po : PassesOwn (model P w) (A.deeper (envOfC "spread" (defScope (top 60)) s.heap.objs.size (He.fAd g.K ("spread", none)) cdv)) (envOfC "spread" (defScope (top 60)) s.heap.objs.size (He.fAd g.K ("spread", none)) cdv) (cxOf (L2N.CX P w) P w g.K mg base N_spread "spread" (defScope (top 60)) (He.fAd g.K ("spread", none)) cdv A outer s H E).xe := passes_of (X := cxOf (L2N.CX P w) P w g.K mg base N_spread "spread" (defScope (top 60)) (He.fAd g.K ("spread", none)) cdv A outer s H E) rfl
  exact (cb_cons (cs_set 6 (ps_set (i := 6) nd rfl (by first | exact Or.inl rfl | exact Or.inr rfl) (c_op or_mul os_mul (co_e (c_ix rfl (co_e (c_var 1 (pv 1))) (co_e (c_var 2 (pv 2))) (fun _ _ => rfl))) (co_e (c_ix rfl (co_e (c_var 1 (pv 1))) (co_e (c_op or_add os_add (co_e (c_var 2 (pv 2))) (co_e c_int))) (fun _ _ => rfl))))))
    (cb_cons (cs_set 7 (ps_set (i := 7) nd rfl (by first | exact Or.inl rfl | exact Or.inr rfl) (c_cb (cr_sum rfl) ls_sum (by rfl) T.g_sum (by decide +kernel) (co_cons (co_e (c_fr (cf_lc (pe_lc (own := [("entry", 14), ("number", 12)]) (by rfl) nd (ci_pairs rfl (by rfl) T.g_zip (ca_cons (c_sl rfl (co_e (c_var 0 (pv 0))) (cp_some (c_op or_add os_add (co_e (c_var 2 (pv 2))) (co_e c_int))) cp_none) (ca_cons (c_var 3 (pv 3)) ca_nil))) (blkOk_by (own := [("entry", 14), ("number", 12)]) (N := N_spread) (sc := defScope (top 60)) (by decide +kernel)) (fun _ _ _ _ _ => (cg_tup (by rfl) rfl (cgs_cons (cg_name 14 (pg_name (i := 14) nd rfl (by first | exact Or.inl rfl | exact Or.inr rfl))) (cgs_cons (cg_name 12 (pg_name (i := 12) nd rfl (by first | exact Or.inl rfl | exact Or.inr rfl))) cgs_nil)))) (fun _ _ _ _ _ => ts_nil) (fun _ _ _ _ _ => (c_op or_mul os_mul (co_e (c_var 14 (pv 14))) (co_e (c_var 12 (pv 12)))))) (by decide)))) co_nil) (by decide +kernel) (by decide +kernel))))
    (cb_cons (cs_set 8 (ps_set (i := 8) nd rfl (by first | exact Or.inl rfl | exact Or.inr rfl) (c_call H_root_of (hr.mono (by decide)) gd (by rfl) tk (co_cons (co_e (c_op op_fdivG os_fdiv (co_e (c_op or_mul os_mul (co_e (c_var 4 (pv 4))) (co_e (c_var 6 (pv 6))))) (co_e (c_var 5 (pv 5))))) co_nil) (by decide +kernel))))
    (cb_cons (cs_par2 9 10 (ps_par (i := 9) (j := 10) (by rfl) nd rfl rfl (by decide) rfl rfl (ed_cons (ed_e (c_un un_neg us_neg (co_e (c_op op_fdivG os_fdiv (co_e (c_op or_add os_add (co_e (c_var 8 (pv 8))) (co_e (c_var 7 (pv 7))))) (co_e (c_ix rfl (co_e (c_var 1 (pv 1))) (co_e (c_op or_add os_add (co_e (c_var 2 (pv 2))) (co_e c_int))) (fun _ _ => rfl))))))) (ed_cons (ed_e (c_op op_fdivG os_fdiv (co_e (c_op op_sub os_sub (co_e (c_var 8 (pv 8))) (co_e (c_var 7 (pv 7))))) (co_e (c_ix rfl (co_e (c_var 1 (pv 1))) (co_e (c_op or_add os_add (co_e (c_var 2 (pv 2))) (co_e c_int))) (fun _ _ => rfl))))) ed_nil)) (by rfl)))
    (cb_cons (cs_setB 11 (ps_set (i := 11) nd rfl (by first | exact Or.inl rfl | exact Or.inr rfl) (cf_lst ca_nil)))
    (cb_cons (cs_for po (by rfl) (ci_range2 (by rfl) T.g_range (co_cons (co_e (c_var 9 (pv 9))) (co_cons (co_e (c_op or_add os_add (co_e (c_var 10 (pv 10))) (co_e c_int))) co_nil))) (cg_name 12 (pg_name (i := 12) nd rfl (by first | exact Or.inl rfl | exact Or.inr rfl)))
    (cb_cons (cs_set 13 (ps_set (i := 13) nd rfl (by first | exact Or.inl rfl | exact Or.inr rfl) (c_op or_add os_add (co_e (c_op or_mul os_mul (co_e (c_ix rfl (co_e (c_var 1 (pv 1))) (co_e (c_op or_add os_add (co_e (c_var 2 (pv 2))) (co_e c_int))) (fun _ _ => rfl))) (co_e (c_var 12 (pv 12))))) (co_e (c_var 7 (pv 7))))))
    (cb_one (cs_expr (c_app 11 rfl (pe_bm PySem.F.plainAttrs_list PySem.F.slot_list_append PySem.F.type_list_append mt_append (pv 11) (pa_cons (c_tup (ca_cons (c_var 12 (pv 12)) (ca_cons (c_op op_sub os_sub (co_e (c_op or_mul os_mul (co_e (c_var 4 (pv 4))) (co_e (c_var 6 (pv 6))))) (co_e (c_op or_mul os_mul (co_e (c_op or_mul os_mul (co_e (c_var 13 (pv 13))) (co_e (c_var 13 (pv 13))))) (co_e (c_var 5 (pv 5)))))) (ca_cons (c_op or_mul os_mul (co_e (c_var 5 (pv 5))) (co_e (c_var 6 (pv 6)))) ca_nil)))) pa_nil)))))))
    (cb_one (cs_retB 11 (pv 11)))))))))
def N_writings_from : List Str := ["lines", "minors", "k", "tail", "left", "only_one", "found", "number", "top", "bottom"]
theorem sc_writings_from : FnScope N_writings_from ["lines", "minors", "k", "tail", "left", "only_one"] (defScope (top 62)) := ⟨rfl, rfl, rfl, by decide +kernel, rfl, by decide +kernel, by decide +kernel⟩
theorem ok_writings_from (n : Nat) (T : Tx g mg) (H_exact_heads : Has P w g.K mg base 2 "exact_heads" ["line", "minors", "tail", "top", "bottom"] (defArgs (top 61)) (spF g 5 (f_exact_heads n))) (H_spread : Has P w g.K mg base 2 "spread" ["line", "minors", "k", "tail", "top", "bottom"] (defArgs (top 60)) (spF g 6 (f_spread n))) : ∀ k : Nat, Has P w g.K mg base (3 + k) "writings_from" ["lines", "minors", "k", "tail", "left", "only_one"] (defArgs (top 62)) (spF g 6 (f_writings_from n k)) := by
  obtain ⟨fd, F⟩ := T.says.d.def_ 21 (d := dd "writings_from" 62) rfl
  have F : FunD g.K "writings_from" "writings_from" (defArgs (top 62)) (defBody (top 62)) (defScope (top 62)) [] [] (He.fAd g.K ("writings_from", none)) fd := F
  have nd := sc_writings_from.nd
  intro k
  induction k with
  | zero =>
    refine ⟨_, fd, FnG.by (k := 2) F sc_writings_from rfl rfl (by decide) (fun cdv A outer s H E hr gd => ?_), T.glo 21 rfl, F.kp, F.bindsN (fun _ _ _ _ _ _ us hl => match us, hl with | [_, _, _, _, _, _], _ => rfl), _, _, _, _, F⟩
    exact cb_bad
  | succ k H_writings_from =>
    refine ⟨_, fd, FnG.by (k := 3 + k) F sc_writings_from rfl rfl (by decide) (fun cdv A outer s H E hr gd => ?_), T.glo 21 rfl, F.kp, F.bindsN (fun _ _ _ _ _ _ us hl => match us, hl with | [_, _, _, _, _, _], _ => rfl), _, _, _, _, F⟩
    have tk : L2N.Takes (cxOf (L2N.CX P w) P w g.K mg base N_writings_from "writings_from" (defScope (top 62)) (He.fAd g.K ("writings_from", none)) cdv A outer s H E) (fun cls d _ H => E cls d H) := L2N.takes_of rfl rfl rfl rfl
    have po : PassesOwn (model P w) (A.deeper (envOfC "writings_from" (defScope (top 62)) s.heap.objs.size (He.fAd g.K ("writings_from", none)) cdv)) (envOfC "writings_from" (defScope (top 62)) s.heap.objs.size (He.fAd g.K ("writings_from", none)) cdv) (cxOf (L2N.CX P w) P w g.K mg base N_writings_from "writings_from" (defScope (top 62)) (He.fAd g.K ("writings_from", none)) cdv A outer s H E).xe := passes_of (X := cxOf (L2N.CX P w) P w g.K mg base N_writings_from "writings_from" (defScope (top 62)) (He.fAd g.K ("writings_from", none)) cdv A outer s H E) rfl
    exact (cb_cons (cs_if (ct_cmp (or_eq (u64 hr)) os_eq (co_e (c_var 2 (pv 2))) (co_e c_int) (by first | exact nomark _ | rfl | with_unfolding_all rfl))
    (cb_one (cs_retF (cf_lc (pe_lc (own := [("number", 7)]) (by rfl) nd (ci_any rfl (c_fr (cf_call H_exact_heads (hr.mono (by omega)) gd (by rfl) tk (co_cons (co_e (c_ix rfl (co_e (c_var 0 (pv 0))) (co_e c_int) (fun _ _ => rfl))) (co_cons (co_e (c_var 1 (pv 1))) (co_cons (co_e (c_var 3 (pv 3))) (co_cons (co_e (c_ix rfl (co_e (c_var 4 (pv 4))) (co_e c_int) (fun _ _ => rfl))) (co_cons (co_e (c_ix rfl (co_e (c_var 4 (pv 4))) (co_e c_int) (fun _ _ => rfl))) co_nil))))) (by decide +kernel)))) (blkOk_by (own := [("number", 7)]) (N := N_writings_from) (sc := defScope (top 62)) (by decide +kernel)) (fun _ _ _ _ _ => (cg_name 7 (pg_name (i := 7) nd rfl (by first | exact Or.inl rfl | exact Or.inr rfl)))) (fun _ _ _ _ _ => ts_nil) (fun _ _ _ _ _ => (c_op or_add os_add (co_e (c_tup (ca_cons (c_var 7 (pv 7)) ca_nil))) (co_e (c_var 3 (pv 3)))))) (by decide))))
    cb_nil)
    (cb_cons (cs_setB 6 (ps_set (i := 6) nd rfl (by first | exact Or.inl rfl | exact Or.inr rfl) (cf_lst ca_nil)))
    (cb_cons (cs_for po (by rfl) (ci_any rfl (c_fr (cf_call H_spread (hr.mono (by omega)) gd (by rfl) tk (co_cons (co_e (c_ix rfl (co_e (c_var 0 (pv 0))) (co_e (c_var 2 (pv 2))) (fun _ _ => rfl))) (co_cons (co_e (c_var 1 (pv 1))) (co_cons (co_e (c_var 2 (pv 2))) (co_cons (co_e (c_var 3 (pv 3))) (co_cons (co_e (c_ix rfl (co_e (c_var 4 (pv 4))) (co_e c_int) (fun _ _ => rfl))) (co_cons (co_e (c_ix rfl (co_e (c_var 4 (pv 4))) (co_e c_int) (fun _ _ => rfl))) co_nil)))))) (by decide +kernel)))) (cg_tup (by rfl) rfl (cgs_cons (cg_name 7 (pg_name (i := 7) nd rfl (by first | exact Or.inl rfl | exact Or.inr rfl))) (cgs_cons (cg_name 8 (pg_name (i := 8) nd rfl (by first | exact Or.inl rfl | exact Or.inr rfl))) (cgs_cons (cg_name 9 (pg_name (i := 9) nd rfl (by first | exact Or.inl rfl | exact Or.inr rfl))) cgs_nil))))
    (cb_cons (cs_expr (c_ext 6 rfl (pe_bm PySem.F.plainAttrs_list PySem.F.slot_list_extend PySem.F.type_list_extend mt_extend (pv 6) (pa_cons (c_fr (cf_call H_writings_from (hr.mono (by omega)) gd (by rfl) tk (co_cons (co_e (c_var 0 (pv 0))) (co_cons (co_e (c_var 1 (pv 1))) (co_cons (co_e (c_op op_sub os_sub (co_e (c_var 2 (pv 2))) (co_e c_int))) (co_cons (co_e (c_op or_add os_add (co_e (c_tup (ca_cons (c_var 7 (pv 7)) ca_nil))) (co_e (c_var 3 (pv 3))))) (co_cons (co_e (c_tup (ca_cons (c_var 8 (pv 8)) (ca_cons (c_var 9 (pv 9)) ca_nil)))) (co_cons (co_e (c_var 5 (pv 5))) co_nil)))))) (by decide +kernel))) pa_nil))))
    (cb_one (cs_if (ct_w (cw_and (ct_tru (co_e (c_var 5 (pv 5))) rfl (by intro _; rfl)) (cw_and1 (ct_cmp (or_ne (u64 hr)) os_ne (co_n 6 (pv 6)) (co_e (c_fr (cf_lst ca_nil))) (by first | exact nomark _ | rfl | with_unfolding_all rfl)))))
    (cb_one (cs_retB 6 (pv 6)))
    cb_nil))))
    (cb_one (cs_retB 6 (pv 6))))))
def N_vectors_of : List Str := ["table", "value", "only_one", "base", "lines", "minors", "x"]
theorem sc_vectors_of : FnScope N_vectors_of ["table", "value", "only_one"] (defScope (top 63)) := ⟨rfl, rfl, rfl, by decide +kernel, rfl, by decide +kernel, by decide +kernel⟩
theorem ok_vectors_of (n : Nat) (T : Tx g mg) (H_small_base : Has P w g.K mg base 3 "small_base" ["table"] (defArgs (top 58)) (spF g 1 (f_small_base n))) (H_squares_of : Has P w g.K mg base 1 "squares_of" ["table"] (defArgs (top 59)) (spF g 1 (f_squares_of n))) (H_table_of : Has P w g.K mg base 2 "table_of" ["table", "base"] (defArgs (top 55)) (spF g 2 (f_table_of n))) (H_combined : Has P w g.K mg base 1 "combined" ["numbers", "vectors"] (defArgs (top 54)) (spF g 2 (f_combined n))) (H_writings_from : Has P w g.K mg base 9 "writings_from" ["lines", "minors", "k", "tail", "left", "only_one"] (defArgs (top 62)) (spF g 6 (f_writings_from n 6))) : Has P w g.K mg base 10 "vectors_of" ["table", "value", "only_one"] (defArgs (top 63)) (spF g 3 (f_vectors_of n)) := by
  obtain ⟨fd, F⟩ := T.says.d.def_ 22 (d := dd "vectors_of" 63) rfl
  have F : FunD g.K "vectors_of" "vectors_of" (defArgs (top 63)) (defBody (top 63)) (defScope (top 63)) [] [] (He.fAd g.K ("vectors_of", none)) fd := F
  have nd := sc_vectors_of.nd
  refine ⟨_, fd, FnG.by (k := 9) F sc_vectors_of rfl rfl (by decide) (fun cdv A outer s H E hr gd => ?_), T.glo 22 rfl, F.kp, F.bindsN (fun _ _ _ _ _ _ us hl => match us, hl with | [_, _, _], _ => rfl), _, _, _, _, F⟩
  have tk : L2N.Takes (cxOf (L2N.CX P w) P w g.K mg base N_vectors_of "vectors_of" (defScope (top 63)) (He.fAd g.K ("vectors_of", none)) cdv A outer s H E) (fun cls d _ H => E cls d H) := L2N.takes_of rfl rfl rfl rfl
  exact (cb_cons (cs_set 3 (ps_set (i := 3) nd rfl (by first | exact Or.inl rfl | exact Or.inr rfl) (c_call H_small_base (hr.mono (by decide)) gd (by rfl) tk (co_cons (co_e (c_var 0 (pv 0))) co_nil) (by decide +kernel))))
    (cb_cons (cs_asg (c_call H_squares_of (hr.mono (by decide)) gd (by rfl) tk (co_cons (co_e (c_call H_table_of (hr.mono (by decide)) gd (by rfl) tk (co_cons (co_e (c_var 0 (pv 0))) (co_cons (co_e (c_var 3 (pv 3))) co_nil)) (by decide +kernel))) co_nil) (by decide +kernel)) (cg_tup (by rfl) rfl (cgs_cons (cg_name 4 (pg_name (i := 4) nd rfl (by first | exact Or.inl rfl | exact Or.inr rfl))) (cgs_cons (cg_name 5 (pg_name (i := 5) nd rfl (by first | exact Or.inl rfl | exact Or.inr rfl))) cgs_nil))))
    (cb_one (cs_retF (cf_lc (pe_lc (own := [("x", 6)]) (by rfl) nd (ci_any rfl (c_fr (cf_call H_writings_from (hr.mono (by decide)) gd (by rfl) tk (co_cons (co_e (c_var 4 (pv 4))) (co_cons (co_e (c_var 5 (pv 5))) (co_cons (co_e (c_op op_sub os_sub (co_e (c_cb call_len ls_len (by rfl) T.g_len (by decide +kernel) (co_cons (co_e (c_var 0 (pv 0))) co_nil) (by decide +kernel) (by decide +kernel))) (co_e c_int))) (co_cons (co_e (c_tup ca_nil)) (co_cons (co_e (c_tup (ca_cons (c_op or_mul os_mul (co_e c_int) (co_e (c_var 1 (pv 1)))) (ca_cons c_int ca_nil)))) (co_cons (co_e (c_var 2 (pv 2))) co_nil)))))) (by decide +kernel)))) (blkOk_by (own := [("x", 6)]) (N := N_vectors_of) (sc := defScope (top 63)) (by decide +kernel)) (fun _ _ _ _ _ => (cg_name 6 (pg_name (i := 6) nd rfl (by first | exact Or.inl rfl | exact Or.inr rfl)))) (fun _ _ _ _ _ => ts_nil) (fun _ _ _ _ _ => (c_call H_combined (hr.mono (by decide)) gd (by rfl) takes0N (co_cons (co_e (c_var 6 (pv 6))) (co_cons (co_e (c_var 3 (pv 3))) co_nil)) (by decide +kernel)))) (by decide))))))
def N_Form_table : List Str := ["self"]
theorem sc_Form_table : FnScope N_Form_table ["self"] (defScope (inClass (top 49) 4)) := ⟨rfl, rfl, rfl, by decide +kernel, rfl, by decide +kernel, by decide +kernel⟩
theorem ok_Form_table (n : Nat) (T : Tx g mg) : HasM P w g.K mg base 1 (pAt "Form" "table" g.K) "table" "Form.table" ["self"] (defArgs (inClass (top 49) 4)) (spF g 1 (f_Form_table n)) := by
  obtain ⟨fd, F⟩ := T.sp.def_ 2 (d := dp (pAt "Form" "table") "table" "Form.table" (inClass (top 49) 4)) rfl
  have F : FunD g.K "table" "Form.table" (defArgs (inClass (top 49) 4)) (defBody (inClass (top 49) 4)) (defScope (inClass (top 49) 4)) [] [] (pAt "Form" "table" g.K) fd := F
  refine ⟨fd, FnG.by (k := 0) F sc_Form_table rfl rfl (by decide) (fun cdv A outer s H E hr gd => ?_), F.bindsN (fun _ _ _ _ _ _ us hl => match us, hl with | [_], _ => rfl), _, _, F⟩
  exact (cb_one (cs_ret (c_ix rfl (co_e (c_fldO T.fi_Form_held rfl (co_e (c_var 0 (pv 0))) rfl)) (co_e c_int) (fun _ _ => rfl))))
def N_is_given : List Str := ["form", "number"]
theorem sc_is_given : FnScope N_is_given ["form", "number"] (defScope (top 69)) := ⟨rfl, rfl, rfl, by decide +kernel, rfl, by decide +kernel, by decide +kernel⟩
theorem ok_is_given (n : Nat) (T : Tx g mg) (H_vectors_of : Has P w g.K mg base 10 "vectors_of" ["table", "value", "only_one"] (defArgs (top 63)) (spF g 3 (f_vectors_of n))) (H_Form_table : HasM P w g.K mg base 1 (pAt "Form" "table" g.K) "table" "Form.table" ["self"] (defArgs (inClass (top 49) 4)) (spF g 1 (f_Form_table n))) : Has P w g.K mg base 11 "is_given" ["form", "number"] (defArgs (top 69)) (spF g 2 (f_is_given n)) := by
  obtain ⟨fd, F⟩ := T.says.d.def_ 23 (d := dd "is_given" 69) rfl
  have F : FunD g.K "is_given" "is_given" (defArgs (top 69)) (defBody (top 69)) (defScope (top 69)) [] [] (He.fAd g.K ("is_given", none)) fd := F
  refine ⟨_, fd, FnG.by (k := 10) F sc_is_given rfl rfl (by decide) (fun cdv A outer s H E hr gd => ?_), T.glo 23 rfl, F.kp, F.bindsN (fun _ _ _ _ _ _ us hl => match us, hl with | [_, _], _ => rfl), _, _, _, _, F⟩
  have tk : L2N.Takes (cxOf (L2N.CX P w) P w g.K mg base N_is_given "is_given" (defScope (top 69)) (He.fAd g.K ("is_given", none)) cdv A outer s H E) (fun cls d _ H => E cls d H) := L2N.takes_of rfl rfl rfl rfl
  exact (cb_one (cs_ret (c_cmp (or_ne (u64 hr)) os_ne (co_e (c_fr (cf_call H_vectors_of (hr.mono (by decide)) gd (by rfl) tk (co_cons (co_e (c_propM T.is_Form (c_var 0 (pv 0)) T.cls_Form T.prop_Form_table H_Form_table (hr.mono (by decide)) gd)) (co_cons (co_e (c_var 1 (pv 1))) (co_cons (co_e c_bl) co_nil))) (by decide +kernel)))) (co_e (c_fr (cf_lst ca_nil))) (by first | exact nomark _ | rfl | with_unfolding_all rfl))))
def N_gives : List Str := ["form", "number"]
theorem sc_gives : FnScope N_gives ["form", "number"] (defScope (top 70)) := ⟨rfl, rfl, rfl, by decide +kernel, rfl, by decide +kernel, by decide +kernel⟩
theorem ok_gives (n : Nat) (T : Tx g mg) (H_check_number : Has P w g.K mg base 4 "check_number" ["form", "number"] (defArgs (top 68)) (spF g 2 (f_check_number n))) (H_is_given : Has P w g.K mg base 11 "is_given" ["form", "number"] (defArgs (top 69)) (spF g 2 (f_is_given n))) : Has P w g.K mg base 12 "gives" ["form", "number"] (defArgs (top 70)) (spF g 2 (f_gives n)) := by
  obtain ⟨fd, F⟩ := T.says.d.def_ 24 (d := dd "gives" 70) rfl
  have F : FunD g.K "gives" "gives" (defArgs (top 70)) (defBody (top 70)) (defScope (top 70)) [] [] (He.fAd g.K ("gives", none)) fd := F
  refine ⟨_, fd, FnG.by (k := 11) F sc_gives rfl rfl (by decide) (fun cdv A outer s H E hr gd => ?_), T.glo 24 rfl, F.kp, F.bindsN (fun _ _ _ _ _ _ us hl => match us, hl with | [_, _], _ => rfl), _, _, _, _, F⟩
  have tk : L2N.Takes (cxOf (L2N.CX P w) P w g.K mg base N_gives "gives" (defScope (top 70)) (He.fAd g.K ("gives", none)) cdv A outer s H E) (fun cls d _ H => E cls d H) := L2N.takes_of rfl rfl rfl rfl
  exact (cb_cons (cs_expr (c_call H_check_number (hr.mono (by decide)) gd (by rfl) tk (co_cons (co_e (c_var 0 (pv 0))) (co_cons (co_e (c_var 1 (pv 1))) co_nil)) (by decide +kernel)))
    (cb_one (cs_ret (c_call H_is_given (hr.mono (by decide)) gd (by rfl) tk (co_cons (co_e (c_var 0 (pv 0))) (co_cons (co_e (c_var 1 (pv 1))) co_nil)) (by decide +kernel)))))
def N_all_writings : List Str := ["form", "number"]
theorem sc_all_writings : FnScope N_all_writings ["form", "number"] (defScope (top 71)) := ⟨rfl, rfl, rfl, by decide +kernel, rfl, by decide +kernel, by decide +kernel⟩
theorem ok_all_writings (n : Nat) (T : Tx g mg) (H_vectors_of : Has P w g.K mg base 10 "vectors_of" ["table", "value", "only_one"] (defArgs (top 63)) (spF g 3 (f_vectors_of n))) (H_Form_table : HasM P w g.K mg base 1 (pAt "Form" "table" g.K) "table" "Form.table" ["self"] (defArgs (inClass (top 49) 4)) (spF g 1 (f_Form_table n))) : Has P w g.K mg base 11 "all_writings" ["form", "number"] (defArgs (top 71)) (spF g 2 (f_all_writings n)) := by
  obtain ⟨fd, F⟩ := T.says.d.def_ 25 (d := dd "all_writings" 71) rfl
  have F : FunD g.K "all_writings" "all_writings" (defArgs (top 71)) (defBody (top 71)) (defScope (top 71)) [] [] (He.fAd g.K ("all_writings", none)) fd := F
  refine ⟨_, fd, FnG.by (k := 10) F sc_all_writings rfl rfl (by decide) (fun cdv A outer s H E hr gd => ?_), T.glo 25 rfl, F.kp, F.bindsN (fun _ _ _ _ _ _ us hl => match us, hl with | [_, _], _ => rfl), _, _, _, _, F⟩
  have tk : L2N.Takes (cxOf (L2N.CX P w) P w g.K mg base N_all_writings "all_writings" (defScope (top 71)) (He.fAd g.K ("all_writings", none)) cdv A outer s H E) (fun cls d _ H => E cls d H) := L2N.takes_of rfl rfl rfl rfl
  exact (cb_one (cs_retF (cf_cb (cr_sortedZ (u64 hr)) fs_sortedZ (by rfl) T.g_sorted (by decide +kernel) (co_cons (co_e (c_fr (cf_call H_vectors_of (hr.mono (by decide)) gd (by rfl) tk (co_cons (co_e (c_propM T.is_Form (c_var 0 (pv 0)) T.cls_Form T.prop_Form_table H_Form_table (hr.mono (by decide)) gd)) (co_cons (co_e (c_var 1 (pv 1))) (co_cons (co_e c_bl) co_nil))) (by decide +kernel)))) co_nil) (by decide +kernel) (by decide +kernel))))
def N_writings : List Str := ["form", "number"]
theorem sc_writings : FnScope N_writings ["form", "number"] (defScope (top 72)) := ⟨rfl, rfl, rfl, by decide +kernel, rfl, by decide +kernel, by decide +kernel⟩
theorem ok_writings (n : Nat) (T : Tx g mg) (H_check_number : Has P w g.K mg base 4 "check_number" ["form", "number"] (defArgs (top 68)) (spF g 2 (f_check_number n))) (H_all_writings : Has P w g.K mg base 11 "all_writings" ["form", "number"] (defArgs (top 71)) (spF g 2 (f_all_writings n))) : Has P w g.K mg base 12 "writings" ["form", "number"] (defArgs (top 72)) (spF g 2 (f_writings n)) := by
  obtain ⟨fd, F⟩ := T.says.d.def_ 26 (d := dd "writings" 72) rfl
  have F : FunD g.K "writings" "writings" (defArgs (top 72)) (defBody (top 72)) (defScope (top 72)) [] [] (He.fAd g.K ("writings", none)) fd := F
  refine ⟨_, fd, FnG.by (k := 11) F sc_writings rfl rfl (by decide) (fun cdv A outer s H E hr gd => ?_), T.glo 26 rfl, F.kp, F.bindsN (fun _ _ _ _ _ _ us hl => match us, hl with | [_, _], _ => rfl), _, _, _, _, F⟩
  have tk : L2N.Takes (cxOf (L2N.CX P w) P w g.K mg base N_writings "writings" (defScope (top 72)) (He.fAd g.K ("writings", none)) cdv A outer s H E) (fun cls d _ H => E cls d H) := L2N.takes_of rfl rfl rfl rfl
  exact (cb_cons (cs_expr (c_call H_check_number (hr.mono (by decide)) gd (by rfl) tk (co_cons (co_e (c_var 0 (pv 0))) (co_cons (co_e (c_var 1 (pv 1))) co_nil)) (by decide +kernel)))
    (cb_one (cs_ret (c_ct call_tuple_of ls_tuple (by rfl) T.g_tuple (by decide +kernel) (co_cons (co_e (c_fr (cf_call H_all_writings (hr.mono (by decide)) gd (by rfl) tk (co_cons (co_e (c_var 0 (pv 0))) (co_cons (co_e (c_var 1 (pv 1))) co_nil)) (by decide +kernel)))) co_nil) (by decide +kernel) (by decide +kernel)))))
def N_count_writings : List Str := ["form", "number"]
theorem sc_count_writings : FnScope N_count_writings ["form", "number"] (defScope (top 73)) := ⟨rfl, rfl, rfl, by decide +kernel, rfl, by decide +kernel, by decide +kernel⟩
theorem ok_count_writings (n : Nat) (T : Tx g mg) (H_check_number : Has P w g.K mg base 4 "check_number" ["form", "number"] (defArgs (top 68)) (spF g 2 (f_check_number n))) (H_all_writings : Has P w g.K mg base 11 "all_writings" ["form", "number"] (defArgs (top 71)) (spF g 2 (f_all_writings n))) : Has P w g.K mg base 12 "count_writings" ["form", "number"] (defArgs (top 73)) (spF g 2 (f_count_writings n)) := by
  obtain ⟨fd, F⟩ := T.says.d.def_ 27 (d := dd "count_writings" 73) rfl
  have F : FunD g.K "count_writings" "count_writings" (defArgs (top 73)) (defBody (top 73)) (defScope (top 73)) [] [] (He.fAd g.K ("count_writings", none)) fd := F
  refine ⟨_, fd, FnG.by (k := 11) F sc_count_writings rfl rfl (by decide) (fun cdv A outer s H E hr gd => ?_), T.glo 27 rfl, F.kp, F.bindsN (fun _ _ _ _ _ _ us hl => match us, hl with | [_, _], _ => rfl), _, _, _, _, F⟩
  have tk : L2N.Takes (cxOf (L2N.CX P w) P w g.K mg base N_count_writings "count_writings" (defScope (top 73)) (He.fAd g.K ("count_writings", none)) cdv A outer s H E) (fun cls d _ H => E cls d H) := L2N.takes_of rfl rfl rfl rfl
  exact (cb_cons (cs_expr (c_call H_check_number (hr.mono (by decide)) gd (by rfl) tk (co_cons (co_e (c_var 0 (pv 0))) (co_cons (co_e (c_var 1 (pv 1))) co_nil)) (by decide +kernel)))
    (cb_one (cs_ret (c_cb call_len ls_len (by rfl) T.g_len (by decide +kernel) (co_cons (co_e (c_fr (cf_call H_all_writings (hr.mono (by decide)) gd (by rfl) tk (co_cons (co_e (c_var 0 (pv 0))) (co_cons (co_e (c_var 1 (pv 1))) co_nil)) (by decide +kernel)))) co_nil) (by decide +kernel) (by decide +kernel)))))
def N_common_divisor : List Str := ["one", "other"]
theorem sc_common_divisor : FnScope N_common_divisor ["one", "other"] (defScope (top 23)) := ⟨rfl, rfl, rfl, by decide +kernel, rfl, by decide +kernel, by decide +kernel⟩
theorem ok_common_divisor (n : Nat) (T : Tx g mg) : Has P w g.K mg base 1 "common_divisor" ["one", "other"] (defArgs (top 23)) (spF g 2 (f_common_divisor n)) := by
  obtain ⟨fd, F⟩ := T.says.d.def_ 28 (d := dd "common_divisor" 23) rfl
  have F : FunD g.K "common_divisor" "common_divisor" (defArgs (top 23)) (defBody (top 23)) (defScope (top 23)) [] [] (He.fAd g.K ("common_divisor", none)) fd := F
  have nd := sc_common_divisor.nd
  refine ⟨_, fd, FnG.by (k := 0) F sc_common_divisor rfl rfl (by decide) (fun cdv A outer s H E hr gd => ?_), T.glo 28 rfl, F.kp, F.bindsN (fun _ _ _ _ _ _ us hl => match us, hl with | [_, _], _ => rfl), _, _, _, _, F⟩
  have po : PassesOwn (model P w) (A.deeper (envOfC "common_divisor" (defScope (top 23)) s.heap.objs.size (He.fAd g.K ("common_divisor", none)) cdv)) (envOfC "common_divisor" (defScope (top 23)) s.heap.objs.size (He.fAd g.K ("common_divisor", none)) cdv) (cxOf (L2N.CX P w) P w g.K mg base N_common_divisor "common_divisor" (defScope (top 23)) (He.fAd g.K ("common_divisor", none)) cdv A outer s H E).xe := passes_of (X := cxOf (L2N.CX P w) P w g.K mg base N_common_divisor "common_divisor" (defScope (top 23)) (He.fAd g.K ("common_divisor", none)) cdv A outer s H E) rfl
  exact (cb_cons (cs_par2 0 1 (ps_par (i := 0) (j := 1) (by rfl) nd rfl rfl (by decide) rfl rfl (ed_cons (ed_e (c_cb call_abs ls_abs (by rfl) T.g_abs (by decide +kernel) (co_cons (co_e (c_var 0 (pv 0))) co_nil) (by decide +kernel) (by decide +kernel))) (ed_cons (ed_e (c_cb call_abs ls_abs (by rfl) T.g_abs (by decide +kernel) (co_cons (co_e (c_var 1 (pv 1))) co_nil) (by decide +kernel) (by decide +kernel))) ed_nil)) (by rfl)))
    (cb_cons (cs_while n po (ct_cmp (or_ne (u64 hr)) os_ne (co_e (c_var 1 (pv 1))) (co_e c_int) (by first | exact nomark _ | rfl | with_unfolding_all rfl))
    (cb_one (cs_par2 0 1 (ps_par (i := 0) (j := 1) (by rfl) nd rfl rfl (by decide) rfl rfl (ed_cons (ed_e (c_var 1 (pv 1))) (ed_cons (ed_e (c_op op_modN os_mod (co_e (c_var 0 (pv 0))) (co_e (c_var 1 (pv 1))))) ed_nil)) (by rfl)))))
    (cb_one (cs_ret (c_var 0 (pv 0))))))
def N_common_of : List Str := ["values", "found", "value"]
theorem sc_common_of : FnScope N_common_of ["values"] (defScope (top 24)) := ⟨rfl, rfl, rfl, by decide +kernel, rfl, by decide +kernel, by decide +kernel⟩
theorem ok_common_of (n : Nat) (T : Tx g mg) (H_common_divisor : Has P w g.K mg base 1 "common_divisor" ["one", "other"] (defArgs (top 23)) (spF g 2 (f_common_divisor n))) : Has P w g.K mg base 2 "common_of" ["values"] (defArgs (top 24)) (spF g 1 (f_common_of n)) := by
  obtain ⟨fd, F⟩ := T.says.d.def_ 29 (d := dd "common_of" 24) rfl
  have F : FunD g.K "common_of" "common_of" (defArgs (top 24)) (defBody (top 24)) (defScope (top 24)) [] [] (He.fAd g.K ("common_of", none)) fd := F
  have nd := sc_common_of.nd
  refine ⟨_, fd, FnG.by (k := 1) F sc_common_of rfl rfl (by decide) (fun cdv A outer s H E hr gd => ?_), T.glo 29 rfl, F.kp, F.bindsN (fun _ _ _ _ _ _ us hl => match us, hl with | [_], _ => rfl), _, _, _, _, F⟩
  have tk : L2N.Takes (cxOf (L2N.CX P w) P w g.K mg base N_common_of "common_of" (defScope (top 24)) (He.fAd g.K ("common_of", none)) cdv A outer s H E) (fun cls d _ H => E cls d H) := L2N.takes_of rfl rfl rfl rfl
  have po : PassesOwn (model P w) (A.deeper (envOfC "common_of" (defScope (top 24)) s.heap.objs.size (He.fAd g.K ("common_of", none)) cdv)) (envOfC "common_of" (defScope (top 24)) s.heap.objs.size (He.fAd g.K ("common_of", none)) cdv) (cxOf (L2N.CX P w) P w g.K mg base N_common_of "common_of" (defScope (top 24)) (He.fAd g.K ("common_of", none)) cdv A outer s H E).xe := passes_of (X := cxOf (L2N.CX P w) P w g.K mg base N_common_of "common_of" (defScope (top 24)) (He.fAd g.K ("common_of", none)) cdv A outer s H E) rfl
  exact (cb_cons (cs_set 1 (ps_set (i := 1) nd rfl (by first | exact Or.inl rfl | exact Or.inr rfl) c_int))
    (cb_cons (cs_for po (by rfl) (ci_any rfl (c_var 0 (pv 0))) (cg_name 2 (pg_name (i := 2) nd rfl (by first | exact Or.inl rfl | exact Or.inr rfl)))
    (cb_one (cs_set 1 (ps_set (i := 1) nd rfl (by first | exact Or.inl rfl | exact Or.inr rfl) (c_call H_common_divisor (hr.mono (by decide)) gd (by rfl) tk (co_cons (co_e (c_var 1 (pv 1))) (co_cons (co_e (c_var 2 (pv 2))) co_nil)) (by decide +kernel))))))
    (cb_one (cs_ret (c_var 1 (pv 1))))))
def N_count_proper : List Str := ["form", "number", "vector"]
theorem sc_count_proper : FnScope N_count_proper ["form", "number"] (defScope (top 74)) := ⟨rfl, rfl, rfl, by decide +kernel, rfl, by decide +kernel, by decide +kernel⟩
theorem ok_count_proper (n : Nat) (T : Tx g mg) (H_check_number : Has P w g.K mg base 4 "check_number" ["form", "number"] (defArgs (top 68)) (spF g 2 (f_check_number n))) (H_all_writings : Has P w g.K mg base 11 "all_writings" ["form", "number"] (defArgs (top 71)) (spF g 2 (f_all_writings n))) (H_common_of : Has P w g.K mg base 2 "common_of" ["values"] (defArgs (top 24)) (spF g 1 (f_common_of n))) : Has P w g.K mg base 12 "count_proper" ["form", "number"] (defArgs (top 74)) (spF g 2 (f_count_proper n)) := by
  obtain ⟨fd, F⟩ := T.says.d.def_ 30 (d := dd "count_proper" 74) rfl
  have F : FunD g.K "count_proper" "count_proper" (defArgs (top 74)) (defBody (top 74)) (defScope (top 74)) [] [] (He.fAd g.K ("count_proper", none)) fd := F
  have nd := sc_count_proper.nd
  refine ⟨_, fd, FnG.by (k := 11) F sc_count_proper rfl rfl (by decide) (fun cdv A outer s H E hr gd => ?_), T.glo 30 rfl, F.kp, F.bindsN (fun _ _ _ _ _ _ us hl => match us, hl with | [_, _], _ => rfl), _, _, _, _, F⟩
  have tk : L2N.Takes (cxOf (L2N.CX P w) P w g.K mg base N_count_proper "count_proper" (defScope (top 74)) (He.fAd g.K ("count_proper", none)) cdv A outer s H E) (fun cls d _ H => E cls d H) := L2N.takes_of rfl rfl rfl rfl
  exact (cb_cons (cs_expr (c_call H_check_number (hr.mono (by decide)) gd (by rfl) tk (co_cons (co_e (c_var 0 (pv 0))) (co_cons (co_e (c_var 1 (pv 1))) co_nil)) (by decide +kernel)))
    (cb_one (cs_ret (c_cb call_len ls_len (by rfl) T.g_len (by decide +kernel) (co_cons (co_e (c_fr (cf_lc (pe_lc (own := [("vector", 2)]) (by rfl) nd (ci_any rfl (c_fr (cf_call H_all_writings (hr.mono (by decide)) gd (by rfl) tk (co_cons (co_e (c_var 0 (pv 0))) (co_cons (co_e (c_var 1 (pv 1))) co_nil)) (by decide +kernel)))) (blkOk_by (own := [("vector", 2)]) (N := N_count_proper) (sc := defScope (top 74)) (by decide +kernel)) (fun _ _ _ _ _ => (cg_name 2 (pg_name (i := 2) nd rfl (by first | exact Or.inl rfl | exact Or.inr rfl)))) (fun _ _ _ _ _ => (ts_one (ct_cmp (or_eq (u64 hr)) os_eq (co_e (c_call H_common_of (hr.mono (by decide)) gd (by rfl) takes0N (co_cons (co_e (c_var 2 (pv 2))) co_nil) (by decide +kernel))) (co_e c_int) (by first | exact nomark _ | rfl | with_unfolding_all rfl)))) (fun _ _ _ _ _ => (c_var 2 (pv 2)))) (by decide)))) co_nil) (by decide +kernel) (by decide +kernel)))))
def N_missed : List Str := ["form", "most", "number"]
theorem sc_missed : FnScope N_missed ["form", "most"] (defScope (top 75)) := ⟨rfl, rfl, rfl, by decide +kernel, rfl, by decide +kernel, by decide +kernel⟩
theorem ok_missed (n : Nat) (T : Tx g mg) (H_check_number : Has P w g.K mg base 4 "check_number" ["form", "number"] (defArgs (top 68)) (spF g 2 (f_check_number n))) (H_is_given : Has P w g.K mg base 11 "is_given" ["form", "number"] (defArgs (top 69)) (spF g 2 (f_is_given n))) : Has P w g.K mg base 12 "missed" ["form", "most"] (defArgs (top 75)) (spF g 2 (f_missed n)) := by
  obtain ⟨fd, F⟩ := T.says.d.def_ 31 (d := dd "missed" 75) rfl
  have F : FunD g.K "missed" "missed" (defArgs (top 75)) (defBody (top 75)) (defScope (top 75)) [] [] (He.fAd g.K ("missed", none)) fd := F
  have nd := sc_missed.nd
  refine ⟨_, fd, FnG.by (k := 11) F sc_missed rfl rfl (by decide) (fun cdv A outer s H E hr gd => ?_), T.glo 31 rfl, F.kp, F.bindsN (fun _ _ _ _ _ _ us hl => match us, hl with | [_, _], _ => rfl), _, _, _, _, F⟩
  have tk : L2N.Takes (cxOf (L2N.CX P w) P w g.K mg base N_missed "missed" (defScope (top 75)) (He.fAd g.K ("missed", none)) cdv A outer s H E) (fun cls d _ H => E cls d H) := L2N.takes_of rfl rfl rfl rfl
  exact (cb_cons (cs_expr (c_call H_check_number (hr.mono (by decide)) gd (by rfl) tk (co_cons (co_e (c_var 0 (pv 0))) (co_cons (co_e (c_var 1 (pv 1))) co_nil)) (by decide +kernel)))
    (cb_one (cs_ret (c_ct call_tuple_of ls_tuple (by rfl) T.g_tuple (by decide +kernel) (co_cons (co_e (c_fr (cf_lc (pe_lc (own := [("number", 2)]) (by rfl) nd (ci_range2 (by rfl) T.g_range (co_cons (co_e c_int) (co_cons (co_e (c_op or_add os_add (co_e (c_var 1 (pv 1))) (co_e c_int))) co_nil))) (blkOk_by (own := [("number", 2)]) (N := N_missed) (sc := defScope (top 75)) (by decide +kernel)) (fun _ _ _ _ _ => (cg_name 2 (pg_name (i := 2) nd rfl (by first | exact Or.inl rfl | exact Or.inr rfl)))) (fun _ _ _ _ _ => (ts_one (ct_not (ct_tru (co_e (c_call H_is_given (hr.mono (by decide)) gd (by rfl) takes0N (co_cons (co_e (c_var 0 (pv 0))) (co_cons (co_e (c_var 2 (pv 2))) co_nil)) (by decide +kernel))) rfl (by intro _; rfl))))) (fun _ _ _ _ _ => (c_var 2 (pv 2)))) (by decide)))) co_nil) (by decide +kernel) (by decide +kernel)))))
def N__law_calls : List Str := ["_law_odd", "_law_bad", "_law_told"]
theorem sc__law_calls : FnScope N__law_calls ["_law_odd", "_law_bad"] (defScope (top 87)) := ⟨rfl, rfl, rfl, by decide +kernel, rfl, by decide +kernel, by decide +kernel⟩
theorem ok__law_calls (n : Nat) (T : Tx g mg) (ho : g.own = none) (TB : TBs mg base g) (H__law_answer : HasL P w g mg base 1 "_law_answer" 3 (m__law_answer n)) (H_gives : Has P w g.K mg base 12 "gives" ["form", "number"] (defArgs (top 70)) (spF g 2 (f_gives n))) (H_writings : Has P w g.K mg base 12 "writings" ["form", "number"] (defArgs (top 72)) (spF g 2 (f_writings n))) (H_count_writings : Has P w g.K mg base 12 "count_writings" ["form", "number"] (defArgs (top 73)) (spF g 2 (f_count_writings n))) (H_count_proper : Has P w g.K mg base 12 "count_proper" ["form", "number"] (defArgs (top 74)) (spF g 2 (f_count_proper n))) (H_missed : Has P w g.K mg base 12 "missed" ["form", "most"] (defArgs (top 75)) (spF g 2 (f_missed n))) : Has P w g.K mg base 15 "_law_calls" ["_law_odd", "_law_bad"] (defArgs (top 87)) (spF g 2 (f__law_calls n)) := by
  obtain ⟨fd, F⟩ := T.says.d.def_ 32 (d := dd "_law_calls" 87) rfl
  have F : FunD g.K "_law_calls" "_law_calls" (defArgs (top 87)) (defBody (top 87)) (defScope (top 87)) [] [] (He.fAd g.K ("_law_calls", none)) fd := F
  have nd := sc__law_calls.nd
  refine ⟨_, fd, FnG.byC (k := 14) F sc__law_calls rfl rfl (by decide) (fun cdv A outer s H E hr gd hc => ?_), T.glo 32 rfl, F.kp, F.bindsN (fun _ _ _ _ _ _ us hl => match us, hl with | [_, _], _ => rfl), _, _, _, _, F⟩
  have tk : L2N.Takes (cxOf (L2N.CX P w) P w g.K mg base N__law_calls "_law_calls" (defScope (top 87)) (He.fAd g.K ("_law_calls", none)) cdv A outer s H E) (fun cls d _ H => E cls d H) := L2N.takes_of rfl rfl rfl rfl
  exact (cb_cons (cs_setB 2 (ps_set (i := 2) nd rfl (by first | exact Or.inl rfl | exact Or.inr rfl) (cf_lst (ca_cons (c_lam (k := 12) rfl H__law_answer ho (by decide) (by rfl) T.mem__law_calls T.ndT (TB tb__law_calls in__law_calls) hc (hr.mono (by decide)) gd tk (by kernel_rfl) (by rfl) (fun _ _ _ _ _ => rfl) (fun E A outer s H f c2 hr gd => (c_call H_gives (hr.mono (by decide)) gd (by rfl) takes_lam (co_cons (co_e (c_var 0 (pv 0))) (co_cons (co_e (c_var 1 (pv 1))) co_nil)) (by decide +kernel))) (by decide +kernel)) ca_nil))))
    (cb_cons (cs_expr (c_app 2 rfl (pe_bm PySem.F.plainAttrs_list PySem.F.slot_list_append PySem.F.type_list_append mt_append (pv 2) (pa_cons (c_lam (k := 12) rfl H__law_answer ho (by decide) (by rfl) T.mem__law_calls T.ndT (TB tb__law_calls in__law_calls) hc (hr.mono (by decide)) gd tk (by kernel_rfl) (by rfl) (fun _ _ _ _ _ => rfl) (fun E A outer s H f c2 hr gd => (c_callK (π := [1, 0]) (nms := ["number", "form"]) H_writings (hr.mono (by decide)) gd (by rfl) takes_lam (ck_cons (co_e (c_var 1 (pv 1))) (ck_cons (co_e (c_var 0 (pv 0))) ck_nil)) K_kb_writings_number_form (hdb := by decide +kernel))) (by decide +kernel)) pa_nil))))
    (cb_cons (cs_expr (c_app 2 rfl (pe_bm PySem.F.plainAttrs_list PySem.F.slot_list_append PySem.F.type_list_append mt_append (pv 2) (pa_cons (c_lam (k := 12) rfl H__law_answer ho (by decide) (by rfl) T.mem__law_calls T.ndT (TB tb__law_calls in__law_calls) hc (hr.mono (by decide)) gd tk (by kernel_rfl) (by rfl) (fun _ _ _ _ _ => rfl) (fun E A outer s H f c2 hr gd => (c_call H_count_writings (hr.mono (by decide)) gd (by rfl) takes_lam (co_cons (co_e (c_var 0 (pv 0))) (co_cons (co_e (c_var 1 (pv 1))) co_nil)) (by decide +kernel))) (by decide +kernel)) pa_nil))))
    (cb_cons (cs_expr (c_app 2 rfl (pe_bm PySem.F.plainAttrs_list PySem.F.slot_list_append PySem.F.type_list_append mt_append (pv 2) (pa_cons (c_lam (k := 12) rfl H__law_answer ho (by decide) (by rfl) T.mem__law_calls T.ndT (TB tb__law_calls in__law_calls) hc (hr.mono (by decide)) gd tk (by kernel_rfl) (by rfl) (fun _ _ _ _ _ => rfl) (fun E A outer s H f c2 hr gd => (c_call H_count_proper (hr.mono (by decide)) gd (by rfl) takes_lam (co_cons (co_e (c_var 0 (pv 0))) (co_cons (co_e (c_var 1 (pv 1))) co_nil)) (by decide +kernel))) (by decide +kernel)) pa_nil))))
    (cb_cons (cs_expr (c_app 2 rfl (pe_bm PySem.F.plainAttrs_list PySem.F.slot_list_append PySem.F.type_list_append mt_append (pv 2) (pa_cons (c_lam (k := 12) rfl H__law_answer ho (by decide) (by rfl) T.mem__law_calls T.ndT (TB tb__law_calls in__law_calls) hc (hr.mono (by decide)) gd tk (by kernel_rfl) (by rfl) (fun _ _ _ _ _ => rfl) (fun E A outer s H f c2 hr gd => (c_callK (π := [1, 0]) (nms := ["most", "form"]) H_missed (hr.mono (by decide)) gd (by rfl) takes_lam (ck_cons (co_e (c_var 1 (pv 1))) (ck_cons (co_e (c_var 0 (pv 0))) ck_nil)) K_kb_missed_most_form (hdb := by decide +kernel))) (by decide +kernel)) pa_nil))))
    (cb_one (cs_retB 2 (pv 2))))))))
def N_pairs_of : List Str := ["size", "row", "column"]
theorem sc_pairs_of : FnScope N_pairs_of ["size"] (defScope (top 41)) := ⟨rfl, rfl, rfl, by decide +kernel, rfl, by decide +kernel, by decide +kernel⟩
theorem ok_pairs_of (n : Nat) (T : Tx g mg) : Has P w g.K mg base 1 "pairs_of" ["size"] (defArgs (top 41)) (spF g 1 (f_pairs_of n)) := by
  obtain ⟨fd, F⟩ := T.says.d.def_ 33 (d := dd "pairs_of" 41) rfl
  have F : FunD g.K "pairs_of" "pairs_of" (defArgs (top 41)) (defBody (top 41)) (defScope (top 41)) [] [] (He.fAd g.K ("pairs_of", none)) fd := F
  have nd := sc_pairs_of.nd
  refine ⟨_, fd, FnG.by (k := 0) F sc_pairs_of rfl rfl (by decide) (fun cdv A outer s H E hr gd => ?_), T.glo 33 rfl, F.kp, F.bindsN (fun _ _ _ _ _ _ us hl => match us, hl with | [_], _ => rfl), _, _, _, _, F⟩
  exact (cb_one (cs_retF (cf_lc2 (pe_lc2 (own := [("row", 1), ("column", 2)]) (vs1 := [2]) (by rfl) nd (ci_range1 (by rfl) T.g_range (co_cons (co_e (c_var 0 (pv 0))) co_nil)) (blkOk_by (own := [("row", 1), ("column", 2)]) (N := N_pairs_of) (sc := defScope (top 41)) (by decide +kernel)) (by decide) (fun _ _ _ _ _ => (cg_name 1 (pg_name (i := 1) nd rfl (by first | exact Or.inl rfl | exact Or.inr rfl)))) (fun _ _ _ _ _ => ts_nil) (fun _ _ _ _ _ => (ci_range2 (by rfl) T.g_range (co_cons (co_e (c_var 1 (pv 1))) (co_cons (co_e (c_var 0 (pv 0))) co_nil)))) (fun _ _ _ _ _ => (cg_name 2 (pg_name (i := 2) nd rfl (by first | exact Or.inl rfl | exact Or.inr rfl)))) (fun _ _ _ _ _ => ts_nil) (fun _ _ _ _ _ => (c_tup (ca_cons (c_var 1 (pv 1)) (ca_cons (c_var 2 (pv 2)) ca_nil))))) (by decide) (by decide) (by decide))))
def N_Form_unknowns : List Str := ["self"]
theorem sc_Form_unknowns : FnScope N_Form_unknowns ["self"] (defScope (inClass (top 49) 3)) := ⟨rfl, rfl, rfl, by decide +kernel, rfl, by decide +kernel, by decide +kernel⟩
theorem ok_Form_unknowns (n : Nat) (T : Tx g mg) : HasM P w g.K mg base 1 (pAt "Form" "unknowns" g.K) "unknowns" "Form.unknowns" ["self"] (defArgs (inClass (top 49) 3)) (spF g 1 (f_Form_unknowns n)) := by
  obtain ⟨fd, F⟩ := T.sp.def_ 3 (d := dp (pAt "Form" "unknowns") "unknowns" "Form.unknowns" (inClass (top 49) 3)) rfl
  have F : FunD g.K "unknowns" "Form.unknowns" (defArgs (inClass (top 49) 3)) (defBody (inClass (top 49) 3)) (defScope (inClass (top 49) 3)) [] [] (pAt "Form" "unknowns" g.K) fd := F
  refine ⟨fd, FnG.by (k := 0) F sc_Form_unknowns rfl rfl (by decide) (fun cdv A outer s H E hr gd => ?_), F.bindsN (fun _ _ _ _ _ _ us hl => match us, hl with | [_], _ => rfl), _, _, F⟩
  exact (cb_one (cs_ret (c_cb call_len ls_len (by rfl) T.g_len (by decide +kernel) (co_cons (co_e (c_ix rfl (co_e (c_fldO T.fi_Form_held rfl (co_e (c_var 0 (pv 0))) rfl)) (co_e c_int) (fun _ _ => rfl))) co_nil) (by decide +kernel) (by decide +kernel))))
def N_Form_is_even_between : List Str := ["self", "pairs", "row", "column", "own"]
theorem sc_Form_is_even_between : FnScope N_Form_is_even_between ["self"] (defScope (inClass (top 49) 9)) := ⟨rfl, rfl, rfl, by decide +kernel, rfl, by decide +kernel, by decide +kernel⟩
theorem ok_Form_is_even_between (n : Nat) (T : Tx g mg) (H_pairs_of : Has P w g.K mg base 1 "pairs_of" ["size"] (defArgs (top 41)) (spF g 1 (f_pairs_of n))) (H_Form_unknowns : HasM P w g.K mg base 1 (pAt "Form" "unknowns" g.K) "unknowns" "Form.unknowns" ["self"] (defArgs (inClass (top 49) 3)) (spF g 1 (f_Form_unknowns n))) : HasM P w g.K mg base 3 (pAt "Form" "is_even_between" g.K) "is_even_between" "Form.is_even_between" ["self"] (defArgs (inClass (top 49) 9)) (spF g 1 (f_Form_is_even_between n)) := by
  obtain ⟨fd, F⟩ := T.sp.def_ 4 (d := dp (pAt "Form" "is_even_between") "is_even_between" "Form.is_even_between" (inClass (top 49) 9)) rfl
  have F : FunD g.K "is_even_between" "Form.is_even_between" (defArgs (inClass (top 49) 9)) (defBody (inClass (top 49) 9)) (defScope (inClass (top 49) 9)) [] [] (pAt "Form" "is_even_between" g.K) fd := F
  have nd := sc_Form_is_even_between.nd
  refine ⟨fd, FnG.by (k := 2) F sc_Form_is_even_between rfl rfl (by decide) (fun cdv A outer s H E hr gd => ?_), F.bindsN (fun _ _ _ _ _ _ us hl => match us, hl with | [_], _ => rfl), _, _, F⟩
  have tk : L2N.Takes (cxOf (L2N.CX P w) P w g.K mg base N_Form_is_even_between "Form.is_even_between" (defScope (inClass (top 49) 9)) (pAt "Form" "is_even_between" g.K) cdv A outer s H E) (fun cls d _ H => E cls d H) := L2N.takes_of rfl rfl rfl rfl
  exact (cb_cons (cs_set 1 (ps_set (i := 1) nd rfl (by first | exact Or.inl rfl | exact Or.inr rfl) (c_fr (cf_lzip rfl rfl (by rfl) T.g_list (by rfl) T.g_zip (ca_cons (c_fr (cf_call H_pairs_of (hr.mono (by decide)) gd (by rfl) tk (co_cons (co_e (c_propM T.is_Form (c_var 0 (pv 0)) T.cls_Form T.prop_Form_unknowns H_Form_unknowns (hr.mono (by decide)) gd)) co_nil) (by decide +kernel))) (ca_cons (c_ix rfl (co_e (c_fldO T.fi_Form_held rfl (co_e (c_var 0 (pv 0))) rfl)) (co_e c_int) (fun _ _ => rfl)) ca_nil))))))
    (cb_one (cs_ret (c_cb (cr_all rfl) ls_all (by rfl) T.g_all (by decide +kernel) (co_cons (co_e (c_fr (cf_lc (pe_lc (own := [("row", 2), ("column", 3), ("own", 4)]) (by rfl) nd (ci_any rfl (c_var 1 (pv 1))) (blkOk_by (own := [("row", 2), ("column", 3), ("own", 4)]) (N := N_Form_is_even_between) (sc := defScope (inClass (top 49) 9)) (by decide +kernel)) (fun _ _ _ _ _ => (cg_tup (by rfl) rfl (cgs_cons (cg_tup (by rfl) rfl (cgs_cons (cg_name 2 (pg_name (i := 2) nd rfl (by first | exact Or.inl rfl | exact Or.inr rfl))) (cgs_cons (cg_name 3 (pg_name (i := 3) nd rfl (by first | exact Or.inl rfl | exact Or.inr rfl))) cgs_nil))) (cgs_cons (cg_name 4 (pg_name (i := 4) nd rfl (by first | exact Or.inl rfl | exact Or.inr rfl))) cgs_nil)))) (fun _ _ _ _ _ => ts_nil) (fun _ _ _ _ _ => (c_or rfl (c_cmp (or_eq (u64 hr)) os_eq (co_e (c_var 2 (pv 2))) (co_e (c_var 3 (pv 3))) (by first | exact nomark _ | rfl | with_unfolding_all rfl)) (c_one (c_cmp (or_eq (u64 hr)) os_eq (co_e (c_op op_modN os_mod (co_e (c_var 4 (pv 4))) (co_e c_int))) (co_e c_int) (by first | exact nomark _ | rfl | with_unfolding_all rfl)))))) (by decide)))) co_nil) (by decide +kernel) (by decide +kernel)))))
def N_keys_of : List Str := ["form"]
theorem sc_keys_of : FnScope N_keys_of ["form"] (defScope (top 76)) := ⟨rfl, rfl, rfl, by decide +kernel, rfl, by decide +kernel, by decide +kernel⟩
theorem ok_keys_of (n : Nat) (T : Tx g mg) (H_Form_is_even_between : HasM P w g.K mg base 3 (pAt "Form" "is_even_between" g.K) "is_even_between" "Form.is_even_between" ["self"] (defArgs (inClass (top 49) 9)) (spF g 1 (f_Form_is_even_between n))) : Has P w g.K mg base 5 "keys_of" ["form"] (defArgs (top 76)) (spF g 1 (f_keys_of n)) := by
  obtain ⟨fd, F⟩ := T.says.d.def_ 34 (d := dd "keys_of" 76) rfl
  have F : FunD g.K "keys_of" "keys_of" (defArgs (top 76)) (defBody (top 76)) (defScope (top 76)) [] [] (He.fAd g.K ("keys_of", none)) fd := F
  refine ⟨_, fd, FnG.by (k := 4) F sc_keys_of rfl rfl (by decide) (fun cdv A outer s H E hr gd => ?_), T.glo 34 rfl, F.kp, F.bindsN (fun _ _ _ _ _ _ us hl => match us, hl with | [_], _ => rfl), _, _, _, _, F⟩
  exact (cb_one (cs_ret (c_if (ct_tru (co_e (c_propM T.is_Form (c_var 0 (pv 0)) T.cls_Form T.prop_Form_is_even_between H_Form_is_even_between (hr.mono (by decide)) gd)) rfl (by intro _; rfl)) (c_gtu (by rfl) T.gl_EVEN_KEYS T.ktu_EVEN_KEYS) (c_gtu (by rfl) T.gl_KEYS T.ktu_KEYS))))
def N_first_missed : List Str := ["form", "number"]
theorem sc_first_missed : FnScope N_first_missed ["form"] (defScope (top 77)) := ⟨rfl, rfl, rfl, by decide +kernel, rfl, by decide +kernel, by decide +kernel⟩
theorem ok_first_missed (n : Nat) (T : Tx g mg) (H_keys_of : Has P w g.K mg base 5 "keys_of" ["form"] (defArgs (top 76)) (spF g 1 (f_keys_of n))) (H_is_given : Has P w g.K mg base 11 "is_given" ["form", "number"] (defArgs (top 69)) (spF g 2 (f_is_given n))) : Has P w g.K mg base 12 "first_missed" ["form"] (defArgs (top 77)) (spF g 1 (f_first_missed n)) := by
  obtain ⟨fd, F⟩ := T.says.d.def_ 35 (d := dd "first_missed" 77) rfl
  have F : FunD g.K "first_missed" "first_missed" (defArgs (top 77)) (defBody (top 77)) (defScope (top 77)) [] [] (He.fAd g.K ("first_missed", none)) fd := F
  have nd := sc_first_missed.nd
  refine ⟨_, fd, FnG.by (k := 11) F sc_first_missed rfl rfl (by decide) (fun cdv A outer s H E hr gd => ?_), T.glo 35 rfl, F.kp, F.bindsN (fun _ _ _ _ _ _ us hl => match us, hl with | [_], _ => rfl), _, _, _, _, F⟩
  have tk : L2N.Takes (cxOf (L2N.CX P w) P w g.K mg base N_first_missed "first_missed" (defScope (top 77)) (He.fAd g.K ("first_missed", none)) cdv A outer s H E) (fun cls d _ H => E cls d H) := L2N.takes_of rfl rfl rfl rfl
  have po : PassesOwn (model P w) (A.deeper (envOfC "first_missed" (defScope (top 77)) s.heap.objs.size (He.fAd g.K ("first_missed", none)) cdv)) (envOfC "first_missed" (defScope (top 77)) s.heap.objs.size (He.fAd g.K ("first_missed", none)) cdv) (cxOf (L2N.CX P w) P w g.K mg base N_first_missed "first_missed" (defScope (top 77)) (He.fAd g.K ("first_missed", none)) cdv A outer s H E).xe := passes_of (X := cxOf (L2N.CX P w) P w g.K mg base N_first_missed "first_missed" (defScope (top 77)) (He.fAd g.K ("first_missed", none)) cdv A outer s H E) rfl
  exact (cb_cons (cs_for po (by rfl) (ci_any rfl (c_call H_keys_of (hr.mono (by decide)) gd (by rfl) tk (co_cons (co_e (c_var 0 (pv 0))) co_nil) (by decide +kernel))) (cg_name 1 (pg_name (i := 1) nd rfl (by first | exact Or.inl rfl | exact Or.inr rfl)))
    (cb_one (cs_if (ct_not (ct_tru (co_e (c_call H_is_given (hr.mono (by decide)) gd (by rfl) tk (co_cons (co_e (c_var 0 (pv 0))) (co_cons (co_e (c_var 1 (pv 1))) co_nil)) (by decide +kernel))) rfl (by intro _; rfl)))
    (cb_one (cs_ret (c_var 1 (pv 1))))
    cb_nil)))
    (cb_one (cs_ret c_non)))
def N_gives_all : List Str := ["form"]
theorem sc_gives_all : FnScope N_gives_all ["form"] (defScope (top 78)) := ⟨rfl, rfl, rfl, by decide +kernel, rfl, by decide +kernel, by decide +kernel⟩
theorem ok_gives_all (n : Nat) (T : Tx g mg) (H_check_form : Has P w g.K mg base 1 "check_form" ["value"] (defArgs (top 50)) (spF g 1 (f_check_form n))) (H_check_small : Has P w g.K mg base 3 "check_small" ["form"] (defArgs (top 51)) (spF g 1 (f_check_small n))) (H_first_missed : Has P w g.K mg base 12 "first_missed" ["form"] (defArgs (top 77)) (spF g 1 (f_first_missed n))) : Has P w g.K mg base 13 "gives_all" ["form"] (defArgs (top 78)) (spF g 1 (f_gives_all n)) := by
  obtain ⟨fd, F⟩ := T.says.d.def_ 36 (d := dd "gives_all" 78) rfl
  have F : FunD g.K "gives_all" "gives_all" (defArgs (top 78)) (defBody (top 78)) (defScope (top 78)) [] [] (He.fAd g.K ("gives_all", none)) fd := F
  refine ⟨_, fd, FnG.by (k := 12) F sc_gives_all rfl rfl (by decide) (fun cdv A outer s H E hr gd => ?_), T.glo 36 rfl, F.kp, F.bindsN (fun _ _ _ _ _ _ us hl => match us, hl with | [_], _ => rfl), _, _, _, _, F⟩
  have tk : L2N.Takes (cxOf (L2N.CX P w) P w g.K mg base N_gives_all "gives_all" (defScope (top 78)) (He.fAd g.K ("gives_all", none)) cdv A outer s H E) (fun cls d _ H => E cls d H) := L2N.takes_of rfl rfl rfl rfl
  exact (cb_cons (cs_expr (c_call H_check_form (hr.mono (by decide)) gd (by rfl) tk (co_cons (co_e (c_var 0 (pv 0))) co_nil) (by decide +kernel)))
    (cb_cons (cs_expr (c_call H_check_small (hr.mono (by decide)) gd (by rfl) tk (co_cons (co_e (c_var 0 (pv 0))) co_nil) (by decide +kernel)))
    (cb_one (cs_ret (c_isN (co_e (c_call H_first_missed (hr.mono (by decide)) gd (by rfl) tk (co_cons (co_e (c_var 0 (pv 0))) co_nil) (by decide +kernel))))))))
def N_least_missed : List Str := ["form", "number"]
theorem sc_least_missed : FnScope N_least_missed ["form"] (defScope (top 79)) := ⟨rfl, rfl, rfl, by decide +kernel, rfl, by decide +kernel, by decide +kernel⟩
theorem ok_least_missed (n : Nat) (T : Tx g mg) (H_check_form : Has P w g.K mg base 1 "check_form" ["value"] (defArgs (top 50)) (spF g 1 (f_check_form n))) (H_check_small : Has P w g.K mg base 3 "check_small" ["form"] (defArgs (top 51)) (spF g 1 (f_check_small n))) (H_first_missed : Has P w g.K mg base 12 "first_missed" ["form"] (defArgs (top 77)) (spF g 1 (f_first_missed n))) (H_is_given : Has P w g.K mg base 11 "is_given" ["form", "number"] (defArgs (top 69)) (spF g 2 (f_is_given n))) : Has P w g.K mg base 13 "least_missed" ["form"] (defArgs (top 79)) (spF g 1 (f_least_missed n)) := by
  obtain ⟨fd, F⟩ := T.says.d.def_ 37 (d := dd "least_missed" 79) rfl
  have F : FunD g.K "least_missed" "least_missed" (defArgs (top 79)) (defBody (top 79)) (defScope (top 79)) [] [] (He.fAd g.K ("least_missed", none)) fd := F
  have nd := sc_least_missed.nd
  refine ⟨_, fd, FnG.by (k := 12) F sc_least_missed rfl rfl (by decide) (fun cdv A outer s H E hr gd => ?_), T.glo 37 rfl, F.kp, F.bindsN (fun _ _ _ _ _ _ us hl => match us, hl with | [_], _ => rfl), _, _, _, _, F⟩
  have tk : L2N.Takes (cxOf (L2N.CX P w) P w g.K mg base N_least_missed "least_missed" (defScope (top 79)) (He.fAd g.K ("least_missed", none)) cdv A outer s H E) (fun cls d _ H => E cls d H) := L2N.takes_of rfl rfl rfl rfl
  exact (cb_cons (cs_expr (c_call H_check_form (hr.mono (by decide)) gd (by rfl) tk (co_cons (co_e (c_var 0 (pv 0))) co_nil) (by decide +kernel)))
    (cb_cons (cs_expr (c_call H_check_small (hr.mono (by decide)) gd (by rfl) tk (co_cons (co_e (c_var 0 (pv 0))) co_nil) (by decide +kernel)))
    (cb_cons (cs_if (ct_isN (co_e (c_call H_first_missed (hr.mono (by decide)) gd (by rfl) tk (co_cons (co_e (c_var 0 (pv 0))) co_nil) (by decide +kernel))))
    (cb_one (cs_ret c_non))
    cb_nil)
    (cb_one (cs_ret (c_ix rfl (co_e (c_fr (cf_lc (pe_lc (own := [("number", 1)]) (by rfl) nd (ci_range2 (by rfl) T.g_range (co_cons (co_e c_int) (co_cons (co_e (c_op or_add os_add (co_e (c_call H_first_missed (hr.mono (by decide)) gd (by rfl) tk (co_cons (co_e (c_var 0 (pv 0))) co_nil) (by decide +kernel))) (co_e c_int))) co_nil))) (blkOk_by (own := [("number", 1)]) (N := N_least_missed) (sc := defScope (top 79)) (by decide +kernel)) (fun _ _ _ _ _ => (cg_name 1 (pg_name (i := 1) nd rfl (by first | exact Or.inl rfl | exact Or.inr rfl)))) (fun _ _ _ _ _ => (ts_one (ct_not (ct_tru (co_e (c_call H_is_given (hr.mono (by decide)) gd (by rfl) takes0N (co_cons (co_e (c_var 0 (pv 0))) (co_cons (co_e (c_var 1 (pv 1))) co_nil)) (by decide +kernel))) rfl (by intro _; rfl))))) (fun _ _ _ _ _ => (c_var 1 (pv 1)))) (by decide)))) (co_e c_int) (fun _ _ => rfl)))))))
def N__law_all_calls : List Str := ["_law_odd", "_law_told"]
theorem sc__law_all_calls : FnScope N__law_all_calls ["_law_odd"] (defScope (top 88)) := ⟨rfl, rfl, rfl, by decide +kernel, rfl, by decide +kernel, by decide +kernel⟩
theorem ok__law_all_calls (n : Nat) (T : Tx g mg) (ho : g.own = none) (TB : TBs mg base g) (H__law_answer : HasL P w g mg base 1 "_law_answer" 3 (m__law_answer n)) (H_gives_all : Has P w g.K mg base 13 "gives_all" ["form"] (defArgs (top 78)) (spF g 1 (f_gives_all n))) (H_least_missed : Has P w g.K mg base 13 "least_missed" ["form"] (defArgs (top 79)) (spF g 1 (f_least_missed n))) : Has P w g.K mg base 16 "_law_all_calls" ["_law_odd"] (defArgs (top 88)) (spF g 1 (f__law_all_calls n)) := by
  obtain ⟨fd, F⟩ := T.says.d.def_ 38 (d := dd "_law_all_calls" 88) rfl
  have F : FunD g.K "_law_all_calls" "_law_all_calls" (defArgs (top 88)) (defBody (top 88)) (defScope (top 88)) [] [] (He.fAd g.K ("_law_all_calls", none)) fd := F
  have nd := sc__law_all_calls.nd
  refine ⟨_, fd, FnG.byC (k := 15) F sc__law_all_calls rfl rfl (by decide) (fun cdv A outer s H E hr gd hc => ?_), T.glo 38 rfl, F.kp, F.bindsN (fun _ _ _ _ _ _ us hl => match us, hl with | [_], _ => rfl), _, _, _, _, F⟩
  have tk : L2N.Takes (cxOf (L2N.CX P w) P w g.K mg base N__law_all_calls "_law_all_calls" (defScope (top 88)) (He.fAd g.K ("_law_all_calls", none)) cdv A outer s H E) (fun cls d _ H => E cls d H) := L2N.takes_of rfl rfl rfl rfl
  exact (cb_cons (cs_setB 1 (ps_set (i := 1) nd rfl (by first | exact Or.inl rfl | exact Or.inr rfl) (cf_lst (ca_cons (c_lam (k := 13) rfl H__law_answer ho (by decide) (by rfl) T.mem__law_all_calls T.ndT (TB tb__law_all_calls in__law_all_calls) hc (hr.mono (by decide)) gd tk (by kernel_rfl) (by rfl) (fun _ _ _ _ _ => rfl) (fun E A outer s H f c2 hr gd => (c_call H_gives_all (hr.mono (by decide)) gd (by rfl) takes_lam (co_cons (co_e (c_var 0 (pv 0))) co_nil) (by decide +kernel))) (by decide +kernel)) ca_nil))))
    (cb_cons (cs_expr (c_app 1 rfl (pe_bm PySem.F.plainAttrs_list PySem.F.slot_list_append PySem.F.type_list_append mt_append (pv 1) (pa_cons (c_lam (k := 13) rfl H__law_answer ho (by decide) (by rfl) T.mem__law_all_calls T.ndT (TB tb__law_all_calls in__law_all_calls) hc (hr.mono (by decide)) gd tk (by kernel_rfl) (by rfl) (fun _ _ _ _ _ => rfl) (fun E A outer s H f c2 hr gd => (c_callK (π := [0]) (nms := ["form"]) H_gives_all (hr.mono (by decide)) gd (by rfl) takes_lam (ck_cons (co_e (c_var 0 (pv 0))) ck_nil) K_kb_gives_all_form (hdb := by decide +kernel))) (by decide +kernel)) pa_nil))))
    (cb_cons (cs_expr (c_app 1 rfl (pe_bm PySem.F.plainAttrs_list PySem.F.slot_list_append PySem.F.type_list_append mt_append (pv 1) (pa_cons (c_lam (k := 13) rfl H__law_answer ho (by decide) (by rfl) T.mem__law_all_calls T.ndT (TB tb__law_all_calls in__law_all_calls) hc (hr.mono (by decide)) gd tk (by kernel_rfl) (by rfl) (fun _ _ _ _ _ => rfl) (fun E A outer s H f c2 hr gd => (c_call H_least_missed (hr.mono (by decide)) gd (by rfl) takes_lam (co_cons (co_e (c_var 0 (pv 0))) co_nil) (by decide +kernel))) (by decide +kernel)) pa_nil))))
    (cb_cons (cs_expr (c_app 1 rfl (pe_bm PySem.F.plainAttrs_list PySem.F.slot_list_append PySem.F.type_list_append mt_append (pv 1) (pa_cons (c_lam (k := 13) rfl H__law_answer ho (by decide) (by rfl) T.mem__law_all_calls T.ndT (TB tb__law_all_calls in__law_all_calls) hc (hr.mono (by decide)) gd tk (by kernel_rfl) (by rfl) (fun _ _ _ _ _ => rfl) (fun E A outer s H f c2 hr gd => (c_callK (π := [0]) (nms := ["form"]) H_least_missed (hr.mono (by decide)) gd (by rfl) takes_lam (ck_cons (co_e (c_var 0 (pv 0))) ck_nil) K_kb_least_missed_form (hdb := by decide +kernel))) (by decide +kernel)) pa_nil))))
    (cb_one (cs_retB 1 (pv 1)))))))
def N__law_odd_forms : List Str := ["_law_found"]
theorem sc__law_odd_forms : FnScope N__law_odd_forms [] (defScope (top 84)) := ⟨rfl, rfl, rfl, by decide +kernel, rfl, by decide +kernel, by decide +kernel⟩
theorem ok__law_odd_forms (n : Nat) (T : Tx g mg) : Has P w g.K mg base 1 "_law_odd_forms" [] (defArgs (top 84)) (spF g 0 (f__law_odd_forms n)) := by
  obtain ⟨fd, F⟩ := T.says.d.def_ 39 (d := dd "_law_odd_forms" 84) rfl
  have F : FunD g.K "_law_odd_forms" "_law_odd_forms" (defArgs (top 84)) (defBody (top 84)) (defScope (top 84)) [] [] (He.fAd g.K ("_law_odd_forms", none)) fd := F
  have nd := sc__law_odd_forms.nd
  refine ⟨_, fd, FnG.by (k := 0) F sc__law_odd_forms rfl rfl (by decide) (fun cdv A outer s H E hr gd => ?_), T.glo 39 rfl, F.kp, F.bindsN (fun _ _ _ _ _ _ us hl => match us, hl with | [], _ => rfl), _, _, _, _, F⟩
  exact (cb_cons (cs_set 0 (ps_set (i := 0) nd rfl (by first | exact Or.inl rfl | exact Or.inr rfl) (c_fr (cf_lst (ca_cons (c_fr (cf_lst (ca_cons (c_tup (ca_cons c_int (ca_cons c_int (ca_cons (c_un un_neg us_neg (co_e c_int)) ca_nil)))) (ca_cons (c_fr (cf_lst (ca_cons c_str (ca_cons c_str ca_nil)))) ca_nil)))) (ca_cons (c_fr (cf_lst (ca_cons (c_tup (ca_cons (c_un un_neg us_neg (co_e c_int)) (ca_cons c_int (ca_cons (c_un un_neg us_neg (co_e c_int)) ca_nil)))) (ca_cons (c_fr (cf_lst (ca_cons c_str (ca_cons c_str ca_nil)))) ca_nil)))) ca_nil))))))
    (cb_cons (cs_set 0 (ps_set (i := 0) nd rfl (by first | exact Or.inl rfl | exact Or.inr rfl) (c_fr (cf_op op_cat fs_cat (co_e (c_var 0 (pv 0))) (co_e (c_fr (cf_lst (ca_cons (c_fr (cf_lst (ca_cons (c_tup (ca_cons c_int (ca_cons c_int (ca_cons c_int ca_nil)))) (ca_cons (c_fr (cf_lst (ca_cons c_str (ca_cons c_str ca_nil)))) ca_nil)))) (ca_cons (c_fr (cf_lst (ca_cons (c_tup (ca_cons c_int (ca_cons c_int (ca_cons c_int ca_nil)))) (ca_cons (c_fr (cf_lst (ca_cons c_str (ca_cons c_str ca_nil)))) ca_nil)))) ca_nil)))))))))
    (cb_cons (cs_set 0 (ps_set (i := 0) nd rfl (by first | exact Or.inl rfl | exact Or.inr rfl) (c_fr (cf_op op_cat fs_cat (co_e (c_var 0 (pv 0))) (co_e (c_fr (cf_lst (ca_cons (c_fr (cf_lst (ca_cons (c_tup (ca_cons c_int (ca_cons c_int (ca_cons c_int (ca_cons c_int (ca_cons c_int (ca_cons c_int ca_nil))))))) (ca_cons (c_fr (cf_lst (ca_cons c_str (ca_cons c_str ca_nil)))) ca_nil)))) (ca_cons (c_fr (cf_lst (ca_cons (c_tup (ca_cons c_int (ca_cons c_int (ca_cons (c_un un_neg us_neg (co_e c_int)) ca_nil)))) (ca_cons (c_fr (cf_lst (ca_cons c_str (ca_cons c_str ca_nil)))) ca_nil)))) ca_nil)))))))))
    (cb_cons (cs_set 0 (ps_set (i := 0) nd rfl (by first | exact Or.inl rfl | exact Or.inr rfl) (c_fr (cf_op op_cat fs_cat (co_e (c_var 0 (pv 0))) (co_e (c_fr (cf_lst (ca_cons (c_fr (cf_lst (ca_cons (c_tup (ca_cons c_int (ca_cons c_int (ca_cons c_int ca_nil)))) (ca_cons (c_fr (cf_lst (ca_cons c_str (ca_cons c_str ca_nil)))) ca_nil)))) (ca_cons (c_fr (cf_lst (ca_cons (c_tup (ca_cons c_int (ca_cons c_int (ca_cons c_int ca_nil)))) (ca_cons (c_fr (cf_lst (ca_cons c_str (ca_cons c_str ca_nil)))) ca_nil)))) ca_nil)))))))))
    (cb_cons (cs_set 0 (ps_set (i := 0) nd rfl (by first | exact Or.inl rfl | exact Or.inr rfl) (c_fr (cf_op op_cat fs_cat (co_e (c_var 0 (pv 0))) (co_e (c_fr (cf_lst (ca_cons (c_fr (cf_lst (ca_cons (c_tup (ca_cons c_int (ca_cons (c_un un_neg us_neg (co_e c_int)) (ca_cons c_int ca_nil)))) (ca_cons (c_fr (cf_lst (ca_cons c_str (ca_cons c_str ca_nil)))) ca_nil)))) (ca_cons (c_fr (cf_lst (ca_cons (c_tup (ca_cons c_int (ca_cons c_int (ca_cons c_int (ca_cons c_int (ca_cons c_int (ca_cons (c_op op_pow os_pow (co_e c_int) (co_e c_int)) ca_nil))))))) (ca_cons (c_fr (cf_lst (ca_cons c_str (ca_cons c_str ca_nil)))) ca_nil)))) ca_nil)))))))))
    (cb_one (cs_retF (cf_op op_cat fs_cat (co_e (c_var 0 (pv 0))) (co_e (c_fr (cf_lst (ca_cons (c_fr (cf_lst (ca_cons (c_tup (ca_cons c_int (ca_cons c_int (ca_cons c_int (ca_cons c_int (ca_cons c_int (ca_cons c_int (ca_cons c_int (ca_cons c_int (ca_cons c_int (ca_cons c_int ca_nil))))))))))) (ca_cons (c_fr (cf_lst (ca_cons c_str (ca_cons c_str ca_nil)))) ca_nil)))) ca_nil))))))))))))
def N_check_coefficients : List Str := ["values", "index", "value"]
theorem sc_check_coefficients : FnScope N_check_coefficients ["values"] (defScope (top 44)) := ⟨rfl, rfl, rfl, by decide +kernel, rfl, by decide +kernel, by decide +kernel⟩
theorem ok_check_coefficients (n : Nat) (T : Tx g mg) (H_is_between : Has P w g.K mg base 2 "is_between" ["value", "low", "high"] (defArgs (top 15)) (spF g 3 (f_is_between n))) : Has P w g.K mg base 3 "check_coefficients" ["values"] (defArgs (top 44)) (spF g 1 (f_check_coefficients n)) := by
  obtain ⟨fd, F⟩ := T.says.d.def_ 40 (d := dd "check_coefficients" 44) rfl
  have F : FunD g.K "check_coefficients" "check_coefficients" (defArgs (top 44)) (defBody (top 44)) (defScope (top 44)) [] [] (He.fAd g.K ("check_coefficients", none)) fd := F
  have nd := sc_check_coefficients.nd
  refine ⟨_, fd, FnG.by (k := 2) F sc_check_coefficients rfl rfl (by decide) (fun cdv A outer s H E hr gd => ?_), T.glo 40 rfl, F.kp, F.bindsN (fun _ _ _ _ _ _ us hl => match us, hl with | [_], _ => rfl), _, _, _, _, F⟩
  have tk : L2N.Takes (cxOf (L2N.CX P w) P w g.K mg base N_check_coefficients "check_coefficients" (defScope (top 44)) (He.fAd g.K ("check_coefficients", none)) cdv A outer s H E) (fun cls d _ H => E cls d H) := L2N.takes_of rfl rfl rfl rfl
  have po : PassesOwn (model P w) (A.deeper (envOfC "check_coefficients" (defScope (top 44)) s.heap.objs.size (He.fAd g.K ("check_coefficients", none)) cdv)) (envOfC "check_coefficients" (defScope (top 44)) s.heap.objs.size (He.fAd g.K ("check_coefficients", none)) cdv) (cxOf (L2N.CX P w) P w g.K mg base N_check_coefficients "check_coefficients" (defScope (top 44)) (He.fAd g.K ("check_coefficients", none)) cdv A outer s H E).xe := passes_of (X := cxOf (L2N.CX P w) P w g.K mg base N_check_coefficients "check_coefficients" (defScope (top 44)) (He.fAd g.K ("check_coefficients", none)) cdv A outer s H E) rfl
  exact (cb_cons (cs_if (ct_w (cw_or (ct_not (ct_tru (co_e (c_cb call_isi ls_isi (by rfl) T.g_isinstance (by decide +kernel) (co_cons (co_e (c_var 0 (pv 0))) (co_cons (co_e (c_gty (by rfl) T.g_tuple (by decide +kernel))) co_nil)) (by decide +kernel) (by decide +kernel))) rfl (by intro _; rfl))) (cw_or1 (ct_gnotin rfl T.tab_UNKNOWNS (by rfl) T.gl_UNKNOWNS (c_cb call_len ls_len (by rfl) T.g_len (by decide +kernel) (co_cons (co_e (c_var 0 (pv 0))) co_nil) (by decide +kernel) (by decide +kernel)) (by decide +kernel) (by first | exact nomark _ | rfl | with_unfolding_all rfl)))))
    (cb_one cs_bad)
    cb_nil)
    (cb_one (cs_for po (by rfl) (ci_nums rfl (by rfl) T.g_enumerate (ca_cons (c_var 0 (pv 0)) ca_nil)) (cg_tup (by rfl) rfl (cgs_cons (cg_name 1 (pg_name (i := 1) nd rfl (by first | exact Or.inl rfl | exact Or.inr rfl))) (cgs_cons (cg_name 2 (pg_name (i := 2) nd rfl (by first | exact Or.inl rfl | exact Or.inr rfl))) cgs_nil)))
    (cb_one (cs_if (ct_not (ct_tru (co_e (c_call H_is_between (hr.mono (by decide)) gd (by rfl) tk (co_cons (co_e (c_var 2 (pv 2))) (co_cons (co_e (c_un un_neg us_neg (co_e (c_gint (by rfl) T.g_MOST_SIZE)))) (co_cons (co_e (c_gint (by rfl) T.g_MOST_SIZE)) co_nil))) (by decide +kernel))) rfl (by intro _; rfl)))
    (cb_one cs_bad)
    cb_nil)))))
def N_table_for : List Str := ["coefficients", "size", "found", "row", "column", "own"]
theorem sc_table_for : FnScope N_table_for ["coefficients"] (defScope (top 42)) := ⟨rfl, rfl, rfl, by decide +kernel, rfl, by decide +kernel, by decide +kernel⟩
theorem ok_table_for (n : Nat) (T : Tx g mg) (H_pairs_of : Has P w g.K mg base 1 "pairs_of" ["size"] (defArgs (top 41)) (spF g 1 (f_pairs_of n))) : Has P w g.K mg base 2 "table_for" ["coefficients"] (defArgs (top 42)) (spF g 1 (f_table_for n)) := by
  obtain ⟨fd, F⟩ := T.says.d.def_ 41 (d := dd "table_for" 42) rfl
  have F : FunD g.K "table_for" "table_for" (defArgs (top 42)) (defBody (top 42)) (defScope (top 42)) [] [] (He.fAd g.K ("table_for", none)) fd := F
  have nd := sc_table_for.nd
  refine ⟨_, fd, FnG.by (k := 1) F sc_table_for rfl rfl (by decide) (fun cdv A outer s H E hr gd => ?_), T.glo 41 rfl, F.kp, F.bindsN (fun _ _ _ _ _ _ us hl => match us, hl with | [_], _ => rfl), _, _, _, _, F⟩
  have tk : L2N.Takes (cxOf (L2N.CX P w) P w g.K mg base N_table_for "table_for" (defScope (top 42)) (He.fAd g.K ("table_for", none)) cdv A outer s H E) (fun cls d _ H => E cls d H) := L2N.takes_of rfl rfl rfl rfl
  have po : PassesOwn (model P w) (A.deeper (envOfC "table_for" (defScope (top 42)) s.heap.objs.size (He.fAd g.K ("table_for", none)) cdv)) (envOfC "table_for" (defScope (top 42)) s.heap.objs.size (He.fAd g.K ("table_for", none)) cdv) (cxOf (L2N.CX P w) P w g.K mg base N_table_for "table_for" (defScope (top 42)) (He.fAd g.K ("table_for", none)) cdv A outer s H E).xe := passes_of (X := cxOf (L2N.CX P w) P w g.K mg base N_table_for "table_for" (defScope (top 42)) (He.fAd g.K ("table_for", none)) cdv A outer s H E) rfl
  exact (cb_cons (cs_set 1 (ps_set (i := 1) nd rfl (by first | exact Or.inl rfl | exact Or.inr rfl) (c_gd rfl T.tab_UNKNOWNS (by rfl) T.gl_UNKNOWNS (c_cb call_len ls_len (by rfl) T.g_len (by decide +kernel) (co_cons (co_e (c_var 0 (pv 0))) co_nil) (by decide +kernel) (by decide +kernel)) (fun _ _ => rfl) (by decide +kernel))))
    (cb_nest (W := fun cls d _ H => E cls d H) (by decide) (ps_setLc (i := 2) (own := [("row", 3)]) (by rfl) nd rfl rfl (sw_true rfl rfl rfl (by decide +kernel)) (ci_range1 (by rfl) T.g_range (co_cons (co_e (c_var 1 (pv 1))) co_nil)) (blkOk_by (own := [("row", 3)]) (N := N_table_for) (sc := defScope (top 42)) (by decide +kernel)) (fun _ _ _ _ _ => (cg_name 3 (pg_name (i := 3) nd rfl (by first | exact Or.inl rfl | exact Or.inr rfl)))) (fun _ _ _ _ _ => ts_nil) (fun _ _ _ _ _ => (cf_op op_rep fs_rep (co_e (c_fr (cf_lst (ca_cons c_int ca_nil)))) (co_e (c_var 1 (pv 1))))))
    (n_for (W := fun cls d _ H => E cls d H) (by decide) po (by rfl) (ci_pairs rfl (by rfl) T.g_zip (ca_cons (c_fr (cf_call H_pairs_of (hr.mono (by decide)) gd (by rfl) tk (co_cons (co_e (c_var 1 (pv 1))) co_nil) (by decide +kernel))) (ca_cons (c_var 0 (pv 0)) ca_nil))) (cg_tup (by rfl) rfl (cgs_cons (cg_tup (by rfl) rfl (cgs_cons (cg_name 3 (pg_name (i := 3) nd rfl (by first | exact Or.inl rfl | exact Or.inr rfl))) (cgs_cons (cg_name 4 (pg_name (i := 4) nd rfl (by first | exact Or.inl rfl | exact Or.inr rfl))) cgs_nil))) (cgs_cons (cg_name 5 (pg_name (i := 5) nd rfl (by first | exact Or.inl rfl | exact Or.inr rfl))) cgs_nil)))
    (n_cons (n_store (W := fun cls d _ H => E cls d H) (pv 2) (c_var 3 (pv 3)) (c_var 4 (pv 4)) (fun _ _ => rfl) (ne_op or_add os_add (ne_ix (W := fun cls d _ H => E cls d H) (pv 2) (c_var 3 (pv 3)) (c_var 4 (pv 4)) (fun _ _ => rfl) (fun _ _ => rfl)) (ne_lift (W := fun cls d _ H => E cls d H) (c_var 5 (pv 5))))) (n_one (n_store (W := fun cls d _ H => E cls d H) (pv 2) (c_var 4 (pv 4)) (c_var 3 (pv 3)) (fun _ _ => rfl) (ne_op or_add os_add (ne_ix (W := fun cls d _ H => E cls d H) (pv 2) (c_var 4 (pv 4)) (c_var 3 (pv 3)) (fun _ _ => rfl) (fun _ _ => rfl)) (ne_lift (W := fun cls d _ H => E cls d H) (c_var 5 (pv 5))))))))
    (cb_one (cs_ret (c_ct call_tuple_of ls_tuple (by rfl) T.g_tuple (by decide +kernel) (co_cons (co_e (c_fr (cf_lc (pe_lc (own := [("row", 3)]) (by rfl) nd (ci_any rfl (c_var 2 (pv 2))) (blkOk_by (own := [("row", 3)]) (N := N_table_for) (sc := defScope (top 42)) (by decide +kernel)) (fun _ _ _ _ _ => (cg_name 3 (pg_name (i := 3) nd rfl (by first | exact Or.inl rfl | exact Or.inr rfl)))) (fun _ _ _ _ _ => ts_nil) (fun _ _ _ _ _ => (c_ct call_tuple_of ls_tuple (by rfl) T.g_tuple (by decide +kernel) (co_cons (co_e (c_var 3 (pv 3))) co_nil) (by decide +kernel) (by decide +kernel)))) (by decide)))) co_nil) (by decide +kernel) (by decide +kernel))))))
def N_exchanged : List Str := ["rows", "one", "other", "order", "row", "column"]
theorem sc_exchanged : FnScope N_exchanged ["rows", "one", "other"] (defScope (top 35)) := ⟨rfl, rfl, rfl, by decide +kernel, rfl, by decide +kernel, by decide +kernel⟩
theorem ok_exchanged (n : Nat) (T : Tx g mg) : Has P w g.K mg base 1 "exchanged" ["rows", "one", "other"] (defArgs (top 35)) (spF g 3 (f_exchanged n)) := by
  obtain ⟨fd, F⟩ := T.says.d.def_ 42 (d := dd "exchanged" 35) rfl
  have F : FunD g.K "exchanged" "exchanged" (defArgs (top 35)) (defBody (top 35)) (defScope (top 35)) [] [] (He.fAd g.K ("exchanged", none)) fd := F
  have nd := sc_exchanged.nd
  refine ⟨_, fd, FnG.by (k := 0) F sc_exchanged rfl rfl (by decide) (fun cdv A outer s H E hr gd => ?_), T.glo 42 rfl, F.kp, F.bindsN (fun _ _ _ _ _ _ us hl => match us, hl with | [_, _, _], _ => rfl), _, _, _, _, F⟩
  exact (cb_cons (cs_setB 3 (ps_set (i := 3) nd rfl (by first | exact Or.inl rfl | exact Or.inr rfl) (cf_lr1 (by rfl) T.g_list (by rfl) T.g_range (c_cb call_len ls_len (by rfl) T.g_len (by decide +kernel) (co_cons (co_e (c_var 0 (pv 0))) co_nil) (by decide +kernel) (by decide +kernel)))))
    (cb_cons (cs_asg (c_tup (ca_cons (c_ix rfl (co_n 3 (pv 3)) (co_e (c_var 2 (pv 2))) (fun _ _ => rfl)) (ca_cons (c_ix rfl (co_n 3 (pv 3)) (co_e (c_var 1 (pv 1))) (fun _ _ => rfl)) ca_nil))) (cg_tup (by rfl) rfl (cgs_cons (cg_st (W := fun cls d _ H => E cls d H) 3 (pv 3) (c_var 1 (pv 1))) (cgs_cons (cg_st (W := fun cls d _ H => E cls d H) 3 (pv 3) (c_var 2 (pv 2))) cgs_nil))))
    (cb_ub 3 (cb_one (cs_retF (cf_lc (pe_lc (own := [("row", 4)]) (by rfl) nd (ci_any rfl (c_var 3 (pv 3))) (blkOk_by (own := [("row", 4)]) (N := N_exchanged) (sc := defScope (top 35)) (by decide +kernel)) (fun _ _ _ _ _ => (cg_name 4 (pg_name (i := 4) nd rfl (by first | exact Or.inl rfl | exact Or.inr rfl)))) (fun _ _ _ _ _ => ts_nil) (fun _ _ _ _ _ => (c_fr (cf_lc (pe_lc (own := [("column", 5)]) (by rfl) nd (ci_any rfl (c_var 3 (pv 3))) (blkOk_by (own := [("column", 5)]) (N := N_exchanged) (by kernel_rfl)) (fun _ _ _ _ _ => (cg_name 5 (pg_name (i := 5) nd rfl (by first | exact Or.inl rfl | exact Or.inr rfl)))) (fun _ _ _ _ _ => ts_nil) (fun _ _ _ _ _ => (c_ix rfl (co_e (c_ix rfl (co_e (c_var 0 (pv 0))) (co_e (c_var 4 (pv 4))) (fun _ _ => rfl))) (co_e (c_var 5 (pv 5))) (fun _ _ => rfl)))) (by decide))))) (by decide)))))))
def N_fraction : List Str := ["top", "bottom", "common"]
theorem sc_fraction : FnScope N_fraction ["top", "bottom"] (defScope (top 31)) := ⟨rfl, rfl, rfl, by decide +kernel, rfl, by decide +kernel, by decide +kernel⟩
theorem ok_fraction (n : Nat) (T : Tx g mg) (H_common_divisor : Has P w g.K mg base 1 "common_divisor" ["one", "other"] (defArgs (top 23)) (spF g 2 (f_common_divisor n))) : Has P w g.K mg base 2 "fraction" ["top", "bottom"] (defArgs (top 31)) (spF g 2 (f_fraction n)) := by
  obtain ⟨fd, F⟩ := T.says.d.def_ 43 (d := dd "fraction" 31) rfl
  have F : FunD g.K "fraction" "fraction" (defArgs (top 31)) (defBody (top 31)) (defScope (top 31)) [] [] (He.fAd g.K ("fraction", none)) fd := F
  have nd := sc_fraction.nd
  refine ⟨_, fd, FnG.by (k := 1) F sc_fraction rfl rfl (by decide) (fun cdv A outer s H E hr gd => ?_), T.glo 43 rfl, F.kp, F.bindsN (fun _ _ _ _ _ _ us hl => match us, hl with | [_, _], _ => rfl), _, _, _, _, F⟩
  have tk : L2N.Takes (cxOf (L2N.CX P w) P w g.K mg base N_fraction "fraction" (defScope (top 31)) (He.fAd g.K ("fraction", none)) cdv A outer s H E) (fun cls d _ H => E cls d H) := L2N.takes_of rfl rfl rfl rfl
  exact (cb_cons (cs_set 2 (ps_set (i := 2) nd rfl (by first | exact Or.inl rfl | exact Or.inr rfl) (c_call H_common_divisor (hr.mono (by decide)) gd (by rfl) tk (co_cons (co_e (c_var 0 (pv 0))) (co_cons (co_e (c_var 1 (pv 1))) co_nil)) (by decide +kernel))))
    (cb_cons (cs_set 2 (ps_set (i := 2) nd rfl (by first | exact Or.inl rfl | exact Or.inr rfl) (c_if (ct_cmp op_gt os_gt (co_e (c_var 1 (pv 1))) (co_e c_int) (by first | exact nomark _ | rfl | with_unfolding_all rfl)) (c_var 2 (pv 2)) (c_un un_neg us_neg (co_e (c_var 2 (pv 2)))))))
    (cb_one (cs_ret (c_tup (ca_cons (c_op op_fdivG os_fdiv (co_e (c_var 0 (pv 0))) (co_e (c_var 2 (pv 2)))) (ca_cons (c_op op_fdivG os_fdiv (co_e (c_var 1 (pv 1))) (co_e (c_var 2 (pv 2)))) ca_nil)))))))
def N_plus : List Str := ["one", "other"]
theorem sc_plus : FnScope N_plus ["one", "other"] (defScope (top 38)) := ⟨rfl, rfl, rfl, by decide +kernel, rfl, by decide +kernel, by decide +kernel⟩
theorem ok_plus (n : Nat) (T : Tx g mg) (H_fraction : Has P w g.K mg base 2 "fraction" ["top", "bottom"] (defArgs (top 31)) (spF g 2 (f_fraction n))) : Has P w g.K mg base 3 "plus" ["one", "other"] (defArgs (top 38)) (spF g 2 (f_plus n)) := by
  obtain ⟨fd, F⟩ := T.says.d.def_ 44 (d := dd "plus" 38) rfl
  have F : FunD g.K "plus" "plus" (defArgs (top 38)) (defBody (top 38)) (defScope (top 38)) [] [] (He.fAd g.K ("plus", none)) fd := F
  refine ⟨_, fd, FnG.by (k := 2) F sc_plus rfl rfl (by decide) (fun cdv A outer s H E hr gd => ?_), T.glo 44 rfl, F.kp, F.bindsN (fun _ _ _ _ _ _ us hl => match us, hl with | [_, _], _ => rfl), _, _, _, _, F⟩
  have tk : L2N.Takes (cxOf (L2N.CX P w) P w g.K mg base N_plus "plus" (defScope (top 38)) (He.fAd g.K ("plus", none)) cdv A outer s H E) (fun cls d _ H => E cls d H) := L2N.takes_of rfl rfl rfl rfl
  exact (cb_one (cs_ret (c_call H_fraction (hr.mono (by decide)) gd (by rfl) tk (co_cons (co_e (c_op or_add os_add (co_e (c_op or_mul os_mul (co_e (c_ix rfl (co_e (c_var 0 (pv 0))) (co_e c_int) (fun _ _ => rfl))) (co_e (c_ix rfl (co_e (c_var 1 (pv 1))) (co_e c_int) (fun _ _ => rfl))))) (co_e (c_op or_mul os_mul (co_e (c_ix rfl (co_e (c_var 1 (pv 1))) (co_e c_int) (fun _ _ => rfl))) (co_e (c_ix rfl (co_e (c_var 0 (pv 0))) (co_e c_int) (fun _ _ => rfl))))))) (co_cons (co_e (c_op or_mul os_mul (co_e (c_ix rfl (co_e (c_var 0 (pv 0))) (co_e c_int) (fun _ _ => rfl))) (co_e (c_ix rfl (co_e (c_var 1 (pv 1))) (co_e c_int) (fun _ _ => rfl))))) co_nil)) (by decide +kernel))))
def N_added : List Str := ["row", "one", "other", "at", "value"]
theorem sc_added : FnScope N_added ["row", "one", "other"] (defScope (top 37)) := ⟨rfl, rfl, rfl, by decide +kernel, rfl, by decide +kernel, by decide +kernel⟩
theorem ok_added (n : Nat) (T : Tx g mg) (H_plus : Has P w g.K mg base 3 "plus" ["one", "other"] (defArgs (top 38)) (spF g 2 (f_plus n))) : Has P w g.K mg base 4 "added" ["row", "one", "other"] (defArgs (top 37)) (spF g 3 (f_added n)) := by
  obtain ⟨fd, F⟩ := T.says.d.def_ 45 (d := dd "added" 37) rfl
  have F : FunD g.K "added" "added" (defArgs (top 37)) (defBody (top 37)) (defScope (top 37)) [] [] (He.fAd g.K ("added", none)) fd := F
  have nd := sc_added.nd
  refine ⟨_, fd, FnG.by (k := 3) F sc_added rfl rfl (by decide) (fun cdv A outer s H E hr gd => ?_), T.glo 45 rfl, F.kp, F.bindsN (fun _ _ _ _ _ _ us hl => match us, hl with | [_, _, _], _ => rfl), _, _, _, _, F⟩
  exact (cb_one (cs_retF (cf_lc (pe_lc (own := [("at", 3), ("value", 4)]) (by rfl) nd (ci_nums rfl (by rfl) T.g_enumerate (ca_cons (c_var 0 (pv 0)) ca_nil)) (blkOk_by (own := [("at", 3), ("value", 4)]) (N := N_added) (sc := defScope (top 37)) (by decide +kernel)) (fun _ _ _ _ _ => (cg_tup (by rfl) rfl (cgs_cons (cg_name 3 (pg_name (i := 3) nd rfl (by first | exact Or.inl rfl | exact Or.inr rfl))) (cgs_cons (cg_name 4 (pg_name (i := 4) nd rfl (by first | exact Or.inl rfl | exact Or.inr rfl))) cgs_nil)))) (fun _ _ _ _ _ => ts_nil) (fun _ _ _ _ _ => (c_if (ct_cmp (or_eq (u64 hr)) os_eq (co_e (c_var 3 (pv 3))) (co_e (c_var 1 (pv 1))) (by first | exact nomark _ | rfl | with_unfolding_all rfl)) (c_call H_plus (hr.mono (by decide)) gd (by rfl) takes0N (co_cons (co_e (c_var 4 (pv 4))) (co_cons (co_e (c_ix rfl (co_e (c_var 0 (pv 0))) (co_e (c_var 2 (pv 2))) (fun _ _ => rfl))) co_nil)) (by decide +kernel)) (c_var 4 (pv 4))))) (by decide))))
def N_summed : List Str := ["rows", "one", "other", "wide", "row", "left", "right"]
theorem sc_summed : FnScope N_summed ["rows", "one", "other"] (defScope (top 36)) := ⟨rfl, rfl, rfl, by decide +kernel, rfl, by decide +kernel, by decide +kernel⟩
theorem ok_summed (n : Nat) (T : Tx g mg) (H_added : Has P w g.K mg base 4 "added" ["row", "one", "other"] (defArgs (top 37)) (spF g 3 (f_added n))) (H_plus : Has P w g.K mg base 3 "plus" ["one", "other"] (defArgs (top 38)) (spF g 2 (f_plus n))) : Has P w g.K mg base 5 "summed" ["rows", "one", "other"] (defArgs (top 36)) (spF g 3 (f_summed n)) := by
  obtain ⟨fd, F⟩ := T.says.d.def_ 46 (d := dd "summed" 36) rfl
  have F : FunD g.K "summed" "summed" (defArgs (top 36)) (defBody (top 36)) (defScope (top 36)) [] [] (He.fAd g.K ("summed", none)) fd := F
  have nd := sc_summed.nd
  refine ⟨_, fd, FnG.by (k := 4) F sc_summed rfl rfl (by decide) (fun cdv A outer s H E hr gd => ?_), T.glo 46 rfl, F.kp, F.bindsN (fun _ _ _ _ _ _ us hl => match us, hl with | [_, _, _], _ => rfl), _, _, _, _, F⟩
  exact (cb_cons (cs_setB 3 (asg_mono (ps_setLc (i := 3) (own := [("row", 4)]) (by rfl) nd rfl rfl (sw_true rfl rfl rfl (by decide +kernel)) (ci_any rfl (c_var 0 (pv 0))) (blkOk_by (own := [("row", 4)]) (N := N_summed) (sc := defScope (top 36)) (by decide +kernel)) (fun _ _ _ _ _ => (cg_name 4 (pg_name (i := 4) nd rfl (by first | exact Or.inl rfl | exact Or.inr rfl)))) (fun _ _ _ _ _ => ts_nil) (fun _ _ _ _ _ => (c_fr (cf_call H_added (hr.mono (by decide)) gd (by rfl) takes0N (co_cons (co_e (c_var 4 (pv 4))) (co_cons (co_e (c_var 1 (pv 1))) (co_cons (co_e (c_var 2 (pv 2))) co_nil))) (by decide +kernel))))) (lc_of (by decide))))
    (cb_cons (cs_asg (c_fr (cf_lc (pe_lc (own := [("left", 5), ("right", 6)]) (by rfl) nd (ci_pairs rfl (by rfl) T.g_zip (ca_cons (c_ix rfl (co_n 3 (pv 3)) (co_e (c_var 1 (pv 1))) (fun _ _ => rfl)) (ca_cons (c_ix rfl (co_n 3 (pv 3)) (co_e (c_var 2 (pv 2))) (fun _ _ => rfl)) ca_nil))) (blkOk_by (own := [("left", 5), ("right", 6)]) (N := N_summed) (sc := defScope (top 36)) (by decide +kernel)) (fun _ _ _ _ _ => (cg_tup (by rfl) rfl (cgs_cons (cg_name 5 (pg_name (i := 5) nd rfl (by first | exact Or.inl rfl | exact Or.inr rfl))) (cgs_cons (cg_name 6 (pg_name (i := 6) nd rfl (by first | exact Or.inl rfl | exact Or.inr rfl))) cgs_nil)))) (fun _ _ _ _ _ => ts_nil) (fun _ _ _ _ _ => (c_call H_plus (hr.mono (by decide)) gd (by rfl) takes0N (co_cons (co_e (c_var 5 (pv 5))) (co_cons (co_e (c_var 6 (pv 6))) co_nil)) (by decide +kernel)))) (by decide))) (cg_st (W := fun cls d _ H => E cls d H) 3 (pv 3) (c_var 1 (pv 1))))
    (cb_one (cs_retB 3 (pv 3)))))
def N_with_lead : List Str := ["rows", "size", "index", "row", "column"]
theorem sc_with_lead : FnScope N_with_lead ["rows"] (defScope (top 34)) := ⟨rfl, rfl, rfl, by decide +kernel, rfl, by decide +kernel, by decide +kernel⟩
theorem ok_with_lead (n : Nat) (T : Tx g mg) (H_exchanged : Has P w g.K mg base 1 "exchanged" ["rows", "one", "other"] (defArgs (top 35)) (spF g 3 (f_exchanged n))) (H_summed : Has P w g.K mg base 5 "summed" ["rows", "one", "other"] (defArgs (top 36)) (spF g 3 (f_summed n))) : Has P w g.K mg base 6 "with_lead" ["rows"] (defArgs (top 34)) (spF g 1 (f_with_lead n)) := by
  obtain ⟨fd, F⟩ := T.says.d.def_ 47 (d := dd "with_lead" 34) rfl
  have F : FunD g.K "with_lead" "with_lead" (defArgs (top 34)) (defBody (top 34)) (defScope (top 34)) [] [] (He.fAd g.K ("with_lead", none)) fd := F
  have nd := sc_with_lead.nd
  refine ⟨_, fd, FnG.by (k := 5) F sc_with_lead rfl rfl (by decide) (fun cdv A outer s H E hr gd => ?_), T.glo 47 rfl, F.kp, F.bindsN (fun _ _ _ _ _ _ us hl => match us, hl with | [_], _ => rfl), _, _, _, _, F⟩
  have tk : L2N.Takes (cxOf (L2N.CX P w) P w g.K mg base N_with_lead "with_lead" (defScope (top 34)) (He.fAd g.K ("with_lead", none)) cdv A outer s H E) (fun cls d _ H => E cls d H) := L2N.takes_of rfl rfl rfl rfl
  have po : PassesOwn (model P w) (A.deeper (envOfC "with_lead" (defScope (top 34)) s.heap.objs.size (He.fAd g.K ("with_lead", none)) cdv)) (envOfC "with_lead" (defScope (top 34)) s.heap.objs.size (He.fAd g.K ("with_lead", none)) cdv) (cxOf (L2N.CX P w) P w g.K mg base N_with_lead "with_lead" (defScope (top 34)) (He.fAd g.K ("with_lead", none)) cdv A outer s H E).xe := passes_of (X := cxOf (L2N.CX P w) P w g.K mg base N_with_lead "with_lead" (defScope (top 34)) (He.fAd g.K ("with_lead", none)) cdv A outer s H E) rfl
  exact (cb_cons (cs_set 1 (ps_set (i := 1) nd rfl (by first | exact Or.inl rfl | exact Or.inr rfl) (c_cb call_len ls_len (by rfl) T.g_len (by decide +kernel) (co_cons (co_e (c_var 0 (pv 0))) co_nil) (by decide +kernel) (by decide +kernel))))
    (cb_cons (cs_for po (by rfl) (ci_range1 (by rfl) T.g_range (co_cons (co_e (c_var 1 (pv 1))) co_nil)) (cg_name 2 (pg_name (i := 2) nd rfl (by first | exact Or.inl rfl | exact Or.inr rfl)))
    (cb_one (cs_if (ct_cmp (or_ne (u64 hr)) os_ne (co_e (c_ix rfl (co_e (c_ix rfl (co_e (c_ix rfl (co_e (c_var 0 (pv 0))) (co_e (c_var 2 (pv 2))) (fun _ _ => rfl))) (co_e (c_var 2 (pv 2))) (fun _ _ => rfl))) (co_e c_int) (fun _ _ => rfl))) (co_e c_int) (by first | exact nomark _ | rfl | with_unfolding_all rfl))
    (cb_one (cs_retF (cf_call H_exchanged (hr.mono (by decide)) gd (by rfl) tk (co_cons (co_e (c_var 0 (pv 0))) (co_cons (co_e c_int) (co_cons (co_e (c_var 2 (pv 2))) co_nil))) (by decide +kernel))))
    cb_nil)))
    (cb_cons (cs_for po (by rfl) (ci_range1 (by rfl) T.g_range (co_cons (co_e (c_var 1 (pv 1))) co_nil)) (cg_name 3 (pg_name (i := 3) nd rfl (by first | exact Or.inl rfl | exact Or.inr rfl)))
    (cb_one (cs_for po (by rfl) (ci_range2 (by rfl) T.g_range (co_cons (co_e (c_op or_add os_add (co_e (c_var 3 (pv 3))) (co_e c_int))) (co_cons (co_e (c_var 1 (pv 1))) co_nil))) (cg_name 4 (pg_name (i := 4) nd rfl (by first | exact Or.inl rfl | exact Or.inr rfl)))
    (cb_one (cs_if (ct_cmp (or_ne (u64 hr)) os_ne (co_e (c_ix rfl (co_e (c_ix rfl (co_e (c_ix rfl (co_e (c_var 0 (pv 0))) (co_e (c_var 3 (pv 3))) (fun _ _ => rfl))) (co_e (c_var 4 (pv 4))) (fun _ _ => rfl))) (co_e c_int) (fun _ _ => rfl))) (co_e c_int) (by first | exact nomark _ | rfl | with_unfolding_all rfl))
    (cb_one (cs_retF (cf_call H_exchanged (hr.mono (by decide)) gd (by rfl) tk (co_cons (co_e (c_fr (cf_call H_summed (hr.mono (by decide)) gd (by rfl) tk (co_cons (co_e (c_var 0 (pv 0))) (co_cons (co_e (c_var 3 (pv 3))) (co_cons (co_e (c_var 4 (pv 4))) co_nil))) (by decide +kernel)))) (co_cons (co_e c_int) (co_cons (co_e (c_var 3 (pv 3))) co_nil))) (by decide +kernel))))
    cb_nil)))))
    (cb_one (cs_ret (c_var 0 (pv 0)))))))
def N_behind : List Str := ["row", "lead", "many", "found", "own", "other", "top"]
theorem sc_behind : FnScope N_behind ["row", "lead"] (defScope (top 33)) := ⟨rfl, rfl, rfl, by decide +kernel, rfl, by decide +kernel, by decide +kernel⟩
theorem ok_behind (n : Nat) (T : Tx g mg) (H_fraction : Has P w g.K mg base 2 "fraction" ["top", "bottom"] (defArgs (top 31)) (spF g 2 (f_fraction n))) : Has P w g.K mg base 3 "behind" ["row", "lead"] (defArgs (top 33)) (spF g 2 (f_behind n)) := by
  obtain ⟨fd, F⟩ := T.says.d.def_ 48 (d := dd "behind" 33) rfl
  have F : FunD g.K "behind" "behind" (defArgs (top 33)) (defBody (top 33)) (defScope (top 33)) [] [] (He.fAd g.K ("behind", none)) fd := F
  have nd := sc_behind.nd
  refine ⟨_, fd, FnG.by (k := 2) F sc_behind rfl rfl (by decide) (fun cdv A outer s H E hr gd => ?_), T.glo 48 rfl, F.kp, F.bindsN (fun _ _ _ _ _ _ us hl => match us, hl with | [_, _], _ => rfl), _, _, _, _, F⟩
  have tk : L2N.Takes (cxOf (L2N.CX P w) P w g.K mg base N_behind "behind" (defScope (top 33)) (He.fAd g.K ("behind", none)) cdv A outer s H E) (fun cls d _ H => E cls d H) := L2N.takes_of rfl rfl rfl rfl
  have po : PassesOwn (model P w) (A.deeper (envOfC "behind" (defScope (top 33)) s.heap.objs.size (He.fAd g.K ("behind", none)) cdv)) (envOfC "behind" (defScope (top 33)) s.heap.objs.size (He.fAd g.K ("behind", none)) cdv) (cxOf (L2N.CX P w) P w g.K mg base N_behind "behind" (defScope (top 33)) (He.fAd g.K ("behind", none)) cdv A outer s H E).xe := passes_of (X := cxOf (L2N.CX P w) P w g.K mg base N_behind "behind" (defScope (top 33)) (He.fAd g.K ("behind", none)) cdv A outer s H E) rfl
  exact (cb_cons (cs_if (ct_cmp (or_eq (u64 hr)) os_eq (co_e (c_ix rfl (co_e (c_ix rfl (co_e (c_var 1 (pv 1))) (co_e c_int) (fun _ _ => rfl))) (co_e c_int) (fun _ _ => rfl))) (co_e c_int) (by first | exact nomark _ | rfl | with_unfolding_all rfl))
    (cb_one (cs_ret (c_sl rfl (co_e (c_var 0 (pv 0))) (cp_some c_int) cp_none)))
    cb_nil)
    (cb_cons (cs_set 2 (ps_set (i := 2) nd rfl (by first | exact Or.inl rfl | exact Or.inr rfl) (c_call H_fraction (hr.mono (by decide)) gd (by rfl) tk (co_cons (co_e (c_op or_mul os_mul (co_e (c_ix rfl (co_e (c_ix rfl (co_e (c_var 0 (pv 0))) (co_e c_int) (fun _ _ => rfl))) (co_e c_int) (fun _ _ => rfl))) (co_e (c_ix rfl (co_e (c_ix rfl (co_e (c_var 1 (pv 1))) (co_e c_int) (fun _ _ => rfl))) (co_e c_int) (fun _ _ => rfl))))) (co_cons (co_e (c_op or_mul os_mul (co_e (c_ix rfl (co_e (c_ix rfl (co_e (c_var 0 (pv 0))) (co_e c_int) (fun _ _ => rfl))) (co_e c_int) (fun _ _ => rfl))) (co_e (c_ix rfl (co_e (c_ix rfl (co_e (c_var 1 (pv 1))) (co_e c_int) (fun _ _ => rfl))) (co_e c_int) (fun _ _ => rfl))))) co_nil)) (by decide +kernel))))
    (cb_cons (cs_setB 3 (ps_set (i := 3) nd rfl (by first | exact Or.inl rfl | exact Or.inr rfl) (cf_lst ca_nil)))
    (cb_cons (cs_for po (by rfl) (ci_pairs rfl (by rfl) T.g_zip (ca_cons (c_sl rfl (co_e (c_var 0 (pv 0))) (cp_some c_int) cp_none) (ca_cons (c_sl rfl (co_e (c_var 1 (pv 1))) (cp_some c_int) cp_none) ca_nil))) (cg_tup (by rfl) rfl (cgs_cons (cg_name 4 (pg_name (i := 4) nd rfl (by first | exact Or.inl rfl | exact Or.inr rfl))) (cgs_cons (cg_name 5 (pg_name (i := 5) nd rfl (by first | exact Or.inl rfl | exact Or.inr rfl))) cgs_nil)))
    (cb_cons (cs_set 6 (ps_set (i := 6) nd rfl (by first | exact Or.inl rfl | exact Or.inr rfl) (c_op op_sub os_sub (co_e (c_op or_mul os_mul (co_e (c_op or_mul os_mul (co_e (c_ix rfl (co_e (c_var 4 (pv 4))) (co_e c_int) (fun _ _ => rfl))) (co_e (c_ix rfl (co_e (c_var 2 (pv 2))) (co_e c_int) (fun _ _ => rfl))))) (co_e (c_ix rfl (co_e (c_var 5 (pv 5))) (co_e c_int) (fun _ _ => rfl))))) (co_e (c_op or_mul os_mul (co_e (c_op or_mul os_mul (co_e (c_ix rfl (co_e (c_var 2 (pv 2))) (co_e c_int) (fun _ _ => rfl))) (co_e (c_ix rfl (co_e (c_var 5 (pv 5))) (co_e c_int) (fun _ _ => rfl))))) (co_e (c_ix rfl (co_e (c_var 4 (pv 4))) (co_e c_int) (fun _ _ => rfl))))))))
    (cb_one (cs_expr (c_app 3 rfl (pe_bm PySem.F.plainAttrs_list PySem.F.slot_list_append PySem.F.type_list_append mt_append (pv 3) (pa_cons (c_call H_fraction (hr.mono (by decide)) gd (by rfl) tk (co_cons (co_e (c_var 6 (pv 6))) (co_cons (co_e (c_op or_mul os_mul (co_e (c_op or_mul os_mul (co_e (c_ix rfl (co_e (c_var 4 (pv 4))) (co_e c_int) (fun _ _ => rfl))) (co_e (c_ix rfl (co_e (c_var 2 (pv 2))) (co_e c_int) (fun _ _ => rfl))))) (co_e (c_ix rfl (co_e (c_var 5 (pv 5))) (co_e c_int) (fun _ _ => rfl))))) co_nil)) (by decide +kernel)) pa_nil)))))))
    (cb_one (cs_retB 3 (pv 3)))))))
def N_diagonal : List Str := ["rows", "left", "found", "lead", "row", "value"]
theorem sc_diagonal : FnScope N_diagonal ["rows"] (defScope (top 32)) := ⟨rfl, rfl, rfl, by decide +kernel, rfl, by decide +kernel, by decide +kernel⟩
theorem ok_diagonal (n : Nat) (T : Tx g mg) (H_with_lead : Has P w g.K mg base 6 "with_lead" ["rows"] (defArgs (top 34)) (spF g 1 (f_with_lead n))) (H_behind : Has P w g.K mg base 3 "behind" ["row", "lead"] (defArgs (top 33)) (spF g 2 (f_behind n))) : Has P w g.K mg base 7 "diagonal" ["rows"] (defArgs (top 32)) (spF g 1 (f_diagonal n)) := by
  obtain ⟨fd, F⟩ := T.says.d.def_ 49 (d := dd "diagonal" 32) rfl
  have F : FunD g.K "diagonal" "diagonal" (defArgs (top 32)) (defBody (top 32)) (defScope (top 32)) [] [] (He.fAd g.K ("diagonal", none)) fd := F
  have nd := sc_diagonal.nd
  refine ⟨_, fd, FnG.by (k := 6) F sc_diagonal rfl rfl (by decide) (fun cdv A outer s H E hr gd => ?_), T.glo 49 rfl, F.kp, F.bindsN (fun _ _ _ _ _ _ us hl => match us, hl with | [_], _ => rfl), _, _, _, _, F⟩
  have tk : L2N.Takes (cxOf (L2N.CX P w) P w g.K mg base N_diagonal "diagonal" (defScope (top 32)) (He.fAd g.K ("diagonal", none)) cdv A outer s H E) (fun cls d _ H => E cls d H) := L2N.takes_of rfl rfl rfl rfl
  have po : PassesOwn (model P w) (A.deeper (envOfC "diagonal" (defScope (top 32)) s.heap.objs.size (He.fAd g.K ("diagonal", none)) cdv)) (envOfC "diagonal" (defScope (top 32)) s.heap.objs.size (He.fAd g.K ("diagonal", none)) cdv) (cxOf (L2N.CX P w) P w g.K mg base N_diagonal "diagonal" (defScope (top 32)) (He.fAd g.K ("diagonal", none)) cdv A outer s H E).xe := passes_of (X := cxOf (L2N.CX P w) P w g.K mg base N_diagonal "diagonal" (defScope (top 32)) (He.fAd g.K ("diagonal", none)) cdv A outer s H E) rfl
  exact (cb_cons (cs_par2 1 2 (ps_par (i := 1) (j := 2) (by rfl) nd rfl rfl (by decide) rfl rfl (ed_cons (ed_e (c_fr (cf_lc (pe_lc (own := [("row", 4)]) (by rfl) nd (ci_any rfl (c_var 0 (pv 0))) (blkOk_by (own := [("row", 4)]) (N := N_diagonal) (sc := defScope (top 32)) (by decide +kernel)) (fun _ _ _ _ _ => (cg_name 4 (pg_name (i := 4) nd rfl (by first | exact Or.inl rfl | exact Or.inr rfl)))) (fun _ _ _ _ _ => ts_nil) (fun _ _ _ _ _ => (c_fr (cf_lc (pe_lc (own := [("value", 5)]) (by rfl) nd (ci_any rfl (c_var 4 (pv 4))) (blkOk_by (own := [("value", 5)]) (N := N_diagonal) (by kernel_rfl)) (fun _ _ _ _ _ => (cg_name 5 (pg_name (i := 5) nd rfl (by first | exact Or.inl rfl | exact Or.inr rfl)))) (fun _ _ _ _ _ => ts_nil) (fun _ _ _ _ _ => (c_tup (ca_cons (c_var 5 (pv 5)) (ca_cons c_int ca_nil))))) (by decide))))) (by decide)))) (ed_cons (ed_f (cf_lst ca_nil)) ed_nil)) (by rfl)))
    (cb_cons (cs_while n po (ct_cmp (or_ne (u64 hr)) os_ne (co_e (c_var 1 (pv 1))) (co_e (c_fr (cf_lst ca_nil))) (by first | exact nomark _ | rfl | with_unfolding_all rfl))
    (cb_cons (cs_set 1 (ps_set (i := 1) nd rfl (by first | exact Or.inl rfl | exact Or.inr rfl) (c_call H_with_lead (hr.mono (by decide)) gd (by rfl) tk (co_cons (co_e (c_var 1 (pv 1))) co_nil) (by decide +kernel))))
    (cb_cons (cs_set 3 (ps_set (i := 3) nd rfl (by first | exact Or.inl rfl | exact Or.inr rfl) (c_ix rfl (co_e (c_var 1 (pv 1))) (co_e c_int) (fun _ _ => rfl))))
    (cb_cons (cs_expr (c_app 2 rfl (pe_bm PySem.F.plainAttrs_list PySem.F.slot_list_append PySem.F.type_list_append mt_append (pv 2) (pa_cons (c_ix rfl (co_e (c_var 3 (pv 3))) (co_e c_int) (fun _ _ => rfl)) pa_nil))))
    (cb_one (cs_set 1 (asg_mono (ps_setLc (i := 1) (own := [("row", 4)]) (by rfl) nd rfl rfl (sw_true rfl rfl rfl (by decide +kernel)) (ci_any rfl (c_sl rfl (co_e (c_var 1 (pv 1))) (cp_some c_int) cp_none)) (blkOk_by (own := [("row", 4)]) (N := N_diagonal) (sc := defScope (top 32)) (by decide +kernel)) (fun _ _ _ _ _ => (cg_name 4 (pg_name (i := 4) nd rfl (by first | exact Or.inl rfl | exact Or.inr rfl)))) (fun _ _ _ _ _ => ts_nil) (fun _ _ _ _ _ => (c_call H_behind (hr.mono (by decide)) gd (by rfl) takes0N (co_cons (co_e (c_var 4 (pv 4))) (co_cons (co_e (c_var 3 (pv 3))) co_nil)) (by decide +kernel)))) (fr_of (lc_of (by decide))))))))))
    (cb_one (cs_retB 2 (pv 2)))))
def N_signature_for : List Str := ["rows", "weights", "one"]
theorem sc_signature_for : FnScope N_signature_for ["rows"] (defScope (top 47)) := ⟨rfl, rfl, rfl, by decide +kernel, rfl, by decide +kernel, by decide +kernel⟩
theorem ok_signature_for (n : Nat) (T : Tx g mg) (H_diagonal : Has P w g.K mg base 7 "diagonal" ["rows"] (defArgs (top 32)) (spF g 1 (f_diagonal n))) : Has P w g.K mg base 8 "signature_for" ["rows"] (defArgs (top 47)) (spF g 1 (f_signature_for n)) := by
  obtain ⟨fd, F⟩ := T.says.d.def_ 50 (d := dd "signature_for" 47) rfl
  have F : FunD g.K "signature_for" "signature_for" (defArgs (top 47)) (defBody (top 47)) (defScope (top 47)) [] [] (He.fAd g.K ("signature_for", none)) fd := F
  have nd := sc_signature_for.nd
  refine ⟨_, fd, FnG.by (k := 7) F sc_signature_for rfl rfl (by decide) (fun cdv A outer s H E hr gd => ?_), T.glo 50 rfl, F.kp, F.bindsN (fun _ _ _ _ _ _ us hl => match us, hl with | [_], _ => rfl), _, _, _, _, F⟩
  have tk : L2N.Takes (cxOf (L2N.CX P w) P w g.K mg base N_signature_for "signature_for" (defScope (top 47)) (He.fAd g.K ("signature_for", none)) cdv A outer s H E) (fun cls d _ H => E cls d H) := L2N.takes_of rfl rfl rfl rfl
  exact (cb_cons (cs_set 1 (ps_set (i := 1) nd rfl (by first | exact Or.inl rfl | exact Or.inr rfl) (c_fr (cf_call H_diagonal (hr.mono (by decide)) gd (by rfl) tk (co_cons (co_e (c_var 0 (pv 0))) co_nil) (by decide +kernel)))))
    (cb_one (cs_ret (c_tup (ca_cons (c_cb call_len ls_len (by rfl) T.g_len (by decide +kernel) (co_cons (co_e (c_fr (cf_lc (pe_lc (own := [("one", 2)]) (by rfl) nd (ci_any rfl (c_var 1 (pv 1))) (blkOk_by (own := [("one", 2)]) (N := N_signature_for) (sc := defScope (top 47)) (by decide +kernel)) (fun _ _ _ _ _ => (cg_name 2 (pg_name (i := 2) nd rfl (by first | exact Or.inl rfl | exact Or.inr rfl)))) (fun _ _ _ _ _ => (ts_one (ct_cmp op_gt os_gt (co_e (c_ix rfl (co_e (c_var 2 (pv 2))) (co_e c_int) (fun _ _ => rfl))) (co_e c_int) (by first | exact nomark _ | rfl | with_unfolding_all rfl)))) (fun _ _ _ _ _ => (c_var 2 (pv 2)))) (by decide)))) co_nil) (by decide +kernel) (by decide +kernel)) (ca_cons (c_cb call_len ls_len (by rfl) T.g_len (by decide +kernel) (co_cons (co_e (c_fr (cf_lc (pe_lc (own := [("one", 2)]) (by rfl) nd (ci_any rfl (c_var 1 (pv 1))) (blkOk_by (own := [("one", 2)]) (N := N_signature_for) (sc := defScope (top 47)) (by decide +kernel)) (fun _ _ _ _ _ => (cg_name 2 (pg_name (i := 2) nd rfl (by first | exact Or.inl rfl | exact Or.inr rfl)))) (fun _ _ _ _ _ => (ts_one (ct_cmp op_lt os_lt (co_e (c_ix rfl (co_e (c_var 2 (pv 2))) (co_e c_int) (fun _ _ => rfl))) (co_e c_int) (by first | exact nomark _ | rfl | with_unfolding_all rfl)))) (fun _ _ _ _ _ => (c_var 2 (pv 2)))) (by decide)))) co_nil) (by decide +kernel) (by decide +kernel)) ca_nil))))))
def N_lessened : List Str := ["row", "lead", "step", "last", "own", "other"]
theorem sc_lessened : FnScope N_lessened ["row", "lead", "step", "last"] (defScope (top 30)) := ⟨rfl, rfl, rfl, by decide +kernel, rfl, by decide +kernel, by decide +kernel⟩
theorem ok_lessened (n : Nat) (T : Tx g mg) : Has P w g.K mg base 1 "lessened" ["row", "lead", "step", "last"] (defArgs (top 30)) (spF g 4 (f_lessened n)) := by
  obtain ⟨fd, F⟩ := T.says.d.def_ 51 (d := dd "lessened" 30) rfl
  have F : FunD g.K "lessened" "lessened" (defArgs (top 30)) (defBody (top 30)) (defScope (top 30)) [] [] (He.fAd g.K ("lessened", none)) fd := F
  have nd := sc_lessened.nd
  refine ⟨_, fd, FnG.by (k := 0) F sc_lessened rfl rfl (by decide) (fun cdv A outer s H E hr gd => ?_), T.glo 51 rfl, F.kp, F.bindsN (fun _ _ _ _ _ _ us hl => match us, hl with | [_, _, _, _], _ => rfl), _, _, _, _, F⟩
  exact (cb_one (cs_retF (cf_lc (pe_lc (own := [("own", 4), ("other", 5)]) (by rfl) nd (ci_pairs rfl (by rfl) T.g_zip (ca_cons (c_var 0 (pv 0)) (ca_cons (c_var 1 (pv 1)) ca_nil))) (blkOk_by (own := [("own", 4), ("other", 5)]) (N := N_lessened) (sc := defScope (top 30)) (by decide +kernel)) (fun _ _ _ _ _ => (cg_tup (by rfl) rfl (cgs_cons (cg_name 4 (pg_name (i := 4) nd rfl (by first | exact Or.inl rfl | exact Or.inr rfl))) (cgs_cons (cg_name 5 (pg_name (i := 5) nd rfl (by first | exact Or.inl rfl | exact Or.inr rfl))) cgs_nil)))) (fun _ _ _ _ _ => ts_nil) (fun _ _ _ _ _ => (c_op op_fdivG os_fdiv (co_e (c_op op_sub os_sub (co_e (c_op or_mul os_mul (co_e (c_var 4 (pv 4))) (co_e (c_ix rfl (co_e (c_var 1 (pv 1))) (co_e (c_var 2 (pv 2))) (fun _ _ => rfl))))) (co_e (c_op or_mul os_mul (co_e (c_ix rfl (co_e (c_var 0 (pv 0))) (co_e (c_var 2 (pv 2))) (fun _ _ => rfl))) (co_e (c_var 5 (pv 5))))))) (co_e (c_var 3 (pv 3)))))) (by decide))))
def N_determinant : List Str := ["rows", "left", "sign", "last", "step", "spots", "lead", "index", "row"]
theorem sc_determinant : FnScope N_determinant ["rows"] (defScope (top 29)) := ⟨rfl, rfl, rfl, by decide +kernel, rfl, by decide +kernel, by decide +kernel⟩
theorem ok_determinant (n : Nat) (T : Tx g mg) (H_lessened : Has P w g.K mg base 1 "lessened" ["row", "lead", "step", "last"] (defArgs (top 30)) (spF g 4 (f_lessened n))) : Has P w g.K mg base 2 "determinant" ["rows"] (defArgs (top 29)) (spF g 1 (f_determinant n)) := by
  obtain ⟨fd, F⟩ := T.says.d.def_ 52 (d := dd "determinant" 29) rfl
  have F : FunD g.K "determinant" "determinant" (defArgs (top 29)) (defBody (top 29)) (defScope (top 29)) [] [] (He.fAd g.K ("determinant", none)) fd := F
  have nd := sc_determinant.nd
  refine ⟨_, fd, FnG.by (k := 1) F sc_determinant rfl rfl (by decide) (fun cdv A outer s H E hr gd => ?_), T.glo 52 rfl, F.kp, F.bindsN (fun _ _ _ _ _ _ us hl => match us, hl with | [_], _ => rfl), _, _, _, _, F⟩
  have tk : L2N.Takes (cxOf (L2N.CX P w) P w g.K mg base N_determinant "determinant" (defScope (top 29)) (He.fAd g.K ("determinant", none)) cdv A outer s H E) (fun cls d _ H => E cls d H) := L2N.takes_of rfl rfl rfl rfl
  have po : PassesOwn (model P w) (A.deeper (envOfC "determinant" (defScope (top 29)) s.heap.objs.size (He.fAd g.K ("determinant", none)) cdv)) (envOfC "determinant" (defScope (top 29)) s.heap.objs.size (He.fAd g.K ("determinant", none)) cdv) (cxOf (L2N.CX P w) P w g.K mg base N_determinant "determinant" (defScope (top 29)) (He.fAd g.K ("determinant", none)) cdv A outer s H E).xe := passes_of (X := cxOf (L2N.CX P w) P w g.K mg base N_determinant "determinant" (defScope (top 29)) (He.fAd g.K ("determinant", none)) cdv A outer s H E) rfl
  exact (cb_cons (cs_parT (by rfl) rfl rfl (by decide) (ed_cons (ed_f (cf_lc (pe_lc (own := [("row", 8)]) (by rfl) nd (ci_any rfl (c_var 0 (pv 0))) (blkOk_by (own := [("row", 8)]) (N := N_determinant) (sc := defScope (top 29)) (by decide +kernel)) (fun _ _ _ _ _ => (cg_name 8 (pg_name (i := 8) nd rfl (by first | exact Or.inl rfl | exact Or.inr rfl)))) (fun _ _ _ _ _ => ts_nil) (fun _ _ _ _ _ => (c_fr (cf_ct call_list_of fs_list (by rfl) T.g_list (by decide +kernel) (co_cons (co_e (c_var 8 (pv 8))) co_nil) (by decide +kernel) (by decide +kernel))))) (by decide))) (ed_cons (ed_e c_int) (ed_cons (ed_e c_int) ed_nil))) (pgs_cons (pg_name (i := 1) nd rfl (by first | exact Or.inl rfl | exact Or.inr rfl)) (pgs_cons (pg_name (i := 2) nd rfl (by first | exact Or.inl rfl | exact Or.inr rfl)) (pgs_cons (pg_name (i := 3) nd rfl (by first | exact Or.inl rfl | exact Or.inr rfl)) pgs_nil))))
    (cb_cons (cs_for po (by rfl) (ci_range1 (by rfl) T.g_range (co_cons (co_e (c_op op_sub os_sub (co_e (c_cb call_len ls_len (by rfl) T.g_len (by decide +kernel) (co_cons (co_n 1 (pv 1)) co_nil) (by decide +kernel) (by decide +kernel))) (co_e c_int))) co_nil)) (cg_name 4 (pg_name (i := 4) nd rfl (by first | exact Or.inl rfl | exact Or.inr rfl)))
    (cb_cons (cs_set 5 (asg_mono (ps_setLc (i := 5) (own := [("index", 7)]) (by rfl) nd rfl rfl (sw_true rfl rfl rfl (by decide +kernel)) (ci_range2 (by rfl) T.g_range (co_cons (co_e (c_var 4 (pv 4))) (co_cons (co_e (c_cb call_len ls_len (by rfl) T.g_len (by decide +kernel) (co_cons (co_n 1 (pv 1)) co_nil) (by decide +kernel) (by decide +kernel))) co_nil))) (blkOk_by (own := [("index", 7)]) (N := N_determinant) (sc := defScope (top 29)) (by decide +kernel)) (fun _ _ _ _ _ => (cg_name 7 (pg_name (i := 7) nd rfl (by first | exact Or.inl rfl | exact Or.inr rfl)))) (fun _ _ _ _ _ => (ts_one (ct_cmp (or_ne (u64 hr)) os_ne (co_e (c_ix rfl (co_e (c_ix rfl (co_n 1 (pv 1)) (co_e (c_var 7 (pv 7))) (fun _ _ => rfl))) (co_e (c_var 4 (pv 4))) (fun _ _ => rfl))) (co_e c_int) (by first | exact nomark _ | rfl | with_unfolding_all rfl)))) (fun _ _ _ _ _ => (c_var 7 (pv 7)))) (fr_of (lc_of (by decide)))))
    (cb_cons (cs_if (ct_cmp (or_eq (u64 hr)) os_eq (co_e (c_var 5 (pv 5))) (co_e (c_fr (cf_lst ca_nil))) (by first | exact nomark _ | rfl | with_unfolding_all rfl))
    (cb_one (cs_ret c_int))
    cb_nil)
    (cb_cons (cs_if (ct_cmp (or_ne (u64 hr)) os_ne (co_e (c_ix rfl (co_e (c_var 5 (pv 5))) (co_e c_int) (fun _ _ => rfl))) (co_e (c_var 4 (pv 4))) (by first | exact nomark _ | rfl | with_unfolding_all rfl))
    (cb_cons (cs_asg (c_tup (ca_cons (c_ix rfl (co_n 1 (pv 1)) (co_e (c_ix rfl (co_e (c_var 5 (pv 5))) (co_e c_int) (fun _ _ => rfl))) (fun _ _ => rfl)) (ca_cons (c_ix rfl (co_n 1 (pv 1)) (co_e (c_var 4 (pv 4))) (fun _ _ => rfl)) ca_nil))) (cg_tup (by rfl) rfl (cgs_cons (cg_st (W := fun cls d _ H => E cls d H) 1 (pv 1) (c_var 4 (pv 4))) (cgs_cons (cg_st (W := fun cls d _ H => E cls d H) 1 (pv 1) (c_ix rfl (co_e (c_var 5 (pv 5))) (co_e c_int) (fun _ _ => rfl))) cgs_nil))))
    (cb_one (cs_set 2 (ps_set (i := 2) nd rfl (by first | exact Or.inl rfl | exact Or.inr rfl) (c_un un_neg us_neg (co_e (c_var 2 (pv 2))))))))
    cb_nil)
    (cb_cons (cs_set 6 (ps_set (i := 6) nd rfl (by first | exact Or.inl rfl | exact Or.inr rfl) (c_ix rfl (co_n 1 (pv 1)) (co_e (c_var 4 (pv 4))) (fun _ _ => rfl))))
    (cb_cons (cs_for po (by rfl) (ci_range2 (by rfl) T.g_range (co_cons (co_e (c_op or_add os_add (co_e (c_var 4 (pv 4))) (co_e c_int))) (co_cons (co_e (c_cb call_len ls_len (by rfl) T.g_len (by decide +kernel) (co_cons (co_n 1 (pv 1)) co_nil) (by decide +kernel) (by decide +kernel))) co_nil))) (cg_name 7 (pg_name (i := 7) nd rfl (by first | exact Or.inl rfl | exact Or.inr rfl)))
    (cb_one (cs_asg (c_fr (cf_call H_lessened (hr.mono (by decide)) gd (by rfl) tk (co_cons (co_e (c_ix rfl (co_n 1 (pv 1)) (co_e (c_var 7 (pv 7))) (fun _ _ => rfl))) (co_cons (co_e (c_var 6 (pv 6))) (co_cons (co_e (c_var 4 (pv 4))) (co_cons (co_e (c_var 3 (pv 3))) co_nil)))) (by decide +kernel))) (cg_st (W := fun cls d _ H => E cls d H) 1 (pv 1) (c_var 7 (pv 7))))))
    (cb_one (cs_set 3 (ps_set (i := 3) nd rfl (by first | exact Or.inl rfl | exact Or.inr rfl) (c_ix rfl (co_e (c_var 6 (pv 6))) (co_e (c_var 4 (pv 4))) (fun _ _ => rfl)))))))))))
    (cb_one (cs_ret (c_op or_mul os_mul (co_e (c_var 2 (pv 2))) (co_e (c_ix rfl (co_e (c_ix rfl (co_n 1 (pv 1)) (co_e (c_un un_neg us_neg (co_e c_int))) (fun _ _ => rfl))) (co_e (c_un un_neg us_neg (co_e c_int))) (fun _ _ => rfl))))))))
def N_kind_for : List Str := ["signature", "size", "plus", "minus"]
theorem sc_kind_for : FnScope N_kind_for ["signature", "size"] (defScope (top 48)) := ⟨rfl, rfl, rfl, by decide +kernel, rfl, by decide +kernel, by decide +kernel⟩
theorem ok_kind_for (n : Nat) (T : Tx g mg) : Has P w g.K mg base 1 "kind_for" ["signature", "size"] (defArgs (top 48)) (spF g 2 (f_kind_for n)) := by
  obtain ⟨fd, F⟩ := T.says.d.def_ 53 (d := dd "kind_for" 48) rfl
  have F : FunD g.K "kind_for" "kind_for" (defArgs (top 48)) (defBody (top 48)) (defScope (top 48)) [] [] (He.fAd g.K ("kind_for", none)) fd := F
  have nd := sc_kind_for.nd
  refine ⟨_, fd, FnG.by (k := 0) F sc_kind_for rfl rfl (by decide) (fun cdv A outer s H E hr gd => ?_), T.glo 53 rfl, F.kp, F.bindsN (fun _ _ _ _ _ _ us hl => match us, hl with | [_, _], _ => rfl), _, _, _, _, F⟩
  exact (cb_cons (cs_asg (c_var 0 (pv 0)) (cg_tup (by rfl) rfl (cgs_cons (cg_name 2 (pg_name (i := 2) nd rfl (by first | exact Or.inl rfl | exact Or.inr rfl))) (cgs_cons (cg_name 3 (pg_name (i := 3) nd rfl (by first | exact Or.inl rfl | exact Or.inr rfl))) cgs_nil))))
    (cb_cons (cs_if (ct_cmp op_lt os_lt (co_e (c_op or_add os_add (co_e (c_var 2 (pv 2))) (co_e (c_var 3 (pv 3))))) (co_e (c_var 1 (pv 1))) (by first | exact nomark _ | rfl | with_unfolding_all rfl))
    (cb_one (cs_ret c_str))
    cb_nil)
    (cb_cons (cs_if (ct_cmp (or_eq (u64 hr)) os_eq (co_e (c_var 3 (pv 3))) (co_e c_int) (by first | exact nomark _ | rfl | with_unfolding_all rfl))
    (cb_one (cs_ret c_str))
    cb_nil)
    (cb_one (cs_ret (c_if (ct_cmp op_gt os_gt (co_e (c_var 2 (pv 2))) (co_e c_int) (by first | exact nomark _ | rfl | with_unfolding_all rfl)) c_str c_str))))))
def N_Form___init__ : List Str := ["self", "coefficients", "rows", "signature", "own"]
theorem sc_Form___init__ : FnScope N_Form___init__ ["self", "coefficients"] (defScope (inClass (top 49) 0)) := ⟨rfl, rfl, rfl, by decide +kernel, rfl, by decide +kernel, by decide +kernel⟩
theorem ok_Form___init__ (n : Nat) (T : Tx g mg) (H_check_coefficients : Has P w g.K mg base 3 "check_coefficients" ["values"] (defArgs (top 44)) (spF g 1 (f_check_coefficients n))) (H_table_for : Has P w g.K mg base 2 "table_for" ["coefficients"] (defArgs (top 42)) (spF g 1 (f_table_for n))) (H_signature_for : Has P w g.K mg base 8 "signature_for" ["rows"] (defArgs (top 47)) (spF g 1 (f_signature_for n))) (H_determinant : Has P w g.K mg base 2 "determinant" ["rows"] (defArgs (top 29)) (spF g 1 (f_determinant n))) (H_kind_for : Has P w g.K mg base 1 "kind_for" ["signature", "size"] (defArgs (top 48)) (spF g 2 (f_kind_for n))) : HasM P w g.K mg base 9 (mAt "Form" "__init__" g.K) "__init__" "Form.__init__" ["self", "coefficients"] (defArgs (inClass (top 49) 0)) (spF g 2 (f_Form___init__ n)) := by
  obtain ⟨fd, F⟩ := T.sp.def_ 5 (d := dp (mAt "Form" "__init__") "__init__" "Form.__init__" (inClass (top 49) 0)) rfl
  have F : FunD g.K "__init__" "Form.__init__" (defArgs (inClass (top 49) 0)) (defBody (inClass (top 49) 0)) (defScope (inClass (top 49) 0)) [] [] (mAt "Form" "__init__" g.K) fd := F
  have nd := sc_Form___init__.nd
  refine ⟨fd, FnG.by (k := 8) F sc_Form___init__ rfl rfl (by decide) (fun cdv A outer s H E hr gd => ?_), F.bindsN (fun _ _ _ _ _ _ us hl => match us, hl with | [_, _], _ => rfl), _, _, F⟩
  have tk : L2N.Takes (cxOf (L2N.CX P w) P w g.K mg base N_Form___init__ "Form.__init__" (defScope (inClass (top 49) 0)) (mAt "Form" "__init__" g.K) cdv A outer s H E) (fun cls d _ H => E cls d H) := L2N.takes_of rfl rfl rfl rfl
  exact (cb_cons (cs_expr (c_call H_check_coefficients (hr.mono (by decide)) gd (by rfl) tk (co_cons (co_e (c_var 1 (pv 1))) co_nil) (by decide +kernel)))
    (cb_cons (cs_set 2 (ps_set (i := 2) nd rfl (by first | exact Or.inl rfl | exact Or.inr rfl) (c_call H_table_for (hr.mono (by decide)) gd (by rfl) tk (co_cons (co_e (c_var 1 (pv 1))) co_nil) (by decide +kernel))))
    (cb_cons (cs_set 3 (ps_set (i := 3) nd rfl (by first | exact Or.inl rfl | exact Or.inr rfl) (c_call H_signature_for (hr.mono (by decide)) gd (by rfl) tk (co_cons (co_e (c_var 2 (pv 2))) co_nil) (by decide +kernel))))
    (cb_cons (cs_fld T.nx_Form_held rfl (pv 0) (c_tup (ca_cons (c_var 1 (pv 1)) (ca_cons (c_var 2 (pv 2)) (ca_cons (c_call H_determinant (hr.mono (by decide)) gd (by rfl) tk (co_cons (co_e (c_var 2 (pv 2))) co_nil) (by decide +kernel)) (ca_cons (c_var 3 (pv 3)) (ca_cons (c_call H_kind_for (hr.mono (by decide)) gd (by rfl) tk (co_cons (co_e (c_var 3 (pv 3))) (co_cons (co_e (c_cb call_len ls_len (by rfl) T.g_len (by decide +kernel) (co_cons (co_e (c_var 2 (pv 2))) co_nil) (by decide +kernel) (by decide +kernel))) co_nil)) (by decide +kernel)) ca_nil)))))) rfl)
    (cb_one (cs_fld T.nx_Form_words rfl (pv 0) (c_join rfl c_str (c_fr (cf_lc (pe_lc (own := [("own", 4)]) (by rfl) nd (ci_any rfl (c_var 1 (pv 1))) (blkOk_by (own := [("own", 4)]) (N := N_Form___init__) (sc := defScope (inClass (top 49) 0)) (by decide +kernel)) (fun _ _ _ _ _ => (cg_name 4 (pg_name (i := 4) nd rfl (by first | exact Or.inl rfl | exact Or.inr rfl)))) (fun _ _ _ _ _ => ts_nil) (fun _ _ _ _ _ => (c_ct call_str_int ls_str (by rfl) T.g_str (by decide +kernel) (co_cons (co_e (c_var 4 (pv 4))) co_nil) (by decide +kernel) (by decide +kernel)))) (by decide)))) rfl))))))
def N__law_right : List Str := ["_law_bag_here", "_law_turn", "_law_odd", "_law_bad", "_law_numbers", "_law_due", "_law_mine", "_law_number", "_law_each"]
theorem sc__law_right : FnScope N__law_right ["_law_bag_here"] (defScope (top 89)) := ⟨rfl, rfl, rfl, by decide +kernel, rfl, by decide +kernel, by decide +kernel⟩
theorem ok__law_right (n : Nat) (T : Tx g mg) (ho : g.own = none) (TB : TBs mg base g) (H__law_one : Has P w g.K mg base 2 "_law_one" ["_law_bag_here", "_law_some"] (defArgs (top 83)) (spF g 2 (f__law_one n))) (H__law_calls : Has P w g.K mg base 15 "_law_calls" ["_law_odd", "_law_bad"] (defArgs (top 87)) (spF g 2 (f__law_calls n))) (H__law_all_calls : Has P w g.K mg base 16 "_law_all_calls" ["_law_odd"] (defArgs (top 88)) (spF g 1 (f__law_all_calls n))) (H__law_odd_forms : Has P w g.K mg base 1 "_law_odd_forms" [] (defArgs (top 84)) (spF g 0 (f__law_odd_forms n))) (H_Form___init__ : HasM P w g.K mg base 9 (mAt "Form" "__init__" g.K) "__init__" "Form.__init__" ["self", "coefficients"] (defArgs (inClass (top 49) 0)) (spF g 2 (f_Form___init__ n))) (H__law_draw : Has P w g.K mg base 1 "_law_draw" ["_law_bag_here", "_law_wide"] (defArgs (top 82)) (spF g 2 (f__law_draw n))) (H_gives : Has P w g.K mg base 12 "gives" ["form", "number"] (defArgs (top 70)) (spF g 2 (f_gives n))) : Has P w g.K mg base 17 "_law_right" ["_law_bag_here"] (defArgs (top 89)) (spF g 1 (f__law_right n)) := by
  obtain ⟨fd, F⟩ := T.says.d.def_ 54 (d := dd "_law_right" 89) rfl
  have F : FunD g.K "_law_right" "_law_right" (defArgs (top 89)) (defBody (top 89)) (defScope (top 89)) [] [] (He.fAd g.K ("_law_right", none)) fd := F
  have nd := sc__law_right.nd
  refine ⟨_, fd, FnG.by (k := 16) F sc__law_right rfl rfl (by decide) (fun cdv A outer s H E hr gd => ?_), T.glo 54 rfl, F.kp, F.bindsN (fun _ _ _ _ _ _ us hl => match us, hl with | [_], _ => rfl), _, _, _, _, F⟩
  have tk : L2N.Takes (cxOf (L2N.CX P w) P w g.K mg base N__law_right "_law_right" (defScope (top 89)) (He.fAd g.K ("_law_right", none)) cdv A outer s H E) (fun cls d _ H => E cls d H) := L2N.takes_of rfl rfl rfl rfl
  have po : PassesOwn (model P w) (A.deeper (envOfC "_law_right" (defScope (top 89)) s.heap.objs.size (He.fAd g.K ("_law_right", none)) cdv)) (envOfC "_law_right" (defScope (top 89)) s.heap.objs.size (He.fAd g.K ("_law_right", none)) cdv) (cxOf (L2N.CX P w) P w g.K mg base N__law_right "_law_right" (defScope (top 89)) (He.fAd g.K ("_law_right", none)) cdv A outer s H E).xe := passes_of (X := cxOf (L2N.CX P w) P w g.K mg base N__law_right "_law_right" (defScope (top 89)) (He.fAd g.K ("_law_right", none)) cdv A outer s H E) rfl
  exact (cb_cons (cs_for po (by rfl) (ci_range1 (by rfl) T.g_range (co_cons (co_e c_int) co_nil)) (cg_name 1 (pg_name (i := 1) nd rfl (by first | exact Or.inl rfl | exact Or.inr rfl)))
    (cb_cons (cs_set 2 (ps_set (i := 2) nd rfl (by first | exact Or.inl rfl | exact Or.inr rfl) (c_call H__law_one (hr.mono (by decide)) gd (by rfl) tk (co_cons (co_n 0 (pv 0)) (co_cons (co_e (c_fr (cf_lst (ca_cons c_non (ca_cons (c_tup (ca_cons c_int (ca_cons c_int (ca_cons c_int ca_nil)))) (ca_cons c_str (ca_cons c_int (ca_cons (c_fr (cf_lst ca_nil)) (ca_cons c_bl (ca_cons c_dn ca_nil)))))))))) co_nil)) (by decide +kernel))))
    (cb_cons (cs_set 3 (ps_set (i := 3) nd rfl (by first | exact Or.inl rfl | exact Or.inr rfl) (c_call H__law_one (hr.mono (by decide)) gd (by rfl) tk (co_cons (co_n 0 (pv 0)) (co_cons (co_e (c_fr (cf_lst (ca_cons c_non (ca_cons c_int (ca_cons (c_un un_neg us_neg (co_e c_int)) (ca_cons c_int (ca_cons c_bl (ca_cons c_str (ca_cons (c_tup (ca_cons c_int ca_nil)) (ca_cons (c_op op_pow os_pow (co_e c_int) (co_e c_int)) ca_nil))))))))))) co_nil)) (by decide +kernel))))
    (cb_cons (cs_if (ct_cmp (or_ne (u64 hr)) os_ne (co_e (c_fr (cf_op op_cat fs_cat (co_e (c_fr (cf_call H__law_calls (hr.mono (by decide)) gd (by rfl) tk (co_cons (co_e (c_var 2 (pv 2))) (co_cons (co_e (c_var 3 (pv 3))) co_nil)) (by decide +kernel)))) (co_e (c_fr (cf_call H__law_all_calls (hr.mono (by decide)) gd (by rfl) tk (co_cons (co_e (c_var 2 (pv 2))) co_nil) (by decide +kernel))))))) (co_e (c_fr (cf_op op_rep fs_rep (co_e (c_fr (cf_lst (ca_cons (c_fr (cf_lst (ca_cons c_str (ca_cons (c_cb (call_reprD (u65 hr) gd) ls_repr (by rfl) T.g_repr (by decide +kernel) (co_cons (co_e (c_var 2 (pv 2))) co_nil) (by decide +kernel) (by decide +kernel)) ca_nil)))) ca_nil)))) (co_e c_int)))) (by first | exact nomark _ | rfl | with_unfolding_all rfl))
    (cb_one (cs_ret c_bl))
    cb_nil)
    (cb_cons (cs_asg (c_call H__law_one (hr.mono (by decide)) gd (by rfl) tk (co_cons (co_n 0 (pv 0)) (co_cons (co_e (c_fr (cf_call0 H__law_odd_forms (hr.mono (by decide)) gd (by rfl) tk (by decide +kernel)))) co_nil)) (by decide +kernel)) (cg_lst (by rfl) (cgs_cons (cg_name 4 (pg_name (i := 4) nd rfl (by first | exact Or.inl rfl | exact Or.inr rfl))) (cgs_cons (cg_name 5 (pg_name (i := 5) nd rfl (by first | exact Or.inl rfl | exact Or.inr rfl))) cgs_nil))))
    (cb_cons (cs_set 6 (ps_set (i := 6) nd rfl (by first | exact Or.inl rfl | exact Or.inr rfl) (c_makeM (c0 := 100) T.ca_Form T.cf_Form T.mk_Form H_Form___init__ (ml_cons ml_nil) rfl (hr.mono (by decide)) gd (by rfl) T.gl_Form tk (ca_cons (c_var 4 (pv 4)) ca_nil) (by decide +kernel))))
    (cb_cons (cs_if (ct_cmp (or_ne (u64 hr)) os_ne (co_e (c_fr (cf_call H__law_calls (hr.mono (by decide)) gd (by rfl) tk (co_cons (co_e (c_var 6 (pv 6))) (co_cons (co_e (c_var 3 (pv 3))) co_nil)) (by decide +kernel)))) (co_e (c_fr (cf_op op_rep fs_rep (co_e (c_fr (cf_lst (ca_cons (c_fr (cf_lst (ca_cons c_str (ca_cons (c_cb (call_reprD (u65 hr) gd) ls_repr (by rfl) T.g_repr (by decide +kernel) (co_cons (co_e (c_var 3 (pv 3))) co_nil) (by decide +kernel) (by decide +kernel)) ca_nil)))) ca_nil)))) (co_e c_int)))) (by first | exact nomark _ | rfl | with_unfolding_all rfl))
    (cb_one (cs_ret c_bl))
    cb_nil)
    (cb_cons (cs_if (ct_cmp (or_ne (u64 hr)) os_ne (co_e (c_fr (cf_op op_cat fs_cat (co_e (c_fr (cf_call H__law_calls (hr.mono (by decide)) gd (by rfl) tk (co_cons (co_e (c_var 6 (pv 6))) (co_cons (co_e (c_op or_add os_add (co_e c_int) (co_e (c_call H__law_draw (hr.mono (by decide)) gd (by rfl) tk (co_cons (co_n 0 (pv 0)) (co_cons (co_e c_int) co_nil)) (by decide +kernel))))) co_nil)) (by decide +kernel)))) (co_e (c_fr (cf_call H__law_all_calls (hr.mono (by decide)) gd (by rfl) tk (co_cons (co_e (c_var 6 (pv 6))) co_nil) (by decide +kernel))))))) (co_e (c_fr (cf_op op_rep fs_rep (co_e (c_fr (cf_lst (ca_cons (c_var 5 (pv 5)) ca_nil)))) (co_e c_int)))) (by first | exact nomark _ | rfl | with_unfolding_all rfl))
    (cb_one (cs_ret c_bl))
    cb_nil)
    (cb_one (cs_if (ct_cmp (or_ne (u64 hr)) os_ne (co_e (c_fr (cf_lc (pe_lc (own := [("_law_each", 8)]) (by rfl) nd (ci_any rfl (c_fr (cf_call H__law_calls (hr.mono (by decide)) gd (by rfl) tk (co_cons (co_e (c_makeM (c0 := 100) T.ca_Form T.cf_Form T.mk_Form H_Form___init__ (ml_cons ml_nil) rfl (hr.mono (by decide)) gd (by rfl) T.gl_Form tk (ca_cons (c_tup (ca_cons c_int (ca_cons c_int (ca_cons c_int ca_nil)))) ca_nil) (by decide +kernel))) (co_cons (co_e (c_call H__law_one (hr.mono (by decide)) gd (by rfl) tk (co_cons (co_n 0 (pv 0)) (co_cons (co_e (c_fr (cf_lst (ca_cons c_int (ca_cons c_int (ca_cons c_int ca_nil)))))) co_nil)) (by decide +kernel))) co_nil)) (by decide +kernel)))) (blkOk_by (own := [("_law_each", 8)]) (N := N__law_right) (sc := defScope (top 89)) (by decide +kernel)) (fun _ _ _ _ _ => (cg_name 8 (pg_name (i := 8) nd rfl (by first | exact Or.inl rfl | exact Or.inr rfl)))) (fun _ _ _ _ _ => ts_nil) (fun _ _ _ _ _ => (c_ix rfl (co_e (c_var 8 (pv 8))) (co_e c_int) (fun _ _ => rfl)))) (by decide)))) (co_e (c_fr (cf_op op_rep fs_rep (co_e (c_fr (cf_lst (ca_cons c_str ca_nil)))) (co_e c_int)))) (by first | exact nomark _ | rfl | with_unfolding_all rfl))
    (cb_one (cs_ret c_bl))
    cb_nil))))))))))
    (cb_cons (cs_if (ct_cmp (or_ne (u64 hr)) os_ne (co_e (c_fr (cf_lc (pe_lc (own := [("_law_number", 7)]) (by rfl) nd (ci_any rfl (c_fr (cf_lst (ca_cons c_int (ca_cons c_int (ca_cons c_int ca_nil)))))) (blkOk_by (own := [("_law_number", 7)]) (N := N__law_right) (sc := defScope (top 89)) (by decide +kernel)) (fun _ _ _ _ _ => (cg_name 7 (pg_name (i := 7) nd rfl (by first | exact Or.inl rfl | exact Or.inr rfl)))) (fun _ _ _ _ _ => ts_nil) (fun _ _ _ _ _ => (c_call H_gives (hr.mono (by decide)) gd (by rfl) takes0N (co_cons (co_e (c_makeM (c0 := 100) T.ca_Form T.cf_Form T.mk_Form H_Form___init__ (ml_cons ml_nil) rfl (hr.mono (by decide)) gd (by rfl) T.gl_Form takes0N (ca_cons (c_tup (ca_cons c_int (ca_cons c_int (ca_cons c_int ca_nil)))) ca_nil) (by decide +kernel))) (co_cons (co_e (c_var 7 (pv 7))) co_nil)) (by decide +kernel)))) (by decide)))) (co_e (c_fr (cf_lst (ca_cons c_bl (ca_cons c_bl (ca_cons c_bl ca_nil)))))) (by first | exact nomark _ | rfl | with_unfolding_all rfl))
    (cb_one (cs_ret c_bl))
    cb_nil)
    (cb_one (cs_ret (c_cmp op_isBl os_isB (co_e (c_call H_gives (hr.mono (by decide)) gd (by rfl) tk (co_cons (co_e (c_makeM (c0 := 100) T.ca_Form T.cf_Form T.mk_Form H_Form___init__ (ml_cons ml_nil) rfl (hr.mono (by decide)) gd (by rfl) T.gl_Form tk (ca_cons (c_tup (ca_cons c_int (ca_cons c_int (ca_cons c_int (ca_cons c_int (ca_cons c_int (ca_cons c_int (ca_cons c_int (ca_cons c_int (ca_cons c_int (ca_cons c_int (ca_cons c_int (ca_cons c_int (ca_cons c_int (ca_cons c_int (ca_cons c_int ca_nil)))))))))))))))) ca_nil) (by decide +kernel))) (co_cons (co_e c_int) co_nil)) (by decide +kernel))) (co_e c_bl) (by first | exact nomark _ | rfl | with_unfolding_all rfl))))))
def N__law_bag : List Str := ["_law_script", "_law_k", "_law_held_cell", "_law_seed", "_law_this", "_law_held_signs"]
theorem sc__law_bag : FnScope N__law_bag ["_law_script", "_law_k"] (defScope (top 81)) := ⟨rfl, rfl, rfl, by decide +kernel, rfl, by decide +kernel, by decide +kernel⟩
theorem ok__law_bag (n : Nat) (T : Tx g mg) : Has P w g.K mg base 1 "_law_bag" ["_law_script", "_law_k"] (defArgs (top 81)) (spF g 2 (f__law_bag n)) := by
  obtain ⟨fd, F⟩ := T.says.d.def_ 55 (d := dd "_law_bag" 81) rfl
  have F : FunD g.K "_law_bag" "_law_bag" (defArgs (top 81)) (defBody (top 81)) (defScope (top 81)) [] [] (He.fAd g.K ("_law_bag", none)) fd := F
  have nd := sc__law_bag.nd
  refine ⟨_, fd, FnG.by (k := 0) F sc__law_bag rfl rfl (by decide) (fun cdv A outer s H E hr gd => ?_), T.glo 55 rfl, F.kp, F.bindsN (fun _ _ _ _ _ _ us hl => match us, hl with | [_, _], _ => rfl), _, _, _, _, F⟩
  have po : PassesOwn (model P w) (A.deeper (envOfC "_law_bag" (defScope (top 81)) s.heap.objs.size (He.fAd g.K ("_law_bag", none)) cdv)) (envOfC "_law_bag" (defScope (top 81)) s.heap.objs.size (He.fAd g.K ("_law_bag", none)) cdv) (cxOf (L2N.CX P w) P w g.K mg base N__law_bag "_law_bag" (defScope (top 81)) (He.fAd g.K ("_law_bag", none)) cdv A outer s H E).xe := passes_of (X := cxOf (L2N.CX P w) P w g.K mg base N__law_bag "_law_bag" (defScope (top 81)) (He.fAd g.K ("_law_bag", none)) cdv A outer s H E) rfl
  exact (cb_cons (cs_par2 2 3 (ps_par (i := 2) (j := 3) (by rfl) nd rfl rfl (by decide) rfl rfl (ed_cons (ed_e (c_if (ct_cmp op_lt os_lt (co_e (c_var 1 (pv 1))) (co_e (c_cb call_len ls_len (by rfl) T.g_len (by decide +kernel) (co_cons (co_e (c_var 0 (pv 0))) co_nil) (by decide +kernel) (by decide +kernel))) (by first | exact nomark _ | rfl | with_unfolding_all rfl)) (c_ct call_int1 ls_int (by rfl) T.g_int (by decide +kernel) (co_cons (co_e (c_ix rfl (co_e (c_var 0 (pv 0))) (co_e (c_var 1 (pv 1))) (fun _ _ => rfl))) co_nil) (by decide +kernel) (by decide +kernel)) c_int)) (ed_cons (ed_e (c_op or_mul os_mul (co_e c_int) (co_e (c_op or_add os_add (co_e (c_var 1 (pv 1))) (co_e c_int))))) ed_nil)) (by rfl)))
    (cb_cons (cs_for po (by rfl) (ci_any rfl (c_fr (cf_sl rfl (co_e (c_var 0 (pv 0))) cp_none (cp_some c_int)))) (cg_name 4 (pg_name (i := 4) nd rfl (by first | exact Or.inl rfl | exact Or.inr rfl)))
    (cb_one (cs_set 3 (ps_set (i := 3) nd rfl (by first | exact Or.inl rfl | exact Or.inr rfl) (c_op op_modN os_mod (co_e (c_ct call_int1 ls_int (by rfl) T.g_int (by decide +kernel) (co_cons (co_e (c_op or_add os_add (co_e (c_op or_add os_add (co_e (c_op or_mul os_mul (co_e (c_var 3 (pv 3))) (co_e c_int))) (co_e (c_op op_modN os_mod (co_e (c_ct call_int1 ls_int (by rfl) T.g_int (by decide +kernel) (co_cons (co_e (c_var 4 (pv 4))) co_nil) (by decide +kernel) (by decide +kernel))) (co_e c_int))))) (co_e (c_op or_mul os_mul (co_e c_int) (co_e (c_var 1 (pv 1))))))) co_nil) (by decide +kernel) (by decide +kernel))) (co_e c_int))))))
    (cb_cons (cs_set 5 (ps_set (i := 5) nd rfl (by first | exact Or.inl rfl | exact Or.inr rfl) (c_if (ct_w (cw_or (ct_cmp op_lt os_lt (co_e (c_var 2 (pv 2))) (co_e c_int) (by first | exact nomark _ | rfl | with_unfolding_all rfl)) (cw_or1 (ct_cmp op_ge os_ge (co_e (c_var 2 (pv 2))) (co_e (c_op op_pow os_pow (co_e c_int) (co_e c_int))) (by first | exact nomark _ | rfl | with_unfolding_all rfl))))) (c_cb call_abs ls_abs (by rfl) T.g_abs (by decide +kernel) (co_cons (co_e (c_var 2 (pv 2))) co_nil) (by decide +kernel) (by decide +kernel)) c_int)))
    (cb_one (cs_retF (cf_lst (ca_cons (c_var 5 (pv 5)) (ca_cons (c_op op_modN os_mod (co_e (c_ct call_int1 ls_int (by rfl) T.g_int (by decide +kernel) (co_cons (co_e (c_op or_add os_add (co_e (c_var 3 (pv 3))) (co_e (c_op or_mul os_mul (co_e c_int) (co_e (c_op op_modN os_mod (co_e (c_ct call_int1 ls_int (by rfl) T.g_int (by decide +kernel) (co_cons (co_e (c_var 2 (pv 2))) co_nil) (by decide +kernel) (by decide +kernel))) (co_e c_int))))))) co_nil) (by decide +kernel) (by decide +kernel))) (co_e c_int)) (ca_cons c_int ca_nil)))))))))
def N_law : List Str := ["_law_script", "_law_k"]
theorem sc_law : FnScope N_law ["_law_script"] (defScope (top 90)) := ⟨rfl, rfl, rfl, by decide +kernel, rfl, by decide +kernel, by decide +kernel⟩
theorem ok_law (n : Nat) (T : Tx g mg) (ho : g.own = none) (TB : TBs mg base g) (H__law_right : Has P w g.K mg base 17 "_law_right" ["_law_bag_here"] (defArgs (top 89)) (spF g 1 (f__law_right n))) (H__law_bag : Has P w g.K mg base 1 "_law_bag" ["_law_script", "_law_k"] (defArgs (top 81)) (spF g 2 (f__law_bag n))) : Has P w g.K mg base 18 "law" ["_law_script"] (defArgs (top 90)) (spF g 1 (f_law n)) := by
  obtain ⟨fd, F⟩ := T.says.d.def_ 56 (d := dd "law" 90) rfl
  have F : FunD g.K "law" "law" (defArgs (top 90)) (defBody (top 90)) (defScope (top 90)) [] [] (He.fAd g.K ("law", none)) fd := F
  have nd := sc_law.nd
  refine ⟨_, fd, FnG.by (k := 17) F sc_law rfl rfl (by decide) (fun cdv A outer s H E hr gd => ?_), T.glo 56 rfl, F.kp, F.bindsN (fun _ _ _ _ _ _ us hl => match us, hl with | [_], _ => rfl), _, _, _, _, F⟩
  exact (cb_one (cs_ret (c_cb (cr_all rfl) ls_all (by rfl) T.g_all (by decide +kernel) (co_cons (co_e (c_fr (cf_lc (pe_lc (own := [("_law_k", 1)]) (by rfl) nd (ci_range1 (by rfl) T.g_range (co_cons (co_e (c_cb (call_max2 rfl) ls_max2 (by rfl) T.g_max (by decide +kernel) (co_cons (co_e c_int) (co_cons (co_e (c_cb (call_min2 rfl) ls_min2 (by rfl) T.g_min (by decide +kernel) (co_cons (co_e (c_cb call_len ls_len (by rfl) T.g_len (by decide +kernel) (co_cons (co_e (c_var 0 (pv 0))) co_nil) (by decide +kernel) (by decide +kernel))) (co_cons (co_e c_int) co_nil)) (by decide +kernel) (by decide +kernel))) co_nil)) (by decide +kernel) (by decide +kernel))) co_nil)) (blkOk_by (own := [("_law_k", 1)]) (N := N_law) (sc := defScope (top 90)) (by decide +kernel)) (fun _ _ _ _ _ => (cg_name 1 (pg_name (i := 1) nd rfl (by first | exact Or.inl rfl | exact Or.inr rfl)))) (fun _ _ _ _ _ => ts_nil) (fun _ _ _ _ _ => (c_call1 H__law_right (hr.mono (by decide)) gd (by rfl) takes0N (cf_call H__law_bag (hr.mono (by decide)) gd (by rfl) takes0N (co_cons (co_e (c_var 0 (pv 0))) (co_cons (co_e (c_var 1 (pv 1))) co_nil)) (by decide +kernel)) (by decide +kernel)))) (by decide)))) co_nil) (by decide +kernel) (by decide +kernel))))
end
theorem all_has {P : Program} {w : World} {mg : Str → Option Value} {base : Heap} {g : GC} (n : Nat) (T : Tx g mg) (ho : g.own = none) (TB : TBs mg base g) : Has P w g.K mg base 18 "law" ["_law_script"] (defArgs (top 90)) (spF g 1 (f_law n)) := by
  have H__law_draw := ok__law_draw (P := P) (w := w) (base := base) n T
  have H__law_one := ok__law_one (P := P) (w := w) (base := base) n T H__law_draw
  have H__law_sort := ok__law_sort (P := P) (w := w) (base := base) n T
  have H__law_answer := ok__law_answer (P := P) (w := w) (base := base) n T (fun L => ok__law_sort n (T.wl L))
  have H_check_form := ok_check_form (P := P) (w := w) (base := base) n T
  have H_is_integer := ok_is_integer (P := P) (w := w) (base := base) n T
  have H_is_between := ok_is_between (P := P) (w := w) (base := base) n T H_is_integer
  have H_Form_kind := ok_Form_kind (P := P) (w := w) (base := base) n T
  have H_first_beyond := ok_first_beyond (P := P) (w := w) (base := base) n T
  have H_Form_coefficients := ok_Form_coefficients (P := P) (w := w) (base := base) n T
  have H_check_small := ok_check_small (P := P) (w := w) (base := base) n T H_Form_kind H_first_beyond H_Form_coefficients
  have H_check_number := ok_check_number (P := P) (w := w) (base := base) n T H_check_form H_is_between H_check_small
  have H_unit_table := ok_unit_table (P := P) (w := w) (base := base) n T
  have H_nearest_part := ok_nearest_part (P := P) (w := w) (base := base) n T
  have H_product := ok_product (P := P) (w := w) (base := base) n T
  have H_combined := ok_combined (P := P) (w := w) (base := base) n T
  have H_shorter := ok_shorter (P := P) (w := w) (base := base) n T H_nearest_part H_product H_combined
  have H_small_base := ok_small_base (P := P) (w := w) (base := base) n T H_unit_table H_shorter H_product
  have H_squares_of := ok_squares_of (P := P) (w := w) (base := base) n T
  have H_table_of := ok_table_of (P := P) (w := w) (base := base) n T H_product
  have H_root_of := ok_root_of (P := P) (w := w) (base := base) n T
  have H_exact_heads := ok_exact_heads (P := P) (w := w) (base := base) n T H_root_of
  have H_spread := ok_spread (P := P) (w := w) (base := base) n T H_root_of
  have H_writings_from := ok_writings_from (P := P) (w := w) (base := base) n T H_exact_heads H_spread 6
  have H_vectors_of := ok_vectors_of (P := P) (w := w) (base := base) n T H_small_base H_squares_of H_table_of H_combined H_writings_from
  have H_Form_table := ok_Form_table (P := P) (w := w) (base := base) n T
  have H_is_given := ok_is_given (P := P) (w := w) (base := base) n T H_vectors_of H_Form_table
  have H_gives := ok_gives (P := P) (w := w) (base := base) n T H_check_number H_is_given
  have H_all_writings := ok_all_writings (P := P) (w := w) (base := base) n T H_vectors_of H_Form_table
  have H_writings := ok_writings (P := P) (w := w) (base := base) n T H_check_number H_all_writings
  have H_count_writings := ok_count_writings (P := P) (w := w) (base := base) n T H_check_number H_all_writings
  have H_common_divisor := ok_common_divisor (P := P) (w := w) (base := base) n T
  have H_common_of := ok_common_of (P := P) (w := w) (base := base) n T H_common_divisor
  have H_count_proper := ok_count_proper (P := P) (w := w) (base := base) n T H_check_number H_all_writings H_common_of
  have H_missed := ok_missed (P := P) (w := w) (base := base) n T H_check_number H_is_given
  have H__law_calls := ok__law_calls (P := P) (w := w) (base := base) n T ho TB H__law_answer H_gives H_writings H_count_writings H_count_proper H_missed
  have H_pairs_of := ok_pairs_of (P := P) (w := w) (base := base) n T
  have H_Form_unknowns := ok_Form_unknowns (P := P) (w := w) (base := base) n T
  have H_Form_is_even_between := ok_Form_is_even_between (P := P) (w := w) (base := base) n T H_pairs_of H_Form_unknowns
  have H_keys_of := ok_keys_of (P := P) (w := w) (base := base) n T H_Form_is_even_between
  have H_first_missed := ok_first_missed (P := P) (w := w) (base := base) n T H_keys_of H_is_given
  have H_gives_all := ok_gives_all (P := P) (w := w) (base := base) n T H_check_form H_check_small H_first_missed
  have H_least_missed := ok_least_missed (P := P) (w := w) (base := base) n T H_check_form H_check_small H_first_missed H_is_given
  have H__law_all_calls := ok__law_all_calls (P := P) (w := w) (base := base) n T ho TB H__law_answer H_gives_all H_least_missed
  have H__law_odd_forms := ok__law_odd_forms (P := P) (w := w) (base := base) n T
  have H_check_coefficients := ok_check_coefficients (P := P) (w := w) (base := base) n T H_is_between
  have H_table_for := ok_table_for (P := P) (w := w) (base := base) n T H_pairs_of
  have H_exchanged := ok_exchanged (P := P) (w := w) (base := base) n T
  have H_fraction := ok_fraction (P := P) (w := w) (base := base) n T H_common_divisor
  have H_plus := ok_plus (P := P) (w := w) (base := base) n T H_fraction
  have H_added := ok_added (P := P) (w := w) (base := base) n T H_plus
  have H_summed := ok_summed (P := P) (w := w) (base := base) n T H_added H_plus
  have H_with_lead := ok_with_lead (P := P) (w := w) (base := base) n T H_exchanged H_summed
  have H_behind := ok_behind (P := P) (w := w) (base := base) n T H_fraction
  have H_diagonal := ok_diagonal (P := P) (w := w) (base := base) n T H_with_lead H_behind
  have H_signature_for := ok_signature_for (P := P) (w := w) (base := base) n T H_diagonal
  have H_lessened := ok_lessened (P := P) (w := w) (base := base) n T
  have H_determinant := ok_determinant (P := P) (w := w) (base := base) n T H_lessened
  have H_kind_for := ok_kind_for (P := P) (w := w) (base := base) n T
  have H_Form___init__ := ok_Form___init__ (P := P) (w := w) (base := base) n T H_check_coefficients H_table_for H_signature_for H_determinant H_kind_for
  have H__law_right := ok__law_right (P := P) (w := w) (base := base) n T ho TB H__law_one H__law_calls H__law_all_calls H__law_odd_forms H_Form___init__ H__law_draw H_gives
  have H__law_bag := ok__law_bag (P := P) (w := w) (base := base) n T
  have H_law := ok_law (P := P) (w := w) (base := base) n T ho TB H__law_right H__law_bag
  exact H_law
end Fw
namespace Fw
open PySem L2
theorem fl_eq {bd : D → M Unit} {b : M Fl} {d : D} {ds : List D} {e : Ev} : mFl bd b (d :: ds) e = (match bd d e with
    | .ok _ e1 => (match b e1 with
      | .ok .nx e2 => mFl bd b ds e2
      | .ok .ct e2 => mFl bd b ds e2
      | .ok .bk e2 => .ok .nx e2
      | r => r)
    | _ => .bad) := rfl
theorem lc_eq {own : List Nat} {bd : D → M Unit} {t : M Bool} {el : M D} {d : D} {ds acc : List D} {e : Ev} : mLcL own bd t el (d :: ds) acc e = (match bd d e with
        | .ok _ e1 => (match t e1 with
          | .ok true e2 => (match el e2 with
            | .ok y e3 => if acc.length < 1000000 then mLcL own bd t el ds (acc ++ [y]) (wipeE e3 own) else .bad
            | _ => .bad)
          | .ok false e2 => mLcL own bd t el ds acc (wipeE e2 own)
          | _ => .bad)
        | _ => .bad) := rfl
theorem lc_nil {own : List Nat} {bd : D → M Unit} {t : M Bool} {el : M D} {acc : List D} {e : Ev} : mLcL own bd t el [] acc e = .ok acc e := rfl
theorem sq_to {a b : M Fl} {e e1 : Ev} {R : Rs Fl} (h1 : a e = .ok .nx e1) (h2 : b e1 = R) : mSq a b e = R := by
  unfold mSq; rw [h1]; exact h2
theorem fl_to {bd : D → M Unit} {b : M Fl} {d : D} {ds : List D} {e e1 e2 : Ev} {R : Rs Fl} (h1 : bd d e = .ok () e1) (h2 : b e1 = .ok .nx e2) (h3 : mFl bd b ds e2 = R) : mFl bd b (d :: ds) e = R := by
  rw [fl_eq, h1]; simp only [h2]; exact h3
theorem Np.o {x : Sl} (h : x = .emp ∨ ∃ d, x = .val d) : ∃ o, x = slOf o := by
  rcases h with rfl | ⟨d, rfl⟩
  · exact ⟨none, rfl⟩
  · exact ⟨some d, rfl⟩
def Np (x : Sl) : Prop := x = .emp ∨ ∃ d, x = .val d
theorem Np.e : Np .emp := .inl rfl
theorem Np.v (d : D) : Np (.val d) := .inr ⟨d, rfl⟩
theorem dIx_ok {ds : List D} {r : Int} (h0 : 0 ≤ r) (h1 : r < ds.length) : ∃ d ∈ ds, dIx (.lst ds) (.int r) = some d := by
  have hr : r.toNat < ds.length := by omega
  refine ⟨ds[r.toNat], List.getElem_mem hr, ?_⟩
  show L2.atI ds r = _
  unfold L2.atI ixN
  rw [if_pos h0, if_pos h1]
  exact List.getElem?_eq_getElem hr
theorem dIx_scr {ns : List Int} {r : Int} (h0 : 0 ≤ r) (h1 : r < ns.length) : ∃ i, dIx (.scr ns) (.int r) = some (.int i) := by
  have hr : r.toNat < ns.length := by omega
  refine ⟨ns[r.toNat], ?_⟩
  show (L2.atI ns r).map D.int = _
  unfold L2.atI ixN
  rw [if_pos h0, if_pos h1]
  show (ns[r.toNat]?).map D.int = _
  rw [List.getElem?_eq_getElem hr]
  rfl
theorem cut_scr (ns : List Int) (k : Int) : ∃ L : List Int, dCutL (.scr ns) none (some k) = some (L.map D.int) := by
  refine ⟨(ns.drop (HT.sIx (ns.map D.int).length 0 none)).take (HT.sIx (ns.map D.int).length (ns.map D.int).length (some k) - HT.sIx (ns.map D.int).length 0 none), ?_⟩
  show some (cutD (ns.map D.int) none (some k)) = _
  unfold cutD
  rw [List.map_take, List.map_drop]
@[simp] theorem jx2a {a b : D} : dIx (.tup [a, b]) (.int 0) = some a := rfl
@[simp] theorem jx2b {a b : D} : dIx (.tup [a, b]) (.int 1) = some b := rfl
@[simp] theorem jx3a {a b c : D} : dIx (.tup [a, b, c]) (.int 0) = some a := rfl
@[simp] theorem jx3b {a b c : D} : dIx (.tup [a, b, c]) (.int 1) = some b := rfl
@[simp] theorem jx3c {a b c : D} : dIx (.tup [a, b, c]) (.int 2) = some c := rfl
@[simp] theorem e_Raise {c : Nat} {m : M D} {e : Ev} : mRaise c m e = mb m (fun d e => .exc c d e) e := rfl
@[simp] theorem e_Xf {pf : Nat → Bool} {m : M D} {e : Ev} : mXf pf m e = mb m (fun d => mo (dFld pf d)) e := rfl
@[simp] theorem e_IsE {is : Nat → Option Bool} {m : M D} {e : Ev} : mIsE is m e = mb m (fun d => mo (dIsE is d)) e := rfl
@[simp] theorem e_NotNT {a : Od} {e : Ev} : mNotNT a e = mO1 a (fun d => mp (!dIsN d)) e := rfl
@[simp] theorem e_IsNT {a : Od} {e : Ev} : mIsNT a e = mO1 a (fun d => mp (dIsN d)) e := rfl
@[simp] theorem isN_n : dIsN .non = true := rfl
@[simp] theorem isN_t {ds : List D} : dIsN (.tup ds) = false := rfl
@[simp] theorem isN_i {i : Int} : dIsN (.int i) = false := rfl
@[simp] theorem isi_i {i : Int} : dIsi (.int i) (.ty "int") = some (.bl true) := rfl
@[simp] theorem isi_b {i : Int} : dIsi (.int i) (.ty "bool") = some (.bl false) := rfl
@[simp] theorem noX_n : noX .non = true := rfl
@[simp] theorem noX_b {b : Bool} : noX (.bl b) = true := rfl
@[simp] theorem noX_i {b : Int} : noX (.int b) = true := rfl
@[simp] theorem noX_s {b : Str} : noX (.str b) = true := rfl
@[simp] theorem noX_c {b : List Int} : noX (.scr b) = true := rfl
@[simp] theorem noX_t {b : List D} : noX (.tup b) = noXL b := by rw [noX]
@[simp] theorem noX_l {b : List D} : noX (.lst b) = noXL b := by rw [noX]
@[simp] theorem noXL_0 : noXL [] = true := rfl
@[simp] theorem noXL_1 {d : D} {ds : List D} : noXL (d :: ds) = (noX d && noXL ds) := by rw [noXL]
@[simp] theorem slX_e : Sl.noX .emp = true := rfl
@[simp] theorem slX_v {d : D} : Sl.noX (.val d) = noX d := rfl
@[simp] theorem slX_b {d : D} : Sl.noX (.box d) = noX d := rfl
@[simp] theorem slX_p {d : D} : Sl.noX (.pbox d) = noX d := rfl
@[simp] theorem fg_e : forget .emp = .emp := rfl
@[simp] theorem fg_v {d : D} : forget (.val d) = .emp := rfl
@[simp] theorem fg_b {d : D} : forget (.box d) = .box d := rfl
@[simp] theorem fg_p {d : D} : forget (.pbox d) = .pbox d := rfl
end Fw
namespace Fw
open PySem L2
theorem lc_fm {α : Type} {own : List Nat} {bd : D → M Unit} {t : M Bool} {el : M D} {e : Ev} (dt : α → D) (p : α → Bool) (f : α → D) : ∀ (L : List α) (acc : List D),
    (∀ x ∈ L, ∃ e1, bd (dt x) e = .ok () e1 ∧ ∃ e2, t e1 = .ok (p x) e2 ∧ (p x = false → wipeE e2 own = e) ∧ (p x = true → ∃ e3, el e2 = .ok (f x) e3 ∧ wipeE e3 own = e)) →
    acc.length + L.length ≤ 1000000 → mLcL own bd t el (L.map dt) acc e = .ok (acc ++ (L.filter p).map f) e
  | [], acc, _, _ => by simp [lc_nil]
  | x :: L, acc, h, hl => by
    rw [List.length_cons] at hl
    obtain ⟨e1, b1, e2, b2, b3, b4⟩ := h x List.mem_cons_self
    have ht := fun y hy => h y (List.mem_cons_of_mem _ hy)
    rw [List.map_cons, lc_eq, b1]
    simp only [b2]
    by_cases z : p x = true
    · obtain ⟨e3, b5, b6⟩ := b4 z
      rw [z]
      simp only [b5]
      have hl' : (acc ++ [f x]).length + L.length ≤ 1000000 := by rw [List.length_append, List.length_singleton]; omega
      rw [if_pos (by omega), b6, lc_fm dt p f L (acc ++ [f x]) ht hl', List.filter_cons_of_pos z]
      simp
    · have z : p x = false := by simpa using z
      rw [z]
      simp only [b3 z]
      rw [lc_fm dt p f L acc ht (by omega), List.filter_cons_of_neg (by simp [z])]
theorem lc_map {α : Type} {own : List Nat} {bd : D → M Unit} {el : M D} {e : Ev} (dt : α → D) (f : α → D) (L : List α)
    (h : ∀ x ∈ L, ∃ e1, bd (dt x) e = .ok () e1 ∧ ∃ e3, el e1 = .ok (f x) e3 ∧ wipeE e3 own = e) (hl : L.length ≤ 1000000) : mLcL own bd (mp true) el (L.map dt) [] e = .ok (L.map f) e := by
  rw [lc_fm dt (fun _ => true) f L [] (fun x hx => by
    obtain ⟨e1, b1, e3, b2, b3⟩ := h x hx
    exact ⟨e1, b1, e1, rfl, by simp, fun _ => ⟨e3, b2, b3⟩⟩) (by simpa using hl)]
  rw [List.filter_eq_self.mpr (by simp)]; simp
end Fw
namespace Fw
open PySem L2
@[simp] theorem e_IsN {a : Od} {e : Ev} : mIsN a e = mO1 a (fun d => mp (.bl (dIsN d))) e := rfl
end Fw
namespace Fw
open PySem L2 PyProof.Rows PySem.Spec
end Fw
namespace Nt
def C : Nat → Nat → Nat
  | _, 0 => 1
  | 0, _ + 1 => 0
  | n + 1, k + 1 => C n k + C n (k + 1)
def B (n a : Nat) : Nat → Nat
  | 0 => 0
  | m + 1 => B n a m + C n m * a ^ m
end Nt
namespace Fw
open PySem L2
section
variable {e : Ev} {β : Type}
@[simp] theorem e_RetB {i : Nat} : mRetB i e = (match e[i]? with
  | some (.box (.lst ds)) => .ok (.rb ds) (e.set i .emp)
  | some (.val d) => .ok (.rt d) e
  | _ => .bad) := rfl
@[simp] theorem e_Sle {m : M D} {lo hi : Option (M D)} {op : D → Option Int → Option Int → Option β} : mSl (.e m) lo hi op e = mb m (fun d => mb (mPart lo) fun l => mb (mPart hi) fun u => mo (op d l u)) e := rfl
@[simp] theorem e_Sln {i : Nat} {lo hi : Option (M D)} {op : D → Option Int → Option Int → Option β} : mSl (.n i) lo hi op e = mb (mN i) (fun _ => mb (mPart lo) fun l => mb (mPart hi) fun u => mb (mN i) fun d => mo (op d l u)) e := rfl
@[simp] theorem e_Pt0 : mPart none e = .ok none e := rfl
@[simp] theorem e_Pt1 {i : Int} : mPart (some (mC (.int i))) e = .ok (some i) e := rfl
@[simp] theorem e_PutF {i : Nat} {nx : Nat → Option Nat} {m : M D} : mPutF i nx m e = mb m (fun d e => match e[i]? with
  | some (.pbox (.obj c ds)) => (match nx c with
    | some c' => .ok .nx (e.set i (.pbox (.obj c' (ds ++ [d]))))
    | none => .bad)
  | _ => .bad) e := rfl
@[simp] theorem e_Join {a b : M D} : mJoin a b e = mb a (fun x => match x with
  | .str a => mb b fun y => mo (dJoin (.str a) y)
  | _ => fun _ => .bad) e := rfl
@[simp] theorem e_Mk {c0 : Nat} {fn : Fn} {m : M (List D)} : mMk c0 fn m e = mb m (fun ds e => match fn (.pbox (.obj c0 []) :: ds.map Sl.val) with
  | .ok (.v .non) (.pbox (.obj c fs) :: _) => .ok (.obj c fs) e
  | .exc c d _ => .exc c d e
  | _ => .bad) e := rfl
@[simp] theorem e_Prop {isF : Nat → Bool} {fn : Fn} {m : M D} : mProp isF fn m e = mb m (fun d e => match d with
  | .obj c ds => if isF c = true then (match fn [.val (.obj c ds)] with
    | .ok (.v d') _ => .ok d' e
    | _ => .bad) else .bad
  | _ => .bad) e := rfl
@[simp] theorem e_IsC {isF : Nat → Bool} {m : M D} : mIsC isF m e = mb m (fun d => mo (dIsC isF d)) e := rfl
@[simp] theorem e_Gd {kvs : List (Int × Int)} {m : M D} : mGd kvs m e = mb m (fun d => match d with
  | .int k => mo ((kvs.lookup k).map D.int)
  | _ => fun _ => .bad) e := rfl
@[simp] theorem e_Gin {n : Bool} {kvs : List (Int × Int)} {m : M D} : mGin n kvs m e = mb m (fun d => match d with
  | .int k => mp (Bool.xor n (kvs.lookup k).isSome)
  | _ => fun _ => .bad) e := rfl
end
end Fw
namespace Fw
open PySem L2
theorem ix0 {a b c : D} : dIx (.lst [a, b, c]) (.int 0) = some a := rfl
theorem ix1 {a b c : D} : dIx (.lst [a, b, c]) (.int 1) = some b := rfl
theorem ix2 {a b c : D} : dIx (.lst [a, b, c]) (.int 2) = some c := rfl
theorem nx0 : ixN 3 0 = some 0 := rfl
theorem nx1' : ixN 3 1 = some 1 := rfl
theorem nx2 : ixN 3 2 = some 2 := rfl
abbrev bagD (x y z : Int) : D := .lst [.int x, .int y, .int z]
def Ck (c : D) : Prop := ∃ x y z : Int, c = bagD x y z ∧ 0 ≤ x ∧ 0 ≤ y
theorem draw_n {n : Nat} {c : D} (h : Ck c) {m : Int} (hm : 0 < m ∧ m < 1073741824) : ∃ r c', 0 ≤ r ∧ r < m ∧ Ck c' ∧ f__law_draw n [.pbox c, .val (.int m)] = .ok (.v (.int r)) [.pbox c', .val (.int m)] := by
  obtain ⟨x, y, z, rfl, h1, h2⟩ := h
  by_cases c : 0 < x
  · refine ⟨x % m, bagD (x / m) y (z + 1), Int.emod_nonneg _ (by omega), Int.emod_lt_of_pos _ hm.1, ⟨x / m, y, z + 1, rfl, Int.ediv_nonneg h1 (by omega), h2⟩, ?_⟩
    simp (disch := omega) [f__law_draw, fn_eq, m__law_draw, bagD, ix0, ix1, ix2, nx0, nx1', nx2, c, dMod_pos, dFdiv_pos]
  · generalize e : f__law_draw n [.pbox (bagD x y z), .val (.int m)] = R
    have hm' := hm.1
    simp (disch := omega) [f__law_draw, fn_eq, m__law_draw, bagD, ix0, ix1, ix2, nx0, nx1', nx2, c, dMod_pos, dFdiv_pos, dMul_l, dMul_r] at e
    subst e
    refine ⟨_, _, ?a, ?b, ⟨x, _, z + 1, rfl, h1, ?c⟩, rfl⟩
    case a => exact Int.emod_nonneg _ (by omega)
    case b => exact Int.emod_lt_of_pos _ hm.1
    case c => exact Int.emod_nonneg _ (by omega)
theorem one_n {n : Nat} {c : D} (h : Ck c) {ds : List D} (h0 : ds ≠ []) (hl : ds.length < 1000000) : ∃ d c', d ∈ ds ∧ Ck c' ∧ f__law_one n [.pbox c, .val (.lst ds)] = .ok (.v d) [.pbox c', .val (.lst ds)] := by
  have lp : 0 < ds.length := List.length_pos_iff.mpr h0
  obtain ⟨r, c', r0, r1, k, e⟩ := draw_n (n := n) h (m := ds.length) ⟨by omega, by omega⟩
  obtain ⟨d, hd, e2⟩ := dIx_ok r0 r1
  refine ⟨d, c', hd, k, ?_⟩
  simp [f__law_one, fn_eq, m__law_one, e, e2]
section
variable {N : Nat}
theorem mix_loop (a0 : Sl) (t : Int) (ht : 0 ≤ t ∧ t < 100) (a2 a5 : Sl) : ∀ (L : List Int) (m : Int) (o : Option D), ∃ (m' : Int) (o' : Option D), mFl (Fw.setV 4) (b__law_bag_1 N) (L.map D.int) [a0, .val (.int t), a2, .val (.int m), slOf o, a5] = .ok .nx [a0, .val (.int t), a2, .val (.int m'), slOf o', a5]
  | [], m, o => ⟨m, o, rfl⟩
  | i :: L, m, o => by
    obtain ⟨m', o', e⟩ := mix_loop a0 t ht a2 a5 L ((m * 58711 + i % 1000121 + 17 * t) % 2147483549) (some (.int i))
    refine ⟨m', o', ?_⟩
    rw [List.map_cons]
    exact fl_to (e1 := [a0, .val (.int t), a2, .val (.int m), .val (.int i), a5]) (by simp) (by simp (disch := omega) [b__law_bag_1, dMul_r, dMul_l, dMod_pos]; rfl) e
theorem pow15 : dPow (.int 10) (.int 15) = some (.int 1000000000000000) := by kernel_rfl
theorem bag_ok (ns : List Int) {t : Int} (h : 0 ≤ t ∧ t < 100) : ∃ ds s, Ck (.lst ds) ∧ f__law_bag N [.val (.scr ns), .val (.int t)] = .ok (.b ds) s := by
  obtain ⟨L, hL⟩ := cut_scr ns 7
  obtain ⟨o, ho⟩ : ∃ o, (if t < ns.length then dIx (.scr ns) (.int t) else some (.int 0)) = some (.int o) := by
    by_cases z : t < ns.length
    · obtain ⟨i, e⟩ := dIx_scr h.1 z
      exact ⟨i, by rw [if_pos z, e]⟩
    · exact ⟨_, if_neg z⟩
  obtain ⟨m, o', e⟩ := mix_loop (.val (.scr ns)) t h (.val (.int o)) .emp L (95917 * (t + 5)) none
  have s1 : (mPar [2, 3] [.e (mIf (mCmp dLt (.e (mVar 1)) (.e (mCB (op1 dLen) [(.e (mVar 0))]))) (mCB (op1 dInt) [(.e (mOp dIx (.e (mVar 0)) (.e (mVar 1))))]) (mC (.int 0))), .e (mOp dMul (.e (mC (.int 95917))) (.e (mOp dAdd (.e (mVar 1)) (.e (mC (.int 5))))))]) [.val (.scr ns), .val (.int t), .emp, .emp, .emp, .emp] = .ok .nx [.val (.scr ns), .val (.int t), .val (.int o), .val (.int (95917 * (t + 5))), .emp, .emp] := by
    by_cases z : t < ns.length
    · rw [if_pos z] at ho; simp (disch := omega) [z, ho, dMul_l]
    · rw [if_neg z] at ho; cases ho; simp (disch := omega) [z, dMul_l]
  have yb := (⟨Int.emod_nonneg _ (by omega), Int.lt_trans (Int.emod_lt_of_pos _ (by omega)) (by omega)⟩ : 0 ≤ (m + 89003 * (o % 999931)) % 2147483549 ∧ (m + 89003 * (o % 999931)) % 2147483549 < 4294967296)
  obtain ⟨y, hy⟩ : ∃ y, y = (m + 89003 * (o % 999931)) % 2147483549 := ⟨_, rfl⟩
  rw [← hy] at yb
  have fin : ∀ x : Int, 0 ≤ x → (mSet 5 (mIf (mOr (mCmp dLt (.e (mVar 2)) (.e (mC (.int 0)))) (mCmp dGe (.e (mVar 2)) (.e (mOp dPow (.e (mC (.int 10))) (.e (mC (.int 15))))))) (mCB (op1 dAbs) [(.e (mVar 2))]) (mC (.int 0)))) [.val (.scr ns), .val (.int t), .val (.int o), .val (.int m), slOf o', .emp] = .ok .nx [.val (.scr ns), .val (.int t), .val (.int o), .val (.int m), slOf o', .val (.int x)] →
      ∃ ds s, Ck (.lst ds) ∧ f__law_bag N [.val (.scr ns), .val (.int t)] = .ok (.b ds) s := by
    intro x hx ex
    refine ⟨[.int x, .int y, .int 0], [.val (.scr ns), .val (.int t)], ⟨x, y, 0, rfl, hx, yb.1⟩, ?_⟩
    have run : m__law_bag N [.val (.scr ns), .val (.int t), .emp, .emp, .emp, .emp] = .ok (.rb [.int x, .int y, .int 0]) [.val (.scr ns), .val (.int t), .val (.int o), .val (.int m), slOf o', .val (.int x)] := by
      unfold m__law_bag
      refine sq_to s1 ?_
      refine sq_to (e1 := [.val (.scr ns), .val (.int t), .val (.int o), .val (.int m), slOf o', .emp]) (by simp [hL]; exact e) ?_
      refine sq_to ex ?_
      simp (disch := omega) [dMul_l, dMod_pos, ← hy]
    simp [f__law_bag, fn_eq, run]
  by_cases z1 : o < 0
  · exact fin (-o) (by omega) (by simp [z1])
  · by_cases z2 : 1000000000000000 ≤ o
    · exact fin o (by omega) (by simp [z1, z2, pow15])
    · exact fin 0 (by omega) (by simp [z1, z2, pow15])
end
theorem all_true : ∀ n : Nat, dAll (.lst ((List.range n).map fun _ => D.bl true)) = some (.bl true) := by
  intro n
  have b : ∀ l : List Nat, boolsD (l.map fun _ => D.bl true) = some (l.map fun _ => true) := by
    intro l
    induction l with
    | nil => rfl
    | cons a l ih => rw [List.map_cons, boolsD, ih]; rfl
  show (boolsD ((List.range n).map fun _ => D.bl true)).map (fun ns => D.bl (ns.all id)) = _
  rw [b]
  show some (D.bl (((List.range n).map fun _ => true).all id)) = _
  congr 2
  rw [List.all_eq_true]
  intro x hx
  obtain ⟨_, _, rfl⟩ := List.mem_map.mp hx
  rfl
theorem lc_law {RT JR : Fn} {ns : List Int} {z : Nat} (hz : z ≤ 10) (hb : ∀ i : Nat, i < z → ∃ cs s s2, JR [.val (.scr ns), .val (.int (i : Int))] = .ok (.b cs) s ∧ RT [.pbox (.lst cs)] = .ok (.v (.bl true)) s2) :
    mLcL [1] (Fw.setV 1) (mp true) (mC1 RT (mCl 2 JR [(.e (mVar 0)), (.e (mVar 1))])) ((List.range z).map fun i : Nat => D.int ((i : Nat) : Int)) [] [.val (.scr ns), .emp] = .ok ((List.range z).map fun _ => D.bl true) [.val (.scr ns), .emp] := by
  refine lc_map (fun i : Nat => D.int ((i : Nat) : Int)) (fun _ => D.bl true) _ (fun i hi => ⟨[.val (.scr ns), .val (.int (i : Int))], rfl, [.val (.scr ns), .val (.int (i : Int))], ?_, rfl⟩) (by rw [List.length_range]; omega)
  obtain ⟨cs, s, s2, e, e2⟩ := hb i (List.mem_range.mp hi)
  simp [e, e2]
theorem law_gen {RT JR : Fn} {ns : List Int} {K : Int} (hk : 2 ≤ K ∧ K ≤ 10) (hb : ∀ i : Nat, (i : Int) < K → ∃ cs s s2, JR [.val (.scr ns), .val (.int (i : Int))] = .ok (.b cs) s ∧ RT [.pbox (.lst cs)] = .ok (.v (.bl true)) s2) :
    (mRet (mCB (op1 dAll) [(.e (mFr (mLc (mIA dR1 [(.e (mCB (op2 dMax2) [(.e (mC (.int 2))), (.e (mCB (op2 dMin2) [(.e (mCB (op1 dLen) [(.e (mVar 0))])), (.e (mC (.int K)))]))]))]) [1] (Fw.setV 1) (mp true) (mC1 RT (mCl 2 JR [(.e (mVar 0)), (.e (mVar 1))])))))])) [.val (.scr ns), .emp] = .ok (.rt (.bl true)) [.val (.scr ns), .emp] := by
  obtain ⟨z, hz1, hz2, hz⟩ : ∃ z : Nat, 2 ≤ z ∧ (z : Int) ≤ K ∧ (if (if K < ns.length then K else ns.length) > 2 then (if K < ns.length then K else ns.length) else 2) = (z : Int) := by
    refine ⟨max 2 (min ns.length K.toNat), by omega, by omega, ?_⟩
    (repeat' split) <;> omega
  have r : dR1 [.int (z : Int)] = some ((List.range z).map fun i : Nat => D.int ((i : Nat) : Int)) := by
    rw [dR1_ok ⟨by omega, by omega⟩]
    simp
  have lc := lc_law (ns := ns) (z := z) (RT := RT) (JR := JR) (by omega) (fun i hi => hb i (by omega))
  have al := all_true z
  simp [hz, r, lc, al]
end Fw
namespace Fw
open PySem L2
theorem e_CountD {m0 m : M D} {e : Ev} : mCountD (.e m0) m e = mb m0 (fun l => match l with
    | .lst ds => mb m fun d => mo (dCountD (.lst ds) d)
    | _ => fun _ => .bad) e := rfl
theorem q1 : dEq (.lst [.bl true, .bl false, .bl false]) (.lst [.bl true, .bl false, .bl false]) = some (.bl true) := by kernel_rfl
theorem q2 : dEq (.lst [.bl false, .bl true, .bl false]) (.lst [.bl false, .bl true, .bl false]) = some (.bl true) := by kernel_rfl
theorem q3 : dCountD (.lst [.bl true, .bl false, .bl false]) (.bl true) = some (.int 1) := by kernel_rfl
theorem q4 : dCountD (.lst [.bl false, .bl true, .bl false]) (.bl true) = some (.int 1) := by kernel_rfl
theorem q5 (a : D) : dIx (.lst [a]) (.int 0) = some a := rfl
theorem q6 (a : D) : dLen (.lst [a]) = some (.int 1) := rfl
theorem sort_2 {n : Nat} {d T : D} (h : dRepr d = some T) : ∃ s, f__law_sort n [.val (.exn 2 [d])] = .ok (.v (.lst [.str "InvalidNumber", T])) s := by
  refine ⟨[.val (.exn 2 [d])], ?_⟩
  simp [f__law_sort, fn_eq, m__law_sort, dIsE, dFld, is_WrongValue, is_NoAnswer, is_WrongName, is_ValueError, is_ArithmeticError, is_LookupError, is_InvalidNumber, is_NotAForm, is_NotPositive, is_TooGreat, pf_given, h, lim, e_CountD, q1, q2, q3, q4, q5, q6]
theorem sort_3 {n : Nat} {d T : D} (h : dRepr d = some T) : ∃ s, f__law_sort n [.val (.exn 3 [d])] = .ok (.v (.lst [.str "NotAForm", T])) s := by
  refine ⟨[.val (.exn 3 [d])], ?_⟩
  simp [f__law_sort, fn_eq, m__law_sort, dIsE, dFld, is_WrongValue, is_NoAnswer, is_WrongName, is_ValueError, is_ArithmeticError, is_LookupError, is_InvalidNumber, is_NotAForm, is_NotPositive, is_TooGreat, pf_given, h, lim, e_CountD, q1, q2, q3, q4, q5, q6]
theorem sort_8 {n : Nat} : ∃ s, f__law_sort n [.val (.exn 8 [])] = .ok (.v (.lst [.str "NotPositive", .str "None"])) s := by
  refine ⟨[.val (.exn 8 [])], ?_⟩
  simp [f__law_sort, fn_eq, m__law_sort, dIsE, dFld, is_WrongValue, is_NoAnswer, is_WrongName, is_ValueError, is_ArithmeticError, is_LookupError, is_InvalidNumber, is_NotAForm, is_NotPositive, is_TooGreat, pf_given, lim, e_CountD, q1, q2, q3, q4, q5, q6]
theorem sort_9 {n : Nat} {d T : D} (h : dRepr d = some T) : ∃ s, f__law_sort n [.val (.exn 9 [d])] = .ok (.v (.lst [.str "TooGreat", T])) s := by
  refine ⟨[.val (.exn 9 [d])], ?_⟩
  simp [f__law_sort, fn_eq, m__law_sort, dIsE, dFld, is_WrongValue, is_NoAnswer, is_WrongName, is_ValueError, is_ArithmeticError, is_LookupError, is_InvalidNumber, is_NotAForm, is_NotPositive, is_TooGreat, pf_given, h, lim, e_CountD, q1, q2, q3, q4, q5, q6]
section
variable {E : Ev} {mb' : M D} {d : D} {t : PySem.Str} {s : Ev}
theorem ans_2 (h : mb' (hideE E) = .exc 2 d s) (r : dRepr d = some (.str t)) : mLam 3 (m__law_answer 10000) mb' E = .ok (.lst [.str "InvalidNumber", .str t]) E := by
  obtain ⟨z, e⟩ := sort_2 (n := 10000) r
  unfold mLam
  rw [h]
  simp [m__law_answer, u__law_answer_1, mTryHs, mAct, hdGo, mt3, mt_WrongValue, mt_NoAnswer, mt_WrongName, hasF, endX, e, outL, noX, noXL, noM, noML, Sl.noX, Fw.forget]
theorem ans_3 (h : mb' (hideE E) = .exc 3 d s) (r : dRepr d = some (.str t)) : mLam 3 (m__law_answer 10000) mb' E = .ok (.lst [.str "NotAForm", .str t]) E := by
  obtain ⟨z, e⟩ := sort_3 (n := 10000) r
  unfold mLam
  rw [h]
  simp [m__law_answer, u__law_answer_1, mTryHs, mAct, hdGo, mt3, mt_WrongValue, mt_NoAnswer, mt_WrongName, hasF, endX, e, outL, noX, noXL, noM, noML, Sl.noX, Fw.forget]
theorem ans_8 (h : mb' (hideE E) = .exc 8 d s) : mLam 3 (m__law_answer 10000) mb' E = .ok (.lst [.str "NotPositive", .str "None"]) E := by
  obtain ⟨z, e⟩ := sort_8 (n := 10000)
  unfold mLam
  rw [h]
  simp [m__law_answer, u__law_answer_1, mTryHs, mAct, hdGo, mt3, mt_WrongValue, mt_NoAnswer, mt_WrongName, hasF, endX, e, outL, noX, noXL, noM, noML, Sl.noX, Fw.forget]
theorem ans_9 (h : mb' (hideE E) = .exc 9 d s) (r : dRepr d = some (.str t)) : mLam 3 (m__law_answer 10000) mb' E = .ok (.lst [.str "TooGreat", .str t]) E := by
  obtain ⟨z, e⟩ := sort_9 (n := 10000) r
  unfold mLam
  rw [h]
  simp [m__law_answer, u__law_answer_1, mTryHs, mAct, hdGo, mt3, mt_WrongValue, mt_NoAnswer, mt_WrongName, hasF, endX, e, outL, noX, noXL, noM, noML, Sl.noX, Fw.forget]
theorem ans_r (h : mb' (hideE E) = .ok d s) (m : noM d = true) : mLam 3 (m__law_answer 10000) mb' E = .ok (.lst [.str "returned", d]) E := by
  unfold mLam
  rw [h]
  simp [m__law_answer, mTryHs, mAct, outL, noM, noML, m]
end
def naf (t : PySem.Str) : D := .lst [.str "NotAForm", .str t]
def inu (t : PySem.Str) : D := .lst [.str "InvalidNumber", .str t]
def npo : D := .lst [.str "NotPositive", .str "None"]
def tog (t : PySem.Str) : D := .lst [.str "TooGreat", .str t]
def Er (r : Rs RV) (W : D) : Prop :=
  (∃ d t s, r = .exc 2 d s ∧ dRepr d = some (.str t) ∧ W = inu t) ∨ (∃ d t s, r = .exc 3 d s ∧ dRepr d = some (.str t) ∧ W = naf t) ∨ (∃ d s, r = .exc 8 d s ∧ W = npo) ∨ (∃ d t s, r = .exc 9 d s ∧ dRepr d = some (.str t) ∧ W = tog t)
theorem Er.to {r r' : Rs RV} {W : D} (h : Er r W) (s' : Ev) (e : ∀ k d s, r = .exc k d s → r' = .exc k d s') : Er r' W := by
  rcases h with ⟨d, t, s, h, q, w⟩ | ⟨d, t, s, h, q, w⟩ | ⟨d, s, h, w⟩ | ⟨d, t, s, h, q, w⟩
  · exact .inl ⟨d, t, s', e _ _ _ h, q, w⟩
  · exact .inr (.inl ⟨d, t, s', e _ _ _ h, q, w⟩)
  · exact .inr (.inr (.inl ⟨d, s', e _ _ _ h, w⟩))
  · exact .inr (.inr (.inr ⟨d, t, s', e _ _ _ h, q, w⟩))
theorem Er.ans {r : Rs RV} {W : D} (h : Er r W) {E : Ev} {m : M D} (e : ∀ k d s, r = .exc k d s → ∃ s', m (hideE E) = .exc k d s') : mLam 3 (m__law_answer 10000) m E = .ok W E := by
  rcases h with ⟨d, t, s, h, q, w⟩ | ⟨d, t, s, h, q, w⟩ | ⟨d, s, h, w⟩ | ⟨d, t, s, h, q, w⟩
  · obtain ⟨s', x⟩ := e _ _ _ h
    rw [w]; exact ans_2 x q
  · obtain ⟨s', x⟩ := e _ _ _ h
    rw [w]; exact ans_3 x q
  · obtain ⟨s', x⟩ := e _ _ _ h
    rw [w]; exact ans_8 x
  · obtain ⟨s', x⟩ := e _ _ _ h
    rw [w]; exact ans_9 x q
end Fw
namespace Fw
open PySem L2
section
variable {a b W : D} {ds : List D}
theorem chk_f (ds : List D) : f_check_form 10000 [.val (.obj 102 ds)] = .ok (.v .non) [.val (.obj 102 ds)] := by
  kernel_rfl
theorem nu_n (h : Er (f_check_form 10000 [.val a]) W) : Er (f_check_number 10000 [.val a, .val b]) W :=
  h.to [.val a, .val b] fun k d s e => by simp [f_check_number, fn_eq, m_check_number, e]
theorem nu_b {s : Ev} {t : PySem.Str} (h : f_is_between 10000 [.val b, .val (.int 1), .val (.int 1000)] = .ok (.v (.bl false)) s) (r : dRepr b = some (.str t)) : Er (f_check_number 10000 [.val (.obj 102 ds), .val b]) (inu t) :=
  .inl ⟨b, t, [.val (.obj 102 ds), .val b], by simp [f_check_number, fn_eq, m_check_number, chk_f, h], r, rfl⟩
theorem nu_s {s : Ev} (g : f_is_between 10000 [.val b, .val (.int 1), .val (.int 1000)] = .ok (.v (.bl true)) s) (h : Er (f_check_small 10000 [.val (.obj 102 ds)]) W) : Er (f_check_number 10000 [.val (.obj 102 ds), .val b]) W :=
  h.to [.val (.obj 102 ds), .val b] fun k d s e => by simp [f_check_number, fn_eq, m_check_number, chk_f, g, e]
theorem gi_a (h : Er (f_check_number 10000 [.val a, .val b]) W) : Er (f_gives 10000 [.val a, .val b]) W :=
  h.to [.val a, .val b] fun k d s e => by simp [f_gives, fn_eq, m_gives, e]
theorem wr_a (h : Er (f_check_number 10000 [.val a, .val b]) W) : Er (f_writings 10000 [.val a, .val b]) W :=
  h.to [.val a, .val b] fun k d s e => by simp [f_writings, fn_eq, m_writings, e]
theorem cw_a (h : Er (f_check_number 10000 [.val a, .val b]) W) : Er (f_count_writings 10000 [.val a, .val b]) W :=
  h.to [.val a, .val b] fun k d s e => by simp [f_count_writings, fn_eq, m_count_writings, e]
theorem cp_a (h : Er (f_check_number 10000 [.val a, .val b]) W) : Er (f_count_proper 10000 [.val a, .val b]) W :=
  h.to [.val a, .val b] fun k d s e => by simp [f_count_proper, fn_eq, m_count_proper, e]
theorem mi_a (h : Er (f_check_number 10000 [.val a, .val b]) W) : Er (f_missed 10000 [.val a, .val b]) W :=
  h.to [.val a, .val b] fun k d s e => by simp [f_missed, fn_eq, m_missed, e]
theorem ga_n (h : Er (f_check_form 10000 [.val a]) W) : Er (f_gives_all 10000 [.val a]) W :=
  h.to [.val a] fun k d s e => by simp [f_gives_all, fn_eq, m_gives_all, e]
theorem ga_s (h : Er (f_check_small 10000 [.val (.obj 102 ds)]) W) : Er (f_gives_all 10000 [.val (.obj 102 ds)]) W :=
  h.to [.val (.obj 102 ds)] fun k d s e => by simp [f_gives_all, fn_eq, m_gives_all, chk_f, e]
theorem lm_n (h : Er (f_check_form 10000 [.val a]) W) : Er (f_least_missed 10000 [.val a]) W :=
  h.to [.val a] fun k d s e => by simp [f_least_missed, fn_eq, m_least_missed, e]
theorem lm_s (h : Er (f_check_small 10000 [.val (.obj 102 ds)]) W) : Er (f_least_missed 10000 [.val (.obj 102 ds)]) W :=
  h.to [.val (.obj 102 ds)] fun k d s e => by simp [f_least_missed, fn_eq, m_least_missed, chk_f, e]
theorem calls_a (h : Er (f_check_number 10000 [.val a, .val b]) W) : f__law_calls 10000 [.val a, .val b] = .ok (.b [W, W, W, W, W]) [.val a, .val b] := by
  have A1 := fun s1 : Sl => (gi_a h).ans (E := [.val a, .val b, s1]) (m := mCv 2 (f_gives 10000) [(.e (mVar 0)), (.e (mVar 1))]) (fun k d s e => ⟨_, by simp [hideE, hideS, e]; rfl⟩)
  have A2 := fun s1 : Sl => (wr_a h).ans (E := [.val a, .val b, s1]) (m := mCvP 2 (f_writings 10000) [1, 0] [(.e (mVar 1)), (.e (mVar 0))]) (fun k d s e => ⟨_, by simp [hideE, hideS, e, permL]; rfl⟩)
  have A3 := fun s1 : Sl => (cw_a h).ans (E := [.val a, .val b, s1]) (m := mCv 2 (f_count_writings 10000) [(.e (mVar 0)), (.e (mVar 1))]) (fun k d s e => ⟨_, by simp [hideE, hideS, e]; rfl⟩)
  have A4 := fun s1 : Sl => (cp_a h).ans (E := [.val a, .val b, s1]) (m := mCv 2 (f_count_proper 10000) [(.e (mVar 0)), (.e (mVar 1))]) (fun k d s e => ⟨_, by simp [hideE, hideS, e]; rfl⟩)
  have A5 := fun s1 : Sl => (mi_a h).ans (E := [.val a, .val b, s1]) (m := mCvP 2 (f_missed 10000) [1, 0] [(.e (mVar 1)), (.e (mVar 0))]) (fun k d s e => ⟨_, by simp [hideE, hideS, e, permL]; rfl⟩)
  simp [f__law_calls, fn_eq, m__law_calls, A1, A2, A3, A4, A5, lim]
theorem all_a (g : Er (f_gives_all 10000 [.val a]) W) (l : Er (f_least_missed 10000 [.val a]) W) : f__law_all_calls 10000 [.val a] = .ok (.b [W, W, W, W]) [.val a] := by
  have A1 := fun s1 : Sl => g.ans (E := [.val a, s1]) (m := mCv 1 (f_gives_all 10000) [(.e (mVar 0))]) (fun k d s e => ⟨_, by simp [hideE, hideS, e]; rfl⟩)
  have A2 := fun s1 : Sl => g.ans (E := [.val a, s1]) (m := mCvP 1 (f_gives_all 10000) [0] [(.e (mVar 0))]) (fun k d s e => ⟨_, by simp [hideE, hideS, e, permL]; rfl⟩)
  have A3 := fun s1 : Sl => l.ans (E := [.val a, s1]) (m := mCv 1 (f_least_missed 10000) [(.e (mVar 0))]) (fun k d s e => ⟨_, by simp [hideE, hideS, e]; rfl⟩)
  have A4 := fun s1 : Sl => l.ans (E := [.val a, s1]) (m := mCvP 1 (f_least_missed 10000) [0] [(.e (mVar 0))]) (fun k d s e => ⟨_, by simp [hideE, hideS, e, permL]; rfl⟩)
  simp [f__law_all_calls, fn_eq, m__law_all_calls, A1, A2, A3, A4, lim]
def RtO (r : Rs RV) : Prop := ∃ d s, r = .ok (.v d) s ∧ noM d = true
theorem calls_r (h1 : RtO (f_gives 10000 [.val a, .val b])) (h2 : RtO (f_writings 10000 [.val a, .val b])) (h3 : RtO (f_count_writings 10000 [.val a, .val b])) (h4 : RtO (f_count_proper 10000 [.val a, .val b])) (h5 : RtO (f_missed 10000 [.val a, .val b])) : ∃ d1 d2 d3 d4 d5, f__law_calls 10000 [.val a, .val b] = .ok (.b [.lst [.str "returned", d1], .lst [.str "returned", d2], .lst [.str "returned", d3], .lst [.str "returned", d4], .lst [.str "returned", d5]]) [.val a, .val b] := by
  obtain ⟨d1, s1, e1, m1⟩ := h1
  obtain ⟨d2, s2, e2, m2⟩ := h2
  obtain ⟨d3, s3, e3, m3⟩ := h3
  obtain ⟨d4, s4, e4, m4⟩ := h4
  obtain ⟨d5, s5, e5, m5⟩ := h5
  refine ⟨d1, d2, d3, d4, d5, ?_⟩
  have A1 := fun x : Sl => ans_r (E := [.val a, .val b, x]) (mb' := mCv 2 (f_gives 10000) [(.e (mVar 0)), (.e (mVar 1))]) (d := d1) (by simp [hideE, hideS, e1]; rfl) m1
  have A2 := fun x : Sl => ans_r (E := [.val a, .val b, x]) (mb' := mCvP 2 (f_writings 10000) [1, 0] [(.e (mVar 1)), (.e (mVar 0))]) (d := d2) (by simp [hideE, hideS, e2, permL]; rfl) m2
  have A3 := fun x : Sl => ans_r (E := [.val a, .val b, x]) (mb' := mCv 2 (f_count_writings 10000) [(.e (mVar 0)), (.e (mVar 1))]) (d := d3) (by simp [hideE, hideS, e3]; rfl) m3
  have A4 := fun x : Sl => ans_r (E := [.val a, .val b, x]) (mb' := mCv 2 (f_count_proper 10000) [(.e (mVar 0)), (.e (mVar 1))]) (d := d4) (by simp [hideE, hideS, e4]; rfl) m4
  have A5 := fun x : Sl => ans_r (E := [.val a, .val b, x]) (mb' := mCvP 2 (f_missed 10000) [1, 0] [(.e (mVar 1)), (.e (mVar 0))]) (d := d5) (by simp [hideE, hideS, e5, permL]; rfl) m5
  simp [f__law_calls, fn_eq, m__law_calls, A1, A2, A3, A4, A5, lim]
end
def fmN (cs : List Int) : D := match f_Form___init__ 10000 [.pbox (.obj 100 []), .val (.tup (cs.map D.int))] with
  | .ok _ (.pbox d :: _) => d
  | _ => .non
def okF (cs : List Int) : Bool := match f_Form___init__ 10000 [.pbox (.obj 100 []), .val (.tup (cs.map D.int))] with
  | .ok (.v .non) (.pbox (.obj 102 _) :: _) => true
  | _ => false
theorem okF_ok {cs : List Int} (h : okF cs = true) : ∃ ds as, fmN cs = .obj 102 ds ∧ f_Form___init__ 10000 [.pbox (.obj 100 []), .val (.tup (cs.map D.int))] = .ok (.v .non) (.pbox (.obj 102 ds) :: as) := by
  unfold okF at h
  split at h
  · rename_i ds as e
    exact ⟨ds, as, by unfold fmN; rw [e], e⟩
  · cases h
theorem mk_k {cs : List Int} (h : okF cs = true) {m : M (List D)} {e e1 : Ev} (hm : m e = .ok [.tup (cs.map D.int)] e1) : mMk 100 (f_Form___init__ 10000) m e = .ok (fmN cs) e1 := by
  obtain ⟨ds, as, e3, e2⟩ := okF_ok h
  rw [e3]
  simp [hm, e2]
def neF (d e : D) : Bool := match dNe d e with
  | some (.bl b) => !b
  | _ => false
theorem neF_ok {d e : D} (h : neF d e = true) : dNe d e = some (.bl false) := by
  unfold neF at h
  split at h
  · rename_i b hb
    rw [hb]
    cases b
    · rfl
    · cases h
  · cases h
def rp (n : Nat) (a : D) : D := .lst (List.replicate n a)
def oddL : List D := [.non, .tup [.int 1, .int 0, .int 1], .str "1 0 1", .int 3, .lst [], .bl true, .dct [] []]
def badL : List D := [.non, .int 0, .int (-1), .int 1001, .bl true, .str "3", .tup [.int 3], .int 1000000000000000000000000000000]
theorem chk_n {d : D} (h : dIsC is_Form d = some (.bl false)) : f_check_form 10000 [.val d] = .exc 3 d [.val d] := by
  simp [f_check_form, fn_eq, m_check_form, mIsC, h]
def ckOdd (d : D) : Bool := match dIsC is_Form d, dRepr d with
  | some (.bl false), some (.str t) => neF (rp 9 (naf t)) (rp 9 (naf t))
  | _, _ => false
theorem odd_all : oddL.all ckOdd = true := by decide +kernel
def ckBad (d : D) : Bool := match f_is_between 10000 [.val d, .val (.int 1), .val (.int 1000)], dRepr d with
  | .ok (.v (.bl false)) _, some (.str t) => neF (rp 5 (inu t)) (rp 5 (inu t))
  | _, _ => false
theorem bad_all : badL.all ckBad = true := by decide +kernel
def oForms : List (List Int × Option Int) := [([1, 0, -1], none), ([-2, 1, -3], none), ([1, 2, 1], none), ([0, 0, 0], none), ([1, 0, 0, 1, 0, 0], none), ([2000, 0, -5000], none), ([1001, 0, 2000], some 1001), ([1, 0, 1001], some 1001), ([999, -1001, 999], some (-1001)), ([5, 0, 0, 7, 0, 1000000000], some 1000000000), ([3, 0, 0, 0, 3, 0, 0, 3, 0, 5000], some 5000)]
def dueO (o : Option Int) : D := match o with
  | none => npo
  | some i => tog (PyData.shown (.int i))
def ckO (x : List Int × Option Int) : Bool := okF x.1 && ((match f_check_small 10000 [.val (fmN x.1)], x.2 with
  | .exc 8 _ _, none => true
  | .exc 9 (.int g) _, some j => (match dRepr (.int g) with
    | some (.str t) => decide (t = PyData.shown (.int j))
    | _ => false)
  | _, _ => false))
theorem o_all : oForms.all ckO = true := by decide +kernel
theorem o_ne : oForms.all (fun x => neF (rp 9 (dueO x.2)) (rp 9 (dueO x.2))) = true := by decide +kernel
theorem ck_er {x : List Int × Option Int} (c : ckO x = true) : okF x.1 = true ∧ Er (f_check_small 10000 [.val (fmN x.1)]) (dueO x.2) := by
  unfold ckO at c
  rw [Bool.and_eq_true] at c
  obtain ⟨c1, c2⟩ := c
  obtain ⟨cs, o⟩ := x
  refine ⟨c1, ?_⟩
  dsimp only at c2 ⊢
  generalize f_check_small 10000 [.val (fmN cs)] = R at *
  split at c2
  · exact .inr (.inr (.inl ⟨_, _, rfl, rfl⟩))
  · rename_i g s j
    split at c2
    · rename_i t e3
      exact .inr (.inr (.inr ⟨_, t, _, rfl, e3, by rw [of_decide_eq_true c2]; rfl⟩))
    · cases c2
  · cases c2
theorem odd_of {d : D} (h : d ∈ oddL) : ∃ t, Er (f_check_form 10000 [.val d]) (naf t) ∧ dRepr d = some (.str t) ∧ dNe (rp 9 (naf t)) (rp 9 (naf t)) = some (.bl false) := by
  have c := List.all_eq_true.mp odd_all d h
  unfold ckOdd at c
  split at c
  · rename_i t e1 e2
    exact ⟨t, .inr (.inl ⟨d, t, _, chk_n e1, e2, rfl⟩), e2, neF_ok c⟩
  · cases c
theorem bad_of {d : D} (h : d ∈ badL) : ∃ t s, f_is_between 10000 [.val d, .val (.int 1), .val (.int 1000)] = .ok (.v (.bl false)) s ∧ dRepr d = some (.str t) ∧ dNe (rp 5 (inu t)) (rp 5 (inu t)) = some (.bl false) := by
  have c := List.all_eq_true.mp bad_all d h
  unfold ckBad at c
  split at c
  · rename_i s t e1 e2
    exact ⟨t, s, e1, e2, neF_ok c⟩
  · cases c
theorem o_of {x : List Int × Option Int} (h : x ∈ oForms) : okF x.1 = true ∧ Er (f_check_small 10000 [.val (fmN x.1)]) (dueO x.2) ∧ dNe (rp 9 (dueO x.2)) (rp 9 (dueO x.2)) = some (.bl false) := by
  obtain ⟨a, b⟩ := ck_er (List.all_eq_true.mp o_all x h)
  exact ⟨a, b, neF_ok (List.all_eq_true.mp o_ne x h)⟩
theorem btw {r : Int} (h : 1 ≤ r ∧ r ≤ 1000) : ∃ s, f_is_between 10000 [.val (.int r), .val (.int 1), .val (.int 1000)] = .ok (.v (.bl true)) s := by
  refine ⟨[.val (.int r), .val (.int 1), .val (.int 1000)], ?_⟩
  have i : f_is_integer 10000 [.val (.int r)] = .ok (.v (.bl true)) [.val (.int r)] := rfl
  simp [f_is_between, fn_eq, m_is_between, i, h.1, h.2]
def wdL : List Int := [1000, 0, 999]
def rtB (r : Rs RV) : Bool := match r with
  | .ok (.v d) _ => noM d
  | _ => false
theorem rtB_ok {r : Rs RV} (h : rtB r = true) : RtO r := by
  unfold rtB at h
  split at h
  · exact ⟨_, _, rfl, h⟩
  · cases h
def ckR (b : Int) : Bool := rtB (f_gives 10000 [.val (fmN wdL), .val (.int b)]) && (rtB (f_writings 10000 [.val (fmN wdL), .val (.int b)]) && (rtB (f_count_writings 10000 [.val (fmN wdL), .val (.int b)]) && (rtB (f_count_proper 10000 [.val (fmN wdL), .val (.int b)]) && rtB (f_missed 10000 [.val (fmN wdL), .val (.int b)]))))
theorem r_all : [(1 : Int), 7, 30].all ckR = true := by decide +kernel
theorem wd_k : okF wdL = true := by decide +kernel
theorem r_of {b : Int} (h : b ∈ [(1 : Int), 7, 30]) : ∃ d1 d2 d3 d4 d5, f__law_calls 10000 [.val (fmN wdL), .val (.int b)] = .ok (.b [.lst [.str "returned", d1], .lst [.str "returned", d2], .lst [.str "returned", d3], .lst [.str "returned", d4], .lst [.str "returned", d5]]) [.val (fmN wdL), .val (.int b)] := by
  have c := List.all_eq_true.mp r_all b h
  unfold ckR at c
  simp only [Bool.and_eq_true] at c
  exact calls_r (rtB_ok c.1) (rtB_ok c.2.1) (rtB_ok c.2.2.1) (rtB_ok c.2.2.2.1) (rtB_ok c.2.2.2.2)
def gvB (cs : List Int) (b : Int) (z : Bool) : Bool := match f_gives 10000 [.val (fmN cs), .val (.int b)] with
  | .ok (.v (.bl x)) _ => x == z
  | _ => false
theorem gv_ok {cs : List Int} {b : Int} {z : Bool} (h : gvB cs b z = true) : ∃ s, f_gives 10000 [.val (fmN cs), .val (.int b)] = .ok (.v (.bl z)) s := by
  unfold gvB at h
  split at h
  · rename_i x s e
    rw [beq_iff_eq] at h
    subst h
    exact ⟨s, e⟩
  · cases h
def fiveL : List Int := [1, 0, 0, 0, 0, 1, 0, 0, 0, 1, 0, 0, 1, 0, 1]
theorem five_k : okF fiveL = true := by decide +kernel
theorem gv1 : gvB wdL 1000 true = true := by decide +kernel
theorem gv2 : gvB wdL 999 true = true := by decide +kernel
theorem gv3 : gvB wdL 998 false = true := by decide +kernel
theorem gv4 : gvB fiveL 7 true = true := by decide +kernel
end Fw
namespace Fw
open PySem L2
theorem e_Dn {e : Ev} : mDn e = .ok (.dct [] []) e := rfl
theorem pow30 : dPow (.int 10) (.int 30) = some (.int 1000000000000000000000000000000) := by kernel_rfl
def formD (x : List Int × Option Int) : D := .lst [.tup (x.1.map D.int), dueO x.2]
theorem forms_ok : f__law_odd_forms 10000 [] = .ok (.b (oForms.map formD)) [] := by kernel_rfl
theorem rep5 (a : D) : dRep (.lst [a]) (.int 5) = some [a, a, a, a, a] := rfl
theorem rep9 (a : D) : dRep (.lst [a]) (.int 9) = some [a, a, a, a, a, a, a, a, a] := rfl
theorem cat54 (a : D) : dCat (.lst [a, a, a, a, a]) (.lst [a, a, a, a]) = some [a, a, a, a, a, a, a, a, a] := rfl
theorem ix0' (a d : D) : dIx (.lst [a, d]) (.int 0) = some a := rfl
theorem ret_ne : dNe (.lst [.str "returned", .str "returned", .str "returned", .str "returned", .str "returned"]) (.lst [.str "returned", .str "returned", .str "returned", .str "returned", .str "returned"]) = some (.bl false) := by kernel_rfl
theorem gv_ne : dNe (.lst [.bl true, .bl true, .bl false]) (.lst [.bl true, .bl true, .bl false]) = some (.bl false) := by kernel_rfl
theorem isb_tt : dIsB (.bl true) (.bl true) = some (.bl true) := by kernel_rfl
theorem set_m {i : Nat} {m : M D} {E E' : Ev} {d : D} {o : Option D} (h : m E = .ok d E') (hs : E'[i]? = some (slOf o)) : mSet i m E = .ok .nx (E'.set i (.val d)) := by
  cases o <;> simp [h, hs, slOf]
theorem one_i {c : D} (h : Ck c) {ns : List Int} (h0 : ns.map D.int ≠ []) (hl : ns.length < 1000000) : ∃ i c', i ∈ ns ∧ Ck c' ∧ f__law_one 10000 [.pbox c, .val (.lst (ns.map D.int))] = .ok (.v (.int i)) [.pbox c', .val (.lst (ns.map D.int))] := by
  obtain ⟨d, c', hd, k, e⟩ := one_n (n := 10000) h h0 (by rw [List.length_map]; exact hl)
  obtain ⟨i, hi, rfl⟩ := List.mem_map.mp hd
  exact ⟨i, c', hi, k, e⟩
section
variable {ws : List D} (mkW : ∀ (E e1 : Ev) (m : M (List D)), m E = .ok [.tup (wdL.map D.int)] e1 → mMk 100 (f_Form___init__ 10000) m E = .ok (.obj 102 ws) e1) (rW : ∀ b : Int, b ∈ [(1 : Int), 7, 30] → ∃ d1 d2 d3 d4 d5, f__law_calls 10000 [.val (.obj 102 ws), .val (.int b)] = .ok (.b [.lst [.str "returned", d1], .lst [.str "returned", d2], .lst [.str "returned", d3], .lst [.str "returned", d4], .lst [.str "returned", d5]]) [.val (.obj 102 ws), .val (.int b)])
include mkW rW
theorem right_1 {c : D} (hc : Ck c) (t : Int) (o2 o3 o4 o5 o6 : Option D) : ∃ c' p2 p3 p4 p5 p6, Ck c' ∧ b__law_right_1 10000 [.pbox c, .val (.int t), slOf o2, slOf o3, slOf o4, slOf o5, slOf o6, .emp, .emp] = .ok .nx [.pbox c', .val (.int t), slOf p2, slOf p3, slOf p4, slOf p5, slOf p6, .emp, .emp] := by
  obtain ⟨d, c1, hd, k1, e1⟩ := one_n (n := 10000) hc (ds := oddL) (by decide) (by decide)
  obtain ⟨b, c2, hb, k2, e2⟩ := one_n (n := 10000) k1 (ds := badL) (by decide) (by decide)
  obtain ⟨z, c3, hz, k3, e3⟩ := one_n (n := 10000) k2 (ds := oForms.map formD) (by simp [oForms]) (by simp [oForms])
  obtain ⟨x, hx, rfl⟩ := List.mem_map.mp hz
  obtain ⟨r, c4, r0, r1, k4, e4⟩ := draw_n (n := 10000) k3 (m := 1000) (by omega)
  obtain ⟨q, c5, hq, k5, e5⟩ := one_i k4 (ns := [1, 7, 30]) (by simp) (by decide)
  have e1 : f__law_one 10000 [.pbox c, .val (.lst [.non, .tup [.int 1, .int 0, .int 1], .str "1 0 1", .int 3, .lst [], .bl true, .dct [] []])] = .ok (.v d) [.pbox c1, .val (.lst [.non, .tup [.int 1, .int 0, .int 1], .str "1 0 1", .int 3, .lst [], .bl true, .dct [] []])] := e1
  have e2 : f__law_one 10000 [.pbox c1, .val (.lst [.non, .int 0, .int (-1), .int 1001, .bl true, .str "3", .tup [.int 3], .int 1000000000000000000000000000000])] = .ok (.v b) [.pbox c2, .val (.lst [.non, .int 0, .int (-1), .int 1001, .bl true, .str "3", .tup [.int 3], .int 1000000000000000000000000000000])] := e2
  have e5 : f__law_one 10000 [.pbox c4, .val (.lst [.int 1, .int 7, .int 30])] = .ok (.v (.int q)) [.pbox c5, .val (.lst [.int 1, .int 7, .int 30])] := e5
  obtain ⟨t1, h1, r1', n9⟩ := odd_of hd
  obtain ⟨t2, s2, h2, r2, n5⟩ := bad_of hb
  obtain ⟨ok, hB, m9⟩ := o_of hx
  obtain ⟨cs, o⟩ := x
  obtain ⟨ds, as, ef, _⟩ := okF_ok ok
  obtain ⟨s6, h6⟩ := btw (r := 1 + r) (by omega)
  have mk1 := fun (E e1 : Ev) (m : M (List D)) (hm : m E = .ok [.tup (cs.map D.int)] e1) => mk_k ok (m := m) (e := E) (e1 := e1) hm
  have ef : fmN cs = .obj 102 ds := ef
  have hB : Er (f_check_small 10000 [.val (fmN cs)]) (dueO o) := hB
  rw [ef] at mk1 hB
  have fd : formD (cs, o) = .lst [.tup (cs.map D.int), dueO o] := rfl
  rw [fd] at e3
  have m9 : dNe (rp 9 (dueO o)) (rp 9 (dueO o)) = some (.bl false) := m9
  have C1 := calls_a (nu_n (b := b) h1)
  have A1 := all_a (ga_n h1) (lm_n h1)
  have C2 := calls_a (nu_b (ds := ds) h2 r2)
  have C3 := calls_a (nu_s h6 hB)
  have A3 := all_a (ga_s hB) (lm_s hB)
  obtain ⟨d1, d2, d3, d4, d5, C4⟩ := rW q hq
  refine ⟨c5, some d, some b, some (.tup (cs.map D.int)), some (dueO o), some (.obj 102 ds), k5, ?_⟩
  generalize dueO o = W at *
  have fo := forms_ok
  generalize oForms.map formD = FL at *
  generalize cs.map D.int = CI at *
  have nf : D.lst [.str "NotAForm", .str t1] = naf t1 := rfl
  have ni : D.lst [.str "InvalidNumber", .str t2] = inu t2 := rfl
  generalize naf t1 = N at *
  generalize inu t2 = I at *
  simp only [rp, List.replicate] at n9 n5 m9
  unfold b__law_right_1
  refine sq_to (e1 := [.pbox c1, .val (.int t), .val d, slOf o3, slOf o4, slOf o5, slOf o6, .emp, .emp]) (by cases o2 <;> simp [e_Dn, e1]) ?_
  refine sq_to (e1 := [.pbox c2, .val (.int t), .val d, .val b, slOf o4, slOf o5, slOf o6, .emp, .emp]) (by cases o3 <;> simp [pow30, e2]) ?_
  refine sq_to (e1 := [.pbox c2, .val (.int t), .val d, .val b, slOf o4, slOf o5, slOf o6, .emp, .emp]) (by simp [C1, A1, r1', nf, cat54, rep9, n9]) ?_
  refine sq_to (e1 := [.pbox c3, .val (.int t), .val d, .val b, .val (.tup CI), .val W, slOf o6, .emp, .emp]) (by cases o4 <;> cases o5 <;> simp [fo, e3, gLstD]) ?_
  have q1 := mk1 [.pbox c3, .val (.int t), .val d, .val b, .val (.tup CI), .val W, slOf o6, .emp, .emp] _ (mCons (mVar 4) mNil) (by simp; rfl)
  refine sq_to (e1 := [.pbox c3, .val (.int t), .val d, .val b, .val (.tup CI), .val W, .val (.obj 102 ds), .emp, .emp]) (set_m (o := o6) q1 rfl) ?_
  refine sq_to (e1 := [.pbox c3, .val (.int t), .val d, .val b, .val (.tup CI), .val W, .val (.obj 102 ds), .emp, .emp]) (by simp [C2, r2, ni, rep5, n5]) ?_
  refine sq_to (e1 := [.pbox c4, .val (.int t), .val d, .val b, .val (.tup CI), .val W, .val (.obj 102 ds), .emp, .emp]) (by simp [e4, C3, A3, cat54, rep9, m9]) ?_
  have q2 := mkW [.pbox c4, .val (.int t), .val d, .val b, .val (.tup CI), .val W, .val (.obj 102 ds), .emp, .emp] _ (mCons (mTup (mCons (mC (.int 1000)) (mCons (mC (.int 0)) (mCons (mC (.int 999)) mNil)))) mNil) (by simp [wdL]; rfl)
  simp [-e_Mk, q2, e5, C4, mLcL, ix0', rep5, ret_ne, slOf]
end
theorem right_eq : m__law_right 10000 = (mSq (mFor (mIA dR1 [(.e (mC (.int 4)))]) (Fw.setV 1)
    (b__law_right_1 10000))
    (mSq (mIf (mCmp dNe (.e (mFr (mLc (mIt (mFr (mLst (mCons (mC (.int 1000)) (mCons (mC (.int 999)) (mCons (mC (.int 998)) mNil)))))) [7] (Fw.setV 7) (mp true) (mCv 2 (f_gives 10000) [(.e (mMk 100 (f_Form___init__ 10000) (mCons (mTup (mCons (mC (.int 1000)) (mCons (mC (.int 0)) (mCons (mC (.int 999)) mNil)))) mNil))), (.e (mVar 7))])))) (.e (mFr (mLst (mCons (mC (.bl true)) (mCons (mC (.bl true)) (mCons (mC (.bl false)) mNil)))))))
    (mRet (mC (.bl false)))
    (mp .nx))
    (mRet (mOp dIsB (.e (mCv 2 (f_gives 10000) [(.e (mMk 100 (f_Form___init__ 10000) (mCons (mTup (mCons (mC (.int 1)) (mCons (mC (.int 0)) (mCons (mC (.int 0)) (mCons (mC (.int 0)) (mCons (mC (.int 0)) (mCons (mC (.int 1)) (mCons (mC (.int 0)) (mCons (mC (.int 0)) (mCons (mC (.int 0)) (mCons (mC (.int 1)) (mCons (mC (.int 0)) (mCons (mC (.int 0)) (mCons (mC (.int 1)) (mCons (mC (.int 0)) (mCons (mC (.int 1)) mNil)))))))))))))))) mNil))), (.e (mC (.int 7)))])) (.e (mC (.bl true))))))) := rfl
theorem right_ok {c : D} (hc : Ck c) : ∃ s, f__law_right 10000 [.pbox c] = .ok (.v (.bl true)) s := by
  obtain ⟨ws, _, ew, _⟩ := okF_ok wd_k
  obtain ⟨fs, _, ef, _⟩ := okF_ok five_k
  have mkW := fun (E e1 : Ev) (m : M (List D)) (hm : m E = .ok [.tup (wdL.map D.int)] e1) => mk_k wd_k (m := m) (e := E) (e1 := e1) hm
  have mkF := fun (E e1 : Ev) (m : M (List D)) (hm : m E = .ok [.tup (fiveL.map D.int)] e1) => mk_k five_k (m := m) (e := E) (e1 := e1) hm
  have rW := fun (b : Int) (h : b ∈ [(1 : Int), 7, 30]) => r_of h
  obtain ⟨s1, G1⟩ := gv_ok gv1
  obtain ⟨s2, G2⟩ := gv_ok gv2
  obtain ⟨s3, G3⟩ := gv_ok gv3
  obtain ⟨s4, G4⟩ := gv_ok gv4
  rw [ew] at mkW rW G1 G2 G3
  rw [ef] at mkF G4
  have R := fun {c : D} (hc : Ck c) => right_1 mkW rW hc
  obtain ⟨c1, a2, a3, a4, a5, a6, k1, b1⟩ := R hc 0 none none none none none
  obtain ⟨c2, g2, g3, g4, g5, g6, k2, b2⟩ := R k1 1 a2 a3 a4 a5 a6
  obtain ⟨c3, h2, h3, h4, h5, h6, k3, b3⟩ := R k2 2 g2 g3 g4 g5 g6
  obtain ⟨c4, j2, j3, j4, j5, j6, k4, b4⟩ := R k3 3 h2 h3 h4 h5 h6
  have b1 : b__law_right_1 10000 [.pbox c, .val (.int 0), .emp, .emp, .emp, .emp, .emp, .emp, .emp] = _ := b1
  have rg : dR1 [.int 4] = some [.int 0, .int 1, .int 2, .int 3] := rfl
  have f1 : mFl (Fw.setV 1) (b__law_right_1 10000) [.int 0, .int 1, .int 2, .int 3] [.pbox c, .emp, .emp, .emp, .emp, .emp, .emp, .emp, .emp] = .ok .nx [.pbox c4, .val (.int 3), slOf j2, slOf j3, slOf j4, slOf j5, slOf j6, .emp, .emp] := by
    refine fl_to (e1 := [.pbox c, .val (.int 0), .emp, .emp, .emp, .emp, .emp, .emp, .emp]) (by simp) b1 ?_
    refine fl_to (e1 := [.pbox c1, .val (.int 1), slOf a2, slOf a3, slOf a4, slOf a5, slOf a6, .emp, .emp]) (by simp) b2 ?_
    refine fl_to (e1 := [.pbox c2, .val (.int 2), slOf g2, slOf g3, slOf g4, slOf g5, slOf g6, .emp, .emp]) (by simp) b3 ?_
    exact fl_to (e1 := [.pbox c3, .val (.int 3), slOf h2, slOf h3, slOf h4, slOf h5, slOf h6, .emp, .emp]) (by simp) b4 rfl
  refine ⟨[.pbox c4], ?_⟩
  have q1 := fun (s7 : Sl) => mkW [.pbox c4, .val (.int 3), slOf j2, slOf j3, slOf j4, slOf j5, slOf j6, s7, .emp] _ (mCons (mTup (mCons (mC (.int 1000)) (mCons (mC (.int 0)) (mCons (mC (.int 999)) mNil)))) mNil) (by simp [wdL]; rfl)
  have q2 := mkF [.pbox c4, .val (.int 3), slOf j2, slOf j3, slOf j4, slOf j5, slOf j6, .emp, .emp] _ (mCons (mTup (mCons (mC (.int 1)) (mCons (mC (.int 0)) (mCons (mC (.int 0)) (mCons (mC (.int 0)) (mCons (mC (.int 0)) (mCons (mC (.int 1)) (mCons (mC (.int 0)) (mCons (mC (.int 0)) (mCons (mC (.int 0)) (mCons (mC (.int 1)) (mCons (mC (.int 0)) (mCons (mC (.int 0)) (mCons (mC (.int 1)) (mCons (mC (.int 0)) (mCons (mC (.int 1)) mNil)))))))))))))))) mNil) (by simp [fiveL]; rfl)
  have m : m__law_right 10000 [.pbox c, .emp, .emp, .emp, .emp, .emp, .emp, .emp, .emp] = .ok (.rt (.bl true)) [.pbox c4, .val (.int 3), slOf j2, slOf j3, slOf j4, slOf j5, slOf j6, .emp, .emp] := by
    rw [right_eq]
    refine sq_to (e1 := [.pbox c4, .val (.int 3), slOf j2, slOf j3, slOf j4, slOf j5, slOf j6, .emp, .emp]) (by simp [rg, f1]) ?_
    refine sq_to (e1 := [.pbox c4, .val (.int 3), slOf j2, slOf j3, slOf j4, slOf j5, slOf j6, .emp, .emp]) (by simp [-e_Mk, mLcL, q1, G1, G2, G3, gv_ne]) ?_
    simp [-e_Mk, q2, G4, isb_tt]
  simp [f__law_right, fn_eq, m]
theorem plain (ns : List Int) (h : ns.length ≤ 63) : ∃ as, f_law 10000 [.val (.scr ns)] = .ok (.v (.bl true)) as := by
  refine ⟨[.val (.scr ns)], ?_⟩
  have run : m_law 10000 [.val (.scr ns), .emp] = .ok (.rt (.bl true)) [.val (.scr ns), .emp] :=
    law_gen (K := 4) (by omega) fun i hi => by
      obtain ⟨ds, s, ck, e⟩ := bag_ok (N := 10000) ns (t := (i : Int)) (by omega)
      obtain ⟨s2, e2⟩ := right_ok ck
      exact ⟨ds, s, s2, e, e2⟩
  show mkFn 1 2 (m_law 10000) _ = _
  generalize m_law 10000 = G at *
  simp [fn_eq, run]
end Fw
open PyProof.Rows PySem PySem.W PySem.Calls
theorem PySem.Challenge.cw_formworld_k21_giving_refused_holds : PySem.Challenge.rw_formworld_k21_giving_refused.Holds := by
  w_on; o_law
  refine Fw.headX ?hc ?hw
  case hw => w_witness2
  case hc =>
    refine Fw.walk_gT (l := PySem.Challenge.rw_formworld_k21_giving_refused) (n := 63) (k := 18) (x := "_law_script") rfl (by decide) (by kernel_rfl) ⟨rfl, by decide, by decide⟩ ?F
    intro w mg fa h Y G hm
    obtain ⟨K, KX, c, TL⟩ := Y
    have hm : mg ("law" : PySem.Str) = some (.ref fa) := hm
    have T : Fw.Tx (Fw.gc K) mg := ⟨c.x, ⟨h, KX, G⟩, c, rfl, rfl, rfl, rfl, fun _ _ _ => trivial, TL.nd⟩
    obtain ⟨fd, FD⟩ := c.x.d.def_ 56 (d := Fw.dd "law" 90) rfl
    cases hm.symm.trans (T.glo 56 rfl)
    have b := L2.FunD.bindsA (ps := ["_law_script"]) FD fun _ _ _ _ _ _ us hl => match us, hl with | [_], _ => rfl
    refine ⟨K, fd, Fw.spF (Fw.gc K) 1 (Fw.f_law 10000), Fw.tbs.map fun f => (Fw.cA K (f K), Fw.tA K (f K)), KX, fun s v => b s [v] rfl, ⟨fun p hp => ?_, fun p hp => ?_, fun p hp => ?_⟩, fun H a ns hl h1 hS => ?_, fun base kin ns TB => ?_⟩
    · obtain ⟨f, hf, rfl⟩ := List.mem_map.mp hp; exact TL.empty f hf
    · obtain ⟨f, hf, rfl⟩ := List.mem_map.mp hp; exact TL.out f hf
    · obtain ⟨f, hf, rfl⟩ := List.mem_map.mp hp; exact codeHd_of_K KX (TL.hd f hf)
    · obtain ⟨as, pl⟩ := Fw.plain ns hl
      refine Fw.spF_law pl hS (fun p hp => ?_) fun _ _ => trivial
      have q : p.1 ∈ (Fw.gcT K).map (·.1) := List.mem_map.mpr ⟨p, hp, rfl⟩
      have e : (Fw.gcT K).map (·.1) = Fw.tbs.map fun f => Fw.tA K (f K) := rfl
      rw [e] at q
      obtain ⟨f, hf, e2⟩ := List.mem_map.mp q
      exact Fw.tabS_empty (by rw [← e2]; exact h1 _ (List.mem_map.mpr ⟨f, hf, rfl⟩))
    · obtain ⟨f2, fd2, F2, e2, _, _, _, _, _, _, FD2⟩ := (Fw.all_has (P := (PySem.Challenge.rw_formworld_k21_giving_refused).prog) (w := w) (base := base) (g := Fw.gc K) (mg := mg) 10000 T rfl fun f hf => TB _ (List.mem_map.mpr ⟨f, hf, rfl⟩)).ex
      cases hm.symm.trans e2
      cases Fw.fd_same FD FD2
      exact F2
