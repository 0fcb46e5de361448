import PyProof.Rows.All
import PySem.Challenge.RW_turnpowers_k50_values_and_maps_refused
import KE.KStateDown
import HandS.Head0
import HandS.Head1
import HandS.Head2
import HandS.HeadEnd
import Wide.All
import OpenK.AllK
import Wide.FinOn
import HandS.ForMost
import HandS.Walk
import HandS.Style
import HandS.Zip
import HandS.Defaults
import HandS.Property
import HandS.MakeKwOnly
import HandS.HeadHook4
import HandS.Lambda
import HandS.IsInst
import HandS.TupAny
import HandS.Deep
import HandS.WordsExc
import HandS.MakeKw
import HandS.ExcOwn
import HandS.IterVal
import PyProof.FitsInt
import HandS.EndBits
import HandS.HeadWalk
import HandS.Conv
import HandS.SortInts
import HandS.WordsDict
import HandS.More
import HandS.SortKw
import KE.KEqDict
import HandS.OwnEq
import HandS.FStr
import HandS.Dict
import HandS.Small
import KE.SortData
import KE.KDictZip
import KE.KItemsList
import HandS.MapObj
import HandS.ListItems
import KE.KRevSl
import HandS.Exc
import HandS.ExcInit
import HandS.TryOnly
import HandS.ExcField
import PyProof.StrOps2
import HandS.HotCalls
import KE.KExcIs
import HandS.EndTab
section
set_option Elab.async false
set_option linter.all false
set_option maxRecDepth 100000
set_option maxHeartbeats 2000000
namespace Tp
open PySem PySem.Spec PyProof.Rows L2

/-- plain data: what a value tells, without addresses. obj c: an instance of the class number c with its attributes in the order in which they were stored; cell n: the n-th mutable list that is passed about -/
inductive D where
  | non
  | bl (b : Bool)
  | int (i : Int)
  | str (s : Str)
  | lst (xs : List D)
  /-- a list that belongs to somebody else (the script): read only -/
  | fz (xs : List D)
  | tup (xs : List D)
  | dct (kvs : List (Key × D))
  | obj (c : Nat) (xs : List D)
  | cell (n : Nat)
  /-- a lambda: which one, the captured values -/
  | lam (k : Nat) (xs : List D)

end Tp
end
section
set_option Elab.async false
set_option linter.all false
set_option maxRecDepth 100000
set_option maxHeartbeats 2000000
namespace Tp
open PySem PySem.Spec PyProof.Rows L2

/-- what a local holds: plain data, or a thing of its own that nobody else knows: a list, a dict, an instance in the making, a zip just made -/
inductive LV where
  | sh (d : D)
  | ow (xs : List D)
  | od (kvs : List (Key × D))
  | oo (c : Nat) (xs : List D)
  | zp (xs ys : List D)
  /-- a lambda of this def's -/
  | lm (k : Nat)
  /-- an own list of such ones -/
  | lms (ks : List Nat)
/-- an expression's answer: a value (what is not plain is new), or a local's own list, looked at -/
inductive R where
  | v (lv : LV)
  | bw (xs : List D)
  | bd (kvs : List (Key × D))
end Tp
end
section
set_option Elab.async false
set_option linter.all false
set_option maxRecDepth 100000
set_option maxHeartbeats 2000000
namespace Tp
open PySem PySem.Spec PyProof.Rows L2

theorem b2 {a b : Bool} (h : (a && b) = true) : a = true ∧ b = true := Bool.and_eq_true_iff.mp h
end Tp
end
section
set_option Elab.async false
set_option linter.all false
set_option maxRecDepth 100000
set_option maxHeartbeats 2000000
namespace Tp
open PySem PySem.Spec PyProof.Rows L2

/-- the program's classes: attributes in the order of their stores -/
def cdT : Nat → Str × List Str
  | 0 => ("Field", ["own_prime", "own_turns", "own_size", "own_modulus", "own_powers", "own_logs"])
  | 1 => ("Handed", ["handed_field", "handed_steps"])
  | 2 => ("Space", ["own_field", "own_steps"])
  | _ => ("Book", ["own_field", "own_points", "own_many"])
inductive Ty where
  | b (n : String)
  | o (c : Nat)
  deriving DecidableEq
/-- whether a t is a u -/
def isTy (t u : Ty) : Bool := decide (t = u) || (decide (t = .b "bool") && decide (u = .b "int"))
def tys (own : List Nat) : List Ty := [.b "NoneType", .b "bool", .b "int", .b "str", .b "list", .b "tuple", .b "dict"] ++ own.map .o
end Tp
end
section
set_option Elab.async false
set_option linter.all false
set_option maxRecDepth 100000
set_option maxHeartbeats 2000000
namespace Tp
open PySem PySem.Spec PyProof.Rows L2

def tyK (K : PySem.W.Frag) : Ty → Value
  | .b n => .type n
  | .o c => .ref (He.ga K (cdT c).1)
def optB (a b : Option Bool) : Bool := decide (a = b)
def clsB (K : PySem.W.Frag) (c : Nat) : Bool :=
  He.eqO (PySem.W.findIn K (.ref (He.ga K (cdT c).1)) "__class__") (some (some (.builtin "object.__class__"))) && (He.eqO (PySem.W.specialIn K (.builtin "object.__class__") "__get__") (some (some (.builtin "getset_descriptor.__get__"))) &&
    (optB (PySem.W.takesIn K (.builtin "object.__class__")) (some true) && (optB (PySem.W.mroIn K (He.ga K (cdT c).1) (.type "object")) (some true) &&
      (cdT c).2.all fun f => He.eqO (PySem.W.findIn K (.ref (He.ga K (cdT c).1)) f) (some none))))
def isiB (K : PySem.W.Frag) (own : List Nat) (u : Ty) : Bool := (tys own).all fun t => optB (PySem.W.kitOne K (tyK K t) (tyK K u)) (some (isTy t u))
def dvOf : D → He.Dv
  | .bl b => .bl b
  | .int i => .int i
  | .str s => .str s
  | _ => .non
end Tp
end
section
set_option Elab.async false
set_option linter.all false
set_option maxRecDepth 100000
set_option maxHeartbeats 2000000
namespace Tp
open PySem PySem.Spec PyProof.Rows L2

/-- the function behind the property m of the class C -/
def gAd (K : PySem.W.Frag) (C m : Str) : Addr := match PySem.W.recIn K (He.ma K (He.ga K C) m) "property" with
  | some (.ref g :: _) => g
  | _ => 0
/-- what stands at an address, if it is a function -/
def fnA (K : PySem.W.Frag) (a : Addr) : He.FnW := match K.lookup a with
  | some ⟨_, _, .func u, _⟩ => some (u.name, u.qualname, u.params, u.body, u.scope, u.globals, u.closure, u.builtins)
  | _ => none
def okA (K : PySem.W.Frag) (a : Addr) (d : He.DefD) : Bool := PySem.W.keepIn K (.ref a) && match K.lookup a with
  | some ⟨_, _, .func u, _⟩ => PySem.W.codeIn K u.code d.qual && (He.dflB K u.defaults (d.dvs K) && He.kwdB K u.kwdefaults (d.kws K))
  | _ => false
theorem funA {K : PySem.W.Frag} {a : Addr} {d : He.DefD} (e : fnA K a = d.val) (c : okA K a d = true) : ∃ u, FunD K d.name d.qual d.params d.body d.scope (d.dvs K) (d.kws K) a u := by
  obtain ⟨kp, c⟩ := b2 c
  unfold fnA at e
  split at e
  · rename_i oc od u osl q
    rw [q] at c
    obtain ⟨c1, c⟩ := b2 c
    obtain ⟨c2, c3⟩ := b2 c
    cases u
    simp only [He.DefD.val, Option.some.injEq, Prod.mk.injEq] at e
    obtain ⟨h1, h2, h3, h4, h5, h6, h7, h8⟩ := e
    subst h1 h2 h3 h4 h5 h6 h7 h8
    exact ⟨_, ⟨oc, od, _, _, _, _, _, _, _, osl, rfl, q, c1, He.dflB_ok c2, He.kwdB_ok c3⟩, kp⟩
  · cases e
/-- a getter: its class and name stand in at_ -/
def gOf (K : PySem.W.Frag) (d : He.DefD) : Addr := gAd K d.at_.1 (d.at_.2.getD Str.empty)
abbrev AlP : Type := He.AlX × (Bool × List He.FnW)
structure SaysP (fa : List He.Fa) (fn gs : List He.DefD) (ex : PySem.W.Frag → Bool) (w : World) (h : Heap) (K : PySem.W.Frag) : Prop where
  x : He.SaysX fa fn [] [] ex w h K
  g : ∀ d, d ∈ gs → ∃ u, FunD K d.name d.qual d.params d.body d.scope (d.dvs K) (d.kws K) (gOf K d) u
end Tp
end
section
set_option Elab.async false
set_option linter.all false
set_option maxRecDepth 100000
set_option maxHeartbeats 2000000
namespace Tp
open PySem PySem.Spec PyProof.Rows L2
def refsL (o : Obj) : List Addr := match o.data with
  | .cls cd => [cd.ns]
  | .func fd => He.refV fd.code ++ He.refV fd.defaults
  | .dict es _ => es.toList.flatMap fun e => He.refV e.val
  | .seq its _ => its.toList.flatMap He.refV
  | .fields vs => vs.toList.flatMap He.refV
  | _ => []
def lvl (g : Addr → Option Obj) : Nat → List Addr → List Addr
  | 0, as => as
  | n + 1, as => as ++ lvl g n (as.flatMap fun a => match g a with
    | some o => refsL o
    | none => [])
def asL (g : Addr → Option Obj) (n : Nat) : List Addr := lvl g n [mainGlobals]
def forceK {β : Type} : List (Addr × Obj) → (PySem.W.Frag → β) → β
  | [], k => k []
  | (a, o) :: r, k => HandSHeadRun.frNat a fun a => forceK r fun r => k ((a, o) :: r)
theorem forceK_eq {β : Type} : ∀ (l : List (Addr × Obj)) (k : PySem.W.Frag → β), forceK l k = k l
  | [], k => rfl
  | (a, o) :: r, k => by
    show HandSHeadRun.frNat a (fun a => forceK r fun r => k ((a, o) :: r)) = _
    rw [HandSHeadRun.frNat_eq, forceK_eq r]
def bodyQ (fa : List He.Fa) (fn gs : List He.DefD) (ex : PySem.W.Frag → Bool) (K : PySem.W.Frag) : AlP :=
  ((He.obsT fa fn [] K, ex K), (gs.all fun d => okA K (gOf K d) d), gs.map fun d => fnA K (gOf K d))
def obsQ (n : Nat) (fa : List He.Fa) (fn gs : List He.DefD) (ex : PySem.W.Frag → Bool) (g : Addr → Option Obj) : AlP :=
  forceK (He.frT g (asL g n)) (bodyQ fa fn gs ex)
theorem saysQ_of {n : Nat} {fa : List He.Fa} {fn gs : List He.DefD} {ex : PySem.W.Frag → Bool} {w : World} {h : Heap} (e : obsQ n fa fn gs ex h.get? = (He.valX fn [] w, true, gs.map He.DefD.val)) : SaysP fa fn gs ex w h (He.frT h.get? (asL h.get? n)) := by
  unfold obsQ at e
  rw [forceK_eq] at e
  generalize He.frT h.get? (asL h.get? n) = K at e ⊢
  unfold bodyQ at e
  obtain ⟨e1, e2⟩ := Prod.mk.inj e
  obtain ⟨e3, e4⟩ := Prod.mk.inj e2
  obtain ⟨e5, e6⟩ := Prod.mk.inj e1
  refine ⟨⟨e5, e6, (fun p hp => absurd hp List.not_mem_nil), (fun p hp => absurd hp List.not_mem_nil), (fun p hp => absurd hp List.not_mem_nil)⟩, fun d hd => ?_⟩
  obtain ⟨i, hi, rfl⟩ := List.mem_iff_getElem.mp hd
  have e5 : (gs.map fun d => fnA K (gOf K d))[i]? = (gs.map He.DefD.val)[i]? := by rw [e4]
  rw [List.getElem?_map, List.getElem?_map, List.getElem?_eq_getElem hi] at e5
  exact funA (Option.some.inj e5) (List.all_eq_true.mp e3 _ hd)
def hookQ (n : Nat) (fa : List He.Fa) (fn gs : List He.DefD) (ex : PySem.W.Frag → Bool) : PySem.W.Hook where
  α := AlP
  obs := fun s => obsQ n fa fn gs ex s.heap.get?
  val := fun w => (He.valX fn [] w, true, gs.map He.DefD.val)
  says := fun w h => ∃ K : PySem.W.Frag, K.In h ∧ SaysP fa fn gs ex w h K
  of := fun _ _ e => ⟨_, He.frT_in, saysQ_of e⟩
  keeps := fun _ _ _ ⟨K, hK, c⟩ k => ⟨K, PySem.W.Frag.In.keeps hK k, ⟨⟨c.x.t, c.x.more, c.x.hd, c.x.out, fun p hp => k _ _ (c.x.empty p hp)⟩, c.g⟩⟩
theorem obsQ_eq {n : Nat} {fa : List He.Fa} {fn gs : List He.DefD} {ex : PySem.W.Frag → Bool} {g : Addr → Option Obj} {s : Shared} (h : ∀ a, g a = s.heap.get? a) : obsQ n fa fn gs ex g = (hookQ n fa fn gs ex).obs s := by
  rw [show g = s.heap.get? from funext h]; rfl
end Tp
end
section
set_option Elab.async false
set_option linter.all false
set_option maxRecDepth 100000
set_option maxHeartbeats 2000000
namespace Tp
open PySem PySem.Spec PyProof.Rows PySem.SeqAt
def reprB (K : PySem.W.Frag) (C : Str) : Bool := (PySem.W.findIn K (.ref (He.ga K C)) "__repr__" == some (some (.ref (He.fAd K (C, some "__repr__"))))) && PySem.W.isFn K (.ref (He.fAd K (C, some "__repr__")))
end Tp
end
section
set_option Elab.async false
set_option linter.all false
set_option maxRecDepth 100000
set_option maxHeartbeats 2000000
namespace Tp
open PySem PySem.W PySem.Calls PyProof.Rows HandSHeadRun
theorem map3 {α β γ δ : Type} {o : Option α} {f : α → β} {g : α → γ} {h : α → δ} {a : β} {b : γ} {c : δ} (e1 : o.map f = some a) (e2 : o.map g = some b) (e3 : o.map h = some c) : o.map (fun s => (f s, g s, h s)) = some (a, b, c) := by
  cases o with
  | none => cases e1
  | some s =>
    have e1 := Option.some.inj e1
    have e2 := Option.some.inj e2
    have e3 := Option.some.inj e3
    show some (f s, g s, h s) = _
    rw [e1, e2, e3]
def RunL (r : OpenRow) (M : Nat) (w : World) : Prop :=
  ∀ os : OsState, (endF (stepQ (denQ tabQ) r.prog w) M r.prog w os).map (fun s => looksF r.prog (boot_heap w.params) s.abs) = some true
def RunS (r : OpenRow) (q : Program) (M : Nat) (loose : List PySem.Str) (w : World) : Prop :=
  ∀ os : OsState, (endF (stepQ (denQ tabQ) r.prog w) M r.prog w os).map (fun s => seenQ q loose (importedModules r.prog.main.body) (fun s => xlAt q [] s && recOk r.toRowW.records s) s.abs) = some (openGood q loose)
def RunO (r : OpenRow) (H : Hook) (ob : SharedT → H.α) (M : Nat) (w : World) : Prop :=
  ∀ os : OsState, (endF (stepQ (denQ tabQ) r.prog w) M r.prog w os).map ob = some (H.val w)
theorem run_join {r : OpenRow} {q : Program} {H : Hook} {ob : SharedT → H.α} {M : Nat} {loose : List PySem.Str} {w : World} (a : RunL r M w) (b : RunS r q M loose w) (c : RunO r H ob M w) : RunEq r q H ob M loose w := fun os => map3 (a os) (b os) (c os)
end Tp
end
section
set_option Elab.async false
set_option linter.all false
set_option maxRecDepth 100000
set_option maxHeartbeats 2000000
namespace Tp
open PySem PySem.W PySem.Spec PySem.Calls PyProof.Rows L2 HandSHeadRun
def obs1 (n : Nat) (fa : List He.Fa) (fn : List He.DefD) (g : Addr → Option Obj) : He.AlD := forceK (He.frT g (asL g n)) (He.obsD fa fn)
def obs3 (n : Nat) (gs : List He.DefD) (ex : PySem.W.Frag → Bool) (g : Addr → Option Obj) := forceK (He.frT g (asL g n)) fun K => (ex K, (gs.all fun d => okA K (gOf K d) d), gs.map fun d => fnA K (gOf K d))
theorem obsQ_split (n : Nat) (fa : List He.Fa) (fn gs : List He.DefD) (ex : PySem.W.Frag → Bool) (k : Nat) (g : Addr → Option Obj) : obsQ n fa fn gs ex g =
    (((((obs1 n fa (fn.take k) g).1 && (obs1 n [] (fn.drop k) g).1, (obs1 n fa (fn.take k) g).2 ++ (obs1 n [] (fn.drop k) g).2), []), (obs3 n gs ex g).1), (obs3 n gs ex g).2.1, (obs3 n gs ex g).2.2) := by
  unfold obsQ obs1 obs3 bodyQ
  rw [forceK_eq, forceK_eq, forceK_eq, forceK_eq]
  generalize He.frT g (asL g n) = K
  have e1 : (fn.all fun d => d.ok K) = (((fn.take k).all fun d => d.ok K) && (fn.drop k).all fun d => d.ok K) := by rw [← List.all_append, List.take_append_drop]
  have e2 : (fn.map fun d => He.fnW K d.at_) = ((fn.take k).map fun d => He.fnW K d.at_) ++ (fn.drop k).map fun d => He.fnW K d.at_ := by rw [← List.map_append, List.take_append_drop]
  show (((((fa.all fun f => f.ok K) && fn.all fun d => d.ok K, fn.map fun d => He.fnW K d.at_), []), ex K), _, _) = ((((((fa.all fun f => f.ok K) && (fn.take k).all fun d => d.ok K) && (true && (fn.drop k).all fun d => d.ok K), _ ++ _), []), ex K), _, _)
  rw [e1, e2, Bool.true_and, Bool.and_assoc]; rfl
def RunO1 (r : OpenRow) (n : Nat) (fa : List He.Fa) (fn : List He.DefD) (M : Nat) (w : World) : Prop :=
  ∀ os : OsState, (endF (stepQ (denQ tabQ) r.prog w) M r.prog w os).map (fun s => obs1 n fa fn (HandSHeadRun.getT s)) = some (He.valD fn)
def RunO3 (r : OpenRow) (n : Nat) (gs : List He.DefD) (ex : PySem.W.Frag → Bool) (M : Nat) (w : World) : Prop :=
  ∀ os : OsState, (endF (stepQ (denQ tabQ) r.prog w) M r.prog w os).map (fun s => obs3 n gs ex (HandSHeadRun.getT s)) = some (true, true, gs.map He.DefD.val)
theorem runO_join {r : OpenRow} {n : Nat} {fa : List He.Fa} {fn gs : List He.DefD} {ex : PySem.W.Frag → Bool} {M : Nat} {w : World} (k : Nat) (a : RunO1 r n fa (fn.take k) M w) (b : RunO1 r n [] (fn.drop k) M w) (c : RunO3 r n gs ex M w) :
    RunO r (hookQ n fa fn gs ex) (fun s => obsQ n fa fn gs ex (HandSHeadRun.getT s)) M w := fun os => by
  have e := map3 (a os) (b os) (c os)
  cases ho : endF (stepQ (denQ tabQ) r.prog w) M r.prog w os with
  | none => rw [ho] at e; cases e
  | some s =>
    rw [ho] at e
    have e := Option.some.inj e
    obtain ⟨e1, e⟩ := Prod.mk.inj e
    obtain ⟨e2, e3⟩ := Prod.mk.inj e
    show some (obsQ n fa fn gs ex (HandSHeadRun.getT s)) = some (((He.valD fn, []), true), true, gs.map He.DefD.val)
    rw [obsQ_split n fa fn gs ex k, e1, e2, e3]
    show some ((((true, (fn.take k).map He.DefD.val ++ (fn.drop k).map He.DefD.val), []), true), true, gs.map He.DefD.val) = _
    rw [← List.map_append, List.take_append_drop]; rfl
end Tp
end
section
set_option Elab.async false
set_option linter.all false
set_option maxRecDepth 100000
set_option maxHeartbeats 2000000
namespace Tp
open PySem PySem.Spec PyProof.Rows L2

def oexB (K : PySem.W.Frag) (C : Addr) : Bool := match K.lookup C with
  | some ⟨.type "type", _, .cls cd, sl⟩ => (match cd.mro, sl.toList with
    | .ref C' :: bm, [_, _, _, _, some (.builtin n), _] => C' == C && n == "ValueError.__new__" && !cd.hasDel && cd.hasDict && PySem.HandSPX.refsVE bm
    | _, _ => false)
  | _ => false
def xiB (K : PySem.W.Frag) (c a : Str) : Bool := oexB K (He.ga K c) && (decide (PySem.W.findIn K (.ref (He.ga K c)) "__setattr__" = some (some (.builtin "object.__setattr__"))) && (decide (PySem.W.subIn K (.ref (He.ga K c)) (.type "BaseException") = some true) &&
  (decide (PySem.W.typeIn K (.ref (He.ga K c)) = some (.type "type")) && (PySem.W.keepIn K (.ref (He.ga K c)) && (decide (PySem.W.findIn K (.ref (He.ga K c)) "__init__" = some (some (.ref (He.fAd K (c, some "__init__"))))) &&
  (decide (PySem.W.typeIn K (.ref (He.fAd K (c, some "__init__"))) = some (.type "function")) && decide (PySem.W.findIn K (.ref (He.ga K c)) a = some none)))))))
end Tp
end
section
set_option Elab.async false
set_option linter.all false
set_option maxRecDepth 100000
set_option maxHeartbeats 2000000
namespace Tp
open PySem PySem.Spec PyProof.Rows L2

def tryB (K : PySem.W.Frag) (x : Str) (tab : List (Str × Bool)) : Bool := tab.all fun p => decide (PySem.W.exmOne K (.ref (He.ga K p.1)) (.ref (He.ga K x)) = some p.2)
end Tp
end
section
set_option Elab.async false
set_option linter.all false
set_option maxRecDepth 100000
set_option maxHeartbeats 2000000
namespace Tp
open PySem PySem.Spec PyProof.Rows L2
def xfvB (K : PySem.W.Frag) (c f : Str) : Bool := xfB K (He.ga K c) && decide (PySem.W.findIn K (.ref (He.ga K c)) f = some none)
end Tp
end
section
set_option Elab.async false
set_option linter.all false
set_option maxRecDepth 100000
set_option maxHeartbeats 2000000
namespace Tp
open PySem PySem.Spec PyProof.Rows L2
/-- what isinstance asks of an exception's class -/
def isXB (K : PySem.W.Frag) (D : Addr) : Bool := (PySem.W.clsIn K D).isSome && (decide (PySem.W.findIn K (.ref D) "__getattribute__" = some (some (.builtin "BaseException.__getattribute__"))) && (decide (PySem.W.findIn K (.ref D) "__getattr__" = some none) && (decide (PySem.W.subIn K (.ref D) (.type "BaseException") = some true) &&
  (decide (PySem.W.findIn K (.ref D) "__class__" = some (some (.builtin "object.__class__"))) && (decide (PySem.W.specialIn K (.builtin "object.__class__") "__get__" = some (some (.builtin "getset_descriptor.__get__"))) && (decide (PySem.W.takesIn K (.builtin "object.__class__") = some true) && decide (PySem.W.mroIn K D (.type "object") = some true)))))))
/-- a class that is asked for: an own one, a built-in one -/
inductive XCls where
  | own (x : Str)
  | blt (x : String)
def XCls.v (K : PySem.W.Frag) : XCls → Value
  | .own x => .ref (He.ga K x)
  | .blt x => .type x
def isXT (K : PySem.W.Frag) (c : XCls) (tab : List (Str × Bool)) : Bool := tab.all fun p => isXB K (He.ga K p.1) && decide (PySem.W.kitOne K (.ref (He.ga K p.1)) (XCls.v K c) = some p.2)
end Tp
end
section
set_option Elab.async false
set_option linter.all false
set_option maxRecDepth 100000
set_option maxHeartbeats 2000000
namespace Tp
open PySem PySem.Spec PyProof.Rows L2
def tabP (K : PySem.W.Frag) (x : Str) : Addr := ((PySem.W.tabIn K x).getD (0, 0)).2
end Tp
end
section
set_option Elab.async false
set_option linter.all false
set_option maxRecDepth 100000
set_option maxHeartbeats 2000000
namespace Tp
open PySem PySem.Spec PyProof.Rows L2
def codeIs (o : Option Obj) (c : Addr) : Bool := match o with
  | some ⟨_, _, .func fd, _⟩ => (match fd.code with
    | .ref c' => c' == c
    | _ => false)
  | _ => false
/-- a maker's code object and table, checked -/
def mkB (K : PySem.W.Frag) (x : Str) : Bool := match PySem.W.tabIn K x with
  | some (c, P) => (K.lookup P).isNone && codeIs (K.lookup (He.fAd K (x, none))) c
  | none => false
end Tp
end
section
set_option Elab.async false
set_option linter.all false
set_option maxRecDepth 100000
set_option maxHeartbeats 0
namespace Lw
open PySem PySem.Spec PyProof.Rows L2 Tp
def top (i : Nat) : Stmt := PySem.Challenge.pw_turnpowers_k50_values_and_maps_refused.main.body.getD i (.Pass ⟨0, 0, 0, 0⟩)
def mth (i j : Nat) : Stmt := match top i with
  | .ClassDef _ _ _ b _ _ _ _ _ _ _ => b.getD j (.Pass ⟨0, 0, 0, 0⟩)
  | _ => .Pass ⟨0, 0, 0, 0⟩
def mkL : List (Str × Str) := [("_law_fields_right", "_law_fields_right.<locals>.<lambda>"), ("_law_turners_right", "_law_turners_right.<locals>.<lambda>"), ("_law_points_right", "_law_points_right.<locals>.<lambda>")]
def fa : List He.Fa := ([.glo "Field", .cls "Field", .free "isinstance", .free "range", .free "zip", .free "list", .free "len", .free "enumerate", .glo "undone_by", .glo "less_row", .glo "figure_steps", .glo "rows_rank", .glo "figures_of", .free "tuple", .free "int", .free "bool", .glo "is_integer", .glo "is_count", .glo "is_list", .glo "is_in", .free "all", .glo "are_some", .glo "rank_of", .glo "by_figures_of", .glo "power_of", .glo "plus_of", .glo "times_of", .glo "turned_of", .glo "told_of", .free "max"] : List He.Fa) ++ ([.glo "worth_of", .glo "minus_of", .glo "sum_turners", .glo "times_turner", .glo "over_of", .glo "put_turners", .glo "want_field", .glo "want_points", .glo "through_of", .glo "through", .glo "units_of", .int "MOST_ELEMENTS" 13, .glo "is_sum", .glo "worths_of", .glo "want_turner", .glo "table_of", .glo "is_figures", .glo "want_map_table", .glo "turner_by", .glo "map_numbers", .glo "as_map_of", .glo "as_map", .glo "are_one_map", .glo "rank_of_map", .glo "map_rank", .glo "dickson_of", .glo "dickson", .glo "mirror_of", .glo "mirror", .free "divmod"] : List He.Fa) ++ ([.glo "_law_draw", .free "abs", .glo "PRIMES", .glo "without_end", .glo "poly_rest", .glo "poly_of", .glo "told_number", .glo "poly_times", .glo "powers_by", .glo "letter_turns", .glo "is_prime", .glo "are_apart", .glo "poly_less", .int "MOST_TURNS" 12, .glo "is_single", .glo "want_prime", .glo "is_right", .glo "want_at_most", .int "MOST_SIZE" 128, .glo "sized", .glo "all_powers", .glo "logs_by", .free "repr", .glo "TurnError", .glo "InvalidField", .glo "InvalidTurner", .glo "InvalidPoints", .glo "InvalidElements", .glo "InvalidTable", .glo "_law_heard"] : List He.Fa) ++ ([.glo "_law_are", .glo "_law_units", .glo "_law_pick", .glo "_law_pot", .glo "_law_kinds", .glo "_law_size", .glo "_law_fields_right", .glo "_law_turners_right", .glo "_law_points_right", .mkr "Field", .meth "Field" "__repr__", .glo "law"] : List He.Fa)
def fn : List He.DefD := ([⟨("want_field", none), "want_field", "want_field", defArgs (top 39), defBody (top 39), defScope (top 39), [], []⟩, ⟨("undone_by", none), "undone_by", "undone_by", defArgs (top 22), defBody (top 22), defScope (top 22), [], []⟩, ⟨("less_row", none), "less_row", "less_row", defArgs (top 49), defBody (top 49), defScope (top 49), [], []⟩, ⟨("figure_steps", none), "figure_steps", "figure_steps", defArgs (top 50), defBody (top 50), defScope (top 50), [], []⟩, ⟨("rows_rank", none), "rows_rank", "rows_rank", defArgs (top 51), defBody (top 51), defScope (top 51), [], []⟩, ⟨("figures_of", none), "figures_of", "figures_of", defArgs (top 41), defBody (top 41), defScope (top 41), [], []⟩, ⟨("rank_of", none), "rank_of", "rank_of", defArgs (top 52), defBody (top 52), defScope (top 52), [], []⟩, ⟨("is_list", none), "is_list", "is_list", defArgs (top 14), defBody (top 14), defScope (top 14), [], []⟩, ⟨("is_integer", none), "is_integer", "is_integer", defArgs (top 12), defBody (top 12), defScope (top 12), [], []⟩, ⟨("is_count", none), "is_count", "is_count", defArgs (top 13), defBody (top 13), defScope (top 13), [], []⟩] : List He.DefD) ++ ([⟨("is_in", none), "is_in", "is_in", defArgs (top 53), defBody (top 53), defScope (top 53), [], []⟩, ⟨("are_some", none), "are_some", "are_some", defArgs (top 64), defBody (top 64), defScope (top 64), [], []⟩, ⟨("want_points", none), "want_points", "want_points", defArgs (top 65), defBody (top 65), defScope (top 65), [], []⟩, ⟨("by_figures_of", none), "by_figures_of", "by_figures_of", defArgs (top 42), defBody (top 42), defScope (top 42), [], []⟩, ⟨("plus_of", none), "plus_of", "plus_of", defArgs (top 43), defBody (top 43), defScope (top 43), [], []⟩, ⟨("times_of", none), "times_of", "times_of", defArgs (top 45), defBody (top 45), defScope (top 45), [], []⟩, ⟨("power_of", none), "power_of", "power_of", defArgs (top 47), defBody (top 47), defScope (top 47), [], []⟩, ⟨("turned_of", none), "turned_of", "turned_of", defArgs (top 48), defBody (top 48), defScope (top 48), [], []⟩, ⟨("worth_of", none), "worth_of", "worth_of", defArgs (top 62), defBody (top 62), defScope (top 62), [], []⟩, ⟨("minus_of", none), "minus_of", "minus_of", defArgs (top 44), defBody (top 44), defScope (top 44), [], []⟩] : List He.DefD) ++ ([⟨("told_of", none), "told_of", "told_of", defArgs (top 56), defBody (top 56), defScope (top 56), [], []⟩, ⟨("sum_turners", none), "sum_turners", "sum_turners", defArgs (top 59), defBody (top 59), defScope (top 59), [], []⟩, ⟨("put_turners", none), "put_turners", "put_turners", defArgs (top 61), defBody (top 61), defScope (top 61), [], []⟩, ⟨("times_turner", none), "times_turner", "times_turner", defArgs (top 60), defBody (top 60), defScope (top 60), [], []⟩, ⟨("over_of", none), "over_of", "over_of", defArgs (top 46), defBody (top 46), defScope (top 46), [], []⟩, ⟨("through_of", none), "through_of", "through_of", defArgs (top 66), defBody (top 66), defScope (top 66), [], []⟩, ⟨("through", none), "through", "through", defArgs (top 67), defBody (top 67), defScope (top 67), [], []⟩, ⟨("units_of", none), "units_of", "units_of", defArgs (top 69), defBody (top 69), defScope (top 69), [], []⟩, ⟨("worths_of", none), "worths_of", "worths_of", defArgs (top 72), defBody (top 72), defScope (top 72), [], []⟩, ⟨("is_sum", none), "is_sum", "is_sum", defArgs (top 57), defBody (top 57), defScope (top 57), [], []⟩] : List He.DefD) ++ ([⟨("want_turner", none), "want_turner", "want_turner", defArgs (top 58), defBody (top 58), defScope (top 58), [], []⟩, ⟨("table_of", none), "table_of", "table_of", defArgs (top 75), defBody (top 75), defScope (top 75), [], []⟩, ⟨("is_figures", none), "is_figures", "is_figures", defArgs (top 30), defBody (top 30), defScope (top 30), [], []⟩, ⟨("want_map_table", none), "want_map_table", "want_map_table", defArgs (top 74), defBody (top 74), defScope (top 74), [], []⟩, ⟨("turner_by", none), "turner_by", "turner_by", defArgs (top 76), defBody (top 76), defScope (top 76), [], []⟩, ⟨("map_numbers", none), "map_numbers", "map_numbers", defArgs (top 70), defBody (top 70), defScope (top 70), [], []⟩, ⟨("as_map_of", none), "as_map_of", "as_map_of", defArgs (top 71), defBody (top 71), defScope (top 71), [], []⟩, ⟨("as_map", none), "as_map", "as_map", defArgs (top 77), defBody (top 77), defScope (top 77), [], []⟩, ⟨("are_one_map", none), "are_one_map", "are_one_map", defArgs (top 78), defBody (top 78), defScope (top 78), [], []⟩, ⟨("rank_of_map", none), "rank_of_map", "rank_of_map", defArgs (top 73), defBody (top 73), defScope (top 73), [], []⟩] : List He.DefD) ++ ([⟨("map_rank", none), "map_rank", "map_rank", defArgs (top 79), defBody (top 79), defScope (top 79), [], []⟩, ⟨("dickson_of", none), "dickson_of", "dickson_of", defArgs (top 81), defBody (top 81), defScope (top 81), [], []⟩, ⟨("dickson", none), "dickson", "dickson", defArgs (top 83), defBody (top 83), defScope (top 83), [], []⟩, ⟨("mirror_of", none), "mirror_of", "mirror_of", defArgs (top 82), defBody (top 82), defScope (top 82), [], []⟩, ⟨("mirror", none), "mirror", "mirror", defArgs (top 84), defBody (top 84), defScope (top 84), [], []⟩, ⟨("_law_draw", none), "_law_draw", "_law_draw", defArgs (top 87), defBody (top 87), defScope (top 87), [], []⟩, ⟨("_law_pick", none), "_law_pick", "_law_pick", defArgs (top 88), defBody (top 88), defScope (top 88), [], []⟩, ⟨("_law_pot", none), "_law_pot", "_law_pot", defArgs (top 86), defBody (top 86), defScope (top 86), [], []⟩, ⟨("_law_kinds", none), "_law_kinds", "_law_kinds", defArgs (top 89), defBody (top 89), defScope (top 89), [], []⟩, ⟨("want_prime", none), "want_prime", "want_prime", defArgs (top 29), defBody (top 29), defScope (top 29), [], []⟩] : List He.DefD) ++ ([⟨("want_at_most", none), "want_at_most", "want_at_most", defArgs (top 15), defBody (top 15), defScope (top 15), [], []⟩, ⟨("sized", none), "sized", "sized", defArgs (top 37), defBody (top 37), defScope (top 37), [], []⟩, ⟨("poly_of", none), "poly_of", "poly_of", defArgs (top 33), defBody (top 33), defScope (top 33), [], []⟩, ⟨("without_end", none), "without_end", "without_end", defArgs (top 20), defBody (top 20), defScope (top 20), [], []⟩, ⟨("poly_rest", none), "poly_rest", "poly_rest", defArgs (top 21), defBody (top 21), defScope (top 21), [], []⟩, ⟨("poly_times", none), "poly_times", "poly_times", defArgs (top 23), defBody (top 23), defScope (top 23), [], []⟩, ⟨("told_number", none), "told_number", "told_number", defArgs (top 32), defBody (top 32), defScope (top 32), [], []⟩, ⟨("powers_by", none), "powers_by", "powers_by", defArgs (top 34), defBody (top 34), defScope (top 34), [], []⟩, ⟨("all_powers", none), "all_powers", "all_powers", defArgs (top 35), defBody (top 35), defScope (top 35), [], []⟩, ⟨("logs_by", none), "logs_by", "logs_by", defArgs (top 36), defBody (top 36), defScope (top 36), [], []⟩] : List He.DefD) ++ ([⟨("letter_turns", none), "letter_turns", "letter_turns", defArgs (top 26), defBody (top 26), defScope (top 26), [], []⟩, ⟨("are_apart", none), "are_apart", "are_apart", defArgs (top 25), defBody (top 25), defScope (top 25), [], []⟩, ⟨("is_prime", none), "is_prime", "is_prime", defArgs (top 28), defBody (top 28), defScope (top 28), [], []⟩, ⟨("poly_less", none), "poly_less", "poly_less", defArgs (top 24), defBody (top 24), defScope (top 24), [], []⟩, ⟨("is_single", none), "is_single", "is_single", defArgs (top 27), defBody (top 27), defScope (top 27), [], []⟩, ⟨("is_right", none), "is_right", "is_right", defArgs (top 31), defBody (top 31), defScope (top 31), [], []⟩, ⟨("Field", some "__init__"), "__init__", "Field.__init__", defArgs (mth 38 0), defBody (mth 38 0), defScope (mth 38 0), [], []⟩, ⟨("_law_size", none), "_law_size", "_law_size", defArgs (top 90), defBody (top 90), defScope (top 90), [], []⟩, ⟨("Field", some "__repr__"), "__repr__", "Field.__repr__", defArgs (mth 38 6), defBody (mth 38 6), defScope (mth 38 6), [], []⟩, ⟨("_law_heard", none), "_law_heard", "_law_heard", defArgs (top 92), defBody (top 92), defScope (top 92), [], []⟩] : List He.DefD) ++ ([⟨("_law_are", none), "_law_are", "_law_are", defArgs (top 93), defBody (top 93), defScope (top 93), [], []⟩, ⟨("_law_fields_right", none), "_law_fields_right", "_law_fields_right", defArgs (top 94), defBody (top 94), defScope (top 94), [], []⟩, ⟨("_law_turners_right", none), "_law_turners_right", "_law_turners_right", defArgs (top 95), defBody (top 95), defScope (top 95), [], []⟩, ⟨("_law_units", none), "_law_units", "_law_units", defArgs (top 91), defBody (top 91), defScope (top 91), [], []⟩, ⟨("_law_points_right", none), "_law_points_right", "_law_points_right", defArgs (top 96), defBody (top 96), defScope (top 96), [], []⟩, ⟨("law", none), "law", "law", defArgs (top 97), defBody (top 97), defScope (top 97), [], []⟩, ⟨("InvalidField", some "__init__"), "__init__", "InvalidField.__init__", defArgs (mth 4 0), defBody (mth 4 0), defScope (mth 4 0), [], []⟩, ⟨("InvalidPoints", some "__init__"), "__init__", "InvalidPoints.__init__", defArgs (mth 7 0), defBody (mth 7 0), defScope (mth 7 0), [], []⟩, ⟨("InvalidElements", some "__init__"), "__init__", "InvalidElements.__init__", defArgs (mth 3 0), defBody (mth 3 0), defScope (mth 3 0), [], []⟩, ⟨("InvalidTurner", some "__init__"), "__init__", "InvalidTurner.__init__", defArgs (mth 5 0), defBody (mth 5 0), defScope (mth 5 0), [], []⟩] : List He.DefD) ++ ([⟨("InvalidTable", some "__init__"), "__init__", "InvalidTable.__init__", defArgs (mth 9 0), defBody (mth 9 0), defScope (mth 9 0), [], []⟩] : List He.DefD)
def gs : List He.DefD := ([] : List He.DefD)
def ex (K : PySem.W.Frag) : Bool := (clsB K 0) && (isiB K [0] (.o 0)) && (xiB K "InvalidField" "value") && (isiB K [0] (.b "list")) && (isiB K [0] (.b "tuple")) && (isiB K [0] (.b "int")) && (isiB K [0] (.b "bool")) && (xiB K "InvalidPoints" "value") && (xiB K "InvalidElements" "value") && (xiB K "InvalidTurner" "value") && (xiB K "InvalidTable" "value") && (He.tupB K "PRIMES" (([.int 2, .int 3, .int 5, .int 7] : List D).map dvOf)) && (xfvB K "InvalidField" "value") && (reprB K (cdT 0).1) && (isXT K (.own "TurnError") [("InvalidElements", true), ("InvalidField", true), ("InvalidPoints", true), ("InvalidTable", true), ("InvalidTurner", true)]) && (tryB K "InvalidField" [("InvalidElements", false), ("InvalidField", true), ("InvalidPoints", false), ("InvalidTable", false), ("InvalidTurner", false)]) && (xfvB K "InvalidTurner" "value") && (tryB K "InvalidTurner" [("InvalidElements", false), ("InvalidField", false), ("InvalidPoints", false), ("InvalidTable", false), ("InvalidTurner", true)]) && (xfvB K "InvalidPoints" "value") && (tryB K "InvalidPoints" [("InvalidElements", false), ("InvalidField", false), ("InvalidPoints", true), ("InvalidTable", false), ("InvalidTurner", false)]) && (xfvB K "InvalidElements" "value") && (tryB K "InvalidElements" [("InvalidElements", true), ("InvalidField", false), ("InvalidPoints", false), ("InvalidTable", false), ("InvalidTurner", false)]) && (xfvB K "InvalidTable" "value") && (tryB K "InvalidTable" [("InvalidElements", false), ("InvalidField", false), ("InvalidPoints", false), ("InvalidTable", true), ("InvalidTurner", false)]) && (mkB K "_law_fields_right") && (mkB K "_law_turners_right") && (mkB K "_law_points_right") && (decide ((mkL.map fun m => tabP K m.1).Nodup)) && true
end Lw
end
section
set_option Elab.async false
set_option linter.all false
set_option maxRecDepth 100000
set_option maxHeartbeats 0
namespace Lw
open PySem PySem.Spec PyProof.Rows L2 Tp
def lo : List Str := (["TurnError", "LimitError", "InvalidElements", "InvalidField", "InvalidTurner", "InvalidModulus", "InvalidPoints", "InvalidPrime", "InvalidTable", "TooMany", "is_integer", "is_count", "is_list", "want_at_most", "PRIMES", "MOST_SIZE", "MOST_TURNS", "without_end", "poly_rest", "undone_by", "poly_times", "poly_less", "are_apart", "letter_turns", "is_single", "is_prime", "want_prime", "is_figures", "is_right", "told_number"] : List Str) ++ (["poly_of", "powers_by", "all_powers", "logs_by", "sized", "Field", "want_field", "figures_of", "by_figures_of", "plus_of", "minus_of", "times_of", "over_of", "power_of", "turned_of", "less_row", "figure_steps", "rows_rank", "rank_of", "is_in", "MOST_ELEMENTS", "told_of", "is_sum", "want_turner", "sum_turners", "times_turner", "put_turners", "worth_of", "are_some", "want_points"] : List Str) ++ (["through_of", "through", "units_of", "map_numbers", "as_map_of", "worths_of", "rank_of_map", "want_map_table", "table_of", "turner_by", "as_map", "are_one_map", "map_rank", "dickson_of", "mirror_of", "dickson", "mirror", "_law_pot", "_law_draw", "_law_pick", "_law_kinds", "_law_size", "_law_units", "_law_heard", "_law_are"] : List Str)
abbrev R : PySem.W.OpenRow := PySem.W.OpenLaw.row PySem.Challenge.rw_turnpowers_k50_values_and_maps_refused
abbrev hk : PySem.W.Hook := hookQ 6 fa fn gs ex
def ob (s : PySem.W.SharedT) : AlP := obsQ 6 fa fn gs ex (HandSHeadRun.getT s)
theorem ob_eq (s : PySem.W.SharedT) : ob s = hk.obs s.abs := obsQ_eq (HandSHeadRun.getT_eq s)
theorem runL (w : World) : Tp.RunL R 100000 w := by
  intro os
  kernel_rfl
theorem runS (w : World) : Tp.RunS R (PySem.W.view R.prog [94, 95, 96, 97]) 100000 lo w := by
  intro os
  kernel_rfl
theorem runO1 (w : World) : Tp.RunO1 R 6 fa (fn.take 40) 100000 w := by
  intro os
  kernel_rfl
theorem runO2 (w : World) : Tp.RunO1 R 6 [] (fn.drop 40) 100000 w := by
  intro os
  kernel_rfl
theorem runO3 (w : World) : Tp.RunO3 R 6 gs ex 100000 w := by
  intro os
  kernel_rfl
theorem runO (w : World) : Tp.RunO R hk ob 100000 w := Tp.runO_join 40 (runO1 w) (runO2 w) (runO3 w)
theorem run (w : World) : HandSHeadRun.RunEq R (PySem.W.view R.prog [94, 95, 96, 97]) hk ob 100000 lo w := Tp.run_join (runL w) (runS w) (runO w)
end Lw
end
section
set_option Elab.async false
set_option maxRecDepth 100000
set_option maxHeartbeats 0
open PySem PySem.W PySem.Calls PyProof.Rows HandSHeadRun
theorem Lw.g_e : opening Lw.R.prog = plainProg Lw.R.prog.main.scope.names := by kernel_rfl
theorem Lw.g_f : ∀ s, fenceModules? Lw.R.prog s = some s := fun s => by kernel_rfl
theorem Lw.g_def : defOf (view Lw.R.prog [94, 95, 96, 97]) Lw.R.name = some (topDef Lw.R.prog 97, []) := by kernel_rfl
theorem Lw.g_p : Lw.R.prog.theDef Lw.R.name = some ((topDef Lw.R.prog 97).params, (topDef Lw.R.prog 97).body, (topDef Lw.R.prog 97).scope) := by kernel_rfl
theorem Lw.g_k : kwWritten? (topDef Lw.R.prog 97).params.kwonlyargs (topDef Lw.R.prog 97).params.kw_defaults = some [] := by kernel_rfl
theorem Lw.g_ok : (chainsOk (view Lw.R.prog [94, 95, 96, 97]) && opensWell Lw.R.prog && (frees Lw.R.toRowW && Lw.R.within.isEmpty)) = true := by decide +kernel
theorem Lw.g_b : Lw.R.prog.bare := ⟨rfl, rfl, rfl, rfl, rfl, by decide +kernel⟩
end
section
set_option Elab.async false
set_option linter.all false
set_option maxRecDepth 100000
set_option maxHeartbeats 2000000
/-! TpA: plain data, how it lies in the abstract heap, what a piece of code may change. -/
namespace Tp
open PySem PySem.Spec PyProof.Rows L2

/-- what is told of a lambda: the check that its parts keep, the captured names; the names of the def around it -/
structure LamSig where
  ok : Arguments → Expr → Scope → Bool
  N : List Str
  msc : List (Str × NameKind)

/-- the attributes of the package's exceptions, the last one set first -/
def xfT (c : Str) : List Str := if c = "TooMany" then ["limit", "what"] else if c = "InvalidLines" ∨ c = "CommandFailed" then ["position"] else if c = "InvalidText" then ["line"] else if c = "LabelTaken" then ["label"] else if c = "NameTaken" then ["name"] else ["value"]
/-- where the code runs -/
structure Gam where
  P : Program
  w : World
  K : PySem.W.Frag
  mg : Str → Option Value
  base : Heap
  /-- the classes: name, attributes in order -/
  cd : Nat → Str × List Str
  /-- the exceptions' attributes -/
  xf : Str → List Str
  /-- the lists whose text is under way -/
  ug : List Addr := []
  /-- the makers' tables of code objects, the names of these -/
  tb : List (Addr × Str) := []
  /-- the program's lambdas -/
  lt : List LamSig := []

/-- the immutable part of the heap and the cells -/
structure Im where
  G : Hp
  κ : List Addr
  /-- the instance in the making -/
  me : Option Addr

/-- the code object at c bears the name q -/
def CodeAt (c : Addr) (q : Str) : HO := .ext fun h => ∃ (oc : Obj) (vs : Array Value) (t : Tok), h.get? c = some oc ∧ oc.data = .fields vs ∧ vs[1]? = some (.str q t)
/-- the function at f, of a lambda -/
def FnO (f : Addr) (p : Arguments) (b : Expr) (sc : Scope) (q : Str) (clo : List (Str × Addr)) (pm : Value) (c' : Addr) (ctv : Value) : HO := .ext fun h => h.get? f = some (PySem.W.kla_obj "<lambda>" q p b sc clo pm c' ctv)
/-- v is a lambda of these parts, its cells clo -/
def LamV (I : Im) (p : Arguments) (b : Expr) (sc : Scope) (clo : List (Str × Addr)) (v : V) : Prop := ∃ (f c' : Addr) (q : Str) (pm ctv : Value), v = .ref f ∧ I.G f = some (FnO f p b sc q clo pm c' ctv)
/-- the cells hold the captured values -/
structure CloAt (base : Heap) (clo : List (Str × Addr)) (N : List Str) (vs : List V) : Prop where
  len : vs.length = N.length
  inj : ∀ x y c, clo.lookup x = some c → clo.lookup y = some c → x = y
  cell : ∀ x c, clo.lookup x = some c → ∃ u, base.IsCell c u
  at_ : ∀ (i : Nat) x, N[i]? = some x → ∃ c v u, clo.lookup x = some c ∧ vs[i]? = some v ∧ RelV v u ∧ base.IsCell c (some u)
section
variable (Γ : Gam)
mutual
def Rep (I : Im) : D → V → Prop
  | .non, v => v = .non
  | .bl b, v => v = .bl b
  | .int i, v => v = .int i
  | .str s, v => v = .str s
  | .lst xs, v => ∃ a vs, v = .ref a ∧ I.G a = some (.lst vs) ∧ Reps I xs vs
  | .fz xs, v => ∃ a vs, v = .ref a ∧ SqL Γ.K I.G a vs ∧ Reps I xs vs
  | .tup xs, v => ∃ a vs, v = .ref a ∧ SqT Γ.K I.G a vs ∧ Reps I xs vs
  | .dct kvs, v => ∃ a o us, v = .ref a ∧ I.G a = some (.frz o (.dK us)) ∧ RepK I kvs us
  | .obj c xs, v => ∃ a dx us, v = .ref a ∧ I.G a = some (.ins (He.ga Γ.K (Γ.cd c).1) dx us) ∧ us.map (·.1) = (Γ.cd c).2 ∧ Reps I xs (us.map (·.2))
  | .cell n, v => ∃ a, v = .ref a ∧ I.κ[n]? = some a
  | .lam k xs, v => ∃ L p b sc clo vs, Γ.lt[k]? = some L ∧ L.ok p b sc = true ∧ LamV I p b sc clo v ∧ CloAt Γ.base clo L.N vs ∧ Reps I xs vs
def Reps (I : Im) : List D → List V → Prop
  | [], vs => vs = []
  | x :: xs, vs => ∃ v r, vs = v :: r ∧ Rep I x v ∧ Reps I xs r
def RepK (I : Im) : List (Key × D) → List (Key × V) → Prop
  | [], vs => vs = []
  | x :: xs, vs => ∃ v r, vs = (x.1, v) :: r ∧ Rep I x.2 v ∧ RepK I xs r
end

/-- what the table at p tells -/
def TabAt (H : Hp) (p : Addr × Str) : Prop := ∃ ps : Array Value, H p.1 = some (.tbl ps) ∧ TriplesOk ps.toList ∧ ∀ (pos : Pos) (cv : Value), codeAmong pos ps.toList = some cv → ∃ c, cv = .ref c ∧ H c = some (CodeAt c p.2)
theorem TabAt.keep {H H' : Hp} {p : Addr × Str} (h : ∀ a o, H a = some o → ((∃ ps, o = .tbl ps) ∨ ∃ φ, o = .ext φ) → H' a = some o) (t : TabAt H p) : TabAt H' p := by
  obtain ⟨ps, h1, h2, h3⟩ := t
  refine ⟨ps, h _ _ h1 (.inl ⟨_, rfl⟩), h2, fun pos cv e => ?_⟩
  obtain ⟨c, e1, e2⟩ := h3 pos cv e
  exact ⟨c, e1, h _ _ e2 (.inr ⟨_, rfl⟩)⟩
/-- the code objects of the lambdas that are told -/
def LcOk (H G : Hp) : Prop := ∀ (f : Addr) (p : Arguments) (b : Expr) (sc : Scope) (q : Str) (clo : List (Str × Addr)) (pm : Value) (c' : Addr) (ctv : Value), G f = some (FnO f p b sc q clo pm c' ctv) → H c' = some (CodeAt c' q)
theorem LcOk.keep {H H' G G' : Hp} (t : LcOk H G) (h : ∀ a o, H a = some o → ((∃ ps, o = .tbl ps) ∨ ∃ φ, o = .ext φ) → H' a = some o) (g : ∀ f φ, G' f = some (.ext φ) → G f = some (.ext φ)) : LcOk H' G' := fun f p b sc q clo pm c' ctv e =>
  h _ _ (t f p b sc q clo pm c' ctv (g f _ e)) (.inr ⟨_, rfl⟩)
/-- not what is told by a property alone -/
def NX : HO → Prop
  | .ext _ => False
  | .tbl _ => False
  | _ => True
theorem LcOk.more {H G : Hp} {a : Addr} {o : HO} (t : LcOk H G) (n : NX o) : LcOk H (upd G a o) := fun f p b sc q clo pm c' ctv e => by
  by_cases h : f = a
  · subst h
    rw [upd_same] at e
    cases e
    exact n.elim
  · rw [upd_ne h] at e
    exact t f p b sc q clo pm c' ctv e
/-- not a table -/
def NT : HO → Prop
  | .tbl _ => False
  | _ => True
/-- what a piece of code may write at: nothing known, or a thing of a local's own -/
def Wr : Option HO → Prop
  | none => True
  | some (.lst _) => True
  | some (.dK _) => True
  | some (.ins _ _ _) => True
  | _ => False
theorem Wr.nx {H : Hp} {a : Addr} {o : HO} (h : Wr (H a)) (e : H a = some o) : NX o := by
  rw [e] at h
  cases o <;> first | trivial | exact h.elim
theorem Wr.keep {H : Hp} {a : Addr} {o' : HO} (h : Wr (H a)) : ∀ b o, H b = some o → ((∃ ps, o = .tbl ps) ∨ ∃ φ, o = .ext φ) → upd H a o' b = some o := fun b o e q => by
  rw [upd_ne]
  · exact e
  · rintro rfl
    rw [e] at h
    rcases q with ⟨_, rfl⟩ | ⟨_, rfl⟩
    · exact h
    · exact h
/-- a list or a tuple with an own object in it: no plain data -/
def NoRead (K : PySem.W.Frag) (G : Hp) (b : Addr) : Prop := ∃ vs x C dx us, (SqL K G b vs ∨ SqT K G b vs) ∧ V.ref x ∈ vs ∧ G x = some (.ins C dx us)
/-- the state as the data tell it: T what the cells hold -/
structure Wf (H : Hp) (I : Im) (T : List (List D)) : Prop where
  gh : ∀ a o, I.G a = some o → H a = some o
  nd : I.κ.Nodup
  kg : ∀ a, a ∈ I.κ → I.G a = none
  len : I.κ.length = T.length
  cells : ∀ (n : Nat) a ds, I.κ[n]? = some a → T[n]? = some ds → ∃ vs, H a = some (.lst vs) ∧ Reps Γ I ds vs
  ug : ∀ b, b ∈ Γ.ug → NoRead Γ.K I.G b
  tb : ∀ p, p ∈ Γ.tb → TabAt H p
  lc : LcOk H I.G
  tg : ∀ p, p ∈ Γ.tb → I.G p.1 = none
end

/-- what may have become of the heap: all that was tracked, but the cells and what O owns, is as it was -/
structure Ext (O : Addr → Prop) (H : Hp) (I : Im) (H' : Hp) (I' : Im) : Prop where
  gg : ∀ a o, I.G a = some o → I'.G a = some o
  kk : ∀ (n : Nat) a, I.κ[n]? = some a → I'.κ[n]? = some a
  fr : ∀ a o, H a = some o → a ∉ I.κ → ¬ O a → NT o → H' a = some o
  th : ∀ a, H a ≠ none → H' a ≠ none
  gn : ∀ a, I'.G a ≠ none → I.G a ≠ none ∨ H a = none ∨ O a
  kn : ∀ a, a ∈ I'.κ → a ∈ I.κ ∨ H a = none
  mm : I'.me = I.me

abbrev O0 : Addr → Prop := fun _ => False

section
variable {Γ : Gam}
theorem Ext.refl {O : Addr → Prop} {H : Hp} {I : Im} : Ext O H I H I :=
  ⟨fun _ _ h => h, fun _ _ h => h, fun _ _ h _ _ _ => h, fun _ h => h, fun _ h => .inl h, fun _ h => .inl h, rfl⟩
theorem Ext.trans {O O1 O2 : Addr → Prop} {H H1 H2 : Hp} {I I1 I2 : Im} (a : Ext O1 H I H1 I1) (b : Ext O2 H1 I1 H2 I2)
    (h1 : ∀ x, O1 x → O x) (h2 : ∀ x, O2 x → O x ∨ H x = none) : Ext O H I H2 I2 where
  gg := fun x o h => b.gg x o (a.gg x o h)
  kk := fun n x h => b.kk n x (a.kk n x h)
  fr := fun x o h nk no nt => b.fr x o (a.fr x o h nk (fun q => no (h1 x q)) nt) (fun q => (a.kn x q).elim nk fun z => by rw [h] at z; cases z)
    (fun q => (h2 x q).elim no fun z => by rw [h] at z; cases z) nt
  th := fun x h => b.th x (a.th x h)
  gn := fun x h => by
    rcases b.gn x h with q | q | q
    · rcases a.gn x q with r | r | r
      · exact .inl r
      · exact .inr (.inl r)
      · exact .inr (.inr (h1 x r))
    · refine .inr (.inl ?_)
      cases e : H x with
      | none => rfl
      | some o => exact absurd q (a.th x (by rw [e]; simp))
    · rcases h2 x q with r | r
      · exact .inr (.inr r)
      · exact .inr (.inl r)
  mm := b.mm.trans a.mm
  kn := fun x h => by
    rcases b.kn x h with q | q
    · exact a.kn x q
    · refine .inr ?_
      cases e : H x with
      | none => rfl
      | some o => exact absurd q (a.th x (by rw [e]; simp))
theorem Ext.tr0 {H H1 H2 : Hp} {I I1 I2 : Im} (a : Ext O0 H I H1 I1) (b : Ext O0 H1 I1 H2 I2) : Ext O0 H I H2 I2 := a.trans b (fun _ h => h) fun _ h => h.elim
theorem Ext.mono {O O' : Addr → Prop} {H H' : Hp} {I I' : Im} (a : Ext O H I H' I') (h : ∀ x, O x → O' x) : Ext O' H I H' I' :=
  a.trans Ext.refl h fun _ q => .inl q
/-- tracked things stay readable -/
theorem SqL.ext {K : PySem.W.Frag} {G G' : Hp} {a : Addr} {vs : List V} (h : ∀ a o, G a = some o → G' a = some o) (q : SqL K G a vs) : SqL K G' a vs := by
  rcases q with (q | ⟨o, q⟩) | q
  · exact .inl (.inl (h _ _ q))
  · exact .inl (.inr ⟨o, h _ _ q⟩)
  · exact .inr q
theorem SqT.ext {K : PySem.W.Frag} {G G' : Hp} {a : Addr} {vs : List V} (h : ∀ a o, G a = some o → G' a = some o) (q : SqT K G a vs) : SqT K G' a vs := by
  rcases q with (q | ⟨o, q⟩) | q
  · exact .inl (.inl (h _ _ q))
  · exact .inl (.inr ⟨o, h _ _ q⟩)
  · exact .inr q

theorem NoRead.mono {K : PySem.W.Frag} {G G' : Hp} {b : Addr} (h : NoRead K G b) (e : ∀ a o, G a = some o → G' a = some o) : NoRead K G' b := by
  obtain ⟨vs, x, C, dx, us, h1, h2, h3⟩ := h
  exact ⟨vs, x, C, dx, us, h1.imp (SqL.ext e) (SqT.ext e), h2, e _ _ h3⟩
structure Im.Le (I I' : Im) : Prop where
  gg : ∀ a o, I.G a = some o → I'.G a = some o
  kk : ∀ (n : Nat) a, I.κ[n]? = some a → I'.κ[n]? = some a
  mm : I'.me = I.me
theorem Ext.le {O : Addr → Prop} {H H' : Hp} {I I' : Im} (e : Ext O H I H' I') : Im.Le I I' := ⟨e.gg, e.kk, e.mm⟩

mutual
theorem Rep.mono0 {I I' : Im} (eg : ∀ a o, I.G a = some o → I'.G a = some o) (ek : ∀ (n : Nat) a, I.κ[n]? = some a → I'.κ[n]? = some a) : ∀ {d : D} {v : V}, Rep Γ I d v → Rep Γ I' d v
  | .non, _, h => h
  | .bl _, _, h => h
  | .int _, _, h => h
  | .str _, _, h => h
  | .lst _, _, h => by
    simp only [Rep] at h ⊢
    obtain ⟨a, vs, h1, h2, h3⟩ := h
    exact ⟨a, vs, h1, eg _ _ h2, Reps.mono0 eg ek h3⟩
  | .fz _, _, h => by
    simp only [Rep] at h ⊢
    obtain ⟨a, vs, h1, h2, h3⟩ := h
    exact ⟨a, vs, h1, SqL.ext eg h2, Reps.mono0 eg ek h3⟩
  | .tup _, _, h => by
    simp only [Rep] at h ⊢
    obtain ⟨a, vs, h1, h2, h3⟩ := h
    exact ⟨a, vs, h1, SqT.ext eg h2, Reps.mono0 eg ek h3⟩
  | .dct _, _, h => by
    simp only [Rep] at h ⊢
    obtain ⟨a, o, vs, h1, h2, h3⟩ := h
    exact ⟨a, o, vs, h1, eg _ _ h2, RepK.mono0 eg ek h3⟩
  | .obj _ _, _, h => by
    simp only [Rep] at h ⊢
    obtain ⟨a, dx, vs, h1, h2, h3, h4⟩ := h
    exact ⟨a, dx, vs, h1, eg _ _ h2, h3, Reps.mono0 eg ek h4⟩
  | .cell _, _, h => by
    simp only [Rep] at h ⊢
    obtain ⟨a, h1, h2⟩ := h
    exact ⟨a, h1, ek _ _ h2⟩
  | .lam _ _, _, h => by
    simp only [Rep] at h ⊢
    obtain ⟨L, p, b, sc, clo, vs, h1, h0, ⟨f, c', q, pm, ctv, h2, h3⟩, h5, h6⟩ := h
    exact ⟨L, p, b, sc, clo, vs, h1, h0, ⟨f, c', q, pm, ctv, h2, eg _ _ h3⟩, h5, Reps.mono0 eg ek h6⟩
theorem Reps.mono0 {I I' : Im} (eg : ∀ a o, I.G a = some o → I'.G a = some o) (ek : ∀ (n : Nat) a, I.κ[n]? = some a → I'.κ[n]? = some a) : ∀ {ds : List D} {vs : List V}, Reps Γ I ds vs → Reps Γ I' ds vs
  | [], _, h => h
  | _ :: _, _, h => by
    simp only [Reps] at h ⊢
    obtain ⟨v, r, h1, h2, h3⟩ := h
    exact ⟨v, r, h1, Rep.mono0 eg ek h2, Reps.mono0 eg ek h3⟩
theorem RepK.mono0 {I I' : Im} (eg : ∀ a o, I.G a = some o → I'.G a = some o) (ek : ∀ (n : Nat) a, I.κ[n]? = some a → I'.κ[n]? = some a) : ∀ {ds : List (Key × D)} {vs : List (Key × V)}, RepK Γ I ds vs → RepK Γ I' ds vs
  | [], _, h => h
  | _ :: _, _, h => by
    simp only [RepK] at h ⊢
    obtain ⟨v, r, h1, h2, h3⟩ := h
    exact ⟨v, r, h1, Rep.mono0 eg ek h2, RepK.mono0 eg ek h3⟩
end

theorem Rep.mono {I I' : Im} (e : Im.Le I I') {d : D} {v : V} (h : Rep Γ I d v) : Rep Γ I' d v := Rep.mono0 e.gg e.kk h
theorem Reps.mono {I I' : Im} (e : Im.Le I I') {ds : List D} {vs : List V} (h : Reps Γ I ds vs) : Reps Γ I' ds vs := Reps.mono0 e.gg e.kk h
theorem RepK.mono {I I' : Im} (e : Im.Le I I') {ds : List (Key × D)} {vs : List (Key × V)} (h : RepK Γ I ds vs) : RepK Γ I' ds vs := RepK.mono0 e.gg e.kk h

theorem Reps.length {I : Im} : ∀ {ds : List D} {vs : List V}, Reps Γ I ds vs → vs.length = ds.length
  | [], _, h => by simp only [Reps] at h; simp [h]
  | _ :: ds, _, h => by
    simp only [Reps] at h
    obtain ⟨v, r, h1, _, h3⟩ := h
    rw [h1, List.length_cons, List.length_cons, Reps.length h3]
theorem Reps.nil {I : Im} : Reps Γ I [] [] := by simp only [Reps]
theorem Reps.cons {I : Im} {d : D} {ds : List D} {v : V} {vs : List V} (h : Rep Γ I d v) (r : Reps Γ I ds vs) : Reps Γ I (d :: ds) (v :: vs) := by
  simp only [Reps]; exact ⟨v, vs, rfl, h, r⟩
theorem Reps.append {I : Im} : ∀ {ds es : List D} {vs us : List V}, Reps Γ I ds vs → Reps Γ I es us → Reps Γ I (ds ++ es) (vs ++ us)
  | [], _, _, _, h, q => by simp only [Reps] at h; subst h; exact q
  | _ :: ds, _, _, _, h, q => by
    simp only [Reps] at h
    obtain ⟨v, r, rfl, h2, h3⟩ := h
    exact Reps.cons h2 (Reps.append h3 q)
theorem Reps.get {I : Im} : ∀ {ds : List D} {vs : List V} {n : Nat} {d : D}, Reps Γ I ds vs → ds[n]? = some d → ∃ v, vs[n]? = some v ∧ Rep Γ I d v
  | [], _, _, _, h, e => by simp at e
  | d0 :: ds, _, 0, d, h, e => by
    simp only [Reps] at h
    obtain ⟨v, r, rfl, h2, h3⟩ := h
    simp at e; subst e
    exact ⟨v, rfl, h2⟩
  | d0 :: ds, _, n + 1, d, h, e => by
    simp only [Reps] at h
    obtain ⟨v, r, rfl, h2, h3⟩ := h
    obtain ⟨u, h4, h5⟩ := Reps.get (n := n) h3 (by simpa using e)
    exact ⟨u, by simpa using h4, h5⟩
theorem Reps.get' {I : Im} : ∀ {ds : List D} {vs : List V} {n : Nat} {v : V}, Reps Γ I ds vs → vs[n]? = some v → ∃ d, ds[n]? = some d ∧ Rep Γ I d v := fun {ds vs n v} h e => by
  have hl := h.length
  have hn : n < ds.length := by rw [← hl]; exact (List.getElem?_eq_some_iff.mp e).1
  obtain ⟨u, h1, h2⟩ := h.get (n := n) (d := ds[n]) (by simp [hn])
  rw [e] at h1; cases h1
  exact ⟨_, by simp [hn], h2⟩
theorem Reps.set {I : Im} {d : D} {v : V} (r : Rep Γ I d v) : ∀ {ds : List D} {vs : List V} {n : Nat}, Reps Γ I ds vs → Reps Γ I (ds.set n d) (vs.set n v)
  | [], _, n, h => by simp only [Reps] at h; subst h; simp [Reps]
  | d0 :: ds, _, 0, h => by
    simp only [Reps] at h
    obtain ⟨v0, r0, rfl, h2, h3⟩ := h
    exact Reps.cons r h3
  | d0 :: ds, _, n + 1, h => by
    simp only [Reps] at h
    obtain ⟨v0, r0, rfl, h2, h3⟩ := h
    exact Reps.cons h2 (Reps.set r h3)
theorem Reps.take {I : Im} : ∀ {ds : List D} {vs : List V} (n : Nat), Reps Γ I ds vs → Reps Γ I (ds.take n) (vs.take n)
  | [], _, n, h => by simp only [Reps] at h; subst h; simp [Reps]
  | _ :: _, _, 0, _ => by simp [Reps]
  | d0 :: ds, _, n + 1, h => by
    simp only [Reps] at h
    obtain ⟨v0, r0, rfl, h2, h3⟩ := h
    exact Reps.cons h2 (Reps.take n h3)
theorem Reps.drop {I : Im} : ∀ {ds : List D} {vs : List V} (n : Nat), Reps Γ I ds vs → Reps Γ I (ds.drop n) (vs.drop n)
  | [], _, n, h => by simp only [Reps] at h; subst h; simp [Reps]
  | _ :: _, _, 0, h => by simpa using h
  | d0 :: ds, _, n + 1, h => by
    simp only [Reps] at h
    obtain ⟨v0, r0, rfl, h2, h3⟩ := h
    simpa using Reps.drop n h3
theorem Reps.rev {I : Im} : ∀ {ds : List D} {vs : List V}, Reps Γ I ds vs → Reps Γ I ds.reverse vs.reverse
  | [], _, h => by simp only [Reps] at h; subst h; simp [Reps]
  | d0 :: ds, _, h => by
    simp only [Reps] at h
    obtain ⟨v0, r0, rfl, h2, h3⟩ := h
    rw [List.reverse_cons, List.reverse_cons]
    exact (Reps.rev h3).append (Reps.cons h2 Reps.nil)
theorem Reps.rep {I : Im} {ds : List D} {vs : List V} (h : Reps Γ I ds vs) : ∀ n : Nat, Reps Γ I (List.replicate n ds).flatten (List.replicate n vs).flatten
  | 0 => by simp [Reps]
  | n + 1 => by
    rw [List.replicate_succ, List.replicate_succ, List.flatten_cons, List.flatten_cons]
    exact h.append (Reps.rep h n)
theorem Reps.dropLast {I : Im} {ds : List D} {vs : List V} (h : Reps Γ I ds vs) : Reps Γ I ds.dropLast vs.dropLast := by
  rw [List.dropLast_eq_take, List.dropLast_eq_take, h.length]
  exact h.take _
/-- what a value of plain data is, if it is an int .. -/
theorem Rep.int {I : Im} {i : Int} {v : V} (h : Rep Γ I (.int i) v) : v = .int i := by simpa only [Rep] using h
theorem Rep.bl {I : Im} {i : Bool} {v : V} (h : Rep Γ I (.bl i) v) : v = .bl i := by simpa only [Rep] using h
theorem Rep.non {I : Im} {v : V} (h : Rep Γ I .non v) : v = .non := by simpa only [Rep] using h
theorem Rep.str {I : Im} {s : Str} {v : V} (h : Rep Γ I (.str s) v) : v = .str s := by simpa only [Rep] using h
theorem Rep.ofInt {I : Im} {i : Int} : Rep Γ I (.int i) (.int i) := by simp only [Rep]
theorem Rep.ofBl {I : Im} {i : Bool} : Rep Γ I (.bl i) (.bl i) := by simp only [Rep]
theorem Rep.ofNon {I : Im} : Rep Γ I .non .non := by simp only [Rep]
theorem Rep.ofStr {I : Im} {s : Str} : Rep Γ I (.str s) (.str s) := by simp only [Rep]
theorem Rep.fz {I : Im} {xs : List D} {v : V} (h : Rep Γ I (.fz xs) v) : ∃ a vs, v = .ref a ∧ SqL Γ.K I.G a vs ∧ Reps Γ I xs vs := by simpa only [Rep] using h
theorem Rep.lst {I : Im} {xs : List D} {v : V} (h : Rep Γ I (.lst xs) v) : ∃ a vs, v = .ref a ∧ I.G a = some (.lst vs) ∧ Reps Γ I xs vs := by simpa only [Rep] using h
theorem Rep.tup {I : Im} {xs : List D} {v : V} (h : Rep Γ I (.tup xs) v) : ∃ a vs, v = .ref a ∧ SqT Γ.K I.G a vs ∧ Reps Γ I xs vs := by simpa only [Rep] using h
theorem Rep.ofLst {I : Im} {xs : List D} {a : Addr} {vs : List V} (h : I.G a = some (.lst vs)) (r : Reps Γ I xs vs) : Rep Γ I (.lst xs) (.ref a) := by simp only [Rep]; exact ⟨a, vs, rfl, h, r⟩
theorem Rep.ofTup {I : Im} {xs : List D} {a : Addr} {vs : List V} (h : SqT Γ.K I.G a vs) (r : Reps Γ I xs vs) : Rep Γ I (.tup xs) (.ref a) := by simp only [Rep]; exact ⟨a, vs, rfl, h, r⟩
theorem Reps.ofInts {I : Im} : ∀ {ns : List Int}, Reps Γ I (ns.map D.int) (ns.map V.int)
  | [] => by simp [Reps]
  | n :: ns => by rw [List.map_cons, List.map_cons]; exact Reps.cons Rep.ofInt Reps.ofInts

/-! ### the state, a new object -/
theorem Wf.of_ext {H H' : Hp} {I : Im} {T : List (List D)} (w : Wf Γ H I T) (h : ∀ a o, H a = some o → H' a = some o) : Wf Γ H' I T :=
  ⟨fun a o e => h a o (w.gh a o e), w.nd, w.kg, w.len, fun n a ds e1 e2 => let ⟨vs, h1, h2⟩ := w.cells n a ds e1 e2; ⟨vs, h a _ h1, h2⟩, w.ug, fun p hp => (w.tb p hp).keep fun a o e _ => h a o e, w.lc.keep (fun a o e _ => h a o e) (fun _ _ h => h), w.tg⟩
/-- a new list, ours to write -/
theorem Wf.new {H : Hp} {I : Im} {T : List (List D)} (w : Wf Γ H I T) {p : Addr} (hp : H p = none) (o : HO) : Wf Γ (upd H p o) I T :=
  w.of_ext fun a u e => by rw [upd_ne (ne_of_none e hp)]; exact e
theorem Ext.new {H : Hp} {I : Im} {p : Addr} (hp : H p = none) (o : HO) : Ext O0 H I (upd H p o) I :=
  ⟨fun _ _ h => h, fun _ _ h => h, fun a u h _ _ _ => by rw [upd_ne (ne_of_none h hp)]; exact h, fun a h => by
    by_cases e : a = p
    · subst e; rw [upd_same]; simp
    · rw [upd_ne e]; exact h, fun _ h => .inl h, fun _ h => .inl h, rfl⟩
theorem Wf.gnone {H : Hp} {I : Im} {T : List (List D)} (w : Wf Γ H I T) {p : Addr} (hp : H p = none) : I.G p = none := by
  cases e : I.G p with
  | none => rfl
  | some o => rw [w.gh p o e] at hp; cases hp
theorem Wf.cellIn {H : Hp} {I : Im} {T : List (List D)} (w : Wf Γ H I T) {a : Addr} (h : a ∈ I.κ) : ∃ (n : Nat) (ds : List D) (vs : List V), I.κ[n]? = some a ∧ T[n]? = some ds ∧ H a = some (.lst vs) ∧ Reps Γ I ds vs := by
  obtain ⟨n, hn, e⟩ := List.getElem_of_mem h
  have hn2 : n < T.length := by rw [← w.len]; exact hn
  have e1 : I.κ[n]? = some a := by simp [hn, e]
  have e2 : T[n]? = some T[n] := by simp [hn2]
  obtain ⟨vs, h1, h2⟩ := w.cells n a _ e1 e2
  exact ⟨n, _, vs, e1, e2, h1, h2⟩
theorem Wf.nocell {H : Hp} {I : Im} {T : List (List D)} (w : Wf Γ H I T) {p : Addr} (hp : H p = none) : p ∉ I.κ := fun h => by
  obtain ⟨_, _, _, _, _, h1, _⟩ := w.cellIn h
  rw [hp] at h1; cases h1
/-- a thing of ours becomes immutable -/
theorem Wf.freeze {H : Hp} {I : Im} {T : List (List D)} (w : Wf Γ H I T) {p : Addr} {o : HO} (hp : H p = some o) (hg : I.G p = none) (hk : p ∉ I.κ) (nx : NX o := by trivial) : Wf Γ H ⟨upd I.G p o, I.κ, I.me⟩ T := by
  have le : Im.Le I ⟨upd I.G p o, I.κ, I.me⟩ := ⟨fun a u e => by show upd I.G p o a = _; rw [upd_ne (ne_of_none e hg)]; exact e, fun _ _ h => h, rfl⟩
  refine ⟨fun a u e => ?_, w.nd, fun a ha => ?_, w.len, fun n a ds e1 e2 => ?_, fun b hb => (w.ug b hb).mono le.gg, w.tb, w.lc.more nx, fun t ht => by
    show upd I.G p o t.1 = none
    obtain ⟨ps, h1, _⟩ := w.tb t ht
    rw [upd_ne]
    · exact w.tg t ht
    · intro z
      rw [z, hp] at h1
      cases h1
      exact nx.elim⟩
  · by_cases q : a = p
    · subst q
      have e2 : upd I.G a o a = some u := e
      rw [upd_same] at e2; cases e2; exact hp
    · exact w.gh a u (by have e2 : upd I.G p o a = some u := e; rw [upd_ne q] at e2; exact e2)
  · show upd I.G p o a = none
    rw [upd_ne (fun q => hk (by rw [← q]; exact ha))]
    exact w.kg a ha
  · obtain ⟨vs, h1, h2⟩ := w.cells n a ds e1 e2
    exact ⟨vs, h1, Reps.mono le h2⟩
theorem Ext.freeze {O : Addr → Prop} {H : Hp} {I : Im} {p : Addr} {o : HO} (hg : I.G p = none) (h : O p) : Ext O H I H ⟨upd I.G p o, I.κ, I.me⟩ :=
  ⟨fun a u e => by show upd I.G p o a = _; rw [upd_ne (ne_of_none e hg)]; exact e, fun _ _ h => h, fun _ _ h _ _ _ => h, fun _ h => h, fun a q => by
    by_cases e : a = p
    · subst e; exact .inr (.inr h)
    · exact .inl (by have q2 : upd I.G p o a ≠ none := q; rw [upd_ne e] at q2; exact q2), fun _ h => .inl h, rfl⟩
/-- a new immutable thing -/
theorem Ext.newG {H : Hp} {I : Im} {p : Addr} {o : HO} (hp : H p = none) (hg : I.G p = none) : Ext O0 H I (upd H p o) ⟨upd I.G p o, I.κ, I.me⟩ :=
  ⟨fun a u e => by show upd I.G p o a = _; rw [upd_ne (ne_of_none e hg)]; exact e, fun _ _ h => h, fun a u h _ _ _ => by rw [upd_ne (ne_of_none h hp)]; exact h, fun a h => by
    by_cases e : a = p
    · subst e; rw [upd_same]; simp
    · rw [upd_ne e]; exact h, fun a q => by
    by_cases e : a = p
    · subst e; exact .inr (.inl hp)
    · exact .inl (by have q2 : upd I.G p o a ≠ none := q; rw [upd_ne e] at q2; exact q2), fun _ h => .inl h, rfl⟩
theorem Wf.newG {H : Hp} {I : Im} {T : List (List D)} (w : Wf Γ H I T) {p : Addr} (hp : H p = none) (o : HO) (nx : NX o := by trivial) : Wf Γ (upd H p o) ⟨upd I.G p o, I.κ, I.me⟩ T :=
  (w.new hp o).freeze upd_same (w.gnone hp) (w.nocell hp) nx
end
end Tp
end
section
set_option Elab.async false
set_option linter.all false
set_option maxRecDepth 100000
set_option maxHeartbeats 2000000
/-! TpB: environments, answers, readings by data; the context of the code. -/
namespace Tp
open PySem PySem.Spec PyProof.Rows L2

abbrev Env := List (Option LV)
abbrev Cs := List (List D)
/-- an exception: its class's name, its attributes -/
structure ExD where
  c : Str
  xs : List D
/-- no answer (not told here); an answer; an exception -/
inductive Ev (α : Type) where
  | no
  | ok (a : α) (T : Cs)
  | ex (e : ExD) (T : Cs)
def Ev.bind {α β : Type} (x : Ev α) (f : α → Cs → Ev β) : Ev β := match x with
  | .no => .no
  | .ok a T => f a T
  | .ex e T => .ex e T
def Ev.opt {α : Type} (o : Option α) (T : Cs) : Ev α := match o with
  | none => .no
  | some a => .ok a T

/-- a zip just made, its five parts tracked each by its own object -/
structure ZpAt (K : PySem.W.Frag) (n : Nat) (G H : Hp) (la lb : Addr) (vs us : List V) (z ti to i1 i2 : Addr) : Prop where
  l1 : SqL K G la vs
  l2 : SqL K G lb us
  ap : ZipApart z ti to i1 i2 la lb
  hz : H z = some (.ext fun h => IsZip h z ti to .none)
  hti : H ti = some (.ext fun h => IsPair h ti (.ref i1) (.ref i2))
  hto : H to = some (.ext fun h => ∃ x y, IsPair h to x y)
  h1 : H i1 = some (.ext fun h => h.IsListIter i1 la 0)
  h2 : H i2 = some (.ext fun h => h.IsListIter i2 lb 0)
  nz : n ≤ z
  nti : n ≤ ti
  nto : n ≤ to
  n1 : n ≤ i1
  n2 : n ≤ i2

section
variable (Γ : Gam) (n : Nat)
/-- the cells that a lambda of the def at n captures -/
def cloN (n : Nat) (L : LamSig) (sc : Scope) : List (Str × Addr) := cloFrom (cellsFrom (n + 1) L.msc []) sc.names []
def LamN (I : Im) (k : Nat) (v : V) : Prop := ∃ L p b sc, Γ.lt[k]? = some L ∧ L.ok p b sc = true ∧ LamV I p b sc (cloN n L sc) v
def LamsN (I : Im) : List Nat → List V → Prop
  | [], us => us = []
  | k :: ks, us => ∃ v r, us = v :: r ∧ LamN Γ n I k v ∧ LamsN I ks r
/-- as: what it owns -/
def RepL (I : Im) (H : Hp) : LV → V → List Addr → Prop
  | .sh d, v, as => as = [] ∧ Rep Γ I d v
  | .ow xs, v, as => ∃ a vs, as = [a] ∧ v = .ref a ∧ H a = some (.lst vs) ∧ Reps Γ I xs vs
  | .od kvs, v, as => ∃ a us, as = [a] ∧ v = .ref a ∧ H a = some (.dK us) ∧ RepK Γ I kvs us
  | .oo c xs, v, as => ∃ a dx us, as = [a] ∧ v = .ref a ∧ I.me = some a ∧ H a = some (.ins (He.ga Γ.K (Γ.cd c).1) dx us) ∧ us.map (·.1) = (Γ.cd c).2.take xs.length ∧ Reps Γ I xs (us.map (·.2))
  | .lm k, v, as => as = [] ∧ LamN Γ n I k v
  | .lms ks, v, as => ∃ a us, as = [a] ∧ v = .ref a ∧ H a = some (.lst us) ∧ LamsN Γ n I ks us
  | .zp xs ys, v, as => ∃ z ti to i1 i2 la lb vs us, as = [z, ti, to, i1, i2] ∧ v = .ref z ∧ ZpAt Γ.K n I.G H la lb vs us z ti to i1 i2 ∧ Reps Γ I xs vs ∧ Reps Γ I ys us
/-- the locals: own i is what the i-th one owns -/
structure ER (σ : L2.St) (ρ : Env) (H : Hp) (I : Im) (own : Nat → List Addr) : Prop where
  len : σ.length = ρ.length
  at_ : ∀ (i : Nat) lv, ρ[i]? = some (some lv) → ∃ v, σ[i]? = some (some v) ∧ RepL Γ n I H lv v (own i)
  dead : ∀ (i : Nat), (∀ lv, ρ[i]? ≠ some (some lv)) → own i = []
  free : ∀ (i : Nat) a, a ∈ own i → I.G a = none ∧ a ∉ I.κ ∧ H a ≠ none
  disj : ∀ (i j : Nat) a, a ∈ own i → a ∈ own j → i = j
abbrev Ow (own : Nat → List Addr) : Addr → Prop := fun a => ∃ i, a ∈ own i
/-- an answer: Hs the heap ahead -/
def RepR (own : Nat → List Addr) (Hs H : Hp) (I : Im) : R → V → Prop
  | .v lv, v => ∃ as, RepL Γ n I H lv v as ∧ ∀ a, a ∈ as → I.G a = none ∧ a ∉ I.κ ∧ H a ≠ none ∧ Hs a = none
  | .bw xs, v => ∃ a vs, v = .ref a ∧ H a = some (.lst vs) ∧ I.G a = none ∧ a ∉ I.κ ∧ Ow own a ∧ Reps Γ I xs vs
  | .bd kvs, v => ∃ a us, v = .ref a ∧ H a = some (.dK us) ∧ I.G a = none ∧ a ∉ I.κ ∧ Ow own a ∧ RepK Γ I kvs us
/-- an exception that has left: its class, its own dict -/
def RepX (I : Im) (e : ExD) (cls : Value) (d : Option Addr) : Prop :=
  cls = .ref (He.ga Γ.K e.c) ∧ ((e.xs = [] ∧ d = none) ∨ ∃ a us, d = some a ∧ I.G a = some (.xd us) ∧ us.map (·.1) = Γ.xf e.c ∧ Reps Γ I e.xs (us.map (·.2)))
end

section
variable {Γ : Gam} {n : Nat}
theorem LamV.mono {I I' : Im} (le : Im.Le I I') {p : Arguments} {b : Expr} {sc : Scope} {clo : List (Str × Addr)} {v : V} (h : LamV I p b sc clo v) : LamV I' p b sc clo v := by
  obtain ⟨f, c', q, pm, ctv, h2, h3⟩ := h
  exact ⟨f, c', q, pm, ctv, h2, le.gg _ _ h3⟩
theorem LamN.mono {I I' : Im} (le : Im.Le I I') {k : Nat} {v : V} (h : LamN Γ n I k v) : LamN Γ n I' k v := by
  obtain ⟨L, p, b, sc, h1, h0, h2⟩ := h
  exact ⟨L, p, b, sc, h1, h0, h2.mono le⟩
theorem LamsN.mono {I I' : Im} (le : Im.Le I I') : ∀ {ks : List Nat} {us : List V}, LamsN Γ n I ks us → LamsN Γ n I' ks us
  | [], _, h => h
  | _ :: _, _, h => by
    obtain ⟨v, r, h1, h2, h3⟩ := h
    exact ⟨v, r, h1, h2.mono le, h3.mono le⟩
theorem RepL.ext {I I' : Im} {H H' : Hp} (le : Im.Le I I') : ∀ {lv : LV} {v : V} {as : List Addr}, RepL Γ n I H lv v as → (∀ a o, a ∈ as → H a = some o → NT o → H' a = some o) → RepL Γ n I' H' lv v as
  | .sh d, _, _, h, _ => ⟨h.1, h.2.mono le⟩
  | .ow _, _, _, h, k => by
    obtain ⟨a, vs, rfl, h2, h3, h4⟩ := h
    exact ⟨a, vs, rfl, h2, k a _ (by simp) h3 trivial, h4.mono le⟩
  | .od _, _, _, h, k => by
    obtain ⟨a, vs, rfl, h2, h3, h4⟩ := h
    exact ⟨a, vs, rfl, h2, k a _ (by simp) h3 trivial, h4.mono le⟩
  | .oo _ _, _, _, h, k => by
    obtain ⟨a, dx, vs, rfl, h2, h0, h3, h4, h5⟩ := h
    exact ⟨a, dx, vs, rfl, h2, le.mm.trans h0, k a _ (by simp) h3 trivial, h4, h5.mono le⟩
  | .lm _, _, _, h, _ => ⟨h.1, h.2.mono le⟩
  | .lms _, _, _, h, k => by
    obtain ⟨a, us, rfl, h2, h3, h4⟩ := h
    exact ⟨a, us, rfl, h2, k a _ (by simp) h3 trivial, h4.mono le⟩
  | .zp _ _, _, _, h, k => by
    obtain ⟨z, ti, to, i1, i2, la, lb, vs, us, rfl, h2, h3, h4, h5⟩ := h
    exact ⟨z, ti, to, i1, i2, la, lb, vs, us, rfl, h2, ⟨SqL.ext le.gg h3.l1, SqL.ext le.gg h3.l2, h3.ap, k _ _ (by simp) h3.hz trivial, k _ _ (by simp) h3.hti trivial, k _ _ (by simp) h3.hto trivial, k _ _ (by simp) h3.h1 trivial, k _ _ (by simp) h3.h2 trivial, h3.nz, h3.nti, h3.nto, h3.n1, h3.n2⟩, h4.mono le, h5.mono le⟩
/-- what is kept apart stays apart -/
theorem Ext.apart {O : Addr → Prop} {H H' : Hp} {I I' : Im} (e : Ext O H I H' I') {a : Addr} (h1 : I.G a = none) (h2 : a ∉ I.κ) (h3 : H a ≠ none) (no : ¬ O a) : I'.G a = none ∧ a ∉ I'.κ ∧ H' a ≠ none := by
  refine ⟨?_, fun q => ?_, e.th a h3⟩
  · cases q : I'.G a with
    | none => rfl
    | some o =>
      rcases e.gn a (by rw [q]; simp) with r | r | r
      · exact absurd h1 r
      · exact absurd r h3
      · exact absurd r no
  · rcases e.kn a q with r | r
    · exact h2 r
    · exact h3 r
theorem ER.ext {σ : L2.St} {ρ : Env} {H H' : Hp} {I I' : Im} {own : Nat → List Addr} (r : ER Γ n σ ρ H I own) (e : Ext O0 H I H' I') : ER Γ n σ ρ H' I' own :=
  ⟨r.len, fun i lv h => let ⟨v, h1, h2⟩ := r.at_ i lv h; ⟨v, h1, h2.ext e.le fun a o ha q nt => e.fr a o q (r.free i a ha).2.1 (fun z => z) nt⟩, r.dead, fun i a ha =>
    let ⟨h1, h2, h3⟩ := r.free i a ha
    e.apart h1 h2 h3 fun z => z, r.disj⟩
theorem RepR.ext {own : Nat → List Addr} {Hs H H' : Hp} {I I' : Im} (e : Ext O0 H I H' I') : ∀ {r : R} {v : V}, RepR Γ n own Hs H I r v → RepR Γ n own Hs H' I' r v
  | .v lv, _, h => by
    obtain ⟨as, h1, h2⟩ := h
    exact ⟨as, h1.ext e.le fun a o ha q nt => e.fr a o q (h2 a ha).2.1 (fun z => z) nt, fun a ha =>
      let ⟨q1, q2, q3, q4⟩ := h2 a ha
      let ⟨p1, p2, p3⟩ := e.apart q1 q2 q3 fun z => z
      ⟨p1, p2, p3, q4⟩⟩
  | .bw xs, _, h => by
    obtain ⟨a, vs, h1, h2, h3, h4, h5, h6⟩ := h
    obtain ⟨p1, p2, _⟩ := e.apart h3 h4 (by rw [h2]; simp) fun z => z
    exact ⟨a, vs, h1, e.fr a _ h2 h4 (fun z => z) trivial, p1, p2, h5, h6.mono e.le⟩
  | .bd xs, _, h => by
    obtain ⟨a, vs, h1, h2, h3, h4, h5, h6⟩ := h
    obtain ⟨p1, p2, _⟩ := e.apart h3 h4 (by rw [h2]; simp) fun z => z
    exact ⟨a, vs, h1, e.fr a _ h2 h4 (fun z => z) trivial, p1, p2, h5, h6.mono e.le⟩
/-- seen from further ahead -/
theorem RepR.back {own : Nat → List Addr} {Hs H0 H : Hp} {I : Im} (h : ∀ a, Hs a ≠ none → H0 a ≠ none) : ∀ {r : R} {v : V}, RepR Γ n own H0 H I r v → RepR Γ n own Hs H I r v
  | .v lv, _, q => by
    obtain ⟨as, h1, h2⟩ := q
    refine ⟨as, h1, fun a ha => ?_⟩
    obtain ⟨q1, q2, q3, q4⟩ := h2 a ha
    refine ⟨q1, q2, q3, ?_⟩
    cases e : Hs a with
    | none => rfl
    | some o => exact absurd q4 (h a (by rw [e]; simp))
  | .bw _, _, q => q
  | .bd _, _, q => q

/-! ### readings by data -/
variable (Γ n)
/-- W: the wish about exceptions -/
def XW (W : WX) (σ : L2.St) (H : Hp) (I : Im) (e : ExD) (T : Cs) : Prop :=
  ∀ cls d H' I', Ext O0 H I H' I' → Wf Γ H' I' T → RepX Γ I' e cls d → W cls d σ H'
/-- what is wanted behind a piece of code that began at H, I: rel: how an answer lies -/
def Post {α β : Type} (rel : Hp → Hp → Im → α → β → Prop) (W : WX) (σ : L2.St) (H : Hp) (I : Im) (res : Ev α) (Q : β → Hp → Prop) : Prop := match res with
  | .no => False
  | .ok r T' => ∀ v H' I', Ext O0 H I H' I' → Wf Γ H' I' T' → rel H H' I' r v → Q v H'
  | .ex e T' => XW Γ W σ H I e T'
/-- several answers -/
def RepRs (own : Nat → List Addr) (Hs H : Hp) (I : Im) : List R → List V → Prop
  | [], vs => vs = []
  | r :: rs, vs => ∃ v us, vs = v :: us ∧ RepR Γ n own Hs H I r v ∧ RepRs own Hs H I rs us
def relB (_ _ : Hp) (_ : Im) (a b : Bool) : Prop := b = a
def tE (W : WX) (ev : Env → Cs → Ev R) : TE := fun σ H Q => ∃ I ρ T own, Wf Γ H I T ∧ ER Γ n σ ρ H I own ∧ Post Γ (RepR Γ n own) W σ H I (ev ρ T) Q
def tT (W : WX) (ev : Env → Cs → Ev Bool) : L2.TT := fun σ H Q => ∃ I ρ T own, Wf Γ H I T ∧ ER Γ n σ ρ H I own ∧ Post Γ relB W σ H I (ev ρ T) Q
def tA (W : WX) (ev : Env → Cs → Ev (List R)) : TA := fun σ H Q => ∃ I ρ T own, Wf Γ H I T ∧ ER Γ n σ ρ H I own ∧ Post Γ (RepRs Γ n own) W σ H I (ev ρ T) Q
/-- what a statement comes to -/
inductive Fl where
  | nx (ρ : Env)
  | rt (r : LV)
  | bk (ρ : Env)
  | ct (ρ : Env)
/-- behind a statement: the slots, the heap, what is immutable; O: what was owned ahead, Hs the heap ahead -/
structure Aft (O : Addr → Prop) (H : Hp) (I : Im) (T : Cs) (ρ : Env) (σ : L2.St) (H' : Hp) (I' : Im) (own : Nat → List Addr) : Prop where
  ext : Ext O H I H' I'
  wf : Wf Γ H' I' T
  er : ER Γ n σ ρ H' I' own
  ow : ∀ a, Ow own a → O a ∨ H a = none
def FlP (D' : Ends) (O : Addr → Prop) (H : Hp) (I : Im) (T : Cs) : Fl → Prop
  | .nx ρ => ∀ σ' H' I' own', Aft Γ n O H I T ρ σ' H' I' own' → D'.nx σ' H'
  | .rt lv => ∀ v H' I' as, Ext O H I H' I' → Wf Γ H' I' T → RepL Γ n I' H' lv v as → (∀ a, a ∈ as → I'.G a = none ∧ a ∉ I'.κ ∧ H' a ≠ none ∧ (O a ∨ H a = none)) → D'.rt v H'
  | .bk ρ => ∀ σ' H' I' own', Aft Γ n O H I T ρ σ' H' I' own' → D'.bk σ' H'
  | .ct ρ => ∀ σ' H' I' own', Aft Γ n O H I T ρ σ' H' I' own' → D'.ct σ' H'
/-- an exception out of a statement: the slots as they may be by then -/
def XS (W : WX) (O : Addr → Prop) (H : Hp) (I : Im) (e : ExD) (T : Cs) : Prop :=
  ∀ cls d σ' H' I', Ext O H I H' I' → Wf Γ H' I' T → RepX Γ I' e cls d → W cls d σ' H'
def tS (W : WX) (ev : Env → Cs → Ev Fl) : TS := fun D' σ H => ∃ I ρ T own, Wf Γ H I T ∧ ER Γ n σ ρ H I own ∧ match ev ρ T with
  | .no => False
  | .ok f T' => FlP Γ n D' (Ow own) H I T' f
  | .ex e T' => XS Γ W (Ow own) H I e T'
end

section
variable {Γ : Gam} {n : Nat} {W : WX} {σ : L2.St} {H H1 : Hp} {I I1 : Im}
theorem RepRs.ext {own : Nat → List Addr} {Hs H H' : Hp} {I I' : Im} (e : Ext O0 H I H' I') : ∀ {rs : List R} {vs : List V}, RepRs Γ n own Hs H I rs vs → RepRs Γ n own Hs H' I' rs vs
  | [], _, h => h
  | _ :: _, _, ⟨v, us, h1, h2, h3⟩ => ⟨v, us, h1, h2.ext e, h3.ext e⟩
theorem RepRs.back {own : Nat → List Addr} {Hs H0 H : Hp} {I : Im} (h : ∀ a, Hs a ≠ none → H0 a ≠ none) : ∀ {rs : List R} {vs : List V}, RepRs Γ n own H0 H I rs vs → RepRs Γ n own Hs H I rs vs
  | [], _, q => q
  | _ :: _, _, ⟨v, us, h1, h2, h3⟩ => ⟨v, us, h1, h2.back h, h3.back h⟩
/-- seen from further ahead -/
structure Backs {α β : Type} (rel : Hp → Hp → Im → α → β → Prop) : Prop where
  back : ∀ {Hs H0 H : Hp} {I : Im} {a : α} {b : β}, (∀ a, Hs a ≠ none → H0 a ≠ none) → rel H0 H I a b → rel Hs H I a b
theorem backR {own : Nat → List Addr} : Backs (RepR Γ n own) := ⟨fun h q => q.back h⟩
theorem backB : Backs relB := ⟨fun _ q => q⟩
theorem XW.from {e : ExD} {T : Cs} (x : Ext O0 H I H1 I1) (h : XW Γ W σ H I e T) : XW Γ W σ H1 I1 e T := fun cls d H' I' a b c => h cls d H' I' (x.tr0 a) b c
theorem Post.from {α β : Type} {rel : Hp → Hp → Im → α → β → Prop} (k : Backs rel) {res : Ev α} {Q : β → Hp → Prop} (x : Ext O0 H I H1 I1) (h : Post Γ rel W σ H I res Q) : Post Γ rel W σ H1 I1 res Q := by
  cases res with
  | no => exact h
  | ok r T => exact fun v H' I' a b c => h v H' I' (x.tr0 a) b (k.back x.th c)
  | ex e T => exact XW.from x h
/-- one piece behind another -/
theorem Post.bind {α β γ δ : Type} {rel : Hp → Hp → Im → α → β → Prop} {rel' : Hp → Hp → Im → γ → δ → Prop} (k : Backs rel') {x : Ev α} {f : α → Cs → Ev γ} {Q : δ → Hp → Prop} (h : Post Γ rel' W σ H I (x.bind f) Q) :
    Post Γ rel W σ H I x fun v H1 => ∃ r T1 I1, x = .ok r T1 ∧ Ext O0 H I H1 I1 ∧ Wf Γ H1 I1 T1 ∧ rel H H1 I1 r v ∧ Post Γ rel' W σ H1 I1 (f r T1) Q := by
  cases x with
  | no => exact h
  | ok r T => exact fun v H' I' a b c => ⟨r, T, I', rfl, a, b, c, Post.from k a h⟩
  | ex e T => exact h
/-- one piece behind another, the end wanted from where it began -/
theorem Post.step {α β γ δ : Type} {rel : Hp → Hp → Im → α → β → Prop} {rel' : Hp → Hp → Im → γ → δ → Prop} {x : Ev α} {f : α → Cs → Ev γ} {Q : δ → Hp → Prop} (h : Post Γ rel' W σ H I (x.bind f) Q) (a : Ext O0 H I H1 I1) :
    Post Γ rel W σ H1 I1 x fun v H2 => ∃ r T2 I2, x = .ok r T2 ∧ Ext O0 H1 I1 H2 I2 ∧ Wf Γ H2 I2 T2 ∧ rel H1 H2 I2 r v ∧ Post Γ rel' W σ H I (f r T2) Q := by
  cases x with
  | no => exact h
  | ok r T => exact fun v H' I' a b c => ⟨r, T, I', rfl, a, b, c, h⟩
  | ex e T => exact XW.from a h
theorem Post.imp {α β : Type} {rel : Hp → Hp → Im → α → β → Prop} {res : Ev α} {Q Q' : β → Hp → Prop} (h : Post Γ rel W σ H I res Q) (m : ∀ v H', Q v H' → Q' v H') : Post Γ rel W σ H I res Q' := by
  cases res with
  | no => exact h
  | ok r T => exact fun v H' I' a b c => m _ _ (h v H' I' a b c)
  | ex e T => exact h
end

/-! ### the code's context -/
/-- the names: N by slots; nm of the scope that runs; those that may be stored -/
structure Sc where
  N : List Str
  nm : List (Str × NameKind)
  st : List (Str × NameKind)
/-- the lists whose text is under way are known -/
def GdX (Γ : Gam) (A : Around) : Prop := ∃ gs, A.guards = some gs ∧ ∀ id v rest kw, Code.builtin id ⟨v :: rest, kw⟩ ∈ gs → ∀ b, v = .ref b → b ∈ Γ.ug
/-- the mark of a def in which lambdas are made -/
def isMk (sc : Sc) : Bool := match sc.st with
  | [] => false
  | y :: _ => decide (y.1 = ("#L" : Str))
/-- what the making of a lambda asks of the code's context -/
structure MkX (Γ : Gam) (X : Cx) : Prop where
  cells : X.env.cells = cellsFrom (X.s_0.heap.objs.size + 1) X.env.scope.names []
  code : ∃ c P, X.env.code = .ref c ∧ LamX.TabB Γ.base Γ.mg c P ∧ (P, X.env.qual ++ "<lambda>") ∈ Γ.tb ∧ ∀ p ∈ Γ.tb, p.1 = P → p.2 = X.env.qual ++ "<lambda>"
structure Good (Γ : Gam) (k : Nat) (W : WX) (sc : Sc) (X : Cx) : Prop where
  prog : X.prog = Γ.P
  w : X.w = Γ.w
  K : X.K = Γ.K
  mg : X.mg = Γ.mg
  base : X.base = Γ.base
  N : X.N = sc.N
  nd : X.N.Nodup
  calm : X.calm = true
  room : Room k X.A
  gd : GdX Γ X.A
  nm : X.env.scope.names = sc.nm
  fk : X.env.scope.kind = .function
  st : ∀ x, (sc.st.lookup x = some .local ∨ sc.st.lookup x = some .cell) → X.fn x = true ∨ X.env.scope.names.lookup x = some .local
  tk : Takes X W
  po : PassesOwn (model X.prog X.w) X.A X.env X.xe
  tr : (match sc.st with
    | [] => true
    | y :: _ => decide (y.1 ≠ ("#" : Str))) = true → X.stack = X.env :: X.outer ∧ X.env.frame = some X.env.locals
  lk : isMk sc = true → MkX Γ X
theorem PE.mono {X : Cx} {e : Expr} {t t' : TE} (h : PE X e t) (m : ∀ σ H Q, t' σ H Q → t σ H Q) : PE X e t' := ⟨fun pins s σ H Q I q => h.run pins s σ H Q I (m σ H Q q)⟩
theorem PT.mono {X : Cx} {e : Expr} {t t' : L2.TT} (h : PT X e t) (m : ∀ σ H Q, t' σ H Q → t σ H Q) : PT X e t' := ⟨fun pins s σ H Q I q => h.run pins s σ H Q I (m σ H Q q)⟩
theorem PW.mono {X : Cx} {e : Expr} {t t' : L2.TT} (h : PW X e t) (m : ∀ σ H Q, t' σ H Q → t σ H Q) : PW X e t' := ⟨fun wh pins s σ H Q I q => h.run wh pins s σ H Q I (m σ H Q q)⟩
theorem PA.mono {X : Cx} {e : List Expr} {t t' : TA} (h : PA X e t) (m : ∀ σ H Q, t' σ H Q → t σ H Q) : PA X e t' := ⟨fun pos pins s σ H Q I q => h.run pos pins s σ H Q I (m σ H Q q)⟩
theorem PS.mono {X : Cx} {e : Stmt} {t t' : TS} (h : PS X e t) (m : ∀ D σ H, t' D σ H → t D σ H) : PS X e t' := ⟨fun pins s σ H D I q => h.run pins s σ H D I (m D σ H q)⟩
theorem PSs.mono {X : Cx} {e : List Stmt} {t t' : TS} (h : PSs X e t) (m : ∀ D σ H, t' D σ H → t D σ H) : PSs X e t' := ⟨fun pins s σ H D I q => h.run pins s σ H D I (m D σ H q)⟩
end Tp
end
section
set_option Elab.async false
set_option linter.all false
set_option maxRecDepth 100000
set_option maxHeartbeats 2000000
/-! TpC: pieces of code: expressions, tests, argument lists; operations on values. -/
namespace Tp
open PySem PySem.Spec PyProof.Rows L2

/-- an expression: what it answers, which text it is, what it leans on, that the text does so -/
structure CE where
  ev : Env → Cs → Ev R
  chk : Nat → Sc → Expr → Bool
  need : Gam → Prop
  z : Bool
  ok : ∀ {Γ : Gam} {k : Nat} {W : WX} {sc : Sc} {X : Cx} {e : Expr} {n : Nat}, Good Γ k W sc X → need Γ → chk k sc e = true → (z = true → n = X.s_0.heap.objs.size) → PE X e (tE Γ n W ev)
/-- a test -/
structure CT where
  ev : Env → Cs → Ev Bool
  chk : Nat → Sc → Expr → Bool
  need : Gam → Prop
  z : Bool
  ok : ∀ {Γ : Gam} {k : Nat} {W : WX} {sc : Sc} {X : Cx} {e : Expr} {n : Nat}, Good Γ k W sc X → need Γ → chk k sc e = true → (z = true → n = X.s_0.heap.objs.size) → PT X e (tT Γ n W ev)
/-- arguments -/
structure CA where
  ev : Env → Cs → Ev (List R)
  chk : Nat → Sc → List Expr → Bool
  need : Gam → Prop
  z : Bool
  ok : ∀ {Γ : Gam} {k : Nat} {W : WX} {sc : Sc} {X : Cx} {e : List Expr} {n : Nat}, Good Γ k W sc X → need Γ → chk k sc e = true → (z = true → n = X.s_0.heap.objs.size) → PA X e (tA Γ n W ev)
  star : ∀ {k : Nat} {sc : Sc} {e : List Expr} {env : PySem.Env}, chk k sc e = true → starEach e env = e.map fun x => (false, eval x env)

theorem Post.opt {Γ : Gam} {W : WX} {σ : L2.St} {H : Hp} {I : Im} {α β : Type} {rel : Hp → Hp → Im → α → β → Prop} {o : Option α} {T : Cs} {Q : β → Hp → Prop} (h : Post Γ rel W σ H I (Ev.opt o T) Q) :
    ∃ r, o = some r ∧ ∀ v H' I', Ext O0 H I H' I' → Wf Γ H' I' T → rel H H' I' r v → Q v H' := by
  cases o with
  | none => exact h.elim
  | some r => exact ⟨r, rfl, h⟩
theorem or1 {a b : Bool} {p : Prop} (h : (a || b) = true → p) : (a = true → p) ∧ (b = true → p) := ⟨fun q => h (by rw [q]; rfl), fun q => h (by rw [q]; simp)⟩

/-! ### names -/
def okName (x : Str) : Bool := !(x == ("__debug__" : Str)) && !(x == ("__classdict__" : Str)) && !(x == ("__name__" : Str))
def isVis (nm : List (Str × NameKind)) (x : Str) : Bool := match nm.lookup x with
  | some .local => true
  | some .cell => true
  | some .free => true
  | _ => false
def isGl (nm : List (Str × NameKind)) (x : Str) : Bool := match nm.lookup x with
  | some .globalImplicit => true
  | _ => false
def slotIs (N : List Str) (i : Nat) (x : Str) : Bool := match N[i]? with
  | some y => decide (y = x)
  | none => false
theorem okName_d {x : Str} (h : okName x = true) : (x == ("__debug__" : Str)) = false ∧ (x == ("__classdict__" : Str)) = false ∧ x ≠ "__name__" := by
  unfold okName at h
  obtain ⟨h1, h3⟩ := b2 h
  obtain ⟨h1, h2⟩ := b2 h1
  refine ⟨by simpa using h1, by simpa using h2, ?_⟩
  intro q
  rw [q] at h3
  simp at h3
theorem isVis_ok {nm : List (Str × NameKind)} {x : Str} {sc : Scope} (e : sc.names = nm) (h : isVis nm x = true) : Vis sc x := by
  unfold isVis at h
  unfold Vis
  rw [e]
  split at h <;> first | (rename_i q; rw [q]; simp) | cases h
theorem isGl_ok {nm : List (Str × NameKind)} {x : Str} {X : Cx} (e : X.env.scope.names = nm) (h : isGl nm x = true) : Gl X x := by
  unfold isGl at h
  show X.env.scope.names.lookup x = _
  rw [e]
  split at h
  · assumption
  · cases h
theorem slotIs_ok {N : List Str} {i : Nat} {x : Str} (h : slotIs N i x = true) : N[i]? = some x := by
  unfold slotIs at h
  split at h
  · rename_i y q
    rw [q, of_decide_eq_true h]
  · cases h
/-- a local's value -/
def rdVar (lv : Option (Option LV)) : Option R := match lv with
  | some (some (.sh d)) => some (.v (.sh d))
  | some (some (.ow xs)) => some (.bw xs)
  | some (some (.od kvs)) => some (.bd kvs)
  | _ => none
def cVar (i : Nat) : CE where
  ev := fun ρ T => Ev.opt (rdVar ρ[i]?) T
  chk := fun _ sc e => match e with
    | .Name x _ => okName x && slotIs sc.N i x && isVis sc.nm x
    | _ => false
  need := fun _ => True
  z := false
  ok := by
    intro Γ k W sc X e n g _ h _
    split at h
    · rename_i x pos
      obtain ⟨h1, h3⟩ := b2 h
      obtain ⟨h1, h2⟩ := b2 h1
      obtain ⟨d1, d2, _⟩ := okName_d h1
      refine PE.mono (pe_var (i := i) (by rw [g.N]; exact slotIs_ok h2) (isVis_ok g.nm h3) d1 d2) fun σ H Q q => ?_
      obtain ⟨I, ρ, T, own, w, er, p⟩ := q
      obtain ⟨r, e0, p2⟩ := Post.opt (show Post Γ (RepR Γ n own) W σ H I (Ev.opt (rdVar ρ[i]?) T) Q from p)
      unfold rdVar at e0
      split at e0
      · rename_i d e1
        cases e0
        obtain ⟨v, e2, e3⟩ := er.at_ i _ e1
        exact ⟨v, e2, p2 v H I Ext.refl w ⟨[], ⟨rfl, e3.2⟩, by simp⟩⟩
      · rename_i xs e1
        cases e0
        obtain ⟨v, e2, a, vs, e3, e4, e5, e6⟩ := er.at_ i _ e1
        have ha : a ∈ own i := by rw [e3]; simp
        obtain ⟨f1, f2, f3⟩ := er.free i a ha
        exact ⟨v, e2, p2 v H I Ext.refl w ⟨a, vs, e4, e5, f1, f2, ⟨i, ha⟩, e6⟩⟩
      · rename_i xs e1
        cases e0
        obtain ⟨v, e2, a, vs, e3, e4, e5, e6⟩ := er.at_ i _ e1
        have ha : a ∈ own i := by rw [e3]; simp
        obtain ⟨f1, f2, f3⟩ := er.free i a ha
        exact ⟨v, e2, p2 v H I Ext.refl w ⟨a, vs, e4, e5, f1, f2, ⟨i, ha⟩, e6⟩⟩
      · cases e0
    · cases h

/-! ### constants -/
theorem RepR.sh {Γ : Gam} {n : Nat} {own : Nat → List Addr} {Hs H : Hp} {I : Im} {d : D} {v : V} (h : Rep Γ I d v) : RepR Γ n own Hs H I (.v (.sh d)) v := ⟨[], ⟨rfl, h⟩, by simp⟩
theorem RepR.unsh {Γ : Gam} {n : Nat} {own : Nat → List Addr} {Hs H : Hp} {I : Im} {d : D} {v : V} (h : RepR Γ n own Hs H I (.v (.sh d)) v) : Rep Γ I d v := by
  obtain ⟨as, h, _⟩ := h
  exact h.2
theorem tE_const {Γ : Gam} {n : Nat} {W : WX} {d : D} {v : V} (h : ∀ I, Rep Γ I d v) : ∀ σ H Q, tE Γ n W (fun _ T => .ok (.v (.sh d)) T) σ H Q → tC v σ H Q := fun σ H Q q => by
  obtain ⟨I, ρ, T, own, w, er, p⟩ := q
  exact p v H I Ext.refl w (.sh (h I))
def cInt (i : Int) : CE where
  ev := fun _ T => .ok (.v (.sh (.int i))) T
  chk := fun _ _ e => match e with
    | .Constant (.int j) _ _ => decide (i = j)
    | _ => false
  need := fun _ => True
  z := false
  ok := by
    intro Γ k W sc X e n g _ h _
    split at h
    · rename_i j _ _
      rw [of_decide_eq_true h]
      exact PE.mono pe_int (tE_const fun _ => .ofInt)
    · cases h
def cBl (i : Bool) : CE where
  ev := fun _ T => .ok (.v (.sh (.bl i))) T
  chk := fun _ _ e => match e with
    | .Constant (.bool j) _ _ => i == j
    | _ => false
  need := fun _ => True
  z := false
  ok := by
    intro Γ k W sc X e n g _ h _
    split at h
    · rename_i j _ _
      rw [eq_of_beq h]
      exact PE.mono pe_bl (tE_const fun _ => .ofBl)
    · cases h
def cNon : CE where
  ev := fun _ T => .ok (.v (.sh .non)) T
  chk := fun _ _ e => match e with
    | .Constant .none _ _ => true
    | _ => false
  need := fun _ => True
  z := false
  ok := by
    intro Γ k W sc X e n g _ h _
    split at h
    · exact PE.mono pe_non (tE_const fun _ => .ofNon)
    · cases h
def cStr (x : Str) : CE where
  ev := fun _ T => .ok (.v (.sh (.str x))) T
  chk := fun _ _ e => match e with
    | .Constant (.str j) _ _ => decide (x = j)
    | _ => false
  need := fun _ => True
  z := false
  ok := by
    intro Γ k W sc X e n g _ h _
    split at h
    · rename_i j _ _
      rw [of_decide_eq_true h]
      exact PE.mono pe_str (tE_const fun _ => .ofStr)
    · cases h

/-! ### operations on values -/
/-- what an operation that answers f asks: rdN -/
def rdN (Γ : Gam) (n : Nat) (f : List R → Option R) : List V → Hp → VK → Prop := fun vs H Q => ∃ I T own Hs rs r, Wf Γ H I T ∧ RepRs Γ n own Hs H I rs vs ∧ f rs = some r ∧
  ∀ v H' I', Ext O0 H I H' I' → Wf Γ H' I' T → RepR Γ n own H H' I' r v → Q v H'
theorem OpR.mono {X : Cx} {f : Value → Value → Sem Value} {r r' : R2} (h : OpR X f r) (m : ∀ x y H Q, r' x y H Q → r x y H Q) : OpR X f r' := fun pins s σ H x y v u Q I a b q => h pins s σ H x y v u Q I a b (m _ _ _ _ q)
theorem UnR.mono {X : Cx} {f : Value → Sem Value} {r r' : V → Hp → VK → Prop} (h : UnR X f r) (m : ∀ x H Q, r' x H Q → r x H Q) : UnR X f r' := fun pins s σ H x v Q I a q => h pins s σ H x v Q I a (m _ _ _ q)
theorem CallR.mono {X : Cx} {f : Value} {r r' : List V → Hp → VK → Prop} (h : CallR X f r) (m : ∀ x H Q, r' x H Q → r x H Q) : CallR X f r' := fun pins s σ H x v Q I a q => h pins s σ H x v Q I a (m _ _ _ q)
theorem IxR.mono {X : Cx} {r r' : R2} (h : IxR X r) (m : ∀ x y H Q, r' x y H Q → r x y H Q) : IxR X r' := by
  intro va sl pins s σ H x y v u Q I a b q hs
  exact h va sl pins s σ H x y v u Q I a b (m _ _ _ _ q) hs
theorem RepRs.two {Γ : Gam} {n : Nat} {own : Nat → List Addr} {Hs H : Hp} {I : Im} {a b : R} {x y : V} (h : RepR Γ n own Hs H I a x) (q : RepR Γ n own Hs H I b y) : RepRs Γ n own Hs H I [a, b] [x, y] := ⟨x, [y], rfl, h, y, [], rfl, q, rfl⟩
theorem RepRs.one {Γ : Gam} {n : Nat} {own : Nat → List Addr} {Hs H : Hp} {I : Im} {a : R} {x : V} (h : RepR Γ n own Hs H I a x) : RepRs Γ n own Hs H I [a] [x] := ⟨x, [], rfl, h, rfl⟩
theorem RepRs.length {Γ : Gam} {n : Nat} {own : Nat → List Addr} {Hs H : Hp} {I : Im} : ∀ {rs : List R} {vs : List V}, RepRs Γ n own Hs H I rs vs → vs.length = rs.length
  | [], _, h => by rw [h]; rfl
  | _ :: _, _, ⟨v, us, h1, _, h3⟩ => by rw [h1, List.length_cons, List.length_cons, h3.length]
abbrev rd2 (Γ : Gam) (n : Nat) (f : List R → Option R) : R2 := fun x y H Q => rdN Γ n f [x, y] H Q
/-- an operation of two values -/
structure Op2 where
  op : Operator
  f : List R → Option R
  snd : ∀ {Γ : Gam} {k : Nat} {W : WX} {sc : Sc} {X : Cx} {n : Nat}, Good Γ k W sc X → OpR X (binaryOp op) (rd2 Γ n f)
structure Cp2 where
  op : CmpOp
  f : List R → Option R
  snd : ∀ {Γ : Gam} {k : Nat} {W : WX} {sc : Sc} {X : Cx} {n : Nat}, Good Γ k W sc X → OpR X (compareOp op) (rd2 Γ n f)
/-- two values reckoned one behind the other, then an operation on both -/
def ev2 (a b : Env → Cs → Ev R) (f : List R → Option R) : Env → Cs → Ev R := fun ρ T => (a ρ T).bind fun x T1 => (b ρ T1).bind fun y T2 => Ev.opt (f [x, y]) T2
theorem tE_two {Γ : Gam} {n : Nat} {W : WX} {a b : Env → Cs → Ev R} {f : List R → Option R} : ∀ σ H Q, tE Γ n W (ev2 a b f) σ H Q → tOp (rd2 Γ n f) (tE Γ n W a) (tE Γ n W b) σ H Q := fun σ H Q q => by
  obtain ⟨I, ρ, T, own, w, er, p⟩ := q
  refine ⟨I, ρ, T, own, w, er, (Post.bind (rel := RepR Γ n own) backR p).imp fun x H1 q1 => ?_⟩
  obtain ⟨r, T1, I1, _, x1, w1, r1, p1⟩ := q1
  refine ⟨I1, ρ, T1, own, w1, er.ext x1, (Post.bind (rel := RepR Γ n own) backR p1).imp fun y H2 q2 => ?_⟩
  obtain ⟨r2, T2, I2, _, x2, w2, r2', p2⟩ := q2
  obtain ⟨r3, e3, p3⟩ := Post.opt p2
  exact ⟨I2, T2, own, H, [r, r2], r3, w2, .two (r1.ext x2) (r2'.back x1.th), e3, p3⟩
def cBin (o : Op2) (a b : CE) : CE where
  ev := ev2 a.ev b.ev o.f
  chk := fun k sc e => match e with
    | .BinOp x op y _ => (op == o.op) && (a.chk k sc x && b.chk k sc y)
    | _ => false
  need := fun Γ => a.need Γ ∧ b.need Γ
  z := a.z || b.z
  ok := by
    intro Γ k W sc X e n g nd h hz
    split at h
    · obtain ⟨h1, h⟩ := b2 h
      obtain ⟨h2, h3⟩ := b2 h
      rw [eq_of_beq h1]
      exact PE.mono (pe_op (o.snd g) (a.ok g nd.1 h2 (or1 hz).1) (b.ok g nd.2 h3 (or1 hz).2)) tE_two
    · cases h
def notSet : Expr → Bool
  | .Set .. => false
  | _ => true
theorem notSet_ok {e : Expr} (h : notSet e = true) (op : CmpOp) : behindInMarks op e = false := by
  cases e <;> first | rfl | cases h
/-- a comparison as a value -/
def cCmp (o : Cp2) (a b : CE) : CE where
  ev := ev2 a.ev b.ev o.f
  chk := fun k sc e => match e with
    | .Compare x [op] [y] _ => (op == o.op) && (notSet y && (a.chk k sc x && b.chk k sc y))
    | _ => false
  need := fun Γ => a.need Γ ∧ b.need Γ
  z := a.z || b.z
  ok := by
    intro Γ k W sc X e n g nd h hz
    split at h
    · obtain ⟨h1, h⟩ := b2 h
      obtain ⟨h0, h⟩ := b2 h
      obtain ⟨h2, h3⟩ := b2 h
      rw [eq_of_beq h1]
      exact PE.mono (pe_cmpR (o.snd g) (a.ok g nd.1 h2 (or1 hz).1) (b.ok g nd.2 h3 (or1 hz).2) (notSet_ok h0 _)) tE_two
    · cases h
/-- a bool out of an answer -/
def rBl (r : R) : Option Bool := match r with
  | .v (.sh (.bl b)) => some b
  | _ => none
theorem rBl_ok {r : R} {b : Bool} (h : rBl r = some b) : r = .v (.sh (.bl b)) := by
  unfold rBl at h
  split at h
  · cases h; rfl
  · cases h
def evB (a : Env → Cs → Ev R) : Env → Cs → Ev Bool := fun ρ T => (a ρ T).bind fun x T1 => Ev.opt (rBl x) T1
/-- a value that is a bool, as a test -/
theorem tT_val {Γ : Gam} {n : Nat} {W : WX} {a : Env → Cs → Ev R} : ∀ σ H Q, tT Γ n W (evB a) σ H Q → tE Γ n W a σ H (fun x H1 => ∃ k, x = .bl k ∧ Q k H1) := fun σ H Q q => by
  obtain ⟨I, ρ, T, own, w, er, p⟩ := q
  refine ⟨I, ρ, T, own, w, er, (Post.bind (rel := RepR Γ n own) backB p).imp fun x H1 q1 => ?_⟩
  obtain ⟨r, T1, I1, _, x1, w1, r1, p1⟩ := q1
  obtain ⟨b, e, p2⟩ := Post.opt p1
  rw [rBl_ok e] at r1
  exact ⟨b, r1.unsh.bl, p2 b H1 I1 Ext.refl w1 rfl⟩
def tCmp (o : Cp2) (a b : CE) : CT where
  ev := evB (ev2 a.ev b.ev o.f)
  chk := fun k sc e => match e with
    | .Compare x [op] [y] _ => (op == o.op) && (notSet y && (a.chk k sc x && b.chk k sc y))
    | _ => false
  need := fun Γ => a.need Γ ∧ b.need Γ
  z := a.z || b.z
  ok := by
    intro Γ k W sc X e n g nd h hz
    split at h
    · obtain ⟨h1, h⟩ := b2 h
      obtain ⟨h0, h⟩ := b2 h
      obtain ⟨h2, h3⟩ := b2 h
      rw [eq_of_beq h1]
      refine PT.mono (pt_cmpR (o.snd (n := n) g) (a.ok g nd.1 h2 (or1 hz).1) (b.ok g nd.2 h3 (or1 hz).2) (notSet_ok h0 _)) fun σ H Q q => ?_
      exact tE_two σ H _ (tT_val σ H Q q)
    · cases h
/-- expressions whose test is their value's truth -/
def plainT : Expr → Bool
  | .Name .. => true
  | .Call .. => true
  | .Attribute .. => true
  | .Subscript .. => true
  | .Constant .. => false
  | _ => false
theorem plainT_ok {e : Expr} (h : plainT e = true) {env : PySem.Env} (whole : Sem Value) : isTrue e env whole = (do let v ← whole; standAt e.pos; holding [v] (truthy v)) := by
  cases e <;> first | rfl | cases h
/-- a value that is a bool, as a test -/
def tVal (a : CE) : CT where
  ev := evB a.ev
  chk := fun k sc e => plainT e && a.chk k sc e
  need := a.need
  z := a.z
  ok := by
    intro Γ k W sc X e n g nd h hz
    obtain ⟨h1, h2⟩ := b2 h
    refine PT.mono (pt_val (a.ok g nd h2 hz) (plainT_ok h1)) fun σ H Q q => ?_
    exact tT_val σ H Q q
def tNotT (a : CT) : CT where
  ev := fun ρ T => (a.ev ρ T).bind fun b T1 => .ok (!b) T1
  chk := fun k sc e => match e with
    | .UnaryOp .Not x _ => a.chk k sc x
    | _ => false
  need := a.need
  z := a.z
  ok := by
    intro Γ k W sc X e n g nd h hz
    split at h
    · refine PT.mono (pt_not (a.ok g nd h hz)) fun σ H Q q => ?_
      obtain ⟨I, ρ, T, own, w, er, p⟩ := q
      refine ⟨I, ρ, T, own, w, er, (Post.bind (rel := relB) backB p).imp fun x H1 q1 => ?_⟩
      obtain ⟨r, T1, I1, _, x1, w1, r1, p1⟩ := q1
      have e1 : x = r := r1
      rw [e1]
      exact p1 _ H1 I1 Ext.refl w1 rfl
    · cases h
end Tp
end
section
set_option Elab.async false
set_option linter.all false
set_option maxRecDepth 100000
set_option maxHeartbeats 2000000
/-! TpD: the operations. -/
namespace Tp
open PySem PySem.Spec PyProof.Rows L2

/-- as many things as a list may have here -/
abbrev lim : Nat := 1000000
theorem lim_le : lim ≤ sizeLine := by rw [sizeLine_eq]; decide
abbrev rI (i : Int) : R := .v (.sh (.int i))
abbrev rB (b : Bool) : R := .v (.sh (.bl b))
abbrev rL (xs : List D) : R := .v (.ow xs)
/-- a list's items -/
def rLst : R → Option (List D)
  | .v (.sh (.lst xs)) => some xs
  | .v (.ow xs) => some xs
  | .bw xs => some xs
  | _ => none
/-- .. also of a list of somebody else's -/
def rLs2 : R → Option (List D)
  | .v (.sh (.lst xs)) => some xs
  | .v (.sh (.fz xs)) => some xs
  | .v (.ow xs) => some xs
  | .bw xs => some xs
  | _ => none
def rTup : R → Option (List D)
  | .v (.sh (.tup xs)) => some xs
  | _ => none
section
variable {Γ : Gam} {n : Nat} {own : Nat → List Addr} {Hs H : Hp} {I : Im} {T : Cs}
theorem rLst_ok (w : Wf Γ H I T) {r : R} {xs : List D} {v : V} (h : rLst r = some xs) (q : RepR Γ n own Hs H I r v) : ∃ a vs, v = .ref a ∧ H a = some (.lst vs) ∧ Reps Γ I xs vs := by
  unfold rLst at h
  split at h
  · cases h
    obtain ⟨a, vs, h1, h2, h3⟩ := q.unsh.lst
    exact ⟨a, vs, h1, w.gh _ _ h2, h3⟩
  · cases h
    obtain ⟨as, ⟨a, vs, _, h1, h2, h3⟩, _⟩ := q
    exact ⟨a, vs, h1, h2, h3⟩
  · cases h
    obtain ⟨a, vs, h1, h2, _, _, _, h3⟩ := q
    exact ⟨a, vs, h1, h2, h3⟩
  · cases h
theorem rLs2_ok (w : Wf Γ H I T) {r : R} {xs : List D} {v : V} (h : rLs2 r = some xs) (q : RepR Γ n own Hs H I r v) : ∃ a vs, v = .ref a ∧ SqL Γ.K H a vs ∧ Reps Γ I xs vs := by
  unfold rLs2 at h
  split at h
  · cases h
    obtain ⟨a, vs, h1, h2, h3⟩ := q.unsh.lst
    exact ⟨a, vs, h1, SqL.of (w.gh _ _ h2), h3⟩
  · cases h
    obtain ⟨a, vs, h1, h2, h3⟩ := q.unsh.fz
    exact ⟨a, vs, h1, SqL.ext w.gh h2, h3⟩
  · cases h
    obtain ⟨as, ⟨a, vs, _, h1, h2, h3⟩, _⟩ := q
    exact ⟨a, vs, h1, SqL.of h2, h3⟩
  · cases h
    obtain ⟨a, vs, h1, h2, _, _, _, h3⟩ := q
    exact ⟨a, vs, h1, SqL.of h2, h3⟩
  · cases h
theorem rTup_ok (w : Wf Γ H I T) {r : R} {xs : List D} {v : V} (h : rTup r = some xs) (q : RepR Γ n own Hs H I r v) : ∃ a vs, v = .ref a ∧ SqT Γ.K H a vs ∧ Reps Γ I xs vs := by
  unfold rTup at h
  split at h
  · cases h
    obtain ⟨a, vs, h1, h2, h3⟩ := q.unsh.tup
    exact ⟨a, vs, h1, SqT.ext w.gh h2, h3⟩
  · cases h
variable {Q : VK}
/-- the new list is handed on -/
theorem give_list {xs : List D} {vs : List V} (w : Wf Γ H I T) (h : Reps Γ I xs vs) (q : ∀ v H' I', Ext O0 H I H' I' → Wf Γ H' I' T → RepR Γ n own H H' I' (.v (.ow xs)) v → Q v H') :
    ∀ p, H p = none → Q (.ref p) (upd H p (.lst vs)) := fun p hp => by
  refine q _ _ I (Ext.new hp _) (w.new hp _) ⟨[p], ⟨p, vs, rfl, rfl, upd_same, h⟩, fun a ha => ?_⟩
  have e : a = p := by simpa using ha
  subst e
  exact ⟨w.gnone hp, w.nocell hp, by rw [upd_same]; simp, hp⟩
/-- the new tuple -/
theorem give_tup {xs : List D} {vs : List V} (w : Wf Γ H I T) (h : Reps Γ I xs vs) (q : ∀ v H' I', Ext O0 H I H' I' → Wf Γ H' I' T → RepR Γ n own H H' I' (.v (.sh (.tup xs))) v → Q v H') :
    ∀ p, H p = none → Q (.ref p) (upd H p (.tup vs)) := fun p hp => by
  have x : Ext O0 H I (upd H p (.tup vs)) ⟨upd I.G p (.tup vs), I.κ, I.me⟩ := Ext.newG hp (w.gnone hp)
  refine q _ _ _ x (w.newG hp _) (.sh (.ofTup (SqT.of upd_same) (h.mono x.le)))
theorem give_val {d : D} {v : V} (w : Wf Γ H I T) (h : Rep Γ I d v) (q : ∀ v H' I', Ext O0 H I H' I' → Wf Γ H' I' T → RepR Γ n own H H' I' (.v (.sh d)) v → Q v H') : Q v H :=
  q v H I Ext.refl w (.sh h)
end
theorem rd2_mk {Γ : Gam} {n : Nat} {f : List R → Option R} {r : R2} (h : ∀ (H : Hp) (I : Im) (T : Cs) (own : Nat → List Addr) (Hs : Hp) (a b c : R) (x y : V) (Q : VK), Wf Γ H I T → RepR Γ n own Hs H I a x → RepR Γ n own Hs H I b y → f [a, b] = some c →
    (∀ v H' I', Ext O0 H I H' I' → Wf Γ H' I' T → RepR Γ n own H H' I' c v → Q v H') → r x y H Q) : ∀ x y H Q, rd2 Γ n f x y H Q → r x y H Q := fun x y H Q q => by
  obtain ⟨I, T, own, Hs, rs, c, w, rr, e, k⟩ := q
  match rs, rr with
  | [], rr => cases rr
  | [a], rr =>
    obtain ⟨_, _, e1, _, e2⟩ := rr
    rw [e2] at e1; cases e1
  | [a, b], rr =>
    obtain ⟨v, us, e1, h1, v2, us2, e2, h2, e3⟩ := rr
    rw [e2, e3] at e1
    cases e1
    exact h H I T own Hs a b c x y Q w h1 h2 e k
  | a :: b :: c :: r, rr =>
    have := rr.length
    simp at this
/-! ### ints -/
def iF (g : Int → Int → Option D) (rs : List R) : Option R := match rs with
  | [.v (.sh (.int i)), .v (.sh (.int j))] => (g i j).map fun d => .v (.sh d)
  | _ => none
theorem iF_ok {g : Int → Int → Option D} {a b c : R} (h : iF g [a, b] = some c) : ∃ i j d, a = rI i ∧ b = rI j ∧ g i j = some d ∧ c = .v (.sh d) := by
  unfold iF at h
  split at h
  · rename_i i j e
    obtain ⟨d, e1, e2⟩ := Option.map_eq_some_iff.mp h
    cases e
    exact ⟨i, j, d, rfl, rfl, e1, e2.symm⟩
  · cases h
theorem iF_rd {Γ : Gam} {n : Nat} {g : Int → Int → Option D} {r : R2} (h : ∀ i j d H Q, g i j = some d → (∀ v, (∀ I, Rep Γ I d v) → Q v H) → r (.int i) (.int j) H Q) : ∀ x y H Q, rd2 Γ n (iF g) x y H Q → r x y H Q :=
  rd2_mk fun H I T own Hs a b c x y Q w ra rb e k => by
    obtain ⟨i, j, d, rfl, rfl, e1, rfl⟩ := iF_ok e
    rw [ra.unsh.int, rb.unsh.int]
    exact h i j d H Q e1 fun v hv => give_val w (hv I) k
def subI (i j : Int) : Option D := some (.int (i - j))
def bigB : Int := 18446744073709551616
def mulI (i j : Int) : Option D := if (-bigB < i ∧ i < bigB) ∨ (-bigB < j ∧ j < bigB) then some (.int (i * j)) else none
def divI (i j : Int) : Option D := if 0 < j ∧ j < 1073741824 then some (.int (i / j)) else none
def modI (i j : Int) : Option D := if 0 < j then some (.int (i % j)) else none
def powI (i j : Int) : Option D := if 0 ≤ j ∧ j ≤ 1000 ∧ i.natAbs < 1000000 then some (.int (i ^ j.toNat)) else none
def ltI (i j : Int) : Option D := some (.bl (decide (i < j)))
def leI (i j : Int) : Option D := some (.bl (decide (i ≤ j)))
def gtI (i j : Int) : Option D := some (.bl (decide (j < i)))
def geI (i j : Int) : Option D := some (.bl (decide (j ≤ i)))

/-! ### + -/
def fAdd (rs : List R) : Option R := match rs with
  | [.v (.sh (.int i)), .v (.sh (.int j))] => some (rI (i + j))
  | [.v (.sh (.str s)), .v (.sh (.str t))] => if s.length + t.length ≤ lim then some (.v (.sh (.str (s ++ t)))) else none
  | [.v (.sh (.tup xs)), .v (.sh (.tup ys))] => if xs ≠ [] ∧ ys ≠ [] ∧ xs.length + ys.length ≤ lim then some (.v (.sh (.tup (xs ++ ys)))) else none
  | [a, b] => match rLst a, rLst b with
    | some xs, some ys => if xs.length + ys.length ≤ lim then some (rL (xs ++ ys)) else none
    | _, _ => none
  | _ => none
theorem op_add_all {X : Cx} {Γ : Gam} {n : Nat} (hK : X.K = Γ.K) : OpR X (binaryOp .Add) (rd2 Γ n fAdd) := by
  refine OpR.mono (OpR.or op_add (OpR.or op_cat (OpR.or op_catT op_add_str))) (rd2_mk fun H I T own Hs a b c x y Q w ra rb e k => ?_)
  unfold fAdd at e
  split at e
  · rename_i i j q
    cases q; cases e
    rw [ra.unsh.int, rb.unsh.int]
    exact .inl ⟨i, j, rfl, rfl, give_val w .ofInt k⟩
  · rename_i s t q
    cases q
    split at e
    · rename_i hl
      cases e
      rw [ra.unsh.str, rb.unsh.str]
      exact .inr (.inr (.inr ⟨s, t, rfl, rfl, Nat.le_trans hl lim_le, give_val w .ofStr k⟩))
    · cases e
  · rename_i xs ys q
    cases q
    split at e
    · rename_i hl
      obtain ⟨h1, h2, h3⟩ := hl
      cases e
      obtain ⟨p, vs, rfl, p1, p2⟩ := rTup_ok w rfl ra
      obtain ⟨p', us, rfl, p1', p2'⟩ := rTup_ok w rfl rb
      refine .inr (.inr (.inl ⟨p, p', vs, us, rfl, rfl, by rw [hK]; exact p1, by rw [hK]; exact p1', ?_, ?_, ?_⟩))
      · intro z; have := p2.length; rw [z] at this; exact h1 (List.length_eq_zero_iff.mp this.symm)
      · rw [p2.length, p2'.length]; exact Nat.le_trans h3 lim_le
      · refine ⟨fun z => ?_, fun _ => give_tup w (p2.append p2') k⟩
        have := p2'.length; rw [z] at this; exact absurd (List.length_eq_zero_iff.mp this.symm) h2
    · cases e
  · rename_i a b h1 h2 h3 q
    cases q
    split at e
    · rename_i xs ys e1 e2
      split at e
      · rename_i hl
        cases e
        obtain ⟨p, vs, rfl, p1, p2⟩ := rLst_ok w e1 ra
        obtain ⟨p', us, rfl, p1', p2'⟩ := rLst_ok w e2 rb
        exact .inr (.inl ⟨p, p', vs, us, rfl, rfl, p1, p1', by rw [p2.length, p2'.length]; exact Nat.le_trans hl lim_le, give_list w (p2.append p2') k⟩)
      · cases e
    · cases e
  · cases e
def oAdd : Op2 where
  op := .Add
  f := fAdd
  snd := fun g => op_add_all g.K
def oSub : Op2 where
  op := .Sub
  f := iF subI
  snd := fun g => OpR.mono op_sub (iF_rd fun i j d H Q e k => ⟨i, j, rfl, rfl, by cases e; exact k _ fun _ => .ofInt⟩)
/-! ### times -/
def fMul (rs : List R) : Option R := match rs with
  | [.v (.sh (.int i)), .v (.sh (.int j))] => (mulI i j).map fun d => .v (.sh d)
  | [a, .v (.sh (.int k))] => match rLst a with
    | some xs => if -(2 ^ 62) ≤ k ∧ k < 2 ^ 62 ∧ xs.length * k.toNat ≤ lim then some (rL (List.replicate k.toNat xs).flatten) else none
    | none => none
  | _ => none
theorem mulI_ok {i j : Int} {d : D} (h : mulI i j = some d) : CMul i j ∧ d = .int (i * j) := by
  unfold mulI bigB at h
  split at h
  · rename_i q
    cases h
    exact ⟨by unfold CMul; simpa using q, rfl⟩
  · cases h
theorem op_mul_all {X : Cx} {Γ : Gam} {n : Nat} : OpR X (binaryOp .Mult) (rd2 Γ n fMul) := by
  refine OpR.mono (OpR.or op_mul op_rep) (rd2_mk fun H I T own Hs a b c x y Q w ra rb e k => ?_)
  unfold fMul at e
  split at e
  · rename_i i j q
    cases q
    obtain ⟨d, e1, rfl⟩ := Option.map_eq_some_iff.mp e
    obtain ⟨h1, rfl⟩ := mulI_ok e1
    rw [ra.unsh.int, rb.unsh.int]
    exact .inl ⟨i, j, rfl, rfl, h1, give_val w .ofInt k⟩
  · rename_i a m h1 q
    cases q
    split at e
    · rename_i xs e1
      split at e
      · rename_i hl
        obtain ⟨l1, l2, l3⟩ := hl
        cases e
        obtain ⟨p, vs, rfl, p1, p2⟩ := rLst_ok w e1 ra
        rw [rb.unsh.int]
        exact .inr ⟨p, m, vs, rfl, rfl, p1, by omega, by omega, by rw [p2.length]; exact Nat.le_trans l3 lim_le, give_list w (p2.rep _) k⟩
      · cases e
    · cases e
  · cases e
def oMul : Op2 where
  op := .Mult
  f := fMul
  snd := fun _ => op_mul_all
def oDiv : Op2 where
  op := .FloorDiv
  f := iF divI
  snd := fun g => OpR.mono op_fdiv (iF_rd fun i j d H Q e k => by
    unfold divI at e
    split at e
    · rename_i h
      cases e
      exact ⟨i, j, rfl, rfl, h, k _ fun _ => .ofInt⟩
    · cases e)
def oMod : Op2 where
  op := .Mod
  f := iF modI
  snd := fun g => OpR.mono op_mod (iF_rd fun i j d H Q e k => by
    unfold modI at e
    split at e
    · rename_i h
      cases e
      exact ⟨i, j, rfl, rfl, h, k _ fun _ => .ofInt⟩
    · cases e)
def oPow : Op2 where
  op := .Pow
  f := iF powI
  snd := fun g => OpR.mono op_pow (iF_rd fun i j d H Q e k => by
    unfold powI at e
    split at e
    · rename_i h
      cases e
      exact ⟨i, j, rfl, rfl, ⟨h.1, by omega, by have := h.2.2; omega⟩, k _ fun _ => .ofInt⟩
    · cases e)
def oLt : Cp2 where
  op := .Lt
  f := iF ltI
  snd := fun g => OpR.mono op_lt (iF_rd fun i j d H Q e k => ⟨i, j, rfl, rfl, by cases e; exact k _ fun _ => .ofBl⟩)
def oLe : Cp2 where
  op := .LtE
  f := iF leI
  snd := fun g => OpR.mono op_le (iF_rd fun i j d H Q e k => ⟨i, j, rfl, rfl, by cases e; exact k _ fun _ => .ofBl⟩)
def oGt : Cp2 where
  op := .Gt
  f := iF gtI
  snd := fun g => OpR.mono op_gt (iF_rd fun i j d H Q e k => ⟨i, j, rfl, rfl, by cases e; exact k _ fun _ => .ofBl⟩)
def oGe : Cp2 where
  op := .GtE
  f := iF geI
  snd := fun g => OpR.mono op_ge (iF_rd fun i j d H Q e k => ⟨i, j, rfl, rfl, by cases e; exact k _ fun _ => .ofBl⟩)

/-! ### == of data -/
mutual
def toPy : D → Option PyData
  | .non => some .none
  | .bl b => some (.bool b)
  | .int i => some (.int i)
  | .str s => some (.str s)
  | .lst xs => (toPys xs).map .list
  | .fz xs => (toPys xs).map .list
  | .tup xs => (toPys xs).map .tuple
  | .dct _ => none
  | .obj _ _ => none
  | .cell _ => none
  | .lam _ _ => none
def toPys : List D → Option (List PyData)
  | [] => some []
  | x :: xs => match toPy x, toPys xs with
    | some p, some ps => some (p :: ps)
    | _, _ => none
end
def rPy : R → Option PyData
  | .v (.sh d) => toPy d
  | .v (.ow xs) => (toPys xs).map .list
  | .bw xs => (toPys xs).map .list
  | _ => none
section
variable {Γ : Gam} {I : Im} {H : Hp}
mutual
theorem toPy_ok (gh : ∀ a o, I.G a = some o → H a = some o) : ∀ {d : D} {v : V} {p : PyData}, Rep Γ I d v → toPy d = some p → Dp Γ.K H v p
  | .non, _, _, h, e => by simp only [toPy] at e; cases e; rw [h.non]; exact .non
  | .bl b, _, _, h, e => by simp only [toPy] at e; cases e; rw [h.bl]; exact .bl b
  | .int b, _, _, h, e => by simp only [toPy] at e; cases e; rw [h.int]; exact .int b
  | .str b, _, _, h, e => by simp only [toPy] at e; cases e; rw [h.str]; exact .str b
  | .lst xs, _, _, h, e => by
    simp only [toPy] at e
    obtain ⟨ps, e1, rfl⟩ := Option.map_eq_some_iff.mp e
    obtain ⟨a, vs, rfl, h2, h3⟩ := h.lst
    exact .lst (SqL.of (gh _ _ h2)) (toPys_ok gh h3 e1)
  | .fz xs, _, _, h, e => by
    simp only [toPy] at e
    obtain ⟨ps, e1, rfl⟩ := Option.map_eq_some_iff.mp e
    obtain ⟨a, vs, rfl, h2, h3⟩ := h.fz
    exact .lst (SqL.ext gh h2) (toPys_ok gh h3 e1)
  | .tup xs, _, _, h, e => by
    simp only [toPy] at e
    obtain ⟨ps, e1, rfl⟩ := Option.map_eq_some_iff.mp e
    obtain ⟨a, vs, rfl, h2, h3⟩ := h.tup
    exact .tup (SqT.ext gh h2) (toPys_ok gh h3 e1)
  | .dct _, _, _, _, e => by simp only [toPy] at e; cases e
  | .obj _ _, _, _, _, e => by simp only [toPy] at e; cases e
  | .cell _, _, _, _, e => by simp only [toPy] at e; cases e
  | .lam _ _, _, _, _, e => by simp only [toPy] at e; cases e
theorem toPys_ok (gh : ∀ a o, I.G a = some o → H a = some o) : ∀ {ds : List D} {vs : List V} {ps : List PyData}, Reps Γ I ds vs → toPys ds = some ps → DpAll Γ.K H vs ps
  | [], _, _, h, e => by
    simp only [toPys] at e; cases e
    simp only [Reps] at h; subst h
    exact .nil
  | d :: ds, _, _, h, e => by
    simp only [Reps] at h
    obtain ⟨v, r, rfl, h2, h3⟩ := h
    simp only [toPys] at e
    split at e
    · rename_i p ps e1 e2
      cases e
      exact .cons (toPy_ok gh h2 e1) (toPys_ok gh h3 e2)
    · cases e
end
end
theorem rPy_ok {Γ : Gam} {n : Nat} {own : Nat → List Addr} {Hs H : Hp} {I : Im} {T : Cs} (w : Wf Γ H I T) {r : R} {p : PyData} {v : V} (h : rPy r = some p) (q : RepR Γ n own Hs H I r v) : Dp Γ.K H v p := by
  unfold rPy at h
  split at h
  · exact toPy_ok w.gh q.unsh h
  · obtain ⟨ps, e1, rfl⟩ := Option.map_eq_some_iff.mp h
    obtain ⟨a, vs, rfl, h2, h3⟩ := rLst_ok w rfl q
    exact .lst (SqL.of h2) (toPys_ok w.gh h3 e1)
  · obtain ⟨ps, e1, rfl⟩ := Option.map_eq_some_iff.mp h
    obtain ⟨a, vs, rfl, h2, h3⟩ := rLst_ok w rfl q
    exact .lst (SqL.of h2) (toPys_ok w.gh h3 e1)
  · cases h
def eqR (a b : R) : Option Bool := match a, b with
  | .v (.sh (.int i)), .v (.sh (.int j)) => some (decide (i = j))
  | a, b => match rPy a, rPy b with
    | some p, some q => if SeqAt.shaped p && SeqAt.shaped q then some (PyData.eqv p q) else none
    | _, _ => none
theorem eqR_ok {Γ : Gam} {n : Nat} {own : Nat → List Addr} {Hs H : Hp} {I : Im} {T : Cs} (w : Wf Γ H I T) {a b : R} {k : Bool} {x y : V} (h : eqR a b = some k) (ra : RepR Γ n own Hs H I a x) (rb : RepR Γ n own Hs H I b y) :
    ∃ p q, Dp Γ.K H x p ∧ Dp Γ.K H y q ∧ SeqAt.shaped p = true ∧ SeqAt.shaped q = true ∧ k = PyData.eqv p q := by
  unfold eqR at h
  split at h
  · rename_i i j
    cases h
    rw [ra.unsh.int, rb.unsh.int]
    refine ⟨_, _, .int i, .int j, rfl, rfl, ?_⟩
    show decide (i = j) = (i == j)
    exact (Bool.beq_eq_decide_eq i j).symm
  · split at h
    · rename_i p q e1 e2
      split at h
      · rename_i hs
        cases h
        obtain ⟨s1, s2⟩ := b2 hs
        exact ⟨p, q, rPy_ok w e1 ra, rPy_ok w e2 rb, s1, s2, rfl⟩
      · cases h
    · cases h
def fEq (rs : List R) : Option R := match rs with
  | [a, b] => (eqR a b).map rB
  | _ => none
def fNe (rs : List R) : Option R := match rs with
  | [a, b] => (eqR a b).map fun k => rB (!k)
  | _ => none
def oEq : Cp2 where
  op := .Eq
  f := fEq
  snd := fun {Γ k W sc X n} g => by
    refine OpR.mono (op_eqD g.room.units) (rd2_mk fun H I T own Hs a b c x y Q w ra rb e q => ?_)
    obtain ⟨z, e1, rfl⟩ := Option.map_eq_some_iff.mp (show (eqR a b).map rB = some c from e)
    obtain ⟨p, p', d1, d2, s1, s2, rfl⟩ := eqR_ok w e1 ra rb
    refine ⟨p, p', by rw [g.K]; exact d1, by rw [g.K]; exact d2, s1, s2, give_val w .ofBl q⟩
def oNe : Cp2 where
  op := .NotEq
  f := fNe
  snd := fun {Γ k W sc X n} g => by
    refine OpR.mono (op_neD g.room.units) (rd2_mk fun H I T own Hs a b c x y Q w ra rb e q => ?_)
    obtain ⟨z, e1, rfl⟩ := Option.map_eq_some_iff.mp (show (eqR a b).map (fun k => rB (!k)) = some c from e)
    obtain ⟨p, p', d1, d2, s1, s2, rfl⟩ := eqR_ok w e1 ra rb
    refine ⟨p, p', by rw [g.K]; exact d1, by rw [g.K]; exact d2, s1, s2, give_val w .ofBl q⟩
/-! ### is -/
end Tp
end
section
set_option Elab.async false
set_option linter.all false
set_option maxRecDepth 100000
set_option maxHeartbeats 2000000
/-! TpE: answers as plain data; displays, subscripts, slices, and/or, in. -/
namespace Tp
open PySem PySem.Spec PyProof.Rows L2

/-- the answer becomes plain data: a new list is nobody's own any more -/
def rD : R → Option D
  | .v (.sh d) => some d
  | .v (.ow xs) => some (.lst xs)
  | _ => none
def evD (a : Env → Cs → Ev R) : Env → Cs → Ev D := fun ρ T => (a ρ T).bind fun r T1 => Ev.opt (rD r) T1
def relD (Γ : Gam) (_ _ : Hp) (I : Im) (d : D) (v : V) : Prop := Rep Γ I d v
def relDs (Γ : Gam) (_ _ : Hp) (I : Im) (d : List D) (v : List V) : Prop := Reps Γ I d v
theorem backDs {Γ : Gam} : Backs (relDs Γ) := ⟨fun _ q => q⟩
theorem Ext.frz {H0 H : Hp} {I0 I : Im} {a : Addr} {o : HO} (x : Ext O0 H0 I0 H I) (h0 : H0 a = none) (hg : I.G a = none) : Ext O0 H0 I0 H ⟨upd I.G a o, I.κ, I.me⟩ :=
  ⟨fun b u e => by
    show upd I.G a o b = _
    rw [upd_ne (ne_of_none (x.gg b u e) hg)]; exact x.gg b u e, x.kk, x.fr, x.th, fun b q => by
    by_cases e : b = a
    · subst e; exact .inr (.inl h0)
    · exact x.gn b (by have q2 : upd I.G a o b ≠ none := q; rw [upd_ne e] at q2; exact q2), x.kn, x.mm⟩
theorem Im.Le.frz {I : Im} {a : Addr} {o : HO} (hg : I.G a = none) : Im.Le I ⟨upd I.G a o, I.κ, I.me⟩ :=
  ⟨fun b u e => by show upd I.G a o b = _; rw [upd_ne (ne_of_none e hg)]; exact e, fun _ _ h => h, rfl⟩
section
variable {Γ : Gam} {n : Nat} {W : WX} {σ : L2.St} {own : Nat → List Addr}
theorem RepR.toD {H0 H : Hp} {I0 I : Im} {T : Cs} (x : Ext O0 H0 I0 H I) (w : Wf Γ H I T) {r : R} {d : D} {v : V} (e : rD r = some d) (q : RepR Γ n own H0 H I r v) : ∃ I', Ext O0 H0 I0 H I' ∧ Wf Γ H I' T ∧ Im.Le I I' ∧ Rep Γ I' d v := by
  unfold rD at e
  split at e
  · cases e
    exact ⟨I, x, w, ⟨fun _ _ h => h, fun _ _ h => h, rfl⟩, q.unsh⟩
  · cases e
    obtain ⟨as, ⟨a, vs, rfl, rfl, h2, h3⟩, h4⟩ := q
    obtain ⟨g1, g2, g3, g4⟩ := h4 a (by simp)
    have le : Im.Le I ⟨upd I.G a (.lst vs), I.κ, I.me⟩ := Im.Le.frz g1
    exact ⟨_, x.frz g4 g1, w.freeze h2 g1 g2, le, .ofLst (show upd I.G a (.lst vs) a = _ from upd_same) (h3.mono le)⟩
  · cases e
/-- wanted of the data, so wanted of the answer -/
theorem Post.toD {H : Hp} {I : Im} {a : Env → Cs → Ev R} {ρ : Env} {T : Cs} {Q : VK} (h : Post Γ (relD Γ) W σ H I (evD a ρ T) Q) : Post Γ (RepR Γ n own) W σ H I (a ρ T) Q := by
  unfold evD at h
  cases e : a ρ T with
  | no => rw [e] at h; exact h
  | ex x T' => rw [e] at h; exact h
  | ok r T1 =>
    rw [e] at h
    intro v H' I' x w q
    obtain ⟨d, e2, k⟩ := Post.opt (show Post Γ (relD Γ) W σ H I (Ev.opt (rD r) T1) Q from h)
    obtain ⟨I2, x2, w2, _, r2⟩ := q.toD x w e2
    exact k v H' I2 x2 w2 r2
def tD (Γ : Gam) (n : Nat) (W : WX) (ev : Env → Cs → Ev D) : TE := fun σ H Q => ∃ I ρ T own, Wf Γ H I T ∧ ER Γ n σ ρ H I own ∧ Post Γ (relD Γ) W σ H I (ev ρ T) Q
theorem tD_of {a : Env → Cs → Ev R} : ∀ σ H Q, tD Γ n W (evD a) σ H Q → tE Γ n W a σ H Q := fun σ H Q ⟨I, ρ, T, own, w, er, p⟩ => ⟨I, ρ, T, own, w, er, p.toD⟩
def tDs (Γ : Gam) (n : Nat) (W : WX) (ev : Env → Cs → Ev (List D)) : TA := fun σ H Q => ∃ I ρ T own, Wf Γ H I T ∧ ER Γ n σ ρ H I own ∧ Post Γ (relDs Γ) W σ H I (ev ρ T) Q
end
/-- arguments as plain data -/
structure CD where
  ev : Env → Cs → Ev (List D)
  len : Nat
  chk : Nat → Sc → List Expr → Bool
  need : Gam → Prop
  z : Bool
  ok : ∀ {Γ : Gam} {k : Nat} {W : WX} {sc : Sc} {X : Cx} {e : List Expr} {n : Nat}, Good Γ k W sc X → need Γ → chk k sc e = true → (z = true → n = X.s_0.heap.objs.size) → PA X e (tDs Γ n W ev)
  star : ∀ {k : Nat} {sc : Sc} {e : List Expr} {env : PySem.Env}, chk k sc e = true → starEach e env = e.map fun x => (false, eval x env)
  hlen : ∀ {ρ : Env} {T T' : Cs} {ds : List D}, ev ρ T = .ok ds T' → ds.length = len
def notStar : Expr → Bool
  | .Starred .. => false
  | _ => true
theorem star_cons {e : Expr} {es : List Expr} {env : PySem.Env} (h : notStar e = true) : starEach (e :: es) env = (false, eval e env) :: starEach es env := by
  cases e <;> first | rfl | cases h
def dNil : CD where
  ev := fun _ T => .ok [] T
  len := 0
  chk := fun _ _ es => es.isEmpty
  need := fun _ => True
  z := false
  ok := by
    intro Γ k W sc X e n g _ h _
    cases e with
    | cons a b => cases h
    | nil => exact PA.mono pa_nil fun σ H Q ⟨I, ρ, T, own, w, er, p⟩ => p [] H I Ext.refl w Reps.nil
  star := fun {k sc e env} h => by
    cases e with
    | cons a b => cases h
    | nil => rfl
  hlen := fun {ρ T T' ds} h => by cases h; rfl
def dCons (a : CE) (r : CD) : CD where
  ev := fun ρ T => (evD a.ev ρ T).bind fun d T1 => (r.ev ρ T1).bind fun ds T2 => .ok (d :: ds) T2
  len := r.len + 1
  chk := fun k sc es => match es with
    | e :: es => notStar e && (a.chk k sc e && r.chk k sc es)
    | _ => false
  need := fun Γ => a.need Γ ∧ r.need Γ
  z := a.z || r.z
  ok := by
    intro Γ k W sc X e n g nd h hz
    split at h
    · obtain ⟨h0, h⟩ := b2 h
      obtain ⟨h1, h2⟩ := b2 h
      refine PA.mono (pa_cons (a.ok g nd.1 h1 (or1 hz).1) (r.ok g nd.2 h2 (or1 hz).2) (star_cons h0)) fun σ H Q q => ?_
      obtain ⟨I, ρ, T, own, w, er, p⟩ := q
      refine ⟨I, ρ, T, own, w, er, Post.toD ((Post.bind (rel := relD Γ) backDs p).imp fun x H1 q1 => ?_)⟩
      obtain ⟨d, T1, I1, _, x1, w1, r1, p1⟩ := q1
      refine ⟨I1, ρ, T1, own, w1, er.ext x1, (Post.bind (rel := relDs Γ) backDs p1).imp fun xs H2 q2 => ?_⟩
      obtain ⟨ds, T2, I2, _, x2, w2, r2, p2⟩ := q2
      exact p2 (x :: xs) H2 I2 Ext.refl w2 (Reps.cons (Rep.mono x2.le r1) r2)
    · cases h
  star := fun {k sc e env} h => by
    cases e with
    | nil => cases h
    | cons e es =>
      obtain ⟨h0, h⟩ := b2 h
      obtain ⟨h1, h2⟩ := b2 h
      rw [star_cons h0, r.star h2]; rfl
  hlen := fun {ρ T T' ds} h => by
    cases e : evD a.ev ρ T with
    | no => rw [e] at h; cases h
    | ex x T1 => rw [e] at h; cases h
    | ok x T1 =>
      rw [e] at h
      have h' : ((r.ev ρ T1).bind fun ds T2 => .ok (x :: ds) T2) = Ev.ok ds T' := h
      cases e2 : r.ev ρ T1 with
      | no => rw [e2] at h'; cases h'
      | ex x T1 => rw [e2] at h'; cases h'
      | ok ds2 T2 =>
        rw [e2] at h'
        cases h'
        rw [List.length_cons, r.hlen e2]
/-- arguments as they are -/
def aNil : CA where
  ev := fun _ T => .ok [] T
  chk := fun _ _ es => es.isEmpty
  need := fun _ => True
  z := false
  ok := by
    intro Γ k W sc X e n g _ h _
    cases e with
    | cons a b => cases h
    | nil => exact PA.mono pa_nil fun σ H Q ⟨I, ρ, T, own, w, er, p⟩ => p [] H I Ext.refl w rfl
  star := fun {k sc e env} h => by
    cases e with
    | cons a b => cases h
    | nil => rfl
def aCons (a : CE) (r : CA) : CA where
  ev := fun ρ T => (a.ev ρ T).bind fun d T1 => (r.ev ρ T1).bind fun ds T2 => .ok (d :: ds) T2
  chk := fun k sc es => match es with
    | e :: es => notStar e && (a.chk k sc e && r.chk k sc es)
    | _ => false
  need := fun Γ => a.need Γ ∧ r.need Γ
  z := a.z || r.z
  ok := by
    intro Γ k W sc X e n g nd h hz
    split at h
    · obtain ⟨h0, h⟩ := b2 h
      obtain ⟨h1, h2⟩ := b2 h
      refine PA.mono (pa_cons (a.ok g nd.1 h1 (or1 hz).1) (r.ok g nd.2 h2 (or1 hz).2) (star_cons h0)) fun σ H Q q => ?_
      obtain ⟨I, ρ, T, own, w, er, p⟩ := q
      refine ⟨I, ρ, T, own, w, er, (Post.step (rel := RepR Γ n own) p Ext.refl).imp fun x H1 q1 => ?_⟩
      obtain ⟨d, T1, I1, _, x1, w1, r1, p1⟩ := q1
      refine ⟨I1, ρ, T1, own, w1, er.ext x1, (Post.step (rel := RepRs Γ n own) p1 x1).imp fun xs H2 q2 => ?_⟩
      obtain ⟨ds, T2, I2, _, x2, w2, r2, p2⟩ := q2
      exact p2 (x :: xs) H2 I2 (x1.tr0 x2) w2 ⟨x, xs, rfl, r1.ext x2, r2.back x1.th⟩
    · cases h
  star := fun {k sc e env} h => by
    cases e with
    | nil => cases h
    | cons e es =>
      obtain ⟨h0, h⟩ := b2 h
      obtain ⟨h1, h2⟩ := b2 h
      rw [star_cons h0, r.star h2]; rfl
end Tp
end
section
set_option Elab.async false
set_option linter.all false
set_option maxRecDepth 100000
set_option maxHeartbeats 2000000
/-! TpF: displays, subscripts, slices, and/or, if/else, in, built-ins. -/
namespace Tp
open PySem PySem.Spec PyProof.Rows L2

theorem Post.ret {Γ : Gam} {W : WX} {σ : L2.St} {H H1 : Hp} {I I1 : Im} {α β : Type} {rel : Hp → Hp → Im → α → β → Prop} {r : α} {T : Cs} {Q : β → Hp → Prop} (h : Post Γ rel W σ H I (.ok r T) Q) {v : β} (x : Ext O0 H I H1 I1) (w : Wf Γ H1 I1 T) (q : rel H H1 I1 r v) : Q v H1 := h v H1 I1 x w q
def cLst (d : CD) : CE where
  ev := fun ρ T => (d.ev ρ T).bind fun ds T1 => Ev.opt (if ds.length ≤ lim then some (rL ds) else none) T1
  chk := fun k sc e => match e with
    | .List es _ => d.chk k sc es
    | _ => false
  need := d.need
  z := d.z
  ok := by
    intro Γ k W sc X e n g nd h hz
    split at h
    · refine PE.mono (pe_lst (d.ok g nd h hz)) fun σ H Q q => ?_
      obtain ⟨I, ρ, T, own, w, er, p⟩ := q
      refine ⟨I, ρ, T, own, w, er, (Post.bind (rel := relDs Γ) backR p).imp fun xs H1 q1 => ?_⟩
      obtain ⟨ds, T1, I1, _, x1, w1, r1, p1⟩ := q1
      obtain ⟨r, e1, p2⟩ := Post.opt p1
      split at e1
      · rename_i hl
        cases e1
        have r1' : Reps Γ I1 ds xs := r1
        exact ⟨by rw [r1'.length]; exact Nat.le_trans hl lim_le, give_list w1 r1' p2⟩
      · cases e1
    · cases h
def cTup (d : CD) : CE where
  ev := fun ρ T => (d.ev ρ T).bind fun ds T1 => Ev.opt (if ds.length ≤ lim then some (.v (.sh (.tup ds))) else none) T1
  chk := fun k sc e => match e with
    | .Tuple es _ _ => d.chk k sc es
    | _ => false
  need := d.need
  z := d.z
  ok := by
    intro Γ k W sc X e n g nd h hz
    split at h
    · refine PE.mono (pe_tup (d.ok g nd h hz)) fun σ H Q q => ?_
      obtain ⟨I, ρ, T, own, w, er, p⟩ := q
      refine ⟨I, ρ, T, own, w, er, (Post.bind (rel := relDs Γ) backR p).imp fun xs H1 q1 => ?_⟩
      obtain ⟨ds, T1, I1, _, x1, w1, r1, p1⟩ := q1
      obtain ⟨r, e1, p2⟩ := Post.opt p1
      split at e1
      · rename_i hl
        cases e1
        have r1' : Reps Γ I1 ds xs := r1
        exact ⟨by rw [r1'.length]; exact Nat.le_trans hl lim_le, give_tup w1 r1' p2⟩
      · cases e1
    · cases h

/-! ### subscripts -/
def fIx (T : Cs) (a b : R) : Option R := match b with
  | .v (.sh (.int i)) => (match a with
    | .v (.sh (.tup xs)) => (atI xs i).map fun d => .v (.sh d)
    | .v (.sh (.cell m)) => (match T[m]? with
      | some xs => (atI xs i).map fun d => .v (.sh d)
      | none => none)
    | a => (match rLs2 a with
      | some xs => (atI xs i).map fun d => .v (.sh d)
      | none => none))
  | _ => none
theorem atI_rep {Γ : Gam} {I : Im} {xs : List D} {vs : List V} {i : Int} {d : D} (r : Reps Γ I xs vs) (h : atI xs i = some d) : ∃ v, atI vs i = some v ∧ Rep Γ I d v := by
  unfold atI at h ⊢
  rw [r.length]
  cases e : ixN xs.length i with
  | none => rw [e] at h; cases h
  | some j =>
    rw [e] at h
    obtain ⟨v, h1, h2⟩ := r.get (n := j) (d := d) h
    exact ⟨v, h1, h2⟩
theorem fIx_ok {Γ : Gam} {n : Nat} {own : Nat → List Addr} {H0 H : Hp} {I : Im} {T : Cs} (w : Wf Γ H I T) {a b c : R} {x y : V} {Q : VK} (e : fIx T a b = some c) (ra : RepR Γ n own H0 H I a x) (rb : RepR Γ n own H0 H I b y)
    (k : ∀ v H' I', Ext O0 H I H' I' → Wf Γ H' I' T → RepR Γ n own H H' I' c v → Q v H') : rIx Γ.K x y H Q := by
  unfold fIx at e
  split at e
  · rename_i i
    rw [rb.unsh.int]
    split at e
    · rename_i xs
      obtain ⟨d, e1, rfl⟩ := Option.map_eq_some_iff.mp e
      obtain ⟨p, vs, rfl, p1, p2⟩ := rTup_ok w rfl ra
      obtain ⟨v, h1, h2⟩ := atI_rep p2 e1
      exact .inr (.inl ⟨p, vs, i, v, rfl, rfl, p1, h1, give_val w h2 k⟩)
    · rename_i m
      split at e
      · rename_i xs e0
        obtain ⟨d, e1, rfl⟩ := Option.map_eq_some_iff.mp e
        have q := ra.unsh
        simp only [Rep] at q
        obtain ⟨p, rfl, q2⟩ := q
        obtain ⟨vs, p1, p2⟩ := w.cells m p xs q2 e0
        obtain ⟨v, h1, h2⟩ := atI_rep p2 e1
        exact .inl ⟨p, vs, i, v, rfl, rfl, SqL.of p1, h1, give_val w h2 k⟩
      · cases e
    · split at e
      · rename_i xs e0
        obtain ⟨d, e1, rfl⟩ := Option.map_eq_some_iff.mp e
        obtain ⟨p, vs, rfl, p1, p2⟩ := rLs2_ok w e0 ra
        obtain ⟨v, h1, h2⟩ := atI_rep p2 e1
        exact .inl ⟨p, vs, i, v, rfl, rfl, p1, h1, give_val w h2 k⟩
      · cases e
  · cases e
def notSlice : Expr → Bool
  | .Slice .. => false
  | _ => true
theorem notSlice_ok {e : Expr} (h : notSlice e = true) : PlainIx e := fun o i => by
  cases e <;> first | rfl | cases h
def cIx (a b : CE) : CE where
  ev := fun ρ T => (a.ev ρ T).bind fun x T1 => (b.ev ρ T1).bind fun y T2 => Ev.opt (fIx T2 x y) T2
  chk := fun k sc e => match e with
    | .Subscript x y _ => notSlice y && (a.chk k sc x && b.chk k sc y)
    | _ => false
  need := fun Γ => a.need Γ ∧ b.need Γ
  z := a.z || b.z
  ok := by
    intro Γ k W sc X e n g nd h hz
    split at h
    · obtain ⟨h0, h⟩ := b2 h
      obtain ⟨h2, h3⟩ := b2 h
      refine PE.mono (pe_ix ix_seq (a.ok g nd.1 h2 (or1 hz).1) (b.ok g nd.2 h3 (or1 hz).2) (notSlice_ok h0)) fun σ H Q q => ?_
      obtain ⟨I, ρ, T, own, w, er, p⟩ := q
      refine ⟨I, ρ, T, own, w, er, (Post.bind (rel := RepR Γ n own) backR p).imp fun x H1 q1 => ?_⟩
      obtain ⟨r, T1, I1, _, x1, w1, r1, p1⟩ := q1
      refine ⟨I1, ρ, T1, own, w1, er.ext x1, (Post.bind (rel := RepR Γ n own) backR p1).imp fun y H2 q2 => ?_⟩
      obtain ⟨r2, T2, I2, _, x2, w2, r2', p2⟩ := q2
      obtain ⟨r3, e3, p3⟩ := Post.opt p2
      rw [g.K]
      exact fIx_ok w2 e3 (r1.ext x2) (r2'.back x1.th) p3
    · cases h
/-- a part of a slice -/
def evP (o : Option CE) : Env → Cs → Ev (Option Int) := match o with
  | none => fun _ T => .ok none T
  | some a => fun ρ T => (a.ev ρ T).bind fun r T1 => match r with
    | .v (.sh (.int i)) => .ok (some i) T1
    | _ => .no
def chkP (o : Option CE) (k : Nat) (sc : Sc) (e : Option Expr) : Bool := match o, e with
  | none, none => true
  | some a, some x => a.chk k sc x
  | _, _ => false
def needP (o : Option CE) (Γ : Gam) : Prop := match o with
  | none => True
  | some a => a.need Γ
def zP (o : Option CE) : Bool := match o with
  | none => false
  | some a => a.z
def relE {α : Type} (_ _ : Hp) (_ : Im) (a b : α) : Prop := b = a
theorem backE {α : Type} : Backs (relE (α := α)) := ⟨fun _ q => q⟩
def tP (Γ : Gam) (n : Nat) (W : WX) (ev : Env → Cs → Ev (Option Int)) : TO := fun σ H Q => ∃ I ρ T own, Wf Γ H I T ∧ ER Γ n σ ρ H I own ∧ Post Γ relE W σ H I (ev ρ T) Q
theorem PO.mono {X : Cx} {e : Option Expr} {t t' : TO} (h : PO X e t) (m : ∀ σ H Q, t' σ H Q → t σ H Q) : PO X e t' := ⟨fun pins s σ H Q I q => h.run pins s σ H Q I (m σ H Q q)⟩
theorem evP_ok {o : Option CE} {Γ : Gam} {k : Nat} {W : WX} {sc : Sc} {X : Cx} {e : Option Expr} {n : Nat} (g : Good Γ k W sc X) (nd : needP o Γ) (h : chkP o k sc e = true) (hz : zP o = true → n = X.s_0.heap.objs.size) : PO X e (tP Γ n W (evP o)) := by
  unfold chkP at h
  split at h
  · exact PO.mono po_none fun σ H Q ⟨I, ρ, T, own, w, er, p⟩ => p.ret Ext.refl w rfl
  · rename_i a x
    refine PO.mono (po_some (a.ok g nd h hz)) fun σ H Q q => ?_
    obtain ⟨I, ρ, T, own, w, er, p⟩ := q
    refine ⟨I, ρ, T, own, w, er, (Post.bind (rel := RepR Γ n own) backE p).imp fun v H1 q1 => ?_⟩
    obtain ⟨r, T1, I1, _, x1, w1, r1, p1⟩ := q1
    split at p1
    · exact ⟨_, r1.unsh.int, p1.ret Ext.refl w1 rfl⟩
    · exact p1.elim
  · cases h
def cutD (xs : List D) (lo hi : Option Int) : List D := (xs.drop (HT.sIx xs.length 0 lo)).take (HT.sIx xs.length xs.length hi - HT.sIx xs.length 0 lo)
theorem cut_rep {Γ : Gam} {I : Im} {xs : List D} {vs : List V} (r : Reps Γ I xs vs) (lo hi : Option Int) : Reps Γ I (cutD xs lo hi) (cutV vs lo hi) := by
  unfold cutD cutV
  rw [r.length]
  exact (r.drop _).take _
def fSl (a : R) (lo hi : Option Int) : Option R := match a with
  | .v (.sh (.tup xs)) => some (.v (.sh (.tup (cutD xs lo hi))))
  | a => (match rLs2 a with
    | some xs => some (rL (cutD xs lo hi))
    | none => none)
def cSlice (a : CE) (lo hi : Option CE) : CE where
  ev := fun ρ T => (a.ev ρ T).bind fun x T1 => (evP lo ρ T1).bind fun l T2 => (evP hi ρ T2).bind fun u T3 => Ev.opt (fSl x l u) T3
  chk := fun k sc e => match e with
    | .Subscript x (.Slice l u none _) _ => a.chk k sc x && (chkP lo k sc l && chkP hi k sc u)
    | _ => false
  need := fun Γ => a.need Γ ∧ needP lo Γ ∧ needP hi Γ
  z := a.z || (zP lo || zP hi)
  ok := by
    intro Γ k W sc X e n g nd h hz
    split at h
    · obtain ⟨h1, h⟩ := b2 h
      obtain ⟨h2, h3⟩ := b2 h
      have z1 := or1 hz
      have z2 := or1 z1.2
      refine PE.mono (pe_slice (SlR.or sl_list sl_tupA) (a.ok g nd.1 h1 z1.1) (evP_ok g nd.2.1 h2 z2.1) (evP_ok g nd.2.2 h3 z2.2)) fun σ H Q q => ?_
      obtain ⟨I, ρ, T, own, w, er, p⟩ := q
      refine ⟨I, ρ, T, own, w, er, (Post.bind (rel := RepR Γ n own) backR p).imp fun x H1 q1 => ?_⟩
      obtain ⟨r, T1, I1, _, x1, w1, r1, p1⟩ := q1
      refine ⟨I1, ρ, T1, own, w1, er.ext x1, (Post.bind (rel := relE) backR p1).imp fun l H2 q2 => ?_⟩
      obtain ⟨l', T2, I2, _, x2, w2, el, p2⟩ := q2
      refine ⟨I2, ρ, T2, own, w2, (er.ext x1).ext x2, (Post.bind (rel := relE) backR p2).imp fun u H3 q3 => ?_⟩
      obtain ⟨u', T3, I3, _, x3, w3, eu, p3⟩ := q3
      have el' : l = l' := el
      have eu' : u = u' := eu
      subst el' eu'
      obtain ⟨c, e3, k3⟩ := Post.opt p3
      have ra := (r1.ext x2).ext x3
      rw [g.K]
      unfold fSl at e3
      split at e3
      · rename_i xs _
        cases e3
        have ra' := ra
        obtain ⟨b, vs, rfl, p1, p2⟩ := rTup_ok w3 rfl ra
        refine .inr ⟨b, vs, rfl, p1, fun hn => ?_, fun _ => give_tup w3 (cut_rep p2 l u) k3⟩
        rw [p2.length] at hn
        have e4 : cutD xs l u = xs := by
          unfold cutD
          rw [hn.1, hn.2, List.drop_zero, Nat.sub_zero, List.take_length]
        rw [e4] at k3
        exact give_val w3 ra'.unsh k3
      · split at e3
        · rename_i xs e0
          cases e3
          obtain ⟨b, vs, rfl, p1, p2⟩ := rLs2_ok w3 e0 ra
          exact .inl ⟨b, vs, rfl, p1, give_list w3 (cut_rep p2 l u) k3⟩
        · cases e3
    · cases h
/-- xs[::-1] -/
def cRev (a : CE) : CE where
  ev := fun ρ T => (a.ev ρ T).bind fun x T1 => Ev.opt ((rLs2 x).map fun xs => rL xs.reverse) T1
  chk := fun k sc e => match e with
    | .Subscript x (.Slice none none (some (.UnaryOp .USub (.Constant (.int j) _ _) _)) _) _ => decide (j = 1) && a.chk k sc x
    | _ => false
  need := a.need
  z := a.z
  ok := by
    intro Γ k W sc X e n g nd h hz
    split at h
    · rename_i j _ _ _ _
      obtain ⟨h1, h2⟩ := b2 h
      have hj := of_decide_eq_true h1
      subst hj
      refine PE.mono (pe_revL (a.ok g nd h2 hz)) fun σ H Q q => ?_
      obtain ⟨I, ρ, T, own, w, er, p⟩ := q
      refine ⟨I, ρ, T, own, w, er, (Post.bind (rel := RepR Γ n own) backR p).imp fun x H1 q1 => ?_⟩
      obtain ⟨r, T1, I1, _, x1, w1, r1, p1⟩ := q1
      obtain ⟨c, e1, k1⟩ := Post.opt p1
      obtain ⟨xs, e2, rfl⟩ := Option.map_eq_some_iff.mp e1
      obtain ⟨b, vs, rfl, p1, p2⟩ := rLs2_ok w1 e2 r1
      rw [g.K]
      exact ⟨b, vs, rfl, p1, give_list w1 p2.rev k1⟩
    · cases h
/-- -a -/
def cNeg (a : CE) : CE where
  ev := fun ρ T => (a.ev ρ T).bind fun x T1 => Ev.opt (match x with
    | .v (.sh (.int i)) => some (rI (-i))
    | _ => none) T1
  chk := fun k sc e => match e with
    | .UnaryOp .USub x _ => a.chk k sc x
    | _ => false
  need := a.need
  z := a.z
  ok := by
    intro Γ k W sc X e n g nd h hz
    split at h
    · refine PE.mono (pe_un un_neg (a.ok g nd h hz)) fun σ H Q q => ?_
      obtain ⟨I, ρ, T, own, w, er, p⟩ := q
      refine ⟨I, ρ, T, own, w, er, (Post.bind (rel := RepR Γ n own) backR p).imp fun x H1 q1 => ?_⟩
      obtain ⟨r, T1, I1, _, x1, w1, r1, p1⟩ := q1
      obtain ⟨c, e1, k1⟩ := Post.opt p1
      split at e1
      · cases e1
        exact ⟨_, r1.unsh.int, give_val w1 .ofInt k1⟩
      · cases e1
    · cases h
/-! ### and, or -/
def andEv : List CT → Env → Cs → Ev Bool
  | [], _, _ => .no
  | [a], ρ, T => a.ev ρ T
  | a :: b :: r, ρ, T => (a.ev ρ T).bind fun k T1 => if k then andEv (b :: r) ρ T1 else .ok false T1
def orEv : List CT → Env → Cs → Ev Bool
  | [], _, _ => .no
  | [a], ρ, T => a.ev ρ T
  | a :: b :: r, ρ, T => (a.ev ρ T).bind fun k T1 => if k then .ok true T1 else orEv (b :: r) ρ T1
def chkTs : List CT → Nat → Sc → List Expr → Bool
  | [], _, _, es => es.isEmpty
  | a :: r, k, sc, es => match es with
    | e :: es => a.chk k sc e && chkTs r k sc es
    | [] => false
def needTs : List CT → Gam → Prop
  | [], _ => True
  | a :: r, Γ => a.need Γ ∧ needTs r Γ
def zTs : List CT → Bool
  | [] => false
  | a :: r => a.z || zTs r
theorem andEv_ok {Γ : Gam} {k : Nat} {W : WX} {sc : Sc} {X : Cx} {n : Nat} {pos : Pos} (g : Good Γ k W sc X) : ∀ {ts : List CT} {es : List Expr}, ts ≠ [] → needTs ts Γ → chkTs ts k sc es = true → (zTs ts = true → n = X.s_0.heap.objs.size) → PW X (.BoolOp .And es pos) (tT Γ n W (andEv ts))
  | [], _, h, _, _, _ => absurd rfl h
  | [a], [], _, _, h, _ => by cases h
  | [a], [e], _, nd, h, hz => by
    have h1 := (b2 h).1
    exact pw_and1 (a.ok g nd.1 h1 (or1 hz).1)
  | [a], e :: e' :: es, _, nd, h, hz => by
    have h1 := (b2 h).2
    cases h1
  | a :: b :: r, [], _, _, h, _ => by cases h
  | a :: b :: r, [e], _, _, h, _ => by
    have h1 := (b2 h).2
    cases h1
  | a :: b :: r, e :: e' :: es, _, nd, h, hz => by
    obtain ⟨h1, h2⟩ := b2 h
    refine PW.mono (pw_and (a.ok g nd.1 h1 (or1 hz).1) (andEv_ok g (by simp) nd.2 h2 (or1 hz).2)) fun σ H Q q => ?_
    obtain ⟨I, ρ, T, own, w, er, p⟩ := q
    refine ⟨I, ρ, T, own, w, er, (Post.bind (rel := relB) backB p).imp fun v H1 q1 => ?_⟩
    obtain ⟨r1, T1, I1, _, x1, w1, e1, p1⟩ := q1
    have e1' : v = r1 := e1
    subst e1'
    cases v with
    | true => exact ⟨I1, ρ, T1, own, w1, er.ext x1, p1⟩
    | false => exact p1.ret Ext.refl w1 rfl
theorem orEv_ok {Γ : Gam} {k : Nat} {W : WX} {sc : Sc} {X : Cx} {n : Nat} {pos : Pos} (g : Good Γ k W sc X) : ∀ {ts : List CT} {es : List Expr}, ts ≠ [] → needTs ts Γ → chkTs ts k sc es = true → (zTs ts = true → n = X.s_0.heap.objs.size) → PW X (.BoolOp .Or es pos) (tT Γ n W (orEv ts))
  | [], _, h, _, _, _ => absurd rfl h
  | [a], [], _, _, h, _ => by cases h
  | [a], [e], _, nd, h, hz => by
    have h1 := (b2 h).1
    exact pw_or1 (a.ok g nd.1 h1 (or1 hz).1)
  | [a], e :: e' :: es, _, nd, h, hz => by
    have h1 := (b2 h).2
    cases h1
  | a :: b :: r, [], _, _, h, _ => by cases h
  | a :: b :: r, [e], _, _, h, _ => by
    have h1 := (b2 h).2
    cases h1
  | a :: b :: r, e :: e' :: es, _, nd, h, hz => by
    obtain ⟨h1, h2⟩ := b2 h
    refine PW.mono (pw_or (a.ok g nd.1 h1 (or1 hz).1) (orEv_ok g (by simp) nd.2 h2 (or1 hz).2)) fun σ H Q q => ?_
    obtain ⟨I, ρ, T, own, w, er, p⟩ := q
    refine ⟨I, ρ, T, own, w, er, (Post.bind (rel := relB) backB p).imp fun v H1 q1 => ?_⟩
    obtain ⟨r1, T1, I1, _, x1, w1, e1, p1⟩ := q1
    have e1' : v = r1 := e1
    subst e1'
    cases v with
    | true => exact p1.ret Ext.refl w1 rfl
    | false => exact ⟨I1, ρ, T1, own, w1, er.ext x1, p1⟩
def tAnd (ts : List CT) : CT where
  ev := andEv ts
  chk := fun k sc e => match e with
    | .BoolOp .And es _ => !ts.isEmpty && chkTs ts k sc es
    | _ => false
  need := needTs ts
  z := zTs ts
  ok := by
    intro Γ k W sc X e n g nd h hz
    split at h
    · obtain ⟨h1, h2⟩ := b2 h
      exact (andEv_ok g (by intro q; rw [q] at h1; cases h1) nd h2 hz).pt
    · cases h
def tOr (ts : List CT) : CT where
  ev := orEv ts
  chk := fun k sc e => match e with
    | .BoolOp .Or es _ => !ts.isEmpty && chkTs ts k sc es
    | _ => false
  need := needTs ts
  z := zTs ts
  ok := by
    intro Γ k W sc X e n g nd h hz
    split at h
    · obtain ⟨h1, h2⟩ := b2 h
      exact (orEv_ok g (by intro q; rw [q] at h1; cases h1) nd h2 hz).pt
    · cases h
/-- a if t else b -/
def cIte (c : CT) (a b : CE) : CE where
  ev := fun ρ T => (c.ev ρ T).bind fun k T1 => if k then a.ev ρ T1 else b.ev ρ T1
  chk := fun k sc e => match e with
    | .IfExp t x y _ => c.chk k sc t && (a.chk k sc x && b.chk k sc y)
    | _ => false
  need := fun Γ => c.need Γ ∧ a.need Γ ∧ b.need Γ
  z := c.z || (a.z || b.z)
  ok := by
    intro Γ k W sc X e n g nd h hz
    split at h
    · obtain ⟨h1, h⟩ := b2 h
      obtain ⟨h2, h3⟩ := b2 h
      have z1 := or1 hz
      have z2 := or1 z1.2
      refine PE.mono (pe_ifExp (c.ok g nd.1 h1 z1.1) (a.ok g nd.2.1 h2 z2.1) (b.ok g nd.2.2 h3 z2.2)) fun σ H Q q => ?_
      obtain ⟨I, ρ, T, own, w, er, p⟩ := q
      refine ⟨I, ρ, T, own, w, er, (Post.bind (rel := relB) backR p).imp fun v H1 q1 => ?_⟩
      obtain ⟨r1, T1, I1, _, x1, w1, e1, p1⟩ := q1
      have e1' : v = r1 := e1
      subst e1'
      cases v with
      | true => exact ⟨I1, ρ, T1, own, w1, er.ext x1, p1⟩
      | false => exact ⟨I1, ρ, T1, own, w1, er.ext x1, p1⟩
    · cases h
/-- and, or as values: all but the last are bools -/
def andVe : List CE → Env → Cs → Ev R
  | [], _, _ => .no
  | [a], ρ, T => a.ev ρ T
  | a :: b :: r, ρ, T => (a.ev ρ T).bind fun x T1 => match rBl x with
    | some true => andVe (b :: r) ρ T1
    | some false => .ok (rB false) T1
    | none => .no
def orVe : List CE → Env → Cs → Ev R
  | [], _, _ => .no
  | [a], ρ, T => a.ev ρ T
  | a :: b :: r, ρ, T => (a.ev ρ T).bind fun x T1 => match rBl x with
    | some true => .ok (rB true) T1
    | some false => orVe (b :: r) ρ T1
    | none => .no
def chkEs : List CE → Nat → Sc → List Expr → Bool
  | [], _, _, es => es.isEmpty
  | a :: r, k, sc, es => match es with
    | e :: es => a.chk k sc e && chkEs r k sc es
    | [] => false
def needEs : List CE → Gam → Prop
  | [], _ => True
  | a :: r, Γ => a.need Γ ∧ needEs r Γ
def zEs : List CE → Bool
  | [] => false
  | a :: r => a.z || zEs r
theorem andVe_ok {Γ : Gam} {k : Nat} {W : WX} {sc : Sc} {X : Cx} {n : Nat} {pos : Pos} (g : Good Γ k W sc X) : ∀ {ts : List CE} {es : List Expr}, ts ≠ [] → needEs ts Γ → chkEs ts k sc es = true → (zEs ts = true → n = X.s_0.heap.objs.size) → PE X (.BoolOp .And es pos) (tE Γ n W (andVe ts))
  | [], _, h, _, _, _ => absurd rfl h
  | [a], [], _, _, h, _ => by cases h
  | [a], [e], _, nd, h, hz => pe_one (a.ok g nd.1 (b2 h).1 (or1 hz).1)
  | [a], e :: e' :: es, _, nd, h, hz => by
    have h1 := (b2 h).2
    cases h1
  | a :: b :: r, [], _, _, h, _ => by cases h
  | a :: b :: r, [e], _, _, h, _ => by
    have h1 := (b2 h).2
    cases h1
  | a :: b :: r, e :: e' :: es, _, nd, h, hz => by
    obtain ⟨h1, h2⟩ := b2 h
    refine PE.mono (pe_and (a.ok g nd.1 h1 (or1 hz).1) (andVe_ok g (by simp) nd.2 h2 (or1 hz).2)) fun σ H Q q => ?_
    obtain ⟨I, ρ, T, own, w, er, p⟩ := q
    refine ⟨I, ρ, T, own, w, er, (Post.bind (rel := RepR Γ n own) backR p).imp fun v H1 q1 => ?_⟩
    obtain ⟨r1, T1, I1, _, x1, w1, e1, p1⟩ := q1
    split at p1
    · rename_i e2
      rw [rBl_ok e2] at e1
      exact ⟨true, e1.unsh.bl, iteT ⟨I1, ρ, T1, own, w1, er.ext x1, p1⟩⟩
    · rename_i e2
      rw [rBl_ok e2] at e1
      exact ⟨false, e1.unsh.bl, iteF (p1.ret Ext.refl w1 (.sh .ofBl))⟩
    · exact p1.elim
theorem orVe_ok {Γ : Gam} {k : Nat} {W : WX} {sc : Sc} {X : Cx} {n : Nat} {pos : Pos} (g : Good Γ k W sc X) : ∀ {ts : List CE} {es : List Expr}, ts ≠ [] → needEs ts Γ → chkEs ts k sc es = true → (zEs ts = true → n = X.s_0.heap.objs.size) → PE X (.BoolOp .Or es pos) (tE Γ n W (orVe ts))
  | [], _, h, _, _, _ => absurd rfl h
  | [a], [], _, _, h, _ => by cases h
  | [a], [e], _, nd, h, hz => pe_one (a.ok g nd.1 (b2 h).1 (or1 hz).1)
  | [a], e :: e' :: es, _, nd, h, hz => by
    have h1 := (b2 h).2
    cases h1
  | a :: b :: r, [], _, _, h, _ => by cases h
  | a :: b :: r, [e], _, _, h, _ => by
    have h1 := (b2 h).2
    cases h1
  | a :: b :: r, e :: e' :: es, _, nd, h, hz => by
    obtain ⟨h1, h2⟩ := b2 h
    refine PE.mono (pe_or (a.ok g nd.1 h1 (or1 hz).1) (orVe_ok g (by simp) nd.2 h2 (or1 hz).2)) fun σ H Q q => ?_
    obtain ⟨I, ρ, T, own, w, er, p⟩ := q
    refine ⟨I, ρ, T, own, w, er, (Post.bind (rel := RepR Γ n own) backR p).imp fun v H1 q1 => ?_⟩
    obtain ⟨r1, T1, I1, _, x1, w1, e1, p1⟩ := q1
    split at p1
    · rename_i e2
      rw [rBl_ok e2] at e1
      exact ⟨true, e1.unsh.bl, iteT (p1.ret Ext.refl w1 (.sh .ofBl))⟩
    · rename_i e2
      rw [rBl_ok e2] at e1
      exact ⟨false, e1.unsh.bl, iteF ⟨I1, ρ, T1, own, w1, er.ext x1, p1⟩⟩
    · exact p1.elim
def cAnd (ts : List CE) : CE where
  ev := andVe ts
  chk := fun k sc e => match e with
    | .BoolOp .And es _ => !ts.isEmpty && chkEs ts k sc es
    | _ => false
  need := needEs ts
  z := zEs ts
  ok := by
    intro Γ k W sc X e n g nd h hz
    split at h
    · obtain ⟨h1, h2⟩ := b2 h
      exact andVe_ok g (by intro q; rw [q] at h1; cases h1) nd h2 hz
    · cases h
def cOr (ts : List CE) : CE where
  ev := orVe ts
  chk := fun k sc e => match e with
    | .BoolOp .Or es _ => !ts.isEmpty && chkEs ts k sc es
    | _ => false
  need := needEs ts
  z := zEs ts
  ok := by
    intro Γ k W sc X e n g nd h hz
    split at h
    · obtain ⟨h1, h2⟩ := b2 h
      exact orVe_ok g (by intro q; rw [q] at h1; cases h1) nd h2 hz
    · cases h
/-- not a, as a value -/
def cNot (a : CE) : CE where
  ev := fun ρ T => (a.ev ρ T).bind fun x T1 => Ev.opt ((rBl x).map fun k => rB (!k)) T1
  chk := fun k sc e => match e with
    | .UnaryOp .Not x _ => a.chk k sc x
    | _ => false
  need := a.need
  z := a.z
  ok := by
    intro Γ k W sc X e n g nd h hz
    split at h
    · refine PE.mono (pe_not (a.ok g nd h hz)) fun σ H Q q => ?_
      obtain ⟨I, ρ, T, own, w, er, p⟩ := q
      refine ⟨I, ρ, T, own, w, er, (Post.bind (rel := RepR Γ n own) backR p).imp fun x H1 q1 => ?_⟩
      obtain ⟨r, T1, I1, _, x1, w1, r1, p1⟩ := q1
      obtain ⟨c, e1, k1⟩ := Post.opt p1
      obtain ⟨b, e2, rfl⟩ := Option.map_eq_some_iff.mp e1
      rw [rBl_ok e2] at r1
      exact ⟨b, r1.unsh.bl, give_val w1 .ofBl k1⟩
    · cases h
end Tp
end
section
set_option Elab.async false
set_option linter.all false
set_option maxRecDepth 100000
set_option maxHeartbeats 2000000
/-! TpG: calls of built-ins, in, isinstance. -/
namespace Tp
open PySem PySem.Spec PyProof.Rows L2

def noStars : List Expr → Bool
  | [] => true
  | e :: es => notStar e && noStars es
theorem noStars_ok : ∀ {es : List Expr} {env : PySem.Env}, noStars es = true → starEach es env = es.map fun x => (false, eval x env)
  | [], _, _ => rfl
  | e :: es, env, h => by
    obtain ⟨h1, h2⟩ := b2 h
    rw [star_cons h1, noStars_ok h2]; rfl
theorem noStars_back {es : List Expr} {env : PySem.Env} {pos : Pos} (h : noStars es = true) : (backTo pos (starEach es env)).any (·.1) = false := by
  rw [noStars_ok h]
  unfold backTo
  rw [List.map_map, List.any_map]
  induction es with
  | nil => rfl
  | cons e es ih =>
    simp only [List.any_cons, Function.comp]
    exact ih (b2 h).2
theorem rdN_one {Γ : Gam} {n : Nat} {f : List R → Option R} {r : List V → Hp → VK → Prop} (h1 : ∀ rs c, f rs = some c → ∃ a, rs = [a]) (h : ∀ (H : Hp) (I : Im) (T : Cs) (own : Nat → List Addr) (Hs : Hp) (a c : R) (x : V) (Q : VK), Wf Γ H I T → RepR Γ n own Hs H I a x → f [a] = some c →
    (∀ v H' I', Ext O0 H I H' I' → Wf Γ H' I' T → RepR Γ n own H H' I' c v → Q v H') → r [x] H Q) : ∀ vs H Q, rdN Γ n f vs H Q → r vs H Q := fun vs H Q q => by
  obtain ⟨I, T, own, Hs, rs, c, w, rr, e, k⟩ := q
  obtain ⟨a, rfl⟩ := h1 rs c e
  obtain ⟨x, us, e1, ra, e2⟩ := rr
  rw [e2] at e1
  rw [e1]
  exact h H I T own Hs a c x Q w ra e k
theorem rdN_two {Γ : Gam} {n : Nat} {f : List R → Option R} {r : List V → Hp → VK → Prop} (h1 : ∀ rs c, f rs = some c → ∃ a b, rs = [a, b]) (h : ∀ (H : Hp) (I : Im) (T : Cs) (own : Nat → List Addr) (Hs : Hp) (a b c : R) (x y : V) (Q : VK), Wf Γ H I T → RepR Γ n own Hs H I a x → RepR Γ n own Hs H I b y → f [a, b] = some c →
    (∀ v H' I', Ext O0 H I H' I' → Wf Γ H' I' T → RepR Γ n own H H' I' c v → Q v H') → r [x, y] H Q) : ∀ vs H Q, rdN Γ n f vs H Q → r vs H Q := fun vs H Q q => by
  obtain ⟨I, T, own, Hs, rs, c, w, rr, e, k⟩ := q
  obtain ⟨a, b, rfl⟩ := h1 rs c e
  obtain ⟨x, us, e1, ra, y, us2, e3, rb, e2⟩ := rr
  rw [e3, e2] at e1
  rw [e1]
  exact h H I T own Hs a b c x y Q w ra rb e k
/-- a built-in function of values -/
structure Blt where
  nm : Str
  val : Value
  f : List R → Option R
  need : Gam → Prop
  ok : ∀ {Γ : Gam} {k : Nat} {W : WX} {sc : Sc} {X : Cx} {n : Nat} {p pos : Pos} {e : Expr} {es : List Expr} {t : TA}, Good Γ k W sc X → need Γ → Gl X nm → X.mg nm = none → PA X (e :: es) t → noStars (e :: es) = true → okName nm = true →
    PE X (.Call (.Name nm p) (e :: es) [] pos) (tCB (rdN Γ n f) t)
def cBlt (b : Blt) (a : CA) : CE where
  ev := fun ρ T => (a.ev ρ T).bind fun rs T1 => Ev.opt (b.f rs) T1
  chk := fun k sc e => match e with
    | .Call (.Name x _) (e :: es) [] _ => decide (x = b.nm) && (isGl sc.nm x && (okName x && (noStars (e :: es) && a.chk k sc (e :: es))))
    | _ => false
  need := fun Γ => b.need Γ ∧ Γ.mg b.nm = none ∧ a.need Γ
  z := a.z
  ok := by
    intro Γ k W sc X e n g nd h hz
    split at h
    · rename_i x p e es pos
      obtain ⟨h1, h⟩ := b2 h
      obtain ⟨h2, h⟩ := b2 h
      obtain ⟨h3, h⟩ := b2 h
      obtain ⟨h4, h5⟩ := b2 h
      have e1 := of_decide_eq_true h1
      subst e1
      refine PE.mono (b.ok (n := n) g nd.1 (isGl_ok g.nm h2) (by rw [g.mg]; exact nd.2.1) (a.ok g nd.2.2 h5 hz) h4 h3) fun σ H Q q => ?_
      obtain ⟨I, ρ, T, own, w, er, p⟩ := q
      refine ⟨I, ρ, T, own, w, er, (Post.step (rel := RepRs Γ n own) p Ext.refl).imp fun xs H1 q1 => ?_⟩
      obtain ⟨rs, T1, I1, _, x1, w1, r1, p1⟩ := q1
      obtain ⟨c, e3, k3⟩ := Post.opt p1
      exact ⟨I1, T1, own, H, rs, c, w1, r1, e3, fun v H' I' a b c => k3 v H' I' (x1.tr0 a) b (c.back x1.th)⟩
    · cases h
/-- by its rule -/
def bltF (nm : Str) (id : String) (f : List R → Option R) (hb : bootBuiltins nm = some (.builtin id)) (snd : ∀ {Γ : Gam} {k : Nat} {W : WX} {sc : Sc} {X : Cx} {n : Nat}, Good Γ k W sc X → CallR X (.builtin id) (rdN Γ n f)) : Blt where
  nm := nm
  val := .builtin id
  f := f
  need := fun _ => True
  ok := fun {Γ k W sc X n p pos e es t} g _ hg hm ha hs hn => by
    obtain ⟨d1, _, d3⟩ := okName_d hn
    exact pe_callB (snd g) hg hm hb ha d3 d1 (star_cons (b2 hs).1) (noStars_back (b2 hs).2)
def bltT (nm : Str) (T : String) (f : List R → Option R) (hb : bootBuiltins nm = some (.type T)) (snd : ∀ {Γ : Gam} {k : Nat} {W : WX} {sc : Sc} {X : Cx} {n : Nat}, Good Γ k W sc X → CallR X (.type T) (rdN Γ n f)) : Blt where
  nm := nm
  val := .type T
  f := f
  need := fun _ => True
  ok := fun {Γ k W sc X n p pos e es t} g _ hg hm ha hs hn => by
    obtain ⟨d1, _, d3⟩ := okName_d hn
    exact pe_callTy (snd g) hg hm hb ha d3 d1 (star_cons (b2 hs).1) (noStars_back (b2 hs).2)
def f1 (g : R → Option R) (rs : List R) : Option R := match rs with
  | [a] => g a
  | _ => none
def f2 (g : R → R → Option R) (rs : List R) : Option R := match rs with
  | [a, b] => g a b
  | _ => none
theorem f1_one {g : R → Option R} {rs : List R} {c : R} (h : f1 g rs = some c) : ∃ a, rs = [a] := by
  unfold f1 at h
  split at h
  · exact ⟨_, rfl⟩
  · cases h
theorem f2_two {g : R → R → Option R} {rs : List R} {c : R} (h : f2 g rs = some c) : ∃ a b, rs = [a, b] := by
  unfold f2 at h
  split at h
  · exact ⟨_, _, rfl⟩
  · cases h
def gLen (a : R) : Option R := match a with
  | .v (.sh (.tup xs)) => some (rI xs.length)
  | .v (.sh (.str s)) => if s.length ≤ lim then some (rI s.length) else none
  | a => match rLs2 a with
    | some xs => some (rI xs.length)
    | none => none
def bLen : Blt := bltF "len" "len" (f1 gLen) PySem.boot_len fun {Γ k W sc X n} g => by
  refine CallR.mono (CallR.or call_len_seq call_len_str) (rdN_one (fun _ _ => f1_one) fun H I T own Hs a c x Q w ra e q => ?_)
  have e1 : gLen a = some c := e
  unfold gLen at e1
  split at e1
  · rename_i xs
    cases e1
    obtain ⟨p, vs, rfl, p1, p2⟩ := rTup_ok w rfl ra
    exact .inl ⟨p, vs, rfl, .inr (by rw [g.K]; exact p1), by rw [p2.length]; exact give_val w .ofInt q⟩
  · split at e1
    · rename_i hl
      cases e1
      rw [ra.unsh.str]
      exact .inr ⟨_, rfl, Nat.le_trans hl lim_le, give_val w .ofInt q⟩
    · cases e1
  · split at e1
    · rename_i xs e0
      cases e1
      obtain ⟨p, vs, rfl, p1, p2⟩ := rLs2_ok w e0 ra
      exact .inl ⟨p, vs, rfl, .inl (by rw [g.K]; exact p1), by rw [p2.length]; exact give_val w .ofInt q⟩
    · cases e1
def gAbs (a : R) : Option R := match a with
  | .v (.sh (.int i)) => some (rI (if i < 0 then -i else i))
  | _ => none
def bAbs : Blt := bltF "abs" "abs" (f1 gAbs) PyProof.Rows.boot_abs fun {Γ k W sc X n} g => by
  refine CallR.mono call_abs (rdN_one (fun _ _ => f1_one) fun H I T own Hs a c x Q w ra e q => ?_)
  have e1 : gAbs a = some c := e
  unfold gAbs at e1
  split at e1
  · rename_i i
    cases e1
    rw [ra.unsh.int]
    exact ⟨i, rfl, give_val w .ofInt q⟩
  · cases e1
def gMax (a b : R) : Option R := match a, b with
  | .v (.sh (.int i)), .v (.sh (.int j)) => some (rI (if j > i then j else i))
  | _, _ => none
def gMin (a b : R) : Option R := match a, b with
  | .v (.sh (.int i)), .v (.sh (.int j)) => some (rI (if j < i then j else i))
  | _, _ => none
def bMax2 : Blt := bltF "max" "max" (f2 gMax) PyProof.Rows.boot_max fun {Γ k W sc X n} g => by
  refine CallR.mono (call_max2 g.calm) (rdN_two (fun _ _ => f2_two) fun H I T own Hs a b c x y Q w ra rb e q => ?_)
  have e1 : gMax a b = some c := e
  unfold gMax at e1
  split at e1
  · rename_i i j
    cases e1
    rw [ra.unsh.int, rb.unsh.int]
    exact ⟨i, j, rfl, give_val w .ofInt q⟩
  · cases e1
def bMin2 : Blt := bltF "min" "min" (f2 gMin) PyProof.Rows.boot_min fun {Γ k W sc X n} g => by
  refine CallR.mono (call_min2 g.calm) (rdN_two (fun _ _ => f2_two) fun H I T own Hs a b c x y Q w ra rb e q => ?_)
  have e1 : gMin a b = some c := e
  unfold gMin at e1
  split at e1
  · rename_i i j
    cases e1
    rw [ra.unsh.int, rb.unsh.int]
    exact ⟨i, j, rfl, give_val w .ofInt q⟩
  · cases e1
def gInt (a : R) : Option R := match a with
  | .v (.sh (.int i)) => some (rI i)
  | .v (.sh (.bl b)) => some (rI (if b then 1 else 0))
  | _ => none
def bInt : Blt := bltT "int" "int" (f1 gInt) PyProof.Rows.boot_int fun {Γ k W sc X n} g => by
  refine CallR.mono call_int1 (rdN_one (fun _ _ => f1_one) fun H I T own Hs a c x Q w ra e q => ?_)
  have e1 : gInt a = some c := e
  unfold gInt at e1
  split at e1
  · rename_i i
    cases e1
    rw [ra.unsh.int]
    exact .inl ⟨i, rfl, give_val w .ofInt q⟩
  · rename_i i
    cases e1
    rw [ra.unsh.bl]
    exact .inr ⟨i, rfl, give_val w .ofInt q⟩
  · cases e1
/-- list(xs), list(t) -/
def gList (a : R) : Option R := match rTup a with
  | some xs => some (rL xs)
  | none => match rLs2 a with
    | some xs => some (rL xs)
    | none => none
def bList : Blt := bltT "list" "list" (f1 gList) PyProof.Rows.boot_list fun {Γ k W sc X n} g => by
  refine CallR.mono call_list_of (rdN_one (fun _ _ => f1_one) fun H I T own Hs a c x Q w ra e q => ?_)
  have e1 : gList a = some c := e
  unfold gList at e1
  split at e1
  · rename_i xs e0
    cases e1
    obtain ⟨p, vs, rfl, p1, p2⟩ := rTup_ok w e0 ra
    exact ⟨p, vs, rfl, .inr (by rw [g.K]; exact p1), give_list w p2 q⟩
  · split at e1
    · rename_i xs e0
      cases e1
      obtain ⟨p, vs, rfl, p1, p2⟩ := rLs2_ok w e0 ra
      exact ⟨p, vs, rfl, .inl (by rw [g.K]; exact p1), give_list w p2 q⟩
    · cases e1
def gTuple (a : R) : Option R := match rTup a with
  | some xs => some (.v (.sh (.tup xs)))
  | none => match rLs2 a with
    | some xs => some (.v (.sh (.tup xs)))
    | none => none
def bTuple : Blt := bltT "tuple" "tuple" (f1 gTuple) PyProof.Rows.boot_tuple fun {Γ k W sc X n} g => by
  refine CallR.mono call_tuple_of (rdN_one (fun _ _ => f1_one) fun H I T own Hs a c x Q w ra e q => ?_)
  have e1 : gTuple a = some c := e
  unfold gTuple at e1
  split at e1
  · rename_i xs e0
    cases e1
    have ra' := ra
    unfold rTup at e0
    split at e0
    · cases e0
      obtain ⟨p, vs, rfl, p1, p2⟩ := rTup_ok w rfl ra
      exact ⟨p, vs, rfl, .inr ⟨by rw [g.K]; exact p1, give_val w ra'.unsh q⟩⟩
    · cases e0
  · split at e1
    · rename_i xs e0
      cases e1
      obtain ⟨p, vs, rfl, p1, p2⟩ := rLs2_ok w e0 ra
      exact ⟨p, vs, rfl, .inl ⟨by rw [g.K]; exact p1, give_tup w p2 q⟩⟩
    · cases e1
def blsOf : List D → Option (List Bool)
  | [] => some []
  | .bl i :: r => (blsOf r).map fun l => i :: l
  | _ => none
theorem blsOf_ok : ∀ {ds : List D} {ns : List Bool}, blsOf ds = some ns → ds = ns.map D.bl
  | [], ns, h => by cases h; rfl
  | .bl i :: r, ns, h => by
    obtain ⟨l, h1, rfl⟩ := Option.map_eq_some_iff.mp (show (blsOf r).map (fun l => i :: l) = some ns from h)
    rw [blsOf_ok h1]; rfl
  | .non :: _, _, h => by cases h
  | .int _ :: _, _, h => by cases h
  | .str _ :: _, _, h => by cases h
  | .lst _ :: _, _, h => by cases h
  | .fz _ :: _, _, h => by cases h
  | .tup _ :: _, _, h => by cases h
  | .dct _ :: _, _, h => by cases h
  | .obj _ _ :: _, _, h => by cases h
  | .cell _ :: _, _, h => by cases h
theorem Reps.bls {Γ : Gam} {I : Im} : ∀ {ns : List Bool} {vs : List V}, Reps Γ I (ns.map D.bl) vs → vs = ns.map V.bl
  | [], _, h => by simpa [Reps] using h
  | n :: ns, _, h => by
    simp only [List.map_cons, Reps] at h
    obtain ⟨v, r, rfl, h2, h3⟩ := h
    rw [Rep.bl h2, Reps.bls h3, List.map_cons]
def gAll (a : R) : Option R := match rLs2 a with
  | some xs => (blsOf xs).map fun ns => rB (ns.all id)
  | none => none
def bAll : Blt := bltF "all" "all" (f1 gAll) PyProof.Rows.boot_all fun {Γ k W sc X n} g => by
  refine CallR.mono (cr_all g.calm) (rdN_one (fun _ _ => f1_one) fun H I T own Hs a c x Q w ra e q => ?_)
  have e1 : gAll a = some c := e
  unfold gAll at e1
  split at e1
  · rename_i xs e0
    obtain ⟨ns, e2, rfl⟩ := Option.map_eq_some_iff.mp e1
    obtain ⟨p, vs, rfl, p1, p2⟩ := rLs2_ok w e0 ra
    rw [blsOf_ok e2] at p2
    rw [p2.bls] at p1
    exact ⟨p, ns, rfl, by rw [g.K]; exact p1, give_val w .ofBl q⟩
  · cases e1
def gDivmod (a b : R) : Option R := match a, b with
  | .v (.sh (.int i)), .v (.sh (.int j)) => if 0 < j ∧ j < 1073741824 then some (.v (.sh (.tup [.int (i / j), .int (i % j)]))) else none
  | _, _ => none
def bDivmod : Blt := bltF "divmod" "divmod" (f2 gDivmod) PyProof.Rows.boot_divmod fun {Γ k W sc X n} g => by
  refine CallR.mono call_divmod (rdN_two (fun _ _ => f2_two) fun H I T own Hs a b c x y Q w ra rb e q => ?_)
  have e1 : gDivmod a b = some c := e
  unfold gDivmod at e1
  split at e1
  · rename_i i j
    split at e1
    · rename_i hl
      cases e1
      rw [ra.unsh.int, rb.unsh.int]
      exact ⟨i, j, rfl, hl, give_tup w (Reps.cons .ofInt (Reps.cons .ofInt Reps.nil)) q⟩
    · cases e1
  · cases e1

/-! ### in -/
def flatD : D → Bool
  | .non => true
  | .bl _ => true
  | .int _ => true
  | .str _ => true
  | _ => false
def eqFl : D → D → Bool
  | .non, .non => true
  | .bl a, .bl b => a == b
  | .bl a, .int b => (if a then 1 else 0) == b
  | .int a, .bl b => a == (if b then 1 else 0)
  | .int a, .int b => a == b
  | .str a, .str b => a == b
  | _, _ => false
theorem flat_rep {Γ : Gam} {I : Im} {d : D} {v : V} (h : Rep Γ I d v) (f : flatD d = true) : flatV v = true := by
  cases d with
  | non => rw [h.non]; rfl
  | bl b => rw [h.bl]; rfl
  | int b => rw [h.int]; rfl
  | str b => rw [h.str]; rfl
  | _ => cases f
theorem eqFl_rep {Γ : Gam} {I : Im} {d e : D} {v u : V} (h : Rep Γ I d v) (q : Rep Γ I e u) (f : flatD d = true) (f' : flatD e = true) : eqV v u = eqFl d e := by
  cases d with
  | non => rw [h.non]; cases e with
    | non => rw [q.non]; rfl
    | bl b => rw [q.bl]; rfl
    | int b => rw [q.int]; rfl
    | str b => rw [q.str]; rfl
    | _ => cases f'
  | bl b => rw [h.bl]; cases e with
    | non => rw [q.non]; rfl
    | bl b => rw [q.bl]; rfl
    | int b => rw [q.int]; rfl
    | str b => rw [q.str]; rfl
    | _ => cases f'
  | int b => rw [h.int]; cases e with
    | non => rw [q.non]; rfl
    | bl b => rw [q.bl]; rfl
    | int b => rw [q.int]; rfl
    | str b => rw [q.str]; rfl
    | _ => cases f'
  | str b => rw [h.str]; cases e with
    | non => rw [q.non]; rfl
    | bl b => rw [q.bl]; rfl
    | int b => rw [q.int]; rfl
    | str b => rw [q.str]; rfl
    | _ => cases f'
  | _ => cases f
theorem flats_rep {Γ : Gam} {I : Im} : ∀ {ds : List D} {vs : List V}, Reps Γ I ds vs → ds.all flatD = true → vs.all flatV = true
  | [], _, h, _ => by simp only [Reps] at h; subst h; rfl
  | d :: ds, _, h, f => by
    simp only [Reps] at h
    obtain ⟨v, r, rfl, h2, h3⟩ := h
    rw [List.all_cons] at f ⊢
    obtain ⟨f1, f2⟩ := b2 f
    rw [flat_rep h2 f1, flats_rep h3 f2]; rfl
theorem inV_rep {Γ : Gam} {I : Im} {x : D} {u : V} (hx : Rep Γ I x u) (fx : flatD x = true) : ∀ {ds : List D} {vs : List V}, Reps Γ I ds vs → ds.all flatD = true → inV u vs = ds.any fun y => eqFl y x
  | [], _, h, _ => by simp only [Reps] at h; subst h; rfl
  | d :: ds, _, h, f => by
    simp only [Reps] at h
    obtain ⟨v, r, rfl, h2, h3⟩ := h
    rw [List.all_cons] at f
    obtain ⟨f1, f2⟩ := b2 f
    have ih := inV_rep hx fx h3 f2
    unfold inV at ih ⊢
    rw [List.any_cons, List.any_cons, ih, eqFl_rep h2 hx f1 fx]
def seqOf (a : R) : Option (List D) := match rTup a with
  | some xs => some xs
  | none => rLs2 a
def inR (a b : R) : Option Bool := match a with
  | .v (.sh d) => (match seqOf b with
    | some xs => if flatD d && xs.all flatD then some (xs.any fun y => eqFl y d) else none
    | none => none)
  | _ => none
theorem inR_ok {Γ : Gam} {n : Nat} {own : Nat → List Addr} {Hs H : Hp} {I : Im} {T : Cs} (w : Wf Γ H I T) {a b : R} {k : Bool} {x y : V} (h : inR a b = some k) (ra : RepR Γ n own Hs H I a x) (rb : RepR Γ n own Hs H I b y) :
    ∃ p xs, y = .ref p ∧ (SqL Γ.K H p xs ∨ SqT Γ.K H p xs) ∧ flatV x = true ∧ xs.all flatV = true ∧ k = inV x xs := by
  unfold inR at h
  split at h
  · rename_i d
    split at h
    · rename_i xs e0
      split at h
      · rename_i hf
        cases h
        obtain ⟨f1, f2⟩ := b2 hf
        unfold seqOf at e0
        split at e0
        · rename_i ys e2
          cases e0
          obtain ⟨p, vs, rfl, p1, p2⟩ := rTup_ok w e2 rb
          exact ⟨p, vs, rfl, .inr p1, flat_rep ra.unsh f1, flats_rep p2 f2, (inV_rep ra.unsh f1 p2 f2).symm⟩
        · obtain ⟨p, vs, rfl, p1, p2⟩ := rLs2_ok w e0 rb
          exact ⟨p, vs, rfl, .inl p1, flat_rep ra.unsh f1, flats_rep p2 f2, (inV_rep ra.unsh f1 p2 f2).symm⟩
      · cases h
    · cases h
  · cases h
def oNotIn : Cp2 where
  op := .NotIn
  f := f2 fun a b => (inR a b).map fun k => rB (!k)
  snd := fun {Γ k W sc X n} g => by
    refine OpR.mono op_notIn_seq (rd2_mk fun H I T own Hs a b c x y Q w ra rb e q => ?_)
    obtain ⟨z, e1, rfl⟩ := Option.map_eq_some_iff.mp (show (inR a b).map (fun k => rB (!k)) = some c from e)
    obtain ⟨p, xs, h1, h2, h3, h4, rfl⟩ := inR_ok w e1 ra rb
    exact ⟨p, xs, h1, by rw [g.K]; exact h2, h3, h4, by rw [if_pos rfl]; exact give_val w .ofBl q⟩
end Tp
end
section
set_option Elab.async false
set_option linter.all false
set_option maxRecDepth 100000
set_option maxHeartbeats 2000000
/-! TpH: statements. -/
namespace Tp
open PySem PySem.Spec PyProof.Rows L2

section
variable {Γ : Gam} {n : Nat} {W : WX}
/-- what is wanted of statements that began at H, I, owning O -/
def PostS (Γ : Gam) (n : Nat) (W : WX) (D' : Ends) (O : Addr → Prop) (H : Hp) (I : Im) (res : Ev Fl) : Prop := match res with
  | .no => False
  | .ok f T' => FlP Γ n D' O H I T' f
  | .ex e T' => XS Γ W O H I e T'
variable {O O1 : Addr → Prop} {H H1 H2 : Hp} {I I1 I2 : Im} {T T1 : Cs}
theorem Aft.trans {ρ1 ρ2 : Env} {σ1 σ2 : L2.St} {own1 own2 : Nat → List Addr} (a : Aft Γ n O H I T1 ρ1 σ1 H1 I1 own1) (b : Aft Γ n (Ow own1) H1 I1 T ρ2 σ2 H2 I2 own2) : Aft Γ n O H I T ρ2 σ2 H2 I2 own2 :=
  ⟨a.ext.trans b.ext (fun _ h => h) a.ow, b.wf, b.er, fun x h => by
    rcases b.ow x h with q | q
    · exact a.ow x q
    · refine .inr ?_
      cases e : H x with
      | none => rfl
      | some o => exact absurd q (a.ext.th x (by rw [e]; simp))⟩
/-- seen from further ahead; the slots that own may be fewer -/
theorem FlP.from {D' : Ends} {own1 : Nat → List Addr} (x : Ext O H I H1 I1) (hO : ∀ a, Ow own1 a → O a ∨ H a = none) : ∀ {f : Fl}, FlP Γ n D' O H I T f → FlP Γ n D' (Ow own1) H1 I1 T f
  | .nx ρ, h => fun σ' H' I' own' a => h σ' H' I' own' ⟨x.trans a.ext (fun _ h => h) hO, a.wf, a.er, fun y q => by
    rcases a.ow y q with z | z
    · exact hO y z
    · refine .inr ?_
      cases e : H y with
      | none => rfl
      | some o => exact absurd z (x.th y (by rw [e]; simp))⟩
  | .bk ρ, h => fun σ' H' I' own' a => h σ' H' I' own' ⟨x.trans a.ext (fun _ h => h) hO, a.wf, a.er, fun y q => by
    rcases a.ow y q with z | z
    · exact hO y z
    · refine .inr ?_
      cases e : H y with
      | none => rfl
      | some o => exact absurd z (x.th y (by rw [e]; simp))⟩
  | .ct ρ, h => fun σ' H' I' own' a => h σ' H' I' own' ⟨x.trans a.ext (fun _ h => h) hO, a.wf, a.er, fun y q => by
    rcases a.ow y q with z | z
    · exact hO y z
    · refine .inr ?_
      cases e : H y with
      | none => rfl
      | some o => exact absurd z (x.th y (by rw [e]; simp))⟩
  | .rt lv, h => fun v H' I' as a w r q => h v H' I' as (x.trans a (fun _ h => h) hO) w r fun y hy => by
    obtain ⟨q1, q2, q3, q4⟩ := q y hy
    refine ⟨q1, q2, q3, ?_⟩
    rcases q4 with z | z
    · exact hO y z
    · refine .inr ?_
      cases e : H y with
      | none => rfl
      | some o => exact absurd z (x.th y (by rw [e]; simp))
theorem XS.from {own1 : Nat → List Addr} {e : ExD} (x : Ext O H I H1 I1) (hO : ∀ a, Ow own1 a → O a ∨ H a = none) (h : XS Γ W O H I e T) : XS Γ W (Ow own1) H1 I1 e T :=
  fun cls d σ' H' I' a b c => h cls d σ' H' I' (x.trans a (fun _ h => h) hO) b c
theorem PostS.from {D' : Ends} {own1 : Nat → List Addr} (x : Ext O H I H1 I1) (hO : ∀ a, Ow own1 a → O a ∨ H a = none) {res : Ev Fl} (h : PostS Γ n W D' O H I res) : PostS Γ n W D' (Ow own1) H1 I1 res := by
  cases res with
  | no => exact h
  | ok f T => exact FlP.from x hO h
  | ex e T => exact XS.from x hO h
/-- a piece ahead of what is wanted of a statement -/
theorem PostS.step {α β : Type} {rel : Hp → Hp → Im → α → β → Prop} {x : Ev α} {f : α → Cs → Ev Fl} {D' : Ends} {σ : L2.St} (h : PostS Γ n W D' O H I (x.bind f)) (a : Ext O0 H I H1 I1) :
    Post Γ rel W σ H1 I1 x fun v H2 => ∃ r T2 I2, x = .ok r T2 ∧ Ext O0 H1 I1 H2 I2 ∧ Wf Γ H2 I2 T2 ∧ rel H1 H2 I2 r v ∧ PostS Γ n W D' O H I (f r T2) := by
  cases x with
  | no => exact h
  | ok r T => exact fun v H' I' a b c => ⟨r, T, I', rfl, a, b, c, h⟩
  | ex e T => exact fun cls d H' I' b c z => h cls d σ H' I' ((a.tr0 b).mono fun _ q => q.elim) c z
end
/-- one statement -/
structure C1 where
  ev : Env → Cs → Ev Fl
  chk : Nat → Sc → Stmt → Bool
  need : Gam → Prop
  ok : ∀ {Γ : Gam} {k : Nat} {W : WX} {sc : Sc} {X : Cx} {st : Stmt}, Good Γ k W sc X → need Γ → chk k sc st = true → PS X st (tS Γ X.s_0.heap.objs.size W ev)
/-- a block -/
structure CS where
  ev : Env → Cs → Ev Fl
  chk : Nat → Sc → List Stmt → Bool
  need : Gam → Prop
  ok : ∀ {Γ : Gam} {k : Nat} {W : WX} {sc : Sc} {X : Cx} {st : List Stmt}, Good Γ k W sc X → need Γ → chk k sc st = true → PSs X st (tS Γ X.s_0.heap.objs.size W ev)
theorem aft_refl {Γ : Gam} {n : Nat} {σ : L2.St} {ρ : Env} {H : Hp} {I : Im} {T : Cs} {own : Nat → List Addr} (w : Wf Γ H I T) (er : ER Γ n σ ρ H I own) : Aft Γ n (Ow own) H I T ρ σ H I own := ⟨Ext.refl, w, er, fun _ h => .inl h⟩
def sEnd : CS where
  ev := fun ρ T => .ok (.nx ρ) T
  chk := fun _ _ st => st.isEmpty
  need := fun _ => True
  ok := by
    intro Γ k W sc X st g _ h
    cases st with
    | cons a b => cases h
    | nil => exact PSs.mono pss_nil fun D σ H ⟨I, ρ, T, own, w, er, p⟩ => p σ H I own (aft_refl w er)
/-- what comes behind a statement's end -/
def thenS (f : Fl) (r : Env → Cs → Ev Fl) (T : Cs) : Ev Fl := match f with
  | .nx ρ => r ρ T
  | f => .ok f T
def sSeq (a : C1) (r : CS) : CS where
  ev := fun ρ T => (a.ev ρ T).bind fun f T1 => thenS f r.ev T1
  chk := fun k sc st => match st with
    | s :: st => a.chk k sc s && r.chk k sc st
    | [] => false
  need := fun Γ => a.need Γ ∧ r.need Γ
  ok := by
    intro Γ k W sc X st g nd h
    split at h
    · obtain ⟨h1, h2⟩ := b2 h
      refine PSs.mono (pss_cons (a.ok g nd.1 h1) (r.ok g nd.2 h2)) fun D σ H q => ?_
      obtain ⟨I, ρ, T, own, w, er, p⟩ := q
      have p0 : PostS Γ X.s_0.heap.objs.size W D (Ow own) H I ((a.ev ρ T).bind fun f T1 => thenS f r.ev T1) := p
      refine ⟨I, ρ, T, own, w, er, ?_⟩
      show PostS Γ X.s_0.heap.objs.size W _ (Ow own) H I (a.ev ρ T)
      cases e : a.ev ρ T with
      | no => rw [e] at p0; exact p0
      | ex x T' => rw [e] at p0; exact p0
      | ok f T1 =>
        rw [e] at p0
        have p' : PostS Γ X.s_0.heap.objs.size W D (Ow own) H I (thenS f r.ev T1) := p0
        cases f with
        | nx ρ1 => exact fun σ' H' I' own' af => ⟨I', ρ1, T1, own', af.wf, af.er, PostS.from af.ext af.ow p'⟩
        | rt lv => exact p'
        | bk ρ1 => exact p'
        | ct ρ1 => exact p'
    · cases h
/-- slots forgotten -/
def forget (ρ : Env) : List Nat → Env
  | [] => ρ
  | i :: is => (forget ρ is).set i none
theorem forget_len (ρ : Env) : ∀ is, (forget ρ is).length = ρ.length
  | [] => rfl
  | i :: is => by unfold forget; rw [List.length_set, forget_len ρ is]
theorem forget_some {ρ : Env} {i : Nat} {lv : LV} : ∀ {is : List Nat}, (forget ρ is)[i]? = some (some lv) → ρ[i]? = some (some lv)
  | [], h => h
  | j :: is, h => by
    unfold forget at h
    by_cases e : j = i
    · subst e
      by_cases hl : j < (forget ρ is).length
      · rw [List.getElem?_set_self hl] at h; cases h
      · rw [List.getElem?_eq_none (by simpa using hl)] at h; cases h
    · rw [List.getElem?_set_ne e] at h
      exact forget_some h
open Classical in
theorem ER.less {Γ : Gam} {n : Nat} {σ : L2.St} {ρ ρ' : Env} {H : Hp} {I : Im} {own : Nat → List Addr} (r : ER Γ n σ ρ H I own) (hl : ρ'.length = ρ.length) (h : ∀ (i : Nat) lv, ρ'[i]? = some (some lv) → ρ[i]? = some (some lv)) :
    ∃ own', ER Γ n σ ρ' H I own' ∧ ∀ a, Ow own' a → Ow own a := by
  refine ⟨fun i => if ∃ lv, ρ'[i]? = some (some lv) then own i else [], ⟨r.len.trans hl.symm, fun i lv e => ?_, fun i e => ?_, fun i a ha => ?_, fun i j a h1 h2 => ?_⟩, fun a ⟨i, ha⟩ => ?_⟩
  · obtain ⟨v, h1, h2⟩ := r.at_ i lv (h i lv e)
    refine ⟨v, h1, ?_⟩
    rw [if_pos ⟨lv, e⟩]
    exact h2
  · rw [if_neg]
    intro ⟨lv, q⟩
    exact e lv q
  · split at ha
    · exact r.free i a ha
    · cases ha
  · split at h1
    · split at h2
      · exact r.disj i j a h1 h2
      · cases h2
    · cases h1
  · have ha' : a ∈ (if ∃ lv, ρ'[i]? = some (some lv) then own i else []) := ha
    split at ha'
    · exact ⟨i, ha'⟩
    · cases ha'
def sForget (is : List Nat) (r : CS) : CS where
  ev := fun ρ T => r.ev (forget ρ is) T
  chk := r.chk
  need := r.need
  ok := by
    intro Γ k W sc X st g nd h
    refine PSs.mono (r.ok g nd h) fun D σ H q => ?_
    obtain ⟨I, ρ, T, own, w, er, p⟩ := q
    obtain ⟨own', er', ho⟩ := er.less (forget_len ρ is) fun i lv e => forget_some e
    exact ⟨I, forget ρ is, T, own', w, er', PostS.from Ext.refl (fun a h => .inl (ho a h)) p⟩
/-- a local's own list becomes plain data -/
def frzLV : LV → Option LV
  | .ow xs => some (.sh (.lst xs))
  | .sh d => some (.sh d)
  | _ => none
theorem ER.set {Γ : Gam} {n : Nat} {σ : L2.St} {ρ : Env} {H H' : Hp} {I I' : Im} {own : Nat → List Addr} {i : Nat} {lv : LV} {v : V} {as : List Addr} {O : Addr → Prop} (r : ER Γ n σ ρ H I own) (hi : i < ρ.length) (x : Ext O H I H' I')
    (hO : ∀ (j : Nat) a, j ≠ i → a ∈ own j → ¬ O a) (q : RepL Γ n I' H' lv v as) (hf : ∀ a, a ∈ as → I'.G a = none ∧ a ∉ I'.κ ∧ H' a ≠ none) (hd : ∀ (j : Nat) a, j ≠ i → a ∈ as → a ∉ own j) :
    ER Γ n (σ.set i (some v)) (ρ.set i (some lv)) H' I' (fun j => if j = i then as else own j) := by
  refine ⟨by rw [List.length_set, List.length_set, r.len], fun j lv' e => ?_, fun j e => ?_, fun j a ha => ?_, fun j j' a h1 h2 => ?_⟩
  · by_cases q2 : i = j
    · subst q2
      rw [List.getElem?_set_self hi] at e
      cases e
      exact ⟨v, List.getElem?_set_self (by rw [r.len]; exact hi), by rw [if_pos rfl]; exact q⟩
    · rw [List.getElem?_set_ne q2] at e
      obtain ⟨u, h1, h2⟩ := r.at_ j lv' e
      refine ⟨u, by rw [List.getElem?_set_ne q2]; exact h1, ?_⟩
      rw [if_neg (Ne.symm q2)]
      exact h2.ext x.le fun a o ha ho nt => x.fr a o ho (r.free j a ha).2.1 (hO j a (Ne.symm q2) ha) nt
  · have hj : j ≠ i := by
      rintro rfl
      exact e lv (List.getElem?_set_self hi)
    rw [if_neg hj]
    refine r.dead j fun lv' q2 => e lv' ?_
    rw [List.getElem?_set_ne (Ne.symm hj)]
    exact q2
  · by_cases hj : j = i
    · rw [if_pos hj] at ha
      exact hf a ha
    · rw [if_neg hj] at ha
      obtain ⟨f1, f2, f3⟩ := r.free j a ha
      exact x.apart f1 f2 f3 (hO j a hj ha)
  · by_cases hj : j = i
    · by_cases hj' : j' = i
      · rw [hj, hj']
      · rw [if_pos hj] at h1
        rw [if_neg hj'] at h2
        exact absurd h2 (hd j' a hj' h1)
    · by_cases hj' : j' = i
      · rw [if_neg hj] at h1
        rw [if_pos hj'] at h2
        exact absurd h1 (hd j a hj h2)
      · rw [if_neg hj] at h1
        rw [if_neg hj'] at h2
        exact r.disj j j' a h1 h2
end Tp
end
section
set_option Elab.async false
set_option linter.all false
set_option maxRecDepth 100000
set_option maxHeartbeats 2000000
/-! TpI: statements, one by one. -/
namespace Tp
open PySem PySem.Spec PyProof.Rows L2

def isLoc (nm : List (Str × NameKind)) (x : Str) : Bool := match nm.lookup x with
  | some .local => true
  | some .cell => true
  | _ => false
theorem isLoc_or {nm : List (Str × NameKind)} {x : Str} (h : isLoc nm x = true) : nm.lookup x = some .local ∨ nm.lookup x = some .cell := by
  unfold isLoc at h
  split at h
  · rename_i q; exact .inl q
  · rename_i q; exact .inr q
  · cases h
/-- the name x may be stored; it stands in slot i -/
def okStore (sc : Sc) (i : Nat) (x : Str) : Bool := slotIs sc.N i x && (isLoc sc.nm x && isLoc sc.st x)
theorem okStore_ok {Γ : Gam} {k : Nat} {W : WX} {sc : Sc} {X : Cx} (g : Good Γ k W sc X) {i : Nat} {x : Str} (h : okStore sc i x = true) : X.N[i]? = some x ∧ L2.Loc X.env.scope x ∧ (X.fn x = true ∨ X.env.scope.names.lookup x = some .local) := by
  obtain ⟨h1, h⟩ := b2 h
  obtain ⟨h2, h3⟩ := b2 h
  refine ⟨by rw [g.N]; exact slotIs_ok h1, ?_, g.st x (isLoc_or h3)⟩
  unfold L2.Loc
  rw [g.nm]
  exact isLoc_or h2
/-- the value is not stored from within a comprehension -/
def noSwap (nm : List (Str × NameKind)) (x : Str) (px : Pos) (e : Expr) : Bool := match e with
  | .ListComp _ _ s p => !((nm.lookup x == some .local && px.line == p.line) && !(s.names.any fun (n, k) => n == x && (k == .local || k == .cell)))
  | .SetComp .. => false
  | .DictComp .. => false
  | _ => true
theorem noSwap_ok {x : Str} {px : Pos} {e : Expr} {env : PySem.Env} (hb : env.scope.kind = .function) (h : noSwap env.scope.names x px e = true) (l : Nat) : swapsWith e (some (.Name x px)) l env = pure false := by
  have hb' : env.blockKind = .function := by unfold PySem.Env.blockKind; rw [hb]; rfl
  unfold noSwap at h
  split at h
  · rename_i s p
    have h2 : ((env.scope.names.lookup x == some .local && px.line == p.line) && !(s.names.any fun (n, k) => n == x && (k == .local || k == .cell))) = false := by
      revert h
      cases ((env.scope.names.lookup x == some .local && px.line == p.line) && !(s.names.any fun (n, k) => n == x && (k == .local || k == .cell))) <;> simp
    unfold swapsWith
    simp only [hb', Expr.pos, PySem.Env.kindOf, beq_self_eq_true, Bool.true_and]
    rw [h2]
  · cases h
  · cases h
  · rename_i q1 q2 q3
    cases e <;> first | rfl | exact (q1 _ _ _ _ rfl).elim | exact (q2 _ _ _ _ rfl).elim | exact (q3 _ _ _ _ _ rfl).elim
def notComp : Expr → Bool
  | .ListComp .. => false
  | .SetComp .. => false
  | .DictComp .. => false
  | _ => true
theorem notComp_ok {e : Expr} (h : notComp e = true) (t : Option Expr) (l : Nat) (env : PySem.Env) : swapsWith e t l env = pure false := by
  cases e <;> first | rfl | cases h
/-- what an answer becomes in a local: kept as it is, or plain data -/
def asLV (keep : Bool) (r : R) : Option LV := if keep then (match r with
  | .v lv => some lv
  | _ => none) else (rD r).map .sh
section
variable {Γ : Gam} {n : Nat} {W : WX}
theorem asLV_ok {own : Nat → List Addr} {H H1 : Hp} {I I1 : Im} {T : Cs} {keep : Bool} {r : R} {lv : LV} {v : V} (x : Ext O0 H I H1 I1) (w : Wf Γ H1 I1 T) (e : asLV keep r = some lv) (q : RepR Γ n own H H1 I1 r v) :
    ∃ I2 as, Ext O0 H I H1 I2 ∧ Wf Γ H1 I2 T ∧ Im.Le I1 I2 ∧ RepL Γ n I2 H1 lv v as ∧ (∀ a, a ∈ as → I2.G a = none ∧ a ∉ I2.κ ∧ H1 a ≠ none ∧ H a = none) := by
  unfold asLV at e
  cases keep with
  | true =>
    rw [if_pos rfl] at e
    split at e
    · cases e
      obtain ⟨as, h1, h2⟩ := q
      exact ⟨I1, as, x, w, ⟨fun _ _ h => h, fun _ _ h => h, rfl⟩, h1, h2⟩
    · cases e
  | false =>
    rw [if_neg Bool.false_ne_true] at e
    obtain ⟨d, e1, rfl⟩ := Option.map_eq_some_iff.mp e
    obtain ⟨I2, x2, w2, le, r2⟩ := q.toD x w e1
    exact ⟨I2, [], x2, w2, le, ⟨rfl, r2⟩, by simp⟩
/-- a value new since H comes into slot i -/
theorem store_aft {σ : L2.St} {ρ : Env} {own : Nat → List Addr} {H H1 : Hp} {I I1 : Im} {T : Cs} {lv : LV} {v : V} {as : List Addr} {i : Nat} (er : ER Γ n σ ρ H I own) (hi : i < ρ.length) (x : Ext O0 H I H1 I1) (w : Wf Γ H1 I1 T) (q : RepL Γ n I1 H1 lv v as)
    (hf : ∀ a, a ∈ as → I1.G a = none ∧ a ∉ I1.κ ∧ H1 a ≠ none ∧ H a = none) : ∃ own', Aft Γ n (Ow own) H I T (ρ.set i (some lv)) (σ.set i (some v)) H1 I1 own' := by
  refine ⟨_, x.mono fun _ q => q.elim, w, er.set hi x (fun _ _ _ _ q => q.elim) q (fun a ha => ⟨(hf a ha).1, (hf a ha).2.1, (hf a ha).2.2.1⟩) (fun j a _ ha hj => (er.free j a hj).2.2 (hf a ha).2.2.2), fun a ⟨j, ha⟩ => ?_⟩
  have ha' : a ∈ (if j = i then as else own j) := ha
  split at ha'
  · exact .inr (hf a ha').2.2.2
  · exact .inl ⟨j, ha'⟩
end
/-- x = e -/
def sAsg (i : Nat) (keep : Bool) (a : CE) : C1 where
  ev := fun ρ T => (a.ev ρ T).bind fun r T1 => match asLV keep r with
    | some lv => if i < ρ.length then .ok (.nx (ρ.set i (some lv))) T1 else .no
    | none => .no
  chk := fun k sc st => match st with
    | .Assign [.Name x px] e _ => okStore sc i x && (noSwap sc.nm x px e && a.chk k sc e)
    | _ => false
  need := a.need
  ok := by
    intro Γ k W sc X st g nd h
    split at h
    · rename_i x px e pos
      obtain ⟨h1, h⟩ := b2 h
      obtain ⟨h2, h3⟩ := b2 h
      obtain ⟨s1, s2, s3⟩ := okStore_ok g h1
      have hs : swapsWith e (some (.Name x px)) pos.line X.env = pure false := noSwap_ok g.fk (by rw [g.nm]; exact h2) _
      refine PS.mono (ps_set (i := i) g.nd s1 s2 (a.ok g nd h3 fun _ => rfl) hs s3) fun D σ H q => ?_
      obtain ⟨I, ρ, T, own, w, er, p⟩ := q
      refine ⟨I, ρ, T, own, w, er, (PostS.step (rel := RepR Γ X.s_0.heap.objs.size own) (show PostS Γ X.s_0.heap.objs.size W D (Ow own) H I _ from p) Ext.refl).imp fun v H1 q1 => ?_⟩
      obtain ⟨r, T1, I1, _, x1, w1, r1, p1⟩ := q1
      split at p1
      · rename_i lv e1
        split at p1
        · rename_i hi
          obtain ⟨I2, as, x2, w2, _, l2, f2⟩ := asLV_ok x1 w1 e1 r1
          obtain ⟨own', af⟩ := store_aft er hi x2 w2 l2 f2
          exact p1 _ _ _ _ af
        · exact p1.elim
      · exact p1.elim
    · cases h
/-- an expression, its value dropped -/
def sExpr (a : CE) : C1 where
  ev := fun ρ T => (a.ev ρ T).bind fun _ T1 => .ok (.nx ρ) T1
  chk := fun k sc st => match st with
    | .Expr e _ => notComp e && a.chk k sc e
    | _ => false
  need := a.need
  ok := by
    intro Γ k W sc X st g nd h
    split at h
    · obtain ⟨h2, h3⟩ := b2 h
      refine PS.mono (ps_expr (a.ok g nd h3 fun _ => rfl) (notComp_ok h2 _ _ _)) fun D σ H q => ?_
      obtain ⟨I, ρ, T, own, w, er, p⟩ := q
      refine ⟨I, ρ, T, own, w, er, (PostS.step (rel := RepR Γ X.s_0.heap.objs.size own) (show PostS Γ X.s_0.heap.objs.size W D (Ow own) H I _ from p) Ext.refl).imp fun v H1 q1 => ?_⟩
      obtain ⟨r, T1, I1, _, x1, w1, r1, p1⟩ := q1
      exact p1 σ H1 I1 own ⟨x1.mono fun _ q => q.elim, w1, er.ext x1, fun a h => .inl h⟩
    · cases h
/-- what is handed back -/
def retLV : R → Option LV
  | .v (.sh d) => some (.sh d)
  | .v (.ow xs) => some (.ow xs)
  | .v (.od kvs) => some (.od kvs)
  | .bw xs => some (.ow xs)
  | .bd kvs => some (.od kvs)
  | _ => none
theorem retLV_ok {Γ : Gam} {n : Nat} {own : Nat → List Addr} {H H1 : Hp} {I1 : Im} {r : R} {lv : LV} {v : V} (e : retLV r = some lv) (q : RepR Γ n own H H1 I1 r v) :
    ∃ as, RepL Γ n I1 H1 lv v as ∧ ∀ a, a ∈ as → I1.G a = none ∧ a ∉ I1.κ ∧ H1 a ≠ none ∧ (Ow own a ∨ H a = none) := by
  unfold retLV at e
  split at e
  · cases e
    exact ⟨[], ⟨rfl, q.unsh⟩, by simp⟩
  · cases e
    obtain ⟨as, h1, h2⟩ := q
    exact ⟨as, h1, fun a ha => let ⟨p1, p2, p3, p4⟩ := h2 a ha; ⟨p1, p2, p3, .inr p4⟩⟩
  · cases e
    obtain ⟨as, h1, h2⟩ := q
    exact ⟨as, h1, fun a ha => let ⟨p1, p2, p3, p4⟩ := h2 a ha; ⟨p1, p2, p3, .inr p4⟩⟩
  · cases e
    obtain ⟨a, vs, rfl, h2, h3, h4, h5, h6⟩ := q
    refine ⟨[a], ⟨a, vs, rfl, rfl, h2, h6⟩, fun b hb => ?_⟩
    have e : b = a := by simpa using hb
    subst e
    exact ⟨h3, h4, by rw [h2]; simp, .inl h5⟩
  · cases e
    obtain ⟨a, vs, rfl, h2, h3, h4, h5, h6⟩ := q
    refine ⟨[a], ⟨a, vs, rfl, rfl, h2, h6⟩, fun b hb => ?_⟩
    have e : b = a := by simpa using hb
    subst e
    exact ⟨h3, h4, by rw [h2]; simp, .inl h5⟩
  · cases e
def sRet (a : CE) : C1 where
  ev := fun ρ T => (a.ev ρ T).bind fun r T1 => match retLV r with
    | some lv => .ok (.rt lv) T1
    | none => .no
  chk := fun k sc st => match st with
    | .Return (some e) _ => a.chk k sc e
    | _ => false
  need := a.need
  ok := by
    intro Γ k W sc X st g nd h
    split at h
    · refine PS.mono (ps_ret (a.ok g nd h fun _ => rfl)) fun D σ H q => ?_
      obtain ⟨I, ρ, T, own, w, er, p⟩ := q
      refine ⟨I, ρ, T, own, w, er, (PostS.step (rel := RepR Γ X.s_0.heap.objs.size own) (show PostS Γ X.s_0.heap.objs.size W D (Ow own) H I _ from p) Ext.refl).imp fun v H1 q1 => ?_⟩
      obtain ⟨r, T1, I1, _, x1, w1, r1, p1⟩ := q1
      split at p1
      · rename_i lv e1
        obtain ⟨as, l1, f1⟩ := retLV_ok e1 r1
        exact p1 v H1 I1 as (x1.mono fun _ q => q.elim) w1 l1 f1
      · exact p1.elim
    · cases h
def sPass : C1 where
  ev := fun ρ T => .ok (.nx ρ) T
  chk := fun _ _ st => match st with
    | .Pass _ => true
    | _ => false
  need := fun _ => True
  ok := by
    intro Γ k W sc X st g nd h
    split at h
    · exact PS.mono ps_pass fun D σ H ⟨I, ρ, T, own, w, er, p⟩ => p σ H I own (aft_refl w er)
    · cases h
/-- what is never come to here (raise) -/
def sNo : C1 where
  ev := fun _ _ => .no
  chk := fun _ _ _ => true
  need := fun _ => True
  ok := by
    intro Γ k W sc X st g nd h
    exact PS.mono ps_never fun D σ H ⟨I, ρ, T, own, w, er, p⟩ => p
def sIf (c : CT) (a b : CS) : C1 where
  ev := fun ρ T => (c.ev ρ T).bind fun k T1 => if k then a.ev ρ T1 else b.ev ρ T1
  chk := fun k sc st => match st with
    | .If t x y _ => c.chk k sc t && (a.chk k sc x && b.chk k sc y)
    | _ => false
  need := fun Γ => c.need Γ ∧ a.need Γ ∧ b.need Γ
  ok := by
    intro Γ k W sc X st g nd h
    split at h
    · obtain ⟨h1, h⟩ := b2 h
      obtain ⟨h2, h3⟩ := b2 h
      refine PS.mono (ps_if (c.ok g nd.1 h1 fun _ => rfl) (a.ok g nd.2.1 h2) (b.ok g nd.2.2 h3)) fun D σ H q => ?_
      obtain ⟨I, ρ, T, own, w, er, p⟩ := q
      refine ⟨I, ρ, T, own, w, er, (PostS.step (rel := relB) (show PostS Γ X.s_0.heap.objs.size W D (Ow own) H I _ from p) Ext.refl).imp fun v H1 q1 => ?_⟩
      obtain ⟨r1, T1, I1, _, x1, w1, e1, p1⟩ := q1
      have e1' : v = r1 := e1
      subst e1'
      cases v with
      | true => exact ⟨I1, ρ, T1, own, w1, er.ext x1, PostS.from (x1.mono fun _ q => q.elim) (fun a h => .inl h) p1⟩
      | false => exact ⟨I1, ρ, T1, own, w1, er.ext x1, PostS.from (x1.mono fun _ q => q.elim) (fun a h => .inl h) p1⟩
    · cases h
/-- while: m the turns at most -/
def whileEv (c : Env → Cs → Ev Bool) (b : Env → Cs → Ev Fl) : Nat → Env → Cs → Ev Fl
  | 0, _, _ => .no
  | m + 1, ρ, T => (c ρ T).bind fun k T1 => if k then (b ρ T1).bind fun f T2 => (match f with
      | .nx ρ' => whileEv c b m ρ' T2
      | .ct ρ' => whileEv c b m ρ' T2
      | .bk ρ' => .ok (.nx ρ') T2
      | .rt lv => .ok (.rt lv) T2) else .ok (.nx ρ) T1
def sWhile (m : Nat) (c : CT) (b : CS) : C1 where
  ev := whileEv c.ev b.ev m
  chk := fun k sc st => match st with
    | .While t x [] _ => c.chk k sc t && b.chk k sc x
    | _ => false
  need := fun Γ => c.need Γ ∧ b.need Γ
  ok := by
    intro Γ k W sc X st g nd h
    split at h
    · obtain ⟨h1, h2⟩ := b2 h
      refine PS.mono (ps_while g.po (c.ok g nd.1 h1 fun _ => rfl) (b.ok g nd.2 h2)) fun D σ H q => ?_
      refine ⟨fun m' σ H => ∃ I ρ T own, Wf Γ H I T ∧ ER Γ X.s_0.heap.objs.size σ ρ H I own ∧ PostS Γ X.s_0.heap.objs.size W D (Ow own) H I (whileEv c.ev b.ev m' ρ T), ⟨m, q⟩, ?_⟩
      rintro m' σ H ⟨I, ρ, T, own, w, er, p⟩
      cases m' with
      | zero => exact p.elim
      | succ m' =>
        refine ⟨I, ρ, T, own, w, er, (PostS.step (rel := relB) p Ext.refl).imp fun v H1 q1 => ?_⟩
        obtain ⟨r1, T1, I1, _, x1, w1, e1, p1⟩ := q1
        have e1' : v = r1 := e1
        subst e1'
        have p1' : PostS Γ X.s_0.heap.objs.size W D (Ow own) H1 I1 _ := PostS.from (x1.mono fun _ q => q.elim) (fun a h => .inl h) p1
        cases v with
        | false => exact p1' σ H1 I1 own (aft_refl w1 (er.ext x1))
        | true =>
          refine ⟨fun σ H => ∃ I ρ T own, Wf Γ H I T ∧ ER Γ X.s_0.heap.objs.size σ ρ H I own ∧ PostS Γ X.s_0.heap.objs.size W D (Ow own) H I (whileEv c.ev b.ev m' ρ T), fun σ' H' z => ⟨m', Nat.lt_succ_self _, z⟩, ?_⟩
          refine ⟨I1, ρ, T1, own, w1, er.ext x1, ?_⟩
          have p2 : PostS Γ X.s_0.heap.objs.size W D (Ow own) H1 I1 ((b.ev ρ T1).bind _) := p1'
          show PostS Γ X.s_0.heap.objs.size W _ (Ow own) H1 I1 (b.ev ρ T1)
          cases e2 : b.ev ρ T1 with
          | no => rw [e2] at p2; exact p2
          | ex x T' => rw [e2] at p2; exact p2
          | ok f T2 =>
            rw [e2] at p2
            cases f with
            | nx ρ' => exact fun σ' H' I' own' af => ⟨I', ρ', T2, own', af.wf, af.er, PostS.from af.ext af.ow p2⟩
            | ct ρ' => exact fun σ' H' I' own' af => ⟨I', ρ', T2, own', af.wf, af.er, PostS.from af.ext af.ow p2⟩
            | bk ρ' => exact p2
            | rt lv => exact p2
    · cases h
end Tp
end
section
set_option Elab.async false
set_option linter.all false
set_option maxRecDepth 100000
set_option maxHeartbeats 2000000
/-! TpJ: lists of one's own, changed. -/
namespace Tp
open PySem PySem.Spec PyProof.Rows L2

section
variable {Γ : Gam} {n : Nat} {W : WX}
theorem Ext.write {O : Addr → Prop} {H : Hp} {I : Im} {a : Addr} {o' : HO} (h : O a) : Ext O H I (upd H a o') I :=
  ⟨fun _ _ h => h, fun _ _ h => h, fun b u q _ no _ => by
    rw [upd_ne (fun e => no (by rw [e]; exact h))]; exact q, fun b q => by
    by_cases e : b = a
    · subst e; rw [upd_same]; simp
    · rw [upd_ne e]; exact q, fun _ h => .inl h, fun _ h => .inl h, rfl⟩
theorem Wf.write {H : Hp} {I : Im} {T : Cs} {a : Addr} {o' : HO} (w : Wf Γ H I T) (hg : I.G a = none) (hk : a ∉ I.κ) (hw : Wr (H a)) : Wf Γ (upd H a o') I T :=
  ⟨fun b u q => by
    rw [upd_ne (ne_of_none q hg)]; exact w.gh b u q, w.nd, w.kg, w.len, fun m b ds e1 e2 => by
    obtain ⟨vs, h1, h2⟩ := w.cells m b ds e1 e2
    refine ⟨vs, ?_, h2⟩
    rw [upd_ne (fun e => hk (by rw [← e]; exact List.mem_of_getElem? e1))]
    exact h1, w.ug, fun p hp => (w.tb p hp).keep hw.keep, w.lc.keep hw.keep (fun _ _ h => h), w.tg⟩
theorem RepL.wr {I : Im} {H : Hp} {a : Addr} : ∀ {lv : LV} {v : V}, RepL Γ n I H lv v [a] → Wr (H a)
  | .sh _, _, h => by cases h.1
  | .ow _, _, h => by
    obtain ⟨b, vs, e, _, h2, _⟩ := h
    cases e; rw [h2]; trivial
  | .od _, _, h => by
    obtain ⟨b, vs, e, _, h2, _⟩ := h
    cases e; rw [h2]; trivial
  | .oo _ _, _, h => by
    obtain ⟨b, dx, vs, e, _, _, h2, _⟩ := h
    cases e; rw [h2]; trivial
  | .lm _, _, h => by cases h.1
  | .lms _, _, h => by
    obtain ⟨b, us, e, _, h2, _⟩ := h
    cases e; rw [h2]; trivial
  | .zp _ _, _, h => by
    obtain ⟨z, ti, to, i1, i2, la, lb, vs, us, e, _⟩ := h
    cases e
theorem ER.wr1 {σ : L2.St} {ρ : Env} {own : Nat → List Addr} {H : Hp} {I : Im} {lv : LV} {a : Addr} {i : Nat} (er : ER Γ n σ ρ H I own) (hi : ρ[i]? = some (some lv)) (ho : own i = [a]) : Wr (H a) := by
  obtain ⟨v, _, h⟩ := er.at_ i lv hi
  rw [ho] at h
  exact h.wr
/-- the i-th local's own thing at a is written -/
theorem write_aft {σ : L2.St} {ρ : Env} {own : Nat → List Addr} {H H1 : Hp} {I I1 : Im} {T : Cs} {lv lv' : LV} {a : Addr} {o' : HO} {i : Nat} (er : ER Γ n σ ρ H I own) (x : Ext O0 H I H1 I1) (w : Wf Γ H1 I1 T)
    (hi : ρ[i]? = some (some lv)) (ho : own i = [a]) (hs : σ[i]? = some (some (.ref a))) (q : RepL Γ n I1 (upd H1 a o') lv' (.ref a) [a]) : Aft Γ n (Ow own) H I T (ρ.set i (some lv')) σ (upd H1 a o') I1 own := by
  have er1 := er.ext x
  have ha : a ∈ own i := by rw [ho]; simp
  obtain ⟨f1, f2, f3⟩ := er1.free i a ha
  have hil : i < ρ.length := (List.getElem?_eq_some_iff.mp hi).1
  refine ⟨x.trans (O := Ow own) (O1 := O0) (Ext.write (O := Ow own) ⟨i, ha⟩) (fun _ z => z.elim) (fun _ z => .inl z), w.write f1 f2 (er1.wr1 hi ho), ⟨by rw [List.length_set]; exact er1.len, fun j lv2 e => ?_, fun j e => ?_, fun j b hb => ?_, er1.disj⟩, fun _ z => .inl z⟩
  · by_cases hj : i = j
    · subst hj
      rw [List.getElem?_set_self hil] at e
      cases e
      exact ⟨_, hs, by rw [ho]; exact q⟩
    · rw [List.getElem?_set_ne hj] at e
      obtain ⟨v, h1, h2⟩ := er1.at_ j lv2 e
      refine ⟨v, h1, h2.ext ⟨fun _ _ h => h, fun _ _ h => h, rfl⟩ fun b u hb q2 _ => ?_⟩
      rw [upd_ne]
      · exact q2
      · rintro rfl
        exact hj (er1.disj i j b ha hb)
  · have hj : i ≠ j := by
      rintro rfl
      exact e lv' (List.getElem?_set_self hil)
    refine er1.dead j fun lv2 q2 => e lv2 ?_
    rw [List.getElem?_set_ne hj]
    exact q2
  · obtain ⟨g1, g2, g3⟩ := er1.free j b hb
    refine ⟨g1, g2, ?_⟩
    by_cases e : b = a
    · subst e; rw [upd_same]; simp
    · rw [upd_ne e]; exact g3
/-- the i-th local's own list -/
theorem own_list {σ : L2.St} {ρ : Env} {own : Nat → List Addr} {H : Hp} {I : Im} {i : Nat} {xs : List D} (er : ER Γ n σ ρ H I own) (hi : ρ[i]? = some (some (.ow xs))) : ∃ a vs, own i = [a] ∧ σ[i]? = some (some (.ref a)) ∧ H a = some (.lst vs) ∧ Reps Γ I xs vs := by
  obtain ⟨v, h1, a, vs, h2, rfl, h3, h4⟩ := er.at_ i _ hi
  exact ⟨a, vs, h2, h1, h3, h4⟩
end
/-- the name in slot i -/
def isVar (sc : Sc) (i : Nat) (x : Str) : Bool := okName x && (slotIs sc.N i x && isVis sc.nm x)
theorem isVar_ok {Γ : Gam} {k : Nat} {W : WX} {sc : Sc} {X : Cx} (g : Good Γ k W sc X) {i : Nat} {x : Str} {pos : Pos} (h : isVar sc i x = true) : PE X (.Name x pos) (tVar i) := by
  obtain ⟨h1, h⟩ := b2 h
  obtain ⟨h2, h3⟩ := b2 h
  obtain ⟨d1, d2, _⟩ := okName_d h1
  exact pe_var (by rw [g.N]; exact slotIs_ok h2) (isVis_ok g.nm h3) d1 d2
/-- x.append(e) -/
def sAppend (i : Nat) (a : CE) : C1 where
  ev := fun ρ T => match ρ[i]? with
    | some (some (.ow xs)) => (evD a.ev ρ T).bind fun d T1 => if xs.length < lim then .ok (.nx (ρ.set i (some (.ow (xs ++ [d]))))) T1 else .no
    | _ => .no
  chk := fun k sc st => match st with
    | .Expr (.Call (.Attribute (.Name x _) m ap) [e] [] cp) _ => decide (m = ("append" : Str)) && ((ap.endLine == cp.line) && (isVar sc i x && (notStar e && a.chk k sc e)))
    | _ => false
  need := a.need
  ok := by
    intro Γ k W sc X st g nd h
    split at h
    · obtain ⟨h1, h⟩ := b2 h
      obtain ⟨hl, h⟩ := b2 h
      obtain ⟨h2, h⟩ := b2 h
      obtain ⟨h3, h4⟩ := b2 h
      have hm := of_decide_eq_true h1
      subst hm
      refine PS.mono (ps_expr (pe_bm PySem.F.plainAttrs_list PySem.F.slot_list_append PySem.F.type_list_append mt_append (isVar_ok g h2) (pa_cons (a.ok (n := X.s_0.heap.objs.size) g nd h4 fun _ => rfl) pa_nil (star_cons h3)) (by rfl) (by rw [star_cons h3]; rfl) hl (star_cons h3) rfl) rfl) fun D σ H q => ?_
      obtain ⟨I, ρ, T, own, w, er, p⟩ := q
      have p' : PostS Γ X.s_0.heap.objs.size W D (Ow own) H I (match ρ[i]? with
        | some (some (.ow xs)) => (evD a.ev ρ T).bind fun d T1 => if xs.length < lim then .ok (.nx (ρ.set i (some (.ow (xs ++ [d]))))) T1 else .no
        | _ => .no) := p
      split at p'
      · rename_i xs e1
        obtain ⟨b, vs, o1, o2, o3, o4⟩ := own_list er e1
        refine ⟨_, o2, .inl ⟨rfl, _, SqL.of o3⟩, ?_⟩
        refine ⟨I, ρ, T, own, w, er, Post.toD ((PostS.step (rel := relD Γ) p' Ext.refl).imp fun v H1 q1 => ?_)⟩
        obtain ⟨d, T1, I1, _, x1, w1, r1, p1⟩ := q1
        split at p1
        · rename_i hl
          obtain ⟨f1, f2, f3⟩ := er.free i b (by rw [o1]; simp)
          have o3' : H1 b = some (.lst vs) := x1.fr _ _ o3 f2 (fun z => z) trivial
          have o4' := o4.mono x1.le
          refine ⟨b, vs, v, rfl, rfl, o3', by rw [o4.length]; exact Nat.lt_of_lt_of_le hl lim_le, ?_⟩
          exact p1 σ _ I1 own (write_aft er x1 w1 e1 o1 o2 ⟨b, _, rfl, rfl, upd_same, o4'.append (Reps.cons r1 Reps.nil)⟩)
        · exact p1.elim
      · exact p'.elim
    · cases h
end Tp
end
section
set_option Elab.async false
set_option linter.all false
set_option maxRecDepth 100000
set_option maxHeartbeats 2000000
/-! TpK: targets, stores into lists, several names at once. -/
namespace Tp
open PySem PySem.Spec PyProof.Rows L2

/-! ### a local's own thing becomes plain data -/
section
variable {Γ : Gam} {n : Nat} {W : WX}
theorem RepL.frz {σ : L2.St} {ρ : Env} {own : Nat → List Addr} {H : Hp} {I : Im} {T : Cs} {i : Nat} {lv lv' : LV} (w : Wf Γ H I T) (er : ER Γ n σ ρ H I own) (hi : ρ[i]? = some (some lv)) (e : frzLV lv = some lv') :
    ∃ I' own', Aft Γ n (Ow own) H I T (ρ.set i (some lv')) σ H I' own' := by
  have hil : i < ρ.length := (List.getElem?_eq_some_iff.mp hi).1
  obtain ⟨v, e1, e2⟩ := er.at_ i _ hi
  have key : ∀ (a : Addr) (o : HO) (d : D), own i = [a] → H a = some o → v = .ref a → Rep Γ ⟨upd I.G a o, I.κ, I.me⟩ d (.ref a) → ∃ I' own', Aft Γ n (Ow own) H I T (ρ.set i (some (.sh d))) σ H I' own' := by
    intro a o d ho hH ev rd
    subst ev
    have ha : a ∈ own i := by rw [ho]; simp
    obtain ⟨f1, f2, f3⟩ := er.free i a ha
    have x : Ext (Ow own) H I H ⟨upd I.G a o, I.κ, I.me⟩ := Ext.freeze f1 ⟨i, ha⟩
    have hs : σ.set i (some (.ref a)) = σ := by
      have h1 := List.getElem?_eq_some_iff.mp e1
      obtain ⟨h2, h3⟩ := h1
      rw [← h3]
      exact List.set_getElem_self h2
    refine ⟨_, fun j => if j = i then [] else own j, x, w.freeze hH f1 f2 ((er.wr1 hi ho).nx hH), ?_, fun b ⟨j, hb⟩ => ?_⟩
    · refine ⟨by rw [List.length_set]; exact er.len, fun j lv2 q => ?_, fun j q => ?_, fun j b hb => ?_, fun j j' b h1 h2 => ?_⟩
      · by_cases hj : i = j
        · subst hj
          rw [List.getElem?_set_self hil] at q
          cases q
          exact ⟨_, e1, by rw [if_pos rfl]; exact ⟨rfl, rd⟩⟩
        · rw [List.getElem?_set_ne hj] at q
          obtain ⟨u, h1, h2⟩ := er.at_ j lv2 q
          refine ⟨u, h1, ?_⟩
          rw [if_neg (Ne.symm hj)]
          exact h2.ext x.le fun b o _ q _ => q
      · by_cases hj : j = i
        · rw [if_pos hj]
        · rw [if_neg hj]
          refine er.dead j fun lv2 q2 => q lv2 ?_
          rw [List.getElem?_set_ne (Ne.symm hj)]
          exact q2
      · by_cases hj : j = i
        · rw [if_pos hj] at hb; cases hb
        · rw [if_neg hj] at hb
          obtain ⟨g1, g2, g3⟩ := er.free j b hb
          refine ⟨?_, g2, g3⟩
          show upd I.G a o b = none
          rw [upd_ne (fun q => hj (by rw [q] at hb; exact er.disj j i a hb ha))]
          exact g1
      · by_cases hj : j = i
        · rw [if_pos hj] at h1; cases h1
        · by_cases hj' : j' = i
          · rw [if_pos hj'] at h2; cases h2
          · rw [if_neg hj] at h1
            rw [if_neg hj'] at h2
            exact er.disj j j' b h1 h2
    · have hb' : b ∈ (if j = i then [] else own j) := hb
      split at hb'
      · cases hb'
      · exact .inl ⟨j, hb'⟩
  unfold frzLV at e
  split at e
  · cases e
    obtain ⟨a, vs, h1, rfl, h2, h3⟩ := e2
    have le : Im.Le I ⟨upd I.G a (.lst vs), I.κ, I.me⟩ := Im.Le.frz (er.free i a (by rw [h1]; simp)).1
    exact key a _ _ h1 h2 rfl (.ofLst (show upd I.G a (.lst vs) a = _ from upd_same) (h3.mono le))
  · rename_i d0
    cases e
    refine ⟨I, own, Ext.refl, w, ?_, fun b h => .inl h⟩
    have hs : ρ.set i (some (.sh d0)) = ρ := by
      obtain ⟨h2, h3⟩ := List.getElem?_eq_some_iff.mp hi
      rw [← h3]
      exact List.set_getElem_self h2
    rw [hs]
    exact er
  · cases e
end
/-- the i-th local as it may be looked at by everybody from now on -/
def sFrz (i : Nat) (r : CS) : CS where
  ev := fun ρ T => match ρ[i]? with
    | some (some lv) => (match frzLV lv with
      | some lv' => r.ev (ρ.set i (some lv')) T
      | none => .no)
    | _ => .no
  chk := r.chk
  need := r.need
  ok := by
    intro Γ k W sc X st g nd h
    refine PSs.mono (r.ok g nd h) fun D σ H q => ?_
    obtain ⟨I, ρ, T, own, w, er, p⟩ := q
    have p' : PostS Γ X.s_0.heap.objs.size W D (Ow own) H I (match ρ[i]? with
        | some (some lv) => (match frzLV lv with
          | some lv' => r.ev (ρ.set i (some lv')) T
          | none => .no)
        | _ => .no) := p
    split at p'
    · rename_i lv e1
      split at p'
      · rename_i lv' e2
        obtain ⟨I', own', af⟩ := RepL.frz w er e1 e2
        exact ⟨I', _, T, own', af.wf, af.er, PostS.from af.ext af.ow p'⟩
      · exact p'.elim
    · exact p'.elim

/-! ### targets -/
/-- only the slots sl are stored -/
structure Chg (sl : List Nat) (σ σ' : L2.St) : Prop where
  len : σ'.length = σ.length
  at_ : ∀ j, j ∉ sl → σ'[j]? = σ[j]?
theorem Chg.refl {sl : List Nat} {σ : L2.St} : Chg sl σ σ := ⟨rfl, fun _ _ => rfl⟩
theorem Chg.one {i : Nat} {σ : L2.St} {x : Option V} : Chg [i] σ (σ.set i x) := ⟨List.length_set, fun j h => List.getElem?_set_ne fun e => h (by simp [e])⟩
theorem Chg.trans {s1 s2 : List Nat} {a b c : L2.St} (h : Chg s1 a b) (q : Chg s2 b c) : Chg (s1 ++ s2) a c :=
  ⟨q.len.trans h.len, fun j hj => (q.at_ j fun z => hj (by simp [z])).trans (h.at_ j fun z => hj (by simp [z]))⟩
def PostG (Γ : Gam) (n : Nat) (W : WX) (O : Addr → Prop) (sl : List Nat) (pu : Bool) (σ : L2.St) (H : Hp) (I : Im) (res : Ev Env) (Q : L2.St → Hp → Prop) : Prop := match res with
  | .no => False
  | .ok ρ' T' => ∀ σ' H' I' own', Aft Γ n O H I T' ρ' σ' H' I' own' → Chg sl σ σ' → (pu = true → Ext O0 H I H' I') → Q σ' H'
  | .ex e T' => XS Γ W O H I e T'
theorem PostG.step {Γ : Gam} {n : Nat} {W : WX} {O : Addr → Prop} {H H1 : Hp} {I I1 : Im} {α β : Type} {rel : Hp → Hp → Im → α → β → Prop} {x : Ev α} {f : α → Cs → Ev Env} {sl : List Nat} {pu : Bool} {σ : L2.St} {Q : L2.St → Hp → Prop} (h : PostG Γ n W O sl pu σ H I (x.bind f) Q) (a : Ext O0 H I H1 I1) :
    Post Γ rel W σ H1 I1 x fun v H2 => ∃ r T2 I2, x = .ok r T2 ∧ Ext O0 H1 I1 H2 I2 ∧ Wf Γ H2 I2 T2 ∧ rel H1 H2 I2 r v ∧ PostG Γ n W O sl pu σ H I (f r T2) Q := by
  cases x with
  | no => exact h
  | ok r T => exact fun v H' I' a b c => ⟨r, T, I', rfl, a, b, c, h⟩
  | ex e T => exact fun cls d H' I' b c z => h cls d σ H' I' ((a.tr0 b).mono fun _ q => q.elim) c z
theorem PostG.from {Γ : Gam} {n : Nat} {W : WX} {O : Addr → Prop} {H H1 : Hp} {I I1 : Im} {own1 : Nat → List Addr} (x : Ext O H I H1 I1) (hO : ∀ a, Ow own1 a → O a ∨ H a = none) {s1 s2 : List Nat} {u1 u2 : Bool} {σ σ1 : L2.St} {res : Ev Env} {Q : L2.St → Hp → Prop} (c : Chg s1 σ σ1) (xo : u1 = true → Ext O0 H I H1 I1) (h : PostG Γ n W O (s1 ++ s2) (u1 && u2) σ H I res Q) : PostG Γ n W (Ow own1) s2 u2 σ1 H1 I1 res Q := by
  cases res with
  | no => exact h
  | ok ρ T => exact fun σ' H' I' own' a c2 xo2 => h σ' H' I' own' ⟨x.trans a.ext (fun _ h => h) hO, a.wf, a.er, fun y q => by
    rcases a.ow y q with z | z
    · exact hO y z
    · refine .inr ?_
      cases e : H y with
      | none => rfl
      | some o => exact absurd z (x.th y (by rw [e]; simp))⟩ (c.trans c2) fun z => (xo (b2 z).1).tr0 (xo2 (b2 z).2)
  | ex e T => exact XS.from x hO h
/-- a target that takes plain data -/
structure CG where
  ev : D → Env → Cs → Ev Env
  sl : List Nat
  pure : Bool
  hp : pure = true → ∀ d ρ T ρ1 T1, ev d ρ T = .ok ρ1 T1 → ρ1.length = ρ.length ∧ ∀ j, j ∉ sl → ρ1[j]? = ρ[j]?
  chk : Nat → Sc → Expr → Bool
  need : Gam → Prop
  z : Bool
  ok : ∀ {Γ : Gam} {k : Nat} {W : WX} {sc : Sc} {X : Cx} {e : Expr} {n : Nat}, Good Γ k W sc X → need Γ → chk k sc e = true → (z = true → n = X.s_0.heap.objs.size) → ∃ t : TG, PG X e t ∧
    ∀ (σ : L2.St) (H : Hp) (I : Im) (ρ : Env) (T : Cs) (own : Nat → List Addr) (d : D) (v : V) (Q : L2.St → Hp → Prop), Wf Γ H I T → ER Γ n σ ρ H I own → Rep Γ I d v → PostG Γ n W (Ow own) sl pure σ H I (ev d ρ T) Q → t v σ H Q
  star : ∀ {k : Nat} {sc : Sc} {e : Expr}, chk k sc e = true → notStar e = true
def gNm (i : Nat) : CG where
  ev := fun d ρ T => if i < ρ.length then .ok (ρ.set i (some (.sh d))) T else .no
  sl := [i]
  pure := true
  hp := fun _ d ρ T ρ1 T1 h => by
    split at h
    · cases h
      exact ⟨List.length_set, fun j hj => List.getElem?_set_ne fun e => hj (by simp [e])⟩
    · cases h
  z := false
  chk := fun _ sc e => match e with
    | .Name x _ => okStore sc i x
    | _ => false
  need := fun _ => True
  ok := by
    intro Γ k W sc X e n g _ h _
    split at h
    · obtain ⟨s1, s2, s3⟩ := okStore_ok g h
      refine ⟨_, pg_name g.nd s1 s2 s3, fun σ H I ρ T own d v Q w er r p => ?_⟩
      split at p
      · rename_i hi
        obtain ⟨own', af⟩ := store_aft (as := []) er hi Ext.refl w (show RepL Γ n I H (.sh d) v [] from ⟨rfl, r⟩) (by simp)
        exact p _ _ _ _ af .one fun _ => Ext.refl
      · exact p.elim
    · cases h
  star := fun {k sc e} h => by
    cases e <;> first | rfl | cases h
/-- l[i] = d, l a local's own list, or a cell -/
def setAt (xs : List D) (r : R) (d : D) : Option (List D) := match r with
  | .v (.sh (.int i)) => (ixN xs.length i).map fun p => xs.set p d
  | _ => none
section
variable {Γ : Gam}
theorem Ext.cell {O : Addr → Prop} {H : Hp} {I : Im} {a : Addr} {o' : HO} (h : a ∈ I.κ) : Ext O H I (upd H a o') I :=
  ⟨fun _ _ h => h, fun _ _ h => h, fun b u q nk _ _ => by
    rw [upd_ne (fun e => nk (by rw [e]; exact h))]; exact q, fun b q => by
    by_cases e : b = a
    · subst e; rw [upd_same]; simp
    · rw [upd_ne e]; exact q, fun _ h => .inl h, fun _ h => .inl h, rfl⟩
theorem wr_cell {H : Hp} {I : Im} {T : Cs} {a : Addr} (w : Wf Γ H I T) (ha : a ∈ I.κ) : Wr (H a) := by
  obtain ⟨_, _, us, _, _, h1, _⟩ := w.cellIn ha
  rw [h1]; trivial
theorem Wf.cell {H : Hp} {I : Im} {T : Cs} {m : Nat} {a : Addr} {ds : List D} {vs : List V} (w : Wf Γ H I T) (h : I.κ[m]? = some a) (r : Reps Γ I ds vs) : Wf Γ (upd H a (.lst vs)) I (T.set m ds) := by
  have ha : a ∈ I.κ := List.mem_of_getElem? h
  refine ⟨fun b u q => ?_, w.nd, w.kg, by rw [List.length_set]; exact w.len, fun m2 b ds2 e1 e2 => ?_, w.ug, fun p hp => (w.tb p hp).keep (Wr.keep (wr_cell w ha)), w.lc.keep (Wr.keep (wr_cell w ha)) (fun _ _ h => h), w.tg⟩
  · rw [upd_ne (ne_of_none q (w.kg a ha))]
    exact w.gh b u q
  · by_cases hm : m = m2
    · subst hm
      rw [h] at e1; cases e1
      have hl : m < T.length := by rw [← w.len]; exact (List.getElem?_eq_some_iff.mp h).1
      rw [List.getElem?_set_self hl] at e2
      cases e2
      exact ⟨vs, upd_same, r⟩
    · rw [List.getElem?_set_ne hm] at e2
      obtain ⟨us, h1, h2⟩ := w.cells m2 b ds2 e1 e2
      refine ⟨us, ?_, h2⟩
      rw [upd_ne]
      · exact h1
      · rintro rfl
        exact hm ((List.getElem?_inj (List.getElem?_eq_some_iff.mp h).1 w.nd).mp (h.trans e1.symm))
theorem setAt_ok {n : Nat} {own : Nat → List Addr} {H0 H : Hp} {I : Im} {xs ys : List D} {vs : List V} {r : R} {d : D} {iv v : V} (e : setAt xs r d = some ys) (q : RepR Γ n own H0 H I r iv) (rx : Reps Γ I xs vs) (rv : Rep Γ I d v) :
    ∃ k j, iv = .int k ∧ ixN vs.length k = some j ∧ Reps Γ I ys (vs.set j v) := by
  unfold setAt at e
  split at e
  · obtain ⟨j, e1, rfl⟩ := Option.map_eq_some_iff.mp e
    exact ⟨_, j, q.unsh.int, by rw [rx.length]; exact e1, Reps.set rv rx⟩
  · cases e
end
def gIx (j : Nat) (a : CE) : CG where
  ev := fun d ρ T => match ρ[j]? with
    | some (some (.ow xs)) => (a.ev ρ T).bind fun r T1 => (match setAt xs r d with
      | some ys => .ok (ρ.set j (some (.ow ys))) T1
      | none => .no)
    | some (some (.sh (.cell m))) => (a.ev ρ T).bind fun r T1 => (match T1[m]? with
      | some xs => (match setAt xs r d with
        | some ys => .ok ρ (T1.set m ys)
        | none => .no)
      | none => .no)
    | _ => .no
  sl := []
  pure := false
  hp := fun h => by cases h
  chk := fun k sc e => match e with
    | .Subscript (.Name x _) i _ => isVar sc j x && (notSlice i && a.chk k sc i)
    | _ => false
  need := a.need
  z := a.z
  ok := by
    intro Γ k W sc X e n g nd h hz
    split at h
    · rename_i x px i pos
      obtain ⟨h1, h⟩ := b2 h
      obtain ⟨h2, h3⟩ := b2 h
      refine ⟨_, pg_sub (isVar_ok g h1) (a.ok (n := n) g nd h3 hz) set_list (by
        intro v
        cases i <;> first | rfl | cases h2), fun σ H I ρ T own d v Q w er r p => ?_⟩
      split at p
      · rename_i xs e1
        obtain ⟨b, vs, o1, o2, o3, o4⟩ := own_list er e1
        refine ⟨_, o2, I, ρ, T, own, w, er, (PostG.step (rel := RepR Γ n own) p Ext.refl).imp fun iv H1 q1 => ?_⟩
        obtain ⟨r1, T1, I1, _, x1, w1, r1', p1⟩ := q1
        split at p1
        · rename_i ys e2
          obtain ⟨f1, f2, f3⟩ := er.free j b (by rw [o1]; simp)
          have o3' : H1 b = some (.lst vs) := x1.fr _ _ o3 f2 (fun z => z) trivial
          obtain ⟨k', j', rfl, hk, ry⟩ := setAt_ok e2 r1' (o4.mono x1.le) (r.mono x1.le)
          refine ⟨b, vs, k', j', rfl, rfl, o3', hk, ?_⟩
          exact p1 σ _ I1 own (write_aft er x1 w1 e1 o1 o2 ⟨b, _, rfl, rfl, upd_same, ry⟩) .refl fun z => by cases z
        · exact p1.elim
      · rename_i m e1
        obtain ⟨v0, o2, o3⟩ := er.at_ j _ e1
        have o4 := o3.2
        simp only [Rep] at o4
        obtain ⟨b, rfl, o5⟩ := o4
        refine ⟨_, o2, I, ρ, T, own, w, er, (PostG.step (rel := RepR Γ n own) p Ext.refl).imp fun iv H1 q1 => ?_⟩
        obtain ⟨r1, T1, I1, _, x1, w1, r1', p1⟩ := q1
        split at p1
        · rename_i xs e3
          split at p1
          · rename_i ys e2
            have o6 := x1.kk _ _ o5
            obtain ⟨vs, c1, c2⟩ := w1.cells m b xs o6 e3
            obtain ⟨k', j', rfl, hk, ry⟩ := setAt_ok e2 r1' c2 (r.mono x1.le)
            refine ⟨b, vs, k', j', rfl, rfl, c1, hk, ?_⟩
            have xc : Ext O0 H1 I1 (upd H1 b (.lst (vs.set j' v))) I1 := Ext.cell (List.mem_of_getElem? o6)
            exact p1 σ _ I1 own ⟨(x1.tr0 xc).mono fun _ q => q.elim, w1.cell o6 ry, (er.ext x1).ext xc, fun _ z => .inl z⟩ .refl fun z => by cases z
          · exact p1.elim
        · exact p1.elim
      · exact p.elim
    · cases h
  star := fun {k sc e} h => by
    cases e <;> first | rfl | cases h
end Tp
end
section
set_option Elab.async false
set_option linter.all false
set_option maxRecDepth 100000
set_option maxHeartbeats 2000000
/-! TpL: tuples of targets, assignment. -/
namespace Tp
open PySem PySem.Spec PyProof.Rows L2

/-! ### several targets -/
def evGs : List CG → List D → Env → Cs → Ev Env
  | [], [], ρ, T => .ok ρ T
  | g :: gs, d :: ds, ρ, T => (g.ev d ρ T).bind fun ρ1 T1 => evGs gs ds ρ1 T1
  | _, _, _, _ => .no
def chkGs : List CG → Nat → Sc → List Expr → Bool
  | [], _, _, es => es.isEmpty
  | g :: gs, k, sc, es => match es with
    | e :: es => g.chk k sc e && chkGs gs k sc es
    | [] => false
def slGs : List CG → List Nat
  | [] => []
  | g :: gs => g.sl ++ slGs gs
def purGs : List CG → Bool
  | [] => true
  | g :: gs => g.pure && purGs gs
theorem purGs_ok : ∀ {gs : List CG}, purGs gs = true → ∀ ds ρ T ρ1 T1, evGs gs ds ρ T = .ok ρ1 T1 → ρ1.length = ρ.length ∧ ∀ j, j ∉ slGs gs → ρ1[j]? = ρ[j]?
  | [], _, [], ρ, T, ρ1, T1, h => by cases h; exact ⟨rfl, fun _ _ => rfl⟩
  | [], _, _ :: _, ρ, T, ρ1, T1, h => by cases h
  | _ :: _, _, [], ρ, T, ρ1, T1, h => by cases h
  | g :: gs, hp, d :: ds, ρ, T, ρ1, T1, h => by
    obtain ⟨h1, h2⟩ := b2 hp
    have h' : ((g.ev d ρ T).bind fun ρ1 T1 => evGs gs ds ρ1 T1) = .ok ρ1 T1 := h
    cases e : g.ev d ρ T with
    | no => rw [e] at h'; cases h'
    | ex x T' => rw [e] at h'; cases h'
    | ok ρ2 T2 =>
      rw [e] at h'
      obtain ⟨i1, i2⟩ := g.hp h1 d ρ T ρ2 T2 e
      obtain ⟨i3, i4⟩ := purGs_ok h2 ds ρ2 T2 ρ1 T1 h'
      exact ⟨i3.trans i1, fun j hj => (i4 j fun z => hj (List.mem_append.mpr (.inr z))).trans (i2 j fun z => hj (List.mem_append.mpr (.inl z)))⟩
def zGs : List CG → Bool
  | [] => false
  | g :: gs => g.z || zGs gs
def needGs : List CG → Gam → Prop
  | [], _ => True
  | g :: gs, Γ => g.need Γ ∧ needGs gs Γ
theorem asg_cons {e : Expr} {es : List Expr} {env : PySem.Env} (h : notStar e = true) : assignEach (e :: es) env = (false, assign e env) :: assignEach es env := by
  cases e <;> first | rfl | cases h
theorem asg_star : ∀ {gs : List CG} {k : Nat} {sc : Sc} {es : List Expr} {env : PySem.Env}, chkGs gs k sc es = true → (assignEach es env).length = gs.length ∧ (assignEach es env).findIdx? (·.1) = none
  | [], _, _, [], _, _ => ⟨rfl, rfl⟩
  | [], _, _, _ :: _, _, h => by cases h
  | _ :: _, _, _, [], _, h => by cases h
  | g :: gs, k, sc, e :: es, env, h => by
    obtain ⟨h1, h2⟩ := b2 h
    obtain ⟨i1, i2⟩ := asg_star (env := env) h2
    rw [asg_cons (g.star h1)]
    refine ⟨by rw [List.length_cons, i1]; rfl, ?_⟩
    rw [List.findIdx?_cons, i2]
    rfl
theorem evGs_ok {Γ : Gam} {k : Nat} {W : WX} {sc : Sc} {X : Cx} {n : Nat} (g : Good Γ k W sc X) : ∀ {gs : List CG} {es : List Expr}, needGs gs Γ → chkGs gs k sc es = true → (zGs gs = true → n = X.s_0.heap.objs.size) → ∃ t : TGs, PGs X es t ∧
    ∀ (σ : L2.St) (H : Hp) (I : Im) (ρ : Env) (T : Cs) (own : Nat → List Addr) (ds : List D) (vs : List V) (Q : L2.St → Hp → Prop), Wf Γ H I T → ER Γ n σ ρ H I own → Reps Γ I ds vs → PostG Γ n W (Ow own) (slGs gs) (purGs gs) σ H I (evGs gs ds ρ T) Q → t vs σ H Q
  | [], [], _, _, _ => ⟨_, pgs_nil, fun σ H I ρ T own ds vs Q w er r p => by
      cases ds with
      | nil =>
        simp only [Reps] at r
        exact ⟨r, p σ H I own (aft_refl w er) .refl fun _ => Ext.refl⟩
      | cons a b => exact p.elim⟩
  | [], _ :: _, _, h, _ => by cases h
  | _ :: _, [], _, h, _ => by cases h
  | a :: gs, e :: es, nd, h, hz => by
    obtain ⟨h1, h2⟩ := b2 h
    obtain ⟨t1, p1, k1⟩ := a.ok g nd.1 h1 (or1 hz).1
    obtain ⟨t2, p2, k2⟩ := evGs_ok g nd.2 h2 (or1 hz).2
    refine ⟨_, pgs_cons p1 p2 (by rw [asg_cons (a.star h1)]; rfl), fun σ H I ρ T own ds vs Q w er r p => ?_⟩
    cases ds with
    | nil => exact p.elim
    | cons d ds =>
      simp only [Reps] at r
      obtain ⟨v, us, rfl, r1, r2⟩ := r
      refine ⟨v, us, rfl, k1 σ H I ρ T own d v _ w er r1 ?_⟩
      have p' : PostG Γ n W (Ow own) (a.sl ++ slGs gs) (a.pure && purGs gs) σ H I ((a.ev d ρ T).bind fun ρ1 T1 => evGs gs ds ρ1 T1) Q := p
      cases e2 : a.ev d ρ T with
      | no => rw [e2] at p'; exact p'
      | ex x T1 => rw [e2] at p'; exact p'
      | ok ρ1 T1 =>
        rw [e2] at p'
        intro σ' H' I' own' af c1 xo
        exact k2 σ' H' I' ρ1 T1 own' ds us Q af.wf af.er (r2.mono af.ext.le) (PostG.from af.ext af.ow c1 xo p')
def gTp (gs : List CG) : CG where
  ev := fun d ρ T => match d with
    | .tup ds => if ds.length = gs.length then evGs gs ds ρ T else .no
    | _ => .no
  sl := slGs gs
  pure := purGs gs
  hp := fun h d ρ T ρ1 T1 e => by
    split at e
    · split at e
      · exact purGs_ok h _ _ _ _ _ e
      · cases e
    · cases e
  z := zGs gs
  chk := fun k sc e => match e with
    | .Tuple es _ _ => chkGs gs k sc es
    | _ => false
  need := needGs gs
  ok := by
    intro Γ k W sc X e n g nd h hz
    split at h
    · rename_i es _ _
      obtain ⟨t, p1, k1⟩ := evGs_ok g nd h hz
      obtain ⟨s1, s2⟩ := asg_star (env := X.env) h
      refine ⟨_, pg_tup g.calm p1 s1 s2, fun σ H I ρ T own d v Q w er r p => ?_⟩
      split at p
      · rename_i ds
        obtain ⟨a, vs, rfl, q1, q2⟩ := r.tup
        split at p
        · rename_i hl
          exact ⟨a, vs, rfl, by rw [g.K]; exact SqT.ext w.gh q1, by rw [q2.length, hl], k1 σ H I ρ T own ds vs Q w er q2 p⟩
        · exact p.elim
      · exact p.elim
    · cases h
  star := fun {k sc e} h => by
    cases e <;> first | rfl | cases h
/-! ### target = value, the stores in order -/
/-- for sure not stored from the right -/
def noSw (tg e : Expr) (nm : List (Str × NameKind)) : Bool := match tg with
  | .Name .. => true
  | .Subscript .. => true
  | .Tuple ts _ _ => (match e with
    | .Tuple vs _ _ => !(ts.length == 2 || ts.length == 3) || ((ts.filterMap fun
        | .Name id pos => if nm.lookup id == some .local && pos.line == (ts.head?.map (·.pos.line)).getD 0 then some id else none
        | _ => none).length != ts.length) || vs.all (foldedForSure 8)
    | _ => true)
  | _ => false
theorem noSw_ok {tg e : Expr} {env : PySem.Env} {nm : List (Str × NameKind)} (he : env.scope.names = nm) (h : noSw tg e nm = true) : swappedStores [tg] e env = pure none ∧ (assignEach [tg] env).map (·.2) = [assign tg env] := by
  subst he
  unfold noSw at h
  split at h
  · exact ⟨rfl, rfl⟩
  · exact ⟨rfl, rfl⟩
  · refine ⟨?_, rfl⟩
    split at h
    · rename_i ts _ _ vs _ _
      unfold swappedStores
      simp only
      rcases Bool.or_eq_true_iff.mp h with q' | q'
      · rcases Bool.or_eq_true_iff.mp q' with q | q
        · rw [q]; rfl
        · split
          · rfl
          · split
            · rfl
            · split
              · rfl
              · rename_i q2
                exact absurd (by rw [Bool.or_eq_true_iff]; exact .inl q) q2
      · split
        · rfl
        · split
          · rfl
          · split
            · rfl
            · first | rfl | (split <;> first | rfl | (rename_i q3; exact absurd q' q3)) | (rw [q']; rfl)
    · rename_i q
      unfold swappedStores
      cases e <;> first | rfl | exact absurd rfl (q _ _ _)
  · cases h
def isSub : Expr → Bool
  | .Subscript .. => true
  | _ => false
theorem notSw_ok {tg e : Expr} (h : (notComp e || isSub tg) = true) (l : Nat) (env : PySem.Env) : swapsWithSole [tg] e l env = pure false := by
  rcases Bool.or_eq_true_iff.mp h with q | q
  · exact notComp_ok q _ _ _
  · cases tg <;> first | (cases e <;> rfl) | cases q
def sAsgG (t : CG) (a : CE) : C1 where
  ev := fun ρ T => (evD a.ev ρ T).bind fun d T1 => (t.ev d ρ T1).bind fun ρ' T2 => .ok (.nx ρ') T2
  chk := fun k sc st => match st with
    | .Assign [tg] e _ => noSw tg e sc.nm && ((notComp e || isSub tg) && (t.chk k sc tg && a.chk k sc e))
    | _ => false
  need := fun Γ => t.need Γ ∧ a.need Γ
  ok := by
    intro Γ k W sc X st g nd h
    split at h
    · rename_i tg e pos
      obtain ⟨h1, h⟩ := b2 h
      obtain ⟨h2, h⟩ := b2 h
      obtain ⟨h3, h4⟩ := b2 h
      obtain ⟨w1, w2⟩ := noSw_ok g.nm h1
      obtain ⟨tt, p1, k1⟩ := t.ok (n := X.s_0.heap.objs.size) g nd.1 h3 fun _ => rfl
      refine PS.mono (ps_asg (a.ok (n := X.s_0.heap.objs.size) g nd.2 h4 fun _ => rfl) p1 (notSw_ok h2 _ _) w1 w2) fun D σ H q => ?_
      obtain ⟨I, ρ, T, own, w, er, p⟩ := q
      refine ⟨I, ρ, T, own, w, er, Post.toD ((PostS.step (rel := relD Γ) (show PostS Γ X.s_0.heap.objs.size W D (Ow own) H I _ from p) Ext.refl).imp fun v H1 q1 => ?_)⟩
      obtain ⟨d, T1, I1, _, x1, w1, r1, p1⟩ := q1
      refine k1 σ H1 I1 ρ T1 own d v _ w1 (er.ext x1) r1 ?_
      have p2 : PostS Γ X.s_0.heap.objs.size W D (Ow own) H1 I1 _ := PostS.from (x1.mono fun _ q => q.elim) (fun a h => .inl h) p1
      cases e2 : t.ev d ρ T1 with
      | no => rw [e2] at p2; exact p2
      | ex x T2 => rw [e2] at p2; exact p2
      | ok ρ1 T2 => rw [e2] at p2; exact fun σ' H' I' own' a _ _ => p2 σ' H' I' own' a
    · cases h

/-! ### several names at once, stored from the right: what is kept is each one's own -/
section
variable (Γ : Gam) (n : Nat)
def RepLs (Hs H : Hp) (I : Im) : List LV → List V → List (List Addr) → Prop
  | [], vs, ass => vs = [] ∧ ass = []
  | l :: ls, vs, ass => ∃ v us as r, vs = v :: us ∧ ass = as :: r ∧ RepL Γ n I H l v as ∧ (∀ a, a ∈ as → I.G a = none ∧ a ∉ I.κ ∧ H a ≠ none ∧ Hs a = none) ∧ (∀ a, a ∈ as → ∀ b, b ∈ r → a ∉ b) ∧ RepLs Hs H I ls us r
def relLs (Hs H : Hp) (I : Im) (ls : List LV) (vs : List V) : Prop := ∃ ass, RepLs Γ n Hs H I ls vs ass
def tLs (W : WX) (ev : Env → Cs → Ev (List LV)) : TA := fun σ H Q => ∃ I ρ T own, Wf Γ H I T ∧ ER Γ n σ ρ H I own ∧ Post Γ (relLs Γ n) W σ H I (ev ρ T) Q
end
section
variable {Γ : Gam} {n : Nat}
theorem RepLs.ext {Hs H H' : Hp} {I I' : Im} (e : Ext O0 H I H' I') : ∀ {ls : List LV} {vs : List V} {ass : List (List Addr)}, RepLs Γ n Hs H I ls vs ass → RepLs Γ n Hs H' I' ls vs ass
  | [], _, _, h => h
  | _ :: _, _, _, ⟨v, us, as, r, h1, h2, h3, h4, h5, h6⟩ => ⟨v, us, as, r, h1, h2, h3.ext e.le (fun a o ha q nt => e.fr a o q (h4 a ha).2.1 (fun z => z) nt), fun a ha => by
    obtain ⟨q1, q2, q3, q4⟩ := h4 a ha
    obtain ⟨p1, p2, p3⟩ := e.apart q1 q2 q3 fun z => z
    exact ⟨p1, p2, p3, q4⟩, h5, h6.ext e⟩
theorem RepLs.back {Hs H0 H : Hp} {I : Im} (h : ∀ a, Hs a ≠ none → H0 a ≠ none) : ∀ {ls : List LV} {vs : List V} {ass : List (List Addr)}, RepLs Γ n H0 H I ls vs ass → RepLs Γ n Hs H I ls vs ass
  | [], _, _, q => q
  | _ :: _, _, _, ⟨v, us, as, r, h1, h2, h3, h4, h5, h6⟩ => ⟨v, us, as, r, h1, h2, h3, fun a ha => by
    obtain ⟨q1, q2, q3, q4⟩ := h4 a ha
    refine ⟨q1, q2, q3, ?_⟩
    cases e : Hs a with
    | none => rfl
    | some o => exact absurd q4 (h a (by rw [e]; simp)), h5, h6.back h⟩
theorem RepLs.new {Hs H : Hp} {I : Im} : ∀ {ls : List LV} {vs : List V} {ass : List (List Addr)}, RepLs Γ n Hs H I ls vs ass → ∀ b, b ∈ ass → ∀ a, a ∈ b → Hs a = none
  | [], _, _, ⟨_, rfl⟩, b, hb, _, _ => by cases hb
  | _ :: _, _, _, ⟨v, us, as, r, h1, h2, h3, h4, h5, h6⟩, b, hb, a, ha => by
    subst h2
    rcases List.mem_cons.mp hb with q | q
    · subst q; exact (h4 a ha).2.2.2
    · exact h6.new b q a ha
end
/-- arguments to be stored; keep: its own list stays its own -/
structure CK where
  ev : Env → Cs → Ev (List LV)
  len : Nat
  chk : Nat → Sc → List Expr → Bool
  need : Gam → Prop
  ok : ∀ {Γ : Gam} {k : Nat} {W : WX} {sc : Sc} {X : Cx} {e : List Expr}, Good Γ k W sc X → need Γ → chk k sc e = true → PA X e (tLs Γ X.s_0.heap.objs.size W ev)
  star : ∀ {k : Nat} {sc : Sc} {e : List Expr}, chk k sc e = true → ∀ x, x ∈ e → notStar x = true
  hlen : ∀ {ρ : Env} {T T' : Cs} {ls : List LV}, ev ρ T = .ok ls T' → ls.length = len
def kNil : CK where
  ev := fun _ T => .ok [] T
  len := 0
  chk := fun _ _ es => es.isEmpty
  need := fun _ => True
  ok := by
    intro Γ k W sc X e g _ h
    cases e with
    | cons a b => cases h
    | nil => exact PA.mono pa_nil fun σ H Q ⟨I, ρ, T, own, w, er, p⟩ => p [] H I Ext.refl w ⟨[], rfl, rfl⟩
  star := fun {k sc e} h => by
    cases e with
    | cons a b => cases h
    | nil => simp
  hlen := fun {ρ T T' ls} h => by cases h; rfl
def kCons (keep : Bool) (a : CE) (r : CK) : CK where
  ev := fun ρ T => (a.ev ρ T).bind fun x T1 => match asLV keep x with
    | some lv => (r.ev ρ T1).bind fun ls T2 => .ok (lv :: ls) T2
    | none => .no
  len := r.len + 1
  chk := fun k sc es => match es with
    | e :: es => notStar e && (a.chk k sc e && r.chk k sc es)
    | _ => false
  need := fun Γ => a.need Γ ∧ r.need Γ
  ok := by
    intro Γ k W sc X e g nd h
    split at h
    · obtain ⟨h0, h⟩ := b2 h
      obtain ⟨h1, h2⟩ := b2 h
      refine PA.mono (pa_cons (a.ok (n := X.s_0.heap.objs.size) g nd.1 h1 fun _ => rfl) (r.ok g nd.2 h2) (star_cons h0)) fun σ H Q q => ?_
      obtain ⟨I, ρ, T, own, w, er, p⟩ := q
      refine ⟨I, ρ, T, own, w, er, (Post.step (rel := RepR Γ X.s_0.heap.objs.size own) p Ext.refl).imp fun x H1 q1 => ?_⟩
      obtain ⟨d, T1, I1, _, x1, w1, r1, p1⟩ := q1
      split at p1
      · rename_i lv e1
        obtain ⟨I2, as, x2, w2, le, l2, f2⟩ := asLV_ok x1 w1 e1 r1
        refine ⟨I2, ρ, T1, own, w2, er.ext x2, (Post.step (rel := relLs Γ X.s_0.heap.objs.size) p1 x2).imp fun xs H2 q2 => ?_⟩
        obtain ⟨ds, T2, I3, _, x3, w3, ⟨ass, r2⟩, p2⟩ := q2
        refine p2 (x :: xs) H2 I3 (x2.tr0 x3) w3 ⟨as :: ass, x, xs, as, ass, rfl, rfl, l2.ext x3.le (fun a o ha q nt => x3.fr a o q (f2 a ha).2.1 (fun z => z) nt), fun a ha => ?_, fun a ha b hb hab => ?_, r2.back x2.th⟩
        · obtain ⟨q1, q2, q3, q4⟩ := f2 a ha
          obtain ⟨p1, p2, p3⟩ := x3.apart q1 q2 q3 fun z => z
          exact ⟨p1, p2, p3, q4⟩
        · exact (f2 a ha).2.2.1 (r2.new b hb a hab)
      · exact p1.elim
    · cases h
  star := fun {k sc e} h => by
    cases e with
    | nil => cases h
    | cons e es =>
      obtain ⟨h0, h⟩ := b2 h
      obtain ⟨h1, h2⟩ := b2 h
      intro x hx
      rcases List.mem_cons.mp hx with q | q
      · rw [q]; exact h0
      · exact r.star h2 x q
  hlen := fun {ρ T T' ls} h => by
    cases e : a.ev ρ T with
    | no => rw [e] at h; cases h
    | ex x T1 => rw [e] at h; cases h
    | ok x T1 =>
      rw [e] at h
      have h' : (match asLV keep x with
        | some lv => (r.ev ρ T1).bind fun ls T2 => .ok (lv :: ls) T2
        | none => .no) = Ev.ok ls T' := h
      split at h'
      · cases e2 : r.ev ρ T1 with
        | no => rw [e2] at h'; cases h'
        | ex x T1 => rw [e2] at h'; cases h'
        | ok ls2 T2 =>
          rw [e2] at h'
          cases h'
          rw [List.length_cons, r.hlen e2]
      · cases h'
def setAll {α : Type} (σ : List (Option α)) : List Nat → List α → List (Option α)
  | i :: is, v :: vs => setAll (σ.set i (some v)) is vs
  | _, _ => σ
theorem storeLs {Γ : Gam} {n : Nat} {H0 H : Hp} {I : Im} : ∀ {is : List Nat} {ls : List LV} {vs : List V} {ass : List (List Addr)} {σ : L2.St} {ρ : Env} {own : Nat → List Addr}, ER Γ n σ ρ H I own → RepLs Γ n H0 H I ls vs ass → (∀ i, i ∈ is → i < ρ.length) →
    (∀ b, b ∈ ass → ∀ a, a ∈ b → ∀ j, a ∉ own j) → ∃ own', ER Γ n (setAll σ is vs) (setAll ρ is ls) H I own' ∧ ∀ a, Ow own' a → Ow own a ∨ ∃ b, b ∈ ass ∧ a ∈ b
  | [], _, _, _, σ, ρ, own, er, _, _, _ => ⟨own, by unfold setAll; exact er, fun a h => .inl h⟩
  | i :: is, [], _, _, σ, ρ, own, er, ⟨rfl, _⟩, _, _ => ⟨own, by unfold setAll; exact er, fun a h => .inl h⟩
  | i :: is, l :: ls, _, _, σ, ρ, own, er, ⟨v, us, as, r, rfl, rfl, h3, h4, h5, h6⟩, hi, hd => by
    have er2 := er.set (i := i) (O := O0) (hi i (by simp)) Ext.refl (fun _ _ _ _ q => q.elim) h3 (fun a ha => ⟨(h4 a ha).1, (h4 a ha).2.1, (h4 a ha).2.2.1⟩) (fun j a _ ha hj => hd as (by simp) a ha j hj)
    obtain ⟨own', e1, e2⟩ := storeLs (is := is) er2 h6 (fun j hj => by rw [List.length_set]; exact hi j (by simp [hj])) (fun b hb a ha j hj => by
      have hj' : a ∈ (if j = i then as else own j) := hj
      split at hj'
      · exact h5 a hj' b hb ha
      · exact hd b (by simp [hb]) a ha j hj')
    refine ⟨own', by unfold setAll; exact e1, fun a h => ?_⟩
    rcases e2 a h with ⟨j, q⟩ | ⟨b, hb, q⟩
    · have q' : a ∈ (if j = i then as else own j) := q
      split at q'
      · exact .inr ⟨as, by simp, q'⟩
      · exact .inl ⟨j, q'⟩
    · exact .inr ⟨b, by simp [hb], q⟩
/-- plain local, stands in slot i -/
def okPlain (sc : Sc) (i : Nat) (x : Str) : Bool := slotIs sc.N i x && decide (sc.nm.lookup x = some .local)
theorem notT {b : Bool} (h : (!b) = true) : b = false := by cases b <;> first | rfl | cases h
def swRest (vs : List Expr) : Bool := !(vs.all (foldedForSure 8)) && !(vs.all (constantsAlone 8))
theorem blockFn {Γ : Gam} {k : Nat} {W : WX} {sc : Sc} {X : Cx} (g : Good Γ k W sc X) : X.env.blockKind = .function := by
  unfold PySem.Env.blockKind
  rw [g.fk]
  rfl
theorem any_no {f : Expr → Bool} {vs : List Expr} (hf : ∀ e, notStar e = true → f e = false) (h : ∀ x, x ∈ vs → notStar x = true) : vs.any f = false := by
  rw [List.any_eq_false]
  intro x hx q
  rw [hf x (h x hx)] at q
  cases q
theorem sw2_ok {x y : Str} {px py pt pt2 : Pos} {kt k2} {a b : Expr} {env : PySem.Env} (hb : env.blockKind = .function) (l1 : env.kindOf x = some .local) (l2 : env.kindOf y = some .local) (hxy : x ≠ y) (hp : (px.line == py.line) = true) (hs : ∀ x, x ∈ [a, b] → notStar x = true)
    (h5 : ([a, b] : List Expr).all (foldedForSure 8) = false) (h6 : ([a, b] : List Expr).all (constantsAlone 8) = false) : swappedStores [.Tuple [.Name x px, .Name y py] kt pt] (.Tuple [a, b] k2 pt2) env = pure (some [x, y]) := by
  have e4 : (y == x) = false := by
    cases q : y == x with
    | false => rfl
    | true => exact absurd (eq_of_beq q).symm hxy
  have hpp : py.line = px.line := (eq_of_beq hp).symm
  unfold swappedStores
  simp only [List.length_cons, List.length_nil, hb, List.filterMap_cons, List.filterMap_nil, l1, l2, Expr.pos, List.head?_cons, Option.map_some, Option.getD_some, hpp, beq_self_eq_true, Bool.and_self, if_true, List.eraseDups_cons, h5, h6, List.filter_cons, List.filter_nil, e4]
  rw [any_no (fun e he => by cases e <;> first | rfl | (cases he; done)) hs]
  rfl
theorem sw3_ok {x y z : Str} {px py pz pt pt2 : Pos} {kt k2} {a b c : Expr} {env : PySem.Env} (hb : env.blockKind = .function) (l1 : env.kindOf x = some .local) (l2 : env.kindOf y = some .local) (l3 : env.kindOf z = some .local) (hxy : x ≠ y) (hxz : x ≠ z) (hyz : y ≠ z) (hp : (px.line == py.line) = true) (hp2 : (px.line == pz.line) = true) (hs : ∀ x, x ∈ [a, b, c] → notStar x = true)
    (h5 : ([a, b, c] : List Expr).all (foldedForSure 8) = false) (h6 : ([a, b, c] : List Expr).all (constantsAlone 8) = false) : swappedStores [.Tuple [.Name x px, .Name y py, .Name z pz] kt pt] (.Tuple [a, b, c] k2 pt2) env = pure (some [x, y, z]) := by
  have ne : ∀ {u v : Str}, v ≠ u → (u == v) = false := fun {u v} h => by
    cases q : u == v with
    | false => rfl
    | true => exact absurd (eq_of_beq q).symm h
  have hpp : py.line = px.line := (eq_of_beq hp).symm
  have hpp2 : pz.line = px.line := (eq_of_beq hp2).symm
  unfold swappedStores
  simp only [List.length_cons, List.length_nil, hb, List.filterMap_cons, List.filterMap_nil, l1, l2, l3, Expr.pos, List.head?_cons, Option.map_some, Option.getD_some, hpp, hpp2, beq_self_eq_true, Bool.and_self, if_true, List.eraseDups_cons, h5, h6, List.filter_cons, List.filter_nil, ne hxy, ne hxz, ne hyz]
  rw [any_no (fun e he => by cases e <;> first | rfl | (cases he; done)) hs]
  simp [List.eraseDups_cons, List.filter_cons, ne hyz]
def sPar (is : List Nat) (c : CK) : C1 where
  ev := fun ρ T => (c.ev ρ T).bind fun ls T1 => if is.all fun i => decide (i < ρ.length) then .ok (.nx (setAll ρ is ls)) T1 else .no
  chk := fun k sc st => match st with
    | .Assign [.Tuple [.Name x px, .Name y py] _ _] (.Tuple [a, b] _ _) _ => (match is with
      | [i, j] => okPlain sc i x && (okPlain sc j y && (decide (x ≠ y) && ((px.line == py.line) && (swRest [a, b] && (decide (c.len = 2) && c.chk k sc [a, b])))))
      | _ => false)
    | .Assign [.Tuple [.Name x px, .Name y py, .Name z pz] _ _] (.Tuple [a, b, d] _ _) _ => (match is with
      | [i, j, l] => okPlain sc i x && (okPlain sc j y && (okPlain sc l z && ((decide (x ≠ y) && (decide (x ≠ z) && decide (y ≠ z))) && (((px.line == py.line) && (px.line == pz.line)) && (swRest [a, b, d] && (decide (c.len = 3) && c.chk k sc [a, b, d]))))))
      | _ => false)
    | _ => false
  need := c.need
  ok := by
    intro Γ k W sc X st g nd h
    have fin : ∀ (D : Ends) (σ : L2.St) (H : Hp) (I : Im) (ρ : Env) (T : Cs) (own : Nat → List Addr), Wf Γ H I T → ER Γ X.s_0.heap.objs.size σ ρ H I own →
        PostS Γ X.s_0.heap.objs.size W D (Ow own) H I ((c.ev ρ T).bind fun ls T1 => if is.all fun i => decide (i < ρ.length) then .ok (.nx (setAll ρ is ls)) T1 else .no) →
        Post Γ (relLs Γ X.s_0.heap.objs.size) W σ H I (c.ev ρ T) fun vs H1 => vs.length = c.len ∧ D.nx (setAll σ is vs) H1 := by
      intro D σ H I ρ T own w er p
      refine (PostS.step (rel := relLs Γ X.s_0.heap.objs.size) p Ext.refl).imp fun vs H1 q1 => ?_
      obtain ⟨ls, T1, I1, e1, x1, w1, ⟨ass, r1⟩, p1⟩ := q1
      have hlv : ∀ {ls : List LV} {vs : List V} {ass : List (List Addr)}, RepLs Γ X.s_0.heap.objs.size H H1 I1 ls vs ass → vs.length = ls.length := by
        intro ls
        induction ls with
        | nil => rintro vs ass ⟨rfl, _⟩; rfl
        | cons l ls ih =>
          rintro vs ass ⟨v, us, as, r, rfl, _, _, _, _, h6⟩
          rw [List.length_cons, List.length_cons, ih h6]
      refine ⟨(hlv r1).trans (c.hlen e1), ?_⟩
      split at p1
      · rename_i hi
        have er1 := er.ext x1
        obtain ⟨own', e3, e4⟩ := storeLs (is := is) er1 r1 (fun i hi2 => of_decide_eq_true (List.all_eq_true.mp hi i hi2)) (fun b hb a ha j hj => (er.free j a hj).2.2 (r1.new b hb a ha))
        exact p1 _ _ _ own' ⟨x1.mono fun _ q => q.elim, w1, e3, fun a ha => (e4 a ha).elim .inl fun ⟨b, hb, q⟩ => .inr (r1.new b hb a q)⟩
      · exact p1.elim
    have ok1 : ∀ {i : Nat} {x : Str}, okPlain sc i x = true → X.N[i]? = some x ∧ X.env.scope.names.lookup x = some .local := fun {i x} h => by
      obtain ⟨h1, h2⟩ := b2 h
      exact ⟨by rw [g.N]; exact slotIs_ok h1, by rw [g.nm]; exact of_decide_eq_true h2⟩
    have inj : ∀ {i j : Nat} {x y : Str}, X.N[i]? = some x → X.N[j]? = some y → x ≠ y → i ≠ j := fun {i j x y} h1 h2 h3 h4 => h3 (by rw [h4, h2] at h1; exact (Option.some.inj h1).symm)
    split at h
    · rename_i x px y py kt pt a b k2 pt2 pos
      split at h
      · rename_i i j
        obtain ⟨h1, h⟩ := b2 h
        obtain ⟨h2, h⟩ := b2 h
        obtain ⟨h3, h⟩ := b2 h
        obtain ⟨h4, h⟩ := b2 h
        obtain ⟨h5, h⟩ := b2 h
        obtain ⟨hl, h6⟩ := b2 h
        obtain ⟨h5a, h5b⟩ := b2 h5
        have hl' := of_decide_eq_true hl
        obtain ⟨n1, l1⟩ := ok1 h1
        obtain ⟨n2, l2⟩ := ok1 h2
        have hxy := of_decide_eq_true h3
        refine PS.mono (ps_par g.calm g.nd n1 n2 (inj n1 n2 hxy) l1 l2 (c.ok g nd h6) ?_ rfl) fun D σ H q => ?_
        · exact sw2_ok (blockFn g) l1 l2 hxy h4 (c.star h6) (notT h5a) (notT h5b)
        · obtain ⟨I, ρ, T, own, w, er, p⟩ := q
          refine ⟨I, ρ, T, own, w, er, (fin D σ H I ρ T own w er p).imp fun vs H1 ⟨q1, q2⟩ => ?_⟩
          rw [hl'] at q1
          match vs, q1 with
          | [v1, v2], _ => exact ⟨v1, v2, rfl, q2⟩
      · cases h
    · rename_i x px y py z pz kt pt a b d k2 pt2 pos
      split at h
      · rename_i i j l
        obtain ⟨h1, h⟩ := b2 h
        obtain ⟨h2, h⟩ := b2 h
        obtain ⟨h2c, h⟩ := b2 h
        obtain ⟨h3, h⟩ := b2 h
        obtain ⟨h4, h⟩ := b2 h
        obtain ⟨h5, h⟩ := b2 h
        obtain ⟨hl, h6⟩ := b2 h
        obtain ⟨h5a, h5b⟩ := b2 h5
        obtain ⟨h4a, h4b⟩ := b2 h4
        obtain ⟨h3a, h3⟩ := b2 h3
        obtain ⟨h3b, h3c⟩ := b2 h3
        have hl' := of_decide_eq_true hl
        obtain ⟨n1, l1⟩ := ok1 h1
        obtain ⟨n2, l2⟩ := ok1 h2
        obtain ⟨n3, l3⟩ := ok1 h2c
        have hxy := of_decide_eq_true h3a
        have hxz := of_decide_eq_true h3b
        have hyz := of_decide_eq_true h3c
        refine PS.mono (ps_par3 g.calm g.nd n1 n2 n3 (inj n1 n2 hxy) (inj n1 n3 hxz) (inj n2 n3 hyz) l1 l2 l3 (c.ok g nd h6) ?_ rfl) fun D σ H q => ?_
        · exact sw3_ok (blockFn g) l1 l2 l3 hxy hxz hyz h4a h4b (c.star h6) (notT h5a) (notT h5b)
        · obtain ⟨I, ρ, T, own, w, er, p⟩ := q
          refine ⟨I, ρ, T, own, w, er, (fin D σ H I ρ T own w er p).imp fun vs H1 ⟨q1, q2⟩ => ?_⟩
          rw [hl'] at q1
          match vs, q1 with
          | [v1, v2, v3], _ => exact ⟨v1, v2, v3, rfl, q2⟩
      · cases h
    · cases h
end Tp
end
section
set_option Elab.async false
set_option linter.all false
set_option maxRecDepth 100000
set_option maxHeartbeats 2000000
/-! TpM: what is walked; for. -/
namespace Tp
open PySem PySem.Spec PyProof.Rows L2

/-- J walks the data ds, whatever comes between the turns -/
structure Walk (Γ : Gam) (J : It) (I : Im) (ds : List D) : Prop where
  go : ∀ (H : Hp) (I' : Im) (T : Cs) (i : Nat), Im.Le I I' → Wf Γ H I' T → i < ds.length → J.go i H
  yld : ∀ (H : Hp) (I' : Im) (T : Cs) (i : Nat) (d : D) (x : V) (H' : Hp), Im.Le I I' → Wf Γ H I' T → ds[i]? = some d → J.yld i H x H' → ∃ I'', Ext O0 H I' H' I'' ∧ Wf Γ H' I'' T ∧ Rep Γ I'' d x
  stop : ∀ (H : Hp) (I' : Im) (T : Cs) (i : Nat), Im.Le I I' → Wf Γ H I' T → ds.length ≤ i → J.stop i H
def relW (Γ : Gam) (_ _ : Hp) (I : Im) (ds : List D) (J : It) : Prop := Walk Γ J I ds
theorem backW {Γ : Gam} : Backs (relW Γ) := ⟨fun _ q => q⟩
def tW (Γ : Gam) (n : Nat) (W : WX) (ev : Env → Cs → Ev (List D)) : TI := fun σ H R => ∃ I ρ T own, Wf Γ H I T ∧ ER Γ n σ ρ H I own ∧ Post Γ (relW Γ) W σ H I (ev ρ T) R
theorem PI.mono {X : Cx} {tg e : Expr} {t t' : TI} (h : PI X tg e t) (m : ∀ σ H R, t' σ H R → t σ H R) : PI X tg e t' := ⟨fun pins s σ H R I q => h.run pins s σ H R I (m σ H R q)⟩
/-- what a for or a comprehension walks -/
structure CI where
  ev : Env → Cs → Ev (List D)
  chk : Nat → Sc → Expr → Expr → Bool
  need : Gam → Prop
  z : Bool
  ok : ∀ {Γ : Gam} {k : Nat} {W : WX} {sc : Sc} {X : Cx} {tg e : Expr} {n : Nat}, Good Γ k W sc X → need Γ → chk k sc tg e = true → (z = true → n = X.s_0.heap.objs.size) → PI X tg e (tW Γ n W ev)
  fs : ∀ {k : Nat} {sc : Sc} {tg e : Expr} {env : PySem.Env}, chk k sc tg e = true → ∀ x, foldedSetIterable e env x = pure x
def notSetL : Expr → Bool
  | .Set .. => false
  | _ => true
theorem notSetL_ok {e : Expr} {env : PySem.Env} (h : notSetL e = true) : ∀ x, foldedSetIterable e env x = pure x := fun x => by
  cases e <;> first | rfl | cases h
theorem Im.Le.trans {I I1 I2 : Im} (a : Im.Le I I1) (b : Im.Le I1 I2) : Im.Le I I2 := ⟨fun x o h => b.gg x o (a.gg x o h), fun n x h => b.kk n x (a.kk n x h), b.mm.trans a.mm⟩
theorem Im.Le.refl {I : Im} : Im.Le I I := ⟨fun _ _ h => h, fun _ _ h => h, rfl⟩
section
variable {Γ : Gam} {I : Im}
theorem Walk.list {a : Addr} {vs : List V} {ds : List D} (h : SqL Γ.K I.G a vs) (r : Reps Γ I ds vs) : Walk Γ (Itl Γ.K a) I ds where
  go := fun H I' T i le w hi => by
    have h' := SqL.ext w.gh (SqL.ext le.gg h)
    exact ⟨vs, vs[i]'(by rw [r.length]; exact hi), h', by simp [r.length, hi]⟩
  yld := fun H I' T i d x H' le w hd ⟨e, y⟩ => by
    subst e
    have h' := SqL.ext w.gh (SqL.ext le.gg h)
    obtain ⟨v, h1, h2⟩ := r.get hd
    have := y vs h'
    rw [h1] at this
    cases this
    exact ⟨I', Ext.refl, w, h2.mono le⟩
  stop := fun H I' T i le w hi => ⟨vs, SqL.ext w.gh (SqL.ext le.gg h), by rw [r.length]; exact hi⟩
theorem Walk.tup {a : Addr} {vs : List V} {ds : List D} (h : SqT Γ.K I.G a vs) (r : Reps Γ I ds vs) : Walk Γ (Itt Γ.K a) I ds where
  go := fun H I' T i le w hi => by
    have h' := SqT.ext w.gh (SqT.ext le.gg h)
    exact ⟨vs, vs[i]'(by rw [r.length]; exact hi), h', by simp [r.length, hi]⟩
  yld := fun H I' T i d x H' le w hd ⟨e, y⟩ => by
    subst e
    have h' := SqT.ext w.gh (SqT.ext le.gg h)
    obtain ⟨v, h1, h2⟩ := r.get hd
    have := y vs h'
    rw [h1] at this
    cases this
    exact ⟨I', Ext.refl, w, h2.mono le⟩
  stop := fun H I' T i le w hi => ⟨vs, SqT.ext w.gh (SqT.ext le.gg h), by rw [r.length]; exact hi⟩
def rangeD (lo c : Int) : Nat → List D
  | 0 => []
  | n + 1 => .int lo :: rangeD (lo + c) c n
theorem rangeD_len (lo c : Int) : ∀ n, (rangeD lo c n).length = n
  | 0 => rfl
  | n + 1 => by unfold rangeD; rw [List.length_cons, rangeD_len]
theorem rangeD_get : ∀ (n : Nat) (lo c : Int) (i : Nat) (d : D), (rangeD lo c n)[i]? = some d → d = .int (lo + (i : Nat) * c)
  | 0, _, _, _, _, h => by cases h
  | n + 1, lo, c, 0, d, h => by
    unfold rangeD at h
    simp at h
    rw [← h]; simp
  | n + 1, lo, c, i + 1, d, h => by
    unfold rangeD at h
    rw [List.getElem?_cons_succ] at h
    rw [rangeD_get n (lo + c) c i d h]
    congr 1
    have : ((i + 1 : Nat) : Int) * c = (i : Int) * c + c := by rw [Int.natCast_succ, Int.add_mul, Int.one_mul]
    rw [this]; omega
theorem Walk.rangeC {lo c : Int} {m : Nat} : Walk Γ (Itc lo c m) I (rangeD lo c m) where
  go := fun H I' T i le w hi => by rw [rangeD_len] at hi; exact hi
  yld := fun H I' T i d x H' le w hd ⟨e, y⟩ => by
    subst e
    rw [rangeD_get _ _ _ _ _ hd, y]
    exact ⟨I', Ext.refl, w, .ofInt⟩
  stop := fun H I' T i le w hi => by rw [rangeD_len] at hi; exact hi
theorem Walk.range {lo : Int} {m : Nat} : Walk Γ (Itr lo m) I (rangeD lo 1 m) where
  go := fun H I' T i le w hi => by rw [rangeD_len] at hi; exact hi
  yld := fun H I' T i d x H' le w hd ⟨e, y⟩ => by
    subst e
    rw [rangeD_get _ _ _ _ _ hd, y, Int.mul_one]
    exact ⟨I', Ext.refl, w, .ofInt⟩
  stop := fun H I' T i le w hi => by rw [rangeD_len] at hi; exact hi
/-- a new tuple at T -/
theorem newTup {H : Hp} {I' : Im} {T : Cs} {p : Addr} {ds : List D} {vs : List V} (w : Wf Γ H I' T) (hp : H p = none) (r : Reps Γ I' ds vs) : ∃ I'', Ext O0 H I' (upd H p (.tup vs)) I'' ∧ Wf Γ (upd H p (.tup vs)) I'' T ∧ Rep Γ I'' (.tup ds) (.ref p) := by
  have x : Ext O0 H I' (upd H p (.tup vs)) ⟨upd I'.G p (.tup vs), I'.κ, I'.me⟩ := Ext.newG hp (w.gnone hp)
  exact ⟨_, x, w.newG hp _, .ofTup (SqT.of upd_same) (r.mono x.le)⟩
def zipD : List D → List D → List D
  | a :: xs, b :: ys => .tup [a, b] :: zipD xs ys
  | _, _ => []
theorem zipD_get : ∀ {xs ys : List D} {i : Nat} {d : D}, (zipD xs ys)[i]? = some d → ∃ a b, xs[i]? = some a ∧ ys[i]? = some b ∧ d = .tup [a, b]
  | [], _, _, _, h => by simp [zipD] at h
  | _ :: _, [], _, _, h => by simp [zipD] at h
  | a :: xs, b :: ys, 0, d, h => by simp [zipD] at h; exact ⟨a, b, rfl, rfl, h.symm⟩
  | a :: xs, b :: ys, i + 1, d, h => by
    unfold zipD at h
    rw [List.getElem?_cons_succ] at h
    obtain ⟨u, v, h1, h2, h3⟩ := zipD_get h
    exact ⟨u, v, by simpa using h1, by simpa using h2, h3⟩
theorem zipD_len : ∀ {xs ys : List D}, (zipD xs ys).length = min xs.length ys.length
  | [], _ => by simp [zipD]
  | _ :: _, [] => by simp [zipD]
  | a :: xs, b :: ys => by
    unfold zipD
    rw [List.length_cons, zipD_len, List.length_cons, List.length_cons]
    omega
theorem Walk.zip {a b : Addr} {vs us : List V} {ds es : List D} (h : SqL Γ.K I.G a vs) (r : Reps Γ I ds vs) (h2 : SqL Γ.K I.G b us) (r2 : Reps Γ I es us) : Walk Γ (Itz Γ.K a b) I (zipD ds es) where
  go := fun H I' T i le w hi => by
    rw [zipD_len] at hi
    have h' := SqL.ext w.gh (SqL.ext le.gg h)
    have h2' := SqL.ext w.gh (SqL.ext le.gg h2)
    exact ⟨vs, us, vs[i]'(by rw [r.length]; omega), us[i]'(by rw [r2.length]; omega), h', h2', by simp, by simp⟩
  yld := fun H I' T i d x H' le w hd ⟨p, x1, y1, e1, e2, e3, k1, k2⟩ => by
    subst e1 e3
    obtain ⟨u, v, g1, g2, rfl⟩ := zipD_get hd
    obtain ⟨v1, q1, q2⟩ := r.get g1
    obtain ⟨v2, q3, q4⟩ := r2.get g2
    have z1 := k1 vs (SqL.ext w.gh (SqL.ext le.gg h))
    have z2 := k2 us (SqL.ext w.gh (SqL.ext le.gg h2))
    rw [q1] at z1; cases z1
    rw [q3] at z2; cases z2
    exact newTup w e2 (Reps.cons (q2.mono le) (Reps.cons (q4.mono le) Reps.nil))
  stop := fun H I' T i le w hi => by
    rw [zipD_len] at hi
    refine ⟨vs, us, SqL.ext w.gh (SqL.ext le.gg h), SqL.ext w.gh (SqL.ext le.gg h2), ?_⟩
    rw [r.length, r2.length]
    omega
def enumD : Int → List D → List D
  | _, [] => []
  | k, a :: xs => .tup [.int k, a] :: enumD (k + 1) xs
theorem enumD_get : ∀ {xs : List D} {k : Int} {i : Nat} {d : D}, (enumD k xs)[i]? = some d → ∃ a, xs[i]? = some a ∧ d = .tup [.int (k + (i : Nat)), a]
  | [], _, _, _, h => by simp [enumD] at h
  | a :: xs, k, 0, d, h => by simp [enumD] at h; exact ⟨a, rfl, by rw [← h]; simp⟩
  | a :: xs, k, i + 1, d, h => by
    unfold enumD at h
    rw [List.getElem?_cons_succ] at h
    obtain ⟨u, h1, h3⟩ := enumD_get h
    refine ⟨u, by simpa using h1, ?_⟩
    rw [h3]
    congr 3
    omega
theorem enumD_len : ∀ {xs : List D} {k : Int}, (enumD k xs).length = xs.length
  | [], _ => rfl
  | a :: xs, k => by unfold enumD; rw [List.length_cons, enumD_len, List.length_cons]
theorem Walk.enum {a : Addr} {vs : List V} {ds : List D} (h : SqL Γ.K I.G a vs) (r : Reps Γ I ds vs) : Walk Γ (Ite Γ.K a) I (enumD 0 ds) where
  go := fun H I' T i le w hi => by
    rw [enumD_len] at hi
    have h' := SqL.ext w.gh (SqL.ext le.gg h)
    exact ⟨vs, vs[i]'(by rw [r.length]; exact hi), h', by simp [r.length, hi]⟩
  yld := fun H I' T i d x H' le w hd ⟨p, x1, e1, e2, e3, k1⟩ => by
    subst e1 e3
    obtain ⟨u, g1, rfl⟩ := enumD_get hd
    obtain ⟨v1, q1, q2⟩ := r.get g1
    have z1 := k1 vs (SqL.ext w.gh (SqL.ext le.gg h))
    rw [q1] at z1; cases z1
    refine newTup w e2 (Reps.cons ?_ (Reps.cons (q2.mono le) Reps.nil))
    rw [Int.zero_add]
    exact .ofInt
  stop := fun H I' T i le w hi => by
    rw [enumD_len] at hi
    exact ⟨vs, SqL.ext w.gh (SqL.ext le.gg h), by rw [r.length]; exact hi⟩
end
/-! ### the walkables -/
/-- plain data that is a list (a list nobody owns) -/
def dLst : D → Option (List D)
  | .lst xs => some xs
  | .fz xs => some xs
  | _ => none
theorem dLst_ok {Γ : Gam} {I : Im} {d : D} {xs : List D} {v : V} (h : dLst d = some xs) (q : Rep Γ I d v) : ∃ a vs, v = .ref a ∧ SqL Γ.K I.G a vs ∧ Reps Γ I xs vs := by
  unfold dLst at h
  split at h
  · cases h
    obtain ⟨a, vs, h1, h2, h3⟩ := q.lst
    exact ⟨a, vs, h1, SqL.of h2, h3⟩
  · cases h; exact q.fz
  · cases h
def iLst (a : CE) : CI where
  ev := fun ρ T => (evD a.ev ρ T).bind fun d T1 => Ev.opt (dLst d) T1
  chk := fun k sc _ e => notSetL e && a.chk k sc e
  need := a.need
  z := a.z
  ok := by
    intro Γ k W sc X tg e n g nd h hz
    refine PI.mono (pi_list (a.ok g nd (b2 h).2 hz)) fun σ H R q => ?_
    obtain ⟨I, ρ, T, own, w, er, p⟩ := q
    refine ⟨I, ρ, T, own, w, er, Post.toD ((Post.bind (rel := relD Γ) backW p).imp fun x H1 q1 => ?_)⟩
    obtain ⟨d, T1, I1, _, x1, w1, r1, p1⟩ := q1
    obtain ⟨ds, e1, k1⟩ := Post.opt p1
    obtain ⟨b, vs, rfl, h2, h3⟩ := dLst_ok e1 (show Rep Γ I1 d x from r1)
    refine ⟨b, rfl, ⟨vs, by rw [g.K]; exact SqL.ext w1.gh h2⟩, ?_⟩
    rw [g.K]
    exact k1 _ H1 I1 Ext.refl w1 (Walk.list h2 h3)
  fs := fun h => notSetL_ok (b2 h).1
def iTupl (a : CE) : CI where
  ev := fun ρ T => (evD a.ev ρ T).bind fun d T1 => Ev.opt (match d with
    | .tup xs => some xs
    | _ => none) T1
  chk := fun k sc _ e => notSetL e && a.chk k sc e
  need := a.need
  z := a.z
  ok := by
    intro Γ k W sc X tg e n g nd h hz
    refine PI.mono (pi_tup (a.ok g nd (b2 h).2 hz)) fun σ H R q => ?_
    obtain ⟨I, ρ, T, own, w, er, p⟩ := q
    refine ⟨I, ρ, T, own, w, er, Post.toD ((Post.bind (rel := relD Γ) backW p).imp fun x H1 q1 => ?_)⟩
    obtain ⟨d, T1, I1, _, x1, w1, r1, p1⟩ := q1
    obtain ⟨ds, e1, k1⟩ := Post.opt p1
    split at e1
    · cases e1
      obtain ⟨b, vs, rfl, h2, h3⟩ := (show Rep Γ I1 (.tup _) x from r1).tup
      refine ⟨b, rfl, ⟨vs, by rw [g.K]; exact SqT.ext w1.gh h2⟩, ?_⟩
      rw [g.K]
      exact k1 _ H1 I1 Ext.refl w1 (Walk.tup h2 h3)
    · cases e1
  fs := fun h => notSetL_ok (b2 h).1
def bnd62 (i : Int) : Bool := decide (-4611686018427387904 ≤ i) && decide (i < 4611686018427387904)
theorem bnd62_ok {i : Int} (h : bnd62 i = true) : -(2 ^ 62) ≤ i ∧ i < 2 ^ 62 := by
  obtain ⟨h1, h2⟩ := b2 h
  have := of_decide_eq_true h1
  have := of_decide_eq_true h2
  exact ⟨by omega, by omega⟩
def evRng1 (a : Env → Cs → Ev R) : Env → Cs → Ev (List D) := fun ρ T => (a ρ T).bind fun r T1 => Ev.opt (match r with
  | .v (.sh (.int j)) => if bnd62 j then some (rangeD 0 1 j.toNat) else none
  | _ => none) T1
def iRange1 (a : CE) : CI where
  ev := evRng1 a.ev
  chk := fun k sc _ e => match e with
    | .Call (.Name x _) [y] [] _ => decide (x = ("range" : Str)) && (isGl sc.nm x && (notStar y && a.chk k sc y))
    | _ => false
  need := fun Γ => Γ.mg "range" = none ∧ a.need Γ
  z := a.z
  ok := by
    intro Γ k W sc X tg e n g nd h hz
    split at h
    · rename_i x p y pos
      obtain ⟨h1, h⟩ := b2 h
      obtain ⟨h2, h⟩ := b2 h
      obtain ⟨h4, h5⟩ := b2 h
      have hx := of_decide_eq_true h1
      subst hx
      refine PI.mono (pi_range1 (isGl_ok g.nm h2) (by rw [g.mg]; exact nd.1) (pa_cons (a.ok g nd.2 h5 hz) pa_nil (star_cons h4)) (star_cons h4)) fun σ H R q => ?_
      obtain ⟨I, ρ, T, own, w, er, p⟩ := q
      refine ⟨I, ρ, T, own, w, er, (Post.bind (rel := RepR Γ n own) backW p).imp fun x H1 q1 => ?_⟩
      obtain ⟨r, T1, I1, _, x1, w1, r1, p1⟩ := q1
      obtain ⟨out, e1, k1⟩ := Post.opt p1
      split at e1
      · split at e1
        · rename_i j _ hb
          cases e1
          obtain ⟨b1, b2⟩ := bnd62_ok hb
          exact ⟨j, by rw [r1.unsh.int], b1, b2, k1 _ H1 I1 Ext.refl w1 Walk.range⟩
        · cases e1
      · cases e1
    · cases h
  fs := fun {k sc tg e env} h x => by
    split at h
    · rfl
    · cases h
def evRng2 (a b : Env → Cs → Ev R) : Env → Cs → Ev (List D) := fun ρ T => (a ρ T).bind fun r T1 => (b ρ T1).bind fun r2 T2 => Ev.opt (match r, r2 with
  | .v (.sh (.int i)), .v (.sh (.int j)) => if bnd62 i && bnd62 j then some (rangeD i 1 (j - i).toNat) else none
  | _, _ => none) T2
def iRange2 (a b : CE) : CI where
  ev := evRng2 a.ev b.ev
  chk := fun k sc _ e => match e with
    | .Call (.Name x _) [y, y2] [] _ => decide (x = ("range" : Str)) && (isGl sc.nm x && ((notStar y && notStar y2) && (a.chk k sc y && b.chk k sc y2)))
    | _ => false
  need := fun Γ => Γ.mg "range" = none ∧ a.need Γ ∧ b.need Γ
  z := a.z || b.z
  ok := by
    intro Γ k W sc X tg e n g nd h hz
    split at h
    · rename_i x p y y2 pos
      obtain ⟨h1, h⟩ := b2 h
      obtain ⟨h2, h⟩ := b2 h
      obtain ⟨h4, h5⟩ := b2 h
      obtain ⟨h4, h4b⟩ := b2 h4
      obtain ⟨h5, h5b⟩ := b2 h5
      have hx := of_decide_eq_true h1
      subst hx
      refine PI.mono (pi_range2 (isGl_ok g.nm h2) (by rw [g.mg]; exact nd.1) (pa_cons (a.ok g nd.2.1 h5 (or1 hz).1) (pa_cons (b.ok g nd.2.2 h5b (or1 hz).2) pa_nil (star_cons h4b)) (star_cons h4)) (by rw [star_cons h4, star_cons h4b]; rfl) (star_cons h4b)) fun σ H R q => ?_
      obtain ⟨I, ρ, T, own, w, er, p⟩ := q
      refine ⟨I, ρ, T, own, w, er, (Post.bind (rel := RepR Γ n own) backW p).imp fun x H1 q1 => ?_⟩
      obtain ⟨r, T1, I1, _, x1, w1, r1, p1⟩ := q1
      refine ⟨I1, ρ, T1, own, w1, er.ext x1, (Post.bind (rel := RepR Γ n own) backW p1).imp fun y H2 q2 => ?_⟩
      obtain ⟨r2, T2, I2, _, x2, w2, r2', p2⟩ := q2
      obtain ⟨out, e1, k1⟩ := Post.opt p2
      split at e1
      · split at e1
        · rename_i i j _ _ hb
          cases e1
          obtain ⟨hb1, hb2⟩ := b2 hb
          obtain ⟨b1, b2⟩ := bnd62_ok hb1
          obtain ⟨b3, b4⟩ := bnd62_ok hb2
          exact ⟨i, j, by rw [r1.unsh.int, r2'.unsh.int], ⟨b1, b2, b3, b4⟩, k1 _ H2 I2 Ext.refl w2 Walk.range⟩
        · cases e1
      · cases e1
    · cases h
  fs := fun {k sc tg e env} h x => by
    split at h
    · rfl
    · cases h
/-- range(i, j, -1), range(i, j, c) with c at least 1 -/
def rng3 (i j c : Int) : Option (List D) :=
  if bnd62 i && bnd62 j then (if c = -1 then some (rangeD i (-1) (i - j).toNat) else none) else none
def evRng3 (a b c : Env → Cs → Ev R) : Env → Cs → Ev (List D) := fun ρ T => (a ρ T).bind fun r T1 => (b ρ T1).bind fun r2 T2 => (c ρ T2).bind fun r3 T3 => Ev.opt (match r, r2, r3 with
  | .v (.sh (.int i)), .v (.sh (.int j)), .v (.sh (.int l)) => rng3 i j l
  | _, _, _ => none) T3
def iRange3 (a b c : CE) : CI where
  ev := evRng3 a.ev b.ev c.ev
  chk := fun k sc _ e => match e with
    | .Call (.Name x _) [y, y2, y3] [] _ => decide (x = ("range" : Str)) && (isGl sc.nm x && ((notStar y && (notStar y2 && notStar y3)) && (a.chk k sc y && (b.chk k sc y2 && c.chk k sc y3))))
    | _ => false
  need := fun Γ => Γ.mg "range" = none ∧ a.need Γ ∧ b.need Γ ∧ c.need Γ
  z := a.z || (b.z || c.z)
  ok := by
    intro Γ k W sc X tg e n g nd h hz
    split at h
    · rename_i x p y y2 y3 pos
      obtain ⟨h1, h⟩ := b2 h
      obtain ⟨h2, h⟩ := b2 h
      obtain ⟨h4, h5⟩ := b2 h
      obtain ⟨h4, h4b⟩ := b2 h4
      obtain ⟨h4b, h4c⟩ := b2 h4b
      obtain ⟨h5, h5b⟩ := b2 h5
      obtain ⟨h5b, h5c⟩ := b2 h5b
      have hx := of_decide_eq_true h1
      subst hx
      have z1 := or1 hz
      have z2 := or1 z1.2
      refine PI.mono (pi_range3 (isGl_ok g.nm h2) (by rw [g.mg]; exact nd.1) (pa_cons (a.ok g nd.2.1 h5 z1.1) (pa_cons (b.ok g nd.2.2.1 h5b z2.1) (pa_cons (c.ok g nd.2.2.2 h5c z2.2) pa_nil (star_cons h4c)) (star_cons h4b)) (star_cons h4)) (star_cons h4) (by rw [star_cons h4b, star_cons h4c]; rfl)) fun σ H R q => ?_
      obtain ⟨I, ρ, T, own, w, er, p⟩ := q
      refine ⟨I, ρ, T, own, w, er, (Post.bind (rel := RepR Γ n own) backW p).imp fun x H1 q1 => ?_⟩
      obtain ⟨r, T1, I1, _, x1, w1, r1, p1⟩ := q1
      refine ⟨I1, ρ, T1, own, w1, er.ext x1, (Post.bind (rel := RepR Γ n own) backW p1).imp fun y H2 q2 => ?_⟩
      obtain ⟨r2, T2, I2, _, x2, w2, r2', p2⟩ := q2
      refine ⟨I2, ρ, T2, own, w2, (er.ext x1).ext x2, (Post.bind (rel := RepR Γ n own) backW p2).imp fun y H3 q3 => ?_⟩
      obtain ⟨r3, T3, I3, _, x3, w3, r3', p3⟩ := q3
      obtain ⟨out, e1, k1⟩ := Post.opt p3
      split at e1
      · rename_i i j l _ _ _
        unfold rng3 at e1
        split at e1
        · rename_i hb
          obtain ⟨hb1, hb2⟩ := b2 hb
          obtain ⟨b1, b2⟩ := bnd62_ok hb1
          obtain ⟨b3, b4⟩ := bnd62_ok hb2
          split at e1
          · rename_i hc
            subst hc
            cases e1
            exact ⟨i, j, -1, (i - j).toNat, by rw [r1.unsh.int, r2'.unsh.int, r3'.unsh.int], RgC.neg b1 b2 b3 b4, k1 _ H3 I3 Ext.refl w3 Walk.rangeC⟩
          · cases e1
        · cases e1
      · cases e1
    · cases h
  fs := fun {k sc tg e env} h x => by
    split at h
    · rfl
    · cases h
def isTupE : Expr → Bool
  | .Tuple .. => true
  | _ => false
/-- zip of two lists, told apart from a zip at a name -/
def iZip2 (a b : CE) : CI where
  ev := fun ρ T => (evD a.ev ρ T).bind fun x T1 => (evD b.ev ρ T1).bind fun y T2 => Ev.opt (match dLst x, dLst y with
    | some xs, some ys => some (zipD xs ys)
    | _, _ => none) T2
  chk := fun k sc tg e => match e with
    | .Call (.Name x _) [y, y2] [] _ => decide (x = ("zip" : Str)) && (isTupE tg && (isGl sc.nm x && ((notStar y && notStar y2) && (a.chk k sc y && b.chk k sc y2))))
    | _ => false
  need := fun Γ => Γ.mg "zip" = none ∧ a.need Γ ∧ b.need Γ
  z := a.z || b.z
  ok := by
    intro Γ k W sc X tg e n g nd h hz
    split at h
    · rename_i x p y y2 pos
      obtain ⟨h1, h⟩ := b2 h
      obtain ⟨ht, h⟩ := b2 h
      obtain ⟨h2, h⟩ := b2 h
      obtain ⟨h4, h5⟩ := b2 h
      obtain ⟨h4, h4b⟩ := b2 h4
      obtain ⟨h5, h5b⟩ := b2 h5
      have hx := of_decide_eq_true h1
      subst hx
      have htg : ∃ elts kk tpos, tg = .Tuple elts kk tpos := by
        cases tg <;> first | exact ⟨_, _, _, rfl⟩ | cases ht
      obtain ⟨elts, kk, tpos, rfl⟩ := htg
      refine PI.mono (pi_zip (isGl_ok g.nm h2) (by rw [g.mg]; exact nd.1) (pa_cons (a.ok g nd.2.1 h5 (or1 hz).1) (pa_cons (b.ok g nd.2.2 h5b (or1 hz).2) pa_nil (star_cons h4b)) (star_cons h4)) (star_cons h4) (by rw [star_cons h4b]; rfl)) fun σ H R q => ?_
      obtain ⟨I, ρ, T, own, w, er, p⟩ := q
      refine ⟨I, ρ, T, own, w, er, Post.toD ((Post.bind (rel := relD Γ) backW p).imp fun x H1 q1 => ?_)⟩
      obtain ⟨r, T1, I1, _, x1, w1, r1, p1⟩ := q1
      refine ⟨I1, ρ, T1, own, w1, er.ext x1, Post.toD ((Post.bind (rel := relD Γ) backW p1).imp fun y H2 q2 => ?_)⟩
      obtain ⟨r2, T2, I2, _, x2, w2, r2', p2⟩ := q2
      obtain ⟨out, e1, k1⟩ := Post.opt p2
      split at e1
      · rename_i xs ys ea eb
        cases e1
        obtain ⟨l1, vs, rfl, h2, h3⟩ := dLst_ok ea (show Rep Γ I2 r x from Rep.mono x2.le r1)
        obtain ⟨l2, us, rfl, h6, h7⟩ := dLst_ok eb (show Rep Γ I2 r2 y from r2')
        rw [g.K]
        exact ⟨l1, l2, vs, us, rfl, SqL.ext w2.gh h2, SqL.ext w2.gh h6, k1 _ H2 I2 Ext.refl w2 (Walk.zip h2 h3 h6 h7)⟩
      · cases e1
    · cases h
  fs := fun {k sc tg e env} h x => by
    split at h
    · rfl
    · cases h
def iEnum1 (a : CE) : CI where
  ev := fun ρ T => (evD a.ev ρ T).bind fun x T1 => Ev.opt ((dLst x).map (enumD 0)) T1
  chk := fun k sc tg e => match e with
    | .Call (.Name x _) [y] [] _ => decide (x = ("enumerate" : Str)) && (isTupE tg && (isGl sc.nm x && (notStar y && a.chk k sc y)))
    | _ => false
  need := fun Γ => Γ.mg "enumerate" = none ∧ a.need Γ
  z := a.z
  ok := by
    intro Γ k W sc X tg e n g nd h hz
    split at h
    · rename_i x p y pos
      obtain ⟨h1, h⟩ := b2 h
      obtain ⟨ht, h⟩ := b2 h
      obtain ⟨h2, h⟩ := b2 h
      obtain ⟨h4, h5⟩ := b2 h
      have hx := of_decide_eq_true h1
      subst hx
      have htg : ∃ elts kk tpos, tg = .Tuple elts kk tpos := by
        cases tg <;> first | exact ⟨_, _, _, rfl⟩ | cases ht
      obtain ⟨elts, kk, tpos, rfl⟩ := htg
      refine PI.mono (pi_enum (isGl_ok g.nm h2) (by rw [g.mg]; exact nd.1) (pa_cons (a.ok g nd.2 h5 hz) pa_nil (star_cons h4)) (star_cons h4)) fun σ H R q => ?_
      obtain ⟨I, ρ, T, own, w, er, p⟩ := q
      refine ⟨I, ρ, T, own, w, er, Post.toD ((Post.bind (rel := relD Γ) backW p).imp fun x H1 q1 => ?_)⟩
      obtain ⟨r, T1, I1, _, x1, w1, r1, p1⟩ := q1
      obtain ⟨out, e1, k1⟩ := Post.opt p1
      obtain ⟨xs, ea, rfl⟩ := Option.map_eq_some_iff.mp e1
      obtain ⟨l1, vs, rfl, h2, h3⟩ := dLst_ok ea (show Rep Γ I1 r x from r1)
      rw [g.K]
      exact ⟨l1, vs, rfl, SqL.ext w1.gh h2, k1 _ H1 I1 Ext.refl w1 (Walk.enum h2 h3)⟩
    · cases h
  fs := fun {k sc tg e env} h x => by
    split at h
    · rfl
    · cases h
/-! ### for -/
def forEv (g : D → Env → Cs → Ev Env) (b : Env → Cs → Ev Fl) : List D → Env → Cs → Ev Fl
  | [], ρ, T => .ok (.nx ρ) T
  | d :: ds, ρ, T => (g d ρ T).bind fun ρ1 T1 => (b ρ1 T1).bind fun f T2 => (match f with
      | .nx ρ' => forEv g b ds ρ' T2
      | .ct ρ' => forEv g b ds ρ' T2
      | .bk ρ' => .ok (.nx ρ') T2
      | .rt lv => .ok (.rt lv) T2)
def sFor (t : CG) (i : CI) (b : CS) : C1 where
  ev := fun ρ T => (i.ev ρ T).bind fun ds T1 => forEv t.ev b.ev ds ρ T1
  chk := fun k sc st => match st with
    | .For tg e body [] _ => t.chk k sc tg && (i.chk k sc tg e && b.chk k sc body)
    | _ => false
  need := fun Γ => t.need Γ ∧ i.need Γ ∧ b.need Γ
  ok := by
    intro Γ k W sc X st g nd h
    split at h
    · rename_i tg e body pos
      obtain ⟨h1, h⟩ := b2 h
      obtain ⟨h2, h3⟩ := b2 h
      obtain ⟨tt, pt, kt⟩ := t.ok (n := X.s_0.heap.objs.size) g nd.1 h1 fun _ => rfl
      refine PS.mono (ps_for g.po g.calm (i.ok (n := X.s_0.heap.objs.size) g nd.2.1 h2 fun _ => rfl) pt (b.ok g nd.2.2 h3) (i.fs h2)) fun D σ H q => ?_
      obtain ⟨I, ρ, T, own, w, er, p⟩ := q
      refine ⟨I, ρ, T, own, w, er, (PostS.step (rel := relW Γ) (show PostS Γ X.s_0.heap.objs.size W D (Ow own) H I _ from p) Ext.refl).imp fun J H1 q1 => ?_⟩
      obtain ⟨ds, T1, I1, _, x1, w1, wk, p1⟩ := q1
      have wk : Walk Γ J I1 ds := wk
      refine ⟨fun j m σ H => m = ds.length - j ∧ j ≤ ds.length ∧ ∃ I ρ T own, Im.Le I1 I ∧ Wf Γ H I T ∧ ER Γ X.s_0.heap.objs.size σ ρ H I own ∧ PostS Γ X.s_0.heap.objs.size W D (Ow own) H I (forEv t.ev b.ev (ds.drop j) ρ T),
        ⟨ds.length, by simp, Nat.zero_le _, I1, ρ, T1, own, Im.Le.refl, w1, er.ext x1, PostS.from (x1.mono fun _ q => q.elim) (fun a h => .inl h) p1⟩, ?_⟩
      rintro j m σ H ⟨rfl, hj, I, ρ, T, own, le, w, er, p⟩
      by_cases hlt : j < ds.length
      · refine .inr ⟨wk.go H I T j le w hlt, fun σ H => ∃ I ρ T own, Im.Le I1 I ∧ Wf Γ H I T ∧ ER Γ X.s_0.heap.objs.size σ ρ H I own ∧ PostS Γ X.s_0.heap.objs.size W D (Ow own) H I (forEv t.ev b.ev (ds.drop (j + 1)) ρ T),
          fun σ' H' z => ⟨ds.length - (j + 1), by omega, rfl, hlt, z⟩, fun x H' y => ?_⟩
        have hd : ds.drop j = ds[j] :: ds.drop (j + 1) := List.drop_eq_getElem_cons hlt
        rw [hd] at p
        obtain ⟨I2, x2, w2, r2⟩ := wk.yld H I T j ds[j] x H' le w (by simp [hlt]) y
        have p2 : PostS Γ X.s_0.heap.objs.size W D (Ow own) H' I2 ((t.ev ds[j] ρ T).bind _) := PostS.from (x2.mono fun _ q => q.elim) (fun a h => .inl h) p
        refine kt σ H' I2 ρ T own ds[j] x _ w2 (er.ext x2) r2 ?_
        cases e1 : t.ev ds[j] ρ T with
        | no => rw [e1] at p2; exact p2
        | ex x T' => rw [e1] at p2; exact p2
        | ok ρ1 T3 =>
          rw [e1] at p2
          intro σ3 H3 I3 own3 af _ _
          have p3 : PostS Γ X.s_0.heap.objs.size W D (Ow own3) H3 I3 ((b.ev ρ1 T3).bind _) := PostS.from af.ext af.ow p2
          refine ⟨I3, ρ1, T3, own3, af.wf, af.er, ?_⟩
          show PostS Γ X.s_0.heap.objs.size W _ (Ow own3) H3 I3 (b.ev ρ1 T3)
          have le3 : Im.Le I1 I3 := (le.trans x2.le).trans af.ext.le
          cases e2 : b.ev ρ1 T3 with
          | no => rw [e2] at p3; exact p3
          | ex x T' => rw [e2] at p3; exact p3
          | ok f T4 =>
            rw [e2] at p3
            cases f with
            | nx ρ' => exact fun σ' H' I' own' af => ⟨I', ρ', T4, own', le3.trans af.ext.le, af.wf, af.er, PostS.from af.ext af.ow p3⟩
            | ct ρ' => exact fun σ' H' I' own' af => ⟨I', ρ', T4, own', le3.trans af.ext.le, af.wf, af.er, PostS.from af.ext af.ow p3⟩
            | bk ρ' => exact p3
            | rt lv => exact p3
      · have e : j = ds.length := by omega
        subst e
        rw [List.drop_length] at p
        exact .inl ⟨wk.stop H I T _ le w (Nat.le_refl _), p σ H I own (aft_refl w er)⟩
    · cases h
end Tp
end
section
set_option Elab.async false
set_option linter.all false
set_option maxRecDepth 100000
set_option maxHeartbeats 2000000
/-! TpN: list comprehensions. -/
namespace Tp
open PySem PySem.Spec PyProof.Rows L2

abbrev W0 : WX := fun _ _ _ _ => False
def lcEv (g : D → Env → Cs → Ev Env) (c : Env → Cs → Ev Bool) (e : Env → Cs → Ev D) (ρ : Env) : List D → Cs → Ev (List D)
  | [], T => .ok [] T
  | d :: ds, T => (g d ρ T).bind fun ρ1 T1 => (c ρ1 T1).bind fun b T2 => if b then (e ρ1 T2).bind fun x T3 => (lcEv g c e ρ ds T3).bind fun r T4 => .ok (x :: r) T4 else lcEv g c e ρ ds T2
def noX {α : Type} : Ev α → Ev α
  | .ex _ _ => .no
  | r => r
theorem Ev.bind_ok {α β : Type} {x : Ev α} {f : α → Cs → Ev β} {b : β} {T : Cs} (h : x.bind f = .ok b T) : ∃ a T1, x = .ok a T1 ∧ f a T1 = .ok b T := by
  cases x with
  | no => cases h
  | ex e T => cases h
  | ok a T1 => exact ⟨a, T1, rfl, h⟩
def tGt (Γ : Gam) (n : Nat) (W : WX) (sl : List Nat) (pu : Bool) (ev : D → Env → Cs → Ev Env) : TG := fun v σ H Q => ∃ I ρ T own d, Wf Γ H I T ∧ ER Γ n σ ρ H I own ∧ Rep Γ I d v ∧ PostG Γ n W (Ow own) sl pu σ H I (ev d ρ T) Q
theorem CG.pg (a : CG) {Γ : Gam} {k : Nat} {W : WX} {sc : Sc} {X : Cx} {e : Expr} {n : Nat} (g : Good Γ k W sc X) (nd : a.need Γ) (h : a.chk k sc e = true) (hz : a.z = true → n = X.s_0.heap.objs.size) : PG X e (tGt Γ n W a.sl a.pure a.ev) := by
  obtain ⟨t, p, kt⟩ := a.ok g nd h hz
  exact ⟨fun pins s σ H v u Q I r ⟨I', ρ, T, own, d, w, er, rd, q⟩ => p.run pins s σ H v u Q I r (kt σ H I' ρ T own d v Q w er rd q)⟩
/-- a test that may lack -/
def evC : Option CT → Env → Cs → Ev Bool
  | none => fun _ T => .ok true T
  | some c => c.ev
def chkC : Option CT → Nat → Sc → List Expr → Bool
  | none, _, _, es => es.isEmpty
  | some c, k, sc, es => match es with
    | [e] => !c.z && c.chk k sc e
    | _ => false
def needC : Option CT → Gam → Prop
  | none, _ => True
  | some c, Γ => c.need Γ
theorem PTs.mono {X : Cx} {e : List Expr} {t t' : L2.TT} (h : PTs X e t) (m : ∀ σ H Q, t' σ H Q → t σ H Q) : PTs X e t' := ⟨fun pins s σ H Q I q => h.run pins s σ H Q I (m σ H Q q)⟩
theorem evC_ok {c : Option CT} {Γ : Gam} {k : Nat} {W : WX} {sc : Sc} {X : Cx} {e : List Expr} {n : Nat} (g : Good Γ k W sc X) (nd : needC c Γ) (h : chkC c k sc e = true) : PTs X e (tT Γ n W (evC c)) := by
  cases c with
  | none =>
    cases e with
    | cons a b => cases h
    | nil => exact PTs.mono pts_nil fun σ H Q ⟨I, ρ, T, own, w, er, p⟩ => p true H I Ext.refl w rfl
  | some c =>
    match e, h with
    | [e], h =>
      obtain ⟨h1, h2⟩ := b2 h
      exact pts_one (c.ok g nd h2 fun z => by rw [z] at h1; cases h1)
    | [], h => cases h
    | a :: b :: r, h => cases h
/-- the block's names -/
def relN (names nm : List (Str × NameKind)) : List (Str × NameKind) := names.map fun (n, k) => if (k == NameKind.free && nm.lookup n == some .cell) then (n, .cell) else (n, k)
/-- a comprehension's names bear a mark: no try stands there -/
def scIn (sc : Sc) (s : Scope) : Sc := ⟨sc.N, relN s.names sc.nm, ("#", .free) :: s.names⟩
theorem lk_mark {l : List (Str × NameKind)} {x : Str} {k : NameKind} (hk : k ≠ .free) (h : List.lookup x ((("#" : Str), NameKind.free) :: l) = some k) : l.lookup x = some k := by
  rw [List.lookup_cons] at h
  split at h
  · cases h; exact absurd rfl hk
  · exact h
theorem goodIn {Γ : Gam} {k : Nat} {W : WX} {sc : Sc} {X : Cx} (g : Good Γ k W sc X) {scope : Scope} (hk : scope.kind = .function) (s : Shared) (H : Hp) (C : Addr) (cl : List (Str × Addr)) (fp : List Addr) : Good Γ k W0 (scIn sc scope) (X.blk s H scope (compEnvC scope cl C X.env) fp) where
  prog := g.prog
  w := g.w
  K := g.K
  mg := g.mg
  base := g.base
  N := g.N
  nd := g.nd
  calm := g.calm
  room := g.room
  gd := g.gd
  nm := by
    show (relabel scope X.env).names = relN scope.names sc.nm
    unfold relabel relN PySem.Env.kindOf
    rw [g.fk, g.nm]
    simp
  fk := hk
  st := fun x h => by
    rcases h with h | h
    · exact .inr (lookup_relabel_local (lk_mark (by intro z; cases z) h))
    · have h := lk_mark (l := scope.names) (by intro z; cases z) h
      refine .inl ?_
      show (scope.names.lookup x == some .cell) = true
      rw [show scope.names.lookup x = some .cell from h]
      rfl
  tk := takes0
  po := PassesOwn.never
  lk := fun h => absurd h (by show ¬ (decide (("#" : Str) = ("#L" : Str)) = true); decide)
  tr := fun h => by
    have h : decide (("#" : Str) ≠ ("#" : Str)) = true := h
    simp at h
theorem Ext.wr {H0 H : Hp} {I0 I : Im} {a : Addr} {o : HO} (x : Ext O0 H0 I0 H I) (h : H0 a = none) : Ext O0 H0 I0 (upd H a o) I :=
  ⟨x.gg, x.kk, fun b u q nk no nt => by
    rw [upd_ne (ne_of_none q h)]; exact x.fr b u q nk no nt, fun b q => by
    by_cases e : b = a
    · subst e; rw [upd_same]; simp
    · rw [upd_ne e]; exact x.th b q, x.gn, x.kn, x.mm⟩
theorem ER.wr {Γ : Gam} {n : Nat} {σ : L2.St} {ρ : Env} {H : Hp} {I : Im} {own : Nat → List Addr} (r : ER Γ n σ ρ H I own) {a : Addr} {o : HO} (h : ¬ Ow own a) : ER Γ n σ ρ (upd H a o) I own :=
  ⟨r.len, fun i lv e => let ⟨v, h1, h2⟩ := r.at_ i lv e; ⟨v, h1, h2.ext Im.Le.refl fun b u hb q _ => by
    rw [upd_ne (fun z => h ⟨i, by rw [← z]; exact hb⟩)]; exact q⟩, r.dead, fun i b hb => by
    obtain ⟨h1, h2, h3⟩ := r.free i b hb
    refine ⟨h1, h2, ?_⟩
    by_cases e : b = a
    · subst e; rw [upd_same]; simp
    · rw [upd_ne e]; exact h3, r.disj⟩
theorem ER.slots {Γ : Gam} {n : Nat} {σ σ' : L2.St} {ρ : Env} {H : Hp} {I : Im} {own : Nat → List Addr} (r : ER Γ n σ ρ H I own) (hl : σ'.length = σ.length) (h : ∀ (i : Nat) lv, ρ[i]? = some (some lv) → σ'[i]? = σ[i]?) : ER Γ n σ' ρ H I own :=
  ⟨hl.trans r.len, fun i lv e => let ⟨v, h1, h2⟩ := r.at_ i lv e; ⟨v, by rw [h i lv e]; exact h1, h2⟩, r.dead, r.free, r.disj⟩
theorem forget_notin {ρ : Env} {i : Nat} {lv : LV} : ∀ {is : List Nat}, (forget ρ is)[i]? = some (some lv) → i ∉ is
  | [], _ => by simp
  | j :: is, h => by
    unfold forget at h
    by_cases e : j = i
    · subst e
      by_cases hl : j < (forget ρ is).length
      · rw [List.getElem?_set_self hl] at h; cases h
      · rw [List.getElem?_eq_none (by simpa using hl)] at h; cases h
    · rw [List.getElem?_set_ne e] at h
      have := forget_notin h
      simp only [List.mem_cons, not_or]
      exact ⟨fun z => e z.symm, this⟩
theorem forget_out {ρ : Env} {i : Nat} : ∀ {is : List Nat}, i ∉ is → (forget ρ is)[i]? = ρ[i]?
  | [], _ => rfl
  | j :: is, h => by
    simp only [List.mem_cons, not_or] at h
    unfold forget
    rw [List.getElem?_set_ne (fun z => h.1 z.symm)]
    exact forget_out h.2
theorem forget_in {ρ : Env} {i : Nat} : ∀ {is : List Nat}, i ∈ is → i < ρ.length → (forget ρ is)[i]? = some none
  | [], h, _ => by cases h
  | j :: is, h, hl => by
    unfold forget
    by_cases e : j = i
    · subst e
      exact List.getElem?_set_self (by rw [forget_len]; exact hl)
    · rw [List.getElem?_set_ne e]
      rcases List.mem_cons.mp h with z | z
      · exact absurd z.symm e
      · exact forget_in z hl
theorem forget_same {ρ ρ1 : Env} {is sl : List Nat} (hl : ρ1.length = ρ.length) (h : ∀ j, j ∉ sl → ρ1[j]? = ρ[j]?) (hs : ∀ j, j ∈ sl → j ∈ is) : forget ρ1 is = forget ρ is := by
  apply List.ext_getElem?
  intro i
  by_cases hi : i ∈ is
  · by_cases hb : i < ρ.length
    · rw [forget_in hi hb, forget_in hi (by rw [hl]; exact hb)]
    · rw [List.getElem?_eq_none (by rw [forget_len, hl]; omega), List.getElem?_eq_none (by rw [forget_len]; omega)]
  · rw [forget_out hi, forget_out hi]
    exact h i fun z => hi (hs i z)
theorem wipe_out {σ : L2.St} {i : Nat} : ∀ {vs : List Nat}, i ∉ vs → (wipe σ vs)[i]? = σ[i]?
  | [], _ => rfl
  | j :: is, h => by
    simp only [List.mem_cons, not_or] at h
    unfold wipe
    rw [List.getElem?_set_ne (fun z => h.1 z.symm)]
    exact wipe_out h.2
theorem wipe_in {σ : L2.St} {i : Nat} : ∀ {vs : List Nat}, i ∈ vs → i < σ.length → (wipe σ vs)[i]? = some none
  | [], h, _ => by cases h
  | j :: is, h, hl => by
    unfold wipe
    by_cases e : j = i
    · subst e
      exact List.getElem?_set_self (by rw [wipe_length]; exact hl)
    · rw [List.getElem?_set_ne e]
      rcases List.mem_cons.mp h with z | z
      · exact absurd z.symm e
      · exact wipe_in z hl
theorem wipe_same {σ σ1 : L2.St} {vs sl : List Nat} (hl : σ1.length = σ.length) (h : ∀ j, j ∉ sl → σ1[j]? = σ[j]?) (hs : ∀ j, j ∈ sl → j ∈ vs) : wipe σ1 vs = wipe σ vs := by
  apply List.ext_getElem?
  intro i
  by_cases hi : i ∈ vs
  · by_cases hb : i < σ.length
    · rw [wipe_in hi hb, wipe_in hi (by rw [hl]; exact hb)]
    · rw [List.getElem?_eq_none (by rw [wipe_length, hl]; omega), List.getElem?_eq_none (by rw [wipe_length]; omega)]
  · rw [wipe_out hi, wipe_out hi]
    exact h i fun z => hi (hs i z)
theorem wipe_wipe {σ : L2.St} {vs : List Nat} : wipe (wipe σ vs) vs = wipe σ vs := by
  refine wipe_same (sl := vs) (wipe_length σ vs) (fun j hj => wipe_out hj) fun _ h => h
/-- what is wanted of a comprehension -/
def PostLc (Γ : Gam) (W : WX) (σ : L2.St) (H : Hp) (I : Im) (res : Ev (List D)) (Q : VK) : Prop := match res with
  | .no => False
  | .ok out T' => out.length ≤ lim ∧ ∀ D H' I' vs, Ext O0 H I H' I' → Wf Γ H' I' T' → H D = none → H' D = some (.lst vs) → Reps Γ I' out vs → I'.G D = none → D ∉ I'.κ → Q (.ref D) H'
  | .ex e T' => XW Γ W σ H I e T'
section
variable {Γ : Gam} {n : Nat} {W : WX}
theorem lc_walk {gev : D → Env → Cs → Ev Env} {cev : Env → Cs → Ev Bool} {eev : Env → Cs → Ev D} {sl vs : List Nat} (hs : ∀ j, j ∈ sl → j ∈ vs)
    (hp : ∀ d ρ T ρ1 T1, gev d ρ T = .ok ρ1 T1 → ρ1.length = ρ.length ∧ ∀ j, j ∉ sl → ρ1[j]? = ρ[j]?) {σ σe : L2.St} {H H1 : Hp} {Q : VK} {I I1 : Im} {ρ : Env} {T1 : Cs} {own : Nat → List Addr} {J : It} {ds : List D} (x1 : Ext O0 H I H1 I1) (w1 : Wf Γ H1 I1 T1) (er1 : ER Γ n σ ρ H1 I1 own) (wk : Walk Γ J I1 ds)
    (p : PostLc Γ W σe H I (noX (lcEv gev cev eev (forget ρ vs) ds T1)) Q) :
    ∀ D, H1 D = none → ∃ Wv : Nat → Nat → Hp → Prop, (∃ m, Wv 0 m (upd H1 D (.lst []))) ∧ ∀ i m H, Wv i m H →
      (J.stop i H ∧ Q (.ref D) H) ∨ (J.go i H ∧ ∃ Nx : Hp → Prop, (∀ H', Nx H' → ∃ m', m' < m ∧ Wv (i + 1) m' H') ∧ ∀ x H', J.yld i H x H' → tGt Γ n W0 sl true gev x (wipe σ vs) H' fun σ2 H2 => wipe σ2 vs = wipe σ vs ∧ tT Γ n W0 cev σ2 H2 fun b H3 =>
        if b = true then tD Γ n W0 eev σ2 H3 fun y H4 => ∃ acc, H4 D = some (.lst acc) ∧ acc.length < sizeLine ∧ Nx (upd H4 D (.lst (acc ++ [y]))) else Nx H3) := by
  intro L hL
  cases e1 : lcEv gev cev eev (forget ρ vs) ds T1 with
  | no => rw [e1] at p; exact p.elim
  | ex x T' => rw [e1] at p; exact p.elim
  | ok out T' =>
    rw [e1] at p
    obtain ⟨hlim, fin⟩ := p
    have hL0 : H L = none := by
      cases q : H L with
      | none => rfl
      | some o => exact absurd hL (x1.th L (by rw [q]; simp))
    obtain ⟨own0, er0, ho0⟩ := er1.less (forget_len ρ vs) fun i lv e => forget_some e
    have er0' : ER Γ n (wipe σ vs) (forget ρ vs) H1 I1 own0 := er0.slots (wipe_length σ vs) fun i lv e => wipe_out (forget_notin e)
    have nO : ∀ {own : Nat → List Addr} {σ : L2.St} {ρ : Env} {H : Hp} {I : Im}, ER Γ n σ ρ H I own → H L = none → ¬ Ow own L := fun er h ⟨i, ha⟩ => (er.free i L ha).2.2 h
    refine ⟨fun i m H' => m = ds.length - i ∧ i ≤ ds.length ∧ ∃ I' T2 own' accs vacc rest, Ext O0 H I H' I' ∧ Im.Le I1 I' ∧ Wf Γ H' I' T2 ∧ ER Γ n (wipe σ vs) (forget ρ vs) H' I' own' ∧ H' L = some (.lst vacc) ∧ Reps Γ I' accs vacc ∧ I'.G L = none ∧ L ∉ I'.κ ∧ ¬ Ow own' L ∧
      lcEv gev cev eev (forget ρ vs) (ds.drop i) T2 = .ok rest T' ∧ accs ++ rest = out,
      ⟨ds.length, by simp, Nat.zero_le _, I1, T1, own0, [], [], out, x1.wr hL0, Im.Le.refl, w1.write (w1.gnone hL) (w1.nocell hL) (by rw [hL]; trivial), er0'.wr (nO er0 hL), upd_same, Reps.nil, w1.gnone hL, w1.nocell hL, nO er0 hL, e1, rfl⟩, ?_⟩
    rintro i m H' ⟨rfl, hi, I', T2, own', accs, vacc, rest, x', le', w', er', hH, ra, hG, hK, hO, e2, e3⟩
    by_cases hlt : i < ds.length
    · refine .inr ⟨wk.go H' I' T2 i le' w' hlt, fun H' => ∃ I' T2 own' accs vacc rest, Ext O0 H I H' I' ∧ Im.Le I1 I' ∧ Wf Γ H' I' T2 ∧ ER Γ n (wipe σ vs) (forget ρ vs) H' I' own' ∧ H' L = some (.lst vacc) ∧ Reps Γ I' accs vacc ∧ I'.G L = none ∧ L ∉ I'.κ ∧ ¬ Ow own' L ∧
        lcEv gev cev eev (forget ρ vs) (ds.drop (i + 1)) T2 = .ok rest T' ∧ accs ++ rest = out, fun H' z => ⟨ds.length - (i + 1), by omega, rfl, hlt, z⟩, fun x H2 y => ?_⟩
      have hd : ds.drop i = ds[i] :: ds.drop (i + 1) := List.drop_eq_getElem_cons hlt
      rw [hd] at e2
      have e2' : ((gev ds[i] (forget ρ vs) T2).bind fun ρ1 T1 => (cev ρ1 T1).bind fun b T2 => if b then (eev ρ1 T2).bind fun x T3 => (lcEv gev cev eev (forget ρ vs) (ds.drop (i + 1)) T3).bind fun r T4 => .ok (x :: r) T4 else lcEv gev cev eev (forget ρ vs) (ds.drop (i + 1)) T2) = .ok rest T' := e2
      obtain ⟨ρ1, T3, g1, e2'⟩ := Ev.bind_ok e2'
      obtain ⟨b, T4, c1, e2'⟩ := Ev.bind_ok e2'
      obtain ⟨I2, xa, wa, rx⟩ := wk.yld H' I' T2 i ds[i] x H2 le' w' (by simp [hlt]) y
      obtain ⟨hp1, hp2⟩ := hp _ _ _ _ _ g1
      obtain ⟨aG, aK, _⟩ := xa.apart hG hK (by rw [hH]; simp) fun z => z
      have aH : H2 L = some (.lst vacc) := xa.fr L _ hH hK (fun z => z) trivial
      refine ⟨I2, forget ρ vs, T2, own', ds[i], wa, er'.ext xa, rx, ?_⟩
      rw [g1]
      intro σ3 H3 I3 own3 af ch xo
      have hw : wipe σ3 vs = wipe σ vs := by
        rw [wipe_same ch.len ch.at_ hs, wipe_wipe]
      have hf : forget ρ1 vs = forget ρ vs := by
        rw [forget_same hp1 hp2 hs]
        apply List.ext_getElem?
        intro j
        by_cases hj : j ∈ vs
        · by_cases hb : j < ρ.length
          · rw [forget_in hj (by rw [forget_len]; exact hb), forget_in hj hb]
          · rw [List.getElem?_eq_none (by rw [forget_len, forget_len]; omega), List.getElem?_eq_none (by rw [forget_len]; omega)]
        · rw [forget_out hj]
      refine ⟨hw, ?_⟩
      have xb : Ext O0 H2 I2 H3 I3 := xo rfl
      have bH : H3 L = some (.lst vacc) := xb.fr L _ aH aK (fun z => z) trivial
      obtain ⟨bG, bK, _⟩ := xb.apart aG aK (by rw [aH]; simp) fun z => z
      have bO : ¬ Ow own3 L := fun z => by
        rcases af.ow L z with q | q
        · exact hO q
        · rw [aH] at q; cases q
      obtain ⟨own4, er4, ho4⟩ := af.er.less (forget_len ρ1 vs) fun i lv e => forget_some e
      rw [hf] at er4
      have er4' : ER Γ n (wipe σ vs) (forget ρ vs) H3 I3 own4 := by
        rw [← hw]
        exact er4.slots (wipe_length σ3 vs) fun i lv e => wipe_out (forget_notin e)
      have nO4 : ¬ Ow own4 L := fun z => bO (ho4 L z)
      have x3 : Ext O0 H I H3 I3 := (x'.tr0 xa).tr0 xb
      have le3 : Im.Le I1 I3 := (le'.trans xa.le).trans xb.le
      have ra3 : Reps Γ I3 accs vacc := ra.mono (xa.le.trans xb.le)
      refine ⟨I3, ρ1, T3, own3, af.wf, af.er, ?_⟩
      rw [c1]
      intro bb H4 I4 xc wc eb
      have eb : bb = b := eb
      subst eb
      have cH : H4 L = some (.lst vacc) := xc.fr L _ bH bK (fun z => z) trivial
      obtain ⟨cG, cK, _⟩ := xc.apart bG bK (by rw [bH]; simp) fun z => z
      cases bb with
      | false =>
        rw [if_neg Bool.false_ne_true]
        rw [if_neg Bool.false_ne_true] at e2'
        exact ⟨I4, T4, own4, accs, vacc, rest, x3.tr0 xc, le3.trans xc.le, wc, er4'.ext xc, cH, ra3.mono xc.le, cG, cK, nO4, e2', e3⟩
      | true =>
        rw [if_pos rfl]
        rw [if_pos rfl] at e2'
        obtain ⟨xv, T5, f1, e2'⟩ := Ev.bind_ok e2'
        obtain ⟨r', T6, f2, e2'⟩ := Ev.bind_ok e2'
        cases e2'
        refine ⟨I4, ρ1, T4, own3, wc, af.er.ext xc, ?_⟩
        rw [f1]
        intro yv H5 I5 xd wd rd
        have rd : Rep Γ I5 xv yv := rd
        have dH : H5 L = some (.lst vacc) := xd.fr L _ cH cK (fun z => z) trivial
        obtain ⟨dG, dK, _⟩ := xd.apart cG cK (by rw [cH]; simp) fun z => z
        have ra5 : Reps Γ I5 accs vacc := ra3.mono (xc.le.trans xd.le)
        have er5 := (er4'.ext xc).ext xd
        refine ⟨vacc, dH, ?_, I5, T5, own4, accs ++ [xv], vacc ++ [yv], r', ((x3.tr0 xc).tr0 xd).wr hL0, (le3.trans xc.le).trans xd.le, wd.write dG dK (by rw [dH]; trivial), er5.wr nO4, upd_same, ra5.append (Reps.cons rd Reps.nil), dG, dK, nO4, f2, by rw [List.append_assoc]; exact e3⟩
        rw [ra5.length]
        refine Nat.lt_of_lt_of_le ?_ lim_le
        have : out.length = accs.length + (r'.length + 1) := by rw [← e3, List.length_append, List.length_cons]
        omega
    · have e : i = ds.length := by omega
      subst e
      rw [List.drop_length] at e2
      cases e2
      rw [List.append_nil] at e3
      subst e3
      exact .inl ⟨wk.stop H' I' _ _ le' w' (Nat.le_refl _), fin L H' I' vacc x' w' hL0 hH ra hG hK⟩
theorem lc_main {iev : Env → Cs → Ev (List D)} {gev : D → Env → Cs → Ev Env} {cev : Env → Cs → Ev Bool} {eev : Env → Cs → Ev D} {sl vs : List Nat} (hs : ∀ j, j ∈ sl → j ∈ vs)
    (hp : ∀ d ρ T ρ1 T1, gev d ρ T = .ok ρ1 T1 → ρ1.length = ρ.length ∧ ∀ j, j ∉ sl → ρ1[j]? = ρ[j]?) {σ : L2.St} {H : Hp} {Q : VK} {I : Im} {ρ : Env} {T : Cs} {own : Nat → List Addr} (w : Wf Γ H I T) (er : ER Γ n σ ρ H I own)
    (p : PostLc Γ W σ H I ((iev ρ T).bind fun ds T1 => noX (lcEv gev cev eev (forget ρ vs) ds T1)) Q) :
    tLc (tW Γ n W iev) (tGt Γ n W0 sl true gev) (tT Γ n W0 cev) (tD Γ n W0 eev) vs σ H Q := by
  refine ⟨I, ρ, T, own, w, er, ?_⟩
  cases e0 : iev ρ T with
  | no => rw [e0] at p; exact p.elim
  | ex x T' => rw [e0] at p; exact p
  | ok ds T1 =>
    rw [e0] at p
    intro J H1 I1 x1 w1 wk
    exact lc_walk hs hp x1 w1 (er.ext x1) wk p
/-- the list, new, is ours -/
theorem Post.lc {σ : L2.St} {H : Hp} {I : Im} {own : Nat → List Addr} {res : Ev (List D)} {Q : VK} (p : Post Γ (RepR Γ n own) W σ H I (res.bind fun out T1 => Ev.opt (if out.length ≤ lim then some (rL out) else none) T1) Q) : PostLc Γ W σ H I res Q := by
  cases res with
  | no => exact p
  | ex e T => exact p
  | ok out T' =>
    have p : Post Γ (RepR Γ n own) W σ H I (Ev.opt (if out.length ≤ lim then some (rL out) else none) T') Q := p
    obtain ⟨r, e, k⟩ := Post.opt p
    split at e
    · rename_i hl
      cases e
      exact ⟨hl, fun D H' I' vs x w hn hH r hG hK => k _ H' I' x w ⟨[D], ⟨D, vs, rfl, rfl, hH, r⟩, fun a ha => by
        have : a = D := by simpa using ha
        subst this
        exact ⟨hG, hK, by rw [hH]; simp, hn⟩⟩⟩
    · cases e
end
def evLc (t : CG) (i : CI) (c : Option CT) (e : CE) (own : List (Str × Nat)) : Env → Cs → Ev R := fun ρ T => ((i.ev ρ T).bind fun ds T1 => noX (lcEv t.ev (evC c) (evD e.ev) (forget ρ (own.map (·.2))) ds T1)).bind fun out T2 => Ev.opt (if out.length ≤ lim then some (rL out) else none) T2
def chkLc (t : CG) (i : CI) (c : Option CT) (e : CE) (own : List (Str × Nat)) (k : Nat) (sc : Sc) (x : Expr) : Bool := match x with
  | .ListComp elt [⟨tg, iter, ifs, 0⟩] scope _ => blkC sc.N { kind := .function, names := sc.nm, isGenerator := false, isCoroutine := false } scope own && (t.pure && (!t.z && (!e.z && (t.sl.all (fun j => decide (j ∈ own.map (·.2))) && (i.chk k sc tg iter && (t.chk k (scIn sc scope) tg && (chkC c k (scIn sc scope) ifs && e.chk k (scIn sc scope) elt)))))))
  | _ => false
theorem lc_parts {t : CG} {i : CI} {c : Option CT} {e : CE} {own : List (Str × Nat)} {Γ : Gam} {k : Nat} {W : WX} {sc : Sc} {X : Cx} {elt tg iter : Expr} {ifs : List Expr} {scope : Scope} {pos : Pos} {n : Nat} (g : Good Γ k W sc X) (nd : t.need Γ ∧ i.need Γ ∧ needC c Γ ∧ e.need Γ) (h : chkLc t i c e own k sc (.ListComp elt [⟨tg, iter, ifs, 0⟩] scope pos) = true) (hz : i.z = true → n = X.s_0.heap.objs.size) :
    PI X tg iter (tW Γ n W i.ev) ∧ BlkOk X.N X.env.scope scope own ∧ (∀ s H C cl fp, PG (X.blk s H scope (compEnvC scope cl C X.env) fp) tg (tGt Γ n W0 t.sl true t.ev)) ∧ (∀ s H C cl fp, PTs (X.blk s H scope (compEnvC scope cl C X.env) fp) ifs (tT Γ n W0 (evC c))) ∧
    (∀ s H C cl fp, PE (X.blk s H scope (compEnvC scope cl C X.env) fp) elt (tD Γ n W0 (evD e.ev))) ∧ (∀ x, foldedSetIterable iter X.env x = pure x) ∧ (∀ j, j ∈ t.sl → j ∈ own.map (·.2)) ∧ ∀ d ρ T ρ1 T1, t.ev d ρ T = .ok ρ1 T1 → ρ1.length = ρ.length ∧ ∀ j, j ∉ t.sl → ρ1[j]? = ρ[j]? := by
  obtain ⟨h1, h⟩ := b2 h
  obtain ⟨h2, h⟩ := b2 h
  obtain ⟨h3, h⟩ := b2 h
  obtain ⟨h4, h⟩ := b2 h
  obtain ⟨h5, h⟩ := b2 h
  obtain ⟨h6, h⟩ := b2 h
  obtain ⟨h7, h⟩ := b2 h
  obtain ⟨h8, h9⟩ := b2 h
  have bo := blkOk_by h1
  have bo' : BlkOk X.N X.env.scope scope own := ⟨bo.kind, bo.uniq, by rw [g.N]; exact bo.ix, fun y hy e => by rw [g.nm]; exact bo.free y hy e, by rw [g.N]; exact bo.own⟩
  refine ⟨i.ok g nd.2.1 h6 hz, bo', fun s H C cl fp => ?_, fun s H C cl fp => ?_, fun s H C cl fp => ?_, i.fs h6, fun j hj => of_decide_eq_true (List.all_eq_true.mp h5 j hj), t.hp h2⟩
  · have := t.pg (n := n) (goodIn g bo.kind s H C cl fp) nd.1 h7 (fun z => by rw [z] at h3; cases h3)
    rw [h2] at this
    exact this
  · exact evC_ok (goodIn g bo.kind s H C cl fp) nd.2.2.1 h8
  · refine PE.mono (e.ok (n := n) (goodIn g bo.kind s H C cl fp) nd.2.2.2 h9 fun z => by rw [z] at h4; cases h4) fun σ H Q q => tD_of σ H Q q
/-- [e for t in i if c] -/
def cLc (t : CG) (i : CI) (c : Option CT) (e : CE) (own : List (Str × Nat)) : CE where
  ev := evLc t i c e own
  chk := fun k sc x => chkLc t i c e own k sc x
  need := fun Γ => t.need Γ ∧ i.need Γ ∧ needC c Γ ∧ e.need Γ
  z := i.z
  ok := by
    intro Γ k W sc X x n g nd h hz
    have h0 := h
    unfold chkLc at h0
    split at h0
    · obtain ⟨q1, q2, q3, q4, q5, q6, q7, q8⟩ := lc_parts g nd h hz
      refine PE.mono (pe_lc g.calm g.nd q1 q2 q3 q4 q5 q6) fun σ H Q q => ?_
      obtain ⟨I, ρ, T, own', w, er, p⟩ := q
      exact lc_main q7 q8 w er p.lc
    · cases h0
/-- x = [..], the store done within -/
def sAsgLc (j : Nat) (keep : Bool) (t : CG) (i : CI) (c : Option CT) (e : CE) (own : List (Str × Nat)) : C1 where
  ev := fun ρ T => (evLc t i c e own ρ T).bind fun r T1 => match asLV keep r with
    | some lv => if j < ρ.length then .ok (.nx (ρ.set j (some lv))) T1 else .no
    | none => .no
  chk := fun k sc st => match st with
    | .Assign [.Name x px] (.ListComp elt gs scope p) _ => slotIs sc.N j x && (decide (sc.nm.lookup x = some .local) && ((px.line == p.line) && (!(scope.names.any fun (n, k) => n == x && (k == .local || k == .cell)) && chkLc t i c e own k sc (.ListComp elt gs scope p))))
    | _ => false
  need := fun Γ => t.need Γ ∧ i.need Γ ∧ needC c Γ ∧ e.need Γ
  ok := by
    intro Γ k W sc X st g nd h
    split at h
    · rename_i x px elt gs scope p pos
      obtain ⟨h1, h⟩ := b2 h
      obtain ⟨h2, h⟩ := b2 h
      obtain ⟨h3, h⟩ := b2 h
      obtain ⟨h4, h⟩ := b2 h
      have h0 := h
      unfold chkLc at h0
      split at h0
      · rename_i hh
        cases hh
        obtain ⟨q1, q2, q3, q4, q5, q6, q7, q8⟩ := lc_parts (n := X.s_0.heap.objs.size) g nd h fun _ => rfl
        have hl : X.env.scope.names.lookup x = some .local := by rw [g.nm]; exact of_decide_eq_true h2
        refine PS.mono (ps_setLc (i := j) g.calm g.nd (by rw [g.N]; exact slotIs_ok h1) hl (sw_true g.fk hl h3 (notT h4)) q1 q2 q3 q4 q5 q6) fun D σ H q => ?_
        obtain ⟨I, ρ, T, own', w, er, p⟩ := q
        refine lc_main q7 q8 w er (Post.lc (n := X.s_0.heap.objs.size) (own := own') ?_)
        refine (PostS.step (rel := RepR Γ X.s_0.heap.objs.size own') (show PostS Γ X.s_0.heap.objs.size W D (Ow own') H I ((evLc t i c e own ρ T).bind _) from p) Ext.refl).imp fun v H1 q1 => ?_
        obtain ⟨r, T1, I1, _, x1, w1, r1, p1⟩ := q1
        split at p1
        · rename_i lv e1
          split at p1
          · rename_i hi
            obtain ⟨I2, as, x2, w2, _, l2, f2⟩ := asLV_ok x1 w1 e1 r1
            obtain ⟨own', af⟩ := store_aft er hi x2 w2 l2 f2
            exact p1 _ _ _ _ af
          · exact p1.elim
        · exact p1.elim
      · cases h0
    · cases h
end Tp
end
section
set_option Elab.async false
set_option linter.all false
set_option maxRecDepth 100000
set_option maxHeartbeats 2000000
/-! TpO: defs, their calls. -/
namespace Tp
open PySem PySem.Spec PyProof.Rows L2

/-- a def keeps the promise sp, called where no list's text is under way -/
structure FnG (Γ : Gam) (k : Nat) (f : Addr) (fd : FuncData) (ps : List Str) (sp : Sp) : Prop where
  len : ∀ vs H Q E, sp vs H Q E → vs.length = ps.length
  run : ∀ (A : Around) (outer : List PySem.Env) (s : Shared) (H : Hp) (args : Args) (us : List Value) (vs : List V) (Q : VK) (E : XK), GdX Γ A → Room k A → Env0 Γ.P Γ.w Γ.K Γ.mg Γ.base A outer s H → BindsTo s fd args (ps.zip us) → Vals vs us →
    sp vs H Q E → codeAny (model Γ.P Γ.w) A (.call (.ref f) args) (CR (L2.CX Γ.P Γ.w) outer Γ.P Γ.w H s Q E) s
theorem FnG.mono {Γ : Gam} {j k : Nat} {f : Addr} {fd : FuncData} {ps : List Str} {sp : Sp} (F : FnG Γ j f fd ps sp) (h : j ≤ k) : FnG Γ k f fd ps sp :=
  ⟨F.len, fun A o s H args us vs Q E g r => F.run A o s H args us vs Q E g (r.mono h)⟩
section
variable {Γ : Gam} {k : Nat} {f : Addr} {name qual : Str} {params : Arguments} {body : List Stmt} {scope : Scope} {dV kV doc pm cdv ct oc : Value} {an od : Option Addr} {osl : Array (Option Value)} {N ps : List Str} {sp : Sp}
theorem FnG.of (lk : Γ.K.lookup f = some ⟨oc, od, .func (PySem.W.fnOf name qual params body scope dV kV doc pm an cdv ct), osl⟩) (hcd : PySem.W.codeIn Γ.K cdv qual = true) (S : FnScope N ps scope) (len : ∀ vs H Q E, sp vs H Q E → vs.length = ps.length)
    (hb : ∀ (A : Around) (outer : List PySem.Env) (s : Shared) (H : Hp) (vs : List V) (Q : VK) (E : XK), GdX Γ A → Room k (A.deeper (envOfC qual scope s.heap.objs.size f cdv)) → sp vs H Q E →
      ∃ t, PSs (cxOf (L2.CX Γ.P Γ.w) Γ.P Γ.w Γ.K Γ.mg Γ.base N qual scope f cdv A outer s H E) body t ∧ t { nx := fun _ H' => Q .non H', rt := Q } (L2.start N vs) H) :
    FnG Γ (k + 1) f (PySem.W.fnOf name qual params body scope dV kV doc pm an cdv ct) ps sp where
  len := len
  run := by
    intro A outer s H args us vs Q E hgd room e0 bnd rel hsp
    have KIn : Γ.K.In s.heap := e0.mod.kin.keeps fun b o e => (e0.bs b o e).1
    have noLim : s.heap.NoLimit := e0.mod.nolimit.keeps fun b o e => (e0.bs b o e).1
    have kinds : ∀ y ∈ ps.zip us, scope.names.lookup y.1 = some .local ∨ (scope.names.lookup y.1 = some .cell ∧ ((cellsFrom (s.heap.objs.size + 1) scope.names []).lookup y.1).isSome = true) := by
      rintro ⟨n, v⟩ hy
      exact (S.par n (List.of_mem_zip hy).1).imp id fun q => ⟨q, PySem.W.cellsFrom_some _ _ _ (.inl q)⟩
    refine codeAny_call_function room.depth (KIn _ _ lk) rfl S.co S.gen rfl (PySem.W.codeRec_of KIn hcd) (bnd _ _ _ _ (wpAny_newFunctionEnv_cells S.kind kinds ?_))
    rintro env rfl s1 x
    refine ⟨noLim.keeps x.toInCall.keep, codeAny_func ?_⟩
    obtain ⟨t, ht, hq⟩ := hb A outer s H vs Q E hgd (room.deeper _) hsp
    refine wpAny_mono (ht.run [] s1 (L2.start N vs) H _ (inv_start S room.hd e0 (len _ _ _ _ hsp) rel x) hq) ?_ fun _ _ z => z
    rintro fl s' hs
    cases fl with
    | next => exact let ⟨_, H', J, q⟩ := hs; ⟨V.non, H', J.os, J.bare, J.base, J.hok, rfl, q⟩
    | ret u => exact let ⟨v, _, H', J, rv, q⟩ := hs; ⟨v, H', J.os, J.bare, J.base, J.hok, rv, q⟩
    | brk => exact let ⟨_, _, _, q⟩ := hs; q.elim
    | cont => exact let ⟨_, _, _, q⟩ := hs; q.elim
end
/-- called from a body -/
theorem FnG.called {Γ : Gam} {k : Nat} {W : WX} {sc : Sc} {X : Cx} (g : Good Γ k W sc X) {j : Nat} (hj : j ≤ k) {f : Addr} {fd : FuncData} {ps : List Str} {sp : Sp} (F : FnG Γ j f fd ps sp) {pins : List (Addr × Obj)} {σ : L2.St} {H : Hp} {s : Shared} {Q : VK}
    {args : Args} {us : List Value} {vs : List V} (I : L2.Inv X pins σ H s) (r : Vals vs us) (b : BindsTo s fd args (ps.zip us)) (h : sp vs H Q (WE W σ)) : wpAny (model X.prog X.w) X.A (call (.ref f) args.pos args.kw) (EP X pins σ Q) X.xe s := by
  have e0 : Env0 Γ.P Γ.w Γ.K Γ.mg Γ.base X.A X.stack s H := by
    have := I.env0
    rw [g.prog, g.w, g.K, g.mg, g.base] at this
    exact this
  have hrun := F.run X.A X.stack s H args us vs Q (WE W σ) g.gd (g.room.mono hj) e0 b r h
  rw [← g.prog, ← g.w] at hrun
  refine wpAny_call (codeAny_mono hrun ?_)
  rintro r s' hq
  match r, hq with
  | .error e, hq => exact passAt g.tk σ pins H s e s' I hq
  | .ok (.ret u), hq => exact I.after hq
  | .ok .next, hq => exact hq.elim
  | .ok .brk, hq => exact hq.elim
  | .ok .cont, hq => exact hq.elim

/-! ### what a def answers, by data -/
abbrev FEv := List D → Cs → Ev LV
def PostF (Γ : Gam) (H : Hp) (I : Im) (res : Ev LV) (Q : VK) (E : XK) : Prop := match res with
  | .no => False
  | .ok lv T' => ∀ v H' I' as, Ext O0 H I H' I' → Wf Γ H' I' T' → RepL Γ 0 I' H' lv v as → (∀ a, a ∈ as → I'.G a = none ∧ a ∉ I'.κ ∧ H' a ≠ none ∧ H a = none) → Q v H'
  | .ex e T' => ∀ cls d H' I', Ext O0 H I H' I' → Wf Γ H' I' T' → RepX Γ I' e cls d → E cls d H'
def spD (Γ : Gam) (m : Nat) (ev : FEv) : Sp := fun vs H Q E => ∃ I T ds, Wf Γ H I T ∧ Reps Γ I ds vs ∧ ds.length = m ∧ PostF Γ H I (ev ds T) Q E
/-- a body as a def: m parameters, N names -/
def defEv (m N : Nat) (b : Env → Cs → Ev Fl) : FEv := fun ds T => if ds.length = m then (b (ds.map (fun d => some (.sh d)) ++ List.replicate (N - m) none) T).bind fun f T1 => match f with
  | .rt (.sh d) => .ok (.sh d) T1
  | .rt (.ow xs) => .ok (.ow xs) T1
  | .rt (.od xs) => .ok (.od xs) T1
  | .nx _ => .ok (.sh .non) T1
  | _ => .no else .no
theorem Reps.at {Γ : Gam} {I : Im} {ds : List D} {vs : List V} (r : Reps Γ I ds vs) {i : Nat} {d : D} (h : ds[i]? = some d) : ∃ v, vs[i]? = some v ∧ Rep Γ I d v := r.get h
theorem er_start {Γ : Gam} {n : Nat} {N : List Str} {H : Hp} {I : Im} {ds : List D} {vs : List V} (r : Reps Γ I ds vs) : ER Γ n (L2.start N vs) (ds.map (fun d => some (.sh d)) ++ List.replicate (N.length - ds.length) none) H I (fun _ => []) where
  len := by
    unfold L2.start
    rw [List.length_append, List.length_append, List.length_map, List.length_map, List.length_replicate, List.length_replicate, r.length]
  at_ := fun i lv h => by
    by_cases hi : i < ds.length
    · rw [List.getElem?_append_left (by simpa using hi), List.getElem?_map] at h
      have e : ds[i]? = some ds[i] := by simp [hi]
      rw [e] at h
      cases h
      obtain ⟨v, h1, h2⟩ := r.get e
      refine ⟨v, ?_, rfl, h2⟩
      unfold L2.start
      rw [List.getElem?_append_left (by simpa [r.length] using hi), List.getElem?_map, h1]
      rfl
    · rw [List.getElem?_append_right (by simpa using hi), List.getElem?_replicate] at h
      split at h <;> cases h
  dead := fun _ _ => rfl
  free := fun _ _ h => by cases h
  disj := fun _ _ _ h => by cases h
def anyN : LV → Prop
  | .zp _ _ => False
  | .lm _ => False
  | .lms _ => False
  | _ => True
theorem RepL.any {Γ : Gam} {n m : Nat} {I : Im} {H : Hp} {lv : LV} {v : V} {as : List Addr} (hz : anyN lv) (h : RepL Γ n I H lv v as) : RepL Γ m I H lv v as := by
  cases lv with
  | sh d => exact h
  | ow xs => exact h
  | od xs => exact h
  | oo c xs => exact h
  | zp xs ys => exact hz.elim
  | lm k => exact hz.elim
  | lms k => exact hz.elim
theorem goodDef {Γ : Gam} {k : Nat} {qual : Str} {scope : Scope} {N : List Str} {f : Addr} {cdv : Value} {A : Around} {outer : List PySem.Env} {s : Shared} {H : Hp} {E : XK} (hk : scope.kind = .function) (nd : N.Nodup) (hg : GdX Γ A) (hr : Room k (A.deeper (envOfC qual scope s.heap.objs.size f cdv))) (hm : isMk ⟨N, scope.names, scope.names⟩ = false) :
    Good Γ k (fun cls d _ H => E cls d H) ⟨N, scope.names, scope.names⟩ (cxOf (L2.CX Γ.P Γ.w) Γ.P Γ.w Γ.K Γ.mg Γ.base N qual scope f cdv A outer s H E) where
  prog := rfl
  w := rfl
  K := rfl
  mg := rfl
  base := rfl
  N := rfl
  nd := nd
  calm := rfl
  room := hr
  gd := hg
  nm := rfl
  fk := hk
  st := fun _ _ => .inl rfl
  tk := takes_of rfl rfl rfl rfl
  po := passes_of rfl
  tr := fun _ => ⟨rfl, rfl⟩
  lk := fun h => by rw [hm] at h; cases h
/-- the def's facts that callers want -/
structure DefSig where
  nm : Str
  qual : Str
  params : Arguments
  body : List Stmt
  scope : Scope
  N : List Str
  ps : List Str
  dfl : List D
  lv : Nat
def constV : D → V
  | .bl b => .bl b
  | .int i => .int i
  | .str s => .str s
  | _ => .non
def isConst : D → Bool
  | .non => true
  | .bl _ => true
  | .int _ => true
  | .str _ => true
  | _ => false
theorem constV_ok {Γ : Gam} {I : Im} {d : D} (h : isConst d = true) : Rep Γ I d (constV d) := by
  cases d <;> first | exact .ofNon | exact .ofBl | exact .ofInt | exact .ofStr | cases h
structure FnIs (Γ : Gam) (s : DefSig) (ev : FEv) (f : Addr) : Prop where
  kp : PySem.W.keepIn Γ.K (.ref f) = true
  fn : ∃ fd, FunD Γ.K s.nm s.qual s.params s.body s.scope (s.dfl.map constV) [] f fd ∧ FnG Γ s.lv f fd s.ps (spD Γ s.ps.length ev)
/-- names, scope of a def -/
def sigOk0 (s : DefSig) : Bool := (match s.scope.kind with
    | .function => true
    | _ => false) && (!s.scope.isCoroutine && (!s.scope.isGenerator && (decide s.N.Nodup && (decide (s.N.take s.ps.length = s.ps) && (s.ps.all (fun x => decide (s.scope.names.lookup x = some .local) || decide (s.scope.names.lookup x = some .cell)) && s.scope.names.all fun y => !(y.2 == .free))))))
theorem sigOk0_ok {s : DefSig} (h : sigOk0 s = true) : FnScope s.N s.ps s.scope := by
  obtain ⟨h1, h⟩ := b2 h
  obtain ⟨h2, h⟩ := b2 h
  obtain ⟨h3, h⟩ := b2 h
  obtain ⟨h4, h⟩ := b2 h
  obtain ⟨h5, h⟩ := b2 h
  obtain ⟨h6, h7⟩ := b2 h
  refine ⟨?_, notT h2, notT h3, of_decide_eq_true h4, of_decide_eq_true h5, fun x hx => ?_, fun y hy e => ?_⟩
  · split at h1
    · assumption
    · cases h1
  · rcases Bool.or_eq_true_iff.mp (List.all_eq_true.mp h6 x hx) with q | q
    · exact .inl (of_decide_eq_true q)
    · exact .inr (of_decide_eq_true q)
  · have := List.all_eq_true.mp h7 y hy
    rw [e] at this
    cases this
def sigOk (s : DefSig) : Bool := !isMk ⟨s.N, s.scope.names, s.scope.names⟩ && sigOk0 s
theorem sigOk_no {s : DefSig} (h : sigOk s = true) : isMk ⟨s.N, s.scope.names, s.scope.names⟩ = false := notT (b2 h).1
theorem sigOk_ok {s : DefSig} (h : sigOk s = true) : FnScope s.N s.ps s.scope := sigOk0_ok (b2 h).2
theorem FnIs.of {Γ : Gam} {s : DefSig} {f : Addr} {k : Nat} (hlv : s.lv = k + 1) (hs : sigOk s = true) (F : ∃ fd, FunD Γ.K s.nm s.qual s.params s.body s.scope (s.dfl.map constV) [] f fd) (b : CS) (nd : b.need Γ) (h : b.chk k ⟨s.N, s.scope.names, s.scope.names⟩ s.body = true) :
    FnIs Γ s (defEv s.ps.length s.N.length b.ev) f := by
  obtain ⟨fd, F⟩ := F
  have S := sigOk_ok hs
  refine ⟨F.kp, fd, F, ?_⟩
  obtain ⟨oc, od, dV, kV, doc, pm, an, cdv, ct, osl, rfl, lk, hcd, _, _⟩ := F.ex
  rw [hlv]
  refine FnG.of lk hcd S (fun vs H Q E ⟨I, T, ds, w, r, hl, _⟩ => by rw [r.length, hl]) fun A outer sh H vs Q E hg hr ⟨I, T, ds, w, r, hl, p⟩ => ?_
  refine ⟨_, b.ok (goodDef S.kind S.nd hg hr (sigOk_no hs)) nd h, ?_⟩
  refine ⟨I, ds.map (fun d => some (.sh d)) ++ List.replicate (s.N.length - ds.length) none, T, fun _ => [], w, er_start r, ?_⟩
  unfold defEv at p
  rw [if_pos hl] at p
  rw [hl]
  show PostS Γ _ _ _ (Ow fun _ => []) H I (b.ev _ T)
  cases e : b.ev (ds.map (fun d => some (.sh d)) ++ List.replicate (s.N.length - s.ps.length) none) T with
  | no => rw [e] at p; exact p
  | ex x T' => rw [e] at p; exact fun cls d σ' H' I' x w r => p cls d H' I' (x.mono fun a ⟨i, h⟩ => by cases h) w r
  | ok f T1 =>
    rw [e] at p
    have noO : ∀ a, Ow (fun _ => []) a → O0 a := fun a ⟨i, h⟩ => by cases h
    cases f with
    | nx ρ' =>
      intro σ' H' I' own' af
      exact p .non H' I' [] (af.ext.mono noO) af.wf ⟨rfl, .ofNon⟩ (by simp)
    | bk ρ' => exact p.elim
    | ct ρ' => exact p.elim
    | rt lv =>
      intro v H' I' as x w r q
      have key : ∀ lv', lv = lv' → anyN lv' → PostF Γ H I (.ok lv' T1) Q E → Q v H' := fun lv' e hz p => by
        subst e
        refine p v H' I' as (x.mono noO) w (r.any hz) fun a ha => ?_
        obtain ⟨q1, q2, q3, q4⟩ := q a ha
        exact ⟨q1, q2, q3, q4.elim (fun z => (noO a z).elim) id⟩
      cases lv with
      | sh d => exact key _ rfl trivial p
      | ow xs => exact key _ rfl trivial p
      | od xs => exact key _ rfl trivial p
      | oo c xs => exact p.elim
      | zp xs ys => exact p.elim
      | lm k => exact p.elim
      | lms k => exact p.elim
end Tp
end
section
set_option Elab.async false
set_option linter.all false
set_option maxRecDepth 100000
set_option maxHeartbeats 2000000
/-! TpP: calls of defs. -/
namespace Tp
open PySem PySem.Spec PyProof.Rows L2

/-- where a parameter's value comes from: the i-th written one, the i-th default -/
inductive Src where
  | a (i : Nat)
  | d (i : Nat)
  deriving DecidableEq
def sel {α : Type} (z : α) (vals dfl : List α) (srcs : List Src) : List α := srcs.map fun s => match s with
  | .a i => vals.getD i z
  | .d i => dfl.getD i z
/-- how the written values, n positional and those named ks, come to the parameters -/
structure BindOk (s : DefSig) (n : Nat) (ks : List Str) (srcs : List Src) : Prop where
  len : srcs.length = s.ps.length
  cs : s.dfl.all isConst = true
  b0 : s.dfl = [] → ∀ (kV doc pm : Value) (an : Option Addr) (cdv ct : Value) (us ws : List Value), us.length = n → ws.length = ks.length →
    bindArgs (PySem.W.fnOf s.nm s.qual s.params s.body s.scope .none kV doc pm an cdv ct) ⟨us, ks.zip ws⟩ = pure (s.ps.zip (sel .none (us ++ ws) [] srcs))
  b1 : s.dfl ≠ [] → ∀ (T : Addr) (kV doc pm : Value) (an : Option Addr) (cdv ct : Value) (us ws its : List Value), us.length = n → ws.length = ks.length → its.length = s.dfl.length →
    ∃ k, bindArgs (PySem.W.fnOf s.nm s.qual s.params s.body s.scope (.ref T) kV doc pm an cdv ct) ⟨us, ks.zip ws⟩ = seqItems? (.ref T) >>= k ∧ k (some its.toArray) = pure (s.ps.zip (sel .none (us ++ ws) its srcs))
theorem Vals.getD {vs : List V} {us : List Value} (r : Vals vs us) (i : Nat) : RelV (vs.getD i .non) (us.getD i .none) := by
  rw [List.getD_eq_getElem?_getD, List.getD_eq_getElem?_getD]
  cases e : vs[i]? with
  | none => rw [r.none_of e]; exact rfl
  | some v =>
    obtain ⟨u, h1, h2⟩ := r.get e
    rw [h1]; exact h2
theorem Vals.sel {vs dv : List V} {us du : List Value} (r : Vals vs us) (q : Vals dv du) : ∀ srcs : List Src, Vals (sel .non vs dv srcs) (sel .none us du srcs)
  | [] => .nil
  | .a i :: l => .cons (Tp.Vals.getD r i) (Vals.sel r q l)
  | .d i :: l => .cons (Tp.Vals.getD q i) (Vals.sel r q l)
theorem Reps.getD {Γ : Gam} {I : Im} {ds : List D} {vs : List V} (r : Reps Γ I ds vs) (i : Nat) : Rep Γ I (ds.getD i .non) (vs.getD i .non) := by
  rw [List.getD_eq_getElem?_getD, List.getD_eq_getElem?_getD]
  cases e : ds[i]? with
  | none =>
    rw [show vs[i]? = none from List.getElem?_eq_none (by rw [r.length]; exact List.getElem?_eq_none_iff.mp e)]
    exact .ofNon
  | some d =>
    obtain ⟨v, h1, h2⟩ := r.get e
    rw [h1]; exact h2
theorem Reps.sel {Γ : Gam} {I : Im} {ds es : List D} {vs us : List V} (r : Reps Γ I ds vs) (q : Reps Γ I es us) : ∀ srcs : List Src, Reps Γ I (sel .non ds es srcs) (sel .non vs us srcs)
  | [] => Reps.nil
  | .a i :: l => Reps.cons (r.getD i) (Reps.sel r q l)
  | .d i :: l => Reps.cons (q.getD i) (Reps.sel r q l)
theorem Reps.consts {Γ : Gam} {I : Im} : ∀ {ds : List D}, ds.all isConst = true → Reps Γ I ds (ds.map constV)
  | [], _ => Reps.nil
  | d :: ds, h => by
    rw [List.all_cons] at h
    exact Reps.cons (constV_ok (b2 h).1) (Reps.consts (b2 h).2)
theorem bind_of {Γ : Gam} {s : DefSig} {n : Nat} {ks : List Str} {srcs : List Src} {f : Addr} {fd : FuncData} (B : BindOk s n ks srcs) (F : FunD Γ.K s.nm s.qual s.params s.body s.scope (s.dfl.map constV) [] f fd) {sh : Shared} (KI : Γ.K.In sh.heap) {us ws : List Value} (h1 : us.length = n) (h2 : ws.length = ks.length) :
    ∃ its, Vals (s.dfl.map constV) its ∧ BindsTo sh fd ⟨us, ks.zip ws⟩ (s.ps.zip (sel .none (us ++ ws) its srcs)) := by
  obtain ⟨oc, od, dV, kV, doc, pm, an, cdv, ct, osl, rfl, lk, hcd, hD, _⟩ := F.ex
  rcases hD with ⟨e, rfl⟩ | ⟨hne, T, o, its, m, rfl, lT, oT, rT⟩
  · have e0 : s.dfl = [] := List.map_eq_nil_iff.mp e
    exact ⟨[], by rw [e0]; exact .nil, .of_eq (B.b0 e0 kV doc pm an cdv ct us ws h1 h2)⟩
  · have e0 : s.dfl ≠ [] := fun z => hne (by rw [z]; rfl)
    have hl : its.length = s.dfl.length := by rw [← rT.length, List.length_map]
    obtain ⟨k, e1, e2⟩ := B.b1 e0 T kV doc pm an cdv ct us ws its h1 h2 hl
    refine ⟨its, rT, BindsTo.of_looks fun M => ?_⟩
    rw [e1]
    exact looks_items KI lT oT (.of_pure e2)
/-- what comes back, as an answer -/
def toR : LV → Option R
  | .sh d => some (.v (.sh d))
  | .ow xs => some (.v (.ow xs))
  | .od xs => some (.v (.od xs))
  | _ => none
theorem toR_ok {Γ : Gam} {n : Nat} {own : Nat → List Addr} {Hs H' : Hp} {I' : Im} {lv : LV} {r : R} {v : V} {as : List Addr} (e : toR lv = some r) (h : RepL Γ 0 I' H' lv v as) (q : ∀ a, a ∈ as → I'.G a = none ∧ a ∉ I'.κ ∧ H' a ≠ none ∧ Hs a = none) : RepR Γ n own Hs H' I' r v := by
  unfold toR at e
  split at e <;> cases e
  · exact ⟨as, h, q⟩
  · exact ⟨as, h, q⟩
  · exact ⟨as, h, q⟩
/-- keywords' values -/
structure CKw where
  ev : Env → Cs → Ev (List D)
  ks : List Str
  chk : Nat → Sc → List Keyword → Bool
  need : Gam → Prop
  z : Bool
  ok : ∀ {Γ : Gam} {k : Nat} {W : WX} {sc : Sc} {X : Cx} {e : List Keyword} {n : Nat}, Good Γ k W sc X → need Γ → chk k sc e = true → (z = true → n = X.s_0.heap.objs.size) → PK X e (tDs Γ n W ev)
  nm : ∀ {k : Nat} {sc : Sc} {e : List Keyword} {env : PySem.Env} {pos : Pos}, chk k sc e = true → (backToKw pos (keywordEach e env)).all (·.1.isSome) = true ∧ (backToKw pos (keywordEach e env)).filterMap (·.1) = ks ∧ (backToKw pos (keywordEach e env)).any (·.1.isNone) = false
  hlen : ∀ {ρ : Env} {T T' : Cs} {ds : List D}, ev ρ T = .ok ds T' → ds.length = ks.length
theorem PK.mono {X : Cx} {e : List Keyword} {t t' : TA} (h : PK X e t) (m : ∀ σ H Q, t' σ H Q → t σ H Q) : PK X e t' := ⟨fun pos pins s σ H Q I q => h.run pos pins s σ H Q I (m σ H Q q)⟩
def wNil : CKw where
  ev := fun _ T => .ok [] T
  ks := []
  chk := fun _ _ es => match es with
    | [] => true
    | _ => false
  need := fun _ => True
  z := false
  ok := by
    intro Γ k W sc X e n g _ h _
    cases e with
    | cons a b => cases h
    | nil => exact PK.mono pk_nil fun σ H Q ⟨I, ρ, T, own, w, er, p⟩ => p [] H I Ext.refl w Reps.nil
  nm := fun {k sc e env pos} h => by
    cases e with
    | cons a b => cases h
    | nil => exact ⟨rfl, rfl, rfl⟩
  hlen := fun {ρ T T' ds} h => by cases h; rfl
def wCons (x : Str) (a : CE) (r : CKw) : CKw where
  ev := fun ρ T => (evD a.ev ρ T).bind fun d T1 => (r.ev ρ T1).bind fun ds T2 => .ok (d :: ds) T2
  ks := x :: r.ks
  chk := fun k sc es => match es with
    | ⟨some y, e, _⟩ :: es => decide (x = y) && (a.chk k sc e && r.chk k sc es)
    | _ => false
  need := fun Γ => a.need Γ ∧ r.need Γ
  z := a.z || r.z
  ok := by
    intro Γ k W sc X e n g nd h hz
    split at h
    · obtain ⟨h0, h⟩ := b2 h
      obtain ⟨h1, h2⟩ := b2 h
      refine PK.mono (pk_cons (a.ok g nd.1 h1 (or1 hz).1) (r.ok g nd.2 h2 (or1 hz).2)) fun σ H Q q => ?_
      obtain ⟨I, ρ, T, own, w, er, p⟩ := q
      refine ⟨I, ρ, T, own, w, er, Post.toD ((Post.bind (rel := relD Γ) backDs p).imp fun x H1 q1 => ?_)⟩
      obtain ⟨d, T1, I1, _, x1, w1, r1, p1⟩ := q1
      refine ⟨I1, ρ, T1, own, w1, er.ext x1, (Post.bind (rel := relDs Γ) backDs p1).imp fun xs H2 q2 => ?_⟩
      obtain ⟨ds, T2, I2, _, x2, w2, r2, p2⟩ := q2
      exact p2 (x :: xs) H2 I2 Ext.refl w2 (Reps.cons (Rep.mono x2.le r1) r2)
    · cases h
  nm := fun {k sc e env pos} h => by
    split at h
    · obtain ⟨h0, h⟩ := b2 h
      obtain ⟨h1, h2⟩ := b2 h
      obtain ⟨n1, n2, n3⟩ := r.nm (env := env) (pos := pos) h2
      have h0' := of_decide_eq_true h0
      subst h0'
      unfold backToKw at n1 n2 n3 ⊢
      refine ⟨?_, ?_, ?_⟩
      · simpa [keywordEach] using n1
      · simp only [keywordEach, List.map_cons, List.filterMap_cons]
        rw [n2]
      · simpa [keywordEach] using n3
    · cases h
  hlen := fun {ρ T T' ds} h => by
    obtain ⟨x, T1, _, h⟩ := Ev.bind_ok h
    obtain ⟨ds2, T2, e2, h⟩ := Ev.bind_ok h
    cases h
    rw [List.length_cons, r.hlen e2]
    rfl
/-- the callee by its data -/
def callEv (ev : FEv) (srcs : List Src) (dfl : List D) (a : Env → Cs → Ev (List D)) (b : Env → Cs → Ev (List D)) : Env → Cs → Ev R := fun ρ T => (a ρ T).bind fun ds T1 => (b ρ T1).bind fun es T2 => (ev (sel .non (ds ++ es) dfl srcs) T2).bind fun lv T3 => Ev.opt (toR lv) T3
theorem args_hp {es : List Expr} {env : PySem.Env} {pos : Pos} {l : List (Option Str × Sem Value)} (h : noStars es = true) (q : l.any (·.1.isNone) = false) : ((backTo pos (starEach es env)).any (·.1) || l.any (·.1.isNone)) = false := by
  rw [noStars_back h, q]; rfl
section
variable {Γ : Gam} {k : Nat} {W : WX} {sc : Sc} {X : Cx} {n : Nat}
/-- the call at the end -/
theorem call_end (g : Good Γ k W sc X) {s : DefSig} {ev : FEv} {f : Addr} {m : Nat} {ks : List Str} {srcs : List Src} (F : FnIs Γ s ev f) (B : BindOk s m ks srcs) (hlv : s.lv ≤ k) {pins : List (Addr × Obj)} {σ : L2.St} {H : Hp} {sh : Shared} {Q : VK} {us ws : List Value} {vs zs : List V} {ds es : List D} {I : Im} {T : Cs} {own : Nat → List Addr}
    (Iv : L2.Inv X pins σ H sh) (r1 : Vals vs us) (r2 : Vals zs ws) (d1 : Reps Γ I ds vs) (d2 : Reps Γ I es zs) (h1 : ds.length = m) (h2 : es.length = ks.length) (w : Wf Γ H I T) {Hs : Hp} {Is : Im} (x : Ext O0 Hs Is H I)
    (p : Post Γ (RepR Γ n own) W σ Hs Is ((ev (sel .non (ds ++ es) s.dfl srcs) T).bind fun lv T3 => Ev.opt (toR lv) T3) Q) : wpAny (model X.prog X.w) X.A (call (.ref f) us (ks.zip ws)) (EP X pins σ Q) X.xe sh := by
  obtain ⟨fd, FD, FG⟩ := F.fn
  have KI : Γ.K.In sh.heap := by rw [← g.K]; exact Iv.kIn
  obtain ⟨its, ri, hb⟩ := bind_of B FD KI (us := us) (ws := ws) (by rw [← r1.length, d1.length, h1]) (by rw [← r2.length, d2.length, h2])
  refine FnG.called g hlv FG (args := ⟨us, ks.zip ws⟩) (us := sel .none (us ++ ws) its srcs) (vs := sel .non (vs ++ zs) (s.dfl.map constV) srcs) Iv (Tp.Vals.sel (r1.append r2) ri srcs) hb ?_
  refine ⟨I, T, sel .non (ds ++ es) s.dfl srcs, w, Reps.sel (d1.append d2) (Reps.consts B.cs) srcs, by unfold sel; rw [List.length_map, B.len], ?_⟩
  cases e : ev (sel .non (ds ++ es) s.dfl srcs) T with
  | no => rw [e] at p; exact p
  | ex y T' => rw [e] at p; exact fun cls d H' I' x' w' r' => p cls d H' I' (x.tr0 x') w' r'
  | ok lv T3 =>
    rw [e] at p
    obtain ⟨c, e1, k1⟩ := Post.opt (show Post Γ (RepR Γ n own) W σ Hs Is (Ev.opt (toR lv) T3) Q from p)
    refine fun v H' I' as x' w' r' q' => k1 v H' I' (x.tr0 x') w' (toR_ok e1 r' fun a ha => ?_)
    obtain ⟨q1, q2, q3, q4⟩ := q' a ha
    refine ⟨q1, q2, q3, ?_⟩
    cases e2 : Hs a with
    | none => rfl
    | some o => exact absurd q4 (x.th a (by rw [e2]; simp))
end
/-- f(e, .., k = v, ..) -/
def cCall (s : DefSig) (ev : FEv) (a : CD) (b : CKw) (srcs : List Src) {nn : Nat} {kk : List Str} (B : BindOk s nn kk srcs) : CE where
  ev := callEv ev srcs s.dfl a.ev b.ev
  chk := fun k sc e => match e with
    | .Call (.Name x _) (e :: es) kws _ => (decide (nn = a.len) && decide (kk = b.ks)) && (decide (x = s.nm) && (okName x && (isGl sc.nm x && (decide (s.lv ≤ k) && (noStars (e :: es) && (a.chk k sc (e :: es) && b.chk k sc kws))))))
    | _ => false
  need := fun Γ => (∃ f, Γ.mg s.nm = some (.ref f) ∧ FnIs Γ s ev f) ∧ a.need Γ ∧ b.need Γ
  z := a.z || b.z
  ok := by
    intro Γ k W sc X e n g nd h hz
    split at h
    · rename_i x px e es kws pos
      obtain ⟨h0, hB⟩ := b2 h
      obtain ⟨h01, h02⟩ := b2 h0
      have e01 := of_decide_eq_true h01
      have e02 := of_decide_eq_true h02
      subst e01
      subst e02
      obtain ⟨h1, h⟩ := b2 hB
      obtain ⟨h2, h⟩ := b2 h
      obtain ⟨h3, h⟩ := b2 h
      obtain ⟨h4, h⟩ := b2 h
      obtain ⟨h5, h⟩ := b2 h
      obtain ⟨h6, h7⟩ := b2 h
      have hx := of_decide_eq_true h1
      subst hx
      obtain ⟨d1, _, _⟩ := okName_d h2
      obtain ⟨⟨f, hm, F⟩, na, nb⟩ := nd
      have hm' : X.mg s.nm = some (.ref f) := by rw [g.mg]; exact hm
      have hkp : PySem.W.keepIn X.K (.ref f) = true := by rw [g.K]; exact F.kp
      have hlv := of_decide_eq_true h4
      have pa := a.ok (n := n) g na h6 (or1 hz).1
      have pk := b.ok (n := n) g nb h7 (or1 hz).2
      obtain ⟨n1, n2, n3⟩ := b.nm (env := X.env) (pos := pos) h7
      refine ⟨fun pins sh σ H Q Iv ⟨I, ρ, T, own, w, er, p⟩ => wpAny_Call_Name_kw (ld_glob Iv (isGl_ok g.nm h3) hm' ?_ d1)⟩
      refine PySem.W.callWith_KW (h₀ := X.base) Iv.ok.mod.kin hkp n1 (thn (pa.run pos pins sh σ H _ Iv ⟨I, ρ, T, own, w, er, Post.step (rel := relDs Γ) p Ext.refl⟩) ?_) (args_hp h5 n3) (star_cons (b2 h5).1)
      rintro us s1 ⟨vs, H1, Iv1, rv, ds, T1, I1, e1, x1, w1, r1, p1⟩
      refine thn (pk.run pos pins s1 σ H1 _ Iv1 ⟨I1, ρ, T1, own, w1, er.ext x1, Post.step (rel := relDs Γ) p1 x1⟩) ?_
      rintro ws s2 ⟨zs, H2, Iv2, rz, es', T2, I2, e2, x2, w2, r2, p2⟩
      rw [n2]
      exact ⟨Iv2.kIn, call_end g F B hlv Iv2 rv rz (Reps.mono x2.le r1) r2 (a.hlen e1) (b.hlen e2) w2 (x1.tr0 x2) p2⟩
    · cases h
/-- f(k = v, ..) -/
def cCallK (s : DefSig) (ev : FEv) (b : CKw) (srcs : List Src) {kk : List Str} (B : BindOk s 0 kk srcs) : CE where
  ev := callEv ev srcs s.dfl (fun _ T => .ok [] T) b.ev
  chk := fun k sc e => match e with
    | .Call (.Name x _) [] kws _ => decide (kk = b.ks) && (decide (x = s.nm) && (okName x && (isGl sc.nm x && (decide (s.lv ≤ k) && b.chk k sc kws))))
    | _ => false
  need := fun Γ => (∃ f, Γ.mg s.nm = some (.ref f) ∧ FnIs Γ s ev f) ∧ b.need Γ
  z := b.z
  ok := by
    intro Γ k W sc X e n g nd h hz
    split at h
    · rename_i x px kws pos
      obtain ⟨h0, hB⟩ := b2 h
      have e02 := of_decide_eq_true h0
      subst e02
      obtain ⟨h1, h⟩ := b2 hB
      obtain ⟨h2, h⟩ := b2 h
      obtain ⟨h3, h⟩ := b2 h
      obtain ⟨h4, h7⟩ := b2 h
      have hx := of_decide_eq_true h1
      subst hx
      obtain ⟨d1, _, _⟩ := okName_d h2
      obtain ⟨⟨f, hm, F⟩, nb⟩ := nd
      have hm' : X.mg s.nm = some (.ref f) := by rw [g.mg]; exact hm
      have hkp : PySem.W.keepIn X.K (.ref f) = true := by rw [g.K]; exact F.kp
      have hlv := of_decide_eq_true h4
      have pk := b.ok (n := n) g nb h7 hz
      obtain ⟨n1, n2, n3⟩ := b.nm (env := X.env) (pos := pos) h7
      refine ⟨fun pins sh σ H Q Iv ⟨I, ρ, T, own, w, er, p⟩ => wpAny_Call_Name_kw (ld_glob Iv (isGl_ok g.nm h3) hm' ?_ d1)⟩
      have p : Post Γ (RepR Γ n own) W σ H I ((b.ev ρ T).bind fun es T2 => (ev (sel .non ([] ++ es) s.dfl srcs) T2).bind fun lv T3 => Ev.opt (toR lv) T3) Q := p
      refine PySem.W.callWith_KW0 (h₀ := X.base) Iv.ok.mod.kin hkp n1 (thn (pk.run pos pins sh σ H _ Iv ⟨I, ρ, T, own, w, er, Post.step (rel := relDs Γ) p Ext.refl⟩) ?_) (args_hp rfl n3)
      rintro ws s2 ⟨zs, H2, Iv2, rz, es', T2, I2, e2, x2, w2, r2, p2⟩
      rw [n2]
      exact ⟨Iv2.kIn, call_end (us := []) (vs := []) g F B hlv Iv2 .nil rz Reps.nil r2 rfl (b.hlen e2) w2 x2 p2⟩
    · cases h
end Tp
end
section
set_option Elab.async false
set_option linter.all false
set_option maxRecDepth 100000
set_option maxHeartbeats 2000000
/-! TpQ: names of the module, chains, isinstance, cells. -/
namespace Tp
open PySem PySem.Spec PyProof.Rows L2

/-! ### the module's constants -/
def glChk (sc : Sc) (x : Str) (e : Expr) : Bool := match e with
  | .Name y _ => decide (y = x) && (okName y && isGl sc.nm y)
  | _ => false
theorem glChk_ok {Γ : Gam} {k : Nat} {W : WX} {sc : Sc} {X : Cx} {x : Str} {e : Expr} (g : Good Γ k W sc X) (h : glChk sc x e = true) {v : V} {u : Value} (hm : Γ.mg x = some u) (r : RelV v u) : PE X e (tC v) := by
  unfold glChk at h
  split at h
  · obtain ⟨h1, h⟩ := b2 h
    obtain ⟨h2, h3⟩ := b2 h
    have hx := of_decide_eq_true h1
    subst hx
    exact pe_glob (isGl_ok g.nm h3) (by rw [g.mg]; exact hm) r (okName_d h2).1
  · cases h
def cGInt (x : Str) (i : Int) : CE where
  ev := fun _ T => .ok (rI i) T
  chk := fun _ sc e => glChk sc x e
  need := fun Γ => ∃ t, Γ.mg x = some (.int i t)
  z := false
  ok := by
    intro Γ k W sc X e n g ⟨t, hm⟩ h _
    exact PE.mono (glChk_ok (v := .int i) g h hm ⟨t, rfl⟩) (tE_const fun _ => .ofInt)
/-- a tuple of constants -/
def cGTup (x : Str) (ds : List D) : CE where
  ev := fun _ T => .ok (.v (.sh (.tup ds))) T
  chk := fun _ sc e => ds.all isConst && glChk sc x e
  need := fun Γ => ∃ a, Γ.mg x = some (.ref a) ∧ ∀ H, SqT Γ.K H a (ds.map constV)
  z := false
  ok := by
    intro Γ k W sc X e n g ⟨a, hm, hs⟩ h _
    obtain ⟨h1, h2⟩ := b2 h
    exact PE.mono (glChk_ok (v := .ref a) g h2 hm rfl) (tE_const fun I => .ofTup (hs I.G) (Reps.consts h1))

/-! ### a < b < c -/
def evCh (f f' : List R → Option R) (a b c : Env → Cs → Ev R) : Env → Cs → Ev R := fun ρ T => (a ρ T).bind fun x T1 => (b ρ T1).bind fun y T2 => match (f [x, y]).bind rBl with
  | some true => (c ρ T2).bind fun z T3 => Ev.opt (f' [y, z]) T3
  | some false => .ok (rB false) T2
  | none => .no
theorem tE_ch {Γ : Gam} {n : Nat} {W : WX} {a b c : Env → Cs → Ev R} {f f' : List R → Option R} : ∀ σ H Q, tE Γ n W (evCh f f' a b c) σ H Q → tChain (rd2 Γ n f) (rd2 Γ n f') (tE Γ n W a) (tE Γ n W b) (tE Γ n W c) σ H Q := fun σ H Q q => by
  obtain ⟨I, ρ, T, own, w, er, p⟩ := q
  refine ⟨I, ρ, T, own, w, er, (Post.bind (rel := RepR Γ n own) backR p).imp fun x H1 q1 => ?_⟩
  obtain ⟨r, T1, I1, _, x1, w1, r1, p1⟩ := q1
  refine ⟨I1, ρ, T1, own, w1, er.ext x1, (Post.bind (rel := RepR Γ n own) backR p1).imp fun y H2 q2 => ?_⟩
  obtain ⟨r2, T2, I2, _, x2, w2, r2', p2⟩ := q2
  have er2 := (er.ext x1).ext x2
  cases e : f [r, r2] with
  | none => rw [e] at p2; exact p2.elim
  | some c1 =>
    rw [e] at p2
    refine ⟨I2, T2, own, H, [r, r2], c1, w2, .two (r1.ext x2) (r2'.back x1.th), e, fun v H3 I3 x3 w3 rv => ?_⟩
    have p2 : Post Γ (RepR Γ n own) W σ H2 I2 (match rBl c1 with
      | some true => (c ρ T2).bind fun z T3 => Ev.opt (f' [r2, z]) T3
      | some false => .ok (rB false) T2
      | none => .no) Q := p2
    cases e2 : rBl c1 with
    | none => rw [e2] at p2; exact p2.elim
    | some bb =>
      rw [e2] at p2
      rw [rBl_ok e2] at rv
      refine ⟨bb, rv.unsh.bl, ?_⟩
      cases bb with
      | true =>
        rw [if_pos rfl]
        refine ⟨I3, ρ, T2, own, w3, er2.ext x3, (Post.step (rel := RepR Γ n own) p2 x3).imp fun z H4 q4 => ?_⟩
        obtain ⟨r4, T4, I4, _, x4, w4, r4', p4⟩ := q4
        obtain ⟨c2, e3, k3⟩ := Post.opt p4
        exact ⟨I4, T4, own, H, [r2, r4], c2, w4, .two (((r2'.back x1.th).ext x3).ext x4) (r4'.back fun a h => x3.th a (x2.th a (x1.th a h))), e3, fun v H' I' xx ww rr => k3 v H' I' ((x3.tr0 x4).tr0 xx) ww (rr.back fun a h => x4.th a (x3.th a h))⟩
      | false =>
        rw [if_neg Bool.false_ne_true]
        exact p2.ret x3 w3 (.sh .ofBl)
theorem lastMarks_ok {op op' : CmpOp} {b c : Expr} (h1 : notSet b = true) (h2 : notSet c = true) : lastMarks [op, op'] [b, c] = false := by
  cases b <;> first | (cases h1; done) | (cases c <;> first | (cases h2; done) | rfl)
def cChain (o o' : Cp2) (a b c : CE) : CE where
  ev := evCh o.f o'.f a.ev b.ev c.ev
  chk := fun k sc e => match e with
    | .Compare x [op, op'] [y, z] _ => (op == o.op) && ((op' == o'.op) && ((notSet y && notSet z) && (a.chk k sc x && (b.chk k sc y && c.chk k sc z))))
    | _ => false
  need := fun Γ => a.need Γ ∧ b.need Γ ∧ c.need Γ
  z := a.z || (b.z || c.z)
  ok := by
    intro Γ k W sc X e n g nd h hz
    split at h
    · obtain ⟨h1, h⟩ := b2 h
      obtain ⟨h2, h⟩ := b2 h
      obtain ⟨h3, h⟩ := b2 h
      obtain ⟨h4, h⟩ := b2 h
      obtain ⟨h5, h6⟩ := b2 h
      obtain ⟨h3, h3b⟩ := b2 h3
      rw [eq_of_beq h1, eq_of_beq h2]
      have z1 := or1 hz
      have z2 := or1 z1.2
      exact PE.mono (pe_chain (o.snd (n := n) g) (o'.snd (n := n) g) (a.ok g nd.1 h4 z1.1) (b.ok g nd.2.1 h5 z2.1) (c.ok g nd.2.2 h6 z2.2) (lastMarks_ok h3 h3b)) tE_ch
    · cases h
def tChn (o o' : Cp2) (a b c : CE) : CT where
  ev := evB (evCh o.f o'.f a.ev b.ev c.ev)
  chk := fun k sc e => match e with
    | .Compare x [op, op'] [y, z] _ => (op == o.op) && ((op' == o'.op) && ((notSet y && notSet z) && (a.chk k sc x && (b.chk k sc y && c.chk k sc z))))
    | _ => false
  need := fun Γ => a.need Γ ∧ b.need Γ ∧ c.need Γ
  z := a.z || (b.z || c.z)
  ok := by
    intro Γ k W sc X e n g nd h hz
    split at h
    · obtain ⟨h1, h⟩ := b2 h
      obtain ⟨h2, h⟩ := b2 h
      obtain ⟨h3, h⟩ := b2 h
      obtain ⟨h4, h⟩ := b2 h
      obtain ⟨h5, h6⟩ := b2 h
      obtain ⟨h3, h3b⟩ := b2 h3
      rw [eq_of_beq h1, eq_of_beq h2]
      have z1 := or1 hz
      have z2 := or1 z1.2
      refine PT.mono (pt_chain (o.snd (n := n) g) (o'.snd (n := n) g) (a.ok g nd.1 h4 z1.1) (b.ok g nd.2.1 h5 z2.1) (c.ok g nd.2.2 h6 z2.2) (lastMarks_ok h3 h3b)) fun σ H Q q => ?_
      exact tE_ch σ H _ (tT_val σ H Q q)
    · cases h

/-! ### a list of one's own is passed about -/
/-- a fresh list becomes a cell -/
def cCell (a : CE) : CE where
  ev := fun ρ T => (a.ev ρ T).bind fun r T1 => match r with
    | .v (.ow xs) => .ok (.v (.sh (.cell T1.length))) (T1 ++ [xs])
    | _ => .no
  chk := a.chk
  need := a.need
  z := a.z
  ok := by
    intro Γ k W sc X e n g nd h hz
    refine PE.mono (a.ok g nd h hz) fun σ H Q q => ?_
    obtain ⟨I, ρ, T, own, w, er, p⟩ := q
    refine ⟨I, ρ, T, own, w, er, (Post.step (rel := RepR Γ n own) p Ext.refl).imp fun x H1 q1 => ?_⟩
    obtain ⟨r, T1, I1, _, x1, w1, r1, p1⟩ := q1
    split at p1
    · rename_i xs _
      obtain ⟨as, ⟨b, vs, rfl, rfl, h2, h3⟩, h4⟩ := r1
      obtain ⟨f1, f2, f3, f4⟩ := h4 b (by simp)
      have le : Im.Le I1 ⟨I1.G, I1.κ ++ [b], I1.me⟩ := ⟨fun _ _ h => h, fun m a h => by
        show (I1.κ ++ [b])[m]? = some a
        rw [List.getElem?_append_left (List.getElem?_eq_some_iff.mp h).1]
        exact h, rfl⟩
      have w2 : Wf Γ H1 ⟨I1.G, I1.κ ++ [b], I1.me⟩ (T1 ++ [xs]) := by
        refine ⟨w1.gh, ?_, fun c hc => ?_, by rw [List.length_append, List.length_append, w1.len]; rfl, fun m c ds e1 e2 => ?_, w1.ug, w1.tb, w1.lc, w1.tg⟩
        · exact List.nodup_append.mpr ⟨w1.nd, by simp, fun c hc c' hc' z => by
            have : c' = b := by simpa using hc'
            rw [z, this] at hc
            exact f2 hc⟩
        · rcases List.mem_append.mp hc with hc | hc
          · exact w1.kg c hc
          · have : c = b := by simpa using hc
            rw [this]; exact f1
        · by_cases hm : m < I1.κ.length
          · have e1' : I1.κ[m]? = some c := by rw [← e1]; exact (List.getElem?_append_left hm).symm
            have e2' : T1[m]? = some ds := by rw [← e2]; exact (List.getElem?_append_left (by rw [← w1.len]; exact hm)).symm
            obtain ⟨us, h5, h6⟩ := w1.cells m c ds e1' e2'
            exact ⟨us, h5, h6.mono le⟩
          · have hl : (I1.κ ++ [b]).length = I1.κ.length + 1 := by simp
            have hlt : m < I1.κ.length + 1 := by rw [← hl]; exact (List.getElem?_eq_some_iff.mp e1).1
            have em : m = I1.κ.length := by omega
            subst em
            have e1' : (I1.κ ++ [b])[I1.κ.length]? = some c := e1
            rw [List.getElem?_append_right (Nat.le_refl _)] at e1'
            simp at e1'
            subst e1'
            rw [w1.len, List.getElem?_append_right (Nat.le_refl _)] at e2
            simp at e2
            subst e2
            exact ⟨vs, h2, h3.mono le⟩
      have x2 : Ext O0 H I H1 ⟨I1.G, I1.κ ++ [b], I1.me⟩ :=
        ⟨x1.gg, fun m a h => le.kk m a (x1.kk m a h), x1.fr, x1.th, x1.gn, fun c hc => by
          rcases List.mem_append.mp hc with hc | hc
          · exact x1.kn c hc
          · have : c = b := by simpa using hc
            rw [this]; exact .inr f4, x1.mm⟩
      refine p1 _ H1 ⟨I1.G, I1.κ ++ [b], I1.me⟩ x2 w2 (.sh ?_)
      simp only [Rep]
      refine ⟨b, rfl, ?_⟩
      rw [← w1.len, List.getElem?_append_right (Nat.le_refl _)]
      simp
    · exact p1.elim

/-! ### classes, types -/
abbrev cAd (Γ : Gam) (c : Nat) : Addr := He.ga Γ.K (cdT c).1
structure ClsFull (Γ : Gam) (c : Nat) : Prop where
  cd : Γ.cd = cdT
  mg : Γ.mg (cdT c).1 = some (.ref (cAd Γ c))
  cl : Cls Γ.K (cAd Γ c)
  ha : PySem.W.findIn Γ.K (.ref (cAd Γ c)) "__class__" = some (some (.builtin "object.__class__"))
  hn : PySem.W.specialIn Γ.K (.builtin "object.__class__") "__get__" = some (some (.builtin "getset_descriptor.__get__"))
  ht : PySem.W.takesIn Γ.K (.builtin "object.__class__") = some true
  hm : PySem.W.mroIn Γ.K (cAd Γ c) (.type "object") = some true
  na : ∀ f, f ∈ (cdT c).2 → NoAttr Γ.K (cAd Γ c) f
def tyU (Γ : Gam) : Ty → Value
  | .b n => .type n
  | .o c => .ref (cAd Γ c)
def tyV (Γ : Gam) : Ty → V
  | .b n => .ty n
  | .o c => .ref (cAd Γ c)
def tyD (own : List Nat) : D → Option Ty
  | .non => some (.b "NoneType")
  | .bl _ => some (.b "bool")
  | .int _ => some (.b "int")
  | .str _ => some (.b "str")
  | .lst _ => some (.b "list")
  | .fz _ => some (.b "list")
  | .tup _ => some (.b "tuple")
  | .dct _ => some (.b "dict")
  | .obj c _ => if c ∈ own then some (.o c) else none
  | .cell _ => none
  | .lam _ _ => none
def tyR (own : List Nat) : R → Option Ty
  | .v (.sh d) => tyD own d
  | .v (.ow _) => some (.b "list")
  | .v (.od _) => some (.b "dict")
  | .bw _ => some (.b "list")
  | .bd _ => some (.b "dict")
  | _ => none
theorem tyx_lst {Γ : Gam} {H : Hp} {a : Addr} {vs : List V} (h : SqL Γ.K H a vs) : TyX Γ.K H (.ref a) (.type "list") := by
  rcases h with (h | ⟨o, h⟩) | ⟨o, its, n, h1, h2, _⟩
  · exact .base (.lst h)
  · exact .base (.frz h)
  · exact .kList h1 h2
theorem tyx_tup {Γ : Gam} {H : Hp} {a : Addr} {vs : List V} (h : SqT Γ.K H a vs) : TyX Γ.K H (.ref a) (.type "tuple") := by
  rcases h with (h | ⟨o, h⟩) | ⟨o, its, n, h1, h2, _⟩
  · exact .base (.tup h)
  · exact .fTuple h
  · exact .kTuple h1 h2
theorem tyx_D {Γ : Gam} {H : Hp} {I : Im} {own : List Nat} (hc : ∀ c, c ∈ own → ClsFull Γ c) (gh : ∀ a o, I.G a = some o → H a = some o) {d : D} {v : V} {t : Ty} (h : Rep Γ I d v) (e : tyD own d = some t) : TyX Γ.K H v (tyU Γ t) := by
  cases d with
  | non => cases e; rw [h.non]; exact .base .non
  | bl b => cases e; rw [h.bl]; exact .base (.bl b)
  | int b => cases e; rw [h.int]; exact .base (.int b)
  | str b => cases e; rw [h.str]; exact .base (.str b)
  | lst xs =>
    cases e
    obtain ⟨a, vs, rfl, h2, _⟩ := h.lst
    exact tyx_lst (SqL.of (gh _ _ h2))
  | fz xs =>
    cases e
    obtain ⟨a, vs, rfl, h2, _⟩ := h.fz
    exact tyx_lst (SqL.ext gh h2)
  | tup xs =>
    cases e
    obtain ⟨a, vs, rfl, h2, _⟩ := h.tup
    exact tyx_tup (SqT.ext gh h2)
  | dct kvs =>
    cases e
    simp only [Rep] at h
    obtain ⟨a, o, us, rfl, h2, _⟩ := h
    exact .fDict (gh _ _ h2)
  | obj c xs =>
    have e : (if c ∈ own then some (Ty.o c) else none) = some t := e
    split at e
    · rename_i hc0
      cases e
      have F := hc c hc0
      simp only [Rep] at h
      obtain ⟨a, dx, us, rfl, h2, _, _⟩ := h
      have h3 := gh _ _ h2
      rw [F.cd] at h3
      exact .base (.ins h3 F.cl F.ha F.hn F.ht F.hm)
    · cases e
  | cell n => cases e
  | lam k xs => cases e
theorem tyx_R {Γ : Gam} {n : Nat} {ow : Nat → List Addr} {Hs H : Hp} {I : Im} {T : Cs} {own : List Nat} (hc : ∀ c, c ∈ own → ClsFull Γ c) (w : Wf Γ H I T) {r : R} {v : V} {t : Ty} (h : RepR Γ n ow Hs H I r v) (e : tyR own r = some t) : TyX Γ.K H v (tyU Γ t) := by
  unfold tyR at e
  split at e
  · exact tyx_D hc w.gh h.unsh e
  · cases e
    obtain ⟨as, ⟨a, vs, _, rfl, h2, _⟩, _⟩ := h
    exact .base (.lst h2)
  · cases e
    obtain ⟨as, ⟨a, vs, _, rfl, h2, _⟩, _⟩ := h
    exact .base (.dK h2)
  · cases e
    obtain ⟨a, vs, rfl, h2, _⟩ := h
    exact .base (.lst h2)
  · cases e
    obtain ⟨a, vs, rfl, h2, _⟩ := h
    exact .base (.dK h2)
  · cases e
theorem tyD_mem {own : List Nat} {d : D} {t : Ty} (e : tyD own d = some t) : t ∈ tys own := by
  cases d with
  | obj c xs =>
    have e : (if c ∈ own then some (Ty.o c) else none) = some t := e
    split at e
    · rename_i hc
      cases e
      exact List.mem_append.mpr (.inr (List.mem_map.mpr ⟨c, hc, rfl⟩))
    · cases e
  | cell n => cases e
  | lam k xs => cases e
  | _ => cases e; simp [tys]
theorem tyR_mem {own : List Nat} {r : R} {t : Ty} (e : tyR own r = some t) : t ∈ tys own := by
  unfold tyR at e
  split at e
  · exact tyD_mem e
  all_goals (cases e <;> simp [tys])
def tyNm (u : Ty) : Str := match u with
  | .b n => n
  | .o c => (cdT c).1
def builtTy (n : String) : Bool := n == "int" || n == "bool" || n == "str" || n == "list" || n == "tuple" || n == "dict"
theorem builtTy_ok {n : String} (h : builtTy n = true) : bootBuiltins (n : Str) = some (.type n) := by
  unfold builtTy at h
  simp only [Bool.or_eq_true, beq_iff_eq] at h
  rcases h with ((((h | h) | h) | h) | h) | h <;> subst h
  · exact PyProof.Rows.boot_int
  · decide +kernel
  · decide +kernel
  · exact PyProof.Rows.boot_list
  · exact PyProof.Rows.boot_tuple
  · decide +kernel
/-- a class by its name -/
def tyChk (sc : Sc) (u : Ty) (e : Expr) : Bool := (match u with
    | .b n => builtTy n
    | .o _ => true) && glChk sc (tyNm u) e
def tyNeed (Γ : Gam) (u : Ty) : Prop := match u with
  | .b n => Γ.mg (n : Str) = none
  | .o c => ClsFull Γ c
theorem tyChk_ok {Γ : Gam} {k : Nat} {W : WX} {sc : Sc} {X : Cx} {u : Ty} {e : Expr} (g : Good Γ k W sc X) (nd : tyNeed Γ u) (h : tyChk sc u e = true) : PE X e (tC (tyV Γ u)) := by
  obtain ⟨h1, h2⟩ := b2 h
  cases u with
  | o c => exact glChk_ok g h2 (ClsFull.mg nd) rfl
  | b n =>
    unfold glChk at h2
    split at h2
    · obtain ⟨h3, h⟩ := b2 h2
      obtain ⟨h4, h5⟩ := b2 h
      have hx := of_decide_eq_true h3
      subst hx
      obtain ⟨d1, _, d3⟩ := okName_d h4
      exact pe_bltn (isGl_ok g.nm h5) (by rw [g.mg]; exact nd) (builtTy_ok h1) rfl d3 d1
    · cases h2
theorem tyV_cls (Γ : Gam) (u : Ty) : ClsV (tyV Γ u) (tyU Γ u) := by
  cases u with
  | b n => exact .ty n
  | o c => exact .own _
/-- every isinstance that is asked -/
def isiNeed (Γ : Gam) (own : List Nat) (u : Ty) : Prop := ∀ t, t ∈ tys own → PySem.W.kitOne Γ.K (tyU Γ t) (tyU Γ u) = some (isTy t u)
def evIsi (own : List Nat) (us : List Ty) (a : Env → Cs → Ev R) : Env → Cs → Ev R := fun ρ T => (a ρ T).bind fun r T1 => Ev.opt ((tyR own r).map fun t => rB (us.any fun u => isTy t u)) T1
def cIsi (own : List Nat) (u : Ty) (a : CE) : CE where
  ev := evIsi own [u] a.ev
  chk := fun k sc e => match e with
    | .Call (.Name x _) [y, z] [] _ => decide (x = ("isinstance" : Str)) && (isGl sc.nm x && ((notStar y && notStar z) && (a.chk k sc y && tyChk sc u z)))
    | _ => false
  need := fun Γ => Γ.mg "isinstance" = none ∧ (∀ c, c ∈ own → ClsFull Γ c) ∧ tyNeed Γ u ∧ isiNeed Γ own u ∧ a.need Γ
  z := a.z
  ok := by
    intro Γ k W sc X e n g nd h hz
    obtain ⟨n1, n2, n3, n4, n5⟩ := nd
    split at h
    · rename_i x p y z pos
      obtain ⟨h1, h⟩ := b2 h
      obtain ⟨h2, h⟩ := b2 h
      obtain ⟨h3, h⟩ := b2 h
      obtain ⟨h3, h3b⟩ := b2 h3
      obtain ⟨h4, h5⟩ := b2 h
      have hx := of_decide_eq_true h1
      subst hx
      refine PE.mono (pe_callB call_isi (isGl_ok g.nm h2) (by rw [g.mg]; exact n1) (by decide +kernel) (pa_cons (a.ok g n5 h4 hz) (pa_cons (tyChk_ok g n3 h5) pa_nil (star_cons h3b)) (star_cons h3)) (by decide) (by decide) (star_cons h3) (by rw [star_cons h3b]; rfl)) fun σ H Q q => ?_
      obtain ⟨I, ρ, T, own', w, er, p⟩ := q
      refine ⟨I, ρ, T, own', w, er, (Post.bind (rel := RepR Γ n own') backR p).imp fun xv H1 q1 => ?_⟩
      obtain ⟨r, T1, I1, _, x1, w1, r1, p1⟩ := q1
      obtain ⟨c, e1, k1⟩ := Post.opt p1
      obtain ⟨t, e2, rfl⟩ := Option.map_eq_some_iff.mp e1
      refine ⟨xv, tyV Γ u, tyU Γ t, tyU Γ u, isTy t u, rfl, tyV_cls Γ u, by rw [g.K]; exact tyx_R n2 w1 r1 e2, by rw [g.K]; exact n4 t (tyR_mem e2), ?_⟩
      have : (List.any [u] fun u => isTy t u) = isTy t u := by simp
      rw [this] at k1
      exact give_val w1 .ofBl k1
    · cases h
theorem kitAny_all {Γ : Gam} {own : List Nat} {t : Ty} (ht : t ∈ tys own) : ∀ {us : List Ty}, (∀ u, u ∈ us → isiNeed Γ own u) → PySem.W.kitAny Γ.K (tyU Γ t) (us.map (tyU Γ)) = some (us.any fun u => isTy t u)
  | [], _ => rfl
  | u :: us, h => by
    rw [List.map_cons, List.any_cons]
    refine kitAny_cons (h u (by simp) t ht) (fun e => ?_) (fun e => by rw [e]; rfl)
    rw [e, Bool.false_or]
    exact kitAny_all ht fun v hv => h v (by simp [hv])
/-- isinstance(a, (t1, t2)) -/
def cIsi2 (own : List Nat) (u u2 : Ty) (a : CE) : CE where
  ev := evIsi own [u, u2] a.ev
  chk := fun k sc e => match e with
    | .Call (.Name x _) [y, .Tuple [z, z2] _ _] [] _ => decide (x = ("isinstance" : Str)) && (isGl sc.nm x && ((notStar y && (notStar z && notStar z2)) && (a.chk k sc y && (tyChk sc u z && tyChk sc u2 z2))))
    | _ => false
  need := fun Γ => Γ.mg "isinstance" = none ∧ (∀ c, c ∈ own → ClsFull Γ c) ∧ (tyNeed Γ u ∧ tyNeed Γ u2) ∧ (∀ v, v ∈ [u, u2] → isiNeed Γ own v) ∧ a.need Γ
  z := a.z
  ok := by
    intro Γ k W sc X e n g nd h hz
    obtain ⟨n1, n2, n3, n4, n5⟩ := nd
    split at h
    · rename_i x p y z z2 _ _ pos
      obtain ⟨h1, h⟩ := b2 h
      obtain ⟨h2, h⟩ := b2 h
      obtain ⟨h3, h⟩ := b2 h
      obtain ⟨h3, h3b⟩ := b2 h3
      obtain ⟨h3b, h3c⟩ := b2 h3b
      obtain ⟨h4, h⟩ := b2 h
      obtain ⟨h5, h6⟩ := b2 h
      have hx := of_decide_eq_true h1
      subst hx
      refine PE.mono (pe_callB call_isiT (isGl_ok g.nm h2) (by rw [g.mg]; exact n1) (by decide +kernel) (pa_cons (a.ok g n5 h4 hz) (pa_cons (pe_tup (pa_cons (tyChk_ok g n3.1 h5) (pa_cons (tyChk_ok g n3.2 h6) pa_nil (star_cons h3c)) (star_cons h3b))) pa_nil) (star_cons h3)) (by decide) (by decide) (star_cons h3) rfl) fun σ H Q q => ?_
      obtain ⟨I, ρ, T, own', w, er, p⟩ := q
      refine ⟨I, ρ, T, own', w, er, (Post.bind (rel := RepR Γ n own') backR p).imp fun xv H1 q1 => ?_⟩
      obtain ⟨r, T1, I1, _, x1, w1, r1, p1⟩ := q1
      obtain ⟨c, e1, k1⟩ := Post.opt p1
      obtain ⟨t, e2, rfl⟩ := Option.map_eq_some_iff.mp e1
      refine ⟨(show 2 ≤ sizeLine by rw [sizeLine_eq]; decide), fun tp hp => ?_⟩
      have xx : Ext O0 H1 I1 (upd H1 tp (.tup [tyV Γ u, tyV Γ u2])) I1 := Ext.new hp _
      have ww := w1.new hp (.tup [tyV Γ u, tyV Γ u2])
      refine ⟨xv, tp, [tyV Γ u, tyV Γ u2], tyU Γ t, [tyU Γ u, tyU Γ u2], [u, u2].any fun u => isTy t u, rfl, upd_same, .cons (tyV_cls Γ u) (.cons (tyV_cls Γ u2) .nil), ?_, ?_, ?_⟩
      · rw [g.K]
        exact tyx_R n2 ww (r1.ext xx) e2
      · rw [g.K]
        exact kitAny_all (us := [u, u2]) (tyR_mem e2) n4
      · exact k1 _ _ _ xx ww (.sh .ofBl)
    · cases h
end Tp
end
section
set_option Elab.async false
set_option linter.all false
set_option maxRecDepth 100000
set_option maxHeartbeats 2000000
/-! TpR: instances: attributes, making, methods, properties. -/
namespace Tp
open PySem PySem.Spec PyProof.Rows L2

/-- an expression that is no call (super() apart) -/
def noSup : Expr → Bool
  | .Name .. => true
  | .Attribute .. => true
  | .Subscript .. => true
  | .Call (.Name _ _) (_ :: _) _ _ => true
  | _ => false
theorem noSup_ok {o : Expr} (h : noSup o = true) (f : Str) (env : PySem.Env) : attributeBase o f env (eval o env) = eval o env := by
  unfold noSup at h
  split at h <;> first | rfl | cases h
/-- the place of a field -/
def fIdx (f : Str) : List Str → Option Nat
  | [] => none
  | g :: r => if g = f then some 0 else (fIdx f r).map (· + 1)
theorem fIdx_get {α : Type} {f : Str} : ∀ {us : List (Str × α)} {i : Nat} {v : α}, fIdx f (us.map (·.1)) = some i → (us.map (·.2))[i]? = some v → us.lookup f = some v
  | [], _, _, h, _ => by cases h
  | (g, x) :: r, i, v, h, e => by
    rw [List.map_cons] at h e
    unfold fIdx at h
    rw [List.lookup_cons]
    by_cases hg : g = f
    · rw [if_pos hg] at h
      cases h
      simp at e
      rw [hg, e]; simp
    · rw [if_neg hg] at h
      obtain ⟨j, h1, rfl⟩ := Option.map_eq_some_iff.mp h
      have hne : (f == g) = false := by
        cases q : f == g with
        | false => rfl
        | true => exact absurd (eq_of_beq q).symm hg
      rw [hne]
      exact fIdx_get h1 (by simpa using e)
def fldD (f : Str) : R → Option D
  | .v (.sh (.obj c xs)) => (fIdx f (cdT c).2).bind fun i => xs[i]?
  | _ => none
theorem fIdx_mem {f : Str} : ∀ {l : List Str} {i : Nat}, fIdx f l = some i → f ∈ l
  | [], _, h => by cases h
  | g :: r, i, h => by
    unfold fIdx at h
    split at h
    · rename_i e; rw [e]; simp
    · obtain ⟨j, h1, _⟩ := Option.map_eq_some_iff.mp h
      exact List.mem_cons_of_mem _ (fIdx_mem h1)
/-- a.f, f a field; own: the classes that are here -/
def cFld (own : List Nat) (f : Str) (a : CE) : CE where
  ev := fun ρ T => (a.ev ρ T).bind fun r T1 => Ev.opt (match r with
    | .v (.sh (.obj c xs)) => if c ∈ own then (fldD f r).map fun d => .v (.sh d) else none
    | _ => none) T1
  chk := fun k sc e => match e with
    | .Attribute o g _ => decide (g = f) && (noSup o && a.chk k sc o)
    | _ => false
  need := fun Γ => (∀ c, c ∈ own → ClsFull Γ c) ∧ a.need Γ
  z := a.z
  ok := by
    intro Γ k W sc X e n g nd h hz
    split at h
    · rename_i o f' pos
      obtain ⟨h1, h⟩ := b2 h
      obtain ⟨h2, h3⟩ := b2 h
      have hf := of_decide_eq_true h1
      subst hf
      refine PE.mono (pe_fld (a.ok g nd.2 h3 hz) (noSup_ok h2 _ _)) fun σ H Q q => ?_
      obtain ⟨I, ρ, T, own', w, er, p⟩ := q
      refine ⟨I, ρ, T, own', w, er, (Post.bind (rel := RepR Γ n own') backR p).imp fun x H1 q1 => ?_⟩
      obtain ⟨r, T1, I1, _, x1, w1, r1, p1⟩ := q1
      obtain ⟨c0, e1, k1⟩ := Post.opt p1
      split at e1
      · rename_i c xs _
        split at e1
        · rename_i hc
          obtain ⟨d, e2, rfl⟩ := Option.map_eq_some_iff.mp e1
          have F := nd.1 c hc
          have rr := r1.unsh
          simp only [Rep] at rr
          obtain ⟨b, dx, us, rfl, h4, h5, h6⟩ := rr
          rw [F.cd] at h4 h5
          obtain ⟨i, e3, e4⟩ := Option.bind_eq_some_iff.mp (show (fIdx f' (cdT c).2).bind (fun i => xs[i]?) = some d from e2)
          obtain ⟨v, v1, v2⟩ := h6.get e4
          rw [← h5] at e3
          refine ⟨b, _, dx, us, v, rfl, w1.gh _ _ h4, by rw [g.K]; exact F.cl, ?_, fIdx_get e3 v1, give_val w1 v2 k1⟩
          rw [g.K]
          exact F.na _ (by rw [h5] at e3; exact fIdx_mem e3)
        · cases e1
      · cases e1
    · cases h
/-- self.f within the making: the i-th local -/
def cFldO (i : Nat) (c : Nat) (f : Str) : CE where
  ev := fun ρ T => match ρ[i]? with
    | some (some (.oo c' xs)) => Ev.opt (if c' = c then ((fIdx f ((cdT c).2.take xs.length)).bind fun j => xs[j]?).map fun d => .v (.sh d) else none) T
    | _ => .no
  chk := fun k sc e => match e with
    | .Attribute (.Name x _) g _ => decide (g = f) && isVar sc i x
    | _ => false
  need := fun Γ => ClsFull Γ c
  z := false
  ok := by
    intro Γ k W sc X e n g F h hz
    split at h
    · rename_i x px f' pos
      obtain ⟨h1, h3⟩ := b2 h
      have hf := of_decide_eq_true h1
      subst hf
      refine PE.mono (pe_fld (isVar_ok g h3) rfl) fun σ H Q q => ?_
      obtain ⟨I, ρ, T, own', w, er, p⟩ := q
      have p' : Post Γ (RepR Γ n own') W σ H I (match ρ[i]? with
        | some (some (.oo c' xs)) => Ev.opt (if c' = c then ((fIdx f' ((cdT c).2.take xs.length)).bind fun j => xs[j]?).map fun d => R.v (.sh d) else none) T
        | _ => .no) Q := p
      split at p'
      · rename_i c' xs e0
        obtain ⟨v0, s1, b, dx, us, s2, rfl, sm, s4, s5, s6⟩ := er.at_ i _ e0
        obtain ⟨c0, e1, k1⟩ := Post.opt p'
        split at e1
        · rename_i hc
          subst hc
          obtain ⟨d, e2, rfl⟩ := Option.map_eq_some_iff.mp e1
          obtain ⟨j, e3, e4⟩ := Option.bind_eq_some_iff.mp e2
          rw [F.cd] at s4 s5
          obtain ⟨v, v1, v2⟩ := s6.get e4
          have hm := fIdx_mem e3
          rw [← s5] at e3
          refine ⟨_, s1, b, _, dx, us, v, rfl, s4, by rw [g.K]; exact F.cl, ?_, fIdx_get e3 v1, give_val w v2 k1⟩
          rw [g.K]
          exact F.na _ (List.mem_of_mem_take hm)
        · cases e1
      · exact p'.elim
    · cases h
theorem putF_new {f : Str} {v : V} : ∀ {fs : List (Str × V)}, f ∉ fs.map (·.1) → putF f v fs = fs ++ [(f, v)]
  | [], _ => rfl
  | (g, x) :: r, h => by
    rw [List.map_cons, List.mem_cons, not_or] at h
    show (if g = f then (g, v) :: r else (g, x) :: putF f v r) = _
    rw [if_neg (fun e => h.1 e.symm), putF_new h.2]
    rfl
/-- self.f = e, within the making -/
def sFldO (i : Nat) (c : Nat) (f : Str) (a : CE) : C1 where
  ev := fun ρ T => (evD a.ev ρ T).bind fun d T1 => match ρ[i]? with
    | some (some (.oo c' xs)) => if c' = c ∧ (cdT c).2[xs.length]? = some f ∧ f ∉ (cdT c).2.take xs.length then .ok (.nx (ρ.set i (some (.oo c (xs ++ [d]))))) T1 else .no
    | _ => .no
  chk := fun k sc st => match st with
    | .Assign [.Attribute (.Name x _) g _] e _ => decide (g = f) && (notComp e && (isVar sc i x && a.chk k sc e))
    | _ => false
  need := fun Γ => ClsFull Γ c ∧ a.need Γ
  ok := by
    intro Γ k W sc X st g nd h
    obtain ⟨F, nd⟩ := nd
    split at h
    · rename_i x px f' pos' e pos
      obtain ⟨h1, h⟩ := b2 h
      obtain ⟨h2, h⟩ := b2 h
      obtain ⟨h3, h4⟩ := b2 h
      have hf := of_decide_eq_true h1
      subst hf
      refine PS.mono (ps_fld (isVar_ok g h3) (a.ok (n := X.s_0.heap.objs.size) g nd h4 fun _ => rfl) (notComp_ok h2 _ _ _)) fun D σ H q => ?_
      obtain ⟨I, ρ, T, own, w, er, p⟩ := q
      refine ⟨I, ρ, T, own, w, er, Post.toD ((PostS.step (rel := relD Γ) (show PostS Γ X.s_0.heap.objs.size W D (Ow own) H I _ from p) Ext.refl).imp fun v H1 q1 => ?_)⟩
      obtain ⟨d, T1, I1, _, x1, w1, r1, p1⟩ := q1
      split at p1
      · rename_i c' xs e0
        split at p1
        · rename_i hc
          obtain ⟨rfl, hc2, hc3⟩ := hc
          obtain ⟨v0, s1, b, dx, us, s2, rfl, sm, s4, s5, s6⟩ := er.at_ i _ e0
          rw [F.cd] at s4 s5
          obtain ⟨f1, f2, f3⟩ := er.free i b (by rw [s2]; simp)
          have s4' : H1 b = some (.ins (cAd Γ c') dx us) := x1.fr _ _ s4 f2 (fun z => z) trivial
          have hus : us.length = xs.length := by
            have := s6.length
            rwa [List.length_map] at this
          have hlt : xs.length < (cdT c').2.length := (List.getElem?_eq_some_iff.mp hc2).1
          have hput : putF f' v us = us ++ [(f', v)] := putF_new (by rw [s5]; exact hc3)
          refine ⟨_, s1, b, _, dx, us, rfl, s4', by rw [g.K]; exact F.cl, ?_, ?_, ?_⟩
          · rw [g.K]
            exact F.na _ (List.mem_of_getElem? hc2)
          · rw [hus]
            have : (cdT c').2.length ≤ 10 := by
              match c' with
              | 0 => decide
              | 1 => decide
              | 2 => decide
              | _ + 3 => show (2 + 1 : Nat) ≤ 10; decide
            omega
          · rw [hput]
            refine p1 σ _ I1 own (write_aft er x1 w1 e0 s2 s1 ⟨b, dx, us ++ [(f', v)], rfl, rfl, x1.mm.trans sm, by rw [F.cd]; exact upd_same, ?_, ?_⟩)
            · rw [F.cd, List.map_append, s5, List.length_append]
              show _ ++ [f'] = (cdT c').2.take (xs.length + 1)
              rw [List.take_add_one, hc2]
              rfl
            · rw [List.map_append]
              exact (s6.mono x1.le).append (Reps.cons r1 Reps.nil)
        · exact p1.elim
      · exact p1.elim
    · cases h
end Tp
end
section
set_option Elab.async false
set_option linter.all false
set_option maxRecDepth 100000
set_option maxHeartbeats 2000000
/-! TpS: C(..), methods, properties. -/
namespace Tp
open PySem PySem.Spec PyProof.Rows L2

/-- an __init__ by data: the attributes' values -/
abbrev IEv := List D → Cs → Ev (List D)
def PostI (Γ : Gam) (c : Nat) (x : Addr) (H : Hp) (I : Im) (res : Ev (List D)) (Q : VK) (E : XK) : Prop := match res with
  | .no => False
  | .ok xs T' => ∀ H' I' dx us, Ext (fun a => a = x) H I H' I' → Wf Γ H' I' T' → H' x = some (.ins (cAd Γ c) dx us) → I'.G x = none → x ∉ I'.κ → us.map (·.1) = (cdT c).2 → Reps Γ I' xs (us.map (·.2)) → Q .non H'
  | .ex e T' => ∀ cls d H' I', Ext (fun a => a = x) H I H' I' → Wf Γ H' I' T' → RepX Γ I' e cls d → E cls d H'
def spI (Γ : Gam) (c m : Nat) (ev : IEv) : Sp := fun vs H Q E => ∃ x dx us I T ds, vs = .ref x :: us ∧ Wf Γ H I T ∧ Reps Γ I ds us ∧ ds.length + 1 = m ∧ H x = some (.ins (cAd Γ c) dx []) ∧ I.G x = none ∧ x ∉ I.κ ∧ I.me = some x ∧ PostI Γ c x H I (ev ds T) Q E
def initEv (c m N : Nat) (b : Env → Cs → Ev Fl) : IEv := fun ds T => if ds.length + 1 = m then (b (some (LV.oo c []) :: (ds.map (fun d => some (.sh d)) ++ List.replicate (N - m) none)) T).bind fun f T1 => (match f with
  | .nx ρ => (match ρ[0]? with
    | some (some (LV.oo c' xs)) => if c' = c ∧ xs.length = (cdT c).2.length then .ok xs T1 else .no
    | _ => .no)
  | _ => .no) else .no
structure InitIs (Γ : Gam) (c : Nat) (s : DefSig) (ev : IEv) (f : Addr) : Prop where
  mkr : Mk Γ.K (cAd Γ c) f
  kp : PySem.W.keepIn Γ.K (.ref f) = true
  fn : ∃ fd, FunD Γ.K s.nm s.qual s.params s.body s.scope (s.dfl.map constV) [] f fd ∧ FnG Γ s.lv f fd s.ps (spI Γ c s.ps.length ev)
theorem er_init {Γ : Gam} {n : Nat} {N : List Str} {H : Hp} {I : Im} {ds : List D} {vs : List V} {x dx : Addr} {c : Nat} (cd : Γ.cd = cdT) (r : Reps Γ I ds vs) (hx : H x = some (.ins (cAd Γ c) dx [])) (hg : I.G x = none) (hk : x ∉ I.κ) (hm : I.me = some x) :
    ER Γ n (L2.start N (.ref x :: vs)) (some (.oo c []) :: (ds.map (fun d => some (.sh d)) ++ List.replicate (N.length - (ds.length + 1)) none)) H I (fun i => if i = 0 then [x] else []) where
  len := by
    unfold L2.start
    rw [List.length_append, List.length_map, List.length_replicate, List.length_cons, List.length_cons, List.length_append, List.length_map, List.length_replicate, r.length]
    omega
  at_ := fun i lv h => by
    cases i with
    | zero =>
      simp at h
      subst h
      refine ⟨.ref x, ?_, x, dx, [], rfl, rfl, hm, ?_, ?_, Reps.nil⟩
      · unfold L2.start; rfl
      · rw [cd]; exact hx
      · simp
    | succ i =>
      rw [List.getElem?_cons_succ] at h
      by_cases hi : i < ds.length
      · rw [List.getElem?_append_left (by simpa using hi), List.getElem?_map] at h
        have e : ds[i]? = some ds[i] := by simp [hi]
        rw [e] at h
        cases h
        obtain ⟨v, h1, h2⟩ := r.get e
        refine ⟨v, ?_, rfl, h2⟩
        unfold L2.start
        rw [List.getElem?_append_left (by simp [r.length]; exact hi), List.getElem?_map, List.getElem?_cons_succ, h1]
        rfl
      · rw [List.getElem?_append_right (by simpa using hi), List.getElem?_replicate] at h
        split at h <;> cases h
  dead := fun i h => by
    by_cases hi : i = 0
    · subst hi
      exact absurd rfl (h (.oo c []))
    · rw [if_neg hi]
  free := fun i a ha => by
    split at ha
    · have e : a = x := by simpa using ha
      subst e
      exact ⟨hg, hk, by rw [hx]; simp⟩
    · cases ha
  disj := fun i j a h1 h2 => by
    split at h1
    · split at h2
      · rename_i e1 e2; rw [e1, e2]
      · cases h2
    · cases h1
theorem InitIs.of {Γ : Gam} {c : Nat} {s : DefSig} {f : Addr} {k : Nat} (cd : Γ.cd = cdT) (M : Mk Γ.K (cAd Γ c) f) (hlv : s.lv = k + 1) (hs : sigOk s = true) (F : ∃ fd, FunD Γ.K s.nm s.qual s.params s.body s.scope (s.dfl.map constV) [] f fd) (b : CS) (nd : b.need Γ) (h : b.chk k ⟨s.N, s.scope.names, s.scope.names⟩ s.body = true) :
    InitIs Γ c s (initEv c s.ps.length s.N.length b.ev) f := by
  obtain ⟨fd, F⟩ := F
  have S := sigOk_ok hs
  refine ⟨M, F.kp, fd, F, ?_⟩
  obtain ⟨oc, od, dV, kV, doc, pm, an, cdv, ct, osl, rfl, lk, hcd, _, _⟩ := F.ex
  rw [hlv]
  refine FnG.of lk hcd S (fun vs H Q E ⟨x, dx, us, I, T, ds, e, w, r, hl, _⟩ => by rw [e, List.length_cons, r.length, hl]) fun A outer sh H vs Q E hg hr ⟨x, dx, us, I, T, ds, e, w, r, hl, hx, g0, k0, m0, p⟩ => ?_
  subst e
  refine ⟨_, b.ok (goodDef S.kind S.nd hg hr (sigOk_no hs)) nd h, ?_⟩
  refine ⟨I, _, T, _, w, er_init (N := s.N) cd r hx g0 k0 m0, ?_⟩
  unfold initEv at p
  rw [if_pos hl] at p
  rw [hl]
  show PostS Γ _ _ _ (Ow fun i => if i = 0 then [x] else []) H I (b.ev _ T)
  have hO : ∀ a, Ow (fun i => if i = 0 then [x] else []) a → a = x := fun a ⟨i, h⟩ => by
    have h : a ∈ (if i = 0 then [x] else []) := h
    split at h
    · simpa using h
    · cases h
  cases e : b.ev (some (.oo c []) :: (ds.map (fun d => some (.sh d)) ++ List.replicate (s.N.length - s.ps.length) none)) T with
  | no => rw [e] at p; exact p
  | ex y T' => rw [e] at p; exact fun cls d σ' H' I' x' w' r' => p cls d H' I' (x'.mono hO) w' r'
  | ok f T1 =>
    rw [e] at p
    cases f with
    | nx ρ' =>
      intro σ' H' I' own' af
      have p : PostI Γ c x H I (match ρ'[0]? with
        | some (some (LV.oo c' xs)) => if c' = c ∧ xs.length = (cdT c).2.length then .ok xs T1 else .no
        | _ => .no) Q E := p
      split at p
      · rename_i c' xs e0
        split at p
        · rename_i hc
          obtain ⟨rfl, hc2⟩ := hc
          obtain ⟨v0, s1, b1, dx', us', s2, s3, sm, s4, s5, s6⟩ := af.er.at_ 0 _ e0
          rw [cd] at s4 s5
          obtain ⟨f1, f2, f3⟩ := af.er.free 0 b1 (by rw [s2]; simp)
          have hbx : x = b1 := by
            have := af.ext.mm.trans m0
            rw [this] at sm
            exact Option.some.inj sm
          subst hbx
          refine p H' I' dx' us' (af.ext.mono hO) af.wf s4 f1 f2 ?_ s6
          rw [s5, hc2, List.take_length]
        · exact p.elim
      · exact p.elim
    | bk ρ' => exact p.elim
    | ct ρ' => exact p.elim
    | rt lv => exact p.elim

/-! ### C(..) -/
def shS : List Src → List Src := List.map fun s => match s with
  | .a i => .a (i + 1)
  | .d i => .d i
theorem sel_sh {α : Type} {z x : α} {vals dfl : List α} : ∀ {srcs : List Src}, sel z (x :: vals) dfl (shS srcs) = sel z vals dfl srcs
  | [] => rfl
  | .a i :: l => by
    show List.getD (x :: vals) (i + 1) z :: sel z (x :: vals) dfl (shS l) = _
    rw [sel_sh]; rfl
  | .d i :: l => by
    show List.getD dfl i z :: sel z (x :: vals) dfl (shS l) = _
    rw [sel_sh]; rfl
theorem sel_self {α : Type} {z x : α} {vals dfl : List α} {srcs : List Src} : sel z (x :: vals) dfl (.a 0 :: shS srcs) = x :: sel z vals dfl srcs := by
  show List.getD (x :: vals) 0 z :: sel z (x :: vals) dfl (shS srcs) = _
  rw [sel_sh]; rfl
theorem Reps.me {Γ : Gam} {I : Im} {ds : List D} {vs : List V} (h : Reps Γ I ds vs) (m : Option Addr) : Reps Γ ⟨I.G, I.κ, m⟩ ds vs := Reps.mono0 (I := I) (I' := ⟨I.G, I.κ, m⟩) (fun _ _ h => h) (fun _ _ h => h) h
theorem Wf.me {Γ : Gam} {H : Hp} {I : Im} {T : Cs} (w : Wf Γ H I T) (m : Option Addr) : Wf Γ H ⟨I.G, I.κ, m⟩ T :=
  ⟨w.gh, w.nd, w.kg, w.len, fun n a ds e1 e2 => let ⟨vs, h1, h2⟩ := w.cells n a ds e1 e2; ⟨vs, h1, h2.me m⟩, w.ug, w.tb, w.lc, w.tg⟩
theorem make_guards {A : Around} {C : Addr} {us : List Value} {kw : List (Str × Value)} {Γ : Gam} (h : GdX Γ A) : GdX Γ (A.under (.builtin "type.__call__" ⟨.ref C :: us, kw⟩)) := by
  obtain ⟨gs, h1, h2⟩ := h
  exact ⟨gs, by simp [Around.under, Code.guards, Code.isGuard, guardIds, pushGuards, h1], h2⟩
def makeEv (c : Nat) (ev : IEv) (srcs : List Src) (dfl : List D) (a b : Env → Cs → Ev (List D)) : Env → Cs → Ev R := fun ρ T => (a ρ T).bind fun ds T1 => (b ρ T1).bind fun es T2 => (ev (sel .non (ds ++ es) dfl srcs) T2).bind fun xs T3 => .ok (.v (.sh (.obj c xs))) T3
section
variable {Γ : Gam} {k : Nat} {W : WX} {sc : Sc} {X : Cx} {n : Nat}
theorem make_end (g : Good Γ k W sc X) {c : Nat} {s : DefSig} {ev : IEv} {f : Addr} {m : Nat} {ks : List Str} {srcs : List Src} (cd : Γ.cd = cdT) (F : InitIs Γ c s ev f) (B : BindOk s (m + 1) ks (.a 0 :: shS srcs)) (hlv : s.lv + 1 ≤ k) {pins : List (Addr × Obj)} {σ : L2.St} {H : Hp} {sh : Shared} {Q : VK} {us ws : List Value} {vs zs : List V} {ds es : List D} {I : Im} {T : Cs} {own : Nat → List Addr}
    (Iv : L2.Inv X pins σ H sh) (r1 : Vals vs us) (r2 : Vals zs ws) (d1 : Reps Γ I ds vs) (d2 : Reps Γ I es zs) (h1 : ds.length = m) (h2 : es.length = ks.length) (w : Wf Γ H I T) {Hs : Hp} {Is : Im} (x : Ext O0 Hs Is H I)
    (p : Post Γ (RepR Γ n own) W σ Hs Is ((ev (sel .non (ds ++ es) s.dfl srcs) T).bind fun xs T3 => .ok (.v (.sh (.obj c xs))) T3) Q) : wpAny (model X.prog X.w) X.A (call (.ref (cAd Γ c)) us (ks.zip ws)) (EP X pins σ Q) X.xe sh := by
  obtain ⟨fd, FD, FG⟩ := F.fn
  have I2 := L2.Inv.made (C := cAd Γ c) Iv
  generalize hxa : sh.heap.objs.size + 1 = xa at I2
  generalize hda : sh.heap.objs.size = da at I2
  have fx : H xa = none := Iv.hok.fresh (by rw [← hxa]; exact Nat.le_succ _)
  have fd' : H da = none := Iv.hok.fresh (by rw [← hda]; exact Nat.le_refl _)
  have hne : da ≠ xa := by rw [← hxa, ← hda]; exact Nat.ne_of_lt (Nat.lt_succ_self _)
  have KI : Γ.K.In sh.heap := by rw [← g.K]; exact Iv.kIn
  have KI2 : Γ.K.In ((sh.heap.push PySem.W.emptyDict).push (PySem.W.instObj (cAd Γ c) da)) := by rw [← g.K]; exact I2.kIn
  obtain ⟨its, ri, hb⟩ := bind_of (sh := { sh with heap := (sh.heap.push PySem.W.emptyDict).push (PySem.W.instObj (cAd Γ c) da) }) B FD KI2 (us := .ref xa :: us) (ws := ws) (by rw [List.length_cons, ← r1.length, d1.length, h1]) (by rw [← r2.length, d2.length, h2])
  have e0 : Env0 Γ.P Γ.w Γ.K Γ.mg Γ.base X.A X.stack { sh with heap := (sh.heap.push PySem.W.emptyDict).push (PySem.W.instObj (cAd Γ c) da) } (upd (upd H da (.own xa)) xa (.ins (cAd Γ c) da [])) := by
    have := I2.env0
    rw [g.prog, g.w, g.K, g.mg, g.base] at this
    exact this
  -- the new instance
  have xx : Ext O0 H I (upd (upd H da (.own xa)) xa (.ins (cAd Γ c) da [])) I := (Ext.new fd' _).tr0 (Ext.new (by rw [upd_ne hne.symm]; exact fx) _)
  have ww : Wf Γ (upd (upd H da (.own xa)) xa (.ins (cAd Γ c) da [])) I T := (w.new fd' _).new (by rw [upd_ne hne.symm]; exact fx) _
  have gx : I.G xa = none := w.gnone fx
  have kx : xa ∉ I.κ := w.nocell fx
  have hsp : spI Γ c s.ps.length ev (.ref xa :: sel .non (vs ++ zs) (s.dfl.map constV) srcs) (upd (upd H da (.own xa)) xa (.ins (cAd Γ c) da [])) (fun v H2 => v = .non ∧ Q (.ref xa) H2) (WE W σ) := by
    refine ⟨xa, da, _, ⟨I.G, I.κ, some xa⟩, T, sel .non (ds ++ es) s.dfl srcs, rfl, ww.me _, Reps.me (Reps.sel (d1.append d2) (Reps.consts B.cs) srcs) _, ?_, upd_same, gx, kx, rfl, ?_⟩
    · have := B.len
      unfold sel
      unfold shS at this
      simpa using this
    · cases e : ev (sel .non (ds ++ es) s.dfl srcs) T with
      | no => rw [e] at p; exact p
      | ex y T' =>
        rw [e] at p
        intro cls d H' I' x' w' r'
        refine p cls d H' ⟨I'.G, I'.κ, Is.me⟩ ?_ (w'.me _) ?_
        · have xo : Ext O0 H I H' ⟨I'.G, I'.κ, I.me⟩ := by
            have z := (xx.trans (O := O0) (I2 := ⟨I'.G, I'.κ, I.me⟩) (O2 := fun a => a = xa) ⟨x'.gg, x'.kk, x'.fr, x'.th, x'.gn, x'.kn, rfl⟩ (fun _ h => h) fun a ha => .inr (by rw [ha]; exact fx))
            exact z
          have z := x.tr0 xo
          exact ⟨z.gg, z.kk, z.fr, z.th, z.gn, z.kn, rfl⟩
        · obtain ⟨q1, q2⟩ := r'
          refine ⟨q1, q2.imp id fun ⟨a, us, q3, q4, q5, q6⟩ => ⟨a, us, q3, q4, q5, q6.me _⟩⟩
      | ok xs T3 =>
        rw [e] at p
        intro H' I' dx us' x' w' hH hG hK hn hr
        refine ⟨rfl, ?_⟩
        have xo : Ext O0 H I H' ⟨I'.G, I'.κ, I.me⟩ :=
          xx.trans (O := O0) (I2 := ⟨I'.G, I'.κ, I.me⟩) (O2 := fun a => a = xa) ⟨x'.gg, x'.kk, x'.fr, x'.th, x'.gn, x'.kn, rfl⟩ (fun _ h => h) fun a ha => .inr (by rw [ha]; exact fx)
        have hs0 : Hs xa = none := by
          cases q : Hs xa with
          | none => rfl
          | some o => exact absurd fx (x.th xa (by rw [q]; simp))
        have z := (x.tr0 xo).frz (a := xa) (o := .ins (cAd Γ c) dx us') hs0 hG
        refine p (.ref xa) H' _ z ((w'.me I.me).freeze hH hG hK) (.sh ?_)
        simp only [Rep]
        refine ⟨xa, dx, us', rfl, by rw [cd]; exact upd_same, by rw [cd]; exact hn, Reps.mono (Im.Le.frz (I := ⟨I'.G, I'.κ, I.me⟩) hG) (hr.me I.me)⟩
  have hrun := FG.run (X.A.under (.builtin "type.__call__" ⟨.ref (cAd Γ c) :: us, ks.zip ws⟩)) X.stack _ _ ⟨.ref xa :: us, ks.zip ws⟩ (sel .none (.ref xa :: us ++ ws) its (.a 0 :: shS srcs)) (sel .non (.ref xa :: vs ++ zs) (s.dfl.map constV) (.a 0 :: shS srcs)) _ (WE W σ)
    (make_guards g.gd) ((g.room.mono hlv).make _ us (ks.zip ws)) (e0.make (cAd Γ c) us (ks.zip ws)) hb (Tp.Vals.sel (Paired.cons (show RelV (.ref xa) (.ref xa) from rfl) (r1.append r2)) ri _) (by
      rw [List.cons_append, sel_self]
      exact hsp)
  rw [← g.prog, ← g.w] at hrun
  refine wpAny_call (make_map (f := f) (K := Γ.K) KI F.mkr.makes F.mkr.init (beq_iff_eq.mp F.mkr.fn) ?_)
  rw [hxa, hda]
  refine codeAny_mono hrun ?_
  rintro r s' hq
  match r, hq with
  | .error e, hq => exact passAt g.tk σ pins _ _ e s' I2 hq
  | .ok (.ret u), hq =>
    obtain ⟨v, H', I3, rv, hv, q3⟩ := I2.after hq
    subst hv
    exact ⟨rv, ⟨V.ref xa, H', I3, rfl, q3⟩⟩
  | .ok .next, hq => exact hq.elim
  | .ok .brk, hq => exact hq.elim
  | .ok .cont, hq => exact hq.elim
end
end Tp
end
section
set_option Elab.async false
set_option linter.all false
set_option maxRecDepth 100000
set_option maxHeartbeats 2000000
/-! TpT: C(..), o.m(..), o.p in the code. -/
namespace Tp
open PySem PySem.Spec PyProof.Rows L2

/-- C(e, .., k = v, ..) -/
def cMake (c : Nat) (s : DefSig) (ev : IEv) (a : CD) (b : CKw) (srcs : List Src) {nn : Nat} {kk : List Str} {sr : List Src} (B : BindOk s nn kk sr) : CE where
  ev := makeEv c ev srcs s.dfl a.ev b.ev
  chk := fun k sc e => match e with
    | .Call (.Name x _) (e :: es) kws _ => (decide (nn = a.len + 1) && (decide (kk = b.ks) && decide (sr = .a 0 :: shS srcs))) && (decide (x = (cdT c).1) && (okName x && (isGl sc.nm x && (decide (s.lv + 1 ≤ k) && (noStars (e :: es) && (a.chk k sc (e :: es) && b.chk k sc kws))))))
    | _ => false
  need := fun Γ => ClsFull Γ c ∧ (∃ f, InitIs Γ c s ev f) ∧ a.need Γ ∧ b.need Γ
  z := a.z || b.z
  ok := by
    intro Γ k W sc X e n g nd h hz
    split at h
    · rename_i x px e es kws pos
      obtain ⟨h0, hB⟩ := b2 h
      obtain ⟨h01, h02⟩ := b2 h0
      obtain ⟨h02, h03⟩ := b2 h02
      have e01 := of_decide_eq_true h01
      have e02 := of_decide_eq_true h02
      have e03 := of_decide_eq_true h03
      subst e01
      subst e02
      subst e03
      obtain ⟨h1, h⟩ := b2 hB
      obtain ⟨h2, h⟩ := b2 h
      obtain ⟨h3, h⟩ := b2 h
      obtain ⟨h4, h⟩ := b2 h
      obtain ⟨h5, h⟩ := b2 h
      obtain ⟨h6, h7⟩ := b2 h
      have hx := of_decide_eq_true h1
      subst hx
      obtain ⟨d1, _, _⟩ := okName_d h2
      obtain ⟨CF, ⟨f, F⟩, na, nb⟩ := nd
      have hm' : X.mg (cdT c).1 = some (.ref (cAd Γ c)) := by rw [g.mg]; exact CF.mg
      have hkp : PySem.W.keepIn X.K (.ref (cAd Γ c)) = true := by rw [g.K]; exact F.mkr.kp
      have hlv := of_decide_eq_true h4
      have pa := a.ok (n := n) g na h6 (or1 hz).1
      have pk := b.ok (n := n) g nb h7 (or1 hz).2
      obtain ⟨n1, n2, n3⟩ := b.nm (env := X.env) (pos := pos) h7
      refine ⟨fun pins sh σ H Q Iv ⟨I, ρ, T, own, w, er, p⟩ => wpAny_Call_Name_kw (ld_glob Iv (isGl_ok g.nm h3) hm' ?_ d1)⟩
      refine PySem.W.callWith_KW (h₀ := X.base) Iv.ok.mod.kin hkp n1 (thn (pa.run pos pins sh σ H _ Iv ⟨I, ρ, T, own, w, er, Post.step (rel := relDs Γ) p Ext.refl⟩) ?_) (args_hp h5 n3) (star_cons (b2 h5).1)
      rintro us s1 ⟨vs, H1, Iv1, rv, ds, T1, I1, e1, x1, w1, r1, p1⟩
      refine thn (pk.run pos pins s1 σ H1 _ Iv1 ⟨I1, ρ, T1, own, w1, er.ext x1, Post.step (rel := relDs Γ) p1 x1⟩) ?_
      rintro ws s2 ⟨zs, H2, Iv2, rz, es', T2, I2, e2, x2, w2, r2, p2⟩
      rw [n2]
      exact ⟨Iv2.kIn, make_end g CF.cd F B hlv Iv2 rv rz (Reps.mono x2.le r1) r2 (a.hlen e1) (b.hlen e2) w2 (x1.tr0 x2) p2⟩
    · cases h
/-! ### methods -/
/-- the place of the parameters: all are written -/
def srcAll (n : Nat) : List Src := (List.range n).map .a
/-! ### properties -/
end Tp
end
section
set_option Elab.async false
set_option linter.all false
set_option maxRecDepth 100000
set_option maxHeartbeats 400000
/-! TpU: a zip at a name, walked at once by the comprehension that is handed on. -/
namespace Tp
open PySem PySem.Spec PyProof.Rows L2

def updL (H : Hp) : List (Addr × (Heap → Prop)) → Hp
  | [] => H
  | p :: r => upd (updL H r) p.1 (.ext p.2)
def dropL (H : Hp) : List Addr → Hp
  | [] => H
  | a :: r => dropL (ItX.dropH H a) r
section
variable {X : Cx} {pins : List (Addr × Obj)} {σ : L2.St} {H : Hp} {s : Shared} {h' : Heap}
theorem updL_new (I : L2.Inv X pins σ H s) : ∀ {l : List (Addr × (Heap → Prop))} {a : Addr}, s.heap.objs.size ≤ a → updL H l a = none ∨ ∃ φ, updL H l a = some (.ext φ)
  | [], a, h => .inl (I.hok.fresh h)
  | p :: r, a, h => by
    show upd (updL H r) p.1 (.ext p.2) a = none ∨ _
    by_cases e : a = p.1
    · subst e
      exact .inr ⟨p.2, by show upd _ _ _ _ = _; rw [upd_same]⟩
    · rw [upd_ne e]
      rcases updL_new I h with q | ⟨φ, q⟩
      · exact .inl q
      · exact .inr ⟨φ, by show upd _ _ _ _ = _; rw [upd_ne e]; exact q⟩
structure Laid (h h' : Heap) (p : Addr × (Heap → Prop)) : Prop where
  sz : h.objs.size ≤ p.1
  is : p.2 h'
  ob : ∃ o, h'.get? p.1 = some o
  st : ∀ h1 h2 : Heap, p.2 h1 → (∀ o, h1.get? p.1 = some o → h2.get? p.1 = some o) → p.2 h2
theorem laidL (I : L2.Inv X pins σ H s) (hk : ∀ b o, s.heap.get? b = some o → h'.get? b = some o) : ∀ {l : List (Addr × (Heap → Prop))}, (∀ p ∈ l, Laid s.heap h' p) → Un X.fs [] H (updL H l) s.heap h' ∧ HOk X.prog X.w (updL H l) h'
  | [], _ => ⟨Un.kept hk, I.hok.kept hk⟩
  | p :: r, hl => by
    obtain ⟨u, ok⟩ := laidL I hk (l := r) fun q hq => hl q (List.mem_cons_of_mem _ hq)
    have L := hl p List.mem_cons_self
    have hn := I.hok.fresh L.sz
    have other : ∀ b o, updL H r b = some o → (∀ φ, o ≠ .ext φ) → upd (updL H r) p.1 (.ext p.2) b = some o := fun b o e ne => by
      rw [upd_ne]
      · exact e
      · rintro rfl
        rcases updL_new I (l := r) L.sz with q | ⟨φ, q⟩
        · rw [q] at e; cases e
        · rw [q] at e; exact ne φ (Option.some.inj e).symm
    refine ⟨⟨u.keep, u.slot, fun b o e n hx => ?_, u.there, fun b xs q => other b _ (u.tups b xs q) (fun _ z => nomatch z), fun b o xs q => other b _ (u.frzs b o xs q) (fun _ z => nomatch z), fun b ps q => ?_⟩, fun b o e => ?_⟩
    · show upd (updL H r) p.1 _ b = none
      rw [upd_ne (Nat.ne_of_lt (Nat.lt_of_lt_of_le (Heap.lt_size e) L.sz))]
      exact u.free b o e n hx
    · obtain ⟨m, q2⟩ := u.tbls b ps q
      exact ⟨m, other b _ q2 (fun _ z => nomatch z)⟩
    · have e : upd (updL H r) p.1 (.ext p.2) b = some o := e
      by_cases hb : b = p.1
      · subst hb
        rw [upd_same] at e; cases e
        exact ⟨L.is, L.ob, L.st⟩
      · rw [upd_ne hb] at e
        exact (ok b o e).stay (fun _ _ _ q => q) (fun c q => other c _ q (fun _ z => nomatch z)) fun c xs q => other c _ q (fun _ z => nomatch z)
end
/-- the five parts of a zip just made -/
def zipPs (la lb z ti to i1 i2 : Addr) : List (Addr × (Heap → Prop)) :=
  [(z, fun h => IsZip h z ti to .none), (ti, fun h => IsPair h ti (.ref i1) (.ref i2)), (to, fun h => ∃ x y, IsPair h to x y), (i1, fun h => h.IsListIter i1 la 0), (i2, fun h => h.IsListIter i2 lb 0)]
structure NewZ (n : Nat) (H : Hp) (la lb z ti to i1 i2 : Addr) : Prop where
  ap : ZipApart z ti to i1 i2 la lb
  new : ∀ c, c ∈ [z, ti, to, i1, i2] → H c = none ∧ n ≤ c
def tZip (K : PySem.W.Frag) (n : Nat) (ta : TA) : TE := fun σ H Q => ta σ H fun vs H1 => ∃ la lb xs ys, vs = [.ref la, .ref lb] ∧ SqL K H1 la xs ∧ SqL K H1 lb ys ∧
  ∀ z ti to i1 i2, NewZ n H1 la lb z ti to i1 i2 → Q (.ref z) (updL H1 (zipPs la lb z ti to i1 i2))
theorem pe_zipN {X : Cx} {e e2 : Expr} {ta : TA} {p pos : Pos} (hg : Gl X "zip") (hm : X.mg "zip" = none) (ha : PA X [e, e2] ta) (hs : starEach [e, e2] X.env = (false, eval e X.env) :: starEach [e2] X.env) (hpl : (backTo pos (starEach [e2] X.env)).any (·.1) = false) :
    PE X (.Call (.Name "zip" p) [e, e2] [] pos) (tZip X.K X.s_0.heap.objs.size ta) := by
  refine ⟨fun pins s σ H Q I h => ?_⟩
  unfold tZip at h
  refine Call_ (ld_blt I hg hm PyProof.Rows.boot_zip ?_)
  refine PyProof.Rows.callWith_type1 (thn (ha.run pos pins s σ H _ I h) fun us s1 ⟨vs, H1, I1, r1, q1⟩ => ?_) hs hpl
  obtain ⟨la, lb, xs, ys, ex, hx, hy, q⟩ := q1
  subst ex
  cases r1 with
  | cons r rr =>
    cases rr with
    | cons r' rr =>
      cases rr
      cases r
      cases r'
      obtain ⟨its, rv, p1, _⟩ := I1.list hx
      obtain ⟨its2, rv2, p2, _⟩ := I1.list hy
      refine call_zip_2 p1.isList p2.isList fun h' hz hti hto h1 h2 hsz hk => ?_
      generalize hN : s1.heap.objs.size = N at hz hti hto h1 h2
      have lt1 := p1.lt
      have lt2 := p2.lt
      rw [hN] at lt1 lt2
      have hall : ∀ p ∈ zipPs la lb (N + 4) (N + 2) (N + 3) N (N + 1), Laid s1.heap h' p := by
        intro p hp
        simp only [zipPs, List.mem_cons, List.not_mem_nil, or_false] at hp
        rcases hp with rfl | rfl | rfl | rfl | rfl
        · exact ⟨by rw [hN]; exact Nat.le_add_right _ _, hz, ⟨_, hz⟩, fun h1 h2 q k => k _ q⟩
        · exact ⟨by rw [hN]; exact Nat.le_add_right _ _, hti, ⟨_, hti⟩, fun h1 h2 q k => k _ q⟩
        · exact ⟨by rw [hN]; exact Nat.le_add_right _ _, ⟨_, _, hto⟩, ⟨_, hto⟩, fun h1 h2 ⟨x, y, q⟩ k => ⟨x, y, k _ q⟩⟩
        · obtain ⟨o, q, _⟩ := id h1
          exact ⟨by rw [hN]; exact Nat.le_refl _, h1, ⟨o, q⟩, fun a b q k => q.at fun o z => k o z⟩
        · obtain ⟨o, q, _⟩ := id h2
          exact ⟨by rw [hN]; exact Nat.le_add_right _ _, h2, ⟨o, q⟩, fun a b q k => q.at fun o z => k o z⟩
      obtain ⟨u, ok⟩ := laidL I1 hk hall
      have new : ∀ c, c ∈ [N + 4, N + 2, N + 3, N, N + 1] → H1 c = none ∧ X.s_0.heap.objs.size ≤ c := fun c hc => by
        have hle : s1.heap.objs.size ≤ c := by
          simp only [List.mem_cons, List.not_mem_nil, or_false] at hc
          omega
        exact ⟨I1.hok.fresh hle, Nat.le_trans I1.sz hle⟩
      have hq := q (N + 4) (N + 2) (N + 3) N (N + 1) ⟨PySem.W.ktu_apart N la lb lt1 lt2, new⟩
      exact ⟨.ref (N + 4), _, I1.un (t' := s1.toks) u ok, rfl, hq⟩
/-- walked by its name, then forgotten -/
def iZpv (K : PySem.W.Frag) (n i : Nat) : TI := fun σ H R => ∃ z ti to i1 i2 la lb, σ[i]? = some (some (.ref z)) ∧ (∀ p ∈ zipPs la lb z ti to i1 i2, H p.1 = some (.ext p.2)) ∧ ZipApart z ti to i1 i2 la lb ∧ (∀ c, c ∈ [z, ti, to, i1, i2] → n ≤ c) ∧ R (Itz K la lb) (dropL H [z, ti, to, i1, i2])
theorem dropL_none {b : Addr} : ∀ {l : List Addr} {H : Hp}, H b = none → dropL H l b = none
  | [], _, h => h
  | a :: r, H, h => by
    refine dropL_none (l := r) ?_
    by_cases e : b = a
    · subst e; exact ItX.dropH_same
    · rw [ItX.dropH_ne e]; exact h
theorem dropL_in {b : Addr} : ∀ {l : List Addr} {H : Hp}, b ∈ l → dropL H l b = none
  | [], _, h => by cases h
  | a :: r, H, h => by
    by_cases e : b = a
    · subst e
      exact dropL_none (l := r) ItX.dropH_same
    · exact dropL_in (l := r) ((List.mem_cons.mp h).resolve_left e)
theorem dropL_out {b : Addr} : ∀ {l : List Addr} {H : Hp}, b ∉ l → dropL H l b = H b
  | [], _, _ => rfl
  | a :: r, H, h => by
    simp only [List.mem_cons, not_or] at h
    have : dropL (ItX.dropH H a) r b = ItX.dropH H a b := dropL_out (l := r) h.2
    show dropL (ItX.dropH H a) r b = _
    rw [this, ItX.dropH_ne h.1]
theorem invL_drop {X : Cx} {pins : List (Addr × Obj)} {σ : L2.St} {s : Shared} : ∀ {l : List Addr} {H : Hp}, L2.Inv X pins σ H s → (∀ a ∈ l, ∃ φ, H a = some (.ext φ)) → l.Nodup → L2.Inv X pins σ (dropL H l) s
  | [], _, I, _, _ => I
  | a :: r, H, I, h, nd => by
    obtain ⟨φ, e⟩ := h a List.mem_cons_self
    refine invL_drop (l := r) (ItX.inv_drop I e) (fun b hb => ?_) (List.nodup_cons.mp nd).2
    obtain ⟨ψ, q⟩ := h b (List.mem_cons_of_mem _ hb)
    refine ⟨ψ, ?_⟩
    rw [ItX.dropH_ne]
    · exact q
    · rintro rfl
      exact (List.nodup_cons.mp nd).1 hb
theorem five_nd {z ti to i1 i2 la lb : Addr} (D : ZipApart z ti to i1 i2 la lb) : [z, ti, to, i1, i2].Nodup := by
  simp only [List.nodup_cons, List.mem_cons, List.not_mem_nil, or_false, not_or, List.nodup_nil, and_true, not_false_iff]
  exact ⟨⟨D.TIz.symm, D.TOz.symm, D.i1z.symm, D.i2z.symm⟩, ⟨D.TITO, D.TIi1, D.TIi2⟩, ⟨D.TOi1, D.TOi2⟩, D.i12⟩
theorem pi_zpv {X : Cx} {i : Nat} {x : Str} {p : Pos} {elts : List Expr} {kk : Nat} {tpos : Pos} (hv : PE X (.Name x p) (tVar i)) : PI X (.Tuple elts kk tpos) (.Name x p) (iZpv X.K X.s_0.heap.objs.size i) := by
  refine ⟨fun pins s σ H R I h => ?_⟩
  obtain ⟨z, ti, to, i1, i2, la, lb, hs, hp, D, hn, q⟩ := h
  refine thn (hv.run pins s σ H (fun v H1 => v = .ref z ∧ H1 = H) I ⟨.ref z, hs, rfl, rfl⟩) ?_
  rintro u s1 ⟨v, H1, I1, r1, ev, eH⟩
  subst ev eH
  cases r1
  have hob : ∀ p ∈ zipPs la lb z ti to i1 i2, p.2 s1.heap := fun p hp' => (I1.hok p.1 _ (hp p hp')).1
  have o1 := hob (z, fun h => IsZip h z ti to .none) (by simp [zipPs])
  have o2 := hob (ti, fun h => IsPair h ti (.ref i1) (.ref i2)) (by simp [zipPs])
  have o3 := hob (to, fun h => ∃ x y, IsPair h to x y) (by simp [zipPs])
  have o4 := hob (i1, fun h => h.IsListIter i1 la 0) (by simp [zipPs])
  have o5 := hob (i2, fun h => h.IsListIter i2 lb 0) (by simp [zipPs])
  have hx : ∀ c, c ∈ [z, ti, to, i1, i2] → ∃ φ, H1 c = some (.ext φ) := fun c hc => by
    simp only [List.mem_cons, List.not_mem_nil, or_false] at hc
    rcases hc with rfl | rfl | rfl | rfl | rfl
    · exact ⟨_, hp _ (by simp [zipPs]; exact .inl rfl)⟩
    · exact ⟨_, hp (c, fun h => IsPair h c (.ref i1) (.ref i2)) (by simp [zipPs])⟩
    · exact ⟨_, hp (c, fun h => ∃ x y, IsPair h c x y) (by simp [zipPs])⟩
    · exact ⟨_, hp (c, fun h => h.IsListIter c la 0) (by simp [zipPs])⟩
    · exact ⟨_, hp (c, fun h => h.IsListIter c lb 0) (by simp [zipPs])⟩
  refine wpAny_pyIter_zip o1 ?_
  refine ⟨z, [z, ti, to, i1, i2], _, _, dropL H1 [z, ti, to, i1, i2], rfl, invL_drop I1 hx (five_nd D), turn_zip D, ⟨o1, o2, o3, o4, o5⟩, fun b hb => ?_, q⟩
  obtain ⟨φ, e⟩ := hx b hb
  exact ⟨dropL_in hb, (ItX.inv_fp I1 e (hn b hb)).2⟩
theorem updL_at {H : Hp} : ∀ {l : List (Addr × (Heap → Prop))}, (l.map (·.1)).Nodup → ∀ p ∈ l, updL H l p.1 = some (.ext p.2)
  | [], _, _, h => by cases h
  | q :: r, nd, p, h => by
    have nd2 := List.nodup_cons.mp nd
    show upd (updL H r) q.1 (.ext q.2) p.1 = _
    rcases List.mem_cons.mp h with e | e
    · subst e; rw [upd_same]
    · rw [upd_ne]
      · exact updL_at nd2.2 p e
      · intro z
        exact nd2.1 (List.mem_map.mpr ⟨p, e, z⟩)
theorem updL_out {H : Hp} {b : Addr} : ∀ {l : List (Addr × (Heap → Prop))}, b ∉ l.map (·.1) → updL H l b = H b
  | [], _ => rfl
  | q :: r, h => by
    rw [List.map_cons, List.mem_cons, not_or] at h
    show upd (updL H r) q.1 (.ext q.2) b = _
    rw [upd_ne h.1]
    exact updL_out h.2
theorem drop_upd {H : Hp} {l : List (Addr × (Heap → Prop))} (hn : ∀ c, c ∈ l.map (·.1) → H c = none) : dropL (updL H l) (l.map (·.1)) = H := by
  funext b
  by_cases hb : b ∈ l.map (·.1)
  · rw [dropL_in hb, hn b hb]
  · rw [dropL_out hb, updL_out hb]
theorem lc_zip {Γ : Gam} {n : Nat} {W : WX} {K : PySem.W.Frag} {m i : Nat} {gev : D → Env → Cs → Ev Env} {cev : Env → Cs → Ev Bool} {eev : Env → Cs → Ev D} {sl vs : List Nat} (hs : ∀ j, j ∈ sl → j ∈ vs)
    (hp : ∀ d ρ T ρ1 T1, gev d ρ T = .ok ρ1 T1 → ρ1.length = ρ.length ∧ ∀ j, j ∉ sl → ρ1[j]? = ρ[j]?) {σ σe : L2.St} {H2 : Hp} {Q : VK} {I2 : Im} {ρ : Env} {T1 : Cs} {own : Nat → List Addr} {ds : List D} {z ti to i1 i2 la lb : Addr} (hz : σ[i]? = some (some (.ref z))) (nw : NewZ m H2 la lb z ti to i1 i2)
    (w2 : Wf Γ H2 I2 T1) (er : ER Γ n σ ρ H2 I2 own) (wk : Walk Γ (Itz K la lb) I2 ds) (p : PostLc Γ W σe H2 I2 (noX (lcEv gev cev eev (forget ρ vs) ds T1)) Q) :
    tLc (iZpv K m i) (tGt Γ n W0 sl true gev) (tT Γ n W0 cev) (tD Γ n W0 eev) vs σ (updL H2 (zipPs la lb z ti to i1 i2)) Q := by
  have hnew : ∀ c, c ∈ (zipPs la lb z ti to i1 i2).map (·.1) → H2 c = none := fun c hc => (nw.new c hc).1
  refine ⟨z, ti, to, i1, i2, la, lb, hz, fun p hp => updL_at (l := zipPs la lb z ti to i1 i2) (five_nd nw.ap) p hp, nw.ap, fun c hc => (nw.new c hc).2, ?_⟩
  have hd : dropL (updL H2 (zipPs la lb z ti to i1 i2)) [z, ti, to, i1, i2] = H2 := drop_upd hnew
  rw [hd]
  exact lc_walk hs hp Ext.refl w2 er wk p
/-- x = zip(a, b); return f(y, [e for t in x]) -/
def zip2Ev (i j : Nat) (a b : Env → Cs → Ev D) (g : D → Env → Cs → Ev Env) (e : Env → Cs → Ev D) (vs : List Nat) (ev : FEv) (srcs : List Src) (dfl : List D) : Env → Cs → Ev Fl := fun ρ T => (a ρ T).bind fun x T1 => (b ρ T1).bind fun y T2 => match dLst x, dLst y, (if i < ρ.length then (forget ρ [i])[j]? else none) with
  | some xs, some ys, some (some (.sh d)) => (noX (lcEv g (evC none) e (forget (forget ρ [i]) vs) (zipD xs ys) T2)).bind fun out T3 => if out.length ≤ lim then (ev (sel .non [d, .lst out] dfl srcs) T3).bind fun lv T4 => (match lv with
    | .sh d => .ok (.rt (.sh d)) T4
    | .ow xs => .ok (.rt (.ow xs)) T4
    | .od xs => .ok (.rt (.od xs)) T4
    | _ => .no) else .no
  | _, _, _ => .no
def sZip2 (i j : Nat) (a b : CE) (t : CG) (e : CE) (own : List (Str × Nat)) (s : DefSig) (ev : FEv) (srcs : List Src) (B : BindOk s 2 [] srcs) : CS where
  ev := zip2Ev i j (evD a.ev) (evD b.ev) t.ev (evD e.ev) (own.map (·.2)) ev srcs s.dfl
  chk := fun k sc st => match st with
    | [.Assign [.Name x _] (.Call (.Name zn _) [y1, y2] [] _) _, .Return (some (.Call (.Name f _) [.Name fx fp, .ListComp elt [⟨.Tuple te tk tp, .Name x' p', [], 0⟩] scope _] [] _)) _] =>
      okStore sc i x && (decide (zn = ("zip" : Str)) && (isGl sc.nm zn && ((notStar y1 && notStar y2) && ((a.chk k sc y1 && b.chk k sc y2) && (isVar sc i x' && (isVar sc j fx && (decide (f = s.nm) && (okName f && (isGl sc.nm f && (decide (s.lv ≤ k) &&
        (blkC sc.N { kind := .function, names := sc.nm, isGenerator := false, isCoroutine := false } scope own && (t.pure && (!t.z && (!e.z && (t.sl.all (fun j => decide (j ∈ own.map (·.2))) && (t.chk k (scIn sc scope) (.Tuple te tk tp) && e.chk k (scIn sc scope) elt))))))))))))))))
    | _ => false
  need := fun Γ => Γ.mg "zip" = none ∧ a.need Γ ∧ b.need Γ ∧ t.need Γ ∧ e.need Γ ∧ ∃ f, Γ.mg s.nm = some (.ref f) ∧ FnIs Γ s ev f
  ok := by
    intro Γ k W sc X st g nd h
    obtain ⟨nz, na, nb, nt, ne, f, hm, F⟩ := nd
    split at h
    · rename_i x xp zn zp y1 y2 cp ap fn fnp fx fp elt te tk tp x' p' scope lp cp2 rp
      obtain ⟨h1, h⟩ := b2 h
      obtain ⟨h2, h⟩ := b2 h
      obtain ⟨h3, h⟩ := b2 h
      obtain ⟨h4, h⟩ := b2 h
      obtain ⟨h4, h4b⟩ := b2 h4
      obtain ⟨h5, h⟩ := b2 h
      obtain ⟨h5, h5b⟩ := b2 h5
      obtain ⟨h6, h⟩ := b2 h
      obtain ⟨h7, h⟩ := b2 h
      obtain ⟨h8, h⟩ := b2 h
      obtain ⟨h9, h⟩ := b2 h
      obtain ⟨h10, h⟩ := b2 h
      obtain ⟨h11, h⟩ := b2 h
      obtain ⟨k1, h⟩ := b2 h
      obtain ⟨k2, h⟩ := b2 h
      obtain ⟨k3, h⟩ := b2 h
      obtain ⟨k4, h⟩ := b2 h
      obtain ⟨k5, h⟩ := b2 h
      obtain ⟨k6, k7⟩ := b2 h
      have hz := of_decide_eq_true h2
      subst hz
      have hf := of_decide_eq_true h8
      subst hf
      have hlv := of_decide_eq_true h11
      obtain ⟨s1, s2, s3⟩ := okStore_ok g h1
      obtain ⟨d1, _, _⟩ := okName_d h9
      have hm' : X.mg s.nm = some (.ref f) := by rw [g.mg]; exact hm
      have hkp : PySem.W.keepIn X.K (.ref f) = true := by rw [g.K]; exact F.kp
      have bo := blkOk_by k1
      have bo' : BlkOk X.N X.env.scope scope own := ⟨bo.kind, bo.uniq, by rw [g.N]; exact bo.ix, fun y hy e => by rw [g.nm]; exact bo.free y hy e, by rw [g.N]; exact bo.own⟩
      have hg : ∀ sh H C cl fp, PG (X.blk sh H scope (compEnvC scope cl C X.env) fp) (.Tuple te tk tp) (tGt Γ X.s_0.heap.objs.size W0 t.sl true t.ev) := fun sh H C cl fp => by
        have := t.pg (n := X.s_0.heap.objs.size) (goodIn g bo.kind sh H C cl fp) nt k6 (fun z => by rw [z] at k3; cases k3)
        rw [k2] at this
        exact this
      have he : ∀ sh H C cl fp, PE (X.blk sh H scope (compEnvC scope cl C X.env) fp) elt (tD Γ X.s_0.heap.objs.size W0 (evD e.ev)) := fun sh H C cl fp =>
        PE.mono (e.ok (n := X.s_0.heap.objs.size) (goodIn g bo.kind sh H C cl fp) ne k7 fun z => by rw [z] at k4; cases k4) fun σ H Q q => tD_of σ H Q q
      have plc := pe_lc (elt := elt) (iter := .Name x' p') (pos := lp) g.calm g.nd (pi_zpv (elts := te) (kk := tk) (tpos := tp) (isVar_ok g h6)) bo' hg (fun sh H C cl fp => evC_ok (c := none) (e := []) (n := X.s_0.heap.objs.size) (goodIn g bo.kind sh H C cl fp) True.intro rfl) he (fun _ => rfl)
      have pcall : PE X (.Call (.Name s.nm fnp) [.Name fx fp, .ListComp elt [⟨.Tuple te tk tp, .Name x' p', [], 0⟩] scope lp] [] cp2) (fun σ H Q => tCons (tVar j) (tCons (tLc (iZpv X.K X.s_0.heap.objs.size i) (tGt Γ X.s_0.heap.objs.size W0 t.sl true t.ev) (tT Γ X.s_0.heap.objs.size W0 (evC none)) (tD Γ X.s_0.heap.objs.size W0 (evD e.ev)) (own.map (·.2))) tNil) σ H fun vs H1 =>
          ∃ I1 T1 ds own' Hs Is, Wf Γ H1 I1 T1 ∧ Reps Γ I1 ds vs ∧ ds.length = 2 ∧ Ext O0 Hs Is H1 I1 ∧ Post Γ (RepR Γ X.s_0.heap.objs.size own') W σ Hs Is ((ev (sel .non (ds ++ []) s.dfl srcs) T1).bind fun lv T3 => Ev.opt (toR lv) T3) Q) := by
        refine ⟨fun pins sh σ H Q Iv hq => wpAny_Call_Name_kw (ld_glob Iv (isGl_ok g.nm h10) hm' ?_ d1)⟩
        refine PySem.W.callWith_K (h₀ := X.base) Iv.ok.mod.kin hkp (thn ((pa_cons (isVar_ok g h7) (pa_cons plc pa_nil)).run cp2 pins sh σ H _ Iv hq) ?_) rfl rfl
        rintro us s2 ⟨vs, H2, Iv2, rv, I1, T1, ds, own', Hs, Is, w1, r1, hl, xx, pp⟩
        exact ⟨Iv2.kIn, call_end (zs := []) (es := []) (ws := []) (ks := []) g F B hlv Iv2 rv .nil r1 Reps.nil hl rfl w1 xx pp⟩
      refine PSs.mono (pss_cons (ps_set (i := i) g.nd s1 s2 (pe_zipN (isGl_ok g.nm h3) (by rw [g.mg]; exact nz) (pa_cons (a.ok (n := X.s_0.heap.objs.size) g na h5 fun _ => rfl) (pa_cons (b.ok (n := X.s_0.heap.objs.size) g nb h5b fun _ => rfl) pa_nil (star_cons h4b)) (star_cons h4)) (star_cons h4) (by rw [star_cons h4b]; rfl)) rfl s3) (pss_one (ps_ret pcall))) fun D σ H q => ?_
      obtain ⟨I, ρ, T, ow, w, er, p⟩ := q
      have p : PostS Γ X.s_0.heap.objs.size W D (Ow ow) H I (zip2Ev i j (evD a.ev) (evD b.ev) t.ev (evD e.ev) (own.map (·.2)) ev srcs s.dfl ρ T) := p
      refine ⟨I, ρ, T, ow, w, er, Post.toD ((PostS.step (rel := relD Γ) p Ext.refl).imp fun xv H1 q1 => ?_)⟩
      obtain ⟨xd, T1, I1, _, x1, w1, r1, p1⟩ := q1
      refine ⟨I1, ρ, T1, ow, w1, er.ext x1, Post.toD ((PostS.step (rel := relD Γ) p1 x1).imp fun yv H2 q2 => ?_)⟩
      obtain ⟨yd, T2, I2, _, x2, w2, r2, p2⟩ := q2
      have r1 : Rep Γ I1 xd xv := r1
      have r2 : Rep Γ I2 yd yv := r2
      split at p2
      · rename_i xs ys d ea eb ej
        obtain ⟨la, vs, rfl, l3, l4⟩ := dLst_ok ea (Rep.mono x2.le r1)
        obtain ⟨lb, us, rfl, m3, m4⟩ := dLst_ok eb r2
        refine ⟨la, lb, vs, us, rfl, by rw [g.K]; exact SqL.ext w2.gh l3, by rw [g.K]; exact SqL.ext w2.gh m3, fun z ti to i1 i2 nw => ?_⟩
        have er2 := (er.ext x1).ext x2
        obtain ⟨ow2, er3, ho⟩ := er2.less (forget_len ρ [i]) fun i lv e => forget_some e
        have er4 : ER Γ X.s_0.heap.objs.size (σ.set i (some (.ref z))) (forget ρ [i]) H2 I2 ow2 := er3.slots (List.length_set) fun m lv e => List.getElem?_set_ne fun hh => forget_notin e (by simp [hh])
        have hil0 : i < ρ.length := by
          by_cases hi : i < ρ.length
          · exact hi
          · rw [if_neg hi] at ej; cases ej
        rw [if_pos hil0] at ej
        have hil : i < σ.length := by rw [er.len]; exact hil0
        obtain ⟨dv, e1, e2⟩ := er4.at_ j _ ej
        have wk : Walk Γ (Itz X.K la lb) I2 (zipD xs ys) := by
          rw [g.K]; exact Walk.zip l3 l4 m3 m4
        refine ⟨dv, e1, lc_zip (W := W) (σe := σ.set i (some (.ref z))) (fun j hj => of_decide_eq_true (List.all_eq_true.mp k5 j hj)) (t.hp k2) (List.getElem?_set_self hil) nw w2 er4 wk ?_⟩
        cases e0 : lcEv t.ev (evC none) (evD e.ev) (forget (forget ρ [i]) (own.map (·.2))) (zipD xs ys) T2 with
        | no => rw [e0] at p2; exact p2.elim
        | ex y T' => rw [e0] at p2; exact p2.elim
        | ok out T3 =>
          rw [e0] at p2
          have p2 : PostS Γ X.s_0.heap.objs.size W D (Ow ow) H I (if out.length ≤ lim then (ev (sel .non [d, .lst out] s.dfl srcs) T3).bind fun lv T4 => (match lv with
            | .sh d => .ok (.rt (.sh d)) T4
            | .ow xs => .ok (.rt (.ow xs)) T4
            | .od xs => .ok (.rt (.od xs)) T4
            | _ => .no) else .no) := p2
          split at p2
          · rename_i hlim
            refine ⟨hlim, fun L H' I' ws xx ww hn hH rr hG hK => ?_⟩
            have fz := xx.frz (o := .lst ws) hn hG
            have le : Im.Le I' ⟨upd I'.G L (.lst ws), I'.κ, I'.me⟩ := Im.Le.frz hG
            refine ⟨_, T3, [d, .lst out], ow2, H2, I2, ww.freeze hH hG hK, Reps.cons (Rep.mono fz.le e2.2) (Reps.cons (.ofLst (show upd I'.G L (.lst ws) L = _ from upd_same) (rr.mono le)) Reps.nil), rfl, fz, ?_⟩
            have x12 : Ext O0 H I H2 I2 := x1.tr0 x2
            show Post Γ _ W _ H2 I2 ((ev (sel .non [d, .lst out] s.dfl srcs) T3).bind fun lv T3 => Ev.opt (toR lv) T3) D.rt
            cases e3 : ev (sel .non [d, .lst out] s.dfl srcs) T3 with
            | no => rw [e3] at p2; exact p2
            | ex y T' => rw [e3] at p2; exact fun cls dd H9 I9 x9 w9 r9 => p2 cls dd _ H9 I9 ((x12.tr0 x9).mono fun _ q => q.elim) w9 r9
            | ok lv T4 =>
              rw [e3] at p2
              have fin : ∀ lv', toR lv' = some (.v lv') → FlP Γ X.s_0.heap.objs.size D (Ow ow) H I T4 (.rt lv') → Post Γ (RepR Γ X.s_0.heap.objs.size ow2) W (σ.set i (some (.ref z))) H2 I2 (Ev.opt (toR lv') T4) D.rt := by
                intro lv' ht pf
                rw [ht]
                intro v H9 I9 x9 w9 ⟨as, q1, q2⟩
                refine pf v H9 I9 as ((x12.tr0 x9).mono fun _ q => q.elim) w9 q1 fun a ha => ?_
                obtain ⟨f1, f2, f3, f4⟩ := q2 a ha
                refine ⟨f1, f2, f3, .inr ?_⟩
                cases e5 : H a with
                | none => rfl
                | some o => exact absurd f4 (x12.th a (by rw [e5]; simp))
              cases lv with
              | sh d => exact fin _ rfl p2
              | ow xs => exact fin _ rfl p2
              | od xs => exact fin _ rfl p2
              | oo c xs => exact p2.elim
              | zp xs ys => exact p2.elim
              | lm k => exact p2.elim
              | lms k => exact p2.elim
          · exact p2.elim
      · exact p2.elim
    · cases h
end Tp
end
section
set_option Elab.async false
set_option linter.all false
set_option maxRecDepth 100000
set_option maxHeartbeats 2000000
/-! TpV: repr of plain data. -/
namespace Tp
open PySem PySem.Spec PyProof.Rows L2

theorem textFrom_up : ∀ (ts : List Str) (k : Nat) (acc : Str), (textFrom k acc ts).length ≤ acc.length + piled ts
  | [], k, acc => by simp [piled, textFrom]
  | t :: ts, k, acc => by
    have h := textFrom_up ts (k + 1) (acc ++ Str.ofString (if k > 0 then ", " else "" : String) ++ t)
    have e : (Str.ofString (if k > 0 then ", " else "" : String)).length ≤ 2 := by split <;> decide
    rw [Str.length_append, Str.length_append] at h
    show (textFrom (k + 1) (acc ++ Str.ofString (if k > 0 then ", " else "" : String) ++ t) ts).length ≤ _
    rw [piled_cons]
    omega
theorem tupleText_up (ts : List Str) : (tupleText ts).length ≤ piled ts + 3 := by
  have e0 : (Str.ofString "(").length = 1 := by decide
  have e1 : (Str.ofString (if ts.length == 1 then ",)" else ")" : String)).length ≤ 2 := by split <;> decide
  show ((Str.ofString "(" ++ Str.join ", " ts) ++ Str.ofString (if ts.length == 1 then ",)" else ")" : String)).length ≤ _
  rw [Str.length_append, Str.length_append]
  by_cases h : ts = []
  · subst h
    have e2 : (Str.join (Str.ofString ", ") ([] : List Str)).length = 0 := by decide
    show _ + (Str.join (Str.ofString ", ") ([] : List Str)).length + _ ≤ _
    simp only [piled, List.map_nil, List.sum_nil] at *
    omega
  · have := join_length_add ts h
    omega
/-- the memory's plain things are clear of the texts that are under way -/
def ClearOf (g : List Code) (h : Heap) : Prop := ∀ b d as, Reads h (.ref b) d as → Clear g b
abbrev KeepAll (h h' : Heap) : Prop := ∀ b o, h.get? b = some o → h'.get? b = some o
theorem shown_at {prog : Program} {w : World} {h : Heap} {a : Addr} {d : PyData} {as : List Addr} (r : Reads h (.ref a) d as) (ok : d.showable = true) (nd : d.hasDict = true → sysModules ∉ as) (hz : d.shown.length ≤ sizeLine) :
    ∃ T idr : String, SlotG T "__repr__" idr ∧ Slot T "__str__" "object.__str__" ∧ Slot T "__format__" "object.__format__" ∧ (∃ o, h.get? a = some o ∧ o.cls = .type T) ∧
      ∀ (A : Around) (g : List Code) (E : Value → Shared → Prop) (s : Shared) (Q : Value → Shared → Prop), A.guards = some g → ClearOf g h → A.units + d.depth < cLine → KeepAll h s.heap →
        (∀ h' u tk, KeepAll s.heap h' → Q (.str d.shown u) { s with heap := h', toks := tk }) → wpAny (model prog w) A (call (.builtin idr) [.ref a]) Q E s := by
  have cl : ∀ {g : List Code} {n : Nat} {bs : List Addr}, ClearOf g h → ReadAtMost h n bs → ∀ b, b ∈ a :: bs → Clear g b := fun {g n bs} c hb b hm => by
    rcases List.mem_cons.mp hm with e | hm
    · rw [e]; exact c _ _ _ r
    · obtain ⟨d', as', r', _⟩ := hb b hm
      exact c _ _ _ r'
  cases r with
  | list e1 e2 e3 e4 =>
    rename_i o vs n xs bs₀
    simp only [PyData.shown] at hz ⊢
    obtain ⟨bs, hb, hk⟩ := ReprAllK.of_readsAll (prog := prog) (w := w) e4 (by simpa [PyData.showable] using ok) (fun hx hm => nd (by simpa [PyData.hasDict] using hx) (.tail _ hm)) fun t ht => Nat.le_trans (listText_mem_le ht) hz
    have out : a ∉ bs := not_mem_of_deeper (.list e1 e2 e3 e4) (by simp only [PyData.depth]; omega) hb
    refine ⟨"list", "list.__repr__", F.slot_list_repr.toG, F.slot_list_str, F.slot_list_format, ⟨o, e1, e2⟩, fun A g E s Q hg hc hu k0 hQ => ?_⟩
    simp only [PyData.depth] at hu
    obtain ⟨l⟩ := vs
    cases l with
    | nil =>
      have e5 : ReadsAll h [] xs _ := e4
      cases e5
      simp only [PyData.shownAll, listText_nil] at hQ
      exact call_list_repr_empty ⟨o, k0 _ _ e1, e2⟩ (k0 _ _ e1) e3 (hQ s.heap _ _ fun _ _ e => e)
    | cons x l => exact call_list_reprK e1 e2 e3 out (by simpa using hk.length_eq) (fun i y e => hk.item i y (by simpa using e)) hg (cl hc hb) hu k0 hQ hz
  | tuple e1 e2 e3 e4 =>
    rename_i o vs n xs
    simp only [PyData.shown] at hz ⊢
    obtain ⟨bs, hb, hk⟩ := ReprAllK.of_readsAll (prog := prog) (w := w) e4 (by simpa [PyData.showable] using ok) (fun hx => nd (by simpa [PyData.hasDict] using hx)) fun t ht => Nat.le_trans (tupleText_mem_le ht) hz
    have out : a ∉ bs := not_mem_of_deeper (.tuple e1 e2 e3 e4) (by simp only [PyData.depth]; omega) hb
    refine ⟨"tuple", "tuple.__repr__", F.slot_tuple_repr, F.slot_tuple_str, F.slot_tuple_format, ⟨o, e1, e2⟩, fun A g E s Q hg hc hu k0 hQ => ?_⟩
    simp only [PyData.depth] at hu
    exact call_tuple_reprK e1 e2 e3 out hk hg (cl hc hb) hu k0 hQ hz
  | dict e1 e2 e3 e4 e5 =>
    rename_i o es n kvs as₁ bs₁
    have hno := nd (by simp only [PyData.hasDict])
    have hz' := hz
    simp only [PyData.shown] at hz hz' ⊢
    rw [PyData.shownKv_eq] at hz ⊢
    obtain ⟨s1, s2⟩ := PyData.showableKv_split kvs (by simpa [PyData.showable] using ok)
    obtain ⟨b1, hb1, k1⟩ := ReprAllK.of_readsAll (prog := prog) (w := w) e4 s1 (fun _ hm => hno (.tail _ (List.mem_append_left _ hm))) fun t ht => let ⟨p, hp, hl⟩ := PyData.shownKv_key_le kvs t ht; Nat.le_trans hl (Nat.le_trans (dictText_mem_le hp) hz')
    obtain ⟨b2, hb2, k2⟩ := ReprAllK.of_readsAll (prog := prog) (w := w) e5 s2 (fun _ hm => hno (.tail _ (List.mem_append_right _ hm))) fun t ht => let ⟨p, hp, hl⟩ := PyData.shownKv_val_le kvs t ht; Nat.le_trans hl (Nat.le_trans (dictText_mem_le hp) hz')
    have hb : ReadAtMost h (PyData.depthKv kvs) (b1 ++ b2) := (hb1.mono (PyData.depthAll_keys_le kvs)).append (hb2.mono (PyData.depthAll_vals_le kvs))
    have out : a ∉ b1 ++ b2 := not_mem_of_deeper (.dict e1 e2 e3 e4 e5) (by simp only [PyData.depth]; omega) hb
    have ns : (a == sysModules) = false := beq_eq_false_iff_ne.mpr fun e => hno (by rw [e]; exact List.mem_cons_self)
    refine ⟨"dict", "dict.__repr__", F.slot_dict_repr, F.slot_dict_str, F.slot_dict_format, ⟨o, e1, e2⟩, fun A g E s Q hg hc hu k0 hQ => ?_⟩
    simp only [PyData.depth] at hu
    have kk := ReprEntriesK.of_two es.toList _ _ (k1.more_le (fun b hb => List.mem_append_left b2 hb) (PyData.depthAll_keys_le kvs)) (k2.more_le (fun b hb => List.mem_append_right b1 hb) (PyData.depthAll_vals_le kvs))
    exact call_dict_reprK e1 e2 e3 ns out kk hg (cl hc hb) hu k0 hQ hz
section
variable {prog : Program} {w : World} {h : Heap} {a : Addr} {d : PyData} {as : List Addr} {A : Around} {g : List Code} {E : Value → Shared → Prop} {s : Shared} {Q : Value → Shared → Prop}
theorem repr_gd (r : Reads h (.ref a) d as) (ok : d.showable = true) (nd : d.hasDict = true → sysModules ∉ as) (hg : A.guards = some g) (hc : ClearOf g h) (hu : A.units + (d.depth + 1) < cLine) (k0 : KeepAll h s.heap)
    (hQ : ∀ h' u tk, KeepAll s.heap h' → Q (.str d.shown u) { s with heap := h', toks := tk }) (hz : d.shown.length ≤ sizeLine) : wpAny (model prog w) A (call (.builtin "repr") [.ref a]) Q E s := by
  obtain ⟨T, idr, s1, _, _, ⟨o, h1, h2⟩, c⟩ := shown_at (prog := prog) (w := w) r ok nd hz
  exact call_repr_slot (by omega) ⟨o, k0 _ _ h1, h2⟩ s1 (c A.in1 g E s _ hg hc (by show A.units + 1 + d.depth < cLine; omega) k0 fun h' u tk hk => ⟨_, _, rfl, hQ h' u tk hk⟩)
end
/-- the lists whose text is under way are known, and no plain data -/
def Ugd (K : PySem.W.Frag) (L : List Addr) (H : Hp) : Prop := ∀ b, b ∈ L → NoRead K H b
theorem Wf.ugd {Γ : Gam} {H : Hp} {I : Im} {T : Cs} (w : Wf Γ H I T) : Ugd Γ.K Γ.ug H := fun b hb => (w.ug b hb).mono w.gh
theorem readsAll_mem {h : Heap} : ∀ {vs : List Value} {ds : List PyData} {as : List Addr} {v : Value}, ReadsAll h vs ds as → v ∈ vs → ∃ d bs, Reads h v d bs
  | _, _, _, _, .cons r t, m => by
    rcases List.mem_cons.mp m with e | m
    · rw [e]; exact ⟨_, _, r⟩
    · exact readsAll_mem t m
theorem vals_ref_mem {x : Addr} : ∀ {vs : List V} {us : List Value}, Vals vs us → V.ref x ∈ vs → Value.ref x ∈ us
  | _, _, .cons r t, m => by
    rcases List.mem_cons.mp m with e | m
    · cases e
      have r : _ = Value.ref x := r
      rw [r]; exact List.mem_cons_self
    · exact List.mem_cons_of_mem _ (vals_ref_mem t m)
theorem NoRead.no {X : Cx} {pins : List (Addr × Obj)} {σ : L2.St} {H : Hp} {s : Shared} {b : Addr} (I : L2.Inv X pins σ H s) (h : NoRead X.K H b) : ∀ d as, ¬ Reads s.heap (.ref b) d as := by
  obtain ⟨vs, x, C, dx, us, h1, h2, h3⟩ := h
  have hx : ∀ d as, ¬ Reads s.heap (.ref x) d as := fun d as r => by
    obtain ⟨_, _, _, e, _⟩ := I.hok x _ h3
    cases r with
    | list e1 e2 _ _ => rw [e] at e1; cases e1; cases e2
    | tuple e1 e2 _ _ => rw [e] at e1; cases e1; cases e2
    | dict e1 e2 _ _ _ => rw [e] at e1; cases e1; cases e2
  intro d as r
  rcases h1 with h1 | h1
  · obtain ⟨its, rv, ⟨o, n, ho, hc, _, hd⟩, _⟩ := I.list h1
    have hm := vals_ref_mem rv h2
    cases r with
    | list e1 e2 e3 e4 =>
      rw [ho] at e1; cases e1
      rw [hd] at e3; cases e3
      obtain ⟨d', as', r'⟩ := readsAll_mem e4 (by simpa using hm)
      exact hx _ _ r'
    | tuple e1 e2 _ _ => rw [ho] at e1; cases e1; rw [hc] at e2; exact absurd (Value.type.inj e2) (by decide)
    | dict e1 e2 _ _ _ => rw [ho] at e1; cases e1; rw [hc] at e2; exact absurd (Value.type.inj e2) (by decide)
  · obtain ⟨its, rv, ⟨o, ho, hc, n, hd⟩, _⟩ := I.tuple h1
    have hm := vals_ref_mem rv h2
    cases r with
    | tuple e1 e2 e3 e4 =>
      rw [ho] at e1; cases e1
      rw [hd] at e3; cases e3
      obtain ⟨d', as', r'⟩ := readsAll_mem e4 (by simpa using hm)
      exact hx _ _ r'
    | list e1 e2 _ _ => rw [ho] at e1; cases e1; rw [hc] at e2; exact absurd (Value.type.inj e2) (by decide)
    | dict e1 e2 _ _ _ => rw [ho] at e1; cases e1; rw [hc] at e2; exact absurd (Value.type.inj e2) (by decide)
theorem GdX.clear {Γ : Gam} {X : Cx} {pins : List (Addr × Obj)} {σ : L2.St} {H : Hp} {s : Shared} {A : Around} (g : GdX Γ A) (I : L2.Inv X pins σ H s) (u : Ugd X.K Γ.ug H) : ∃ gs, A.guards = some gs ∧ ClearOf gs s.heap := by
  obtain ⟨gs, h1, h2⟩ := g
  exact ⟨gs, h1, fun b d as r id v rest kw hm e => (u b (h2 id v rest kw hm b e)).no I d as r⟩
end Tp
end
section
set_option Elab.async false
set_option linter.all false
set_option maxRecDepth 100000
set_option maxHeartbeats 2000000
/-! TpW: the end: a law's call answers True. -/
namespace Tp
open PySem PySem.Spec PyProof.Rows L2

/-- the script is tracked, unless it is one of the module's own objects -/
def scH (K : PySem.W.Frag) (a : Addr) (o : Obj) (vs : List V) : Hp := fun b => if b = a ∧ K.lookup b = none then some (.frz o (.lst vs)) else none
theorem scH_some {K : PySem.W.Frag} {a b : Addr} {o : Obj} {vs : List V} {u : HO} (h : scH K a o vs b = some u) : b = a ∧ K.lookup b = none ∧ u = .frz o (.lst vs) := by
  unfold scH at h
  split at h
  · rename_i q; exact ⟨q.1, q.2, (Option.some.inj h).symm⟩
  · cases h
theorem scH_none {K : PySem.W.Frag} {a b : Addr} {o : Obj} {vs : List V} (h : scH K a o vs b ≠ none) : b = a ∧ K.lookup b = none := by
  cases e : scH K a o vs b with
  | none => exact absurd e h
  | some u => exact ⟨(scH_some e).1, (scH_some e).2.1⟩
end Tp
end
section
set_option Elab.async false
set_option linter.all false
set_option maxRecDepth 100000
set_option maxHeartbeats 2000000
/-! TpX: the head's facts, as the terms want them. -/
namespace Tp
open PySem PySem.Spec PyProof.Rows L2

/-! ### Bool facts of the written part -/
theorem tyK_eq (Γ : Gam) (t : Ty) : tyK Γ.K t = tyU Γ t := by cases t <;> rfl
/-- what the head tells -/
structure Hd (Γ : Gam) (fa : List He.Fa) (fn : List He.DefD) (ex : PySem.W.Frag → Bool) : Prop where
  cd : Γ.cd = cdT
  xf : Γ.xf = xfT
  facts : ∀ {f : He.Fa}, f ∈ fa → f.ok Γ.K = true
  defs : ∀ {d : He.DefD}, d ∈ fn → ∃ fd, FunD Γ.K d.name d.qual d.params d.body d.scope (d.dvs Γ.K) (d.kws Γ.K) (He.fAd Γ.K d.at_) fd
  more : ex Γ.K = true
  at_ : ∃ h : Heap, Γ.K.In h ∧ h.Ns mainGlobals Γ.mg
section
variable {Γ : Gam} {fa : List He.Fa} {fn : List He.DefD} {ex : PySem.W.Frag → Bool}
theorem Hd.fact (S : Hd Γ fa fn ex) (i : Nat) {f : He.Fa} (h : fa[i]? = some f) : f.ok Γ.K = true := S.facts (List.mem_of_getElem? h)
theorem Hd.glo (S : Hd Γ fa fn ex) (i : Nat) (x : Str) (h : fa[i]? = some (.glo x)) : Γ.mg x = some (.ref (He.ga Γ.K x)) := let ⟨_, a, b⟩ := S.at_; He.glo_ok a b (S.fact i h)
theorem Hd.free (S : Hd Γ fa fn ex) (i : Nat) (x : Str) (h : fa[i]? = some (.free x)) : Γ.mg x = none := let ⟨_, a, b⟩ := S.at_; He.free_ok a b (S.fact i h)
theorem Hd.int (S : Hd Γ fa fn ex) (i : Nat) (x : Str) (z : Int) (h : fa[i]? = some (.int x z)) : ∃ t, Γ.mg x = some (.int z t) := let ⟨_, a, b⟩ := S.at_; He.int_ok a b (S.fact i h)
theorem Hd.str (S : Hd Γ fa fn ex) (i : Nat) (x z : Str) (h : fa[i]? = some (.str x z)) : ∃ t, Γ.mg x = some (.str z t) := let ⟨_, a, b⟩ := S.at_; He.str_ok a b (S.fact i h)
theorem Hd.cls (S : Hd Γ fa fn ex) (i j c : Nat) (h : fa[i]? = some (.glo (cdT c).1)) (h2 : fa[j]? = some (.cls (cdT c).1)) (e : clsB Γ.K c = true) : ClsFull Γ c := by
  obtain ⟨e1, e⟩ := b2 e
  obtain ⟨e2, e⟩ := b2 e
  obtain ⟨e3, e⟩ := b2 e
  obtain ⟨e4, e5⟩ := b2 e
  exact ⟨S.cd, S.glo i _ h, He.cls_ok (S.fact j h2), He.eqO_ok e1, He.eqO_ok e2, of_decide_eq_true e3, of_decide_eq_true e4, fun f hf => He.eqO_ok (List.all_eq_true.mp e5 f hf)⟩
theorem isi_of {own : List Nat} {u : Ty} (e : isiB Γ.K own u = true) : isiNeed Γ own u := fun t ht => by
  have := of_decide_eq_true (List.all_eq_true.mp e t ht)
  rwa [tyK_eq, tyK_eq] at this
theorem dvOf_v (K : PySem.W.Frag) : ∀ ds : List D, (ds.map dvOf).map (He.Dv.v K) = ds.map constV
  | [] => rfl
  | d :: ds => by
    rw [List.map_cons, List.map_cons, List.map_cons, dvOf_v K ds]
    cases d <;> rfl
theorem Hd.tup (S : Hd Γ fa fn ex) (i : Nat) (x : Str) (ds : List D) (h : fa[i]? = some (.glo x)) (e : He.tupB Γ.K x (ds.map dvOf) = true) : ∃ a, Γ.mg x = some (.ref a) ∧ ∀ H, SqT Γ.K H a (ds.map constV) :=
  ⟨_, S.glo i x h, fun H => by rw [← dvOf_v Γ.K ds]; exact He.tupB_ok e H⟩
/-- a def of the top, a method -/
theorem Hd.fnAt (S : Hd Γ fa fn ex) (i : Nat) {d : He.DefD} (s : DefSig) (h : fn[i]? = some d) (e1 : d.name = s.nm) (e2 : d.qual = s.qual) (e3 : d.params = s.params) (e4 : d.body = s.body) (e5 : d.scope = s.scope) (e6 : d.dfl = s.dfl.map dvOf) (e7 : d.kwd = []) :
    ∃ fd, FunD Γ.K s.nm s.qual s.params s.body s.scope (s.dfl.map constV) [] (He.fAd Γ.K d.at_) fd := by
  obtain ⟨fd, F⟩ := S.defs (List.mem_of_getElem? h)
  have e8 : d.dvs Γ.K = s.dfl.map constV := by unfold He.DefD.dvs; rw [e6, dvOf_v]
  have e9 : d.kws Γ.K = [] := by unfold He.DefD.kws; rw [e7]; rfl
  rw [e1, e2, e3, e4, e5, e8, e9] at F
  exact ⟨fd, F⟩
theorem Hd.of {w : World} {h : Heap} {K : PySem.W.Frag} {P : Program} {mg : Str → Option Value} {base : Heap} {ug : List Addr} {tb : List (Addr × Str)} {lt : List LamSig} (c : He.SaysX fa fn [] [] ex w h K) (KI : K.In h) (n : h.Ns mainGlobals mg) : Hd ⟨P, w, K, mg, base, cdT, xfT, ug, tb, lt⟩ fa fn ex :=
  ⟨rfl, rfl, fun hf => c.t.d.facts hf, fun hd => c.t.d.defs hd, c.more, ⟨h, KI, n⟩⟩
end
end Tp
end
section
set_option Elab.async false
set_option linter.all false
set_option maxRecDepth 100000
set_option maxHeartbeats 2000000
/-! TpY: the head's facts, properties too. -/
namespace Tp
open PySem PySem.Spec PyProof.Rows L2

/-- what the head tells, getters too -/
structure Hdp (Γ : Gam) (fa : List He.Fa) (fn gs : List He.DefD) (ex : PySem.W.Frag → Bool) : Prop where
  hd : Hd Γ fa fn ex
  gt : ∀ {d : He.DefD}, d ∈ gs → ∃ u, FunD Γ.K d.name d.qual d.params d.body d.scope (d.dvs Γ.K) (d.kws Γ.K) (gOf Γ.K d) u
theorem Hdp.of {fa : List He.Fa} {fn gs : List He.DefD} {ex : PySem.W.Frag → Bool} {w : World} {h : Heap} {K : PySem.W.Frag} {P : Program} {mg : Str → Option Value} {base : Heap} {ug : List Addr} {tb : List (Addr × Str)} {lt : List LamSig} (c : SaysP fa fn gs ex w h K) (KI : K.In h) (n : h.Ns mainGlobals mg) : Hdp ⟨P, w, K, mg, base, cdT, xfT, ug, tb, lt⟩ fa fn gs ex :=
  ⟨Hd.of c.x KI n, fun hd => c.g _ hd⟩
section
variable {Γ : Gam} {fa : List He.Fa} {fn gs : List He.DefD} {ex : PySem.W.Frag → Bool}
end
end Tp
end
section
set_option Elab.async false
set_option linter.all false
set_option maxRecDepth 100000
set_option maxHeartbeats 2000000
/-! TpZ: list(range(..)). -/
namespace Tp
open PySem PySem.Spec PyProof.Rows L2

theorem reps_rg {Γ : Gam} {I : Im} : ∀ (n : Nat) (a : Int), Reps Γ I (rangeD a 1 n) ((List.range n).map fun i => V.int (a + (i : Nat)))
  | 0, a => Reps.nil
  | n + 1, a => by
    have e : ((List.range (n + 1)).map fun i => V.int (a + (i : Nat))) = V.int a :: (List.range n).map fun i => V.int (a + 1 + (i : Nat)) := by
      rw [List.range_succ_eq_map, List.map_cons, List.map_map]
      congr 1
      · congr 1; simp
      · apply List.map_congr_left
        intro i _
        show V.int (a + ((i + 1 : Nat) : Int)) = V.int (a + 1 + (i : Nat))
        congr 1; omega
    rw [e]
    exact Reps.cons .ofInt (reps_rg n (a + 1))
def lrg (i j : Int) : Option R := if -1000000 ≤ i ∧ i ≤ 1000000 ∧ -1000000 ≤ j ∧ j ≤ 1000000 then some (rL (rangeD i 1 (j - i).toNat)) else none
theorem lrg_ok {i j : Int} {c : R} (h : lrg i j = some c) : RgOk i j ∧ c = rL (rangeD i 1 (j - i).toNat) := by
  unfold lrg at h
  split at h
  · rename_i q
    cases h
    refine ⟨⟨by omega, by omega, by omega, by omega, by have : (2:Nat)^24 = 16777216 := by decide
                                                        omega⟩, rfl⟩
  · cases h
def lrg1 (r : R) : Option R := match r with
  | .v (.sh (.int j)) => lrg 0 j
  | _ => none
theorem lrg1_ok {r c : R} (h : lrg1 r = some c) : ∃ j, r = rI j ∧ lrg 0 j = some c := by
  unfold lrg1 at h
  split at h
  · rename_i j; exact ⟨j, rfl, h⟩
  · cases h
/-- list(range(a)) -/
def cLRg1 (a : CE) : CE where
  ev := fun ρ T => (a.ev ρ T).bind fun x T1 => Ev.opt (lrg1 x) T1
  chk := fun k sc e => match e with
    | .Call (.Name f _) [.Call (.Name r _) [y] [] _] [] _ => decide (f = ("list" : Str)) && (decide (r = ("range" : Str)) && (isGl sc.nm f && (isGl sc.nm r && (notStar y && a.chk k sc y))))
    | _ => false
  need := fun Γ => Γ.mg "list" = none ∧ Γ.mg "range" = none ∧ a.need Γ
  z := a.z
  ok := by
    intro Γ k W sc X e n g nd h hz
    split at h
    · rename_i f fp r rp y pos1 pos
      obtain ⟨h1, h⟩ := b2 h
      obtain ⟨h2, h⟩ := b2 h
      obtain ⟨h3, h⟩ := b2 h
      obtain ⟨h4, h⟩ := b2 h
      obtain ⟨h5, h6⟩ := b2 h
      have e1 := of_decide_eq_true h1
      have e2 := of_decide_eq_true h2
      subst e1
      subst e2
      refine PE.mono (pe_listRg g.calm (isGl_ok g.nm h3) (by rw [g.mg]; exact nd.1) (prg_1 (isGl_ok g.nm h4) (by rw [g.mg]; exact nd.2.1) (a.ok g nd.2.2 h6 hz) (star_cons h5))) fun σ H Q q => ?_
      obtain ⟨I, ρ, T, own, w, er, p⟩ := q
      refine ⟨I, ρ, T, own, w, er, (Post.bind (rel := RepR Γ n own) backR p).imp fun x H1 q1 => ?_⟩
      obtain ⟨r, T1, I1, _, x1, w1, r1, p1⟩ := q1
      obtain ⟨c, e3, k3⟩ := Post.opt p1
      obtain ⟨j, rfl, e4⟩ := lrg1_ok e3
      obtain ⟨o, rfl⟩ := lrg_ok e4
      exact ⟨j, r1.unsh.int, o, give_list w1 (reps_rg _ _) k3⟩
    · cases h
end Tp
end
section
set_option Elab.async false
set_option linter.all false
set_option maxRecDepth 100000
set_option maxHeartbeats 2000000
/-! TqA: x.pop(); a local's own list lent to an expression. -/
namespace Tp
open PySem PySem.Spec PyProof.Rows L2

/-- x.pop() -/
def sPop (i : Nat) : C1 where
  ev := fun ρ T => match ρ[i]? with
    | some (some (.ow xs)) => if xs.length = 0 then .no else .ok (.nx (ρ.set i (some (.ow xs.dropLast)))) T
    | _ => .no
  chk := fun _ sc st => match st with
    | .Expr (.Call (.Attribute (.Name x _) m ap) [] [] cp) _ => decide (m = ("pop" : Str)) && ((ap.endLine == cp.line) && isVar sc i x)
    | _ => false
  need := fun _ => True
  ok := by
    intro Γ k W sc X st g nd h
    split at h
    · obtain ⟨h1, h⟩ := b2 h
      obtain ⟨hl, h2⟩ := b2 h
      have hm := of_decide_eq_true h1
      subst hm
      refine PS.mono (ps_expr (pe_bm0 PySem.F.plainAttrs_list PySem.F.slot_list_pop PySem.F.type_list_pop mt_pop (isVar_ok g h2) (by rfl) hl) rfl) fun D σ H q => ?_
      obtain ⟨I, ρ, T, own, w, er, p⟩ := q
      have p' : PostS Γ X.s_0.heap.objs.size W D (Ow own) H I (match ρ[i]? with
        | some (some (.ow xs)) => if xs.length = 0 then .no else .ok (.nx (ρ.set i (some (.ow xs.dropLast)))) T
        | _ => .no) := p
      split at p'
      · rename_i xs e1
        obtain ⟨b, vs, o1, o2, o3, o4⟩ := own_list er e1
        split at p'
        · exact p'.elim
        · rename_i hl
          refine ⟨_, o2, .inl ⟨rfl, _, SqL.of o3⟩, ?_⟩
          have hv : vs.length - 1 < vs.length := by
            have := o4.length
            omega
          refine ⟨b, vs, vs[vs.length - 1], rfl, rfl, o3, by simp [hv], ?_⟩
          exact p' σ _ I own (write_aft er Ext.refl w e1 o1 o2 ⟨b, _, rfl, rfl, upd_same, o4.dropLast⟩)
      · exact p'.elim
    · cases h

/-! ### lent -/
/-- what may be answered where a list was lent -/
def okBor : R → Bool
  | .v (.sh d) => flatD d
  | .v (.ow xs) => xs.all flatD
  | _ => false
def flatCs (T : Cs) : Bool := T.all fun ds => ds.all flatD
def borE (i : Nat) (ρ : Env) : Option Env := match ρ[i]? with
  | some (some lv) => (match frzLV lv with
    | some lv' => some (ρ.set i (some lv'))
    | none => none)
  | _ => none
def borK {α : Type} (okb : α → Bool) (n : Nat) : Ev α → Ev α
  | .ok r T1 => if okb r && flatCs (T1.take n) then .ok r (T1.take n) else .no
  | _ => .no
def evBor {α : Type} (i : Nat) (okb : α → Bool) (ev : Env → Cs → Ev α) : Env → Cs → Ev α := fun ρ T => match borE i ρ with
  | some ρ' => borK okb T.length (ev ρ' T)
  | none => .no
section
variable {Γ : Gam} {n : Nat} {W : WX}
theorem Rep.flat0 {I I' : Im} {d : D} {v : V} (h : Rep Γ I d v) (f : flatD d = true) : Rep Γ I' d v := by
  cases d with
  | non => rw [h.non]; exact .ofNon
  | bl b => rw [h.bl]; exact .ofBl
  | int b => rw [h.int]; exact .ofInt
  | str b => rw [h.str]; exact .ofStr
  | _ => cases f
theorem Reps.flat0 {I I' : Im} : ∀ {ds : List D} {vs : List V}, Reps Γ I ds vs → ds.all flatD = true → Reps Γ I' ds vs
  | [], _, h, _ => by simp only [Reps] at h; subst h; exact Reps.nil
  | d :: ds, _, h, f => by
    simp only [Reps] at h
    obtain ⟨v, r, rfl, h2, h3⟩ := h
    rw [List.all_cons] at f
    obtain ⟨f1, f2⟩ := b2 f
    exact Reps.cons (h2.flat0 f1) (Reps.flat0 h3 f2)
/-- back to what was known ahead of the lending -/
theorem bor_back {H H1 : Hp} {I I' I1 : Im} {T T1 : Cs} (w : Wf Γ H I T) (w' : Wf Γ H I' T) (gg : ∀ a o, I.G a = some o → I'.G a = some o) (kk : ∀ (m : Nat) a, I.κ[m]? = some a → I'.κ[m]? = some a)
    (kn : ∀ a, a ∈ I'.κ → a ∈ I.κ ∨ H a = none) (x : Ext O0 H I' H1 I1) (w1 : Wf Γ H1 I1 T1) (hf : flatCs (T1.take T.length) = true) : Ext O0 H I H1 I ∧ Wf Γ H1 I (T1.take T.length) := by
  have hk2 : ∀ (m : Nat) a, I.κ[m]? = some a → I1.κ[m]? = some a := fun m a h => x.kk m a (kk m a h)
  have hlen : T.length ≤ T1.length := by
    rw [← w.len, ← w1.len]
    by_cases h0 : I.κ.length = 0
    · omega
    · have hm : I.κ.length - 1 < I.κ.length := by omega
      have e : I.κ[I.κ.length - 1]? = some I.κ[I.κ.length - 1] := by simp [hm]
      have e2 := (List.getElem?_eq_some_iff.mp (hk2 _ _ e)).1
      omega
  refine ⟨⟨fun _ _ h => h, fun _ _ h => h, fun a o h nk no nt => x.fr a o h (fun q => (kn a q).elim nk fun z => by rw [h] at z; cases z) no nt, x.th, fun _ h => .inl h, fun _ h => .inl h, rfl⟩, ?_⟩
  refine ⟨fun a o h => w1.gh a o (x.gg a o (gg a o h)), w.nd, w.kg, by rw [List.length_take, w.len]; omega, fun m a ds e1 e2 => ?_, w.ug, w1.tb, w1.lc.keep (fun _ _ h _ => h) (fun f φ h => x.gg _ _ (gg _ _ h)), w.tg⟩
  have hm : m < T.length := by rw [← w.len]; exact (List.getElem?_eq_some_iff.mp e1).1
  have e3 : T1[m]? = some ds := by rw [List.getElem?_take_of_lt hm] at e2; exact e2
  obtain ⟨vs, h1, h2⟩ := w1.cells m a ds (hk2 m a e1) e3
  have hmem : ds ∈ T1.take T.length := List.mem_of_getElem? e2
  exact ⟨vs, h1, h2.flat0 (List.all_eq_true.mp hf ds hmem)⟩
theorem bor_run {α β : Type} {rel : (Nat → List Addr) → Hp → Hp → Im → α → β → Prop} {i : Nat} {okb : α → Bool} {ev : Env → Cs → Ev α} {σ : L2.St} {H : Hp} {Q : β → Hp → Prop}
    (hrel : ∀ {own own' : Nat → List Addr} {Hs H' : Hp} {I I1 : Im} {r : α} {v : β}, (∀ a o, I.G a = some o → I1.G a = some o) → (∀ a, a ∈ I.κ → a ∈ I1.κ) → okb r = true → rel own' Hs H' I1 r v → rel own Hs H' I r v)
    {I : Im} {ρ : Env} {T : Cs} {own : Nat → List Addr} (w : Wf Γ H I T) (er : ER Γ n σ ρ H I own) (p : Post Γ (rel own) W σ H I (evBor i okb ev ρ T) Q) :
    ∃ I ρ T own, Wf Γ H I T ∧ ER Γ n σ ρ H I own ∧ Post Γ (rel own) W σ H I (ev ρ T) Q := by
  unfold evBor at p
  cases e0 : borE i ρ with
  | none => rw [e0] at p; exact p.elim
  | some ρ' =>
    rw [e0] at p
    unfold borE at e0
    split at e0
    · rename_i lv e1
      split at e0
      · rename_i lv' e2
        cases e0
        obtain ⟨I', own', af⟩ := RepL.frz w er e1 e2
        refine ⟨I', _, T, own', af.wf, af.er, ?_⟩
        have p : Post Γ (rel own) W σ H I (borK okb T.length (ev (ρ.set i (some lv')) T)) Q := p
        cases e3 : ev (ρ.set i (some lv')) T with
        | no => rw [e3] at p; exact p.elim
        | ex y T' => rw [e3] at p; exact p.elim
        | ok r T1 =>
          rw [e3] at p
          intro v H1 I1 x w1 rr
          have p' : Post Γ (rel own) W σ H I (if okb r && flatCs (T1.take T.length) then .ok r (T1.take T.length) else .no) Q := p
          split at p'
          · rename_i hc
            obtain ⟨c1, c2⟩ := b2 hc
            obtain ⟨x2, w2⟩ := bor_back w af.wf af.ext.gg af.ext.kk af.ext.kn x w1 c2
            refine p' v H1 I x2 w2 (hrel (own' := own') (I1 := I1) (fun a o h => x.gg a o (af.ext.gg a o h)) (fun a ha => ?_) c1 rr)
            obtain ⟨m, hm, e⟩ := List.getElem_of_mem ha
            have e1 : I.κ[m]? = some a := by simp [hm, e]
            exact List.mem_of_getElem? (x.kk m a (af.ext.kk m a e1))
          · exact p'.elim
      · cases e0
    · cases e0
end
/-- an expression that may look at the i-th local's own list -/
def cBor (i : Nat) (a : CE) : CE where
  ev := evBor i okBor a.ev
  chk := a.chk
  need := a.need
  z := a.z
  ok := by
    intro Γ k W sc X e n g nd h hz
    refine PE.mono (a.ok g nd h hz) fun σ H Q ⟨I, ρ, T, own, w, er, p⟩ => ?_
    refine bor_run (rel := fun own => RepR Γ n own) (fun {own own' Hs H' I I1 r v} gg kk ho q => ?_) w er p
    unfold okBor at ho
    split at ho
    · exact RepR.sh (q.unsh.flat0 ho)
    · obtain ⟨as, ⟨b, vs, rfl, h2, h3, h4⟩, h5⟩ := q
      refine ⟨[b], ⟨b, vs, rfl, h2, h3, h4.flat0 ho⟩, fun c hc => ?_⟩
      obtain ⟨g1, g2, g3, g4⟩ := h5 c hc
      refine ⟨?_, fun z => g2 (kk c z), g3, g4⟩
      cases e : I.G c with
      | none => rfl
      | some o => rw [gg c o e] at g1; cases g1
    · cases ho
def tBor (i : Nat) (a : CT) : CT where
  ev := evBor i (fun _ => true) a.ev
  chk := a.chk
  need := a.need
  z := a.z
  ok := by
    intro Γ k W sc X e n g nd h hz
    refine PT.mono (a.ok g nd h hz) fun σ H Q ⟨I, ρ, T, own, w, er, p⟩ => ?_
    exact bor_run (rel := fun _ => relB) (fun {own own' Hs H' I I1 r v} _ _ _ q => q) w er p
end Tp
end
section
set_option Elab.async false
set_option linter.all false
set_option maxRecDepth 100000
set_option maxHeartbeats 2000000
/-! TqB: a list or a tuple, walked. -/
namespace Tp
open PySem PySem.Spec PyProof.Rows L2

theorem PI.orI {X : Cx} {tg e : Expr} {t t' : TI} (h : PI X tg e t) (h' : PI X tg e t') : PI X tg e (fun σ H R => t σ H R ∨ t' σ H R) :=
  ⟨fun pins s σ H R I q => q.elim (h.run pins s σ H R I) (h'.run pins s σ H R I)⟩
def seqD : D → Option (List D)
  | .tup xs => some xs
  | d => dLst d
def iSeq (a : CE) : CI where
  ev := fun ρ T => (evD a.ev ρ T).bind fun d T1 => Ev.opt (seqD d) T1
  chk := fun k sc _ e => notSetL e && a.chk k sc e
  need := a.need
  z := a.z
  ok := by
    intro Γ k W sc X tg e n g nd h hz
    refine PI.mono (PI.orI ((iTupl a).ok (tg := tg) (n := n) g nd h hz) ((iLst a).ok (tg := tg) (n := n) g nd h hz)) fun σ H R q => ?_
    obtain ⟨I, ρ, T, own, w, er, p⟩ := q
    have p' : Post Γ (relW Γ) W σ H I ((evD a.ev ρ T).bind fun d T1 => Ev.opt (seqD d) T1) R := p
    cases e0 : evD a.ev ρ T with
    | no => rw [e0] at p'; exact p'.elim
    | ex y T1 =>
      refine .inr ⟨I, ρ, T, own, w, er, ?_⟩
      show Post Γ (relW Γ) W σ H I ((evD a.ev ρ T).bind fun d T1 => Ev.opt (dLst d) T1) R
      rw [e0] at p' ⊢
      exact p'
    | ok d T1 =>
      rw [e0] at p'
      cases d with
      | tup xs =>
        refine .inl ⟨I, ρ, T, own, w, er, ?_⟩
        show Post Γ (relW Γ) W σ H I ((evD a.ev ρ T).bind fun d T1 => Ev.opt (match d with
          | .tup xs => some xs
          | _ => none) T1) R
        rw [e0]
        exact p'
      | _ =>
        refine .inr ⟨I, ρ, T, own, w, er, ?_⟩
        show Post Γ (relW Γ) W σ H I ((evD a.ev ρ T).bind fun d T1 => Ev.opt (dLst d) T1) R
        rw [e0]
        exact p'
  fs := fun h => notSetL_ok (b2 h).1
end Tp
end
section
set_option Elab.async false
set_option linter.all false
set_option maxRecDepth 100000
set_option maxHeartbeats 2000000
/-! TqC: the head's facts over a lean part of the heap: level by level, a class by its own dict alone. -/
namespace Tp
open PySem PySem.Spec PyProof.Rows L2
end Tp
end
section
set_option Elab.async false
set_option linter.all false
set_option maxRecDepth 100000
set_option maxHeartbeats 2000000
/-! TqD: x.extend(list). -/
namespace Tp
open PySem PySem.Spec PyProof.Rows L2

end Tp
end
section
set_option Elab.async false
set_option linter.all false
set_option maxRecDepth 100000
set_option maxHeartbeats 2000000
/-! TqE: sorted(ints), max(ints). -/
namespace Tp
open PySem PySem.Spec PyProof.Rows L2

def insI (a : Int) : List Int → List Int
  | [] => [a]
  | b :: l => if a ≤ b then a :: b :: l else b :: insI a l
def srtI : List Int → List Int
  | [] => []
  | a :: l => insI a (srtI l)
theorem insI_perm (a : Int) : ∀ l : List Int, (insI a l).Perm (a :: l)
  | [] => .refl _
  | b :: l => by
    show (if a ≤ b then a :: b :: l else b :: insI a l).Perm _
    split
    · exact .refl _
    · exact ((insI_perm a l).cons b).trans (.swap a b l)
theorem srtI_perm : ∀ l : List Int, (srtI l).Perm l
  | [] => .refl _
  | a :: l => (insI_perm a (srtI l)).trans ((srtI_perm l).cons a)
theorem insI_pw (a : Int) : ∀ l : List Int, l.Pairwise (· ≤ ·) → (insI a l).Pairwise (· ≤ ·)
  | [], _ => List.pairwise_singleton _ _
  | b :: l, h => by
    show (if a ≤ b then a :: b :: l else b :: insI a l).Pairwise _
    rw [List.pairwise_cons] at h
    split
    · rename_i hab
      rw [List.pairwise_cons]
      refine ⟨fun c hc => ?_, List.pairwise_cons.mpr h⟩
      rcases List.mem_cons.mp hc with rfl | hc
      · exact hab
      · exact Int.le_trans hab (h.1 c hc)
    · rename_i hab
      rw [List.pairwise_cons]
      refine ⟨fun c hc => ?_, insI_pw a l h.2⟩
      rcases List.mem_cons.mp ((insI_perm a l).mem_iff.mp hc) with rfl | hc
      · omega
      · exact h.1 c hc
theorem srtI_pw : ∀ l : List Int, (srtI l).Pairwise (· ≤ ·)
  | [] => .nil
  | a :: l => insI_pw a _ (srtI_pw l)
theorem srtI_eq {l m : List Int} (p : m.Perm l) (s : m.Pairwise (· ≤ ·)) : m = srtI l :=
  List.Perm.eq_of_pairwise (fun _ _ _ _ a b => Int.le_antisymm a b) s (srtI_pw l) (p.trans (srtI_perm l).symm)
theorem reps_ints {Γ : Gam} {I : Im} : ∀ ns : List Int, Reps Γ I (ns.map .int) (ns.map .int)
  | [] => Reps.nil
  | a :: ns => Reps.cons .ofInt (reps_ints ns)
end Tp
end
section
set_option Elab.async false
set_option linter.all false
set_option maxRecDepth 100000
set_option maxHeartbeats 2000000
/-! TqF: y = x.pop(i). -/
namespace Tp
open PySem PySem.Spec PyProof.Rows L2

theorem Reps.eraseIdx {Γ : Gam} {I : Im} {ds : List D} {vs : List V} (h : Reps Γ I ds vs) (k : Nat) : Reps Γ I (ds.eraseIdx k) (vs.eraseIdx k) := by
  rw [List.eraseIdx_eq_take_drop_succ, List.eraseIdx_eq_take_drop_succ]
  exact (h.take k).append (h.drop (k + 1))
/-- what y and x are after y = x.pop(m) -/
def popTo (j i : Nat) (ρ : Env) (xs : List D) (m : Int) : Option Env :=
  if 0 ≤ m ∧ m < 1000000 ∧ j < ρ.length then (xs[m.toNat]?).map fun y => (ρ.set i (some (.ow (xs.eraseIdx m.toNat)))).set j (some (.sh y)) else none
/-- y = x.pop(e) -/
def sPopTo (j i : Nat) (a : CE) : C1 where
  ev := fun ρ T => match ρ[i]? with
    | some (some (.ow xs)) => (evD a.ev ρ T).bind fun d T1 => match d with
      | .int m => match popTo j i ρ xs m with
        | some ρ' => .ok (.nx ρ') T1
        | none => .no
      | _ => .no
    | _ => .no
  chk := fun k sc st => match st with
    | .Assign [.Name y py] (.Call (.Attribute (.Name x xp) m ap) [e] [] cp) _ => decide (m = ("pop" : Str)) && (okStore sc j y && (noSwap sc.nm y py (.Call (.Attribute (.Name x xp) m ap) [e] [] cp) && ((ap.endLine == cp.line) && (isVar sc i x && (notStar e && a.chk k sc e)))))
    | _ => false
  need := a.need
  ok := by
    intro Γ k W sc X st g nd h
    split at h
    · rename_i y py x xp m ap e cp pos
      obtain ⟨h1, h⟩ := b2 h
      obtain ⟨h5, h⟩ := b2 h
      obtain ⟨h6, h⟩ := b2 h
      obtain ⟨hl, h⟩ := b2 h
      obtain ⟨h2, h⟩ := b2 h
      obtain ⟨h3, h4⟩ := b2 h
      have hm := of_decide_eq_true h1
      subst hm
      obtain ⟨s1, s2, s3⟩ := okStore_ok g h5
      have hs : swapsWith (.Call (.Attribute (.Name x xp) ("pop" : Str) ap) [e] [] cp) (some (.Name y py)) pos.line X.env = pure false := noSwap_ok g.fk (by rw [g.nm]; exact h6) _
      refine PS.mono (ps_set (i := j) g.nd s1 s2 (pe_bm PySem.F.plainAttrs_list PySem.F.slot_list_pop PySem.F.type_list_pop mt_popAt (isVar_ok g h2) (pa_cons (a.ok (n := X.s_0.heap.objs.size) g nd h4 fun _ => rfl) pa_nil (star_cons h3)) (by rfl) (by rw [star_cons h3]; rfl) hl (star_cons h3) rfl) hs s3) fun D σ H q => ?_
      obtain ⟨I, ρ, T, own, w, er, p⟩ := q
      have p' : PostS Γ X.s_0.heap.objs.size W D (Ow own) H I (match ρ[i]? with
        | some (some (.ow xs)) => (evD a.ev ρ T).bind fun d T1 => match d with
          | .int m => match popTo j i ρ xs m with
            | some ρ' => .ok (.nx ρ') T1
            | none => .no
          | _ => .no
        | _ => .no) := p
      split at p'
      · rename_i xs e1
        obtain ⟨b, vs, o1, o2, o3, o4⟩ := own_list er e1
        refine ⟨_, o2, .inl ⟨rfl, _, SqL.of o3⟩, ?_⟩
        refine ⟨I, ρ, T, own, w, er, Post.toD ((PostS.step (rel := relD Γ) p' Ext.refl).imp fun v H1 q1 => ?_)⟩
        obtain ⟨d, T1, I1, _, x1, w1, r1, p1⟩ := q1
        split at p1
        · rename_i m _
          split at p1
          · rename_i ρ' e2
            unfold popTo at e2
            split at e2
            · rename_i hc
              obtain ⟨c1, c2, c3⟩ := hc
              obtain ⟨y', e3, e4⟩ := Option.map_eq_some_iff.mp e2
              subst e4
              obtain ⟨f1, f2, f3⟩ := er.free i b (by rw [o1]; simp)
              have o3' : H1 b = some (.lst vs) := x1.fr _ _ o3 f2 (fun z => z) trivial
              have o4' := o4.mono x1.le
              obtain ⟨u, u1, u2⟩ := o4'.get e3
              have hk : m.toNat < vs.length := (List.getElem?_eq_some_iff.mp u1).1
              have hv := r1.int
              subst hv
              refine ⟨b, vs, m, m.toNat, u, rfl, rfl, o3', by omega, by omega, ?_, u1, ?_⟩
              · have hn : ¬ m < 0 := by omega
                have hb : (decide (0 ≤ m) && decide (m < (vs.length : Int))) = true := by
                  rw [decide_eq_true c1, decide_eq_true (show m < (vs.length : Int) by omega)]; rfl
                show (if (decide (0 ≤ (if m < 0 then m + vs.length else m)) && decide ((if m < 0 then m + vs.length else m) < (vs.length : Int))) = true then some (if m < 0 then m + (vs.length : Int) else m).toNat else none) = _
                rw [if_neg hn, if_pos hb]
              · have af := write_aft er x1 w1 e1 o1 o2 (lv' := .ow (xs.eraseIdx m.toNat)) ⟨b, _, rfl, rfl, upd_same, o4'.eraseIdx m.toNat⟩
                obtain ⟨own', af2⟩ := store_aft (lv := .sh y') (v := u) (as := []) (i := j) af.er (by rw [List.length_set]; exact c3) Ext.refl af.wf ⟨rfl, u2⟩ (fun _ hz => by cases hz)
                exact p1 _ _ _ _ (af.trans af2)
            · cases e2
          · exact p1.elim
        · exact p1.elim
      · exact p'.elim
    · cases h
end Tp
end
section
set_option Elab.async false
set_option linter.all false
set_option maxRecDepth 100000
set_option maxHeartbeats 2000000
/-! TqG: x = [..] over a list that is lent. -/
namespace Tp
open PySem PySem.Spec PyProof.Rows L2

theorem bor_relR {Γ : Gam} {n : Nat} {own own' : Nat → List Addr} {Hs H' : Hp} {I I1 : Im} {r : R} {v : V} (gg : ∀ a o, I.G a = some o → I1.G a = some o) (kk : ∀ a, a ∈ I.κ → a ∈ I1.κ) (ho : okBor r = true) (q : RepR Γ n own' Hs H' I1 r v) : RepR Γ n own Hs H' I r v := by
  unfold okBor at ho
  split at ho
  · exact RepR.sh (q.unsh.flat0 ho)
  · obtain ⟨as, ⟨b, vs, rfl, h2, h3, h4⟩, h5⟩ := q
    refine ⟨[b], ⟨b, vs, rfl, h2, h3, h4.flat0 ho⟩, fun c hc => ?_⟩
    obtain ⟨g1, g2, g3, g4⟩ := h5 c hc
    refine ⟨?_, fun z => g2 (kk c z), g3, g4⟩
    cases e : I.G c with
    | none => rfl
    | some o => rw [gg c o e] at g1; cases g1
  · cases ho
/-- x = [..], the b-th local's own list lent -/
def sAsgLcB (b j : Nat) (keep : Bool) (t : CG) (i : CI) (c : Option CT) (e : CE) (own : List (Str × Nat)) : C1 where
  ev := fun ρ T => (evBor b okBor (evLc t i c e own) ρ T).bind fun r T1 => match asLV keep r with
    | some lv => if j < ρ.length then .ok (.nx (ρ.set j (some lv))) T1 else .no
    | none => .no
  chk := fun k sc st => match st with
    | .Assign [.Name x px] (.ListComp elt gs scope p) _ => slotIs sc.N j x && (decide (sc.nm.lookup x = some .local) && ((px.line == p.line) && (!(scope.names.any fun (n, k) => n == x && (k == .local || k == .cell)) && chkLc t i c e own k sc (.ListComp elt gs scope p))))
    | _ => false
  need := fun Γ => t.need Γ ∧ i.need Γ ∧ needC c Γ ∧ e.need Γ
  ok := by
    intro Γ k W sc X st g nd h
    split at h
    · rename_i x px elt gs scope p pos
      obtain ⟨h1, h⟩ := b2 h
      obtain ⟨h2, h⟩ := b2 h
      obtain ⟨h3, h⟩ := b2 h
      obtain ⟨h4, h⟩ := b2 h
      have h0 := h
      unfold chkLc at h0
      split at h0
      · rename_i hh
        cases hh
        obtain ⟨q1, q2, q3, q4, q5, q6, q7, q8⟩ := lc_parts (n := X.s_0.heap.objs.size) g nd h fun _ => rfl
        have hl : X.env.scope.names.lookup x = some .local := by rw [g.nm]; exact of_decide_eq_true h2
        refine PS.mono (ps_setLc (i := j) g.calm g.nd (by rw [g.N]; exact slotIs_ok h1) hl (sw_true g.fk hl h3 (notT h4)) q1 q2 q3 q4 q5 q6) fun D σ H q => ?_
        obtain ⟨I, ρ, T, own', w, er, p⟩ := q
        have P : Post Γ (RepR Γ X.s_0.heap.objs.size own') W σ H I (evBor b okBor (evLc t i c e own) ρ T) (fun v H1 => D.nx (σ.set j (some v)) H1) := by
          refine (PostS.step (rel := RepR Γ X.s_0.heap.objs.size own') (show PostS Γ X.s_0.heap.objs.size W D (Ow own') H I ((evBor b okBor (evLc t i c e own) ρ T).bind _) from p) Ext.refl).imp fun v H1 q1 => ?_
          obtain ⟨r, T1, I1, _, x1, w1, r1, p1⟩ := q1
          split at p1
          · rename_i lv e1
            split at p1
            · rename_i hi
              obtain ⟨I2, as, x2, w2, _, l2, f2⟩ := asLV_ok x1 w1 e1 r1
              obtain ⟨own', af⟩ := store_aft er hi x2 w2 l2 f2
              exact p1 _ _ _ _ af
            · exact p1.elim
          · exact p1.elim
        obtain ⟨I2, ρ2, T2, own2, w2, er2, p2⟩ := bor_run (rel := fun own => RepR Γ X.s_0.heap.objs.size own) (fun {own own' Hs H' I I1 r v} gg kk ho q => bor_relR gg kk ho q) w er P
        exact lc_main q7 q8 w2 er2 (Post.lc (n := X.s_0.heap.objs.size) (own := own2) p2)
      · cases h0
    · cases h
end Tp
end
section
set_option Elab.async false
set_option linter.all false
set_option maxRecDepth 100000
set_option maxHeartbeats 2000000
/-! TqH: zip of a list and a tuple. -/
namespace Tp
open PySem PySem.Spec PyProof.Rows L2

section
variable {pr : Program} {wo : World} {Ar : Around} {Ex : Value → Shared → Prop} {m : Shared}
/-- how the five parts lie: the zip, what it draws from, its own tuple, the list's iterator, the tuple's -/
structure LTat (h : Heap) (z u o p q l t : Addr) (f : Value) (c d : Value) (j k : Nat) : Prop where
  z0 : IsZip h z u o f
  u0 : IsPair h u (.ref p) (.ref q)
  o0 : IsPair h o c d
  p0 : h.IsListIter p l j
  q0 : h.IsTupleIter q t k
theorem lt_step {z u o p q l t : Addr} {j k : Nat} {xs ys : Array Value} {x y c d : Value} {G : Value → Shared → Prop} (D : ZipApart z u o p q l t)
    (L : LTat m.heap z u o p q l t .none c d j k) (ml : m.heap.IsList l xs) (mt : m.heap.IsTuple t ys) (ex : xs[j]? = some x) (ey : ys[k]? = some y)
    (go : ∀ h', LTat h' z u o p q l t (rawInt m.heap.objs.size) x y (j + 1) (k + 1) → IsPair h' m.heap.objs.size x y → h'.objs.size = m.heap.objs.size + 1 →
      (∀ c o', c ≠ z → c ≠ o → c ≠ p → c ≠ q → m.heap.get? c = some o' → h'.get? c = some o') → G (.ref m.heap.objs.size) { m with heap := h' }) :
    wpAny (model pr wo) Ar (Builtin.«zip.__next__» ⟨[.ref z], []⟩) (fun fin s' => ∃ v, fin = .done (.ret v) ∧ G v s') Ex m := by
  obtain ⟨z0, u0, o0, p0, q0⟩ := L
  show wpAny _ _ (field (.ref z) 2 >>= fun v => _) _ _ _
  refine wpAny_bind (wpAny_field (i := 2) z0 rfl (x := .bool false) rfl ?_)
  show wpAny _ _ (field (.ref z) 3 >>= fun v => _) _ _ _
  refine wpAny_bind (wpAny_field (i := 3) z0 rfl (x := .ref u) rfl ?_)
  refine wpAny_bind (wpAny_seqItems u0 rfl ?_)
  show wpAny _ _ (Builtin.SmallTypes.ownedTupleIsFree (.ref z) >>= fun v => _) _ _ _
  refine wpAny_bind ?_
  unfold Builtin.SmallTypes.ownedTupleIsFree
  refine wpAny_bind (wpAny_field (i := 0) z0 rfl (x := .none) rfl (wpAny_pure ?_))
  simp only [if_true]
  refine wpAny_bind (wpAny_rule ?_)
  refine wpAny_bind (wpAny_field (i := 4) z0 rfl (x := .ref o) rfl ?_)
  refine wpAny_bind (wpAny_setField_rec z0 (by simp) fun k1 z1 s1 => ?_)
  replace z1 : IsZip k1 z u o .ellipsis := z1
  refine wpAny_bind ?_
  simp only [List.zipIdx_cons, List.zipIdx_nil, List.forIn_cons, List.forIn_nil]
  refine wpAny_bind (wpAny_bind (wpAny_onRaise ?_))
  show wpAny _ _ (Builtin.SmallTypes.nextOf (.ref p) >>= fun v => _) _ _ _
  refine wpAny_bind (wpAny_nextOf_list_item (p0.extBut s1.extBut D.i1z) (ml.extBut s1.extBut D.l1z) ex fun k2 p2 s2 => wpAny_pure ?_)
  have o2 : IsPair k2 o c d := s2.extBut _ _ D.TOi1 (s1.extBut _ _ D.TOz o0)
  refine wpAny_bind (wpAny_seqItems o2 rfl ?_)
  refine wpAny_bind (wpAny_updateSeq_pair o2 fun k3 o3 s3 => ?_)
  replace o3 : IsPair k3 o x d := o3
  refine wpAny_bind (wpAny_letGo (wpAny_pure ?_))
  refine wpAny_bind (wpAny_bind (wpAny_onRaise ?_))
  show wpAny _ _ (Builtin.SmallTypes.nextOf (.ref q) >>= fun v => _) _ _ _
  refine wpAny_bind (RZ.nextOf_tuple_item (((q0.extBut s1.extBut D.i2z).extBut s2.extBut D.i12.symm).extBut s3.extBut D.TOi2.symm)
    (((mt.extBut s1.extBut D.l2z).extBut s2.extBut D.l2i1).extBut s3.extBut D.l2TO) ey fun k4 q4 s4 => wpAny_pure ?_)
  have o4 : IsPair k4 o x d := s4.extBut _ _ D.TOi2 o3
  refine wpAny_bind (wpAny_seqItems o4 rfl ?_)
  refine wpAny_bind (wpAny_updateSeq_pair o4 fun k5 o5 s5 => ?_)
  replace o5 : IsPair k5 o x y := o5
  refine wpAny_bind (wpAny_letGo (wpAny_pure (wpAny_pure ?_)))
  refine wpAny_bind (wpAny_seqItems o5 rfl ?_)
  refine wpAny_bind (wpAny_newTuple ?_)
  have sz : k5.objs.size = m.heap.objs.size := by rw [s5.1, s4.1, s3.1, s2.1, s1.1]
  have z5 : IsZip k5 z u o .ellipsis := s5.extBut _ _ D.TOz.symm (s4.extBut _ _ D.i2z.symm (s3.extBut _ _ D.TOz.symm (s2.extBut _ _ D.i1z.symm z1)))
  have keep : ∀ c o', c ≠ z → c ≠ o → c ≠ p → c ≠ q → m.heap.get? c = some o' → k5.get? c = some o' := fun c o' c1 c2 c3 c4 e =>
    s5.extBut _ _ c2 (s4.extBut _ _ c4 (s3.extBut _ _ c2 (s2.extBut _ _ c3 (s1.extBut _ _ c1 e))))
  have p5 : k5.IsListIter p l (j + 1) := ((p2.extBut s3.extBut D.TOi1.symm).extBut s4.extBut D.i12).extBut s5.extBut D.TOi1.symm
  have q5 : k5.IsTupleIter q t (k + 1) := q4.extBut s5.extBut D.TOi2.symm
  have zlt : z < k5.objs.size := Heap.lt_size z5
  show wpAny _ _ (Builtin.SmallTypes.ownedTupleHandOut (.ref z) (.ref k5.objs.size) >>= fun v => _) _ _ _
  refine wpAny_bind ?_
  unfold Builtin.SmallTypes.ownedTupleHandOut
  have z6 : IsZip (k5.push { cls := .type "tuple", data := .seq #[x, y] }) z u o .ellipsis := Heap.get?_push_of_some _ z5
  refine wpAny_bind (wpAny_setField_rec z6 (by simp) fun k7 z7 s7 => ?_)
  replace z7 : IsZip k7 z u o (rawInt k5.objs.size) := z7
  refine wpAny_setField_rec z7 (by simp) fun k8 z8 s8 => ?_
  replace z8 : IsZip k8 z u o (rawInt k5.objs.size) := z8
  have up : ∀ c o', c ≠ z → k5.get? c = some o' → k8.get? c = some o' := fun c o' c1 e => s8.extBut _ _ c1 (s7.extBut _ _ c1 (Heap.get?_push_of_some _ e))
  have n8 : IsPair k8 k5.objs.size x y := s8.extBut _ _ (Nat.ne_of_gt zlt) (s7.extBut _ _ (Nat.ne_of_gt zlt) (Heap.get?_push_size _ rfl))
  have e8 : k8.objs.size = k5.objs.size + 1 := by rw [s8.1, s7.1, Heap.size_push]
  rw [sz] at z8 n8 e8
  refine wpAny_pure ⟨_, rfl, ?_⟩
  show G (.ref k5.objs.size) _
  rw [sz]
  exact go k8 ⟨z8, up _ _ D.TIz (keep _ _ D.TIz D.TITO D.TIi1 D.TIi2 u0), up _ _ D.TOz o5, p5.at fun o' e => up _ o' D.i1z e, q5.at fun o' e => up _ o' D.i2z e⟩ n8 e8 fun c o' c1 c2 c3 c4 e => up c o' c1 (keep c o' c1 c2 c3 c4 e)

theorem lt_last {z u o p q l t : Addr} {j k : Nat} {xs ys : Array Value} {c d : Value} {G : Fin → Shared → Prop} (hh : Ar.handled = none) (D : ZipApart z u o p q l t)
    (L : LTat m.heap z u o p q l t .none c d j k) (ml : m.heap.IsList l xs) (mt : m.heap.IsTuple t ys) (en : xs[j]? = none ∨ ys[k]? = none)
    (go : ∀ h' e, (∀ c o', c ≠ z → c ≠ o → c ≠ p → c ≠ q → m.heap.get? c = some o' → h'.get? c = some o') → (∃ o', h'.get? e = some o' ∧ o'.cls = .type "StopIteration") → Ex (.ref e) { m with heap := h' }) :
    wpAny (model pr wo) Ar (Builtin.«zip.__next__» ⟨[.ref z], []⟩) G Ex m := by
  obtain ⟨z0, u0, o0, p0, q0⟩ := L
  show wpAny _ _ (field (.ref z) 2 >>= fun v => _) _ _ _
  refine wpAny_bind (wpAny_field (i := 2) z0 rfl (x := .bool false) rfl ?_)
  show wpAny _ _ (field (.ref z) 3 >>= fun v => _) _ _ _
  refine wpAny_bind (wpAny_field (i := 3) z0 rfl (x := .ref u) rfl ?_)
  refine wpAny_bind (wpAny_seqItems u0 rfl ?_)
  show wpAny _ _ (Builtin.SmallTypes.ownedTupleIsFree (.ref z) >>= fun v => _) _ _ _
  refine wpAny_bind ?_
  unfold Builtin.SmallTypes.ownedTupleIsFree
  refine wpAny_bind (wpAny_field (i := 0) z0 rfl (x := .none) rfl (wpAny_pure ?_))
  simp only [if_true]
  refine wpAny_bind (wpAny_rule ?_)
  refine wpAny_bind (wpAny_field (i := 4) z0 rfl (x := .ref o) rfl ?_)
  refine wpAny_bind (wpAny_setField_rec z0 (by simp) fun k1 z1 s1 => ?_)
  replace z1 : IsZip k1 z u o .ellipsis := z1
  refine wpAny_bind ?_
  simp only [List.zipIdx_cons, List.zipIdx_nil, List.forIn_cons, List.forIn_nil]
  refine wpAny_bind (wpAny_bind (wpAny_onRaise ?_))
  show wpAny _ _ (Builtin.SmallTypes.nextOf (.ref p) >>= fun v => _) _ _ _
  cases ex : xs[j]? with
  | none =>
    refine wpAny_bind (wpAny_nextOf_list_end hh (p0.extBut s1.extBut D.i1z) (ml.extBut s1.extBut D.l1z) ex fun k2 e s2 ⟨oe, he, ce⟩ => ?_)
    have z2 : IsZip k2 z u o .ellipsis := s2 _ _ D.i1z.symm z1
    have ez : e ≠ z := fun x => by subst x; rw [z2] at he; cases he; simp at ce
    refine wpAny_setField_rec z2 (by simp) fun k3 _ s3 => go k3 e (fun c o' c1 _ c3 _ x => s3.extBut _ _ c1 (s2 _ _ c3 (s1.extBut _ _ c1 x))) ⟨oe, s3.extBut _ _ ez he, ce⟩
  | some x =>
    have ey : ys[k]? = none := by rcases en with h | h; rw [ex] at h; cases h; exact h
    refine wpAny_bind (wpAny_nextOf_list_item (p0.extBut s1.extBut D.i1z) (ml.extBut s1.extBut D.l1z) ex fun k2 p2 s2 => wpAny_pure ?_)
    have o2 : IsPair k2 o c d := s2.extBut _ _ D.TOi1 (s1.extBut _ _ D.TOz o0)
    refine wpAny_bind (wpAny_seqItems o2 rfl ?_)
    refine wpAny_bind (wpAny_updateSeq_pair o2 fun k3 o3 s3 => ?_)
    refine wpAny_bind (wpAny_letGo (wpAny_pure ?_))
    refine wpAny_bind (wpAny_bind (wpAny_onRaise ?_))
    show wpAny _ _ (Builtin.SmallTypes.nextOf (.ref q) >>= fun v => _) _ _ _
    refine wpAny_bind (RZ.nextOf_tuple_end hh (((q0.extBut s1.extBut D.i2z).extBut s2.extBut D.i12.symm).extBut s3.extBut D.TOi2.symm)
      (((mt.extBut s1.extBut D.l2z).extBut s2.extBut D.l2i1).extBut s3.extBut D.l2TO) ey fun k4 e s4 ⟨oe, he, ce⟩ => ?_)
    have z4 : IsZip k4 z u o .ellipsis := s4 _ _ D.i2z.symm (s3.extBut _ _ D.TOz.symm (s2.extBut _ _ D.i1z.symm z1))
    have ez : e ≠ z := fun x => by subst x; rw [z4] at he; cases he; simp at ce
    refine wpAny_setField_rec z4 (by simp) fun k5 _ s5 => go k5 e (fun c o' c1 c2 c3 c4 x => s5.extBut _ _ c1 (s4 _ _ c4 (s3.extBut _ _ c2 (s2.extBut _ _ c3 (s1.extBut _ _ c1 x))))) ⟨oe, s5.extBut _ _ ez he, ce⟩

theorem lt_pyItem {z u o p q l t : Addr} {j k : Nat} {xs ys : Array Value} {x y c d : Value} {G : Option Value → Shared → Prop} (D : ZipApart z u o p q l t)
    (L : LTat m.heap z u o p q l t .none c d j k) (ml : m.heap.IsList l xs) (mt : m.heap.IsTuple t ys) (ex : xs[j]? = some x) (ey : ys[k]? = some y)
    (go : ∀ h', LTat h' z u o p q l t (rawInt m.heap.objs.size) x y (j + 1) (k + 1) → IsPair h' m.heap.objs.size x y → h'.objs.size = m.heap.objs.size + 1 →
      (∀ c o', c ≠ z → c ≠ o → c ≠ p → c ≠ q → m.heap.get? c = some o' → h'.get? c = some o') → G (some (.ref m.heap.objs.size)) { m with heap := h' }) :
    wpAny (model pr wo) Ar (pyNext (.ref z)) G Ex m := by
  have ty : m.TypeIs (.ref z) "zip" := ⟨_, L.z0, rfl⟩
  unfold pyNext
  exact wpAny_bind (wpAny_attempt (wpAny_callSpecial?_slot (name := Str.ofString "__next__") ty F.slot_zip_next
    (wpAny_call_entry F.slot_zip_next ty F.entry_zip_next (lt_step D L ml mt ex ey fun h' a1 a2 a3 a4 => wpAny_pure (go h' a1 a2 a3 a4)) (F.args_zip_next_1 _))))
theorem lt_pyEnd {z u o p q l t : Addr} {j k : Nat} {xs ys : Array Value} {c d : Value} {G : Option Value → Shared → Prop} (hh : Ar.handled = none) (D : ZipApart z u o p q l t)
    (L : LTat m.heap z u o p q l t .none c d j k) (ml : m.heap.IsList l xs) (mt : m.heap.IsTuple t ys) (en : xs[j]? = none ∨ ys[k]? = none)
    (go : ∀ h', (∀ c o', c ≠ z → c ≠ o → c ≠ p → c ≠ q → m.heap.get? c = some o' → h'.get? c = some o') → G none { m with heap := h' }) :
    wpAny (model pr wo) Ar (pyNext (.ref z)) G Ex m := by
  have ty : m.TypeIs (.ref z) "zip" := ⟨_, L.z0, rfl⟩
  unfold pyNext
  refine wpAny_bind (wpAny_attempt (wpAny_callSpecial?_slot (name := Str.ofString "__next__") ty F.slot_zip_next
    (wpAny_call_entry F.slot_zip_next ty F.entry_zip_next (lt_last hh D L ml mt en fun h' e kk ⟨o', ho, hc⟩ => ?_) (F.args_zip_next_1 _))))
  refine wpAny_bind (wpAny_isInstance (T := "StopIteration") (b := true) ⟨o', ho, hc⟩ isSubtype_stop ?_)
  exact wpAny_pure (go _ kk)
end
abbrev ltH1 (h : Heap) (l : Addr) : Heap := h.push { cls := .type "list_iterator", data := .fields #[.ref l, .int 0 0] }
abbrev ltH2 (h : Heap) (l t : Addr) : Heap := (ltH1 h l).push { cls := .type "tuple_iterator", data := .fields #[.ref t, .int 0 0] }
abbrev ltH3 (h : Heap) (l t : Addr) : Heap := (ltH2 h l t).push { cls := .type "tuple", data := .seq #[.ref h.objs.size, .ref (ltH1 h l).objs.size] }
abbrev ltH4 (h : Heap) (l t : Addr) : Heap := (ltH3 h l t).push { cls := .type "tuple", data := .seq #[.none, .none] }
abbrev ltH5 (h : Heap) (l t : Addr) : Heap := (ltH4 h l t).push { cls := .type "zip", data := .fields #[.none, .bool false, .bool false, .ref (ltH2 h l t).objs.size, .ref (ltH3 h l t).objs.size] }
theorem lt_meets (l t : Addr) (xs ys : Array Value) :
    Meets (Builtin.«zip.__new__» ⟨[.type "zip", .ref l, .ref t], []⟩) (fun _ R m => m.heap.IsList l xs ∧ m.heap.IsTuple t ys ∧
      R (.ok (.ret (.ref (ltH4 m.heap l t).objs.size))) { m with heap := ltH5 m.heap l t }) :=
  .of_wp fun pr wo Ar R m h => by
    obtain ⟨hp, g, d, tk, os⟩ := m; obtain ⟨ml, mt, h⟩ := h
    have hsub := sub_zip
    have ml' : Heap.IsList (Shared.heap ⟨hp, g, d, tk, os⟩) l xs := ml
    have mt' : Heap.IsTuple (Shared.heap ⟨hp.push { cls := .type "list_iterator", data := .fields #[.ref l, .int 0 0] }, g, d, tk, os⟩) t ys := Heap.IsTuple.push mt _
    wp_walk using wpAny_pyIter_list ml', wpAny_pyIter_tuple mt'
    exact ⟨_, rfl, h⟩
section
variable {pr : Program} {wo : World} {Ar : Around} {Ex : Value → Shared → Prop} {m : Shared}
theorem lt_call {l t : Addr} {xs ys : Array Value} {G : Value → Shared → Prop} (ml : m.heap.IsList l xs) (mt : m.heap.IsTuple t ys)
    (go : ∀ h', LTat h' (m.heap.objs.size + 4) (m.heap.objs.size + 2) (m.heap.objs.size + 3) m.heap.objs.size (m.heap.objs.size + 1) l t .none .none .none 0 0 →
      (∀ c o, m.heap.get? c = some o → h'.get? c = some o) → G (.ref (m.heap.objs.size + 4)) { m with heap := h' }) :
    wpAny (model pr wo) Ar (call (.type "zip") [.ref l, .ref t]) G Ex m := by
  refine callType_new F.called_zip (by decide) (F.typeCall_zip_2 _ _) (F.newCall_zip_2 _ _) (fun obj => F.args_object_init_3 obj _ _) F.entry_zip_new
    (lt_meets l t xs ys) ⟨ml, mt, ?_⟩
  have z1 : (ltH1 m.heap l).objs.size = m.heap.objs.size + 1 := Heap.size_push ..
  have z2 : (ltH2 m.heap l t).objs.size = m.heap.objs.size + 2 := by rw [Heap.size_push, z1]
  have z3 : (ltH3 m.heap l t).objs.size = m.heap.objs.size + 3 := by rw [Heap.size_push, z2]
  have z4 : (ltH4 m.heap l t).objs.size = m.heap.objs.size + 4 := by rw [Heap.size_push, z3]
  have g5 : (ltH5 m.heap l t).get? (ltH4 m.heap l t).objs.size = some _ := Heap.get?_push_size _ rfl
  have g4 : (ltH5 m.heap l t).get? (ltH3 m.heap l t).objs.size = some _ := Heap.get?_push_of_some _ (Heap.get?_push_size _ rfl)
  have g3 : (ltH5 m.heap l t).get? (ltH2 m.heap l t).objs.size = some _ := Heap.get?_push_of_some _ (Heap.get?_push_of_some _ (Heap.get?_push_size _ rfl))
  have g2 : (ltH5 m.heap l t).get? (ltH1 m.heap l).objs.size = some _ := Heap.get?_push_of_some _ (Heap.get?_push_of_some _ (Heap.get?_push_of_some _ (Heap.get?_push_size _ rfl)))
  have g1 : (ltH5 m.heap l t).get? m.heap.objs.size = some _ := Heap.get?_push_of_some _ (Heap.get?_push_of_some _ (Heap.get?_push_of_some _ (Heap.get?_push_of_some _ (Heap.get?_push_size _ rfl))))
  show _ ∧ _
  rw [z2, z3, z4] at g5
  rw [z1, z2] at g3
  rw [z3] at g4
  rw [z1] at g2
  rw [z4]
  exact ⟨⟨_, g5, rfl⟩, go _ ⟨g5, g3, g4, ⟨_, g1, rfl, rfl⟩, ⟨_, g2, rfl, rfl⟩⟩ fun c o x =>
    Heap.get?_push_of_some _ (Heap.get?_push_of_some _ (Heap.get?_push_of_some _ (Heap.get?_push_of_some _ (Heap.get?_push_of_some _ x))))⟩
end
/-- a list and a tuple, in new pairs -/
def Itlt (K : PySem.W.Frag) (l t : Addr) : It :=
  ⟨fun i H => ∃ (xs ys : List V) (x y : V), SqL K H l xs ∧ SqT K H t ys ∧ xs[i]? = some x ∧ ys[i]? = some y,
    fun i H v H' => ∃ b x y, v = .ref b ∧ H b = none ∧ H' = upd H b (.tup [x, y]) ∧ (∀ xs, SqL K H l xs → xs[i]? = some x) ∧ ∀ ys, SqT K H t ys → ys[i]? = some y,
    fun i H => ∃ xs ys : List V, SqL K H l xs ∧ SqT K H t ys ∧ (xs.length ≤ i ∨ ys.length ≤ i)⟩
theorem turn_lt {pr : Program} {wo : World} {K : PySem.W.Frag} {elts : List Expr} {kk : Nat} {tpos : Pos} {l t z u o p q : Addr} (D : ZipApart z u o p q l t) :
    Turn pr wo K (.Tuple elts kk tpos) (Itlt K l t) [z, u, o, p, q] z (fun i h => ∃ c d, LTat h z u o p q l t .none c d i i) where
  mem := by simp
  obj := fun i h ⟨x, y, st⟩ c hc => by
    obtain ⟨z0, u0, o0, ⟨o1, e1, _, d1⟩, ⟨o2, e2, _, d2⟩⟩ := st
    have e' : c = z ∨ c = u ∨ c = o ∨ c = p ∨ c = q := by simpa using hc
    rcases e' with r | r | r | r | r
    · rw [r]; exact ⟨_, z0, fun v q => nomatch q⟩
    · rw [r]; exact ⟨_, u0, fun v q => nomatch q⟩
    · rw [r]; exact ⟨_, o0, fun v q => nomatch q⟩
    · rw [r]; exact ⟨o1, e1, fun v q => by rw [d1] at q; cases q⟩
    · rw [r]; exact ⟨o2, e2, fun v q => by rw [d2] at q; cases q⟩
  keep := fun i h h' ⟨x, y, st⟩ k => ⟨x, y, k z (by simp) _ st.z0, k u (by simp) _ st.u0, k o (by simp) _ st.o0, st.p0.at fun o' r => k p (by simp) o' r, st.q0.at fun o' r => k q (by simp) o' r⟩
  item := by
    intro X hP hw hK hc i pins m σ H E I hf st hg
    subst hP hw hK
    obtain ⟨x0, y0, st⟩ := st
    obtain ⟨xs, ys, x, y, hqx, hqy, hx, hy⟩ := hg
    obtain ⟨its, rv, ml, _⟩ := I.list hqx
    obtain ⟨its2, rv2, mt, _⟩ := I.tuple hqy
    obtain ⟨u1, hu, ru⟩ := rv.get hx
    obtain ⟨u2, hu2, ru2⟩ := rv2.get hy
    have zl : z < m.heap.objs.size := Heap.lt_size st.z0
    refine lt_pyItem D st ml.isList mt (x := u1) (y := u2) (by simpa using hu) (by simpa using hu2) fun h' L' hT hsz hk => ?_
    refine ⟨_, rfl, wpAny_letOwnedTupleGo_zip (s := { m with heap := h' }) L'.z0 fun h'' z'' sb => ?_⟩
    have hT2 : h''.get? m.heap.objs.size = some { cls := .type "tuple", data := .seq #[u1, u2] } := (sb.2 _ (Nat.ne_of_gt zl)).trans hT
    have new : ObjOk X.prog X.w (upd H m.heap.objs.size (.tup [x, y])) h'' m.heap.objs.size (.tup [x, y]) :=
      ⟨by show 2 ≤ sizeLine; decide, [u1, u2], .cons ru (.cons ru2 .nil), ⟨_, hT2, rfl, _, rfl⟩⟩
    have I1 : Inv X pins σ (upd H m.heap.objs.size (.tup [x, y])) { m with heap := h'' } :=
      I.turnedNew (t' := m.toks) (ch := [z, u, o, p, q]) (fun c o' hb r => (sb.2 c (fun r' => hb (by simp [r']))).trans (hk c o' (fun r' => hb (by simp [r'])) (fun r' => hb (by simp [r'])) (fun r' => hb (by simp [r'])) (fun r' => hb (by simp [r'])) r)) hf (Nat.le_refl _) new
    refine ⟨.ref m.heap.objs.size, _, I1, rfl, ⟨_, x, y, rfl, I.hok.fresh (Nat.le_refl _), rfl, fun l' hl => by rw [I.list_inj hl hqx]; exact hx, fun l' hl => by rw [I.tuple_inj hl hqy]; exact hy⟩, ⟨u1, u2, z'', ?_, ?_, ?_, ?_⟩, fun c hcm => ?_⟩
    · exact (sb.2 _ D.TIz).trans L'.u0
    · exact (sb.2 _ D.TOz).trans L'.o0
    · exact L'.p0.at fun o' r => (sb.2 _ D.i1z).trans r
    · exact L'.q0.at fun o' r => (sb.2 _ D.i2z).trans r
    · have hlt : c < m.heap.objs.size := by
        have e' : c = z ∨ c = u ∨ c = o ∨ c = p ∨ c = q := by simpa using hcm
        rcases e' with r | r | r | r | r
        · rw [r]; exact zl
        · rw [r]; exact Heap.lt_size st.u0
        · rw [r]; exact Heap.lt_size st.o0
        · rw [r]; obtain ⟨_, e1, _⟩ := st.p0; exact Heap.lt_size e1
        · rw [r]; obtain ⟨_, e2, _⟩ := st.q0; exact Heap.lt_size e2
      rw [upd_ne (Nat.ne_of_lt hlt)]
      exact (hf c hcm).1
  done := by
    intro X hP hw hK hc i pins m σ H E I hf st hg
    subst hP hw hK
    obtain ⟨x0, y0, st⟩ := st
    obtain ⟨xs, ys, hqx, hqy, hend⟩ := hg
    obtain ⟨its, rv, ml, _⟩ := I.list hqx
    obtain ⟨its2, rv2, mt, _⟩ := I.tuple hqy
    have l1 := rv.length
    have l2 := rv2.length
    have he : its.toArray[i]? = none ∨ its2.toArray[i]? = none := by
      rcases hend with r | r
      · exact .inl (by simp; omega)
      · exact .inr (by simp; omega)
    exact lt_pyEnd (I.ok.hd hc) D st ml.isList mt he fun h' hk => ⟨rfl, I.turnedL (t' := m.toks) (ch := [z, u, o, p, q]) (fun c o' hb r =>
      hk c o' (fun r' => hb (by simp [r'])) (fun r' => hb (by simp [r'])) (fun r' => hb (by simp [r'])) (fun r' => hb (by simp [r'])) r) hf⟩
  self := fun A i m Q E ⟨x, y, st⟩ h => wpAny_pyIter_zip st.z0 h
/-- what is asked of zip(e, e2): two lists, two tuples, a list and a tuple -/
def iZipLT (K : PySem.W.Frag) (ta : TA) : TI := fun σ H R => ta σ H fun vs H1 => ∃ a b xs ys, vs = [.ref a, .ref b] ∧ SqL K H1 a xs ∧ SqT K H1 b ys ∧ R (Itlt K a b) H1
theorem pi_zipLT {X : Cx} {e e2 : Expr} {ta : TA} {p pos tpos : Pos} {elts : List Expr} {kk : Nat} (hg : Gl X "zip") (hm : X.mg "zip" = none) (ha : PA X [e, e2] ta)
    (hs : starEach [e, e2] X.env = (false, eval e X.env) :: starEach [e2] X.env := by rfl) (hpl : (backTo pos (starEach [e2] X.env)).any (·.1) = false := by rfl) :
    PI X (.Tuple elts kk tpos) (.Call (.Name "zip" p) [e, e2] [] pos) (iZipLT X.K ta) := by
  refine ⟨fun pins m σ H R I h => ?_⟩
  refine Call_ (ld_blt I hg hm PyProof.Rows.boot_zip (PyProof.Rows.callWith_type1 (thn (ha.run pos pins m σ H _ I h) fun us m1 ⟨vs, H1, I1, r1, q1⟩ => ?_) hs hpl))
  obtain ⟨a, b, xs, ys, ex, hqx, hqy, q⟩ := q1
  subst ex
  cases r1 with
  | cons r rr =>
    cases rr with
    | cons r' rr =>
      cases rr
      cases r
      cases r'
      have fresh5 : ∀ c, c ∈ [m1.heap.objs.size + 4, m1.heap.objs.size + 2, m1.heap.objs.size + 3, m1.heap.objs.size, m1.heap.objs.size + 1] → FpOk X pins H1 c := fun c hcm => by
        have e' : c = m1.heap.objs.size + 4 ∨ c = m1.heap.objs.size + 2 ∨ c = m1.heap.objs.size + 3 ∨ c = m1.heap.objs.size ∨ c = m1.heap.objs.size + 1 := by simpa using hcm
        have hle : m1.heap.objs.size ≤ c := by
          rcases e' with z | z | z | z | z <;> rw [z] <;> first | exact Nat.le_add_right _ _ | exact Nat.le_refl _
        exact I1.fpOk hle (I1.hok.fresh hle)
      obtain ⟨its, rv, ml, _⟩ := I1.list hqx
      obtain ⟨its2, rv2, mt, _⟩ := I1.tuple hqy
      obtain ⟨o2, ho2, _⟩ := id mt
      refine lt_call ml.isList mt fun h' L hk => wpAny_pyIter_zip L.z0 ?_
      have I2 : Inv X pins σ H1 { m1 with heap := h' } := I1.kept (t' := m1.toks) hk
      exact ⟨m1.heap.objs.size + 4, [m1.heap.objs.size + 4, m1.heap.objs.size + 2, m1.heap.objs.size + 3, m1.heap.objs.size, m1.heap.objs.size + 1], _, _, H1, rfl, I2, turn_lt (PySem.W.ktu_apart m1.heap.objs.size a b ml.lt (Heap.lt_size ho2)), ⟨_, _, L⟩, fresh5, q⟩
theorem Walk.zipLT {Γ : Gam} {I : Im} {a b : Addr} {vs us : List V} {ds es : List D} (h : SqL Γ.K I.G a vs) (r : Reps Γ I ds vs) (h2 : SqT Γ.K I.G b us) (r2 : Reps Γ I es us) : Walk Γ (Itlt Γ.K a b) I (zipD ds es) where
  go := fun H I' T i le w hi => by
    rw [zipD_len] at hi
    have h' := SqL.ext w.gh (SqL.ext le.gg h)
    have h2' := SqT.ext w.gh (SqT.ext le.gg h2)
    exact ⟨vs, us, vs[i]'(by rw [r.length]; omega), us[i]'(by rw [r2.length]; omega), h', h2', by simp, by simp⟩
  yld := fun H I' T i d x H' le w hd ⟨p, x1, y1, e1, e2, e3, k1, k2⟩ => by
    subst e1 e3
    obtain ⟨u, v, g1, g2, rfl⟩ := zipD_get hd
    obtain ⟨v1, q1, q2⟩ := r.get g1
    obtain ⟨v2, q3, q4⟩ := r2.get g2
    have z1 := k1 vs (SqL.ext w.gh (SqL.ext le.gg h))
    have z2 := k2 us (SqT.ext w.gh (SqT.ext le.gg h2))
    rw [q1] at z1; cases z1
    rw [q3] at z2; cases z2
    exact newTup w e2 (Reps.cons (q2.mono le) (Reps.cons (q4.mono le) Reps.nil))
  stop := fun H I' T i le w hi => by
    rw [zipD_len] at hi
    refine ⟨vs, us, SqL.ext w.gh (SqL.ext le.gg h), SqT.ext w.gh (SqT.ext le.gg h2), ?_⟩
    rw [r.length, r2.length]
    omega
def iZipM (a b : CE) : CI where
  ev := fun ρ T => (evD a.ev ρ T).bind fun x T1 => (evD b.ev ρ T1).bind fun y T2 => Ev.opt (match dLst x, y with
    | some xs, .tup ys => some (zipD xs ys)
    | _, _ => none) T2
  chk := fun k sc tg e => match e with
    | .Call (.Name x _) [y, y2] [] _ => decide (x = ("zip" : Str)) && (isTupE tg && (isGl sc.nm x && ((notStar y && notStar y2) && (a.chk k sc y && b.chk k sc y2))))
    | _ => false
  need := fun Γ => Γ.mg "zip" = none ∧ a.need Γ ∧ b.need Γ
  z := a.z || b.z
  ok := by
    intro Γ k W sc X tg e n g nd h hz
    split at h
    · rename_i x p y y2 pos
      obtain ⟨h1, h⟩ := b2 h
      obtain ⟨ht, h⟩ := b2 h
      obtain ⟨h2, h⟩ := b2 h
      obtain ⟨h4, h5⟩ := b2 h
      obtain ⟨h4, h4b⟩ := b2 h4
      obtain ⟨h5, h5b⟩ := b2 h5
      have hx := of_decide_eq_true h1
      subst hx
      have htg : ∃ elts kk tpos, tg = .Tuple elts kk tpos := by
        cases tg <;> first | exact ⟨_, _, _, rfl⟩ | cases ht
      obtain ⟨elts, kk, tpos, rfl⟩ := htg
      refine PI.mono (pi_zipLT (isGl_ok g.nm h2) (by rw [g.mg]; exact nd.1) (pa_cons (a.ok g nd.2.1 h5 (or1 hz).1) (pa_cons (b.ok g nd.2.2 h5b (or1 hz).2) pa_nil (star_cons h4b)) (star_cons h4)) (star_cons h4) (by rw [star_cons h4b]; rfl)) fun σ H R q => ?_
      obtain ⟨I, ρ, T, own, w, er, p⟩ := q
      refine ⟨I, ρ, T, own, w, er, Post.toD ((Post.bind (rel := relD Γ) backW p).imp fun x H1 q1 => ?_)⟩
      obtain ⟨r, T1, I1, _, x1, w1, r1, p1⟩ := q1
      refine ⟨I1, ρ, T1, own, w1, er.ext x1, Post.toD ((Post.bind (rel := relD Γ) backW p1).imp fun y H2 q2 => ?_)⟩
      obtain ⟨r2, T2, I2, _, x2, w2, r2', p2⟩ := q2
      obtain ⟨out, e1, k1⟩ := Post.opt p2
      cases ea : dLst r with
      | none => rw [ea] at e1; cases e1
      | some xs =>
        rw [ea] at e1
        have go : ∀ ys, r2 = .tup ys → some (zipD xs ys) = some out → ∃ (a b : Addr) (xs ys : List V), [x, y] = [.ref a, .ref b] ∧ SqL X.K H2 a xs ∧ SqT X.K H2 b ys ∧ R (Itlt X.K a b) H2 := by
          intro ys ey e3
          subst ey
          cases e3
          obtain ⟨l1, vs, rfl, h2, h3⟩ := dLst_ok ea (show Rep Γ I2 r x from Rep.mono x2.le r1)
          obtain ⟨l2, us, rfl, h6, h7⟩ := (show Rep Γ I2 (.tup _) y from r2').tup
          rw [g.K]
          exact ⟨l1, l2, vs, us, rfl, SqL.ext w2.gh h2, SqT.ext w2.gh h6, k1 _ H2 I2 Ext.refl w2 (Walk.zipLT h2 h3 h6 h7)⟩
        cases r2 with
        | tup ys => exact go ys rfl e1
        | _ => cases e1
    · cases h
  fs := fun {k sc tg e env} h x => by
    split at h
    · rfl
    · cases h
/-- zip of a list and a list or tuple -/
def zipS (x y : D) : Option (List D) := match dLst x, seqD y with
  | some xs, some ys => some (zipD xs ys)
  | _, _ => none
def iZip3 (a b : CE) : CI where
  ev := fun ρ T => (evD a.ev ρ T).bind fun x T1 => (evD b.ev ρ T1).bind fun y T2 => Ev.opt (zipS x y) T2
  chk := (iZip2 a b).chk
  need := (iZip2 a b).need
  z := (iZip2 a b).z
  ok := by
    intro Γ k W sc X tg e n g nd h hz
    refine PI.mono (PI.orI ((iZipM a b).ok (tg := tg) (n := n) g nd h hz) ((iZip2 a b).ok (tg := tg) (n := n) g nd h hz)) fun σ H R q => ?_
    obtain ⟨I, ρ, T, own, w, er, p⟩ := q
    have p' : Post Γ (relW Γ) W σ H I ((evD a.ev ρ T).bind fun x T1 => (evD b.ev ρ T1).bind fun y T2 => Ev.opt (zipS x y) T2) R := p
    have right : ((evD a.ev ρ T).bind fun x T1 => (evD b.ev ρ T1).bind fun y T2 => Ev.opt (zipS x y) T2) = (iZip2 a b).ev ρ T → tW Γ n W (iZip2 a b).ev σ H R := fun e => ⟨I, ρ, T, own, w, er, by rw [← e]; exact p'⟩
    cases e0 : evD a.ev ρ T with
    | no => rw [e0] at p'; exact p'.elim
    | ex y T1 => exact .inr (right (by show _ = (evD a.ev ρ T).bind _; rw [e0]; rfl))
    | ok x T1 =>
      cases e2 : evD b.ev ρ T1 with
      | no => rw [e0] at p'; have p2 : Post Γ (relW Γ) W σ H I ((evD b.ev ρ T1).bind fun y T2 => Ev.opt (zipS x y) T2) R := p'; rw [e2] at p2; exact p2.elim
      | ex y T2 => exact .inr (right (by show _ = (evD a.ev ρ T).bind _; rw [e0]; show (evD b.ev ρ T1).bind _ = (evD b.ev ρ T1).bind _; rw [e2]; rfl))
      | ok y T2 =>
        cases y with
        | tup ys =>
          refine .inl ⟨I, ρ, T, own, w, er, ?_⟩
          have goal : (iZipM a b).ev ρ T = (evD a.ev ρ T).bind fun x T1 => (evD b.ev ρ T1).bind fun y T2 => Ev.opt (zipS x y) T2 := by
            show (evD a.ev ρ T).bind _ = (evD a.ev ρ T).bind _
            rw [e0]
            show (evD b.ev ρ T1).bind _ = (evD b.ev ρ T1).bind _
            rw [e2]
            show Ev.opt _ T2 = Ev.opt _ T2
            unfold zipS
            cases dLst x <;> rfl
          rw [goal]
          exact p'
        | _ =>
          refine .inr (right ?_)
          show _ = (evD a.ev ρ T).bind _
          rw [e0]
          show (evD b.ev ρ T1).bind _ = (evD b.ev ρ T1).bind _
          rw [e2]
          rfl
  fs := (iZip2 a b).fs
end Tp
end
section
set_option Elab.async false
set_option linter.all false
set_option maxRecDepth 100000
set_option maxHeartbeats 2000000
/-! TqI: y = x.pop(). -/
namespace Tp
open PySem PySem.Spec PyProof.Rows L2

/-- what y and x are after y = x.pop() -/
def popL (j i : Nat) (ρ : Env) (xs : List D) : Option Env :=
  if j < ρ.length then (xs[xs.length - 1]?).map fun y => (ρ.set i (some (.ow xs.dropLast))).set j (some (.sh y)) else none
def popLK (j i : Nat) (ρ : Env) (T : Cs) (o : Option (Option LV)) : Ev Fl := match o with
  | some (some (.ow xs)) => (match popL j i ρ xs with
    | some ρ' => .ok (.nx ρ') T
    | none => .no)
  | _ => .no
/-- y = x.pop() -/
def sPopLast (j i : Nat) : C1 where
  ev := fun ρ T => popLK j i ρ T (ρ[i]?)
  chk := fun _ sc st => match st with
    | .Assign [.Name y py] (.Call (.Attribute (.Name x xp) m ap) [] [] cp) _ => decide (m = ("pop" : Str)) && (okStore sc j y && (noSwap sc.nm y py (.Call (.Attribute (.Name x xp) m ap) [] [] cp) && ((ap.endLine == cp.line) && isVar sc i x)))
    | _ => false
  need := fun _ => True
  ok := by
    intro Γ k W sc X st g nd h
    split at h
    · rename_i y py x xp m ap cp pos
      obtain ⟨h1, h⟩ := b2 h
      obtain ⟨h5, h⟩ := b2 h
      obtain ⟨h6, h⟩ := b2 h
      obtain ⟨hl, h2⟩ := b2 h
      have hm := of_decide_eq_true h1
      subst hm
      obtain ⟨s1, s2, s3⟩ := okStore_ok g h5
      have hs : swapsWith (.Call (.Attribute (.Name x xp) ("pop" : Str) ap) [] [] cp) (some (.Name y py)) pos.line X.env = pure false := noSwap_ok g.fk (by rw [g.nm]; exact h6) _
      refine PS.mono (ps_set (i := j) g.nd s1 s2 (pe_bm0 PySem.F.plainAttrs_list PySem.F.slot_list_pop PySem.F.type_list_pop mt_pop (isVar_ok g h2) (by rfl) hl) hs s3) fun D σ H q => ?_
      obtain ⟨I, ρ, T, own, w, er, p⟩ := q
      have p' : PostS Γ X.s_0.heap.objs.size W D (Ow own) H I (popLK j i ρ T (ρ[i]?)) := p
      cases e1 : ρ[i]? with
      | none => rw [e1] at p'; exact p'.elim
      | some o =>
        rw [e1] at p'
        cases o with
        | none => exact p'.elim
        | some lv =>
          cases lv with
          | ow xs =>
            obtain ⟨b, vs, o1, o2, o3, o4⟩ := own_list er e1
            have p2 : PostS Γ X.s_0.heap.objs.size W D (Ow own) H I (match popL j i ρ xs with
              | some ρ' => .ok (.nx ρ') T
              | none => .no) := p'
            cases e2 : popL j i ρ xs with
            | none => rw [e2] at p2; exact p2.elim
            | some ρ' =>
              rw [e2] at p2
              unfold popL at e2
              split at e2
              · rename_i c3
                obtain ⟨y', e3, e4⟩ := Option.map_eq_some_iff.mp e2
                subst e4
                obtain ⟨u, u1, u2⟩ := o4.get e3
                rw [← o4.length] at u1
                refine ⟨_, o2, .inl ⟨rfl, _, SqL.of o3⟩, ?_⟩
                refine ⟨b, vs, u, rfl, rfl, o3, u1, ?_⟩
                have af := write_aft er Ext.refl w e1 o1 o2 (lv' := .ow xs.dropLast) ⟨b, _, rfl, rfl, upd_same, o4.dropLast⟩
                obtain ⟨own', af2⟩ := store_aft (lv := .sh y') (v := u) (as := []) (i := j) af.er (by rw [List.length_set]; exact c3) Ext.refl af.wf ⟨rfl, u2⟩ (fun _ hz => by cases hz)
                exact p2 _ _ _ _ (af.trans af2)
              · cases e2
          | _ => exact p'.elim
    · cases h
end Tp
end
section
set_option Elab.async false
set_option linter.all false
set_option maxRecDepth 100000
set_option maxHeartbeats 2000000
/-! TqJ: x = y, where y's own list goes over to x. -/
namespace Tp
open PySem PySem.Spec PyProof.Rows L2
theorem ER.drop {Γ : Gam} {n : Nat} {σ : L2.St} {ρ : Env} {H : Hp} {I : Im} {own : Nat → List Addr} (r : ER Γ n σ ρ H I own) (j : Nat) :
    ER Γ n σ (ρ.set j none) H I (fun k => if k = j then [] else own k) := by
  refine ⟨by rw [List.length_set]; exact r.len, fun k lv e => ?_, fun k e => ?_, fun k a ha => ?_, fun k k' a h1 h2 => ?_⟩
  · by_cases q : j = k
    · subst q
      by_cases hl : j < ρ.length
      · rw [List.getElem?_set_self hl] at e; cases e
      · rw [List.getElem?_eq_none (by rw [List.length_set]; omega)] at e; cases e
    · rw [List.getElem?_set_ne q] at e
      rw [if_neg (Ne.symm q)]
      exact r.at_ k lv e
  · by_cases q : k = j
    · rw [if_pos q]
    · rw [if_neg q]
      refine r.dead k fun lv e2 => e lv ?_
      rw [List.getElem?_set_ne (Ne.symm q)]
      exact e2
  · split at ha
    · cases ha
    · exact r.free k a ha
  · split at h1
    · cases h1
    · split at h2
      · cases h2
      · exact r.disj k k' a h1 h2
def movK (i j : Nat) (ρ : Env) (T : Cs) (o : Option (Option LV)) : Ev Fl := match o with
  | some (some (.ow xs)) => if i < ρ.length then .ok (.nx ((ρ.set j none).set i (some (.ow xs)))) T else .no
  | _ => .no
/-- x = y -/
def sMove (i j : Nat) : C1 where
  ev := fun ρ T => movK i j ρ T (ρ[j]?)
  chk := fun _ sc st => match st with
    | .Assign [.Name x px] (.Name y py) _ => okStore sc i x && (noSwap sc.nm x px (.Name y py) && isVar sc j y)
    | _ => false
  need := fun _ => True
  ok := by
    intro Γ k W sc X st g nd h
    split at h
    · rename_i x px y py pos
      obtain ⟨h5, h⟩ := b2 h
      obtain ⟨h6, h2⟩ := b2 h
      obtain ⟨s1, s2, s3⟩ := okStore_ok g h5
      have hs : swapsWith (.Name y py) (some (.Name x px)) pos.line X.env = pure false := noSwap_ok g.fk (by rw [g.nm]; exact h6) _
      refine PS.mono (ps_set (i := i) g.nd s1 s2 (isVar_ok g h2) hs s3) fun D σ H q => ?_
      obtain ⟨I, ρ, T, own, w, er, p⟩ := q
      have p' : PostS Γ X.s_0.heap.objs.size W D (Ow own) H I (movK i j ρ T (ρ[j]?)) := p
      cases e1 : ρ[j]? with
      | none => rw [e1] at p'; exact p'.elim
      | some o =>
        rw [e1] at p'
        cases o with
        | none => exact p'.elim
        | some lv =>
          cases lv with
          | ow xs =>
            have p2 : PostS Γ X.s_0.heap.objs.size W D (Ow own) H I (if i < ρ.length then .ok (.nx ((ρ.set j none).set i (some (.ow xs)))) T else .no) := p'
            split at p2
            · rename_i hi
              obtain ⟨v, o2, q2⟩ := er.at_ j _ e1
              refine ⟨v, o2, ?_⟩
              have er2 := (er.drop j).set (i := i) (O := O0) (by rw [List.length_set]; exact hi) Ext.refl (fun _ _ _ _ z => z) q2 (fun a ha => er.free j a ha) (fun k a hk ha hz => by
                split at hz
                · cases hz
                · rename_i hkj; exact hkj (er.disj k j a hz ha))
              refine p2 _ H I _ ⟨Ext.refl, w, er2, fun a ⟨k, ha⟩ => .inl ?_⟩
              have ha' : a ∈ (if k = i then own j else if k = j then [] else own k) := ha
              split at ha'
              · exact ⟨j, ha'⟩
              · split at ha'
                · cases ha'
                · exact ⟨k, ha'⟩
            · exact p2.elim
          | _ => exact p'.elim
    · cases h
end Tp
end
section
set_option Elab.async false
set_option linter.all false
set_option maxRecDepth 100000
set_option maxHeartbeats 2000000
/-! TqK: dicts: {}, d[k], d[k] = v, len, sorted, walked; what is shared is locked. -/
namespace Tp
open PySem PySem.Spec PyProof.Rows L2

/-! ### lists of pairs -/
def getK (kvs : List (Key × D)) (k : Key) : Option D := (kvs.find? fun kv => decide (kv.1 = k)).map (·.2)
def putD (kvs : List (Key × D)) (k : Key) (d : D) : List (Key × D) :=
  if kvs.any fun kv => decide (kv.1 = k) then kvs.map fun kv => if kv.1 = k then (kv.1, d) else kv else kvs ++ [(k, d)]
section
variable {Γ : Gam} {I : Im}
theorem RepK.nil : RepK Γ I [] [] := by simp only [RepK]
theorem RepK.cons {k : Key} {d : D} {kvs : List (Key × D)} {v : V} {us : List (Key × V)} (h : Rep Γ I d v) (r : RepK Γ I kvs us) : RepK Γ I ((k, d) :: kvs) ((k, v) :: us) := by
  simp only [RepK]; exact ⟨v, us, rfl, h, r⟩
theorem RepK.keys : ∀ {kvs : List (Key × D)} {us : List (Key × V)}, RepK Γ I kvs us → us.map (·.1) = kvs.map (·.1)
  | [], _, h => by simp only [RepK] at h; rw [h]; rfl
  | x :: kvs, _, h => by
    simp only [RepK] at h
    obtain ⟨v, r, rfl, _, h2⟩ := h
    rw [List.map_cons, List.map_cons, h2.keys]
theorem RepK.length {kvs : List (Key × D)} {us : List (Key × V)} (h : RepK Γ I kvs us) : us.length = kvs.length := by
  have := congrArg List.length h.keys
  rwa [List.length_map, List.length_map] at this
theorem RepK.get : ∀ {kvs : List (Key × D)} {us : List (Key × V)} {k : Key} {d : D}, RepK Γ I kvs us → getK kvs k = some d → ∃ v, valV us k = some v ∧ Rep Γ I d v
  | [], _, _, _, _, e => by cases e
  | x :: kvs, _, k, d, h, e => by
    simp only [RepK] at h
    obtain ⟨v, r, rfl, h1, h2⟩ := h
    by_cases c : x.1 = k
    · have : getK (x :: kvs) k = some x.2 := by unfold getK; rw [List.find?_cons, decide_eq_true c]; rfl
      rw [this] at e
      cases e
      exact ⟨v, valV_pos c, h1⟩
    · have : getK (x :: kvs) k = getK kvs k := by unfold getK; rw [List.find?_cons, decide_eq_false c]
      rw [this] at e
      obtain ⟨u, e1, e2⟩ := h2.get e
      exact ⟨u, by rw [valV_neg c]; exact e1, e2⟩
theorem RepK.any {kvs : List (Key × D)} {us : List (Key × V)} (h : RepK Γ I kvs us) (k : Key) : (us.any fun kv => decide (kv.1 = k)) = kvs.any fun kv => decide (kv.1 = k) := by
  have e1 : (us.any fun kv => decide (kv.1 = k)) = (us.map (·.1)).any fun x => decide (x = k) := by rw [List.any_map]; rfl
  have e2 : (kvs.any fun kv => decide (kv.1 = k)) = (kvs.map (·.1)).any fun x => decide (x = k) := by rw [List.any_map]; rfl
  rw [e1, e2, h.keys]
theorem RepK.repl (k : Key) {d : D} {v : V} (hv : Rep Γ I d v) : ∀ {kvs : List (Key × D)} {us : List (Key × V)}, RepK Γ I kvs us → RepK Γ I (kvs.map fun kv => if kv.1 = k then (kv.1, d) else kv) (us.map fun kv => if kv.1 = k then (kv.1, v) else kv)
  | [], _, h => by simp only [RepK] at h; subst h; exact RepK.nil
  | x :: kvs, _, h => by
    simp only [RepK] at h
    obtain ⟨u, r, rfl, h1, h2⟩ := h
    rw [List.map_cons, List.map_cons]
    by_cases c : x.1 = k
    · rw [if_pos c, if_pos c]; exact RepK.cons hv (RepK.repl k hv h2)
    · rw [if_neg c, if_neg c]; exact RepK.cons h1 (RepK.repl k hv h2)
theorem RepK.snoc (k : Key) {d : D} {v : V} (hv : Rep Γ I d v) : ∀ {kvs : List (Key × D)} {us : List (Key × V)}, RepK Γ I kvs us → RepK Γ I (kvs ++ [(k, d)]) (us ++ [(k, v)])
  | [], _, h => by simp only [RepK] at h; subst h; exact RepK.cons hv RepK.nil
  | x :: kvs, _, h => by
    simp only [RepK] at h
    obtain ⟨u, r, rfl, h1, h2⟩ := h
    exact RepK.cons h1 (RepK.snoc k hv h2)
theorem RepK.put {kvs : List (Key × D)} {us : List (Key × V)} (h : RepK Γ I kvs us) (k : Key) {d : D} {v : V} (hv : Rep Γ I d v) : RepK Γ I (putD kvs k d) (putK us k v) := by
  unfold putD putK
  rw [h.any k]
  split
  · exact RepK.repl k hv h
  · exact RepK.snoc k hv h
end
def kI (i : Int) : Key := .inl i

/-! ### {} -/
def isDnew : Expr → Bool
  | .Dict [] [] _ => true
  | _ => false
def cDnew : CE where
  ev := fun _ T => .ok (.v (.od [])) T
  chk := fun _ _ e => isDnew e
  need := fun _ => True
  z := false
  ok := by
    intro Γ k W sc X e n g nd h hz
    unfold isDnew at h
    split at h
    · refine PE.mono pe_dnewK fun σ H Q q p hp => ?_
      obtain ⟨I, ρ, T, own, w, er, pp⟩ := q
      refine pp _ _ I (Ext.new hp _) (w.new hp _) ⟨[p], ⟨p, [], rfl, rfl, upd_same, RepK.nil⟩, fun a ha => ?_⟩
      have e : a = p := by simpa using ha
      subst e
      exact ⟨w.gnone hp, w.nocell hp, by rw [upd_same]; simp, hp⟩
    · cases h

/-! ### what is shared is locked -/
def tLockP (t : TE) : TE := fun σ H Q => t σ H fun x H1 => Q x H1 ∨ ∃ d u, x = .ref d ∧ H1 d = some u ∧ Mut (some u) ∧ ∀ od, Q x (upd H1 d (.frz od u))
theorem pe_lockP {X : Cx} {e : Expr} {t : TE} (h : PE X e t) : PE X e (tLockP t) := by
  refine ⟨fun pins s σ H Q I hw => ?_⟩
  refine thn (h.run pins s σ H _ I hw) fun v s1 ⟨x, H1, I1, r, q⟩ => ?_
  rcases q with q | ⟨d, u, rfl, hd, mu, q⟩
  · exact ⟨x, H1, I1, r, q⟩
  · obtain ⟨od, I2⟩ := I1.lock hd mu
    exact ⟨_, _, I2, r, q od⟩
def lockR : R → Option R
  | .v (.od kvs) => some (.v (.sh (.dct kvs)))
  | .v (.sh (.dct kvs)) => some (.v (.sh (.dct kvs)))
  | _ => none
def cLock (a : CE) : CE where
  ev := fun ρ T => (a.ev ρ T).bind fun r T1 => Ev.opt (lockR r) T1
  chk := a.chk
  need := a.need
  z := a.z
  ok := by
    intro Γ k W sc X e n g nd h hz
    refine PE.mono (pe_lockP (a.ok g nd h hz)) fun σ H Q q => ?_
    obtain ⟨I, ρ, T, own, w, er, p⟩ := q
    refine ⟨I, ρ, T, own, w, er, (Post.step (rel := RepR Γ n own) p Ext.refl).imp fun x H1 q1 => ?_⟩
    obtain ⟨r, T1, I1, _, x1, w1, r1, p1⟩ := q1
    obtain ⟨r', e1, k1⟩ := Post.opt p1
    unfold lockR at e1
    split at e1
    · cases e1
      obtain ⟨as, ⟨b, us, rfl, rfl, h2, h3⟩, h4⟩ := r1
      obtain ⟨g1, g2, g3, g4⟩ := h4 b (by simp)
      refine .inr ⟨b, _, rfl, h2, trivial, fun od => ?_⟩
      have le : Im.Le I1 ⟨upd I1.G b (.frz od (.dK us)), I1.κ, I1.me⟩ := Im.Le.frz g1
      refine k1 _ _ ⟨upd I1.G b (.frz od (.dK us)), I1.κ, I1.me⟩ ((x1.wr g4).frz g4 g1) ((w1.write g1 g2 (by rw [h2]; trivial)).freeze upd_same g1 g2) (.sh ?_)
      simp only [Rep]
      exact ⟨b, od, us, rfl, upd_same, h3.mono le⟩
    · cases e1
      exact .inl (k1 _ _ _ x1 w1 r1)
    · cases e1

/-! ### d[k] -/
def fDget (x y : R) : Option R := match x, y with
  | .v (.sh (.dct kvs)), .v (.sh (.int i)) => (getK kvs (kI i)).map fun d => .v (.sh d)
  | _, _ => none
def cDget (a b : CE) : CE where
  ev := fun ρ T => (a.ev ρ T).bind fun x T1 => (b.ev ρ T1).bind fun y T2 => Ev.opt (fDget x y) T2
  chk := fun k sc e => match e with
    | .Subscript x y _ => notSlice y && (a.chk k sc x && b.chk k sc y)
    | _ => false
  need := fun Γ => a.need Γ ∧ b.need Γ
  z := a.z || b.z
  ok := by
    intro Γ k W sc X e n g nd h hz
    split at h
    · obtain ⟨h0, h⟩ := b2 h
      obtain ⟨h2, h3⟩ := b2 h
      refine PE.mono (pe_dget (by have := g.room.un; omega) (a.ok g nd.1 h2 (or1 hz).1) (b.ok g nd.2 h3 (or1 hz).2) (notSlice_ok h0)) fun σ H Q q => ?_
      obtain ⟨I, ρ, T, own, w, er, p⟩ := q
      refine ⟨I, ρ, T, own, w, er, (Post.bind (rel := RepR Γ n own) backR p).imp fun x H1 q1 => ?_⟩
      obtain ⟨r, T1, I1, _, x1, w1, r1, p1⟩ := q1
      refine ⟨I1, ρ, T1, own, w1, er.ext x1, (Post.bind (rel := RepR Γ n own) backR p1).imp fun y H2 q2 => ?_⟩
      obtain ⟨r2, T2, I2, _, x2, w2, r2', p2⟩ := q2
      obtain ⟨r3, e3, p3⟩ := Post.opt p2
      unfold fDget at e3
      split at e3
      · obtain ⟨d, e4, rfl⟩ := Option.map_eq_some_iff.mp e3
        have hx := (r1.ext x2).unsh
        simp only [Rep] at hx
        obtain ⟨b, o, us, rfl, hb, hk⟩ := hx
        obtain ⟨v, e5, rv⟩ := hk.get e4
        rw [r2'.unsh.int]
        exact ⟨b, v, rfl, .inl ⟨us, kI _, .inr ⟨o, w2.gh _ _ hb⟩, rfl, e5.symm⟩, give_val w2 rv p3⟩
      · cases e3
    · cases h

/-! ### len(d) -/
def gLenD (a : R) : Option R := match a with
  | .v (.sh (.dct kvs)) => some (rI kvs.length)
  | _ => none
theorem cr_lenD {X : Cx} : CallR X (.builtin "len") (fun xs H Q => ∃ a kvs, xs = [V.ref a] ∧ Rd H a (.dK kvs) ∧ Q (.int kvs.length) H) := by
  intro pins s σ H xs us Q I r q
  obtain ⟨a, kvs, rfl, e, q⟩ := q
  obtain rfl := Vals.ref1 r
  exact d_len I e fun t s' I' => ⟨.int kvs.length, H, I', ⟨t, rfl⟩, q⟩
def bLenD : Blt := bltF "len" "len" (f1 gLenD) PySem.boot_len fun {Γ k W sc X n} g => by
  refine CallR.mono cr_lenD (rdN_one (fun _ _ => f1_one) fun H I T own Hs a c x Q w ra e q => ?_)
  have e1 : gLenD a = some c := e
  unfold gLenD at e1
  split at e1
  · cases e1
    have hx := ra.unsh
    simp only [Rep] at hx
    obtain ⟨b, o, us, rfl, hb, hk⟩ := hx
    refine ⟨b, us, rfl, .inr ⟨o, w.gh _ _ hb⟩, ?_⟩
    rw [hk.length]
    exact give_val w .ofInt q
  · cases e1

/-! ### sorted(d) -/
def intK : List (Key × D) → Option (List Int)
  | [] => some []
  | (.inl i, _) :: r => (intK r).map fun l => i :: l
  | _ => none
theorem intK_ok : ∀ {kvs : List (Key × D)} {ns : List Int}, intK kvs = some ns → kvs.map (·.1) = ns.map Sum.inl
  | [], _, e => by cases e; rfl
  | (.inl i, _) :: r, _, e => by
    obtain ⟨l, e1, rfl⟩ := Option.map_eq_some_iff.mp (show (intK r).map (fun l => i :: l) = _ from e)
    rw [List.map_cons, List.map_cons, intK_ok e1]
  | (.inr _, _) :: _, _, e => by cases e
/-! ### for k in d -/
def keyD : Key → D
  | .inl i => .int i
  | .inr s => .str s
theorem keyD_rep {Γ : Gam} {I : Im} : ∀ k : Key, Rep Γ I (keyD k) (kV k)
  | .inl i => .ofInt
  | .inr s => .ofStr
theorem Walk.keys {Γ : Gam} {I : Im} {a : Addr} {o : Obj} {us : List (Key × V)} (h : I.G a = some (.frz o (.dK us))) : Walk Γ (Itk a o us) I (us.map fun kv => keyD kv.1) where
  go := fun H I' T i le w hi => ⟨w.gh _ _ (le.gg _ _ h), by rwa [List.length_map] at hi⟩
  yld := fun H I' T i d x H' le w hd ⟨e, k, v, e1, e2⟩ => by
    subst e
    rw [List.getElem?_map, e1] at hd
    cases hd
    rw [e2]
    exact ⟨I', Ext.refl, w, keyD_rep k⟩
  stop := fun H I' T i le w hi => ⟨w.gh _ _ (le.gg _ _ h), by rwa [List.length_map] at hi⟩
def iDK (a : CE) : CI where
  ev := fun ρ T => (evD a.ev ρ T).bind fun d T1 => Ev.opt (match d with
    | .dct kvs => some (kvs.map fun kv => keyD kv.1)
    | _ => none) T1
  chk := fun k sc _ e => notSetL e && a.chk k sc e
  need := a.need
  z := a.z
  ok := by
    intro Γ k W sc X tg e n g nd h hz
    refine PI.mono (pi_keys (a.ok g nd (b2 h).2 hz)) fun σ H R q => ?_
    obtain ⟨I, ρ, T, own, w, er, p⟩ := q
    refine ⟨I, ρ, T, own, w, er, Post.toD ((Post.bind (rel := relD Γ) backW p).imp fun x H1 q1 => ?_)⟩
    obtain ⟨d, T1, I1, _, x1, w1, r1, p1⟩ := q1
    obtain ⟨ds, e1, k1⟩ := Post.opt p1
    split at e1
    · rename_i kvs _
      cases e1
      have hx : Rep Γ I1 (.dct kvs) x := r1
      simp only [Rep] at hx
      obtain ⟨b, o, us, rfl, hb, hk⟩ := hx
      refine ⟨b, o, rfl, .inl ⟨us, w1.gh _ _ hb, ?_⟩⟩
      have wk := Walk.keys (Γ := Γ) (I := I1) hb
      have e4 : (us.map fun kv => keyD kv.1) = kvs.map fun kv => keyD kv.1 := by
        have := congrArg (List.map keyD) hk.keys
        rwa [List.map_map, List.map_map] at this
      rw [e4] at wk
      exact k1 _ H1 I1 Ext.refl w1 wk
    · cases e1
  fs := fun h => notSetL_ok (b2 h).1
end Tp
end
section
set_option Elab.async false
set_option linter.all false
set_option maxRecDepth 100000
set_option maxHeartbeats 2000000
/-! TqL: sorted(d, reverse=True), d[k] = v. -/
namespace L2
open PySem PySem.Spec PyProof.Rows
section
variable {X : Cx}
theorem ints_eachL : ∀ {us : List Value} {ks : List Int}, us.length = ks.length → (∀ (j : Nat) (v : Value), us[j]? = some v → ∃ x t, ks[j]? = some x ∧ v = .int x t) → IntsAre us ks
  | [], [], _, _ => .nil
  | u :: us, k :: ks, hl, h => by
    obtain ⟨x, t, e1, e2⟩ := h 0 u rfl
    have e1' : k = x := Option.some.inj e1
    subst e1'
    subst e2
    refine .cons _ _ (ints_eachL (by simpa using hl) fun j v e => ?_)
    obtain ⟨x, t, a, b⟩ := h (j + 1) v (by simpa using e)
    exact ⟨x, t, by simpa using a, b⟩
  | [], _ :: _, hl, _ => by simp at hl
  | _ :: _, [], hl, _ => by simp at hl
def rSortDRev : List V → List V → Hp → VK → Prop := fun vs zs H Q => ∃ (a : Addr) (kvs : List (Key × V)) (ks : List Int), vs = [V.ref a] ∧ zs = [.bl true] ∧ Rd H a (.dK kvs) ∧ kvs.map (·.1) = ks.map Sum.inl ∧ ks.length < 64 ∧
  ∀ (ys : List Int) (p : Addr), ys.Perm ks → ys.Pairwise (· ≥ ·) → H p = none → Q (.ref p) (upd H p (.lst (ys.map V.int)))
/-- sorted(d, reverse=True) of a dict with fewer than 64 keys, all ints -/
theorem cr_sortedDRev (hcalm : X.calm = true) : CallRK X (.builtin "sorted") [Str.ofString "reverse"] rSortDRev := by
  intro pins s σ H xs zs us ws Q I r rz q
  obtain ⟨a, kvs, ks, rfl, rfl, hd, hks, h64, q⟩ := q
  obtain rfl := Vals.ref1 r
  obtain ⟨w1, rfl, e1⟩ := vals1 rz
  obtain rfl : w1 = Value.bool true := e1
  obtain ⟨z, lo, vs, rel, dd⟩ := dk_rd I.hok hd
  obtain ⟨ep, hat⟩ := dd.dictAt
  have hkeys : vs.map (·.1) = ks.map Sum.inl := rel.keys.symm.trans hks
  have hl : vs.length = ks.length := by
    have e := congrArg List.length hkeys
    rw [List.length_map, List.length_map] at e
    exact e
  have h16 : vs.length ≤ sizeLine := by rw [hl, sizeLine_eq]; omega
  show wpAny _ _ (call (.builtin "sorted") [.ref a] [(Str.ofString "reverse", .bool true)]) _ _ _
  refine PyProof.Rows.call_function_entry_kw PyProof.Rows.kind_sorted PyProof.Rows.plain_sorted PyProof.Rows.entry_sorted (PyProof.Rows.args_sorted_rev _ _) ?_
  unfold Builtin.«sorted»
  refine wpAny_bind (m := checkCount "sorted" 1 1 _) (wpAny_pure ?_)
  refine wpAny_bind (PySem.W.kdu_collect (A := X.A.in1) (PySem.W.kdl_dict (knd := mixKind X.prog X.w) (kvs := vs) (ep := ep) lo) (I.ok.hd hcalm) hat h16 fun h' tk acc hk hacc => ?_)
  have hal : acc.toList.length = ks.length := by rw [Array.length_toList, hacc.1, hl]
  have hS : IntsAre acc.toList ks := ints_eachL hal fun j v e => by
    obtain ⟨k, x, e1, e2⟩ := hacc.2 j v (by rw [← Array.getElem?_toList]; exact e)
    have e3 : (vs.map (·.1))[j]? = some k := by rw [List.getElem?_map, e1]; rfl
    rw [hkeys, List.getElem?_map] at e3
    cases e4 : ks[j]? with
    | none => rw [e4] at e3; cases e3
    | some y =>
      rw [e4] at e3
      have e5 : Sum.inl y = k := Option.some.inj e3
      subst e5
      rcases keyIs_shape (show keyIs (Sum.inl y) v = true from e2) with ⟨i, t, ek, ev⟩ | ⟨z, t, ek, ev⟩
      · cases ek
        exact ⟨y, t, rfl, ev⟩
      · cases ek
  have I1 : Inv X pins σ H { s with heap := h', toks := tk } := I.kept hk
  refine wpAny_bind (wpAny_newList ?_ (by rw [hal, sizeLine_eq]; omega))
  have hoL : (h'.push (seqObj "list" acc.toList.toArray 0)).get? h'.objs.size = some (seqObj "list" acc.toList.toArray 0) := Heap.get?_push_size _ rfl
  show wpAny _ _ _ _ _ { s with heap := h'.push (seqObj "list" acc.toList.toArray 0), toks := tk }
  refine wpAny_bind (wpAny_holding (PyProof.Rows.wpAny_call_entry_kw PyProof.Rows.slot_list_sort ⟨_, hoL, rfl⟩ PyProof.Rows.entry_list_sort
    (PyProof.Rows.list_sort_tree_rev (s := { s with heap := h'.push (seqObj "list" acc.toList.toArray 0), toks := tk }) hoL hS (by rw [hal]; exact h64) fun out ys g1 g2 g3 => ⟨_, rfl, ?_⟩) (PyProof.Rows.args_list_sort_rev _ _)))
  obtain ⟨e', he'⟩ := PyProof.Rows.sortedHeap_at (vs := acc.toList) (out := out) hoL
  have hlen : (ys.map V.int).length ≤ sizeLine := by
    rw [List.length_map, g2.length_eq]
    exact Nat.le_trans (Nat.le_of_lt h64) (by decide)
  refine wpAny_pure ⟨_, rfl, .ref h'.objs.size, upd H h'.objs.size (.lst (ys.map V.int)), I1.laid (t' := tk) (fun b u e => ?_) (Nat.le_refl _)
    (show ObjOk X.prog X.w _ _ _ (.lst (ys.map V.int)) from ⟨hlen, out.toList, e', vals_of_ints g1, by rw [Array.toArray_toList]; exact he'⟩), rfl, q ys _ g2 g3 (I1.hok.fresh (Nat.le_refl _))⟩
  have hb : b < h'.objs.size := Heap.lt_size e
  rw [PyProof.Rows.sortedHeap_old (Nat.ne_of_lt hb) (by rw [size_push']; exact Nat.lt_succ_of_lt hb)]
  exact Heap.get?_push_of_some _ e
end
end L2
namespace Tp
open PySem PySem.Spec PyProof.Rows L2
theorem srt_rev {l m : List Int} (p : m.Perm l) (s : m.Pairwise (· ≥ ·)) : m = (srtI l).reverse := by
  have h1 : m.reverse = srtI l := srtI_eq ((List.reverse_perm m).trans p) (by rw [List.pairwise_reverse]; exact s)
  rw [← h1, List.reverse_reverse]
def gSortDR (a : R) : Option R := match a with
  | .v (.sh (.dct kvs)) => (intK kvs).bind fun ns => if ns.length < 64 then some (rL ((srtI ns).reverse.map .int)) else none
  | _ => none
def cSortDR (a : CE) : CE where
  ev := fun ρ T => (a.ev ρ T).bind fun r T1 => Ev.opt (gSortDR r) T1
  chk := fun k sc e => match e with
    | .Call (.Name x _) [e] [⟨some nm, v, _⟩] _ => decide (x = ("sorted" : Str)) && (decide (nm = ("reverse" : Str)) && (isGl sc.nm x && (notStar e && (a.chk k sc e && (cBl true).chk k sc v))))
    | _ => false
  need := fun Γ => Γ.mg "sorted" = none ∧ a.need Γ ∧ (cBl true).need Γ
  z := a.z || (cBl true).z
  ok := by
    intro Γ k W sc X e n g nd h hz
    split at h
    · rename_i x px e nm v kp pos
      obtain ⟨h1, h⟩ := b2 h
      obtain ⟨h2, h⟩ := b2 h
      obtain ⟨h3, h⟩ := b2 h
      obtain ⟨h4, h⟩ := b2 h
      obtain ⟨h5, h6⟩ := b2 h
      have hx := of_decide_eq_true h1
      subst hx
      have hn := of_decide_eq_true h2
      subst hn
      refine PE.mono (pe_callBK (ks := [Str.ofString "reverse"]) (cr_sortedDRev g.calm) (isGl_ok g.nm h3) (by rw [g.mg]; exact nd.1) PyProof.Rows.boot_sorted (pa_cons (a.ok (n := n) g nd.2.1 h5 (or1 hz).1) pa_nil (star_cons h4))
        (pk_cons ((cBl true).ok (n := n) g nd.2.2 h6 (or1 hz).2) pk_nil) (by decide) (by decide) (by rw [star_cons h4]; rfl) (by rw [star_cons h4]; rfl)) fun σ H Q q => ?_
      obtain ⟨I, ρ, T, own, w, er, p⟩ := q
      refine ⟨I, ρ, T, own, w, er, (Post.bind (rel := RepR Γ n own) backR p).imp fun y H1 q1 => ?_⟩
      obtain ⟨r, T1, I1, _, x1, w1, r1, p1⟩ := q1
      refine ⟨I1, ρ, T1, own, w1, er.ext x1, fun u H2 I2 x2 w2 r2 => ?_⟩
      rw [r2.unsh.bl]
      obtain ⟨r3, e3, p3⟩ := Post.opt p1
      unfold gSortDR at e3
      split at e3
      · obtain ⟨ns, e4, e5⟩ := Option.bind_eq_some_iff.mp e3
        split at e5
        · rename_i h64
          cases e5
          have hx := (r1.ext x2).unsh
          simp only [Rep] at hx
          obtain ⟨b, o, us, rfl, hb, hk⟩ := hx
          refine ⟨b, us, ns, rfl, rfl, .inr ⟨o, w2.gh _ _ hb⟩, by rw [hk.keys]; exact intK_ok e4, h64, fun ys p' hp hs hb => ?_⟩
          rw [srt_rev hp hs]
          exact give_list w2 (reps_ints _) (fun v H' I' x3 w3 r3 => p3 v H' I' (x2.tr0 x3) w3 (r3.back x2.th)) p' hb
        · cases e5
      · cases e3
    · cases h
end Tp
end
section
set_option Elab.async false
set_option linter.all false
set_option maxRecDepth 100000
set_option maxHeartbeats 2000000
/-! TqM: d[k] = v; dict([(k, v), ..]). -/
namespace Tp
open PySem PySem.Spec PyProof.Rows L2
section
variable {Γ : Gam} {n : Nat} {W : WX}
theorem own_dct {σ : L2.St} {ρ : Env} {own : Nat → List Addr} {H : Hp} {I : Im} {i : Nat} {kvs : List (Key × D)} (er : ER Γ n σ ρ H I own) (hi : ρ[i]? = some (some (.od kvs))) : ∃ a us, own i = [a] ∧ σ[i]? = some (some (.ref a)) ∧ H a = some (.dK us) ∧ RepK Γ I kvs us := by
  obtain ⟨v, h1, a, us, h2, rfl, h3, h4⟩ := er.at_ i _ hi
  exact ⟨a, us, h2, h1, h3, h4⟩
end
/-- x[k] = e, x an own dict -/
def sDput (i : Nat) (b a : CE) : C1 where
  ev := fun ρ T => match ρ[i]? with
    | some (some (.od kvs)) => (evD a.ev ρ T).bind fun d T1 => (b.ev ρ T1).bind fun k T2 => match k with
      | .v (.sh (.int m)) => if kvs.length < lim then .ok (.nx (ρ.set i (some (.od (putD kvs (kI m) d))))) T2 else .no
      | _ => .no
    | _ => .no
  chk := fun k sc st => match st with
    | .Assign [.Subscript (.Name x _) j _] e _ => isVar sc i x && (notComp e && (b.chk k sc j && a.chk k sc e))
    | _ => false
  need := fun Γ => b.need Γ ∧ a.need Γ
  ok := by
    intro Γ k W sc X st g nd h
    split at h
    · obtain ⟨h1, h⟩ := b2 h
      obtain ⟨h2, h⟩ := b2 h
      obtain ⟨h3, h4⟩ := b2 h
      refine PS.mono (ps_dput (by have := g.room.un; omega) (isVar_ok g h1) (b.ok (n := X.s_0.heap.objs.size) g nd.1 h3 fun _ => rfl) (a.ok (n := X.s_0.heap.objs.size) g nd.2 h4 fun _ => rfl) (notComp_ok h2 _ _ _)) fun D σ H q => ?_
      obtain ⟨I, ρ, T, own, w, er, p⟩ := q
      have p' : PostS Γ X.s_0.heap.objs.size W D (Ow own) H I (match ρ[i]? with
        | some (some (.od kvs)) => (evD a.ev ρ T).bind fun d T1 => (b.ev ρ T1).bind fun k T2 => match k with
          | .v (.sh (.int m)) => if kvs.length < lim then .ok (.nx (ρ.set i (some (.od (putD kvs (kI m) d))))) T2 else .no
          | _ => .no
        | _ => .no) := p
      split at p'
      · rename_i kvs e1
        obtain ⟨c, us, o1, o2, o3, o4⟩ := own_dct er e1
        obtain ⟨f1, f2, f3⟩ := er.free i c (by rw [o1]; simp)
        refine ⟨I, ρ, T, own, w, er, Post.toD ((PostS.step (rel := relD Γ) p' Ext.refl).imp fun v H1 q1 => ?_)⟩
        obtain ⟨d, T1, I1, _, x1, w1, r1, p1⟩ := q1
        refine ⟨_, o2, I1, ρ, T1, own, w1, er.ext x1, (PostS.step (rel := RepR Γ X.s_0.heap.objs.size own) p1 x1).imp fun y H2 q2 => ?_⟩
        obtain ⟨kk, T2, I2, _, x2, w2, r2, p2⟩ := q2
        split at p2
        · rename_i m _
          split at p2
          · rename_i hl
            have x12 := x1.tr0 x2
            have o3' : H2 c = some (.dK us) := x12.fr _ _ o3 f2 (fun z => z) trivial
            rw [r2.unsh.int]
            refine ⟨c, _, rfl, DPut.k (k := kI m) o3' (by rw [o4.length]; exact Nat.lt_of_lt_of_le hl lim_le), ?_⟩
            exact p2 σ _ I2 own (write_aft er x12 w2 e1 o1 o2 ⟨c, _, rfl, rfl, upd_same, (RepK.mono x12.le o4).put (kI m) (r1.mono x2.le)⟩)
          · exact p2.elim
        · exact p2.elim
      · exact p'.elim
    · cases h

/-! ### dict([(k, v), ..]) -/
def mergeD (kvs more : List (Key × D)) : List (Key × D) := more.foldl (fun acc kv => putD acc kv.1 kv.2) kvs
theorem RepK.merge {Γ : Gam} {I : Im} : ∀ {more : List (Key × D)} {rs : List (Key × V)} {kvs : List (Key × D)} {us : List (Key × V)}, RepK Γ I more rs → RepK Γ I kvs us → RepK Γ I (mergeD kvs more) (mergeK us rs)
  | [], _, kvs, us, h, q => by simp only [RepK] at h; subst h; exact q
  | x :: more, _, kvs, us, h, q => by
    simp only [RepK] at h
    obtain ⟨v, r, rfl, h1, h2⟩ := h
    show RepK Γ I (mergeD (putD kvs x.1 x.2) more) (mergeK (putK us x.1 v) r)
    exact RepK.merge h2 (q.put x.1 h1)
end Tp
end
section
set_option Elab.async false
set_option linter.all false
set_option maxRecDepth 100000
set_option maxHeartbeats 2000000
/-! TqN: d == e, d != e of dicts with plain values. -/
namespace L2
open PySem PySem.Spec PyProof.Rows
section
variable {X : Cx} {pins : List (Addr × Obj)} {σ : St} {H : Hp} {s : Shared}
end
end L2
namespace Tp
open PySem PySem.Spec PyProof.Rows L2
section
variable {Γ : Gam} {I : Im} {H : Hp}
end
end Tp
end
section
set_option Elab.async false
set_option linter.all false
set_option maxRecDepth 100000
set_option maxHeartbeats 2000000
/-! TqO: a == b, a != b of objects of one class with its own __eq__. -/
namespace HN
open PySem PySem.Spec PyProof.Rows PySem.SeqAt
section
variable {M : Model} {prog : Program} {w : World} {A : Around} {E : Value → Shared → Prop} {s : Shared} {K : PySem.W.Frag} {x C f : Addr} {ox : Obj} {od : Option Obj} {b tb : Value}
theorem ifBound_objNe {args : List Value} {Q : Option Value → Shared → Prop} (X : K.In s.heap) (I : PySem.W.InstAt s.heap x ox C od) (hs : PySem.W.findIn K (.ref C) "__ne__" = some (some (.builtin "object.__ne__")))
    (h : wpAny M A (call (.builtin "object.__ne__") (.ref x :: args)) (fun v => Q (some v)) E s) : wpAny M A (callSpecialIfBound? (.ref x) "__ne__" args) Q E s := by
  simp only [callSpecialIfBound?, bindSpecialIfBound?]
  refine wpAny_holding (wpAny_bind (wpAny_bind (wpAny_bind (I.type.here ((PySem.W.looks_findIn X hs).here ?_)))))
  refine wpAny_bind (wpAny_askSetting (wpAny_ite ?_))
  have fin : wpAny M A (call (.builtin "object.__ne__") ([.ref x] ++ args) >>= fun v => pure (some v)) Q E s := wpAny_bind (wpAny_mono h (fun v s' h' => wpAny_pure h') fun _ _ h' => h')
  split
  · exact wpAny_bind (wpAny_of_eq (F.cmp_object.ne.bind _) (wpAny_pure (by exact fin)))
  · exact wpAny_tryCatch (wpAny_bind (wpAny_of_eq (F.cmp_object.ne.bind _) (wpAny_pure (by exact fin))))
theorem entry_ne {Q : Fin → Shared → Prop} (hu : A.units < cLine) (X : K.In s.heap) (I : PySem.W.InstAt s.heap x ox C od) (hs : PySem.W.findIn K (.ref C) "__eq__" = some (some (.ref f))) (hf : PySem.W.isFn K (.ref f) = true)
    (h : wpAny M A (call (.ref f) [.ref x, b]) (fun v s' => ∃ r, v = .bool r ∧ Q (.done (.ret (.bool (!r)))) s') E s) : wpAny M A (Builtin.«object.__ne__» ⟨[.ref x, b], []⟩) Q E s := by
  unfold Builtin.«object.__ne__»
  repeat (first | with_reducible refine wpAny_cRoomFor hu ?_ | with_reducible refine wpAny_bind (PySem.W.ifBound_K X I hs hf (wpAny_mono h (fun v s' hv => ?_) fun _ _ e => e)) | wp_step)
  obtain ⟨r, rfl, q⟩ := hv
  refine wpAny_bind (wpAny_truthy_bool ?_)
  exact wpAny_pure q
theorem ne_K {Q : Value → Shared → Prop} (hu : A.units + 2 < cLine) (X : K.In s.heap) (I : PySem.W.InstAt s.heap x ox C od) (hb : PySem.W.Looks (model prog w) s.heap (typeOf b) tb) (hn : PySem.W.notFirst K C tb = true)
    (hm : PySem.W.mroIn K C (.type "object") = some true) (hs : PySem.W.findIn K (.ref C) "__eq__" = some (some (.ref f))) (hf : PySem.W.isFn K (.ref f) = true) (hsn : PySem.W.findIn K (.ref C) "__ne__" = some (some (.builtin "object.__ne__")))
    (h : wpAny (model prog w) A.in1 (call (.ref f) [.ref x, b]) (fun v s' => ∃ r, v = .bool r ∧ Q (.bool (!r)) s') E s) : wpAny (model prog w) A (richCompare .NotEq (.ref x) b) Q E s := by
  have one : wpAny (model prog w) A (tryCompare (.ref x) (cmpInfo .NotEq).2.1 b) (fun r s' => ∃ v, r = some v ∧ Q v s') E s := by
    unfold tryCompare
    refine wpAny_bind (ifBound_objNe X I hsn ?_)
    refine wpAny_call (codeAny_call_builtin F.cmp_object.ne.plain F.cmpEntry_ne (PySem.W.check_slot F.cmpKind_ne F.cmpSplit_ne (I.type.andThen (PySem.W.looks_mroIn X hm)) (F.cmpArgs_ne _ _) (entry_ne (by show A.units + 1 < cLine; omega) X I hs hf (wpAny_mono h (fun v s' hv => ?_) fun _ _ e => e))))
    obtain ⟨r, rfl, q⟩ := hv
    exact ⟨r, rfl, wpAny_pure ⟨_, rfl, q⟩⟩
  unfold richCompare
  simp only [oneThing_ref]
  refine wpAny_holding (wpAny_bind (wpAny_cRoomFor (by omega) ?_))
  refine wpAny_bind (I.type.here (wpAny_bind (hb.here ?_)))
  split
  · rename_i q
    have e : PySem.W.subIn K tb (.ref C) = some false := by
      rcases Bool.or_eq_true_iff.mp hn with e | e
      · rw [beq_iff_eq.mp e] at q; simp at q
      · exact beq_iff_eq.mp e
    refine wpAny_bind ((PySem.W.looks_subIn X e).here ?_)
    simp only [Bool.false_eq_true, if_false]
    refine wpAny_bind (wpAny_mono one (fun r s' z => ?_) fun _ _ e => e)
    obtain ⟨v, rfl, hq⟩ := z
    exact wpAny_pure hq
  · refine wpAny_bind (wpAny_pure ?_)
    simp only [Bool.false_eq_true, if_false]
    refine wpAny_bind (wpAny_mono one (fun r s' z => ?_) fun _ _ e => e)
    obtain ⟨v, rfl, hq⟩ := z
    exact wpAny_pure hq
end
end HN
namespace Tp
open PySem PySem.Spec PyProof.Rows L2
structure OwnEq (Γ : Gam) (c : Nat) (s : DefSig) (ev : FEv) : Prop where
  cl : ClsFull Γ c
  ex : ∃ f, PySem.W.findIn Γ.K (.ref (cAd Γ c)) "__eq__" = some (some (.ref f)) ∧ PySem.W.isFn Γ.K (.ref f) = true ∧ FnIs Γ s ev f
  ne : PySem.W.findIn Γ.K (.ref (cAd Γ c)) "__ne__" = some (some (.builtin "object.__ne__"))
def rObjEq (Γ : Gam) (c : Nat) (neg : Bool) (ev : FEv) : R2 := fun x y H Q => ∃ I T xs ys r T3, Wf Γ H I T ∧ Rep Γ I (.obj c xs) x ∧ Rep Γ I (.obj c ys) y ∧ ev [.obj c xs, .obj c ys] T = .ok (.sh (.bl r)) T3 ∧
  ∀ H' I', Tp.Ext O0 H I H' I' → Wf Γ H' I' T3 → Q (.bl (if neg then !r else r)) H'
def negOp (neg : Bool) : CmpOp := if neg then .NotEq else .Eq
theorem op_objEq {Γ : Gam} {k : Nat} {W : WX} {sc : Sc} {X : Cx} {c : Nat} {s : DefSig} {ev : FEv} (neg : Bool) (g : Good Γ k W sc X) (O : OwnEq Γ c s ev) (B : BindOk s 2 [] (srcAll 2)) (hlv : s.lv + 1 ≤ k) : OpR X (compareOp (negOp neg)) (rObjEq Γ c neg ev) := by
  intro pins sh σ H x y v u Q Iv rx ry h
  obtain ⟨I, T, xs, ys, r, T3, w, ra, rb, e3, q⟩ := h
  obtain ⟨CF, ⟨f, hs, hf, F⟩, hne⟩ := O
  have ra' := ra
  have rb' := rb
  simp only [Rep] at ra' rb'
  obtain ⟨a, dx, us, rfl, h4, _, _⟩ := ra'
  obtain ⟨b, dy, vs, rfl, h5, _, _⟩ := rb'
  rw [CF.cd] at h4 h5
  obtain rfl : v = Value.ref a := rx
  obtain rfl : u = Value.ref b := ry
  obtain ⟨fd, FD, FG⟩ := F.fn
  obtain ⟨mA, J, _⟩ := ins_get Iv.hok (w.gh _ _ h4)
  obtain ⟨mB, J', _⟩ := ins_get Iv.hok (w.gh _ _ h5)
  obtain ⟨od, J, _⟩ := J.look
  obtain ⟨od', J', _⟩ := J'.look
  have KX : X.K.In sh.heap := Iv.kIn
  have KI : Γ.K.In sh.heap := by rw [← g.K]; exact Iv.kIn
  obtain ⟨its, ri, hb⟩ := bind_of (sh := sh) B FD KI (us := [.ref a, .ref b]) (ws := []) rfl rfl
  have e0 : Env0 Γ.P Γ.w Γ.K Γ.mg Γ.base X.A X.stack sh H := by
    have := Iv.env0
    rw [g.prog, g.w, g.K, g.mg, g.base] at this
    exact this
  have hsp : ∀ Q' : VK, (∀ H', Q (.bl (if neg then !r else r)) H' → Q' (.bl r) H') → spD Γ s.ps.length ev (sel .non ([V.ref a, V.ref b] ++ []) (s.dfl.map constV) (srcAll 2)) H Q' (fun _ _ _ => False) := fun Q' hQ => by
    refine ⟨I, T, [.obj c xs, .obj c ys], w, Reps.cons ra (Reps.cons rb Reps.nil), B.len, ?_⟩
    rw [e3]
    refine fun v H' I' as x' w' r' q' => ?_
    obtain ⟨_, r2⟩ := r'
    rw [Rep.bl r2]
    exact hQ _ (q H' I' x' w')
  have vv : Paired RelV [V.ref a, V.ref b] [Value.ref a, Value.ref b] := .cons rfl (.cons rfl .nil)
  have hs' : PySem.W.findIn X.K (.ref (cAd Γ c)) "__eq__" = some (some (.ref f)) := by rw [g.K]; exact hs
  have hf' : PySem.W.isFn X.K (.ref f) = true := by rw [g.K]; exact hf
  cases neg with
  | false =>
    obtain ⟨m, hF⟩ := Iv.fr
    show wpAny (model X.prog X.w) X.A (richCompare .Eq (.ref a) (.ref b)) (EP X pins σ Q) X.xe sh
    refine PySem.W.cmp_K (op := .Eq) (tb := .ref (cAd Γ c)) g.room.units0 hF Iv.ok.mod.kin J J'.type (by simp [PySem.W.notFirst]) hs' hf' ?_
    have hrun := FG.run X.A X.stack sh H ⟨[.ref a, .ref b], []⟩ _ _ (fun v H' => ∃ r0, v = .bl r0 ∧ Q v H') (fun _ _ _ => False) g.gd (g.room.mono (by omega)) e0 hb (Tp.Vals.sel vv ri _) (hsp _ fun H' h => ⟨r, rfl, h⟩)
    rw [← g.prog, ← g.w] at hrun
    refine wpAny_call (codeAny_mono hrun ?_)
    rintro r' s' hq
    match r', hq with
    | .error er, hq =>
      obtain ⟨_, _, _, _, _, _, _, _, _, _, _, _, z⟩ := hq
      exact z.elim
    | .ok (.ret u), hq =>
      obtain ⟨v, H', I3, rv, r0, rfl, q3⟩ := Iv.after hq
      cases rv
      exact ⟨.bl r0, H', I3, rfl, q3⟩
    | .ok .next, hq => exact hq.elim
    | .ok .brk, hq => exact hq.elim
    | .ok .cont, hq => exact hq.elim
  | true =>
    show wpAny (model X.prog X.w) X.A (richCompare .NotEq (.ref a) (.ref b)) (EP X pins σ Q) X.xe sh
    refine HN.ne_K (tb := .ref (cAd Γ c)) (by have := g.room.un; omega) KX J J'.type (by simp [PySem.W.notFirst]) (by rw [g.K]; exact CF.hm) hs' hf' (by rw [g.K]; exact hne) ?_
    have hrun := FG.run X.A.in1 X.stack sh H ⟨[.ref a, .ref b], []⟩ _ _ (fun v H' => ∃ r0, v = .bl r0 ∧ Q (.bl (!r0)) H') (fun _ _ _ => False) g.gd ((g.room.mono hlv).in1) e0.in1 hb (Tp.Vals.sel vv ri _) (hsp _ fun H' h => ⟨r, rfl, h⟩)
    rw [← g.prog, ← g.w] at hrun
    refine wpAny_call (codeAny_mono hrun ?_)
    rintro r' s' hq
    match r', hq with
    | .error er, hq =>
      obtain ⟨_, _, _, _, _, _, _, _, _, _, _, _, z⟩ := hq
      exact z.elim
    | .ok (.ret u), hq =>
      obtain ⟨v, H', I3, rv, r0, rfl, q3⟩ := Iv.after hq
      cases rv
      exact ⟨r0, rfl, .bl (!r0), H', I3, rfl, q3⟩
    | .ok .next, hq => exact hq.elim
    | .ok .brk, hq => exact hq.elim
    | .ok .cont, hq => exact hq.elim
def objEv (neg : Bool) (c : Nat) (ev : FEv) (a b : Env → Cs → Ev D) : Env → Cs → Ev R := fun ρ T => (a ρ T).bind fun d T1 => (b ρ T1).bind fun e T2 => match d, e with
  | .obj c1 xs, .obj c2 ys => if c1 = c ∧ c2 = c then (match ev [.obj c xs, .obj c ys] T2 with
    | .ok (.sh (.bl r)) T3 => .ok (.v (.sh (.bl (if neg then !r else r)))) T3
    | _ => .no) else .no
  | _, _ => .no
theorem obj_tree {Γ : Gam} {n : Nat} {W : WX} {neg : Bool} {c : Nat} {ev : FEv} {a b : Env → Cs → Ev R} : ∀ σ H Q, tE Γ n W (objEv neg c ev (evD a) (evD b)) σ H Q → tOp (rObjEq Γ c neg ev) (tE Γ n W a) (tE Γ n W b) σ H Q := fun σ H Q q => by
  obtain ⟨I, ρ, T, own, w, er, p⟩ := q
  have p : Post Γ (RepR Γ n own) W σ H I ((evD a ρ T).bind fun d T1 => (evD b ρ T1).bind fun e T2 => match d, e with
    | .obj c1 xs, .obj c2 ys => if c1 = c ∧ c2 = c then (match ev [.obj c xs, .obj c ys] T2 with
      | .ok (.sh (.bl r)) T3 => .ok (.v (.sh (.bl (if neg then !r else r)))) T3
      | _ => .no) else .no
    | _, _ => .no) Q := p
  refine ⟨I, ρ, T, own, w, er, Post.toD ((Post.bind (rel := relD Γ) backR p).imp fun x H1 q1 => ?_)⟩
  obtain ⟨d, T1, I1, _, x1, w1, r1, p1⟩ := q1
  refine ⟨I1, ρ, T1, own, w1, er.ext x1, Post.toD ((Post.bind (rel := relD Γ) backR p1).imp fun y H2 q2 => ?_)⟩
  obtain ⟨e, T2, I2, _, x2, w2, r2, p2⟩ := q2
  have r1 : Rep Γ I2 d x := (show Rep Γ I1 d x from r1).mono x2.le
  have r2 : Rep Γ I2 e y := r2
  split at p2
  · split at p2
    · rename_i hc
      obtain ⟨rfl, rfl⟩ := hc
      split at p2
      · rename_i r T3 e3
        exact ⟨I2, T2, _, _, r, T3, w2, r1, r2, e3, fun H' I' x' w' => p2 _ H' I' x' w' (.sh .ofBl)⟩
      · exact p2.elim
    · exact p2.elim
  · exact p2.elim
/-- a == b (neg: a != b), objects of the class number c -/
def cObjEq (neg : Bool) (c : Nat) (s : DefSig) (ev : FEv) (a b : CE) {sr : List Src} (B : BindOk s 2 [] sr) : CE where
  ev := objEv neg c ev (evD a.ev) (evD b.ev)
  chk := fun k sc e => match e with
    | .Compare x [op] [y] _ => decide (sr = srcAll 2) && (decide (s.lv + 1 ≤ k) && ((op == negOp neg) && (notSet y && (a.chk k sc x && b.chk k sc y))))
    | _ => false
  need := fun Γ => OwnEq Γ c s ev ∧ a.need Γ ∧ b.need Γ
  z := a.z || b.z
  ok := by
    intro Γ k W sc X e n g nd h hz
    split at h
    · obtain ⟨h5, h⟩ := b2 h
      obtain ⟨h4, h⟩ := b2 h
      obtain ⟨h1, h⟩ := b2 h
      obtain ⟨h0, h⟩ := b2 h
      obtain ⟨h2, h3⟩ := b2 h
      have e5 := of_decide_eq_true h5
      subst e5
      rw [eq_of_beq h1]
      exact PE.mono (pe_cmpR (op_objEq neg g nd.1 B (of_decide_eq_true h4)) (a.ok g nd.2.1 h2 (or1 hz).1) (b.ok g nd.2.2 h3 (or1 hz).2) (notSet_ok h0 _)) obj_tree
    · cases h
def tObjEq (neg : Bool) (c : Nat) (s : DefSig) (ev : FEv) (a b : CE) {sr : List Src} (B : BindOk s 2 [] sr) : CT where
  ev := evB (objEv neg c ev (evD a.ev) (evD b.ev))
  chk := fun k sc e => match e with
    | .Compare x [op] [y] _ => decide (sr = srcAll 2) && (decide (s.lv + 1 ≤ k) && ((op == negOp neg) && (notSet y && (a.chk k sc x && b.chk k sc y))))
    | _ => false
  need := fun Γ => OwnEq Γ c s ev ∧ a.need Γ ∧ b.need Γ
  z := a.z || b.z
  ok := by
    intro Γ k W sc X e n g nd h hz
    split at h
    · obtain ⟨h5, h⟩ := b2 h
      obtain ⟨h4, h⟩ := b2 h
      obtain ⟨h1, h⟩ := b2 h
      obtain ⟨h0, h⟩ := b2 h
      obtain ⟨h2, h3⟩ := b2 h
      have e5 := of_decide_eq_true h5
      subst e5
      rw [eq_of_beq h1]
      refine PT.mono (pt_cmpR (op_objEq neg g nd.1 B (of_decide_eq_true h4)) (a.ok (n := n) g nd.2.1 h2 (or1 hz).1) (b.ok (n := n) g nd.2.2 h3 (or1 hz).2) (notSet_ok h0 _)) fun σ H Q q => ?_
      exact obj_tree σ H _ (tT_val σ H Q q)
    · cases h
end Tp
end
section
set_option Elab.async false
set_option linter.all false
set_option maxRecDepth 100000
set_option maxHeartbeats 2000000
/-! TqP: a class's own __eq__, found by the kernel. -/
namespace Tp
open PySem PySem.Spec PyProof.Rows L2
end Tp
end
section
set_option Elab.async false
set_option linter.all false
set_option maxRecDepth 100000
set_option maxHeartbeats 2000000
/-! TqQ: several names at once by way of a tuple (where not all are plain locals): what is kept is each one's own. -/
namespace Tp
open PySem PySem.Spec PyProof.Rows L2
/-- targets: names in slots -/
def nmsAt (sc : Sc) : List Nat → List Expr → Bool
  | [], [] => true
  | i :: is, .Name x _ :: es => okStore sc i x && nmsAt sc is es
  | _, _ => false
def gSets : List Nat → TGs
  | [] => gNil
  | i :: is => gCons (gName i) (gSets is)
theorem pgs_nms {Γ : Gam} {k : Nat} {W : WX} {sc : Sc} {X : Cx} (g : Good Γ k W sc X) : ∀ {is : List Nat} {es : List Expr}, nmsAt sc is es = true → PGs X es (gSets is) ∧ (assignEach es X.env).length = is.length ∧ (assignEach es X.env).findIdx? (·.1) = none
  | [], [], _ => ⟨pgs_nil, rfl, rfl⟩
  | [], _ :: _, h => by cases h
  | _ :: _, [], h => by cases h
  | i :: is, e :: es, h => by
    cases e with
    | Name x px =>
      obtain ⟨h1, h2⟩ := b2 (show (okStore sc i x && nmsAt sc is es) = true from h)
      obtain ⟨i1, i2, i3⟩ := pgs_nms g h2
      obtain ⟨s1, s2, s3⟩ := okStore_ok g h1
      have e1 : assignEach (.Name x px :: es) X.env = (false, assign (.Name x px) X.env) :: assignEach es X.env := rfl
      refine ⟨pgs_cons (pg_name g.nd s1 s2 s3) i1 (by rw [e1]; rfl), by rw [e1, List.length_cons, i2]; rfl, ?_⟩
      rw [e1, List.findIdx?_cons, i3]
      rfl
    | _ => cases h
theorem gSets_go : ∀ {is : List Nat} {vs : List V} {σ : L2.St} {H : Hp} {Q : L2.St → Hp → Prop}, vs.length = is.length → Q (setAll σ is vs) H → gSets is vs σ H Q
  | [], [], σ, H, Q, _, q => ⟨rfl, by unfold setAll at q; exact q⟩
  | [], _ :: _, _, _, _, h, _ => by cases h
  | _ :: _, [], _, _, _, h, _ => by cases h
  | i :: is, v :: vs, σ, H, Q, h, q => ⟨v, vs, rfl, gSets_go (by simpa using h) (by unfold setAll at q; exact q)⟩
def sParT (is : List Nat) (c : CK) : C1 where
  ev := fun ρ T => (c.ev ρ T).bind fun ls T1 => if is.all fun i => decide (i < ρ.length) then .ok (.nx (setAll ρ is ls)) T1 else .no
  chk := fun k sc st => match st with
    | .Assign [.Tuple ts kt pt] (.Tuple vs k2 p2) _ => noSw (.Tuple ts kt pt) (.Tuple vs k2 p2) sc.nm && (nmsAt sc is ts && (decide (c.len = is.length) && (decide (c.len ≤ 3) && c.chk k sc vs)))
    | _ => false
  need := c.need
  ok := by
    intro Γ k W sc X st g nd h
    split at h
    · rename_i ts kt pt vs k2 p2 pos
      obtain ⟨h1, h⟩ := b2 h
      obtain ⟨h2, h⟩ := b2 h
      obtain ⟨h3, h⟩ := b2 h
      obtain ⟨h4, h5⟩ := b2 h
      have h3' := of_decide_eq_true h3
      have h4' := of_decide_eq_true h4
      obtain ⟨w1, w2⟩ := noSw_ok g.nm h1
      obtain ⟨p1, p2, p3⟩ := pgs_nms g h2
      refine PS.mono (ps_asg (pe_tup (c.ok g nd h5)) (pg_tup g.calm p1 p2 p3) rfl w1 w2) fun D σ H q => ?_
      obtain ⟨I, ρ, T, own, w, er, p⟩ := q
      have p0 : PostS Γ X.s_0.heap.objs.size W D (Ow own) H I ((c.ev ρ T).bind fun ls T1 => if is.all fun i => decide (i < ρ.length) then .ok (.nx (setAll ρ is ls)) T1 else .no) := p
      refine ⟨I, ρ, T, own, w, er, (PostS.step (rel := relLs Γ X.s_0.heap.objs.size) p0 Ext.refl).imp fun vs H1 q1 => ?_⟩
      obtain ⟨ls, T1, I1, e1, x1, w1, ⟨ass, r1⟩, p1⟩ := q1
      have hlv : ∀ {ls : List LV} {vs : List V} {ass : List (List Addr)}, RepLs Γ X.s_0.heap.objs.size H H1 I1 ls vs ass → vs.length = ls.length := by
        intro ls
        induction ls with
        | nil => rintro vs ass ⟨rfl, _⟩; rfl
        | cons l ls ih =>
          rintro vs ass ⟨v, us, as, r, rfl, _, _, _, _, h6⟩
          rw [List.length_cons, List.length_cons, ih h6]
      have hl := (hlv r1).trans (c.hlen e1)
      refine ⟨by rw [hl]; exact Nat.le_trans h4' (by decide), fun pa hp => ⟨pa, vs, rfl, SqT.of upd_same, hl.trans h3', gSets_go (hl.trans h3') ?_⟩⟩
      split at p1
      · rename_i hi
        have x2 : Ext O0 H1 I1 (upd H1 pa (.tup vs)) I1 := Ext.new hp _
        have x3 := x1.tr0 x2
        have w3 : Wf Γ (upd H1 pa (.tup vs)) I1 T1 := w1.new hp _
        have er1 := er.ext x3
        have r2 := r1.ext x2
        obtain ⟨own', e3, e4⟩ := storeLs (is := is) er1 r2 (fun i hi2 => of_decide_eq_true (List.all_eq_true.mp hi i hi2)) (fun b hb a ha j hj => (er.free j a hj).2.2 (r2.new b hb a ha))
        exact p1 _ _ _ own' ⟨x3.mono fun _ q => q.elim, w3, e3, fun a ha => (e4 a ha).elim .inl fun ⟨b, hb, q⟩ => .inr (r2.new b hb a q)⟩
      · exact p1.elim
    · cases h
end Tp
end
section
set_option Elab.async false
set_option linter.all false
set_option maxRecDepth 100000
set_option maxHeartbeats 2000000
/-! TqR: for over a zip of two locals' own lists: as cells meanwhile. -/
namespace Tp
open PySem PySem.Spec PyProof.Rows L2
/-! ### data without the later cells -/
section
variable {Γ : Gam} {I : Im} {κ : List Addr}
end
/-! ### turn by turn, the cells as they are then -/
section
variable {Γ : Gam} {n : Nat}
end
end Tp
end
section
set_option Elab.async false
set_option linter.all false
set_option maxRecDepth 100000
set_option maxHeartbeats 2000000
/-! TqT: any(..) of ints. -/
namespace Tp
open PySem PySem.Spec PyProof.Rows L2
end Tp
end
section
set_option Elab.async false
set_option linter.all false
set_option maxRecDepth 100000
set_option maxHeartbeats 2000000
/-! TqU: e.append(x): of a new list, dropped behind; of a cell. -/
namespace Tp
open PySem PySem.Spec PyProof.Rows L2
end Tp
end
section
set_option Elab.async false
set_option linter.all false
set_option maxRecDepth 100000
set_option maxHeartbeats 2000000
/-! TqV: a list or tuple of cells, looked at as data meanwhile. -/
namespace Tp
open PySem PySem.Spec PyProof.Rows L2
mutual
/-- no cell from n0 on -/
def ncD (n0 : Nat) : D → Bool
  | .cell n => decide (n < n0)
  | .lst xs => ncDs n0 xs
  | .fz xs => ncDs n0 xs
  | .tup xs => ncDs n0 xs
  | .dct kvs => ncK n0 kvs
  | .obj _ xs => ncDs n0 xs
  | .lam _ xs => ncDs n0 xs
  | _ => true
def ncDs (n0 : Nat) : List D → Bool
  | [] => true
  | x :: xs => ncD n0 x && ncDs n0 xs
def ncK (n0 : Nat) : List (Key × D) → Bool
  | [] => true
  | x :: xs => ncD n0 x.2 && ncK n0 xs
end
section
variable {Γ : Gam} {n : Nat} {W : WX}
mutual
theorem Rep.nc {I I' : Im} {n0 : Nat} (eg : ∀ a o, I.G a = some o → I'.G a = some o) (ek : ∀ (m : Nat) a, m < n0 → I.κ[m]? = some a → I'.κ[m]? = some a) : ∀ {d : D} {v : V}, ncD n0 d = true → Rep Γ I d v → Rep Γ I' d v
  | .non, _, _, h => h
  | .bl _, _, _, h => h
  | .int _, _, _, h => h
  | .str _, _, _, h => h
  | .lst _, _, c, h => by
    simp only [Rep] at h ⊢
    simp only [ncD] at c
    obtain ⟨a, vs, h1, h2, h3⟩ := h
    exact ⟨a, vs, h1, eg _ _ h2, Reps.nc eg ek c h3⟩
  | .fz _, _, c, h => by
    simp only [Rep] at h ⊢
    simp only [ncD] at c
    obtain ⟨a, vs, h1, h2, h3⟩ := h
    exact ⟨a, vs, h1, SqL.ext eg h2, Reps.nc eg ek c h3⟩
  | .tup _, _, c, h => by
    simp only [Rep] at h ⊢
    simp only [ncD] at c
    obtain ⟨a, vs, h1, h2, h3⟩ := h
    exact ⟨a, vs, h1, SqT.ext eg h2, Reps.nc eg ek c h3⟩
  | .dct _, _, c, h => by
    simp only [Rep] at h ⊢
    simp only [ncD] at c
    obtain ⟨a, o, vs, h1, h2, h3⟩ := h
    exact ⟨a, o, vs, h1, eg _ _ h2, RepK.nc eg ek c h3⟩
  | .obj _ _, _, c, h => by
    simp only [Rep] at h ⊢
    simp only [ncD] at c
    obtain ⟨a, dx, vs, h1, h2, h3, h4⟩ := h
    exact ⟨a, dx, vs, h1, eg _ _ h2, h3, Reps.nc eg ek c h4⟩
  | .cell _, _, c, h => by
    simp only [Rep] at h ⊢
    simp only [ncD, decide_eq_true_eq] at c
    obtain ⟨a, h1, h2⟩ := h
    exact ⟨a, h1, ek _ _ c h2⟩
  | .lam _ _, _, c, h => by
    simp only [Rep] at h ⊢
    simp only [ncD] at c
    obtain ⟨L, p, b, sc, clo, vs, h1, h0, ⟨f, c', q, pm, ctv, h2, h3⟩, h5, h6⟩ := h
    exact ⟨L, p, b, sc, clo, vs, h1, h0, ⟨f, c', q, pm, ctv, h2, eg _ _ h3⟩, h5, Reps.nc eg ek c h6⟩
theorem Reps.nc {I I' : Im} {n0 : Nat} (eg : ∀ a o, I.G a = some o → I'.G a = some o) (ek : ∀ (m : Nat) a, m < n0 → I.κ[m]? = some a → I'.κ[m]? = some a) : ∀ {ds : List D} {vs : List V}, ncDs n0 ds = true → Reps Γ I ds vs → Reps Γ I' ds vs
  | [], _, _, h => h
  | _ :: _, _, c, h => by
    simp only [Reps] at h ⊢
    simp only [ncDs, Bool.and_eq_true] at c
    obtain ⟨v, r, h1, h2, h3⟩ := h
    exact ⟨v, r, h1, Rep.nc eg ek c.1 h2, Reps.nc eg ek c.2 h3⟩
theorem RepK.nc {I I' : Im} {n0 : Nat} (eg : ∀ a o, I.G a = some o → I'.G a = some o) (ek : ∀ (m : Nat) a, m < n0 → I.κ[m]? = some a → I'.κ[m]? = some a) : ∀ {ds : List (Key × D)} {vs : List (Key × V)}, ncK n0 ds = true → RepK Γ I ds vs → RepK Γ I' ds vs
  | [], _, _, h => h
  | _ :: _, _, c, h => by
    simp only [RepK] at h ⊢
    simp only [ncK, Bool.and_eq_true] at c
    obtain ⟨v, r, h1, h2, h3⟩ := h
    exact ⟨v, r, h1, Rep.nc eg ek c.1 h2, RepK.nc eg ek c.2 h3⟩
end
section
variable {I : Im} {H : Hp} {T : Cs} {bs : List Addr} {n0 : Nat}
end
end
end Tp
end
section
set_option Elab.async false
set_option linter.all false
set_option maxRecDepth 100000
set_option maxHeartbeats 2000000
/-! TqX: cells that locals hold (alone or in a tuple), wherever they stand, looked at as data meanwhile. -/
namespace Tp
open PySem PySem.Spec PyProof.Rows L2
section
variable {Γ : Gam} {n : Nat} {W : WX} {I : Im} {H : Hp} {T : Cs} {n0 : Nat}
end
end Tp
end
section
set_option Elab.async false
set_option linter.all false
set_option maxRecDepth 100000
set_option maxHeartbeats 2000000
/-! TqY: repr of an object with its own __repr__; f-strings of texts and ints. -/
namespace HN
open PySem PySem.Spec PyProof.Rows PySem.SeqAt
section
variable {M : Model} {prog : Program} {w : World} {A : Around} {E : Value → Shared → Prop} {s : Shared} {K : PySem.W.Frag} {x C f : Addr} {ox : Obj} {od : Option Obj}
theorem repr_K {Q : Value → Shared → Prop} (hu : A.in1.units < cLine) (X : K.In s.heap) (I : PySem.W.InstAt s.heap x ox C od) (hs : PySem.W.findIn K (.ref C) "__repr__" = some (some (.ref f))) (hf : PySem.W.isFn K (.ref f) = true)
    (h : wpAny (model prog w) A.in1 (call (.ref f) [.ref x]) (fun r s' => ∃ m tk, r = .str m tk ∧ Q (.str m tk) s') E s) : wpAny (model prog w) A (call (.builtin "repr") [.ref x]) Q E s := by
  refine Calls.call_function_entry F.kind_repr F.plain_repr F.entry_repr (F.args_repr1 _) ?_
  unfold Builtin.«repr»
  refine wpAny_bind (m := oneArg "repr" _) (wpAny_pure ?_)
  refine wpAny_bind (wpAny_cRoomFor hu ?_)
  refine wpAny_bind (wpAny_bind (I.type.here ((PySem.W.looks_findIn X hs).here ?_)))
  show wpAny _ _ (if (some (Value.ref f)).isNone = true then _ else _) _ _ _
  rw [if_neg (by simp)]
  refine wpAny_bind (m := callSpecialIfBound? (.ref x) (Str.ofString "__repr__") _) (PySem.W.ifBound_K X I hs hf (wpAny_mono h (fun r s' hr => ?_) fun _ _ y => y))
  obtain ⟨m, tk, rfl, hq⟩ := hr
  refine wpAny_bind (wpAny_isInstance (typeIs_str _ _ _) isSubtype_str_str ?_)
  first
    | exact wpAny_pure ⟨_, rfl, hq⟩
    | (rw [if_pos rfl]; exact wpAny_pure ⟨_, rfl, hq⟩)
    | (simp only [if_true]; exact wpAny_pure ⟨_, rfl, hq⟩)
end
end HN
namespace Tp
open PySem PySem.Spec PyProof.Rows L2
theorem log_lt {i : Int} (h : -1000000000000000000 < i ∧ i < 1000000000000000000) : i.natAbs.log2 < 1920 := by
  by_cases h0 : i.natAbs = 0
  · rw [h0]; decide
  · rw [Nat.log2_lt h0]
    have h1 : i.natAbs < 2 ^ 60 := by
      have : (2 : Nat) ^ 60 = 1152921504606846976 := by decide
      omega
    exact Nat.lt_of_lt_of_le h1 (Nat.pow_le_pow_right (by decide) (by decide))
/-- {a} in an f-string -/
def fmtD : D → Option D
  | .str y => if y.length ≤ lim then some (.str y) else none
  | .int i => if -1000000000000000000 < i ∧ i < 1000000000000000000 then some (.str (toString i)) else none
  | _ => none
end Tp
end
section
set_option Elab.async false
set_option linter.all false
set_option maxRecDepth 100000
set_option maxHeartbeats 2000000
/-! TqZ: a == b, a != b of an object with its own __eq__ and a list. -/
namespace Tp
open PySem PySem.Spec PyProof.Rows L2
end Tp
end
section
set_option Elab.async false
set_option linter.all false
set_option maxRecDepth 100000
set_option maxHeartbeats 2000000
/-! TrA: a == b, a != b of an object with its own __eq__ and a list, a tuple or a text. -/
namespace Tp
open PySem PySem.Spec PyProof.Rows L2
end Tp
end
section
set_option Elab.async false
set_option linter.all false
set_option maxRecDepth 100000
set_option maxHeartbeats 2000000
/-! TrB: dict displays {k: v, ..}, keys ints and texts; d["k"]. -/
namespace Tp
open PySem PySem.Spec PyProof.Rows L2

def keyOf : D → Option Key
  | .int i => some (.inl i)
  | .str s => some (.inr s)
  | _ => none
theorem keyOf_ok {Γ : Gam} {I : Im} {d : D} {k : Key} {v : V} (h : keyOf d = some k) (r : Rep Γ I d v) : v = kV k := by
  cases d with
  | int i => cases h; rw [r.int]; rfl
  | str s => cases h; rw [r.str]; rfl
  | non => cases h
  | bl b => cases h
  | lst xs => cases h
  | fz xs => cases h
  | tup xs => cases h
  | dct xs => cases h
  | obj c xs => cases h
  | cell n => cases h
  | lam k xs => cases h
def keysP : List (D × D) → Option (List (Key × D))
  | [] => some []
  | (k, d) :: r => match keyOf k, keysP r with
    | some k', some r' => some ((k', d) :: r')
    | _, _ => none
section
variable {Γ : Gam}
def relP (Γ : Gam) (_ _ : Hp) (I : Im) : List (D × D) → List (V × V) → Prop
  | [], vs => vs = []
  | p :: ps, vs => ∃ x y r, vs = (x, y) :: r ∧ Rep Γ I p.1 x ∧ Rep Γ I p.2 y ∧ relP Γ (fun _ => none) (fun _ => none) I ps r
theorem relP_any {H1 H2 H3 H4 : Hp} {I : Im} : ∀ {ps : List (D × D)} {vs : List (V × V)}, relP Γ H1 H2 I ps vs → relP Γ H3 H4 I ps vs
  | [], _, h => h
  | _ :: _, _, h => h
theorem backP : Backs (relP Γ) := ⟨fun _ q => relP_any q⟩
theorem relP_keys {H1 H2 : Hp} {I : Im} : ∀ {ps : List (D × D)} {vs : List (V × V)} {kvs : List (Key × D)}, relP Γ H1 H2 I ps vs → keysP ps = some kvs → ∃ us : List (Key × V), vs = us.map (fun kv => (kV kv.1, kv.2)) ∧ RepK Γ I kvs us ∧ us.length = ps.length
  | [], _, _, h, e => by
    cases e
    have h : _ = [] := h
    exact ⟨[], by rw [h]; rfl, RepK.nil, rfl⟩
  | (k, d) :: ps, vs, kvs, h, e => by
    obtain ⟨x, y, r, rfl, h1, h2, h3⟩ := h
    unfold keysP at e
    split at e
    · rename_i k' r' e1 e2
      cases e
      obtain ⟨us, q1, q2, q3⟩ := relP_keys h3 e2
      refine ⟨(k', y) :: us, ?_, RepK.cons h2 q2, by rw [List.length_cons, List.length_cons, q3]⟩
      rw [List.map_cons, ← q1, keyOf_ok e1 h1]
    · cases e
end
def tPp (Γ : Gam) (n : Nat) (W : WX) (ev : Env → Cs → Ev (List (D × D))) (σ : L2.St) (H : Hp) (Q : List (V × V) → Hp → Prop) : Prop := ∃ I ρ T own, Wf Γ H I T ∧ ER Γ n σ ρ H I own ∧ Post Γ (relP Γ) W σ H I (ev ρ T) Q
/-- the pairs of a display -/
structure CP where
  ev : Env → Cs → Ev (List (D × D))
  chk : Nat → Sc → List (Option Expr) → List Expr → Bool
  need : Gam → Prop
  z : Bool
  ok : ∀ {Γ : Gam} {k : Nat} {W : WX} {sc : Sc} {X : Cx} {ks : List (Option Expr)} {vs : List Expr} {n : Nat} {pos : Pos}, Good Γ k W sc X → need Γ → chk k sc ks vs = true → (z = true → n = X.s_0.heap.objs.size) →
    ∃ trs, PPs X pos ks vs trs ∧ ∀ σ H Q, tPp Γ n W ev σ H Q → tPairs trs σ H Q
def pNil : CP where
  ev := fun _ T => .ok [] T
  chk := fun _ _ ks vs => ks.isEmpty && vs.isEmpty
  need := fun _ => True
  z := false
  ok := by
    intro Γ k W sc X ks vs n pos g nd h hz
    obtain ⟨h1, h2⟩ := b2 h
    cases ks with
    | cons a b => cases h1
    | nil =>
      cases vs with
      | cons a b => cases h2
      | nil => exact ⟨[], pps_nil, fun σ H Q ⟨I, ρ, T, own, w, er, p⟩ => p [] H I Ext.refl w rfl⟩
def pCons (a b : CE) (r : CP) : CP where
  ev := fun ρ T => (evD a.ev ρ T).bind fun x T1 => (evD b.ev ρ T1).bind fun y T2 => (r.ev ρ T2).bind fun ps T3 => .ok ((x, y) :: ps) T3
  chk := fun k sc ks vs => match ks, vs with
    | some e :: ks, f :: vs => a.chk k sc e && (b.chk k sc f && r.chk k sc ks vs)
    | _, _ => false
  need := fun Γ => a.need Γ ∧ b.need Γ ∧ r.need Γ
  z := a.z || (b.z || r.z)
  ok := by
    intro Γ k W sc X ks vs n pos g nd h hz
    split at h
    · rename_i e ks f vs
      obtain ⟨h1, h⟩ := b2 h
      obtain ⟨h2, h3⟩ := b2 h
      obtain ⟨trs, q1, q2⟩ := r.ok (pos := pos) g nd.2.2 h3 (or1 (or1 hz).2).2
      refine ⟨_, pps_cons (a.ok g nd.1 h1 (or1 hz).1) (b.ok g nd.2.1 h2 (or1 (or1 hz).2).1) q1, fun σ H Q q => ?_⟩
      obtain ⟨I, ρ, T, own, w, er, p⟩ := q
      refine ⟨I, ρ, T, own, w, er, Post.toD ((Post.bind (rel := relD Γ) backP p).imp fun x H1 q1 => ?_)⟩
      obtain ⟨d, T1, I1, _, x1, w1, r1, p1⟩ := q1
      refine ⟨I1, ρ, T1, own, w1, er.ext x1, Post.toD ((Post.bind (rel := relD Γ) backP p1).imp fun y H2 q3 => ?_)⟩
      obtain ⟨d2, T2, I2, _, x2, w2, r2, p2⟩ := q3
      refine q2 σ H2 _ ⟨I2, ρ, T2, own, w2, (er.ext x1).ext x2, (Post.bind (rel := relP Γ) backP p2).imp fun ps H3 q4 => ?_⟩
      obtain ⟨ds, T3, I3, _, x3, w3, r3, p3⟩ := q4
      exact p3 ((x, y) :: ps) H3 I3 Ext.refl w3 ⟨x, y, ps, rfl, Rep.mono (x2.tr0 x3).le r1, Rep.mono x3.le r2, relP_any r3⟩
    · cases h
def dspR (ps : List (D × D)) : Option R := if ps.length ≤ 15 then (keysP ps).map fun kvs => .v (.od (mergeD [] kvs)) else none
def cDsp (c : CP) : CE where
  ev := fun ρ T => (c.ev ρ T).bind fun ps T1 => Ev.opt (dspR ps) T1
  chk := fun k sc e => match e with
    | .Dict ks vs _ => (ks.all (·.isSome) && (decide (ks.length = vs.length) && (!ks.isEmpty && decide (ks.length ≤ 15)))) && c.chk k sc ks vs
    | _ => false
  need := c.need
  z := c.z
  ok := by
    intro Γ k W sc X e n g nd h hz
    split at h
    · rename_i ks vs pos
      obtain ⟨h, h5⟩ := b2 h
      obtain ⟨h1, h⟩ := b2 h
      obtain ⟨h2, h⟩ := b2 h
      obtain ⟨h3, h4⟩ := b2 h
      obtain ⟨trs, q1, q2⟩ := c.ok (pos := pos) g nd h5 hz
      refine PE.mono (pe_disp q1 h1 (of_decide_eq_true h2) (fun z => by rw [z] at h3; cases h3) (of_decide_eq_true h4)) fun σ H Q q p hp => ?_
      obtain ⟨I, ρ, T, own, w, er, pp⟩ := q
      refine q2 σ _ _ ⟨I, ρ, T, own, w.new hp _, er.ext (Ext.new hp _), (Post.step (rel := relP Γ) pp (Ext.new hp _)).imp fun ps H2 q3 => ?_⟩
      obtain ⟨ds, T2, I2, _, x2, w2, r2, p2⟩ := q3
      obtain ⟨r, e1, k1⟩ := Post.opt p2
      unfold dspR at e1
      split at e1
      · rename_i hlen
        obtain ⟨kvs, e2, rfl⟩ := Option.map_eq_some_iff.mp e1
        obtain ⟨us, v1, v2, v3⟩ := relP_keys r2 e2
        obtain ⟨g1, g2, _⟩ := x2.apart (a := p) (w.gnone hp) (w.nocell hp) (by rw [upd_same]; simp) (fun z => z)
        refine ⟨x2.fr p _ upd_same (w.nocell hp) (fun z => z) trivial, us, v1, by omega, ?_⟩
        have x3 : Ext O0 H I H2 I2 := (Ext.new hp _).tr0 x2
        refine k1 _ _ I2 (x3.wr hp) (w2.write g1 g2 (by rw [x2.fr p _ upd_same (w.nocell hp) (fun z => z) trivial]; trivial)) ⟨[p], ⟨p, _, rfl, rfl, upd_same, RepK.merge v2 RepK.nil⟩, fun a ha => ?_⟩
        have ea : a = p := by simpa using ha
        subst ea
        exact ⟨g1, g2, by rw [upd_same]; simp, hp⟩
      · cases e1
    · cases h

/-! ### d["k"] -/
def fDgetK (x y : R) : Option R := match x, y with
  | .v (.sh (.dct kvs)), .v (.sh d) => (keyOf d).bind fun k => (getK kvs k).map fun d => .v (.sh d)
  | _, _ => none
def cDgetK (a b : CE) : CE where
  ev := fun ρ T => (a.ev ρ T).bind fun x T1 => (b.ev ρ T1).bind fun y T2 => Ev.opt (fDgetK x y) T2
  chk := fun k sc e => match e with
    | .Subscript x y _ => notSlice y && (a.chk k sc x && b.chk k sc y)
    | _ => false
  need := fun Γ => a.need Γ ∧ b.need Γ
  z := a.z || b.z
  ok := by
    intro Γ k W sc X e n g nd h hz
    split at h
    · obtain ⟨h0, h⟩ := b2 h
      obtain ⟨h2, h3⟩ := b2 h
      refine PE.mono (pe_dget (by have := g.room.un; omega) (a.ok g nd.1 h2 (or1 hz).1) (b.ok g nd.2 h3 (or1 hz).2) (notSlice_ok h0)) fun σ H Q q => ?_
      obtain ⟨I, ρ, T, own, w, er, p⟩ := q
      refine ⟨I, ρ, T, own, w, er, (Post.bind (rel := RepR Γ n own) backR p).imp fun x H1 q1 => ?_⟩
      obtain ⟨r, T1, I1, _, x1, w1, r1, p1⟩ := q1
      refine ⟨I1, ρ, T1, own, w1, er.ext x1, (Post.bind (rel := RepR Γ n own) backR p1).imp fun y H2 q2 => ?_⟩
      obtain ⟨r2, T2, I2, _, x2, w2, r2', p2⟩ := q2
      obtain ⟨r3, e3, p3⟩ := Post.opt p2
      unfold fDgetK at e3
      split at e3
      · rename_i kvs dk
        obtain ⟨key, e5, e6⟩ := Option.bind_eq_some_iff.mp e3
        obtain ⟨d, e4, rfl⟩ := Option.map_eq_some_iff.mp e6
        have hx := (r1.ext x2).unsh
        simp only [Rep] at hx
        obtain ⟨b, o, us, rfl, hb, hk⟩ := hx
        obtain ⟨v, e5', rv⟩ := hk.get e4
        rw [keyOf_ok e5 r2'.unsh]
        exact ⟨b, v, rfl, .inl ⟨us, key, .inr ⟨o, w2.gh _ _ hb⟩, rfl, e5'.symm⟩, give_val w2 rv p3⟩
      · cases e3
    · cases h
end Tp
end
section
set_option Elab.async false
set_option linter.all false
set_option maxRecDepth 100000
set_option maxHeartbeats 2000000
/-! TrC: x in l, x not in l, by data of any depth. -/
namespace Tp
open PySem PySem.Spec PyProof.Rows L2
end Tp
end
section
set_option Elab.async false
set_option linter.all false
set_option maxRecDepth 100000
set_option maxHeartbeats 2000000
/-! TrD: own dicts with keys of any kind: d["k"] looked at, d["k"] as a target, a local's own dict locked. -/
namespace Tp
open PySem PySem.Spec PyProof.Rows L2

/-! ### d["k"] of an own dict -/
/-! ### d["k"] as a target -/
/-! ### an own dict is locked -/
end Tp
end
section
set_option Elab.async false
set_option linter.all false
set_option maxRecDepth 100000
set_option maxHeartbeats 2000000
/-! TrE: sorted(x) of data of any kind that are alike (pairs of an int and a list, lists of ints, ..). -/
namespace Tp
open PySem PySem.Spec PyProof.Rows L2
end Tp
end
section
set_option Elab.async false
set_option linter.all false
set_option maxRecDepth 100000
set_option maxHeartbeats 2000000
/-! TrF: list(zip(a, b)), a and b lists. -/
namespace Tp
open PySem PySem.Calls PyProof.Rows PyProof.V PySem.Spec PySem.W
/-- a zip behind i turns, while a list S is filled with what it gave -/
def KzSt (h : Heap) (z TI TO i1 i2 l1 l2 S : Addr) (i : Nat) : Prop :=
  IsPair h TI (.ref i1) (.ref i2) ∧ h.IsListIter i1 l1 i ∧ h.IsListIter i2 l2 i ∧
  ((i = 0 ∧ IsZip h z TI TO .none ∧ ∃ a b, IsPair h TO a b) ∨ ∃ T f oT, IsZipHeld h z TI TO T f ∧ h.get? T = some oT ∧ T ≠ z ∧ T ≠ i1 ∧ T ≠ i2 ∧ T ≠ S)
/-- S lies apart from the zip -/
structure KzOff (S z TI TO i1 i2 l1 l2 : Addr) : Prop where
  z : z < S
  TI : TI < S
  TO : TO < S
  i1 : i1 < S
  i2 : i2 < S
  l1 : l1 < S
  l2 : l2 < S
theorem KzSt.keep {h h' : Heap} {z TI TO i1 i2 l1 l2 S : Addr} {i : Nat} (x : KzSt h z TI TO i1 i2 l1 l2 S i) (O : KzOff S z TI TO i1 i2 l1 l2) (hk : ∀ b o, b ≠ S → h.get? b = some o → h'.get? b = some o) : KzSt h' z TI TO i1 i2 l1 l2 S i := by
  obtain ⟨a1, a2, a3, a4⟩ := x
  refine ⟨hk _ _ (Nat.ne_of_lt O.TI) a1, a2.at fun o e => hk _ o (Nat.ne_of_lt O.i1) e, a3.at fun o e => hk _ o (Nat.ne_of_lt O.i2) e, ?_⟩
  rcases a4 with ⟨e, hz, a, b, ht⟩ | ⟨T, f, oT, hz, hT, n1, n2, n3, n4⟩
  · exact .inl ⟨e, hk _ _ (Nat.ne_of_lt O.z) hz, a, b, hk _ _ (Nat.ne_of_lt O.TO) ht⟩
  · exact .inr ⟨T, f, oT, hk _ _ (Nat.ne_of_lt O.z) hz, hk _ _ n4 hT, n1, n2, n3, n4⟩
section
variable {prog : Program} {w : World} {A : Around} {E : Value → Shared → Prop} {s : Shared}
/-- the tuples that were made -/
structure KzG (xs ys : Array Value) (lo : Addr) (h : Heap) (as : List Addr) : Prop where
  rise : as.Pairwise (· < ·)
  above : ∀ a ∈ as, lo < a
  pairs : ∀ (j : Nat) (a : Addr), as[j]? = some a → ∃ x y, xs[j]? = some x ∧ ys[j]? = some y ∧ IsPair h a x y
theorem KzG.there {xs ys : Array Value} {lo : Addr} {h : Heap} {as : List Addr} (g : KzG xs ys lo h as) {a : Addr} (ha : a ∈ as) : a < h.objs.size := by
  obtain ⟨j, hj⟩ := List.mem_iff_getElem?.mp ha
  obtain ⟨_, _, _, _, e⟩ := g.pairs j a hj
  exact Heap.lt_size e
end
section
variable {prog : Program} {w : World} {A : Around} {s : Shared} {R : Result → Shared → Prop} {xs ys : Array Value} {n : Nat}
end
section
variable {prog : Program} {w : World} {A : Around} {E : Value → Shared → Prop} {s : Shared} {xs ys : Array Value} {n : Nat} {z TI TO i1 i2 l1 l2 : Addr}
end
/-! ### the layer's heap -/
open L2
end Tp
end
section
set_option Elab.async false
set_option linter.all false
set_option maxRecDepth 100000
set_option maxHeartbeats 2000000
/-! TrG: repr of a dict of plain keys and plain values, and of ints up to 10 ** 40. -/
namespace Tp
open PySem PySem.Spec PyProof.Rows L2

mutual
/-- how long the text is at most -/
def shX : PyData → Option Nat
  | .none => some 4
  | .bool _ => some 5
  | .int i => if -1000000000000000000 < i ∧ i < 1000000000000000000 then some 19 else
      if -10000000000000000000000000000000000000000 < i ∧ i < 10000000000000000000000000000000000000000 then some 41 else none
  | .str x => some (reprText x).length
  | .list xs => (shXs xs).map fun n => n + 2
  | .tuple xs => (shXs xs).map fun n => n + 3
  | .dict _ => none
def shXs : List PyData → Option Nat
  | [] => some 0
  | x :: xs => (shX x).bind fun a => (shXs xs).map fun b => a + 2 + b
end
theorem shX_int {i : Int} {k : Nat} (hk : 0 < k) (hk6 : k ≤ 40) (q : i.natAbs < 10 ^ k) : (PyData.int i).shown.length ≤ k + 1 ∧ (PyData.int i).showable = true := by
  refine ⟨?_, ?_⟩
  · simp only [PyData.shown]
    show (Str.ofString (toString i)).length ≤ _
    rw [PySem.ofString_length]
    exact int_text_length_le10 hk q
  · simp only [PyData.showable]
    by_cases h0 : i.natAbs = 0
    · rw [h0]; decide
    have h1 : i.natAbs < 10 ^ 40 := Nat.lt_of_lt_of_le q (Nat.pow_le_pow_right (by decide) hk6)
    have : i.natAbs.log2 < 133 := (Nat.log2_lt h0).mpr (Nat.lt_of_lt_of_le h1 (by decide))
    exact decide_eq_true (by omega)
mutual
theorem shX_ok : ∀ (p : PyData) (n : Nat), shX p = some n → p.shown.length ≤ n ∧ p.showable = true ∧ p.hasDict = false
  | .none, n, h => by
    simp only [shX] at h; cases h
    exact ⟨by simp only [PyData.shown]; decide, by simp only [PyData.showable], by simp only [PyData.hasDict]⟩
  | .bool b, n, h => by
    simp only [shX] at h; cases h
    exact ⟨by cases b <;> decide, by simp only [PyData.showable], by simp only [PyData.hasDict]⟩
  | .int i, n, h => by
    simp only [shX] at h
    split at h
    · rename_i q
      cases h
      have e : (10:Nat) ^ 18 = 1000000000000000000 := by decide
      obtain ⟨a, b⟩ := shX_int (i := i) (k := 18) (by decide) (by decide) (by rw [e]; omega)
      exact ⟨a, b, by simp only [PyData.hasDict]⟩
    split at h
    · rename_i q
      cases h
      have e : (10:Nat) ^ 40 = 10000000000000000000000000000000000000000 := by decide
      obtain ⟨a, b⟩ := shX_int (i := i) (k := 40) (by decide) (by decide) (by rw [e]; omega)
      exact ⟨a, b, by simp only [PyData.hasDict]⟩
    · cases h
  | .str x, n, h => by
    simp only [shX] at h; cases h
    exact ⟨by simp only [PyData.shown]; omega, by simp only [PyData.showable], by simp only [PyData.hasDict]⟩
  | .list xs, n, h => by
    simp only [shX] at h
    obtain ⟨m, h1, rfl⟩ := Option.map_eq_some_iff.mp h
    obtain ⟨a, b, c⟩ := shXs_ok xs m h1
    refine ⟨?_, by simp only [PyData.showable]; exact b, by simp only [PyData.hasDict]; exact c⟩
    simp only [PyData.shown]
    show ((textFrom 0 (Str.ofString "[") (PyData.shownAll xs)) ++ Str.ofString "]").length ≤ _
    have e1 : (Str.ofString "]").length = 1 := by decide
    have e0 : (Str.ofString "[").length = 1 := by decide
    have := textFrom_up (PyData.shownAll xs) 0 (Str.ofString "[")
    rw [Str.length_append]
    omega
  | .tuple xs, n, h => by
    simp only [shX] at h
    obtain ⟨m, h1, rfl⟩ := Option.map_eq_some_iff.mp h
    obtain ⟨a, b, c⟩ := shXs_ok xs m h1
    refine ⟨?_, by simp only [PyData.showable]; exact b, by simp only [PyData.hasDict]; exact c⟩
    simp only [PyData.shown]
    have := tupleText_up (PyData.shownAll xs)
    omega
  | .dict _, n, h => by simp only [shX] at h; cases h
theorem shXs_ok : ∀ (ps : List PyData) (n : Nat), shXs ps = some n → piled (PyData.shownAll ps) ≤ n ∧ PyData.showableAll ps = true ∧ PyData.hasDictAll ps = false
  | [], n, h => by
    simp only [shXs] at h; cases h
    exact ⟨by simp [PyData.shownAll, piled], by simp only [PyData.showableAll], by simp only [PyData.hasDictAll]⟩
  | x :: xs, n, h => by
    simp only [shXs] at h
    obtain ⟨a, h1, h2⟩ := Option.bind_eq_some_iff.mp h
    obtain ⟨b, h3, rfl⟩ := Option.map_eq_some_iff.mp h2
    obtain ⟨p1, p2, p3⟩ := shX_ok x a h1
    obtain ⟨q1, q2, q3⟩ := shXs_ok xs b h3
    refine ⟨?_, by simp only [PyData.showableAll, p2, q2]; rfl, by simp only [PyData.hasDictAll, p3, q3]; rfl⟩
    simp only [PyData.shownAll]
    rw [piled_cons]
    omega
end
def okShowX (p : PyData) : Bool := match shX p with
  | some n => decide (n ≤ 1000000) && decide (p.depth ≤ 60)
  | none => false
/-! ### dicts of plain things -/
def keyPy : Key → PyData
  | .inl i => .int i
  | .inr x => .str x
def okDct (ps : List (PyData × PyData)) : Bool := (PyData.dict ps).showable && (decide ((PyData.dict ps).shown.length ≤ 1000000) && decide ((PyData.dict ps).depth ≤ 60))
/-- the pairs of a tracked dict, plain -/
inductive At2 : List (Key × V) → List (PyData × PyData) → Prop
  | nil : At2 [] []
  | cons {k : Key} {v : V} {p : PyData} {us ps} : (∀ (h : Heap) (u : Value), RelV v u → Reads h u p []) → At2 us ps → At2 ((k, v) :: us) ((keyPy k, p) :: ps)
theorem At2.reads {P : Program} {w : World} (h : Heap) : ∀ {us : List (Key × V)} {ps : List (PyData × PyData)} {vs : List (Key × Value)} {es : List DictEntry}, At2 us ps → KV us vs → Pairs (mixKind P w) es vs →
    ReadsAll h (es.map (·.key)) (ps.map (·.1)) [] ∧ ReadsAll h (es.map (·.val)) (ps.map (·.2)) []
  | _, _, _, _, .nil, .nil, .nil => ⟨.nil, .nil⟩
  | _, _, _, _, .cons (k := k) f t, .cons (b := q) ⟨e1, e2⟩ kv, .cons (e := e) c1 c2 ct => by
    obtain ⟨i1, i2⟩ := At2.reads h t kv ct
    obtain ⟨qk, qv⟩ := q
    have e1 : k = qk := e1
    subst e1
    refine ⟨?_, ?_⟩
    · have : Reads h e.key (keyPy k) [] := by
        rcases keyIs_shape (show keyIs k e.key = true from c1) with ⟨i, t, rfl, z⟩ | ⟨x, t, rfl, z⟩
        · rw [z]; exact Reads.int i t
        · rw [z]; exact Reads.str x t
      exact ReadsAll.cons this i1
    · have : Reads h e.val _ [] := f h e.val (by rw [c2]; exact e2)
      exact ReadsAll.cons this i2
theorem dct_reads {X : Cx} {pins : List (Addr × Obj)} {σ : L2.St} {H : Hp} {s : Shared} (I : L2.Inv X pins σ H s) {a : Addr} {us : List (Key × V)} {ps : List (PyData × PyData)} (hd : Rd H a (.dK us)) (t : At2 us ps) :
    ∃ as, Reads s.heap (.ref a) (.dict ps) as ∧ sysModules ∉ as := by
  obtain ⟨_, n, vs, kv, o, es, ep, h1, h2, h3, _, h5, _⟩ := dk_rd I.hok hd
  obtain ⟨i1, i2⟩ := At2.reads s.heap t kv h5
  refine ⟨_, Reads.dict h1 h2.1 h3 i1 i2, fun z => ?_⟩
  rcases List.mem_cons.mp z with z | z
  · subst z
    exact absurd n (by simp)
  · cases z
def rShowX (K : PySem.W.Frag) (L : List Addr) : List V → Hp → VK → Prop := fun xs H Q => ∃ v, xs = [v] ∧ Ugd K L H ∧ ((∃ p, Dp K H v p ∧ okShowX p = true ∧ Q (.str p.shown) H) ∨
  (∃ a us ps, v = .ref a ∧ Rd H a (.dK us) ∧ At2 us ps ∧ okDct ps = true ∧ Q (.str (PyData.dict ps).shown) H))
end Tp
end
section
set_option Elab.async false
set_option linter.all false
set_option maxRecDepth 100000
set_option maxHeartbeats 2000000
/-! TrH: t[::-1] of a tuple. -/
namespace Tp
open PySem PySem.Spec PyProof.Rows L2
section
variable {prog : Program} {w : World} {A : Around} {E : Value → Shared → Prop} {s : Shared}
end
end Tp
end
section
set_option Elab.async false
set_option linter.all false
set_option maxRecDepth 100000
set_option maxHeartbeats 2000000
/-! TrJ: x[i] = x.pop() of an own list. -/
namespace Tp
open PySem PySem.Spec PyProof.Rows L2
end Tp
end
section
set_option Elab.async false
set_option linter.all false
set_option maxRecDepth 100000
set_option maxHeartbeats 2000000
/-! TrK: one expression by two terms: the second one where the first one says nothing. -/
namespace Tp
open PySem PySem.Spec PyProof.Rows L2
end Tp
end
section
set_option Elab.async false
set_option linter.all false
set_option maxRecDepth 100000
set_option maxHeartbeats 2000000
/-! TqS: the head run in three, each looked at apart (less memory). -/
namespace Tp
open PySem PySem.W PySem.Calls PyProof.Rows HandSHeadRun
end Tp
end
section
set_option Elab.async false
set_option linter.all false
set_option maxRecDepth 100000
set_option maxHeartbeats 2000000
/-! TqW: what the head run shows, in three parts (less memory still): the functions, first half and second half; the rest. -/
namespace Tp
open PySem PySem.W PySem.Spec PySem.Calls PyProof.Rows L2 HandSHeadRun
end Tp
end
section
set_option Elab.async false
set_option linter.all false
set_option maxRecDepth 100000
set_option maxHeartbeats 2000000
/-! TrI: the head run's second look in three more (less memory). -/
namespace Tp
open PySem PySem.W PySem.Calls PyProof.Rows HandSHeadRun
end Tp
end
section
set_option Elab.async false
set_option linter.all false
set_option maxRecDepth 100000
set_option maxHeartbeats 2000000
/-! TrL: a part of the head run's look at the functions in two more (less memory still). -/
namespace Tp
open PySem PySem.W PySem.Spec PySem.Calls PyProof.Rows L2 HandSHeadRun
end Tp
end
section
set_option Elab.async false
set_option linter.all false
set_option maxRecDepth 100000
set_option maxHeartbeats 2000000
/-! TrM: o.m(k=e, ..): a method with names alone. -/
namespace Tp
open PySem PySem.Spec PyProof.Rows L2
end Tp
end
section
set_option Elab.async false
set_option linter.all false
set_option maxRecDepth 100000
set_option maxHeartbeats 2000000
/-! TrN: f-strings: {a} of a list of plain data, {a!r} of an object with its own __repr__. -/
namespace HN
open PySem PySem.Spec PyProof.Rows PySem.SeqAt
section
variable {M : Model} {prog : Program} {w : World} {A : Around} {E : Value → Shared → Prop} {s : Shared} {K : PySem.W.Frag} {x C f : Addr} {ox : Obj} {od : Option Obj}
end
end HN
namespace Tp
open PySem PySem.Spec PyProof.Rows L2
end Tp
end
section
set_option Elab.async false
set_option linter.all false
set_option maxRecDepth 100000
set_option maxHeartbeats 2000000
/-! TrO: x.append(y.pop(a)), both own lists. -/
namespace Tp
open PySem PySem.Spec PyProof.Rows L2
end Tp
end
section
set_option Elab.async false
set_option linter.all false
set_option maxRecDepth 100000
set_option maxHeartbeats 2000000
/-! TrP: str(an int). -/
namespace Tp
open PySem PySem.Spec PyProof.Rows L2

end Tp
end
section
set_option Elab.async false
set_option linter.all false
set_option maxRecDepth 100000
set_option maxHeartbeats 2000000
/-! TrQ: raise C(), raise C(e), C an own exception class. -/
namespace Tp
open PySem PySem.Spec PyProof.Rows L2

/-! ### a class without own __init__ -/
/-! ### a class whose __init__ keeps its one argument -/
theorem oexB_ok {K : PySem.W.Frag} {C : Addr} (q : oexB K C = true) : ∃ nm q N bs bm sn sub ab col dd k0 k1 k2 k3 k5, K.lookup C = some (excClassObj nm q C N bs bm true sn sub ab col dd k0 k1 k2 k3 k5 "ValueError.__new__") ∧ PySem.HandSPX.refsVE bm = true := by
  unfold oexB at q
  split at q
  · rename_i dd cd sl ho
    split at q
    · rename_i C' bm k0 k1 k2 k3 n k5 hm hs
      simp only [Bool.and_eq_true, beq_iff_eq, Bool.not_eq_true'] at q
      obtain ⟨⟨⟨⟨rfl, rfl⟩, hdel⟩, hdi⟩, ht⟩ := q
      obtain ⟨nm, bs, mro, ns, qn, hd, sn, sub, ab, col, del⟩ := cd
      dsimp only at hm hdel hdi
      subst hm hdel hdi
      have hsl : sl = #[k0, k1, k2, k3, some (.builtin "ValueError.__new__"), k5] := by
        obtain ⟨l⟩ := sl
        simp only at hs
        rw [hs]
      subst hsl
      exact ⟨nm, qn, ns, bs, bm, sn, sub, ab, col, dd, k0, k1, k2, k3, k5, ho, ht⟩
    · cases q
  · cases q
structure XiOk (K : PySem.W.Frag) (c a : Str) : Prop where
  oex : OexC K (He.ga K c)
  ini : PySem.W.findIn K (.ref (He.ga K c)) "__init__" = some (some (.ref (He.fAd K (c, some "__init__"))))
  typ : PySem.W.typeIn K (.ref (He.fAd K (c, some "__init__"))) = some (.type "function")
  nov : PySem.W.findIn K (.ref (He.ga K c)) a = some none
theorem xiB_ok {K : PySem.W.Frag} {c a : Str} (h : xiB K c a = true) : XiOk K c a := by
  obtain ⟨h1, h⟩ := b2 h
  obtain ⟨h2, h⟩ := b2 h
  obtain ⟨h3, h⟩ := b2 h
  obtain ⟨h4, h⟩ := b2 h
  obtain ⟨h5, h⟩ := b2 h
  obtain ⟨h6, h⟩ := b2 h
  obtain ⟨h7, h8⟩ := b2 h
  exact ⟨⟨oexB_ok h1, of_decide_eq_true h2, of_decide_eq_true h3, of_decide_eq_true h4, h5⟩, of_decide_eq_true h6, of_decide_eq_true h7, of_decide_eq_true h8⟩
/-- self.a = a -/
def keepsOne (a : Str) (s : DefSig) : Bool := sigOk s && (decide (s.N = [("self" : Str), a]) && (decide (s.ps = [("self" : Str), a]) && (decide (a ≠ ("self" : Str)) && (okName a && (okName "self" && (isVis s.scope.names a && (isVis s.scope.names "self" && (s.dfl.isEmpty && (match s.body with
  | [.Assign [.Attribute (.Name x _) f _] (.Name y _) _] => decide (x = "self") && (decide (f = a) && decide (y = a))
  | [.Expr (.Constant (.str _) _ _) _, .Assign [.Attribute (.Name x _) f _] (.Name y _) _] => false && (decide (x = "self") && (decide (f = a) && decide (y = a)))
  | _ => false)))))))))
/-- what such an __init__ keeps -/
def spX1 (K : PySem.W.Frag) (a : Str) : Sp := fun vs H Q _ => ∃ (x C : Addr) (y : V), vs = [.ref x, y] ∧ OexC K C ∧ PySem.W.findIn K (.ref C) a = some none ∧ H x = some (exo x C none) ∧
  ∀ dx, H dx = none → dx ≠ x → Q .non (upd (upd H dx (exd dx [(a, y)])) x (exo x C (some dx)))
theorem fnok_x1 {Γ : Gam} {a : Str} {s : DefSig} {f : Addr} {fd : FuncData} (h : keepsOne a s = true) (F : FunD Γ.K s.nm s.qual s.params s.body s.scope (s.dfl.map constV) [] f fd) : FnOk Γ.P Γ.w Γ.K Γ.mg Γ.base (L2.CX Γ.P Γ.w) 1 f fd [("self" : Str), a] (spX1 Γ.K a) := by
  obtain ⟨h1, h⟩ := b2 h
  obtain ⟨h2, h⟩ := b2 h
  obtain ⟨h3, h⟩ := b2 h
  obtain ⟨h4, h⟩ := b2 h
  obtain ⟨h5, h⟩ := b2 h
  obtain ⟨h6, h⟩ := b2 h
  obtain ⟨h7, h⟩ := b2 h
  obtain ⟨h8, h⟩ := b2 h
  obtain ⟨h9, h⟩ := b2 h
  have eN := of_decide_eq_true h2
  have eP := of_decide_eq_true h3
  have S := sigOk_ok h1
  rw [eN, eP] at S
  obtain ⟨da1, da2, _⟩ := okName_d h5
  obtain ⟨ds1, ds2, _⟩ := okName_d h6
  obtain ⟨oc, od, dV, kV, doc, pm, an, cdv, ct, osl, rfl, lk, hcd, _, _⟩ := F.ex
  refine fn_of lk hcd S (fun vs H Q E ⟨x, C, y, e, _⟩ => by rw [e]; rfl) fun A outer sh H vs Q E hr ⟨x, C, y, e, T, nov, hx, q⟩ => ?_
  subst e
  split at h
  · rename_i x0 p0 f0 p1 y0 p2 pos hb
    obtain ⟨q1, q2⟩ := b2 h
    obtain ⟨q3, q4⟩ := b2 q2
    have e1 := of_decide_eq_true q1
    have e2 := of_decide_eq_true q3
    have e3 := of_decide_eq_true q4
    subst e1 e2 e3
    rw [hb]
    refine ⟨_, pss_cons (ps_ost (pe_var (i := 0) rfl (isVis_ok rfl h8) ds1 ds2) (pe_var (i := 1) rfl (isVis_ok rfl h7) da1 da2)) pss_nil, ?_⟩
    refine ⟨y, rfl, .ref x, rfl, x, C, rfl, T, nov, .inl ⟨hx, fun dx hdx hne => q dx hdx hne⟩⟩
  · exact absurd (b2 h).1 Bool.false_ne_true
  · cases h
structure XInit (Γ : Gam) (c a : Str) (s : DefSig) : Prop where
  mg : Γ.mg c = some (.ref (He.ga Γ.K c))
  ok : XiOk Γ.K c a
  one : keepsOne a s = true
  fn : ∃ fd, FunD Γ.K s.nm s.qual s.params s.body s.scope (s.dfl.map constV) [] (He.fAd Γ.K (c, some "__init__")) fd
  bnd : BindOk s 2 [] [.a 0, .a 1]
  xf : Γ.xf c = [a]
theorem XInit.binds {Γ : Gam} {c a : Str} {s : DefSig} (S : XInit Γ c a s) {fd : FuncData} (F : FunD Γ.K s.nm s.qual s.params s.body s.scope (s.dfl.map constV) [] (He.fAd Γ.K (c, some "__init__")) fd) : Binds Γ.K fd [("self" : Str), a] [] := by
  intro sh us KI hl
  have eP : s.ps = [("self" : Str), a] := of_decide_eq_true (b2 (b2 (b2 S.one).2).2).1
  rw [List.append_nil] at hl ⊢
  obtain ⟨its, _, hb⟩ := bind_of S.bnd F KI (us := us) (ws := []) hl rfl
  match us, hl, hb with
  | [u0, u1], _, hb =>
    rw [eP] at hb
    exact hb
/-- raise C(e) -/
def sRaise1 (c a : Str) (s : DefSig) (e1 : CE) : C1 where
  ev := fun ρ T => (evD e1.ev ρ T).bind fun d T1 => .ex ⟨c, [d]⟩ T1
  chk := fun k sc st => match st with
    | .Raise (some (.Call (.Name x _) [e] [] _)) none _ => decide (2 ≤ k) && (decide (x = c) && (okName x && (isGl sc.nm x && (notStar e && e1.chk k sc e))))
    | _ => false
  need := fun Γ => XInit Γ c a s ∧ e1.need Γ
  ok := by
    intro Γ k W sc X st g nd h
    split at h
    · rename_i x p e pos pos2
      obtain ⟨h0, h⟩ := b2 h
      obtain ⟨h1, h⟩ := b2 h
      obtain ⟨h2, h⟩ := b2 h
      obtain ⟨h3, h⟩ := b2 h
      obtain ⟨h4, h5⟩ := b2 h
      have e0 := of_decide_eq_true h0
      have e1' := of_decide_eq_true h1
      subst e1'
      obtain ⟨d1, _, _⟩ := okName_d h2
      obtain ⟨S, n2⟩ := nd
      obtain ⟨fd, F⟩ := S.fn
      have F1 := fnok_x1 S.one F
      have po : Passes (L2.CX X.prog X.w) X (fun _ _ _ => False) := passes_call g.tk fun _ _ _ _ q => q.elim
      have ha := (dCons e1 dNil).ok (n := X.s_0.heap.objs.size) g (e := [e]) ⟨n2, trivial⟩ (by
        show (notStar e && (e1.chk k sc e && ([] : List Expr).isEmpty)) = true
        rw [h4, h5]; rfl) fun _ => rfl
      have mk := pmk_oex (X := X) (x := x) (p := p) (pos := pos) (e := e) (es := []) (C := He.ga Γ.K x) (fI := He.fAd Γ.K (x, some "__init__")) (k := 1) (fd := fd) (ps := [("self" : Str), a]) (sp := spX1 Γ.K a) (ds := []) (dvs := [])
        (by rw [g.K]; exact S.ok.oex) (by rw [g.K]; exact S.ok.ini) (by rw [g.K]; exact S.ok.typ) (by rw [g.prog, g.w, g.K, g.mg, g.base]; exact F1) (g.room.mono e0) (by rw [g.K]; exact S.binds F) .nil
        (by rw [← g.prog, ← g.w]; exact po) (isGl_ok g.nm h3) (by rw [g.mg]; exact S.mg) ha d1 (star_cons h4) rfl
      refine PS.mono (ps_raise g.calm g.tk mk) fun D σ H q => ?_
      obtain ⟨I, ρ, T, own, w, er, q⟩ := q
      have q0 : PostS Γ X.s_0.heap.objs.size W D (Ow own) H I ((evD e1.ev ρ T).bind fun d T1 => .ex ⟨x, [d]⟩ T1) := q
      refine ⟨I, ρ, T, own, w, er, ?_⟩
      show Post Γ (relDs Γ) W σ H I ((evD e1.ev ρ T).bind fun d T1 => (Ev.ok [] T1).bind fun ds T2 => .ok (d :: ds) T2) _
      cases ee : evD e1.ev ρ T with
      | no => rw [ee] at q0; exact q0
      | ex y T' => rw [ee] at q0; exact fun cls d H' I' x w r => q0 cls d σ H' I' (x.mono fun _ z => z.elim) w r
      | ok d T1 =>
        rw [ee] at q0
        intro vs H1 I1 x1 w1 r1
        have q0 : XS Γ W (Ow own) H I ⟨x, [d]⟩ T1 := q0
        have r1 : Reps Γ I1 [d] vs := r1
        simp only [Reps] at r1
        obtain ⟨v, r, rfl, r2, rfl⟩ := r1
        refine ⟨by show 1 ≤ 1000; omega, fun ad hd => ⟨ad, _, v, rfl, S.ok.oex, S.ok.nov, upd_same, fun dx hdx hne => ⟨rfl, dx, [(a, v)], upd_same, ?_, ?_, ?_⟩⟩⟩
        · rw [upd_ne hne, upd_same]
        · rw [upd_ne hne] at hdx; exact hdx
        · have hdx' : H1 dx = none := by rw [upd_ne hne] at hdx; exact hdx
          have eH : upd (del (upd (upd (upd H1 ad (exo ad (He.ga Γ.K x) none)) dx (exd dx [(a, v)])) ad (exo ad (He.ga Γ.K x) (some dx))) ad) dx (.xd [(a, v)]) = upd H1 dx (.xd [(a, v)]) := by
            funext b
            by_cases z1 : b = dx
            · rw [z1, upd_same, upd_same]
            · rw [upd_ne z1, upd_ne z1]
              by_cases z2 : b = ad
              · rw [z2, del_same, hd]
              · rw [del_ne z2, upd_ne z2, upd_ne z1, upd_ne z2]
          rw [eH]
          have x2 : Ext O0 H1 I1 (upd H1 dx (.xd [(a, v)])) ⟨upd I1.G dx (.xd [(a, v)]), I1.κ, I1.me⟩ := Ext.newG hdx' (w1.gnone hdx')
          refine q0 _ _ σ _ _ ((x1.tr0 x2).mono fun _ z => z.elim) (w1.newG hdx' _) ⟨rfl, .inr ⟨dx, [(a, v)], rfl, upd_same, ?_, ?_⟩⟩
          · show [a] = Γ.xf x
            rw [S.xf]
          · exact Reps.cons (Rep.mono x2.le r2) Reps.nil
    · cases h
end Tp
end
section
set_option Elab.async false
set_option linter.all false
set_option maxRecDepth 100000
set_option maxHeartbeats 2000000
/-! TrR: try: e / except C: .., try: return e / except C as n: ..; in the suite an exception is handled. -/
namespace Tp
open PySem PySem.Spec PyProof.Rows L2

/-- what is known of the code's context in an except suite -/
structure GoodH (Γ : Gam) (k : Nat) (sc : Sc) (X : Cx) : Prop where
  prog : X.prog = Γ.P
  w : X.w = Γ.w
  K : X.K = Γ.K
  mg : X.mg = Γ.mg
  base : X.base = Γ.base
  N : X.N = sc.N
  nd : X.N.Nodup
  un : X.A.units + 16 * k + 200 < cLine
  dp : X.A.depth + 3 * k + 5 < recursionLimit
  gd : GdX Γ X.A
  nm : X.env.scope.names = sc.nm
  fk : X.env.scope.kind = .function
  st : ∀ x, (sc.st.lookup x = some .local ∨ sc.st.lookup x = some .cell) → X.fn x = true ∨ X.env.scope.names.lookup x = some .local
theorem goodH {Γ : Gam} {k : Nat} {W : WX} {sc : Sc} {X : Cx} (g : Good Γ k W sc X) (a : Addr) (pn : List (Addr × Obj)) : GoodH Γ k sc (X.suite a pn) :=
  ⟨g.prog, g.w, g.K, g.mg, g.base, g.N, g.nd, g.room.un, g.room.dp, g.gd, g.nm, g.fk, g.st⟩
abbrev WN : WX := fun _ _ _ _ => False
/-- the slot that holds the caught exception -/
def Nmd (i : Option Nat) (σ : L2.St) (a : Addr) : Prop := ∀ j, i = some j → σ[j]? = some (some (.ref a))
def tHE (Γ : Gam) (n : Nat) (a : Addr) (cls : Value) (d : Option Addr) (i : Option Nat) (ev : ExD → Env → Cs → Ev R) : TE := fun σ H Q => ∃ I ρ T own e, Wf Γ H I T ∧ ER Γ n σ ρ H I own ∧ RepX Γ I e cls d ∧ Nmd i σ a ∧ Post Γ (RepR Γ n own) WN σ H I (ev e ρ T) Q
/-- an expression in an except suite -/
structure HE where
  ev : ExD → Env → Cs → Ev R
  chk : Nat → Sc → Option Nat → Expr → Bool
  need : Gam → Prop
  ok : ∀ {Γ : Gam} {k : Nat} {sc : Sc} {X : Cx} {e : Expr} {n : Nat} {i : Option Nat} {a : Addr} {oe : Obj} {cls : Value} {d : Option Addr} {pn : List (Addr × Obj)}, GoodH Γ k sc (X.suite a ((a, oe) :: pn)) → need Γ → chk k sc i e = true → Zc cls d oe → (∃ vs, oe.data = .fields vs) →
    PE (X.suite a ((a, oe) :: pn)) e (tHE Γ n a cls d i ev)
theorem tHE_const {Γ : Gam} {n : Nat} {a : Addr} {cls : Value} {dd : Option Addr} {i : Option Nat} {d : D} {v : V} (h : ∀ I, Rep Γ I d v) : ∀ σ H Q, tHE Γ n a cls dd i (fun _ _ T => .ok (.v (.sh d)) T) σ H Q → tC v σ H Q := fun σ H Q q => by
  obtain ⟨I, ρ, T, own, e, w, er, rx, nm, p⟩ := q
  exact p v H I Ext.refl w (.sh (h I))
def hStr (j : Str) : HE where
  ev := fun _ _ T => .ok (.v (.sh (.str j))) T
  chk := fun _ _ _ e => match e with
    | .Constant (.str x) _ _ => decide (j = x)
    | _ => false
  need := fun _ => True
  ok := by
    intro Γ k sc X e n i a oe cls d pn g _ h hz hf
    split at h
    · rw [of_decide_eq_true h]
      exact PE.mono pe_str (tHE_const fun _ => .ofStr)
    · cases h
theorem RepX.mono {Γ : Gam} {I I' : Im} (le : Im.Le I I') {e : ExD} {cls : Value} {d : Option Addr} (h : RepX Γ I e cls d) : RepX Γ I' e cls d := by
  obtain ⟨h1, h2 | ⟨a, us, h3, h4, h5, h6⟩⟩ := h
  · exact ⟨h1, .inl h2⟩
  · exact ⟨h1, .inr ⟨a, us, h3, le.gg _ _ h4, h5, h6.mono le⟩⟩
/-- e.f, e the caught exception, its class's name c -/
def fldX (c f : Str) (e : ExD) : Option R := if e.c = c then (((xfT c).zip e.xs).lookup f).map fun d => .v (.sh d) else none
theorem reps_lookup {Γ : Gam} {I : Im} {f : Str} : ∀ {us : List (Str × V)} {ds : List D} {d : D}, Reps Γ I ds (us.map (·.2)) → ((us.map (·.1)).zip ds).lookup f = some d → ∃ v, us.lookup f = some v ∧ Rep Γ I d v
  | [], _, _, _, h => by simp at h
  | (x, v) :: us, [], _, _, h => by simp at h
  | (x, v) :: us, d0 :: ds, d, r, h => by
    simp only [List.map_cons, Reps] at r
    obtain ⟨v', r', e1, r2, r3⟩ := r
    cases e1
    simp only [List.map_cons, List.zip_cons_cons, List.lookup_cons] at h ⊢
    split at h
    · cases h
      exact ⟨v, rfl, r2⟩
    · exact reps_lookup r3 h
def hFld (c f : Str) : HE where
  ev := fun e _ T => Ev.opt (fldX c f e) T
  chk := fun _ sc i e => match i, e with
    | some j, .Attribute (.Name x _) f' _ => decide (f' = f) && (okName x && slotIs sc.N j x && isVis sc.nm x)
    | _, _ => false
  need := fun Γ => Γ.xf = xfT ∧ XfC Γ.K (He.ga Γ.K c) ∧ PySem.W.findIn Γ.K (.ref (He.ga Γ.K c)) f = some none
  ok := by
    intro Γ k sc X e n i a oe cls d pn g nd h hz hf
    split at h
    · rename_i j x px f' pos
      obtain ⟨ha, hb⟩ := b2 h
      obtain ⟨hc, h3⟩ := b2 hb
      obtain ⟨h1, h2⟩ := b2 hc
      have hq := of_decide_eq_true ha
      subst hq
      obtain ⟨d1, d2, _⟩ := okName_d h1
      obtain ⟨n1, n2, n3⟩ := nd
      have kk : X.K = Γ.K := g.K
      have pv : PE (X.suite a ((a, oe) :: pn)) (.Name x px) (tVar j) := pe_var (X := X.suite a ((a, oe) :: pn)) (i := j) (by rw [g.N]; exact slotIs_ok h2) (isVis_ok g.nm h3) d1 d2
      refine PE.mono (pe_xf (X := X) (a := a) (C := He.ga Γ.K c) (oe := oe) (cls := cls) (d := d) (pn := pn) (n := f') (by rw [kk]; exact n2) (by rw [kk]; exact n3) hz hf pv) fun σ H Q q => ?_
      obtain ⟨I, ρ, T, own, ex, w, er, rx, nm, p⟩ := q
      obtain ⟨r, e0, p2⟩ := Post.opt (show Post Γ (RepR Γ n own) WN σ H I (Ev.opt (fldX c f' ex) T) Q from p)
      refine ⟨.ref a, nm j rfl, rfl, ?_⟩
      unfold fldX at e0
      split at e0
      · rename_i ec
        obtain ⟨d0, e1, rfl⟩ := Option.map_eq_some_iff.mp e0
        obtain ⟨r1, r2⟩ := rx
        refine ⟨by rw [r1, ec], ?_⟩
        rcases r2 with ⟨z, _⟩ | ⟨dx, us, q1, q2, q3, q4⟩
        · rw [z] at e1; simp at e1
        · rw [n1, ec] at q3
          rw [← q3] at e1
          obtain ⟨v, v1, v2⟩ := reps_lookup q4 e1
          exact ⟨dx, us, v, q1, w.gh _ _ q2, v1, p2 v H I Ext.refl w (.sh v2)⟩
      · cases e0
    · cases h
/-- a == b as a test -/
structure HT where
  ev : ExD → Env → Cs → Ev Bool
  chk : Nat → Sc → Option Nat → Expr → Bool
  need : Gam → Prop
  ok : ∀ {Γ : Gam} {k : Nat} {sc : Sc} {X : Cx} {e : Expr} {n : Nat} {i : Option Nat} {a : Addr} {oe : Obj} {cls : Value} {d : Option Addr} {pn : List (Addr × Obj)}, GoodH Γ k sc (X.suite a ((a, oe) :: pn)) → need Γ → chk k sc i e = true → Zc cls d oe → (∃ vs, oe.data = .fields vs) →
    PT (X.suite a ((a, oe) :: pn)) e (fun σ H Q => ∃ I ρ T own e, Wf Γ H I T ∧ ER Γ n σ ρ H I own ∧ RepX Γ I e cls d ∧ Nmd i σ a ∧ Post Γ relB WN σ H I (ev e ρ T) Q)
/-- repr(e) -/
theorem cr_reprG {Γ : Gam} {X : Cx} (gd : GdX Γ X.A) (un : X.A.units + 200 < cLine) : CallR X (.builtin "repr") (rShowX X.K Γ.ug) := by
  intro pins s σ H vs us Q I r h
  obtain ⟨v, rfl, hug, h⟩ := h
  obtain ⟨gs, hg, hcl⟩ := gd.clear I hug
  rcases h with ⟨p, hd, hs, q⟩ | ⟨a, ks, ps, rfl, hd, ht, hs, q⟩
  · unfold okShowX at hs
    split at hs
    case h_2 => cases hs
    rename_i m e
    obtain ⟨h1, h2⟩ := b2 hs
    have h1 := of_decide_eq_true h1
    have h2 := of_decide_eq_true h2
    obtain ⟨c1, c2, c3⟩ := shX_ok p m e
    have hsz : p.shown.length ≤ sizeLine := by rw [sizeLine_eq]; omega
    cases r with
    | cons r1 r2 =>
      cases r2
      rename_i u
      have road : ∀ a, u = .ref a → wpAny (model X.prog X.w) X.A (call (.builtin "repr") [u]) (fun u s' => ∃ v H', L2.Inv X pins σ H' s' ∧ RelV v u ∧ Q v H') X.xe s := fun a hu => by
        obtain ⟨as, rd⟩ := Dp.reads I p v u hd r1
        subst hu
        exact repr_gd rd c2 (PyData.noDict_hsm c3) hg hcl (by omega) (fun _ _ h => h) (fun h' u' tk hk => ⟨.str _, H, I.kept hk, ⟨_, rfl⟩, q⟩) hsz
      cases hd with
      | non => cases r1; simp only [PyData.shown] at q; exact PySem.P.repr_of_none ⟨.str _, H, I.tok _, ⟨_, rfl⟩, q⟩
      | bl b => cases r1; simp only [PyData.shown] at q; exact PySem.P.repr_of_bool ⟨.str _, H, I.tok _, ⟨_, rfl⟩, q⟩
      | int i => obtain ⟨t, rfl⟩ := r1; simp only [PyData.shown] at q; simp only [PyData.showable] at c2; exact PySem.P.repr_of_int (of_decide_eq_true c2) ⟨.str _, H, I.tok _, ⟨_, rfl⟩, q⟩
      | str x => obtain ⟨t, rfl⟩ := r1; simp only [PyData.shown] at q hsz; exact PySem.P.repr_of_str ⟨.str _, H, I.tok _, ⟨_, rfl⟩, q⟩ hsz
      | lst _ _ => obtain ⟨rfl⟩ := r1; exact road _ rfl
      | tup _ _ => obtain ⟨rfl⟩ := r1; exact road _ rfl
  · obtain rfl := Vals.ref1 r
    unfold okDct at hs
    obtain ⟨c2, hs⟩ := b2 hs
    obtain ⟨h1, h2⟩ := b2 hs
    have h1 := of_decide_eq_true h1
    have h2 := of_decide_eq_true h2
    have hsz : (PyData.dict ps).shown.length ≤ sizeLine := by rw [sizeLine_eq]; omega
    obtain ⟨as, rd, sm⟩ := dct_reads I hd ht
    exact repr_gd rd c2 (fun _ => sm) hg hcl (by omega) (fun _ _ h => h) (fun h' u' tk hk => ⟨.str _, H, I.kept hk, ⟨_, rfl⟩, q⟩) hsz
def tHS (Γ : Gam) (n : Nat) (a : Addr) (cls : Value) (d : Option Addr) (i : Option Nat) (ev : ExD → Env → Cs → Ev Fl) : TS := fun D σ H => ∃ I ρ T own e, Wf Γ H I T ∧ ER Γ n σ ρ H I own ∧ RepX Γ I e cls d ∧ Nmd i σ a ∧ PostS Γ n WN D (Ow own) H I (ev e ρ T)
/-- an except suite -/
structure HS where
  ev : ExD → Env → Cs → Ev Fl
  chk : Nat → Sc → Option Nat → List Stmt → Bool
  need : Gam → Prop
  ok : ∀ {Γ : Gam} {k : Nat} {sc : Sc} {X : Cx} {st : List Stmt} {n : Nat} {i : Option Nat} {a : Addr} {oe : Obj} {cls : Value} {d : Option Addr} {pn : List (Addr × Obj)}, GoodH Γ k sc (X.suite a ((a, oe) :: pn)) → need Γ → chk k sc i st = true → Zc cls d oe → (∃ vs, oe.data = .fields vs) →
    PSs (X.suite a ((a, oe) :: pn)) st (tHS Γ n a cls d i ev)
/-- the slot that is let go -/
def offS (i : Option Nat) (ρ : Env) : Env := match i with
  | some j => ρ.set j none
  | none => ρ
def offF (i : Option Nat) : Fl → Fl
  | .nx ρ => .nx (offS i ρ)
  | .rt lv => .rt lv
  | .bk ρ => .bk (offS i ρ)
  | .ct ρ => .ct (offS i ρ)
def offE (i : Option Nat) : Ev Fl → Ev Fl
  | .ok f T => .ok (offF i f) T
  | _ => .no
/-- behind the body's expression: ret: it is handed back -/
def tryFin (ret : Bool) (ρ : Env) (r : R) (T : Cs) : Ev Fl := if ret then (match retLV r with
  | some lv => .ok (.rt lv) T
  | none => .no) else .ok (.nx ρ) T
def okSlot (i : Option Nat) (ρ : Env) : Bool := match i with
  | some j => decide (j < ρ.length)
  | none => true
theorem tryB_ok {K : PySem.W.Frag} {x c : Str} {tab : List (Str × Bool)} {b : Bool} (h : tryB K x tab = true) (e : tab.lookup c = some b) : PySem.W.exmOne K (.ref (He.ga K c)) (.ref (He.ga K x)) = some b := by
  unfold tryB at h
  induction tab with
  | nil => cases e
  | cons p tab ih =>
    rw [List.all_cons] at h
    obtain ⟨h1, h2⟩ := b2 h
    rw [List.lookup_cons] at e
    split at e
    · rename_i q
      cases e
      have q : c = p.1 := by simpa using q
      rw [q]
      exact of_decide_eq_true h1
    · exact ih h2 e
theorem er_dead {Γ : Gam} {n : Nat} {σ : L2.St} {ρ : Env} {H : Hp} {I : Im} {own : Nat → List Addr} (r : ER Γ n σ ρ H I own) (j : Nat) (v : Option V) : ∃ own', ER Γ n (σ.set j v) (ρ.set j none) H I own' ∧ ∀ a, Ow own' a → Ow own a := by
  obtain ⟨own', r1, h1⟩ := r.less (ρ' := ρ.set j none) (by rw [List.length_set]) fun i lv h => by
    by_cases q : j = i
    · subst q
      by_cases hl : j < ρ.length
      · rw [List.getElem?_set_self hl] at h; cases h
      · rw [List.getElem?_eq_none (by simpa using hl)] at h; cases h
    · rw [List.getElem?_set_ne q] at h; exact h
  refine ⟨own', ⟨by rw [List.length_set, r1.len], fun i lv h => ?_, r1.dead, r1.free, r1.disj⟩, h1⟩
  by_cases q : j = i
  · subst q
    by_cases hl : j < ρ.length
    · rw [List.getElem?_set_self hl] at h; cases h
    · rw [List.getElem?_eq_none (by simpa using hl)] at h; cases h
  · obtain ⟨u, h2, h3⟩ := r1.at_ i lv h
    exact ⟨u, by rw [List.getElem?_set_ne q]; exact h2, h3⟩
theorem aft_dead {Γ : Gam} {n : Nat} {O : Addr → Prop} {H H' : Hp} {I I' : Im} {T : Cs} {σ : L2.St} {ρ : Env} {own : Nat → List Addr} (a : Aft Γ n O H I T ρ σ H' I' own) (j : Nat) (v : Option V) : ∃ own', Aft Γ n O H I T (ρ.set j none) (σ.set j v) H' I' own' := by
  obtain ⟨own', r1, h1⟩ := er_dead a.er j v
  exact ⟨own', a.ext, a.wf, r1, fun x hx => a.ow x (h1 x hx)⟩
/-- the ends of a suite behind which the slot j goes -/
abbrev offD (j : Nat) (D : Ends) : Ends := { nx := fun σ' H' => D.nx (σ'.set j none) H', rt := D.rt, bk := fun σ' H' => D.bk (σ'.set j none) H', ct := fun σ' H' => D.ct (σ'.set j none) H' }
theorem PostS.off {Γ : Gam} {n : Nat} {W : WX} {D : Ends} {O : Addr → Prop} {H : Hp} {I : Im} {res : Ev Fl} {j : Nat} (h : PostS Γ n W D O H I (offE (some j) res)) : PostS Γ n WN (offD j D) O H I res := by
  cases res with
  | no => exact h
  | ex e T => exact h.elim
  | ok f T =>
    cases f with
    | nx ρ =>
      intro σ' H' I' own' af
      obtain ⟨own2, af2⟩ := aft_dead af j none
      exact h _ _ _ _ af2
    | bk ρ =>
      intro σ' H' I' own' af
      obtain ⟨own2, af2⟩ := aft_dead af j none
      exact h _ _ _ _ af2
    | ct ρ =>
      intro σ' H' I' own' af
      obtain ⟨own2, af2⟩ := aft_dead af j none
      exact h _ _ _ _ af2
    | rt lv => exact h
theorem PostS.off0 {Γ : Gam} {n : Nat} {W : WX} {D : Ends} {O : Addr → Prop} {H : Hp} {I : Im} {res : Ev Fl} (h : PostS Γ n W D O H I (offE none res)) : PostS Γ n WN D O H I res := by
  cases res with
  | no => exact h
  | ex e T => exact h.elim
  | ok f T =>
    cases f with
    | nx ρ => exact h
    | bk ρ => exact h
    | ct ρ => exact h
    | rt lv => exact h
theorem goodTr {Γ : Gam} {k : Nat} {W W' : WX} {sc : Sc} {X : Cx} (g : Good Γ k W sc X) {pn : List (Addr × Obj)} {xe : Value → Shared → Prop} (tk : Takes (X.tr pn xe) W') (po : PassesOwn (model X.prog X.w) X.A X.env xe) : Good Γ k W' sc (X.tr pn xe) :=
  ⟨g.prog, g.w, g.K, g.mg, g.base, g.N, g.nd, g.calm, g.room, g.gd, g.nm, g.fk, g.st, tk, po, g.tr, fun h => ⟨(g.lk h).cells, (g.lk h).code⟩⟩
def notMark (sc : Sc) : Bool := match sc.st with
  | [] => true
  | y :: _ => decide (y.1 ≠ ("#" : Str))
/-- the body -/
def bodyIs (ret : Bool) (k : Nat) (sc : Sc) (a : CE) : List Stmt → Bool
  | [.Expr e _] => !ret && (notComp e && a.chk k sc e)
  | [.Return (some e) _] => ret && a.chk k sc e
  | _ => false
def tBody (Γ : Gam) (n : Nat) (ret : Bool) (ev : Env → Cs → Ev R) (W : WX) : TS := fun D σ H => tE Γ n W ev σ H (if ret then D.rt else fun _ H1 => D.nx σ H1)
theorem body_ok {Γ : Gam} {k : Nat} {W : WX} {sc : Sc} {X : Cx} {a : CE} {ret : Bool} {st : List Stmt} (g : Good Γ k W sc X) (nd : a.need Γ) (h : bodyIs ret k sc a st = true) : PSs X st (tBody Γ X.s_0.heap.objs.size ret a.ev W) := by
  unfold bodyIs at h
  split at h
  · rename_i e pos
    obtain ⟨h0, h⟩ := b2 h
    obtain ⟨h1, h2⟩ := b2 h
    have h0 : ret = false := by simpa using h0
    subst h0
    exact PSs.mono (pss_cons (ps_expr (a.ok g nd h2 fun _ => rfl) (notComp_ok h1 _ _ _)) pss_nil) fun D σ H q => q
  · rename_i e pos
    obtain ⟨h0, h2⟩ := b2 h
    subst h0
    exact PSs.mono (pss_cons (ps_ret (a.ok g nd h2 fun _ => rfl)) pss_nil) fun D σ H q => q
  · cases h
section
variable {Γ : Gam} {n : Nat} {W : WX} {σ : L2.St} {ρ : Env} {H : Hp} {I : Im} {T : Cs} {own : Nat → List Addr} {D : Ends} {ret : Bool}
/-- the body answers -/
theorem try_fin (er : ER Γ n σ ρ H I own) {r : R} {T1 : Cs} (p : PostS Γ n W D (Ow own) H I (tryFin ret ρ r T1)) {v : V} {H' : Hp} {I' : Im} (x : Ext O0 H I H' I') (w' : Wf Γ H' I' T1) (rr : RepR Γ n own H H' I' r v) : (if ret then D.rt else fun _ H1 => D.nx σ H1) v H' := by
  unfold tryFin at p
  cases ret with
  | false => exact p σ H' I' own ⟨x.mono fun _ q => q.elim, w', er.ext x, fun a h => .inl h⟩
  | true =>
    rw [if_pos rfl] at p
    split at p
    · rename_i lv e1
      obtain ⟨as, l1, f1⟩ := retLV_ok e1 rr
      exact p v H' I' as (x.mono fun _ q => q.elim) w' l1 f1
    · exact p.elim
end
end Tp
end
section
set_option Elab.async false
set_option linter.all false
set_option maxRecDepth 100000
set_option maxHeartbeats 2000000
/-! TrS: what a caught exception's attribute asks of its class. -/
namespace Tp
open PySem PySem.Spec PyProof.Rows L2
theorem xfvB_ok {K : PySem.W.Frag} {c f : Str} (h : xfvB K c f = true) : XfC K (He.ga K c) ∧ PySem.W.findIn K (.ref (He.ga K c)) f = some none := ⟨xfB_ok (b2 h).1, of_decide_eq_true (b2 h).2⟩
end Tp
end
section
set_option Elab.async false
set_option linter.all false
set_option maxRecDepth 100000
set_option maxHeartbeats 2000000
/-! TrT: a text many times. -/
namespace Tp
open PySem PySem.Spec PyProof.Rows L2

end Tp
end
section
set_option Elab.async false
set_option linter.all false
set_option maxRecDepth 100000
set_option maxHeartbeats 2000000
/-! TrU: sorted(e) of a list of cells: the cells, in another sequence. -/
namespace Tp
open PySem PySem.Spec PyProof.Rows L2
end Tp
namespace Tp
open PySem PySem.Spec PyProof.Rows L2
end Tp
end
section
set_option Elab.async false
set_option linter.all false
set_option maxRecDepth 100000
set_option maxHeartbeats 2000000
/-! TrV: list comprehensions with two generators. -/
namespace Tp
open PySem PySem.Spec PyProof.Rows L2
section
variable {Γ : Gam} {n : Nat}
end
section
variable {Γ : Gam} {n : Nat} {W : WX}
end
end Tp
end
section
set_option Elab.async false
set_option linter.all false
set_option maxRecDepth 100000
set_option maxHeartbeats 2000000
/-! TrW: a def that is never called (the end of a recursion that does not come so far). -/
namespace Tp
open PySem PySem.Spec PyProof.Rows L2
end Tp
end
section
set_option Elab.async false
set_option linter.all false
set_option maxRecDepth 100000
set_option maxHeartbeats 2000000
/-! TrX: repr of a list or a tuple in which own objects stand beside plain data. -/
namespace HN
open PySem PySem.Spec PyProof.Rows PySem.SeqAt
section
variable {M : Model} {prog : Program} {w : World} {A : Around} {E : Value → Shared → Prop} {s : Shared} {K : PySem.W.Frag} {x C f : Addr} {ox : Obj} {od : Option Obj}
/-- an own object's text, within another text -/
theorem reprUnd_K {b : Nat} {Q : Str → Shared → Prop} (hb : b ≤ sizeLine) (hu : A.units < cLine) (X : K.In s.heap) (I : PySem.W.InstAt s.heap x ox C od) (hs : PySem.W.findIn K (.ref C) "__repr__" = some (some (.ref f))) (hf : PySem.W.isFn K (.ref f) = true)
    (h : wpAny (model prog w) A (call (.ref f) [.ref x]) (fun r s' => ∃ m tk, r = .str m tk ∧ Q m s') E s) : wpAny (model prog w) A (pyReprUnder b (.ref x)) Q E s := by
  refine wpAny_pyReprUnder_ref hb ?_
  unfold pyReprObjUnder pyReprObjBy
  refine wpAny_bind (wpAny_cRoomFor hu ?_)
  refine wpAny_bind (wpAny_bind (I.type.here ((PySem.W.looks_findIn X hs).here ?_)))
  show wpAny _ _ (if (some (Value.ref f)).isNone = true then _ else _) _ _ _
  rw [if_neg (by simp)]
  have tail : wpAny (model prog w) A (call (.ref f) ([.ref x] ++ [])) (fun r s' => ∃ m tk, r = .str m tk ∧ Q m s') E s := by simpa using h
  refine wpAny_bind (m := callSpecialIfBoundBy? _ (.ref x) _) ?_
  simp only [callSpecialIfBoundBy?, bindSpecialIfBound?]
  refine wpAny_holding (wpAny_bind (wpAny_bind (wpAny_bind (I.type.here ((PySem.W.looks_findIn X hs).here ?_)))))
  have done : ∀ {r : Value} {s' : Shared}, (∃ m tk, r = .str m tk ∧ Q m s') → wpAny (model prog w) A (match (some r : Option Value) with
      | some r => do
        let b ← isInstance r (.type "str")
        if b = true then pure r else raiseError "TypeError" s!"__repr__ returned non-string (type {← typeNameOf r})"
      | none => unsupported "repr:special-get-raises") (fun v s' => ∃ x u, v = .str x u ∧ Q x s') E s' := by
    rintro r s' ⟨m, tk, rfl, hq⟩
    refine wpAny_bind (wpAny_isInstance (typeIs_str _ _ _) isSubtype_str_str ?_)
    first
      | exact wpAny_pure ⟨_, _, rfl, hq⟩
      | (rw [if_pos rfl]; exact wpAny_pure ⟨_, _, rfl, hq⟩)
      | (simp only [if_true]; exact wpAny_pure ⟨_, _, rfl, hq⟩)
  refine wpAny_bind (wpAny_askSetting (wpAny_ite ?_))
  split
  · refine wpAny_bind ((PySem.W.bind_fn X _ (beq_iff_eq.mp hf)).here (wpAny_pure ?_))
    exact wpAny_bind (wpAny_mono tail (fun r s' hr => wpAny_pure (done hr)) fun _ _ z => z)
  · refine wpAny_tryCatch (wpAny_bind ((PySem.W.bind_fn X _ (beq_iff_eq.mp hf)).here (wpAny_pure ?_)))
    exact wpAny_bind (wpAny_mono tail (fun r s' hr => wpAny_pure (done hr)) fun _ _ z => z)
end
end HN
namespace Tp
open PySem PySem.Spec PyProof.Rows L2
/-- the code within the text of the list or tuple at a -/
structure UndA (A A' : Around) (a : Addr) : Prop where
  handled : A'.handled = A.handled
  frames : A'.frames = A.frames
  depth : A'.depth ≤ A.depth + 1
  units : A'.units = A.units + 1
  guards : ∀ g, A.guards = some g → ∃ id rest kw, A'.guards = some (.builtin id ⟨.ref a :: rest, kw⟩ :: g)
theorem undL (A : Around) (a : Addr) (rest : List Value) : UndA A (A.under (.builtin "list.__repr__.loop" ⟨.ref a :: rest, []⟩)) a := by
  have hw : (Code.builtin "list.__repr__.loop" ⟨.ref a :: rest, []⟩).isGuard = true := isGuard_list_loop _
  refine ⟨rfl, ?_, ?_, units_under_list_loop _ _, fun g hg => ⟨_, _, _, guards_under_guard hw hg⟩⟩
  · simp [Around.under, Code.envs, Code.isFrame, pushEnvs]
  · show A.depth + Code.weight _ ≤ _
    simp [Code.weight, Code.frames, Code.isCreation, Code.isCaller, Code.isFrame, hw]
theorem undT (A : Around) (a : Addr) : UndA A (A.under (.builtin "tuple.__repr__" ⟨[.ref a], []⟩)) a := by
  have hw : (Code.builtin "tuple.__repr__" ⟨[.ref a], []⟩).isGuard = true := isGuard_tuple_repr _
  refine ⟨rfl, ?_, ?_, units_under_tuple_repr _ _, fun g hg => ⟨_, _, _, guards_under_guard hw hg⟩⟩
  · simp [Around.under, Code.envs, Code.isFrame, pushEnvs]
  · show A.depth + Code.weight _ ≤ _
    simp [Code.weight, Code.frames, Code.isCreation, Code.isCaller, Code.isFrame, hw]
section
variable {X : Cx} {pins : List (Addr × Obj)} {σ : L2.St} {A : Around} {a P : Addr} {vs : List V} {ts : List Str} {base : Nat} {W : Nat → Hp → Prop} {R : Result → Shared → Prop}
/-- what stands at a -/
def SeqAt (T : String) (a : Addr) (vs : List V) (s : Shared) : Prop := ∃ o its n, s.heap.get? a = some o ∧ o.cls = .type T ∧ o.data = .seq its n ∧ Vals vs its.toList
/-- one element's text -/
def ElOk (X : Cx) (σ : L2.St) (A' : Around) (W W' : Hp → Prop) (v : V) (t : Str) : Prop := ∀ (u : Value) (b : Nat) (s : Shared) (H : Hp) (pins : List (Addr × Obj)) (E : Value → Shared → Prop), RelV v u → Inv X pins σ H s → W H → b + t.length ≤ sizeLine →
  wpAny (model X.prog X.w) A' (pyReprUnder b u) (fun t' s' => t' = t ∧ ∃ H', Inv X pins σ H' s' ∧ W' H') E s
theorem strs_snoc (done : List (Str × Tok)) (t : Str) (k : Tok) : strValues (done ++ [(t, k)]) = strValues done ++ [.str t k] := by simp [strValues]
theorem nest_loop (hne : a ≠ P) (hlen : ts.length = vs.length) (hsz : base + (listText ts).length ≤ sizeLine) (ha : ∀ i s H pins, Inv X pins σ H s → W i H → SeqAt "list" a vs s)
    (el : ∀ i v t rest, vs[i]? = some v → ts[i]? = some t → ElOk X σ (A.under (.builtin "list.__repr__.loop" ⟨.ref a :: rest, []⟩)) (W i) (W (i + 1)) v t)
    (fin : ∀ s H u, Inv X pins σ H s → W vs.length H → R (.ok (.ret (.str (listText ts) u))) s) :
    ∀ (k i : Nat) (s : Shared) (H : Hp) (acc : Array Value) (c : Nat) (done : List (Str × Tok)), vs.length - i = k → i ≤ vs.length → Inv X pins σ H s → FpOk X pins H P → W i H →
      s.heap.get? P = some { cls := .type "list", dict := none, data := .seq acc c, slots := #[] } → acc.toList = strValues done → done.map (·.1) = ts.take i →
      codeAny (model X.prog X.w) A (.builtin "list.__repr__.loop" ⟨[.ref a, rawInt i, .ref P, rawInt ((base + piled (ts.take i) : Nat) : Int)], []⟩) R s := by
  have len0 := textFrom_len ts 0 "["
  have lenT : (listText ts).length = (textFrom 0 "[" ts).length + 1 := by
    show (textFrom 0 "[" ts ++ "]").length = _
    rw [Str.length_append]; rfl
  have up : piled ts ≤ (listText ts).length := piled_le_listText ts
  have small : ts.length ≤ sizeLine := by
    have h1 := len0.1
    rw [if_neg (Nat.lt_irrefl 0)] at h1
    omega
  have each : ∀ t, t ∈ ts → t.length ≤ sizeLine := fun t ht => by have h2 := len0.2.1 t ht; omega
  intro k
  induction k with
  | zero =>
    intro i s H acc c done hk hi Iv hP hW hp ht hd
    have ei : i = vs.length := by omega
    obtain ⟨o, its, n, h1, _, h3, h4⟩ := ha i s H pins Iv hW
    refine codeAny_builtin F.entry_list_repr_loop ?_
    show wpAny _ _ (Builtin.«list.__repr__.loop» ⟨[.ref a, .int i 0, .ref P, .int ((base + piled (ts.take i) : Nat) : Int) 0], []⟩) _ _ s
    rw [repr_loop_tree]
    refine wpAny_bind (wpAny_listItems h1 h3 ?_)
    have e0 : its[(i : Int).toNat]? = none := by
      have := h4.length
      simp at this
      simp [ei]; omega
    simp only [e0]
    unfold reprEnd
    refine wpAny_bind (wpAny_listItems hp rfl ?_)
    have whole : done.map (·.1) = ts := by rw [hd, ei, ← hlen, List.take_length]
    rw [ht, repr_fold]
    refine wpAny_bind (wpAny_pure ?_)
    rw [whole]
    refine wpAny_bind (wpAny_mkStr (wpAny_pure ?_) (by show (listText ts).length ≤ _; omega))
    subst ei
    exact fin _ H _ (Iv.tok _) hW
  | succ k ih =>
    intro i s H acc c done hk hi Iv hP hW hp ht hd
    have li : i < vs.length := by omega
    have e1 : vs[i]? = some vs[i] := by simp [li]
    have e2 : ts[i]? = some ts[i] := by simp [hlen, li]
    obtain ⟨o, its, n, h1, _, h3, h4⟩ := ha i s H pins Iv hW
    obtain ⟨u, h5, h6⟩ := h4.get e1
    have p1 := piled_take_succ e2
    have p2 := piled_take_le ts (i + 1)
    refine codeAny_builtin F.entry_list_repr_loop ?_
    show wpAny _ _ (Builtin.«list.__repr__.loop» ⟨[.ref a, .int i 0, .ref P, .int ((base + piled (ts.take i) : Nat) : Int) 0], []⟩) _ _ s
    rw [repr_loop_tree]
    refine wpAny_bind (wpAny_listItems h1 h3 ?_)
    have e0 : its[(i : Int).toNat]? = some u := by rw [Int.toNat_natCast, ← h5]; simp
    simp only [e0]
    rw [Int.toNat_natCast]
    have hb : ∀ b, b ∈ [P] → FpOk X pins H b := fun b hb => by rw [List.mem_singleton] at hb; rw [hb]; exact hP
    have I1 := Iv.pinned hb (fun b hb => by rw [List.mem_singleton] at hb; rw [hb]; exact ⟨_, hp, fun v z => by cases z⟩)
    refine wpAny_bind (wpAny_holding (wpAny_mono (el i _ _ _ e1 e2 u (base + piled (ts.take i) + 1) s H _ _ h6 I1 hW (by omega)) (fun t' s1 hq => ?_) fun _ _ z => z))
    obtain ⟨rfl, H1, I2, W1⟩ := hq
    obtain ⟨k1, k2, _⟩ := I2.pin (P, _) (List.mem_append_right _ (List.mem_append_right _ (mem_pinsAt (List.mem_singleton.mpr rfl) hp)))
    have k1 : s1.heap.get? P = some { cls := .type "list", dict := none, data := .seq acc c, slots := #[] } := k1
    have P1 : FpOk X pins H1 P := ⟨k2, hP.2⟩
    have I3 : Inv X pins σ H1 s1 := I2.unpinned
    refine wpAny_bind (wpAny_mkStr ?_ (each _ (List.mem_of_getElem? e2)))
    refine wpAny_bind ?_
    show wpAny _ _ (updateSeq P _) _ _ _
    have hacc : acc.size ≤ sizeLine := by
      have e5 : acc.toList.length = acc.size := by simp
      have e6 : done.length = (ts.take i).length := by rw [← hd, List.length_map]
      have e7 : (ts.take i).length ≤ ts.length := by rw [List.length_take]; omega
      have e8 : (strValues done).length = done.length := by simp [strValues]
      rw [ht] at e5; omega
    refine wpAny_updateSeq k1 rfl (wpAny_pure ⟨F.quiet_list_repr_loop _, ?_⟩) hacc
    have e3 : ((i : Int) + 1) = ((i + 1 : Nat) : Int) := by omega
    have e4 : base + piled (ts.take i) + (ts[i].length + 2) = base + piled (ts.take (i + 1)) := by omega
    rw [e3, e4]
    have I4 := I3.turned (t' := s1.toks + 1) (it := P) (h' := s1.heap.update P (Obj.mapSeq fun x => x.push (.str ts[i] s1.toks))) (fun b o hb e => (Heap.get?_update_other _ _ (fun z => hb z.symm)).trans e) P1.1 P1.2.1 P1.2.2.2.1 P1.2.2.2.2.1 P1.2.2.2.2.2
    refine ih (i + 1) _ H1 (acc.push (.str ts[i] s1.toks)) _ (done ++ [(ts[i], s1.toks)]) (by omega) li I4 P1 W1 (Heap.get?_update_self _ k1 rfl) (by rw [strs_snoc, ← ht]; simp) (by rw [List.map_append, hd, List.take_add_one, e2]; rfl)
/-- repr of a list -/
theorem nest_list {s : Shared} {H : Hp} {gs : List Code} {E : Value → Shared → Prop} {Q : Value → Shared → Prop} (hg : A.guards = some gs) (hc : Clear gs a) (hu : A.units + 10 < cLine) (hlen : ts.length = vs.length) (hne : vs ≠ []) (hsz : (listText ts).length ≤ sizeLine)
    (ha : ∀ i s H pins, Inv X pins σ H s → W i H → SeqAt "list" a vs s)
    (el : ∀ i v t rest, vs[i]? = some v → ts[i]? = some t → ElOk X σ (A.in1.under (.builtin "list.__repr__.loop" ⟨.ref a :: rest, []⟩)) (W i) (W (i + 1)) v t)
    (Iv : Inv X pins σ H s) (W0 : W 0 H) (fin : ∀ s H u, Inv X pins σ H s → W vs.length H → Q (.str (listText ts) u) s) : wpAny (model X.prog X.w) A (call (.builtin "repr") [.ref a]) Q E s := by
  obtain ⟨o, its, n, h1, h2, h3, h4⟩ := ha 0 s H pins Iv W0
  obtain ⟨l⟩ := its
  cases l with
  | nil =>
    have := h4.length
    exact absurd (List.eq_nil_of_length_eq_zero (by simpa using this)) hne
  | cons y l =>
    refine call_repr_slot (T := "list") (idr := "list.__repr__") (by omega) ⟨o, h1, h2⟩ F.slot_list_repr.toG ?_
    refine wpAny_call (codeAny_call_builtin F.slot_list_repr.plain F.entry_list_repr (F.slot_list_repr.check _ _ _ _ _ _ _ _ ⟨o, h1, h2⟩ (F.args_list_repr_1 _) ?_))
    refine wpAny_list_repr_head (A := A.in1.in1) hg (fun v rest kw hm => listSameRef_of_ne (hc _ _ _ _ hm)) h1 h3 ?_
    refine wpAny_bind (m := newList []) (wpAny_newObj_type ?_)
    refine wpAny_pure ⟨F.quiet_list_repr_loop _, ?_⟩
    have lt : a < s.heap.objs.size := Heap.lt_size h1
    have hn : H s.heap.objs.size = none := Iv.hok.fresh (Nat.le_refl _)
    have I1 : Inv X pins σ H { s with heap := s.heap.push { cls := .type "list", data := .seq #[] } } := Iv.kept (t' := s.toks) fun b o e => Heap.get?_push_of_some _ e
    have start := nest_loop (X := X) (pins := pins) (σ := σ) (A := A.in1) (a := a) (P := s.heap.objs.size) (vs := vs) (ts := ts) (base := 0) (W := W) (R := callEnd (fun r s₁ => ∃ x t, r = .str x t ∧ Q r s₁) E) (Nat.ne_of_lt lt) hlen (by omega) ha el (fun s H u J w => ⟨_, _, rfl, fin s H u J w⟩)
      _ 0 _ H #[] _ [] rfl (Nat.zero_le _) I1 (Iv.fpOk (Nat.le_refl _) hn) W0 (Heap.get?_push_size _ rfl) rfl (by simp)
    exact start
theorem nest_fold {B : Around} {E : Value → Shared → Prop} (el : ∀ i v t, vs[i]? = some v → ts[i]? = some t → ElOk X σ B (W i) (W (i + 1)) v t) : ∀ (l : List Value) (rest : List V) (us : List Str) (i : Nat) (acc : Array Str) (n : Nat) (s : Shared) (H : Hp) (Q : (Array Str × Nat) → Shared → Prop),
    Vals rest l → vs.drop i = rest → ts.drop i = us → us.length = rest.length → n + piled us ≤ sizeLine → Inv X pins σ H s → W i H → (∀ s H, Inv X pins σ H s → W (i + rest.length) H → Q ⟨acc ++ us.toArray, n + piled us⟩ s) → wpAny (model X.prog X.w) B (forIn l (⟨acc, n⟩ : (Array Str × Nat)) tupBody) Q E s := by
  intro l
  induction l with
  | nil =>
    intro rest us i acc n s H Q r e1 e2 hl hn Iv hW h
    cases r
    have : us = [] := List.eq_nil_of_length_eq_zero hl
    subst this
    simp only [List.forIn_nil]
    have z := h s H Iv hW
    exact wpAny_pure (by simpa [piled] using z)
  | cons x l ih =>
    intro rest us i acc n s H Q r e1 e2 hl hn Iv hW h
    cases r with
    | cons r1 r2 =>
      rename_i v rest
      cases us with
      | nil => cases hl
      | cons t us =>
        have f1 : vs[i]? = some v := by
          have := congrArg (·[0]?) e1
          simpa using this
        have f2 : ts[i]? = some t := by
          have := congrArg (·[0]?) e2
          simpa using this
        rw [piled_cons] at hn
        rw [List.forIn_cons]
        refine wpAny_bind (wpAny_bind (wpAny_mono (el i v t f1 f2 x (n + 1) s H pins _ r1 Iv hW (by omega)) (fun t' s1 hq => wpAny_pure ?_) fun _ _ z => z))
        obtain ⟨rfl, H1, I1, W1⟩ := hq
        refine ih rest us (i + 1) (acc.push t') (n + (t'.length + 2)) s1 H1 Q r2 ?_ ?_ (by simpa using hl) (by omega) I1 W1 fun s2 H2 I2 W2 => ?_
        · rw [← List.drop_drop, e1]; rfl
        · rw [← List.drop_drop, e2]; rfl
        · have z := h s2 H2 I2 (by rw [List.length_cons]; rw [show i + (rest.length + 1) = i + 1 + rest.length by omega]; exact W2)
          have e : n + piled (t' :: us) = n + (t'.length + 2) + piled us := by rw [piled_cons]; omega
          rw [e] at z
          simpa using z
/-- repr of a tuple -/
theorem nest_tup {s : Shared} {H : Hp} {gs : List Code} {E : Value → Shared → Prop} {Q : Value → Shared → Prop} (hg : A.guards = some gs) (hc : Clear gs a) (hu : A.units + 10 < cLine) (hlen : ts.length = vs.length) (hsz : (tupleText ts).length ≤ sizeLine)
    (ha : ∀ i s H pins, Inv X pins σ H s → W i H → SeqAt "tuple" a vs s)
    (el : ∀ i v t, vs[i]? = some v → ts[i]? = some t → ElOk X σ (A.in1.under (.builtin "tuple.__repr__" ⟨[.ref a], []⟩)) (W i) (W (i + 1)) v t)
    (Iv : Inv X pins σ H s) (W0 : W 0 H) (fin : ∀ s H u, Inv X pins σ H s → W vs.length H → Q (.str (tupleText ts) u) s) : wpAny (model X.prog X.w) A (call (.builtin "repr") [.ref a]) Q E s := by
  obtain ⟨o, its, n, h1, h2, h3, h4⟩ := ha 0 s H pins Iv W0
  have up := piled_le_tupleText ts
  have hl : ts.length = its.size := by have := h4.length; simp at this; omega
  refine call_repr_slot (T := "tuple") (idr := "tuple.__repr__") (by omega) ⟨o, h1, h2⟩ F.slot_tuple_repr ?_
  refine wpAny_call (codeAny_call_builtin_own (Code.quiet_builtin _ (by decide +kernel)) F.entry_tuple_repr (F.slot_tuple_repr.check _ _ _ _ _ _ _ _ ⟨o, h1, h2⟩ (F.args_tuple_repr_1 _) ?_))
  show wpOwn _ A.in1 (.builtin "tuple.__repr__" ⟨[.ref a], []⟩) (Builtin.tupleReprAt 0 ⟨[.ref a], []⟩) _ _ s
  rw [tuple_repr_tree, tupleReprUnderWay_eq]
  refine wpOwn_bind (wpOwn_stackTailAny (g := gs) hg (tupGuardF_off _) (tupGuardF_pos _) ?_)
  have no : (gs.any fun c => tupGuardF (.ref a) (c, default)) = false := List.any_eq_false.mpr fun c hm => by rw [tupGuardF_of_clear hc c hm]; simp
  rw [no]
  refine wpOwn_of_wpAny ?_
  show wpAny _ _ (tupleReprRest 0 (.ref a)) _ _ s
  unfold tupleReprRest Builtin.Tuple.tupleItemsOf
  refine wpAny_bind (wpAny_bind (wpAny_seqItems h1 h3 (wpAny_pure ?_)))
  rw [← Array.forIn_toList]
  refine wpAny_bind (nest_fold el _ vs ts 0 _ 0 s H _ h4 rfl rfl hlen (by omega) Iv W0 fun s1 H1 I1 W1 => ?_)
  refine wpAny_bind (wpAny_mkStr (wpAny_pure ?_) (by simpa [tupleText, hl] using hsz))
  have z := fin _ H1 s1.toks (I1.tok (s1.toks + 1)) (by simpa using W1)
  exact ⟨_, _, rfl, by simpa [tupleText, hl] using z⟩
end
end Tp
end
section
set_option Elab.async false
set_option linter.all false
set_option maxRecDepth 100000
set_option maxHeartbeats 2000000
/-! TrY: repr(e), e a list or a tuple in which own objects stand: the piece. -/
namespace Tp
open PySem PySem.Spec PyProof.Rows L2
/-- with these texts under way -/
abbrev Gam.und (Γ : Gam) (L : List Addr) : Gam := { Γ with ug := L }
section
variable {Γ : Gam} {L L' : List Addr} {I : Im}
mutual
theorem Rep.und : ∀ {d : D} {v : V}, Rep (Γ.und L) I d v → Rep (Γ.und L') I d v
  | .non, _, h => h
  | .bl _, _, h => h
  | .int _, _, h => h
  | .str _, _, h => h
  | .lst _, _, h => by
    simp only [Rep] at h ⊢
    obtain ⟨a, vs, h1, h2, h3⟩ := h
    exact ⟨a, vs, h1, h2, Reps.und h3⟩
  | .fz _, _, h => by
    simp only [Rep] at h ⊢
    obtain ⟨a, vs, h1, h2, h3⟩ := h
    exact ⟨a, vs, h1, h2, Reps.und h3⟩
  | .tup _, _, h => by
    simp only [Rep] at h ⊢
    obtain ⟨a, vs, h1, h2, h3⟩ := h
    exact ⟨a, vs, h1, h2, Reps.und h3⟩
  | .dct _, _, h => by
    simp only [Rep] at h ⊢
    obtain ⟨a, o, vs, h1, h2, h3⟩ := h
    exact ⟨a, o, vs, h1, h2, RepK.und h3⟩
  | .obj _ _, _, h => by
    simp only [Rep] at h ⊢
    obtain ⟨a, dx, vs, h1, h2, h3, h4⟩ := h
    exact ⟨a, dx, vs, h1, h2, h3, Reps.und h4⟩
  | .cell _, _, h => by
    simp only [Rep] at h ⊢
    exact h
  | .lam _ _, _, h => by
    simp only [Rep] at h ⊢
    obtain ⟨L, p, b, sc, clo, vs, h1, h0, h2, h3, h4⟩ := h
    exact ⟨L, p, b, sc, clo, vs, h1, h0, h2, h3, Reps.und h4⟩
theorem Reps.und : ∀ {ds : List D} {vs : List V}, Reps (Γ.und L) I ds vs → Reps (Γ.und L') I ds vs
  | [], _, h => h
  | _ :: _, _, h => by
    simp only [Reps] at h ⊢
    obtain ⟨v, r, h1, h2, h3⟩ := h
    exact ⟨v, r, h1, Rep.und h2, Reps.und h3⟩
theorem RepK.und : ∀ {ds : List (Key × D)} {vs : List (Key × V)}, RepK (Γ.und L) I ds vs → RepK (Γ.und L') I ds vs
  | [], _, h => h
  | _ :: _, _, h => by
    simp only [RepK] at h ⊢
    obtain ⟨v, r, h1, h2, h3⟩ := h
    exact ⟨v, r, h1, Rep.und h2, RepK.und h3⟩
end
theorem Wf.und {H : Hp} {T : Cs} (w : Wf (Γ.und L) H I T) (h : ∀ b, b ∈ L' → NoRead Γ.K I.G b) : Wf (Γ.und L') H I T :=
  ⟨w.gh, w.nd, w.kg, w.len, fun n a ds e1 e2 => let ⟨vs, h1, h2⟩ := w.cells n a ds e1 e2; ⟨vs, h1, h2.und⟩, h, w.tb, w.lc, w.tg⟩
end
structure ORow where
  c : Nat
  s : DefSig
  ev : FEv
  b : BindOk s 1 [] (srcAll 1)
def elEv (tab : List ORow) (d : D) (T : Cs) : Ev Str := match d with
  | .obj c xs => (match tab.find? fun r => r.c == c with
    | some r => (match r.ev [.obj c xs] T with
      | .ok (.sh (.str m)) T' => .ok m T'
      | _ => .no)
    | none => .no)
  | d => (match rPy (.v (.sh d)) with
    | some p => if okShowX p then .ok p.shown T else .no
    | none => .no)
def elsEv (tab : List ORow) : List D → Cs → Ev (List Str)
  | [], T => .ok [] T
  | d :: ds, T => (elEv tab d T).bind fun t T1 => (elsEv tab ds T1).bind fun ts T2 => .ok (t :: ts) T2
def isObj : D → Bool
  | .obj _ _ => true
  | _ => false
theorem els_steps {tab : List ORow} : ∀ {ds : List D} {T T' : Cs} {ts : List Str}, elsEv tab ds T = .ok ts T' → ∃ Tf : Nat → Cs, Tf 0 = T ∧ Tf ds.length = T' ∧ ts.length = ds.length ∧ ∀ i d t, ds[i]? = some d → ts[i]? = some t → elEv tab d (Tf i) = .ok t (Tf (i + 1))
  | [], T, T', ts, h => by
    cases h
    exact ⟨fun _ => T, rfl, rfl, rfl, fun i d t e => by simp at e⟩
  | d :: ds, T, T', ts, h => by
    unfold elsEv at h
    cases e : elEv tab d T with
    | no => rw [e] at h; cases h
    | ex x T1 => rw [e] at h; cases h
    | ok t T1 =>
      rw [e] at h
      have h : (elsEv tab ds T1).bind (fun ts T2 => Ev.ok (t :: ts) T2) = .ok ts T' := h
      cases e2 : elsEv tab ds T1 with
      | no => rw [e2] at h; cases h
      | ex x T2 => rw [e2] at h; cases h
      | ok us T2 =>
        rw [e2] at h
        cases h
        obtain ⟨Tf, h1, h2, h3, h4⟩ := els_steps e2
        refine ⟨fun i => match i with
          | 0 => T
          | i + 1 => Tf i, rfl, h2, by simp [h3], fun i d' t' q1 q2 => ?_⟩
        cases i with
        | zero =>
          simp at q1 q2
          subst q1; subst q2
          show elEv tab d T = .ok t (Tf 0)
          rw [h1]; exact e
        | succ i => exact h4 i d' t' (by simpa using q1) (by simpa using q2)
section
variable {Γ : Gam} {k : Nat} {W : WX} {sc : Sc} {X : Cx} {σ : L2.St} {a : Addr} {A' : Around}
/-- behind some elements -/
def Beh (Γ : Gam) (a : Addr) (H0 : Hp) (I0 : Im) (T : Cs) (H : Hp) : Prop := ∃ I', Ext O0 H0 I0 H I' ∧ Wf (Γ.und [a]) H I' T
/-- the class's text, called within the text of a -/
def RunR (Γ : Gam) (X : Cx) (σ : L2.St) (A' : Around) (a : Addr) (c : Nat) (ev : FEv) : Prop := ∃ f, PySem.W.findIn X.K (.ref (cAd Γ c)) "__repr__" = some (some (.ref f)) ∧ PySem.W.isFn X.K (.ref f) = true ∧
  ∀ (pins : List (Addr × Obj)) (s : Shared) (H : Hp) (I : Im) (T T' : Cs) (xs : List D) (m : Str) (p : Addr) (E : Value → Shared → Prop), Inv X pins σ H s → Wf (Γ.und [a]) H I T → Rep Γ I (.obj c xs) (.ref p) → ev [.obj c xs] T = .ok (.sh (.str m)) T' →
    wpAny (model X.prog X.w) A' (call (.ref f) [.ref p]) (fun r s' => ∃ tk H' I', r = .str m tk ∧ Inv X pins σ H' s' ∧ Ext O0 H I H' I' ∧ Wf (Γ.und [a]) H' I' T') E s
theorem el_own (K : X.K = Γ.K) {c : Nat} {ev : FEv} (CF : ClsFull Γ c) (hu : A'.units < cLine) (F : RunR Γ X σ A' a c ev) {H0 : Hp} {I0 : Im} {T T' : Cs} {xs : List D} {v : V} {t : Str} (rv : Rep Γ I0 (.obj c xs) v) (e : ev [.obj c xs] T = .ok (.sh (.str t)) T') :
    ElOk X σ A' (Beh Γ a H0 I0 T) (Beh Γ a H0 I0 T') v t := by
  intro u b s H pins E r Iv ⟨I', x, w⟩ hb
  have r1 := rv.mono x.le
  have r1' := r1
  simp only [Rep] at r1'
  obtain ⟨p, dx, us, rfl, h4, _, _⟩ := r1'
  rw [CF.cd] at h4
  obtain rfl : u = Value.ref p := r
  obtain ⟨mA, J, _⟩ := ins_get Iv.hok (w.gh _ _ h4)
  obtain ⟨od, J, _⟩ := J.look
  obtain ⟨f, hs, hf, run⟩ := F
  refine HN.reprUnd_K (by omega) hu Iv.kIn J hs hf ?_
  refine wpAny_mono (run pins s H I' T T' xs t p E Iv w r1 e) (fun r s' hq => ?_) fun _ _ z => z
  obtain ⟨tk, H', I2, rfl, J2, x2, w2⟩ := hq
  exact ⟨t, tk, rfl, rfl, H', J2, I2, x.tr0 x2, w2⟩
theorem el_py (K : X.K = Γ.K) (gs : List Code) (hg : A'.guards = some gs) (hin : ∀ id v rest kw, Code.builtin id ⟨v :: rest, kw⟩ ∈ gs → ∀ b, v = .ref b → b = a) (hu : A'.units + 100 < cLine) {H0 : Hp} {I0 : Im} {T : Cs} {d : D} {v : V} {p : PyData}
    (rv : Rep Γ I0 d v) (e : rPy (.v (.sh d)) = some p) (ok : okShowX p = true) : ElOk X σ A' (Beh Γ a H0 I0 T) (Beh Γ a H0 I0 T) v p.shown := by
  intro u b s H pins E r Iv ⟨I', x, w⟩ hb
  have r1 := rv.mono x.le
  have hd : Dp X.K H v p := by rw [K]; exact toPy_ok w.gh r1 e
  unfold okShowX at ok
  split at ok
  case h_2 => cases ok
  rename_i m e1
  obtain ⟨h1, h2⟩ := b2 ok
  have h1 := of_decide_eq_true h1
  have h2 := of_decide_eq_true h2
  obtain ⟨c1, c2, c3⟩ := shX_ok p m e1
  obtain ⟨as, rd⟩ := Dp.reads Iv p v u hd r
  obtain ⟨bs, hb2, hk⟩ := ReprK.of_reads (prog := X.prog) (w := X.w) rd c2 (PyData.noDict_hsm c3) (by omega)
  refine hk b hb A' gs E s _ hg (fun c hc id v' rest kw hm z => ?_) (by omega) (fun _ _ z => z) fun h' tk hkp => ⟨rfl, H, Iv.kept hkp, I', x, w⟩
  obtain ⟨d', as', r', _⟩ := hb2 c hc
  have ec := hin id v' rest kw hm c z
  subst ec
  have nr : NoRead X.K H c := by rw [K]; exact (w.ug c (List.mem_singleton.mpr rfl)).mono w.gh
  exact nr.no Iv d' as' r'
end
theorem isObj_read {Γ : Gam} {I : Im} : ∀ {ds : List D} {vs : List V}, Reps Γ I ds vs → ds.any isObj = true → ∃ x C dx us, V.ref x ∈ vs ∧ I.G x = some (.ins C dx us)
  | [], _, _, h => by simp at h
  | d :: ds, _, r, h => by
    simp only [Reps] at r
    obtain ⟨v, vs, rfl, r1, r2⟩ := r
    rw [List.any_cons] at h
    rcases Bool.or_eq_true_iff.mp h with h | h
    · cases d with
      | obj c xs =>
        simp only [Rep] at r1
        obtain ⟨x, dx, us, rfl, h4, _⟩ := r1
        exact ⟨x, _, dx, us, List.mem_cons_self, h4⟩
      | _ => cases h
    · obtain ⟨x, C, dx, us, h1, h2⟩ := isObj_read r2 h
      exact ⟨x, C, dx, us, List.mem_cons_of_mem _ h1, h2⟩
section
variable {Γ : Gam} {tab : List ORow} {X : Cx} {pins : List (Addr × Obj)} {σ : L2.St} {s : Shared} {H : Hp} {Q : VK}
theorem el_all (K : X.K = Γ.K) (cls : ∀ r, r ∈ tab → ClsFull Γ r.c) {A' : Around} {a : Addr} (hA : UndA X.A.in1 A' a) (u0 : Γ.ug = []) (gd : GdX Γ X.A) (hu : X.A.units + 200 < cLine) (run : ∀ r, r ∈ tab → RunR Γ X σ A' a r.c r.ev) {I0 : Im} {d : D} {v : V} {T T' : Cs} {t : Str}
    (rv : Rep Γ I0 d v) (e : elEv tab d T = .ok t T') : ElOk X σ A' (Beh Γ a H I0 T) (Beh Γ a H I0 T') v t := by
  have u1 := hA.units
  have u2 : X.A.in1.units = X.A.units + 1 := rfl
  obtain ⟨gs, hg, hin⟩ := gd
  obtain ⟨id, rest, kw, hg'⟩ := hA.guards gs hg
  have py : ∀ p, rPy (.v (.sh d)) = some p → okShowX p = true → t = p.shown → T' = T → ElOk X σ A' (Beh Γ a H I0 T) (Beh Γ a H I0 T') v t := fun p e1 ok e2 e3 => by
    subst e2; subst e3
    refine el_py K _ hg' (fun id' v' rest' kw' hm b hv => ?_) (by omega) rv e1 ok
    rcases List.mem_cons.mp hm with z | hm
    · cases z; cases hv; rfl
    · have := hin id' v' rest' kw' hm b hv
      rw [u0] at this; cases this
  unfold elEv at e
  split at e
  · rename_i c xs
    split at e
    · rename_i r hr
      have hm := List.mem_of_find?_eq_some hr
      have hc : r.c = c := by simpa using List.find?_some hr
      subst hc
      split at e
      · rename_i m T1 ee
        cases e
        exact el_own K (cls r hm) (by omega) (run r hm) rv ee
      · cases e
    · cases e
  · split at e
    · rename_i p e1
      split at e
      · rename_i ok
        cases e
        exact py p e1 ok rfl rfl
      · cases e
    · cases e
theorem seq_l {a : Addr} {vs : List V} (Iv : Inv X pins σ H s) (h : SqL X.K H a vs) : SeqAt "list" a vs s := by
  obtain ⟨its, rv, ⟨o, n, ho, hc, _, hd⟩, _⟩ := Iv.list h
  exact ⟨o, _, n, ho, hc, hd, by simpa using rv⟩
theorem seq_t {a : Addr} {vs : List V} (Iv : Inv X pins σ H s) (h : SqT X.K H a vs) : SeqAt "tuple" a vs s := by
  obtain ⟨its, rv, ⟨o, ho, hc, n, hd⟩, _⟩ := Iv.tuple h
  exact ⟨o, _, n, ho, hc, hd, by simpa using rv⟩
theorem nest_run (K : X.K = Γ.K) (u0 : Γ.ug = []) (gd : GdX Γ X.A) (hu : X.A.units + 200 < cLine) (cls : ∀ r, r ∈ tab → ClsFull Γ r.c) (run : ∀ r, r ∈ tab → ∀ (A' : Around) (a : Addr), UndA X.A.in1 A' a → RunR Γ X σ A' a r.c r.ev)
    (Iv : Inv X pins σ H s) {I : Im} {T T' : Cs} {a : Addr} {ds : List D} {vs : List V} {ts : List Str} (w : Wf Γ H I T) (rv : Reps Γ I ds vs) (ho : ds.any isObj = true) (e : elsEv tab ds T = .ok ts T')
    (h : (SqL Γ.K I.G a vs ∧ (listText ts).length ≤ sizeLine ∧ ∀ H' I', Ext O0 H I H' I' → Wf Γ H' I' T' → Q (.str (listText ts)) H') ∨ (SqT Γ.K I.G a vs ∧ (tupleText ts).length ≤ sizeLine ∧ ∀ H' I', Ext O0 H I H' I' → Wf Γ H' I' T' → Q (.str (tupleText ts)) H')) :
    wpAny (model X.prog X.w) X.A (call (.builtin "repr") [.ref a]) (EP X pins σ Q) X.xe s := by
  obtain ⟨Tf, f1, f2, f3, f4⟩ := els_steps e
  obtain ⟨x, C, dx, us, o1, o2⟩ := isObj_read rv ho
  obtain ⟨gs, hg, hin⟩ := id gd
  have clr : Clear gs a := fun id v rest kw hm z => by
    have := hin id v rest kw hm a z
    rw [u0] at this; cases this
  have hl : vs.length = ds.length := rv.length
  have el : ∀ (A' : Around) (i : Nat) (v : V) (t : Str), UndA X.A.in1 A' a → vs[i]? = some v → ts[i]? = some t → ElOk X σ A' (Beh Γ a H I (Tf i)) (Beh Γ a H I (Tf (i + 1))) v t := fun A' i v t hA e1 e2 => by
    obtain ⟨d, e3, r⟩ := rv.get' e1
    exact el_all K cls hA u0 gd hu (fun r hr => run r hr A' a hA) r (f4 i d t e3 e2)
  have nr : (SqL Γ.K I.G a vs ∨ SqT Γ.K I.G a vs) → Beh Γ a H I (Tf 0) H := fun h => ⟨I, Ext.refl, by rw [f1]; exact Wf.und (L := Γ.ug) w fun b hb => by rw [List.mem_singleton.mp hb]; exact ⟨vs, x, C, dx, us, h, o1, o2⟩⟩
  have back : ∀ {H'}, Beh Γ a H I (Tf vs.length) H' → ∃ I', Ext O0 H I H' I' ∧ Wf Γ H' I' T' := fun ⟨I', x, w⟩ => ⟨I', x, by rw [hl, f2] at w; exact Wf.und (L := [a]) (L' := Γ.ug) w fun b hb => by rw [u0] at hb; cases hb⟩
  rcases h with ⟨h1, h2, h3⟩ | ⟨h1, h2, h3⟩
  · refine nest_list (X := X) (pins := pins) (σ := σ) (ts := ts) (vs := vs) (W := fun i => Beh Γ a H I (Tf i)) hg clr (by omega) (by rw [f3, hl]) (fun z => by rw [z] at o1; cases o1) h2 (fun i s' H' p' Iv' W' => ?_) (fun i v t rest e1 e2 => el _ i v t (undL _ _ _) e1 e2) Iv (nr (.inl h1)) fun s' H' u Iv' W' => ?_
    · obtain ⟨I', x', w'⟩ := W'
      exact seq_l Iv' (by rw [K]; exact SqL.ext w'.gh (SqL.ext x'.gg h1))
    · obtain ⟨I', x', w'⟩ := back W'
      exact ⟨.str _, H', Iv', ⟨u, rfl⟩, h3 H' I' x' w'⟩
  · refine nest_tup (X := X) (pins := pins) (σ := σ) (ts := ts) (vs := vs) (W := fun i => Beh Γ a H I (Tf i)) hg clr (by omega) (by rw [f3, hl]) h2 (fun i s' H' p' Iv' W' => ?_) (fun i v t e1 e2 => el _ i v t (undT _ _) e1 e2) Iv (nr (.inr h1)) fun s' H' u Iv' W' => ?_
    · obtain ⟨I', x', w'⟩ := W'
      exact seq_t Iv' (by rw [K]; exact SqT.ext w'.gh (SqT.ext x'.gg h1))
    · obtain ⟨I', x', w'⟩ := back W'
      exact ⟨.str _, H', Iv', ⟨u, rfl⟩, h3 H' I' x' w'⟩
end
theorem elsEv_ex {tab : List ORow} : ∀ {ds : List D} {T : Cs} {ex : ExD} {T1 : Cs}, elsEv tab ds T ≠ .ex ex T1 := fun {ds} => by
  induction ds with
  | nil => intro T ex T1 h; cases h
  | cons d ds ih =>
    intro T ex T1 h
    unfold elsEv at h
    cases e1 : elEv tab d T with
    | no => rw [e1] at h; cases h
    | ex x1 T2 =>
      unfold elEv at e1
      split at e1
      · split at e1
        · split at e1 <;> cases e1
        · cases e1
      · split at e1
        · split at e1 <;> cases e1
        · cases e1
    | ok t T2 =>
      rw [e1] at h
      have h : (elsEv tab ds T2).bind (fun ts T3 => Ev.ok (t :: ts) T3) = .ex ex T1 := h
      cases e2 : elsEv tab ds T2 with
      | no => rw [e2] at h; cases h
      | ex x1 T3 => exact ih e2
      | ok us T3 => rw [e2] at h; cases h
def nestF (txt : List Str → Str) (tab : List ORow) (xs : List D) (T : Cs) : Ev R := (elsEv tab xs T).bind fun ts T' => if xs.any isObj = true ∧ (txt ts).length ≤ lim then .ok (.v (.sh (.str (txt ts)))) T' else .no
theorem nestF_ok {txt : List Str → Str} {tab : List ORow} {xs : List D} {T : Cs} : nestF txt tab xs T = .no ∨ ∃ ts T', elsEv tab xs T = .ok ts T' ∧ xs.any isObj = true ∧ (txt ts).length ≤ lim ∧ nestF txt tab xs T = .ok (.v (.sh (.str (txt ts)))) T' := by
  unfold nestF
  cases e : elsEv tab xs T with
  | no => exact .inl rfl
  | ex x T1 => exact absurd e elsEv_ex
  | ok ts T1 =>
    show (if xs.any isObj = true ∧ (txt ts).length ≤ lim then Ev.ok (R.v (.sh (.str (txt ts)))) T1 else .no) = .no ∨ _
    by_cases h : xs.any isObj = true ∧ (txt ts).length ≤ lim
    · rw [if_pos h]
      refine .inr ⟨ts, T1, rfl, h.1, h.2, ?_⟩
      show (if xs.any isObj = true ∧ (txt ts).length ≤ lim then Ev.ok (R.v (.sh (.str (txt ts)))) T1 else .no) = _
      rw [if_pos h]
    · rw [if_neg h]; exact .inl rfl
def nestR (tab : List ORow) (r : R) (T : Cs) : Ev R := match r with
  | .v (.ow xs) => nestF listText tab xs T
  | .v (.sh (.lst xs)) => nestF listText tab xs T
  | .v (.sh (.fz xs)) => nestF listText tab xs T
  | .v (.sh (.tup xs)) => nestF tupleText tab xs T
  | _ => .no
section
variable {Γ : Gam} {n : Nat} {tab : List ORow} {X : Cx} {pins : List (Addr × Obj)} {σ : L2.St} {s : Shared} {Hs H : Hp} {Is I : Im} {T : Cs} {own : Nat → List Addr} {Q : VK} {r : R} {v : V} {u : Value}
/-- what is wanted behind it -/
def NestQ (Γ : Gam) (tab : List ORow) (Hs : Hp) (Is : Im) (r : R) (T : Cs) (Q : VK) : Prop := match nestR tab r T with
  | .ok (.v (.sh (.str m))) T' => ∀ H' I', Ext O0 Hs Is H' I' → Wf Γ H' I' T' → Q (.str m) H'
  | _ => False
theorem NestQ.of {W : WX} {σ : L2.St} (p : Post Γ (RepR Γ n own) W σ Hs Is (nestR tab r T) Q) : NestQ Γ tab Hs Is r T Q := by
  have key : ∀ {txt : List Str → Str} {xs : List D}, nestR tab r T = nestF txt tab xs T → NestQ Γ tab Hs Is r T Q := fun {txt xs} e => by
    unfold NestQ
    rw [e] at p ⊢
    rcases nestF_ok (txt := txt) (tab := tab) (xs := xs) (T := T) with h | ⟨ts, T', _, _, _, h⟩
    · rw [h] at p; exact p.elim
    · rw [h] at p ⊢
      exact fun H' I' x w => p _ H' I' x w (.sh .ofStr)
  unfold nestR at p
  split at p
  · exact key (txt := listText) rfl
  · exact key (txt := listText) rfl
  · exact key (txt := listText) rfl
  · exact key (txt := tupleText) rfl
  · exact p.elim
theorem nest_any (K : X.K = Γ.K) (u0 : Γ.ug = []) (gd : GdX Γ X.A) (hu : X.A.units + 200 < cLine) (cls : ∀ r, r ∈ tab → ClsFull Γ r.c) (run : ∀ r, r ∈ tab → ∀ (A' : Around) (a : Addr), UndA X.A.in1 A' a → RunR Γ X σ A' a r.c r.ev)
    (Iv : Inv X pins σ H s) (x : Ext O0 Hs Is H I) (w : Wf Γ H I T) (rv : RepR Γ n own Hs H I r v) (ru : RelV v u) (p : NestQ Γ tab Hs Is r T Q) : wpAny (model X.prog X.w) X.A (call (.builtin "repr") [u]) (EP X pins σ Q) X.xe s := by
  have fin : ∀ {a : Addr} {ds : List D} {vs : List V} {I2 : Im} {txt : List Str → Str}, nestR tab r T = nestF txt tab ds T → Ext O0 Hs Is H I2 → Wf Γ H I2 T → Reps Γ I2 ds vs →
      ((∀ ts, txt ts = listText ts) ∧ SqL Γ.K I2.G a vs ∨ (∀ ts, txt ts = tupleText ts) ∧ SqT Γ.K I2.G a vs) → wpAny (model X.prog X.w) X.A (call (.builtin "repr") [.ref a]) (EP X pins σ Q) X.xe s := fun {a ds vs I2 txt} en x2 w2 r2 h => by
    unfold NestQ at p
    rw [en] at p
    rcases nestF_ok (txt := txt) (tab := tab) (xs := ds) (T := T) with e | ⟨ts, T', e, h1, h2, e2⟩
    · rw [e] at p; exact p.elim
    · rw [e2] at p
      have p : ∀ H' I', Ext O0 Hs Is H' I' → Wf Γ H' I' T' → Q (.str (txt ts)) H' := p
      refine nest_run K u0 gd hu cls run Iv w2 r2 h1 e ?_
      rcases h with ⟨ht, h⟩ | ⟨ht, h⟩
      · exact .inl ⟨h, by rw [← ht]; exact Nat.le_trans h2 lim_le, fun H' I' x' w' => by rw [← ht]; exact p H' I' (x2.tr0 x') w'⟩
      · exact .inr ⟨h, by rw [← ht]; exact Nat.le_trans h2 lim_le, fun H' I' x' w' => by rw [← ht]; exact p H' I' (x2.tr0 x') w'⟩
  have pp := p
  unfold NestQ nestR at pp
  split at pp
  case h_2 => exact pp.elim
  clear pp
  rename_i m T' e0
  split at e0
  · rename_i xs
    obtain ⟨as, ⟨b, vs, rfl, rfl, h2, h3⟩, h4⟩ := rv
    obtain ⟨f1, f2, f3, f4⟩ := h4 b (by simp)
    obtain rfl : u = Value.ref b := ru
    have le : Im.Le I ⟨upd I.G b (.lst vs), I.κ, I.me⟩ := Im.Le.frz f1
    exact fin (txt := listText) rfl (x.frz f4 f1) (w.freeze h2 f1 f2) (h3.mono le) (.inl ⟨fun _ => rfl, SqL.of (show upd I.G b (.lst vs) b = _ from upd_same)⟩)
  · rename_i xs
    have h1 := rv.unsh
    simp only [Rep] at h1
    obtain ⟨b, vs, rfl, h2, h3⟩ := h1
    obtain rfl : u = Value.ref b := ru
    exact fin (txt := listText) rfl x w h3 (.inl ⟨fun _ => rfl, SqL.of h2⟩)
  · rename_i xs
    have h1 := rv.unsh
    simp only [Rep] at h1
    obtain ⟨b, vs, rfl, h2, h3⟩ := h1
    obtain rfl : u = Value.ref b := ru
    exact fin (txt := listText) rfl x w h3 (.inl ⟨fun _ => rfl, h2⟩)
  · rename_i xs
    have h1 := rv.unsh
    simp only [Rep] at h1
    obtain ⟨b, vs, rfl, h2, h3⟩ := h1
    obtain rfl : u = Value.ref b := ru
    exact fin (txt := tupleText) rfl x w h3 (.inr ⟨fun _ => rfl, h2⟩)
  · cases e0
end
theorem Hdp.und {Γ : Gam} {fa : List He.Fa} {fn gs : List He.DefD} {ex : PySem.W.Frag → Bool} (S : Hdp Γ fa fn gs ex) (L : List Addr) : Hdp (Γ.und L) fa fn gs ex :=
  ⟨⟨S.hd.cd, S.hd.xf, S.hd.facts, S.hd.defs, S.hd.more, S.hd.at_⟩, S.gt⟩
end Tp
end
section
set_option Elab.async false
set_option linter.all false
set_option maxRecDepth 100000
set_option maxHeartbeats 2000000
/-! TrZ: the text of an own object, asked for while an exception is handled. -/
namespace Tp
open PySem PySem.Spec PyProof.Rows L2
/-- a part of the text that a class's __repr__ puts together: a text, {self.f}, {repr(self.f)} -/
inductive HPart where
  | lit (s : Str)
  | fmt (f : Str)
  | rep (f : Str)
structure HRow where
  c : Nat
  s : DefSig
  ps : List HPart
  b : BindOk s 1 [] (srcAll 1)
def fldI (c : Nat) (f : Str) (xs : List D) : Option D := (fIdx f (cdT c).2).bind fun i => xs[i]?
def partTxt (sub : D → Option Str) (c : Nat) (xs : List D) : HPart → Option Str
  | .lit s => some s
  | .fmt f => (fldI c f xs).bind fun d => match fmtD d with
    | some (.str y) => some y
    | _ => none
  | .rep f => ((fldI c f xs).bind sub).bind fun y => if y.length ≤ lim then some y else none
def joinT : List (Option Str) → Str → Option Str
  | [], acc => some acc
  | some y :: r, acc => if acc.length + y.length ≤ lim then joinT r (acc ++ y) else none
  | none :: _, _ => none
def hrTxt (rows : List HRow) : Nat → D → Option Str
  | 0, _ => none
  | n + 1, .obj c xs => (match rows.find? fun r => r.c == c with
    | some r => joinT (r.ps.map (partTxt (hrTxt rows n) c xs)) Str.empty
    | none => none)
  | _ + 1, d => (rPy (.v (.sh d))).bind fun p => if okShowX p then some p.shown else none
/-- self, written x -/
def selfOk (s : DefSig) (x : Str) : Bool := okName x && (decide (s.N[0]? = some x) && isVis s.scope.names x)
def partOk (s : DefSig) : HPart → Expr → Bool
  | .lit y, .Constant (.str x) _ _ => decide (x = y)
  | .fmt f, .FormattedValue (.Attribute (.Name x p) g _) cv none _ => decide (cv = -1) && (decide (g = f) && (noSup (.Name x p) && selfOk s x))
  | .rep f, .FormattedValue (.Call (.Name r _) [.Attribute (.Name x p) g _] [] _) cv none _ => decide (cv = -1) && (decide (g = f) && (noSup (.Name x p) && (selfOk s x && (decide (r = ("repr" : Str)) && isGl s.scope.names r))))
  | _, _ => false
def partsOk (s : DefSig) : List HPart → List Expr → Bool
  | [], [] => true
  | p :: ps, e :: es => partOk s p e && partsOk s ps es
  | _, _ => false
def rowOk (r : HRow) : Bool := sigOk r.s && (decide (r.s.ps.length = 1) && match r.s.body with
  | [.Return (some (.JoinedStr (v1 :: v2 :: rest) _)) _] => partsOk r.s r.ps (v1 :: v2 :: rest)
  | _ => false)
structure HFacts (Γ : Gam) (r : HRow) : Prop where
  cl : ClsFull Γ r.c
  ok : rowOk r = true
  ex : ∃ f fd, PySem.W.findIn Γ.K (.ref (cAd Γ r.c)) "__repr__" = some (some (.ref f)) ∧ PySem.W.isFn Γ.K (.ref f) = true ∧ FunD Γ.K r.s.nm r.s.qual r.s.params r.s.body r.s.scope (r.s.dfl.map constV) [] f fd
section
variable {Γ : Gam} {L : List Addr} {X : Cx}
/-- the state while the text is put together -/
def StH (Γ : Gam) (L : List Addr) (H0 : Hp) (I0 : Im) (T : Cs) (H : Hp) : Prop := ∃ I, Ext O0 H0 I0 H I ∧ Wf (Γ.und L) H I T
/-- the calls of the text of an object within another one -/
def HotRun (Γ : Gam) (rows : List HRow) (n : Nat) : Prop := ∀ (L : List Addr) (A : Around) (outer : List PySem.Env) (s : Shared) (H : Hp) (I : Im) (T : Cs) (c : Nat) (xs : List D) (p : Addr) (m : Str), L2H.RoomH (2 * n) A → GdX (Γ.und L) A → Env0 Γ.P Γ.w Γ.K Γ.mg Γ.base A outer s H →
  Wf (Γ.und L) H I T → Rep Γ I (.obj c xs) (.ref p) → hrTxt rows n (.obj c xs) = some m → ∃ f, ClsFull Γ c ∧ PySem.W.findIn Γ.K (.ref (cAd Γ c)) "__repr__" = some (some (.ref f)) ∧ PySem.W.isFn Γ.K (.ref f) = true ∧
    codeAny (model Γ.P Γ.w) A (.call (.ref f) ⟨[.ref p], []⟩) (CR (CX Γ.P Γ.w) outer Γ.P Γ.w H s (fun v H' => v = .str m ∧ ∃ I', Ext O0 H I H' I' ∧ Wf (Γ.und L) H' I' T) fun _ _ _ => False) s
/-- repr(..) of a value -/
theorem hot_repr {rows : List HRow} {n : Nat} (hr : HotRun Γ rows n) (e1 : X.prog = Γ.P) (e2 : X.w = Γ.w) (e3 : X.K = Γ.K) (e4 : X.mg = Γ.mg) (e5 : X.base = Γ.base) (gd : GdX (Γ.und L) X.A) (rm : L2H.RoomH (2 * n + 1) X.A)
    {pins : List (Addr × Obj)} {σ : L2.St} {s : Shared} {H : Hp} {I : Im} {T : Cs} {d : D} {v : V} {u : Value} {y : Str} {Q : VK} (Iv : L2.Inv X pins σ H s) (w : Wf (Γ.und L) H I T) (rv : Rep Γ I d v) (ru : RelV v u) (ht : hrTxt rows n d = some y)
    (q : ∀ H' I', Ext O0 H I H' I' → Wf (Γ.und L) H' I' T → Q (.str y) H') : wpAny (model X.prog X.w) X.A (call (.builtin "repr") [u]) (EP X pins σ Q) X.xe s := by
  have plain : ∀ p, rPy (.v (.sh d)) = some p → okShowX p = true → p.shown = y → wpAny (model X.prog X.w) X.A (call (.builtin "repr") [u]) (EP X pins σ Q) X.xe s := fun p h1 h2 h3 => by
    subst h3
    refine cr_reprG (Γ := Γ.und L) gd (by have := rm.un; omega) pins s σ H [v] [u] Q Iv (.cons ru .nil) ⟨v, rfl, by rw [e3]; exact w.ugd, .inl ⟨p, ?_, h2, q H I Ext.refl w⟩⟩
    rw [e3]
    exact toPy_ok w.gh rv h1
  cases n with
  | zero => simp [hrTxt] at ht
  | succ n =>
    cases d with
    | obj c xs =>
      have rv' := rv
      simp only [Rep] at rv'
      obtain ⟨p, dx, us, rfl, h4, _, _⟩ := rv'
      obtain rfl : u = Value.ref p := ru
      have e0 : Env0 Γ.P Γ.w Γ.K Γ.mg Γ.base X.A.in1 X.stack s H := by
        have := Iv.env0.in1
        rw [e1, e2, e3, e4, e5] at this
        exact this
      obtain ⟨f, CF, hs, hf, run⟩ := hr L X.A.in1 X.stack s H I T c xs p _ ⟨by have := rm.dp; have e : X.A.in1.depth = X.A.depth := rfl; omega, by have := rm.un; have e : X.A.in1.units = X.A.units + 1 := rfl; omega⟩ gd e0 w rv ht
      rw [CF.cd] at h4
      obtain ⟨mA, J, _⟩ := ins_get Iv.hok (w.gh _ _ h4)
      obtain ⟨od, J, _⟩ := J.look
      refine HN.repr_K (by have := rm.un; show X.A.units + 1 < cLine; omega) Iv.kIn J (by rw [e3]; exact hs) (by rw [e3]; exact hf) ?_
      rw [← e1, ← e2] at run
      refine wpAny_call (codeAny_mono run ?_)
      rintro r' s' hq
      match r', hq with
      | .error er, hq =>
        obtain ⟨_, _, _, _, _, _, _, _, _, _, _, _, z⟩ := hq
        exact z.elim
      | .ok (.ret u), hq =>
        obtain ⟨v, H', I3, rv, rfl, I', x', w'⟩ := Iv.after hq
        obtain ⟨tk, rfl⟩ := rv
        exact ⟨_, tk, rfl, .str _, H', I3, ⟨tk, rfl⟩, q H' I' x' w'⟩
      | .ok .next, hq => exact hq.elim
      | .ok .brk, hq => exact hq.elim
      | .ok .cont, hq => exact hq.elim
    | _ =>
      obtain ⟨p, h1, h2⟩ := Option.bind_eq_some_iff.mp (show (rPy (.v (.sh _))).bind (fun p => if okShowX p then some p.shown else none) = some y from ht)
      split at h2
      · rename_i ok
        cases h2
        exact plain p h1 ok rfl
      · cases h2
/-- one part's text -/
structure PartOk (Γ : Gam) (L : List Addr) (X : Cx) (σ : L2.St) (H0 : Hp) (I0 : Im) (T : Cs) (e : Expr) (y : Str) : Prop where
  pe : PE X e (fun σ' H Q => σ' = σ ∧ StH Γ L H0 I0 T H ∧ ∀ H', StH Γ L H0 I0 T H' → Q (.str y) H')
theorem parts_join {σ : L2.St} {H0 : Hp} {I0 : Im} {T : Cs} : ∀ {es : List Expr} {ys : List Str} {acc m : Str}, (es.length = ys.length) → (∀ (i : Nat) e y, es[i]? = some e → ys[i]? = some y → PartOk Γ L X σ H0 I0 T e y) → joinT (ys.map some) acc = some m →
    ∃ ts, PJ X es ts ∧ ∀ H Q, StH Γ L H0 I0 T H → (∀ H', StH Γ L H0 I0 T H' → Q m H') → tJs ts acc σ H Q
  | [], [], acc, m, _, _, h => by
    cases h
    exact ⟨[], .nil, fun H Q h1 h2 => h2 H h1⟩
  | e :: es, y :: ys, acc, m, hl, hp, h => by
    have h : (if acc.length + y.length ≤ lim then joinT (ys.map some) (acc ++ y) else none) = some m := h
    split at h
    · rename_i hz
      obtain ⟨ts, h1, h2⟩ := parts_join (es := es) (ys := ys) (by simpa using hl) (fun i e y a b => hp (i + 1) e y (by simpa using a) (by simpa using b)) h
      refine ⟨_, .cons (hp 0 e y rfl rfl).pe h1, fun H Q h3 h4 => ⟨rfl, h3, fun H' h5 => ⟨y, rfl, by rw [Str.length_append]; exact Nat.le_trans hz lim_le, h2 H' Q h5 h4⟩⟩⟩
    · cases h
  | [], _ :: _, _, _, hl, _, _ => by cases hl
  | _ :: _, [], _, _, hl, _, _ => by cases hl
theorem joinT_some : ∀ {l : List (Option Str)} {acc m : Str}, joinT l acc = some m → ∃ ys : List Str, l = ys.map some
  | [], _, _, _ => ⟨[], rfl⟩
  | some y :: l, acc, m, h => by
    have h : (if acc.length + y.length ≤ lim then joinT l (acc ++ y) else none) = some m := h
    split at h
    · obtain ⟨ys, e⟩ := joinT_some h
      exact ⟨y :: ys, by rw [e]; rfl⟩
    · cases h
  | none :: l, acc, m, h => by cases h
theorem partsOk_at {s : DefSig} : ∀ {ps : List HPart} {es : List Expr}, partsOk s ps es = true → ps.length = es.length ∧ ∀ (i : Nat) p e, ps[i]? = some p → es[i]? = some e → partOk s p e = true
  | [], [], _ => ⟨rfl, fun i p e h => by simp at h⟩
  | p :: ps, e :: es, h => by
    obtain ⟨h1, h2⟩ := b2 (show (partOk s p e && partsOk s ps es) = true from h)
    obtain ⟨h3, h4⟩ := partsOk_at h2
    refine ⟨by simp [h3], fun i p' e' a b => ?_⟩
    cases i with
    | zero => simp at a b; subst a; subst b; exact h1
    | succ i => exact h4 i p' e' (by simpa using a) (by simpa using b)
  | [], _ :: _, h => by cases h
  | _ :: _, [], h => by cases h
/-- a part of the text of the object at p, which is the first local -/
theorem part_run {rows : List HRow} {n : Nat} (hr : HotRun Γ rows n) {r : HRow} (F : ClsFull Γ r.c) (e1 : X.prog = Γ.P) (e2 : X.w = Γ.w) (e3 : X.K = Γ.K) (e4 : X.mg = Γ.mg) (e5 : X.base = Γ.base) (eN : X.N = r.s.N) (en : X.env.scope.names = r.s.scope.names) (mgr : Γ.mg "repr" = none)
    (gd : GdX (Γ.und L) X.A) (rm : L2H.RoomH (2 * n + 1) X.A) {σ : L2.St} {H0 : Hp} {I0 : Im} {T : Cs} {xs : List D} {p : Addr} (hs : σ[0]? = some (some (.ref p))) (rv : Rep Γ I0 (.obj r.c xs) (.ref p)) {e : Expr} {y : Str} {q : HPart} (hc : partOk r.s q e = true)
    (ht : partTxt (hrTxt rows n) r.c xs q = some y) : PartOk Γ L X σ H0 I0 T e y := by
  have pv : ∀ {x : Str} {pos : Pos}, selfOk r.s x = true → PE X (.Name x pos) (tVar 0) := fun {x pos} h => by
    obtain ⟨h1, h⟩ := b2 h
    obtain ⟨h2, h3⟩ := b2 h
    obtain ⟨d1, d2, _⟩ := okName_d h1
    exact pe_var (i := 0) (by rw [eN]; exact of_decide_eq_true h2) (isVis_ok en h3) d1 d2
  -- the attribute
  have att : ∀ {x g : Str} {px pos : Pos} {d : D}, selfOk r.s x = true → noSup (.Name x px) = true → fldI r.c g xs = some d → PE X (.Attribute (.Name x px) g pos) (fun σ' H Q => σ' = σ ∧ StH Γ L H0 I0 T H ∧ ∀ v I, Ext O0 H0 I0 H I → Wf (Γ.und L) H I T → Rep Γ I d v → Q v H) := fun {x g px pos d} h1 h2 h3 => by
    refine PE.mono (pe_fld (pv h1) (noSup_ok h2 _ _)) fun σ' H Q hq => ?_
    obtain ⟨rfl, ⟨I, x1, w1⟩, hq⟩ := hq
    refine ⟨.ref p, hs, ?_⟩
    have r1 := rv.mono x1.le
    simp only [Rep] at r1
    obtain ⟨b, dx, us, eb, h4, h5, h6⟩ := r1
    cases eb
    rw [F.cd] at h4 h5
    obtain ⟨i, k1, k2⟩ := Option.bind_eq_some_iff.mp h3
    obtain ⟨v, v1, v2⟩ := h6.get k2
    have hm := fIdx_mem k1
    rw [← h5] at k1
    exact ⟨p, _, dx, us, v, rfl, w1.gh _ _ h4, by rw [e3]; exact F.cl, by rw [e3]; exact F.na _ hm, fIdx_get k1 v1, hq v I x1 w1 v2⟩
  unfold partOk at hc
  split at hc
  · rename_i y0 x j pos
    have e0 := of_decide_eq_true hc
    subst e0
    cases ht
    exact ⟨PE.mono pe_str fun σ' H Q hq => hq.2.2 H hq.2.1⟩
  · rename_i f x px g pos cv pos'
    obtain ⟨h1, hc⟩ := b2 hc
    obtain ⟨h2, hc⟩ := b2 hc
    obtain ⟨h3, h4⟩ := b2 hc
    have k1 := of_decide_eq_true h1
    have k2 := of_decide_eq_true h2
    subst k1
    subst k2
    obtain ⟨d, t1, t2⟩ := Option.bind_eq_some_iff.mp ht
    refine ⟨PE.mono (pe_fmt (att (pos := pos) h4 h3 t1)) fun σ' H Q hq => ?_⟩
    obtain ⟨z1, z2, z3⟩ := hq
    refine ⟨z1, z2, fun v I x1 w1 rd => ?_⟩
    cases d with
    | str y1 =>
      have t2 : (match (if y1.length ≤ lim then some (D.str y1) else none) with
        | some (.str y) => some y
        | _ => none) = some y := t2
      split at t2
      · rename_i y2 eq2
        cases t2
        split at eq2
        · rename_i hl
          cases eq2
          exact .inl ⟨y, Rep.str rd, Nat.le_trans hl lim_le, z3 H ⟨I, x1, w1⟩⟩
        · cases eq2
      · cases t2
    | int i =>
      have t2 : (match (if -1000000000000000000 < i ∧ i < 1000000000000000000 then some (D.str (toString i)) else none) with
        | some (.str y) => some y
        | _ => none) = some y := t2
      split at t2
      · rename_i y2 eq2
        cases t2
        split at eq2
        · rename_i hi
          cases eq2
          exact .inr ⟨i, Rep.int rd, log_lt hi, z3 H ⟨I, x1, w1⟩⟩
        · cases eq2
      · cases t2
    | _ => cases t2
  · rename_i f r0 pr x px g pos pos2 cv pos'
    obtain ⟨h1, hc⟩ := b2 hc
    obtain ⟨h2, hc⟩ := b2 hc
    obtain ⟨h3, hc⟩ := b2 hc
    obtain ⟨h4, hc⟩ := b2 hc
    obtain ⟨h5, h6⟩ := b2 hc
    have k1 := of_decide_eq_true h1
    have k2 := of_decide_eq_true h2
    have k3 := of_decide_eq_true h5
    subst k1
    subst k2
    subst k3
    obtain ⟨y1, t0, t3⟩ := Option.bind_eq_some_iff.mp ht
    obtain ⟨d, t1, t2⟩ := Option.bind_eq_some_iff.mp t0
    split at t3
    case isFalse => cases t3
    rename_i hl
    cases t3
    have call : PE X (.Call (.Name "repr" pr) [.Attribute (.Name x px) g pos] [] pos2) (fun σ' H Q => σ' = σ ∧ StH Γ L H0 I0 T H ∧ ∀ H', StH Γ L H0 I0 T H' → Q (.str y) H') := by
      refine PE.mono (pe_callB (r := fun us H Q => ∃ v I, us = [v] ∧ Ext O0 H0 I0 H I ∧ Wf (Γ.und L) H I T ∧ Rep Γ I d v ∧ ∀ H', StH Γ L H0 I0 T H' → Q (.str y) H') (fun pins s σ' H vs us Q Iv rv hq => ?_) (isGl_ok en h6) (by rw [e4]; exact mgr) PyProof.Rows.boot_repr
        (pa_cons (att (pos := pos) h4 h3 t1) pa_nil (star_cons rfl)) (by decide) (by decide) (star_cons rfl) rfl) fun σ' H Q hq => ?_
      · obtain ⟨v, I, rfl, x1, w1, rd, hq⟩ := hq
        cases rv with
        | cons r1 r2 =>
          cases r2
          exact hot_repr hr e1 e2 e3 e4 e5 gd rm Iv w1 rd r1 t2 fun H' I' x' w' => hq H' ⟨I', x1.tr0 x', w'⟩
      · exact ⟨hq.1, hq.2.1, fun v I x1 w1 rd => ⟨v, I, rfl, x1, w1, rd, hq.2.2⟩⟩
    refine ⟨PE.mono (pe_fmt call) fun σ' H Q hq => ⟨hq.1, hq.2.1, fun H' hH => .inl ⟨y, rfl, Nat.le_trans hl lim_le, hq.2.2 H' hH⟩⟩⟩
  · cases hc
end
section
variable {Γ : Gam} {rows : List HRow}
theorem hot_all (HF : ∀ r, r ∈ rows → HFacts Γ r) (mgr : Γ.mg "repr" = none) : ∀ n, HotRun Γ rows n
  | 0 => fun L A outer s H I T c xs p m rm gd e0 w rv ht => by simp [hrTxt] at ht
  | n + 1 => fun L A outer s H I T c xs p m rm gd e0 w rv ht => by
    have ht : (match rows.find? (fun r => r.c == c) with
      | some r => joinT (r.ps.map (partTxt (hrTxt rows n) c xs)) Str.empty
      | none => none) = some m := ht
    split at ht
    case h_2 => cases ht
    rename_i r hr
    have hm := List.mem_of_find?_eq_some hr
    have hc : r.c = c := by simpa using List.find?_some hr
    subst hc
    obtain ⟨CF, ok, f, fd, hs, hf, FD⟩ := HF r hm
    obtain ⟨o1, ok⟩ := b2 ok
    obtain ⟨o2, o3⟩ := b2 ok
    have o2 := of_decide_eq_true o2
    have S := sigOk_ok o1
    have KIn : Γ.K.In s.heap := e0.mod.kin.keeps fun b o e => (e0.bs b o e).1
    have noLim : s.heap.NoLimit := e0.mod.nolimit.keeps fun b o e => (e0.bs b o e).1
    obtain ⟨its, ri, hb⟩ := bind_of (sh := s) r.b FD KIn (us := [.ref p]) (ws := []) rfl rfl
    obtain ⟨oc, od, dV, kV, doc, pm, an, cdv, ct, osl, rfl, lk, hcd, _, _⟩ := FD.ex
    refine ⟨f, CF, hs, hf, ?_⟩
    have eu : sel Value.none ([Value.ref p] ++ []) its (srcAll 1) = [Value.ref p] := rfl
    rw [eu] at hb
    have kinds : ∀ y ∈ r.s.ps.zip [Value.ref p], r.s.scope.names.lookup y.1 = some .local ∨ (r.s.scope.names.lookup y.1 = some .cell ∧ ((cellsFrom (s.heap.objs.size + 1) r.s.scope.names []).lookup y.1).isSome = true) := by
      rintro ⟨n, v⟩ hy
      exact (S.par n (List.of_mem_zip hy).1).imp id fun q => ⟨q, PySem.W.cellsFrom_some _ _ _ (.inl q)⟩
    have fb := e0.mod.kin _ _ lk
    have hpin : L2H.PinOk outer H s (f, ⟨oc, od, .func (PySem.W.fnOf r.s.nm r.s.qual r.s.params r.s.body r.s.scope dV kV doc pm an cdv ct), osl⟩) := ⟨KIn _ _ lk, (e0.bs f _ fb).2, (fun hb => by
      have := (e0.funs.mem hb).1
      rw [fb] at this; cases this), fun v z => by cases z⟩
    refine codeAny_call_function rm.depth (KIn _ _ lk) rfl S.co S.gen rfl (PySem.W.codeRec_of KIn hcd) (hb _ _ _ _ (wpAny_newFunctionEnv_cells S.kind kinds ?_))
    rintro env rfl s1 x
    refine ⟨noLim.keeps x.toInCall.keep, codeAny_func ?_⟩
    have Iv := L2H.inv_startH (CX := CX Γ.P Γ.w) (E := fun _ _ _ => False) (N := r.s.N) (vs := [V.ref p]) S hpin e0 (by rw [o2]; rfl) (.cons rfl .nil) x
    split at o3
    case h_2 => cases o3
    rename_i v1 v2 rest jp rp eb
    obtain ⟨p1, p2⟩ := partsOk_at o3
    obtain ⟨ys, ey⟩ := joinT_some ht
    rw [ey] at ht
    have ly : ys.length = r.ps.length := by
      have := congrArg List.length ey
      simpa using this.symm
    have gd' : GdX (Γ.und L) (A.deeper (envOfC r.s.qual r.s.scope s.heap.objs.size f cdv)) := gd
    have rm' : L2H.RoomH (2 * n + 1) (A.deeper (envOfC r.s.qual r.s.scope s.heap.objs.size f cdv)) := L2H.RoomH.deeper (show L2H.RoomH (2 * n + 1 + 1) A from rm) _
    have pp : ∀ (i : Nat) e y, (v1 :: v2 :: rest)[i]? = some e → ys[i]? = some y → PartOk Γ L (L2H.cxH (CX Γ.P Γ.w) Γ.P Γ.w Γ.K Γ.mg Γ.base r.s.N r.s.qual r.s.scope f cdv A outer s H (fun _ _ _ => False) (f, ⟨oc, od, .func (PySem.W.fnOf r.s.nm r.s.qual r.s.params r.s.body r.s.scope dV kV doc pm an cdv ct), osl⟩)) (L2.start r.s.N [V.ref p]) H I T e y := fun i e y a b => by
      have li : i < r.ps.length := by rw [p1]; exact (List.getElem?_eq_some_iff.mp a).1
      have eq1 : r.ps[i]? = some r.ps[i] := by simp [li]
      have eq2 : partTxt (hrTxt rows n) r.c xs r.ps[i] = some y := by
        have := congrArg (·[i]?) ey
        simp only [List.getElem?_map, eq1, b, Option.map_some] at this
        exact Option.some.inj this
      exact part_run (hot_all HF mgr n) CF rfl rfl rfl rfl rfl rfl rfl mgr gd' rm' rfl rv (p2 i _ e eq1 a) eq2
    obtain ⟨ts, j1, j2⟩ := parts_join (Γ := Γ) (L := L) (X := L2H.cxH (CX Γ.P Γ.w) Γ.P Γ.w Γ.K Γ.mg Γ.base r.s.N r.s.qual r.s.scope f cdv A outer s H (fun _ _ _ => False) (f, ⟨oc, od, .func (PySem.W.fnOf r.s.nm r.s.qual r.s.params r.s.body r.s.scope dV kV doc pm an cdv ct), osl⟩)) (σ := L2.start r.s.N [V.ref p]) (H0 := H) (I0 := I) (T := T) (es := v1 :: v2 :: rest) (ys := ys) (acc := Str.empty) (m := m) (by rw [ly, p1]) pp ht
    rw [eb]
    · have body := pss_cons (ps_ret (pos := rp) (pe_joined (pos := jp) j1)) (pss_nil)
      refine wpAny_mono (body.run [] s1 (L2.start r.s.N [V.ref p]) H { nx := fun _ H' => False, rt := fun v H' => v = .str m ∧ StH Γ L H I T H' } Iv ?_) ?_ fun _ _ z => z
      · exact j2 H _ ⟨I, Ext.refl, w⟩ fun H' h => ⟨rfl, h⟩
      · rintro fl s' hs
        cases fl with
        | next => exact let ⟨_, _, _, q⟩ := hs; q.elim
        | ret u => exact let ⟨v, _, H', J, rv, q⟩ := hs; ⟨v, H', J.os, J.bare, J.base, J.hok, rv, q⟩
        | brk => exact let ⟨_, _, _, q⟩ := hs; q.elim
        | cont => exact let ⟨_, _, _, q⟩ := hs; q.elim
end
end Tp
end
section
set_option Elab.async false
set_option linter.all false
set_option maxRecDepth 100000
set_option maxHeartbeats 2000000
/-! TsA: further pieces of except suites: list displays, isinstance(e, C), a and b, return, an assignment behind another one. -/
namespace Tp
open PySem PySem.Spec PyProof.Rows L2
/-- a text or int of the module -/
def hD (a : HE) : ExD → Env → Cs → Ev D := fun e ρ T => (a.ev e ρ T).bind fun r T1 => match r with
  | .v (.sh d) => .ok d T1
  | _ => .no
def hDs : List HE → ExD → Env → Cs → Ev (List D)
  | [], _, _, T => .ok [] T
  | a :: as, e, ρ, T => (hD a e ρ T).bind fun d T1 => (hDs as e ρ T1).bind fun ds T2 => .ok (d :: ds) T2
def hChk (k : Nat) (sc : Sc) (i : Option Nat) : List HE → List Expr → Bool
  | [], [] => true
  | a :: as, e :: es => notStar e && (a.chk k sc i e && hChk k sc i as es)
  | _, _ => false
def hNeed (Γ : Gam) : List HE → Prop
  | [] => True
  | a :: as => a.need Γ ∧ hNeed Γ as
def tHA (Γ : Gam) (n : Nat) (a : Addr) (cls : Value) (d : Option Addr) (i : Option Nat) (ev : ExD → Env → Cs → Ev (List D)) : TA := fun σ H Q => ∃ I ρ T own e, Wf Γ H I T ∧ ER Γ n σ ρ H I own ∧ RepX Γ I e cls d ∧ Nmd i σ a ∧ Post Γ (relDs Γ) WN σ H I (ev e ρ T) Q
theorem hDs_ok {Γ : Gam} {k : Nat} {sc : Sc} {X : Cx} {n : Nat} {i : Option Nat} {a : Addr} {oe : Obj} {cls : Value} {d : Option Addr} {pn : List (Addr × Obj)} (g : GoodH Γ k sc (X.suite a ((a, oe) :: pn))) (hz : Zc cls d oe) (hf : ∃ vs, oe.data = .fields vs) :
    ∀ (as : List HE) (es : List Expr), hNeed Γ as → hChk k sc i as es = true → PA (X.suite a ((a, oe) :: pn)) es (tHA Γ n a cls d i (hDs as))
  | [], [], _, _ => PA.mono pa_nil fun σ H Q ⟨I, ρ, T, own, e, w, er, rx, nm, p⟩ => p [] H I Ext.refl w Reps.nil
  | b :: as, e :: es, nd, h => by
    obtain ⟨h0, h⟩ := b2 h
    obtain ⟨h1, h2⟩ := b2 h
    refine PA.mono (pa_cons (b.ok (n := n) g nd.1 h1 hz hf) (hDs_ok (n := n) g hz hf as es nd.2 h2) (star_cons h0)) fun σ H Q q => ?_
    obtain ⟨I, ρ, T, own, ex, w, er, rx, nm, p⟩ := q
    have p : Post Γ (relDs Γ) WN σ H I ((hD b ex ρ T).bind fun d T1 => (hDs as ex ρ T1).bind fun ds T2 => .ok (d :: ds) T2) Q := p
    have p' : Post Γ (relDs Γ) WN σ H I ((b.ev ex ρ T).bind fun r T1 => ((match r with
      | .v (.sh d) => Ev.ok d T1
      | _ => .no) : Ev D).bind fun d T1 => (hDs as ex ρ T1).bind fun ds T2 => .ok (d :: ds) T2) Q := by
      unfold hD at p
      cases eb : b.ev ex ρ T with
      | no => rw [eb] at p; exact p
      | ex e1 T1 => rw [eb] at p; exact p
      | ok r T1 => rw [eb] at p; exact p
    refine ⟨I, ρ, T, own, ex, w, er, rx, nm, (Post.step (rel := RepR Γ n own) p' Ext.refl).imp fun x H1 q1 => ?_⟩
    obtain ⟨r, T1, I1, _, x1, w1, r1, p1⟩ := q1
    split at p1
    · rename_i d1 _
      have p1 : Post Γ (relDs Γ) WN σ H I ((hDs as ex ρ T1).bind fun ds T2 => .ok (d1 :: ds) T2) Q := p1
      refine ⟨I1, ρ, T1, own, ex, w1, er.ext x1, rx.mono x1.le, nm, (Post.step (rel := relDs Γ) p1 x1).imp fun xs H2 q2 => ?_⟩
      obtain ⟨ds, T2, I2, _, x2, w2, r2, p2⟩ := q2
      exact p2 (x :: xs) H2 I2 (x1.tr0 x2) w2 (Reps.cons (r1.unsh.mono x2.le) r2)
    · exact p1.elim
  | [], _ :: _, _, h => by cases h
  | _ :: _, [], _, h => by cases h
theorem hDs_len {as : List HE} {e : ExD} {ρ : Env} : ∀ {T T' : Cs} {ds : List D}, hDs as e ρ T = .ok ds T' → ds.length = as.length := by
  induction as with
  | nil => intro T T' ds h; cases h; rfl
  | cons b as ih =>
    intro T T' ds h
    unfold hDs at h
    cases e1 : hD b e ρ T with
    | no => rw [e1] at h; cases h
    | ex x T1 => rw [e1] at h; cases h
    | ok d T1 =>
      rw [e1] at h
      have h : (hDs as e ρ T1).bind (fun ds T2 => Ev.ok (d :: ds) T2) = .ok ds T' := h
      cases e2 : hDs as e ρ T1 with
      | no => rw [e2] at h; cases h
      | ex x T2 => rw [e2] at h; cases h
      | ok ds2 T2 => rw [e2] at h; cases h; rw [List.length_cons, ih e2]; rfl
/-- [a, ..] -/
def hLst (as : List HE) : HE where
  ev := fun e ρ T => (hDs as e ρ T).bind fun ds T1 => .ok (.v (.ow ds)) T1
  chk := fun k sc i e => match e with
    | .List es _ => decide (as.length ≤ 1000) && hChk k sc i as es
    | _ => false
  need := fun Γ => hNeed Γ as
  ok := by
    intro Γ k sc X e n i a oe cls d pn g nd h hz hf
    split at h
    · obtain ⟨h1, h2⟩ := b2 h
      have h1 := of_decide_eq_true h1
      refine PE.mono (pe_lst (hDs_ok (n := n) g hz hf as _ nd h2)) fun σ H Q q => ?_
      obtain ⟨I, ρ, T, own, ex, w, er, rx, nm, p⟩ := q
      refine ⟨I, ρ, T, own, ex, w, er, rx, nm, ?_⟩
      have p : Post Γ (RepR Γ n own) WN σ H I ((hDs as ex ρ T).bind fun ds T1 => .ok (.v (.ow ds)) T1) Q := p
      cases e1 : hDs as ex ρ T with
      | no => rw [e1] at p; exact p
      | ex x T1 => rw [e1] at p; exact p
      | ok ds T1 =>
        rw [e1] at p
        have hl := hDs_len e1
        intro xs H1 I1 x1 w1 r1
        have r1 : Reps Γ I1 ds xs := r1
        refine ⟨by rw [r1.length, hl, sizeLine_eq]; omega, fun b hb => ?_⟩
        refine p (.ref b) _ I1 (x1.tr0 (Ext.new hb _)) (w1.new hb _) ⟨[b], ⟨b, xs, rfl, rfl, upd_same, r1⟩, fun c hc => ?_⟩
        rw [List.mem_singleton.mp hc]
        exact ⟨w1.gnone hb, w1.nocell hb, by rw [upd_same]; simp, by
          cases q : H b with
          | none => rfl
          | some o => exact absurd hb (x1.th b (by rw [q]; simp))⟩
    · cases h
def XCls.nm : XCls → Str
  | .own x => x
  | .blt x => Str.ofString x
def XCls.at_ (Γ : Gam) : XCls → Prop
  | .own x => Γ.mg x = some (.ref (He.ga Γ.K x))
  | .blt x => Γ.mg (Str.ofString x) = none ∧ bootBuiltins (Str.ofString x) = some (.type x) ∧ Str.ofString x ≠ "__name__"
def XCls.isV (K : PySem.W.Frag) : XCls → V
  | .own x => .ref (He.ga K x)
  | .blt x => .ty x
theorem isXT_ok {K : PySem.W.Frag} {c : XCls} {x : Str} {tab : List (Str × Bool)} {b : Bool} (h : isXT K c tab = true) (e : tab.lookup x = some b) : isXB K (He.ga K x) = true ∧ PySem.W.kitOne K (.ref (He.ga K x)) (c.v K) = some b := by
  unfold isXT at h
  induction tab with
  | nil => cases e
  | cons p tab ih =>
    rw [List.all_cons] at h
    obtain ⟨h1, h2⟩ := b2 h
    rw [List.lookup_cons] at e
    split at e
    · rename_i q
      cases e
      have q : x = p.1 := by simpa using q
      rw [q]
      obtain ⟨h3, h4⟩ := b2 h1
      exact ⟨h3, of_decide_eq_true h4⟩
    · exact ih h2 e
theorem call_isX {X : Cx} {a D : Addr} {oe : Obj} {d : Option Addr} {pn : List (Addr × Obj)} (C : isXB X.K D = true) (hz : Zc (.ref D) d oe) (hf : ∃ vs, oe.data = .fields vs) {cv : Value} {b : Bool} (hk : PySem.W.kitOne X.K (.ref D) cv = some b)
    {pins : List (Addr × Obj)} {s : Shared} {σ : L2.St} {H : Hp} {Q : VK} (I : Inv (X.suite a ((a, oe) :: pn)) pins σ H s) (hd : d = none ∨ ∃ dd us, d = some dd ∧ H dd = some (.xd us)) (q : Q (.bl b) H) :
    wpAny (model X.prog X.w) (X.suite a ((a, oe) :: pn)).A (call (.builtin "isinstance") [.ref a, cv]) (EP (X.suite a ((a, oe) :: pn)) pins σ Q) (X.suite a ((a, oe) :: pn)).xe s := by
  unfold isXB at C
  obtain ⟨c1, C⟩ := b2 C
  obtain ⟨c2, C⟩ := b2 C
  obtain ⟨c3, C⟩ := b2 C
  obtain ⟨c4, C⟩ := b2 C
  obtain ⟨c5, C⟩ := b2 C
  obtain ⟨c6, C⟩ := b2 C
  obtain ⟨c7, c8⟩ := b2 C
  have c2 := of_decide_eq_true c2
  have c3 := of_decide_eq_true c3
  have c4 := of_decide_eq_true c4
  have c5 := of_decide_eq_true c5
  have c6 := of_decide_eq_true c6
  have c7 := of_decide_eq_true c7
  have c8 := of_decide_eq_true c8
  obtain ⟨hget, _⟩ := I.pin (a, oe) (List.mem_append.mpr (.inl List.mem_cons_self))
  obtain ⟨vs, hv⟩ := hf
  have J : ∃ od, PySem.W.InstAt s.heap a oe D od := by
    rcases hd with rfl | ⟨dd, us, rfl, hx⟩
    · exact ⟨none, hget, hz.1, by unfold PySem.W.notCls; rw [hv] <;> rfl, by rw [hz.2]; trivial⟩
    · obtain ⟨mA, hns, hr⟩ := (show ObjOk X.prog X.w H s.heap dd (.xd us) from I.hok dd _ hx)
      obtain ⟨od, ho, hl⟩ := lookIn_ns hns
      exact ⟨some od, hget, hz.1, by unfold PySem.W.notCls; rw [hv] <;> rfl, by rw [hz.2]; exact ho⟩
  obtain ⟨od, J⟩ := J
  exact PySem.W.kia_one (PySem.W.kitx_exc c1 c2 c3 c4 c5 c6 c7 c8) I.kIn J hk (fun z => nomatch z) fun tk => ⟨.bl b, H, I.kept (t' := tk) fun _ _ z => z, rfl, q⟩
/-- isinstance(e, C), e the caught exception -/
def hIsI (c : XCls) (tab : List (Str × Bool)) : HE where
  ev := fun e _ T => match tab.lookup e.c with
    | some b => .ok (.v (.sh (.bl b))) T
    | none => .no
  chk := fun _ sc i e => match i, e with
    | some j, .Call (.Name f _) [.Name x _, .Name y _] [] _ => decide (f = ("isinstance" : Str)) && (isGl sc.nm f && (okName f && (decide (y = c.nm) && (isGl sc.nm y && (okName y && (okName x && slotIs sc.N j x && isVis sc.nm x))))))
    | _, _ => false
  need := fun Γ => Γ.mg "isinstance" = none ∧ isXT Γ.K c tab = true ∧ c.at_ Γ
  ok := by
    intro Γ k sc X e n i a oe cls d pn g nd h hz hf
    split at h
    · rename_i j f pf x px y py pos
      obtain ⟨h1, h⟩ := b2 h
      obtain ⟨h2, h⟩ := b2 h
      obtain ⟨h3, h⟩ := b2 h
      obtain ⟨h4, h⟩ := b2 h
      obtain ⟨h5, h⟩ := b2 h
      obtain ⟨h6, h⟩ := b2 h
      obtain ⟨h7, h9⟩ := b2 h
      obtain ⟨h7, h8⟩ := b2 h7
      have e1 := of_decide_eq_true h1
      have e4 := of_decide_eq_true h4
      subst e1
      subst e4
      obtain ⟨d1, _, d3⟩ := okName_d h3
      obtain ⟨y1, y2, y3⟩ := okName_d h6
      obtain ⟨x1, x2, _⟩ := okName_d h7
      obtain ⟨n1, n2, n3⟩ := nd
      have kk : X.K = Γ.K := g.K
      have pv : PE (X.suite a ((a, oe) :: pn)) (.Name x px) (tVar j) := pe_var (X := X.suite a ((a, oe) :: pn)) (i := j) (by rw [g.N]; exact slotIs_ok h8) (isVis_ok g.nm h9) x1 x2
      have pc : PE (X.suite a ((a, oe) :: pn)) (.Name c.nm py) (tC (c.isV Γ.K)) := by
        cases c with
        | own z => exact pe_glob (X := X.suite a ((a, oe) :: pn)) (isGl_ok g.nm h5) (by rw [g.mg]; exact n3) rfl y1
        | blt z => exact pe_bltn (X := X.suite a ((a, oe) :: pn)) (isGl_ok g.nm h5) (by rw [g.mg]; exact n3.1) n3.2.1 rfl n3.2.2 y1
      refine PE.mono (pe_callB (r := fun us H Q => ∃ (v1 v2 : V) (D : Addr) (b : Bool), us = [v1, v2] ∧ v1 = .ref a ∧ v2 = c.isV Γ.K ∧ cls = .ref D ∧ isXB X.K D = true ∧ PySem.W.kitOne X.K (.ref D) (c.v Γ.K) = some b ∧ (d = none ∨ ∃ dd us, d = some dd ∧ H dd = some (.xd us)) ∧ Q (.bl b) H) (fun pins s σ H vs us Q Iv rv hq => ?_)
        (isGl_ok g.nm h2) (by rw [g.mg]; exact n1) (by rfl) (pa_cons pv (pa_cons pc pa_nil (star_cons rfl)) (star_cons rfl)) d3 d1 (star_cons rfl) rfl) fun σ H Q q => ?_
      · obtain ⟨v1, v2, D, b, rfl, rfl, rfl, rfl, f1, f2, f3, q⟩ := hq
        cases rv with
        | cons r1 r2 =>
          cases r2 with
          | cons r2 r3 =>
            cases r3
            cases r1
            have ev : ∀ u, RelV (c.isV Γ.K) u → u = c.v Γ.K := fun u r => by cases c <;> exact r
            rw [ev _ r2]
            exact call_isX f1 hz hf f2 Iv f3 q
      · obtain ⟨I, ρ, T, own, ex, w, er, rx, nm, p⟩ := q
        have p : Post Γ (RepR Γ n own) WN σ H I (match tab.lookup ex.c with
          | some b => Ev.ok (R.v (.sh (.bl b))) T
          | none => .no) Q := p
        split at p
        · rename_i b eb
          obtain ⟨f1, f2⟩ := isXT_ok n2 eb
          obtain ⟨r1, r2⟩ := rx
          refine ⟨.ref a, nm j rfl, _, _, He.ga Γ.K ex.c, b, rfl, rfl, rfl, r1, by rw [kk]; exact f1, by rw [kk]; exact f2, ?_, p _ H I Ext.refl w (.sh .ofBl)⟩
          rcases r2 with ⟨_, rd⟩ | ⟨dd, us, rd, q2, _⟩
          · exact .inl rd
          · exact .inr ⟨dd, us, rd, w.gh _ _ q2⟩
        · exact p.elim
    · cases h
/-- return a -/
def hRet (a : HE) : HS where
  ev := fun e ρ T => (a.ev e ρ T).bind fun r T1 => match retLV r with
    | some lv => .ok (.rt lv) T1
    | none => .no
  chk := fun k sc i st => match st with
    | [.Return (some e) _] => a.chk k sc i e
    | _ => false
  need := a.need
  ok := by
    intro Γ k sc X st n i ad oe cls d pn g nd h hz hf
    split at h
    · refine PSs.mono (pss_cons (ps_ret (a.ok (n := n) g nd h hz hf)) pss_nil) fun D σ H q => ?_
      obtain ⟨I, ρ, T, own, ex, w, er, rx, nm, p⟩ := q
      refine ⟨I, ρ, T, own, ex, w, er, rx, nm, (PostS.step (rel := RepR Γ n own) (show PostS Γ n WN D (Ow own) H I _ from p) Ext.refl).imp fun v H1 q1 => ?_⟩
      obtain ⟨r, T1, I1, _, x1, w1, r1, p1⟩ := q1
      split at p1
      · rename_i lv e1
        obtain ⟨as, l1, f1⟩ := retLV_ok e1 r1
        exact p1 v H1 I1 as (x1.mono fun _ q => q.elim) w1 l1 f1
      · exact p1.elim
    · cases h
end Tp
end
section
set_option Elab.async false
set_option linter.all false
set_option maxRecDepth 100000
set_option maxHeartbeats 2000000
/-! TsB: repr of any value: plain data, dicts of plain data, own objects, lists and tuples in which own objects stand; in a suite, too. -/
namespace Tp
open PySem PySem.Spec PyProof.Rows L2

/-! ### dicts of plain things -/
def shXkv : List (PyData × PyData) → Option Nat
  | [] => some 0
  | kv :: r => (shX kv.1).bind fun a => (shX kv.2).bind fun b => (shXkv r).map fun c => a + b + 4 + c
theorem shXkv_ok : ∀ {ps : List (PyData × PyData)} {n : Nat}, shXkv ps = some n → piled (PyData.shownKv ps) ≤ n ∧ PyData.showableKv ps = true ∧ PyData.hasDictAll (ps.map (·.1)) = false ∧ PyData.hasDictAll (ps.map (·.2)) = false
  | [], n, h => by
    cases h
    exact ⟨by simp [PyData.shownKv, piled], by simp only [PyData.showableKv], by simp only [List.map_nil, PyData.hasDictAll], by simp only [List.map_nil, PyData.hasDictAll]⟩
  | (k, v) :: r, n, h => by
    obtain ⟨a, h1, h⟩ := Option.bind_eq_some_iff.mp h
    obtain ⟨b, h2, h⟩ := Option.bind_eq_some_iff.mp h
    obtain ⟨c, h3, rfl⟩ := Option.map_eq_some_iff.mp h
    obtain ⟨p1, p2, p3⟩ := shX_ok k a h1
    obtain ⟨q1, q2, q3⟩ := shX_ok v b h2
    obtain ⟨r1, r2, r3, r4⟩ := shXkv_ok h3
    have e : (Str.ofString ": ").length = 2 := by decide
    refine ⟨?_, by simp only [PyData.showableKv, p2, q2, r2]; rfl, by simp only [List.map_cons, PyData.hasDictAll, p3, r3]; rfl, by simp only [List.map_cons, PyData.hasDictAll, q3, r4]; rfl⟩
    simp only [PyData.shownKv]
    rw [piled_cons, Str.length_append, Str.length_append]
    omega
theorem dictText_up (ps : List Str) : (dictText ps).length ≤ piled ps + 2 := by
  have e0 : (Str.ofString "{").length = 1 := by decide
  have e1 : (Str.ofString "}").length = 1 := by decide
  show ((Str.ofString "{" ++ Str.join (Str.ofString ", ") ps) ++ Str.ofString "}").length ≤ _
  rw [Str.length_append, Str.length_append]
  by_cases h : ps = []
  · subst h
    have e2 : (Str.join (Str.ofString ", ") ([] : List Str)).length = 0 := by decide
    omega
  · have : (Str.join (Str.ofString ", ") ps).length + 2 = piled ps := join_length_add ps h
    omega
def okDctY (ps : List (PyData × PyData)) : Bool := match shXkv ps with
  | some n => decide (n ≤ 900000) && decide (PyData.depthKv ps ≤ 60)
  | none => false
def dctPyY : List (Key × D) → Option (List (PyData × PyData))
  | [] => some []
  | kd :: r => match toPy kd.2, dctPyY r with
    | some p, some ps => some ((keyPy kd.1, p) :: ps)
    | _, _ => none
inductive AtY (K : PySem.W.Frag) (H : Hp) : List (Key × V) → List (PyData × PyData) → Prop
  | nil : AtY K H [] []
  | cons {k : Key} {v : V} {p : PyData} {us ps} : Dp K H v p → AtY K H us ps → AtY K H ((k, v) :: us) ((keyPy k, p) :: ps)
theorem dctY_ok {Γ : Gam} {I : Im} {H : Hp} (gh : ∀ a o, I.G a = some o → H a = some o) : ∀ {kvs : List (Key × D)} {us : List (Key × V)} {ps : List (PyData × PyData)}, RepK Γ I kvs us → dctPyY kvs = some ps → AtY Γ.K H us ps
  | [], _, _, r, e => by simp only [RepK] at r; subst r; cases e; exact .nil
  | kd :: r, _, _, h, e => by
    simp only [RepK] at h
    obtain ⟨v, us, rfl, h1, h2⟩ := h
    simp only [dctPyY] at e
    split at e
    · rename_i p ps e1 e2
      cases e
      exact .cons (toPy_ok gh h1 e1) (dctY_ok gh h2 e2)
    · cases e
theorem AtY.reads {X : Cx} {pins : List (Addr × Obj)} {σ : L2.St} {H : Hp} {s : Shared} (I : L2.Inv X pins σ H s) : ∀ {us : List (Key × V)} {ps : List (PyData × PyData)} {vs : List (Key × Value)} {es : List DictEntry}, AtY X.K H us ps → KV us vs → Pairs (mixKind X.prog X.w) es vs →
    ReadsAll s.heap (es.map (·.key)) (ps.map (·.1)) [] ∧ ∃ bs, ReadsAll s.heap (es.map (·.val)) (ps.map (·.2)) bs
  | _, _, _, _, .nil, .nil, .nil => ⟨.nil, _, .nil⟩
  | _, _, _, _, .cons (k := k) f t, .cons (b := q) ⟨e1, e2⟩ kv, .cons (e := e) c1 c2 ct => by
    obtain ⟨i1, bs, i2⟩ := AtY.reads I t kv ct
    obtain ⟨qk, qv⟩ := q
    have e1 : k = qk := e1
    subst e1
    have hk : Reads s.heap e.key (keyPy k) [] := by
      rcases keyIs_shape (show keyIs k e.key = true from c1) with ⟨i, t, rfl, z⟩ | ⟨x, t, rfl, z⟩
      · rw [z]; exact Reads.int i t
      · rw [z]; exact Reads.str x t
    obtain ⟨as, hv⟩ := Dp.reads I _ _ e.val f (by rw [c2]; exact e2)
    exact ⟨ReadsAll.cons hk i1, _, ReadsAll.cons hv i2⟩
section
variable {X : Cx} {pins : List (Addr × Obj)} {σ : L2.St} {H : Hp} {s : Shared} {E : Value → Shared → Prop} {Q : Value → Shared → Prop}
theorem repr_dctY {a : Addr} {us : List (Key × V)} {ps : List (PyData × PyData)} {gs : List Code} (I : L2.Inv X pins σ H s) (hd : Rd H a (.dK us)) (t : AtY X.K H us ps) (ok : okDctY ps = true) (hg : X.A.guards = some gs) (hc : ClearOf gs s.heap) (hu : X.A.units + 200 < cLine)
    (hQ : ∀ h' u tk, KeepAll s.heap h' → Q (.str (PyData.dict ps).shown u) { s with heap := h', toks := tk }) : wpAny (model X.prog X.w) X.A (call (.builtin "repr") [.ref a]) Q E s := by
  unfold okDctY at ok
  split at ok
  case h_2 => cases ok
  rename_i n e
  obtain ⟨ok1, ok2⟩ := b2 ok
  have ok1 := of_decide_eq_true ok1
  have ok2 := of_decide_eq_true ok2
  obtain ⟨z1, z2, z3, z4⟩ := shXkv_ok e
  obtain ⟨_, ns, vs, kv, o, es, ep, h1, h2, h3, _, h5, _⟩ := dk_rd I.hok hd
  obtain ⟨i1, bs₁, i2⟩ := AtY.reads I t kv h5
  have up := dictText_up (PyData.shownKv ps)
  have hz : (dictText (PyData.shownKv ps)).length ≤ sizeLine := by rw [sizeLine_eq]; omega
  have hr : Reads s.heap (.ref a) (.dict ps) (a :: [] ++ bs₁) := Reads.dict h1 h2.1 h3 i1 i2
  obtain ⟨s1, s2⟩ := PyData.showableKv_split ps z2
  obtain ⟨b1, hb1, k1⟩ := ReprAllK.of_readsAll (prog := X.prog) (w := X.w) i1 s1 (fun hx => by rw [z3] at hx; cases hx) fun t ht => let ⟨p, hp, hl⟩ := PyData.shownKv_key_le ps t ht; Nat.le_trans hl (Nat.le_trans (dictText_mem_le hp) hz)
  obtain ⟨b2', hb2, k2⟩ := ReprAllK.of_readsAll (prog := X.prog) (w := X.w) i2 s2 (fun hx => by rw [z4] at hx; cases hx) fun t ht => let ⟨p, hp, hl⟩ := PyData.shownKv_val_le ps t ht; Nat.le_trans hl (Nat.le_trans (dictText_mem_le hp) hz)
  have hb : ReadAtMost s.heap (PyData.depthKv ps) (b1 ++ b2') := (hb1.mono (PyData.depthAll_keys_le ps)).append (hb2.mono (PyData.depthAll_vals_le ps))
  have out : a ∉ b1 ++ b2' := not_mem_of_deeper hr (by simp only [PyData.depth]; omega) hb
  have kk := ReprEntriesK.of_two es.toList _ _ (k1.more_le (fun b hb => List.mem_append_left b2' hb) (PyData.depthAll_keys_le ps)) (k2.more_le (fun b hb => List.mem_append_right b1 hb) (PyData.depthAll_vals_le ps))
  have cl : ∀ b, b ∈ a :: (b1 ++ b2') → Clear gs b := fun b hm => by
    rcases List.mem_cons.mp hm with e | hm
    · rw [e]; exact hc _ _ _ hr
    · obtain ⟨d', as', r', _⟩ := hb b hm
      exact hc _ _ _ r'
  simp only [PyData.shown] at hQ
  rw [PyData.shownKv_eq] at hQ hz
  refine call_repr_slot (T := "dict") (idr := "dict.__repr__") (by omega) ⟨o, h1, h2.1⟩ F.slot_dict_repr ?_
  exact call_dict_reprK h1 h2.1 h3 ns out kk (A := X.A.in1) hg cl (by show X.A.units + 1 + (PyData.depthKv ps + 1) < cLine; omega) (fun _ _ z => z) (fun h' u tk hk => ⟨_, _, rfl, hQ h' u tk hk⟩) hz
end

/-! ### any value -/
def hrF (rows : List HRow) : FEv := fun ds T => match ds with
  | [d] => (match hrTxt rows 3 d with
    | some m => .ok (.sh (.str m)) T
    | none => .no)
  | _ => .no
def hTab (rows : List HRow) : List ORow := rows.map fun r => ⟨r.c, r.s, hrF rows, r.b⟩
def nestT (rows : List HRow) : List D → Option (List Str)
  | [] => some []
  | d :: ds => (hrTxt rows 3 d).bind fun t => (nestT rows ds).map fun ts => t :: ts
def nestS (txt : List Str → Str) (rows : List HRow) (xs : List D) : Option Str := if xs.any isObj = true then (nestT rows xs).bind fun ts => if (txt ts).length ≤ lim then some (txt ts) else none else none
/-- the text of a value -/
def reprA (rows : List HRow) : R → Option Str
  | .v (.sh (.obj c xs)) => (hrTxt rows 3 (.obj c xs)).bind fun m => if m.length ≤ lim then some m else none
  | .v (.sh (.dct kvs)) => (dctPyY kvs).bind fun ps => if okDctY ps then some (PyData.dict ps).shown else none
  | r => (match rPy r with
    | some p => if okShowX p then some p.shown else none
    | none => (match r with
      | .v (.ow xs) => nestS listText rows xs
      | .v (.sh (.lst xs)) => nestS listText rows xs
      | .v (.sh (.fz xs)) => nestS listText rows xs
      | .v (.sh (.tup xs)) => nestS tupleText rows xs
      | _ => none))
theorem tab_find {rows : List HRow} {c : Nat} {xs : List D} {m : Str} (h : hrTxt rows 3 (.obj c xs) = some m) : ∃ r, (hTab rows).find? (fun r => r.c == c) = some r ∧ r.ev = hrF rows := by
  have h : (match rows.find? (fun r => r.c == c) with
    | some r => joinT (r.ps.map (partTxt (hrTxt rows 2) c xs)) Str.empty
    | none => none) = some m := h
  split at h
  · rename_i r hr
    refine ⟨⟨r.c, r.s, hrF rows, r.b⟩, ?_, rfl⟩
    unfold hTab
    rw [List.find?_map]
    show (rows.find? fun r => r.c == c).map _ = _
    rw [hr]; rfl
  · cases h
theorem nestT_els {rows : List HRow} {T : Cs} : ∀ {ds : List D} {ts : List Str}, nestT rows ds = some ts → elsEv (hTab rows) ds T = .ok ts T
  | [], _, h => by cases h; rfl
  | d :: ds, _, h => by
    obtain ⟨t, h1, h⟩ := Option.bind_eq_some_iff.mp h
    obtain ⟨ts, h2, rfl⟩ := Option.map_eq_some_iff.mp h
    have e : elEv (hTab rows) d T = .ok t T := by
      cases d with
      | obj c xs =>
        obtain ⟨r, hr, hv⟩ := tab_find h1
        show (match (hTab rows).find? (fun r => r.c == c) with
          | some r => (match r.ev [.obj c xs] T with
            | .ok (.sh (.str m)) T' => Ev.ok m T'
            | _ => .no)
          | none => .no) = _
        rw [hr]
        show (match r.ev [.obj c xs] T with
            | .ok (.sh (.str m)) T' => Ev.ok m T'
            | _ => .no) = _
        rw [hv]
        have e2 : hrF rows [.obj c xs] T = .ok (.sh (.str t)) T := by
          show (match hrTxt rows 3 (.obj c xs) with
            | some m => Ev.ok (LV.sh (.str m)) T
            | none => .no) = _
          rw [h1]
        rw [e2]
      | _ =>
        obtain ⟨p, q1, q2⟩ := Option.bind_eq_some_iff.mp (show (rPy (.v (.sh _))).bind (fun p => if okShowX p then some p.shown else none) = some t from h1)
        split at q2
        · rename_i ok
          cases q2
          simp only [elEv, q1, if_pos ok]
        · cases q2
    show (elEv (hTab rows) d T).bind _ = _
    rw [e]
    show (elsEv (hTab rows) ds T).bind _ = _
    rw [nestT_els h2]; rfl
def needH (Γ : Gam) : List HRow → Prop
  | [] => True
  | r :: rs => HFacts Γ r ∧ needH Γ rs
theorem needH_mem {Γ : Gam} : ∀ {l : List HRow}, needH Γ l → ∀ r, r ∈ l → HFacts Γ r
  | _ :: _, h, r, hr => by
    rcases List.mem_cons.mp hr with e | hr
    · rw [e]; exact h.1
    · exact needH_mem h.2 r hr
section
variable {Γ : Gam} {n : Nat} {rows : List HRow} {X : Cx} {pins : List (Addr × Obj)} {σ : L2.St} {s : Shared} {Hs H : Hp} {Is I : Im} {T : Cs} {own : Nat → List Addr} {Q : VK} {r : R} {v : V} {u : Value}
theorem run_hot (HF : ∀ r, r ∈ rows → HFacts Γ r) (mgr : Γ.mg "repr" = none) (u0 : Γ.ug = []) (e1 : X.prog = Γ.P) (e2 : X.w = Γ.w) (e3 : X.K = Γ.K) (e4 : X.mg = Γ.mg) (e5 : X.base = Γ.base) (gd : GdX Γ X.A) (rm : L2H.RoomH 8 X.A)
    {A' : Around} {a : Addr} (hA : UndA X.A.in1 A' a) (t : ORow) (ht : t ∈ hTab rows) : RunR Γ X σ A' a t.c t.ev := by
  obtain ⟨r, hr, rfl⟩ := List.mem_map.mp ht
  obtain ⟨CF, ok, f, fd, hs, hf, FD⟩ := HF r hr
  refine ⟨f, by rw [e3]; exact hs, by rw [e3]; exact hf, fun pins s H I T T' xs m p E Iv w rv ev => ?_⟩
  have ev : (match hrTxt rows 3 (.obj r.c xs) with
    | some m => Ev.ok (LV.sh (.str m)) T
    | none => .no) = .ok (.sh (.str m)) T' := ev
  split at ev
  case h_2 => cases ev
  rename_i m' hm
  cases ev
  obtain ⟨gs, hg, hin⟩ := gd
  have gd' : GdX (Γ.und [a]) A' := by
    obtain ⟨id, rest, kw, hg'⟩ := hA.guards gs hg
    refine ⟨_, hg', fun id' v rest' kw' hm b hv => ?_⟩
    rcases List.mem_cons.mp hm with e | hm
    · cases e; cases hv; exact List.mem_singleton.mpr rfl
    · have := hin id' v rest' kw' hm b hv
      rw [u0] at this; cases this
  have e0 : Env0 Γ.P Γ.w Γ.K Γ.mg Γ.base A' X.stack s H := by
    have := Iv.env0
    rw [e1, e2, e3, e4, e5] at this
    exact ⟨hA.frames.trans this.frames, this.mod, this.bs, this.bsz, this.funs, this.frf, this.hok, this.bare⟩
  have rm' : L2H.RoomH (2 * 3) A' := ⟨by have := hA.depth; have := rm.dp; have e : X.A.in1.depth = X.A.depth := rfl; omega, by have := hA.units; have := rm.un; have e : X.A.in1.units = X.A.units + 1 := rfl; omega⟩
  obtain ⟨f', _, hs', _, run⟩ := hot_all HF mgr 3 [a] A' X.stack s H I T r.c xs p m rm' gd' e0 w rv hm
  rw [hs] at hs'
  cases hs'
  rw [← e1, ← e2] at run
  refine wpAny_call (codeAny_mono run ?_)
  rintro r' s' hq
  match r', hq with
  | .error er, hq =>
    obtain ⟨_, _, _, _, _, _, _, _, _, _, _, _, z⟩ := hq
    exact z.elim
  | .ok (.ret u), hq =>
    obtain ⟨v, H', I3, rv, rfl, I', x', w'⟩ := Iv.after hq
    obtain ⟨tk, rfl⟩ := rv
    exact ⟨tk, H', I', rfl, I3, x', w'⟩
  | .ok .next, hq => exact hq.elim
  | .ok .brk, hq => exact hq.elim
  | .ok .cont, hq => exact hq.elim
/-- repr of any value that reprA knows -/
theorem repr_any (HF : ∀ r, r ∈ rows → HFacts Γ r) (mgr : Γ.mg "repr" = none) (u0 : Γ.ug = []) (e1 : X.prog = Γ.P) (e2 : X.w = Γ.w) (e3 : X.K = Γ.K) (e4 : X.mg = Γ.mg) (e5 : X.base = Γ.base) (gd : GdX Γ X.A) (rm : L2H.RoomH 8 X.A)
    (Iv : Inv X pins σ H s) (x : Ext O0 Hs Is H I) (w : Wf Γ H I T) (rv : RepR Γ n own Hs H I r v) (ru : RelV v u) {m : Str} (hm : reprA rows r = some m) (q : ∀ H' I', Ext O0 Hs Is H' I' → Wf Γ H' I' T → Q (.str m) H') :
    wpAny (model X.prog X.w) X.A (call (.builtin "repr") [u]) (EP X pins σ Q) X.xe s := by
  have hu : X.A.units + 200 < cLine := by have := rm.un; omega
  have nest : ∀ {txt : List Str → Str} {xs : List D}, nestS txt rows xs = some m → nestR (hTab rows) r T = nestF txt (hTab rows) xs T → wpAny (model X.prog X.w) X.A (call (.builtin "repr") [u]) (EP X pins σ Q) X.xe s := fun {txt xs} h1 h2 => by
    unfold nestS at h1
    split at h1
    case isFalse => cases h1
    rename_i ho
    obtain ⟨ts, h3, h4⟩ := Option.bind_eq_some_iff.mp h1
    split at h4
    case isFalse => cases h4
    rename_i hl
    cases h4
    refine nest_any e3 u0 gd hu (fun t ht => ?_) (fun t ht A' a hA => run_hot HF mgr u0 e1 e2 e3 e4 e5 gd rm hA t ht) Iv x w rv ru ?_
    · obtain ⟨r, hr, rfl⟩ := List.mem_map.mp ht
      exact (HF r hr).cl
    · unfold NestQ
      rw [h2]
      unfold nestF
      rw [nestT_els h3]
      show (match (if xs.any isObj = true ∧ (txt ts).length ≤ lim then Ev.ok (R.v (.sh (.str (txt ts)))) T else .no) with
        | .ok (.v (.sh (.str m))) T' => ∀ H' I', Ext O0 Hs Is H' I' → Wf Γ H' I' T' → Q (.str m) H'
        | _ => False)
      rw [if_pos ⟨ho, hl⟩]
      exact q
  have plain : ∀ p, rPy r = some p → okShowX p = true → m = p.shown → wpAny (model X.prog X.w) X.A (call (.builtin "repr") [u]) (EP X pins σ Q) X.xe s := fun p h1 h2 h3 => by
    subst h3
    exact cr_reprG gd hu pins s σ H [v] [u] Q Iv (.cons ru .nil) ⟨v, rfl, by rw [e3]; exact w.ugd, .inl ⟨p, by rw [e3]; exact rPy_ok w h1 rv, h2, q H I x w⟩⟩
  unfold reprA at hm
  split at hm
  · rename_i c xs
    obtain ⟨m', h1, h2⟩ := Option.bind_eq_some_iff.mp hm
    split at h2
    case isFalse => cases h2
    cases h2
    have w' : Wf (Γ.und Γ.ug) H I T := w
    exact hot_repr (L := Γ.ug) (hot_all HF mgr 3) e1 e2 e3 e4 e5 gd ⟨by have := rm.dp; omega, by have := rm.un; omega⟩ Iv w' rv.unsh ru h1 fun H' I' x' w'' => q H' I' (x.tr0 x') w''
  · rename_i kvs
    obtain ⟨ps, h1, h2⟩ := Option.bind_eq_some_iff.mp hm
    split at h2
    case isFalse => cases h2
    rename_i ok
    cases h2
    have hx := rv.unsh
    simp only [Rep] at hx
    obtain ⟨b, o, us, rfl, hb, hk⟩ := hx
    obtain rfl : u = Value.ref b := ru
    obtain ⟨gs, hg, hcl⟩ := gd.clear Iv (by rw [e3]; exact w.ugd)
    exact repr_dctY Iv (.inr ⟨o, w.gh _ _ hb⟩) (by rw [e3]; exact dctY_ok w.gh hk h1) ok hg hcl hu fun h' u' tk hk' => ⟨.str _, H, Iv.kept hk', ⟨_, rfl⟩, q H I x w⟩
  · split at hm
    · rename_i p h1
      split at hm
      · rename_i ok
        cases hm
        exact plain p h1 ok rfl
      · cases hm
    · split at hm
      · exact nest hm rfl
      · exact nest hm rfl
      · exact nest hm rfl
      · exact nest hm rfl
      · cases hm
end
/-- repr(a) -/
def cReprA (rows : List HRow) (a : CE) : CE where
  ev := fun ρ T => (a.ev ρ T).bind fun r T1 => Ev.opt ((reprA rows r).map fun m => .v (.sh (.str m))) T1
  chk := fun k sc e => match e with
    | .Call (.Name x _) [y] [] _ => decide (8 ≤ k) && (decide (x = ("repr" : Str)) && (isGl sc.nm x && (okName x && (notStar y && a.chk k sc y))))
    | _ => false
  need := fun Γ => Γ.ug = [] ∧ needH Γ rows ∧ Γ.mg "repr" = none ∧ a.need Γ
  z := a.z
  ok := by
    intro Γ k W sc X e n g nd h hz
    split at h
    · obtain ⟨h5, h⟩ := b2 h
      obtain ⟨h3, h⟩ := b2 h
      obtain ⟨h2, h⟩ := b2 h
      obtain ⟨h1, h⟩ := b2 h
      obtain ⟨hs, h9⟩ := b2 h
      have h5 := of_decide_eq_true h5
      have e3 := of_decide_eq_true h3
      subst e3
      obtain ⟨d1, _, d3⟩ := okName_d h1
      obtain ⟨n1, n2, n3, n4⟩ := nd
      refine PE.mono (pe_callB (r := fun us H Q => ∃ v Hs Is I T own r m, us = [v] ∧ Ext O0 Hs Is H I ∧ Wf Γ H I T ∧ RepR Γ n own Hs H I r v ∧ reprA rows r = some m ∧ ∀ H' I', Ext O0 Hs Is H' I' → Wf Γ H' I' T → Q (.str m) H') (fun pins s σ H vs us Q Iv rv hq => ?_) (isGl_ok g.nm h2) (by rw [g.mg]; exact n3) PyProof.Rows.boot_repr
        (pa_cons (a.ok (n := n) g n4 h9 hz) pa_nil (star_cons hs)) d3 d1 (star_cons hs) rfl) fun σ H Q q => ?_
      · obtain ⟨v, Hs, Is, I, T, own, r, m, rfl, x, w, rr, hm, p⟩ := hq
        cases rv with
        | cons r1 r2 =>
          cases r2
          exact repr_any (needH_mem n2) n3 n1 g.prog g.w g.K g.mg g.base g.gd ((L2H.roomH_of g.room).mono h5) Iv x w rr r1 hm p
      · obtain ⟨I, ρ, T, own, w, er, p⟩ := q
        refine ⟨I, ρ, T, own, w, er, (Post.step (rel := RepR Γ n own) (show Post Γ (RepR Γ n own) W σ H I ((a.ev ρ T).bind fun r T1 => Ev.opt ((reprA rows r).map fun m => .v (.sh (.str m))) T1) Q from p) Ext.refl).imp fun v H1 q1 => ?_⟩
        obtain ⟨r, T1, I1, _, x1, w1, r1, p1⟩ := q1
        obtain ⟨c, e1, k1⟩ := Post.opt p1
        obtain ⟨m, e2, rfl⟩ := Option.map_eq_some_iff.mp e1
        exact ⟨v, H, I, I1, T1, own, r, m, rfl, x1, w1, r1, e2, fun H' I' x' w' => k1 _ H' I' x' w' (.sh .ofStr)⟩
    · cases h
/-- repr(a), in a suite -/
def hReprA (rows : List HRow) (a : HE) : HE where
  ev := fun e ρ T => (a.ev e ρ T).bind fun r T1 => Ev.opt ((reprA rows r).map fun m => .v (.sh (.str m))) T1
  chk := fun k sc i e => match e with
    | .Call (.Name x _) [y] [] _ => decide (8 ≤ k) && (decide (x = ("repr" : Str)) && (isGl sc.nm x && (okName x && (notStar y && a.chk k sc i y))))
    | _ => false
  need := fun Γ => Γ.ug = [] ∧ needH Γ rows ∧ Γ.mg "repr" = none ∧ a.need Γ
  ok := by
    intro Γ k sc X e n i ad oe cls d pn g nd h hz hf
    split at h
    · obtain ⟨h5, h⟩ := b2 h
      obtain ⟨h3, h⟩ := b2 h
      obtain ⟨h2, h⟩ := b2 h
      obtain ⟨h1, h⟩ := b2 h
      obtain ⟨hs, h9⟩ := b2 h
      have h5 := of_decide_eq_true h5
      have e3 := of_decide_eq_true h3
      subst e3
      obtain ⟨d1, _, d3⟩ := okName_d h1
      obtain ⟨n1, n2, n3, n4⟩ := nd
      refine PE.mono (pe_callB (r := fun us H Q => ∃ v Hs Is I T own r m, us = [v] ∧ Ext O0 Hs Is H I ∧ Wf Γ H I T ∧ RepR Γ n own Hs H I r v ∧ reprA rows r = some m ∧ ∀ H' I', Ext O0 Hs Is H' I' → Wf Γ H' I' T → Q (.str m) H') (fun pins s σ H vs us Q Iv rv hq => ?_) (isGl_ok g.nm h2) (by rw [g.mg]; exact n3) PyProof.Rows.boot_repr
        (pa_cons (a.ok (n := n) g n4 h9 hz hf) pa_nil (star_cons hs)) d3 d1 (star_cons hs) rfl) fun σ H Q q => ?_
      · obtain ⟨v, Hs, Is, I, T, own, r, m, rfl, x, w, rr, hm, p⟩ := hq
        cases rv with
        | cons r1 r2 =>
          cases r2
          exact repr_any (needH_mem n2) n3 n1 g.prog g.w g.K g.mg g.base g.gd ⟨by have := g.dp; omega, by have := g.un; omega⟩ Iv x w rr r1 hm p
      · obtain ⟨I, ρ, T, own, ex, w, er, rx, nm, p⟩ := q
        refine ⟨I, ρ, T, own, ex, w, er, rx, nm, (Post.step (rel := RepR Γ n own) (show Post Γ (RepR Γ n own) WN σ H I ((a.ev ex ρ T).bind fun r T1 => Ev.opt ((reprA rows r).map fun m => .v (.sh (.str m))) T1) Q from p) Ext.refl).imp fun v H1 q1 => ?_⟩
        obtain ⟨r, T1, I1, _, x1, w1, r1, p1⟩ := q1
        obtain ⟨c, e1, k1⟩ := Post.opt p1
        obtain ⟨m, e2, rfl⟩ := Option.map_eq_some_iff.mp e1
        exact ⟨v, H, I, I1, T1, own, r, m, rfl, x1, w1, r1, e2, fun H' I' x' w' => k1 _ H' I' x' w' (.sh .ofStr)⟩
    · cases h
theorem hrow_ok {Γ : Gam} {r : HRow} (CF : ClsFull Γ r.c) (ok : rowOk r = true) (F : ∃ fd, FunD Γ.K r.s.nm r.s.qual r.s.params r.s.body r.s.scope (r.s.dfl.map constV) [] (He.fAd Γ.K ((cdT r.c).1, some "__repr__")) fd) (h : reprB Γ.K (cdT r.c).1 = true) : HFacts Γ r := by
  unfold reprB at h
  obtain ⟨h1, h2⟩ := b2 h
  obtain ⟨fd, F⟩ := F
  exact ⟨CF, ok, _, fd, beq_iff_eq.mp h1, h2, F⟩
end Tp
end
section
set_option Elab.async false
set_option linter.all false
set_option maxRecDepth 100000
set_option maxHeartbeats 2000000
/-! TsC: try with several except clauses, each with a name or without. -/
namespace Tp
open PySem PySem.Spec PyProof.Rows L2
/-- a clause: its class, the slot of its name, its suite -/
structure HCl where
  c : Value
  i : Option Nat
  ts : Addr → Value → Option Addr → TS
def wClauses (K : PySem.W.Frag) (Wo : WX) (D : Ends) : List HCl → WX
  | [] => Wo
  | r :: l => fun cls d σ H => ∃ b, PySem.W.exmOne K cls r.c = some b ∧ (b = true → ∀ a, H a = none → match r.i with
      | none => r.ts a cls d D σ H
      | some j => r.ts a cls d (offD j D) (σ.set j (some (.ref a))) H) ∧ (b = false → wClauses K Wo D l cls d σ H)
inductive ClsOk (X : Cx) : List ExceptHandler → List HCl → Prop
  | nil : ClsOk X [] []
  | bare {x : Str} {c : Value} {ts : Addr → Value → Option Addr → TS} {b0 : Stmt} {su : List Stmt} {np hp : Pos} {hs : List ExceptHandler} {l : List HCl} (nm : Names X x c)
      (ok : ∀ (a : Addr) (oe : Obj) (cls : Value) (d : Option Addr) (pn : List (Addr × Obj)), Zc cls d oe → (∃ vs, oe.data = .fields vs) → PSs (X.suite a ((a, oe) :: pn)) (b0 :: su) (ts a cls d)) (more : ClsOk X hs l) :
      ClsOk X (.ExceptHandler (some (.Name x np)) none (b0 :: su) hp :: hs) (⟨c, none, ts⟩ :: l)
  | named {x n : Str} {j : Nat} {c : Value} {ts : Addr → Value → Option Addr → TS} {b0 : Stmt} {su : List Stmt} {np hp : Pos} {hs : List ExceptHandler} {l : List HCl} (nm : Names X x c) (hj : X.N[j]? = some n) (hl : X.env.kindOf n = some .local)
      (ok : ∀ (a : Addr) (oe : Obj) (cls : Value) (d : Option Addr) (pn : List (Addr × Obj)), Zc cls d oe → (∃ vs, oe.data = .fields vs) → PSs (X.suite a ((a, oe) :: pn)) (b0 :: su) (ts a cls d)) (more : ClsOk X hs l) :
      ClsOk X (.ExceptHandler (some (.Name x np)) (some n) (b0 :: su) hp :: hs) (⟨c, some j, ts⟩ :: l)
section
variable {X : Cx} {body : List Stmt} {h0 : ExceptHandler} {hs : List ExceptHandler} {l : List HCl} {tpos : Pos} {tb : WX → TS} {Wo : WX}
theorem ps_tryC (st : X.stack = X.env :: X.outer) (fr : X.env.frame = some X.env.locals) (nd : X.N.Nodup) (tk : Takes X Wo)
    (hb : ∀ (W : WX) (pn : List (Addr × Obj)) (xe : Value → Shared → Prop), Takes (X.tr pn xe) W → PassesOwn (model X.prog X.w) X.A X.env xe → PSs (X.tr pn xe) body (tb W))
    (cl : ClsOk X (h0 :: hs) l) : PS X (.Try body (h0 :: hs) [] [] tpos) (fun D σ H => tb (wClauses X.K Wo D l) D σ H) := by
  constructor
  intro pins s σ H D I want
  have xok := I.ok
  have frs0 : X.A.frames = some (X.env :: X.outer) := by rw [xok.frames, st]
  refine wpAny_Try_except ?_
  have inner := hb (wClauses X.K Wo D l) (X.pn ++ pins) (fun e s₁ => wpAny (model X.prog X.w) X.A (noteFrame e X.env) (fun _ s₂ => wpAny (model X.prog X.w) X.A (setFlight e none) (fun _ s₃ =>
    wpAny (model X.prog X.w) X.A (handleBy e X.env (h0 :: hs)) (SP X pins D) X.xe s₃) X.xe s₂) X.xe s₁) (fun u s' caught => ?take) PassesOwn.looking
  case take =>
    obtain ⟨x, B, sI, p', σ', H', cls, d, rfl, J0, nb, up, sky, nx, osx, agx, wish⟩ := caught
    have J : Inv X pins σ' H' sI := J0.ofTry xok
    have sky : Sky B (X.env :: X.outer) x (Zc cls d) X.env.locals s'.heap := by rw [← st]; exact sky
    show wpAny (model X.prog X.w) X.A (noteFrame (.ref x) X.env) _ _ _
    refine Sky.land Zc.steady frs0 fr sky fun hA flA upA => ?_
    have JA : Inv X pins σ' H' { s' with heap := hA } := J.landed nb flA.1 (up.trans upA) osx agx
    obtain ⟨oA, vA, gA, zA, dA⟩ := flA.there
    have outside : x ∉ frs (X.env :: X.outer) := fun hm => by
      obtain ⟨_, o', e', hnf⟩ := flA.2.2.1.mem hm
      rw [gA] at e'; cases e'
      exact hnf _ dA
    have nLoc : x ≠ X.env.locals := fun z => outside (List.mem_filterMap.mpr ⟨X.env, List.mem_cons_self, by rw [fr, z]⟩)
    have nFs : x ∉ X.fs := fun hm => by
      obtain ⟨e, he, q⟩ := List.mem_filterMap.mp hm
      exact outside (List.mem_filterMap.mpr ⟨e, List.mem_cons_of_mem _ he, q⟩)
    have SA := JA.suite gA dA nx nLoc nFs
    have looks : ∀ {x0 : Str} {c : Value} {np : Pos}, Names X x0 c → ∀ {Q : Value → Shared → Prop} {E : Value → Shared → Prop}, Q c { s' with heap := hA } → wpAny (model X.prog X.w) (X.A.mark (some (.ref x))) (eval (.Name x0 np) X.env) Q E { s' with heap := hA } := fun {x0 c np} nm {Q E} q => by
      obtain ⟨hg, hdb, hm | ⟨hm, hv, hn⟩⟩ := nm
      · exact ld_glob (X := X.suite x ((x, oA) :: (X.pn ++ pins))) SA hg hm q hdb
      · exact ld_blt (X := X.suite x ((x, oA) :: (X.pn ++ pins))) SA hg hm hv q hn hdb
    have LT : PySem.W.Looks (model X.prog X.w) hA (typeOf (.ref x)) cls := fun A Q E s k q => wpAny_typeOf_ref (k _ _ gA) (by rw [zA.1]; exact q)
    have all : ∀ {ks : List ExceptHandler} {m : List HCl}, ClsOk X ks m → wClauses X.K Wo D m cls d σ' H' → wpAny (model X.prog X.w) X.A (handleBy (.ref x) X.env ks) (SP X pins D) X.xe { s' with heap := hA } := by
      intro ks m hk
      induction hk with
      | nil =>
        intro w
        refine wpAny_handleBy_nil ?_
        obtain ⟨_, _, _, oe, vs, T, oT, ts', he, hz, hd, h1, hr⟩ := id flA
        unfold PySem.passOn
        refine wpAny_bind (wpAny_field he hd h1 ?_)
        rw [if_neg (show ¬ ((Value.ref T == Value.none) = true) from by simp)]
        have out : wpAny (model X.prog X.w) X.A (setFlight (.ref x) X.env.frame) (fun _ s4 => wpAny (model X.prog X.w) X.A (throw (.ref x) : Sem Flow) (SP X pins D) X.xe s4) X.xe { s' with heap := hA } := by
          rw [fr]
          refine HandSPX.setFlight_upZ flA fun hB hh upB => wpAny_throw (tk _ _ ?_)
          exact ⟨x, B, sI, pins, σ', H', cls, d, rfl, J, nb, (up.trans upA).trans upB, .inr (.inr (by rw [st]; exact hh)), nx, osx, agx, w⟩
        first
          | exact wpAny_bind (wpAny_pure (wpAny_bind out))
          | exact wpAny_bind out
      | bare nm ok more ih =>
        intro w
        obtain ⟨b, hb1, yes, no⟩ := w
        have LM := PySem.W.exm_one (M := model X.prog X.w) (JA.kIn) LT hb1
        refine wpAny_handleBy_cons (codeAny_handlers_test ?_) (by intro q; cases q)
        refine looks nm (LM.here ?_)
        cases b with
        | false => exact ih (no rfl)
        | true =>
          refine codeAny_handlers_suite ?_
          refine HandSPX.lands_againZ flA fun hB flB upB => ?_
          have JB : Inv X pins σ' H' { s' with heap := hB } := J.landed nb flB.1 ((up.trans upA).trans upB) osx agx
          obtain ⟨oB, vB, gB, zB, dB⟩ := flB.there
          have SB := JB.suite gB dB nx nLoc nFs
          have run := (ok x oB cls d (X.pn ++ pins) zB ⟨_, dB⟩).run [] _ _ H' _ SB (yes rfl x nx)
          refine wpAny_mono run (fun f s6 hsp => ?_) (fun _ _ z => False.elim z)
          cases f with
          | next => exact let ⟨_, _, S, q⟩ := hsp; ⟨_, _, S.unsuite xok, q⟩
          | brk => exact let ⟨_, _, S, q⟩ := hsp; ⟨_, _, S.unsuite xok, q⟩
          | cont => exact let ⟨_, _, S, q⟩ := hsp; ⟨_, _, S.unsuite xok, q⟩
          | ret u => exact let ⟨_, _, _, S, r, q⟩ := hsp; ⟨_, _, _, S.unsuite xok, r, q⟩
      | @named x0 n0 j0 c0 ts0 b00 su0 np0 hp0 hs0 l0 nm hj hl ok more ih =>
        intro w
        obtain ⟨b, hb1, yes, no⟩ := w
        have LM := PySem.W.exm_one (M := model X.prog X.w) (JA.kIn) LT hb1
        refine wpAny_handleBy_cons (codeAny_handlers_test ?_) (by intro q; cases q)
        refine looks nm (LM.here ?_)
        cases b with
        | false => exact ih (no rfl)
        | true =>
          refine codeAny_handlers_suite_as ?_
          refine HandSPX.lands_againZ flA fun hB flB upB => ?_
          have JB : Inv X pins σ' H' { s' with heap := hB } := J.landed nb flB.1 ((up.trans upA).trans upB) osx agx
          obtain ⟨oB, vB, gB, zB, dB⟩ := flB.there
          have SB := JB.suite gB dB nx nLoc nFs
          refine store_ok (X := X.suite x ((x, oB) :: (X.pn ++ pins))) (v := .ref x) SB nd hj (.inl hl) rfl (fun s5 S5 => ?_) (.inr hl)
          have run := (ok x oB cls d (X.pn ++ pins) zB ⟨_, dB⟩).run [] s5 _ H' _ S5 (yes rfl x nx)
          refine wpAny_mono run (fun f s6 hsp => ?_) (fun _ _ z => False.elim z)
          have gone : ∀ {σ6 : L2.St} {H6 : Hp} {Q : Unit → Shared → Prop}, Inv (X.suite x ((x, oB) :: (X.pn ++ pins))) [] σ6 H6 s6 → (∀ s7, Inv X pins (σ6.set _ none) H6 s7 → Q () s7) → wpAny (model X.prog X.w) X.A (do bindName X.env n0 .none; unbindBehindTheSuite X.env n0 hp0) Q X.xe s6 := fun {σ6 H6 Q} S6 hq => gone_ok (M := model X.prog X.w) (A := X.A) (E := X.xe) (S6.unsuite xok) nd hj hl hq
          cases f with
          | next => exact let ⟨_, _, S, q⟩ := hsp; gone (Q := fun _ s7 => _) S fun s7 J7 => ⟨_, _, J7, q⟩
          | brk => exact let ⟨_, _, S, q⟩ := hsp; gone (Q := fun _ s7 => _) S fun s7 J7 => ⟨_, _, J7, q⟩
          | cont => exact let ⟨_, _, S, q⟩ := hsp; gone (Q := fun _ s7 => _) S fun s7 J7 => ⟨_, _, J7, q⟩
          | ret u => exact let ⟨_, _, _, S, r, q⟩ := hsp; gone S fun s7 J7 => ⟨_, _, _, J7, r, q⟩
    exact all cl wish
  refine wpAny_mono (inner.run [] s σ H D (I.toTry _) want) (fun f s1 hsp => ?_) (fun _ _ z => z)
  cases f with
  | next => exact let ⟨_, _, J, q⟩ := hsp; wpAny_execs_nil ⟨_, _, J.ofTry xok, q⟩
  | brk => exact let ⟨_, _, J, q⟩ := hsp; ⟨_, _, J.ofTry xok, q⟩
  | cont => exact let ⟨_, _, J, q⟩ := hsp; ⟨_, _, J.ofTry xok, q⟩
  | ret u => exact let ⟨_, _, _, J, r, q⟩ := hsp; ⟨_, _, _, J.ofTry xok, r, q⟩
end
end Tp
end
section
set_option Elab.async false
set_option linter.all false
set_option maxRecDepth 100000
set_option maxHeartbeats 2000000
/-! TsD: a lambda that a local holds, called. -/
namespace Tp
open PySem PySem.Spec PyProof.Rows L2
/-- a lambda's captured names, the names of the def around it, its evaluator -/
structure LamRow where
  N : List Str
  msc : List (Str × NameKind)
  ce : CE
  lv : Nat
def noPar : Arguments → Bool
  | ⟨[], [], none, [], [], none, []⟩ => true
  | _ => false
theorem noPar_bind {p : Arguments} (h : noPar p = true) (q : Str) (b : Expr) (sc : Scope) (cl : List (Str × Addr)) (pm cv ctv : Value) : bindArgs (PySem.W.kla_fn "<lambda>" q p b sc cl pm cv ctv) ⟨[], []⟩ = pure [] := by
  unfold noPar at h
  split at h
  · rfl
  · cases h
/-- no parameter, no name of its own: captured ones and globals -/
def lamOk (r : LamRow) (p : Arguments) (b : Expr) (sc : Scope) : Bool := noPar p && ((match sc.kind with
    | .function => true
    | _ => false) && (!sc.isCoroutine && (!sc.isGenerator && (decide r.N.Nodup && (sc.names.all (fun y => !decide (y.2 = .local) && !decide (y.2 = .cell)) && (sc.names.all (fun y => !decide (y.2 = .free) || (decide (y.1 ∈ r.N) && decide (r.msc.lookup y.1 = some .cell))) &&
  (r.N.all (fun x => decide (sc.names.lookup x = some .free)) && r.ce.chk r.lv ⟨r.N, sc.names, []⟩ b)))))))
def LamRow.L (r : LamRow) : LamSig := ⟨lamOk r, r.N, r.msc⟩
structure LamS (r : LamRow) (p : Arguments) (b : Expr) (sc : Scope) : Prop where
  par : noPar p = true
  kind : sc.kind = .function
  co : sc.isCoroutine = false
  gen : sc.isGenerator = false
  nd : r.N.Nodup
  own : ∀ y ∈ sc.names, y.2 ≠ .local ∧ y.2 ≠ .cell
  free : ∀ y ∈ sc.names, y.2 = .free → y.1 ∈ r.N ∧ r.msc.lookup y.1 = some .cell
  inn : ∀ x ∈ r.N, sc.names.lookup x = some .free
  chk : r.ce.chk r.lv ⟨r.N, sc.names, []⟩ b = true
theorem lamOk_ok {r : LamRow} {p : Arguments} {b : Expr} {sc : Scope} (h : lamOk r p b sc = true) : LamS r p b sc := by
  obtain ⟨h0, h⟩ := b2 h
  obtain ⟨h1, h⟩ := b2 h
  obtain ⟨h2, h⟩ := b2 h
  obtain ⟨h3, h⟩ := b2 h
  obtain ⟨h4, h⟩ := b2 h
  obtain ⟨h5, h⟩ := b2 h
  obtain ⟨h6, h⟩ := b2 h
  obtain ⟨h7, h8⟩ := b2 h
  refine ⟨h0, ?_, notT h2, notT h3, of_decide_eq_true h4, fun y hy => ?_, fun y hy e => ?_, fun x hx => of_decide_eq_true (List.all_eq_true.mp h7 x hx), h8⟩
  · split at h1
    · assumption
    · cases h1
  · obtain ⟨q1, q2⟩ := b2 (List.all_eq_true.mp h5 y hy)
    exact ⟨by simpa using q1, by simpa using q2⟩
  · rcases Bool.or_eq_true_iff.mp (List.all_eq_true.mp h6 y hy) with q | q
    · rw [decide_eq_true e] at q; cases q
    · obtain ⟨q1, q2⟩ := b2 q
      exact ⟨of_decide_eq_true q1, of_decide_eq_true q2⟩
abbrev lamE (sc : Scope) (q : Str) (clo : List (Str × Addr)) (n f c' : Addr) : PySem.Env := PySem.W.envX q sc n f (.ref c') clo
/-- the lambda's body runs -/
def lamC (Γ : Gam) (N : List Str) (sc : Scope) (q : Str) (clo : List (Str × Addr)) (A : Around) (outer : List PySem.Env) (s : Shared) (H : Hp) (E : XK) (f c' : Addr) : Cx where
  prog := Γ.P
  w := Γ.w
  K := Γ.K
  mg := Γ.mg
  base := Γ.base
  A := A.deeper (lamE sc q clo s.heap.objs.size f c')
  N := N
  s_0 := s
  H_0 := H
  env := lamE sc q clo s.heap.objs.size f c'
  outer := outer
  stack := lamE sc q clo s.heap.objs.size f c' :: outer
  ex := []
  fn := fun _ => false
  calm := true
  pn := []
  xe := fun e s' => wpAny (model Γ.P Γ.w) (A.deeper (lamE sc q clo s.heap.objs.size f c')) (leaving (lamE sc q clo s.heap.objs.size f c') e) (fun _ s'' => L2.CX Γ.P Γ.w outer H s E e s'') (fun e' s'' => L2.CX Γ.P Γ.w outer H s E e' s'') s'
section
variable {Γ : Gam} {r : LamRow} {pa : Arguments} {b : Expr} {sc : Scope} {q : Str} {clo : List (Str × Addr)} {A : Around} {outer : List PySem.Env} {s : Shared} {H : Hp} {E : XK} {f c' : Addr}
theorem lam_good (S : LamS r pa b sc) (gd : GdX Γ A) (rm : Room r.lv (A.deeper (lamE sc q clo s.heap.objs.size f c'))) : Good Γ r.lv (fun cls d _ H => E cls d H) ⟨r.N, sc.names, []⟩ (lamC Γ r.N sc q clo A outer s H E f c') where
  prog := rfl
  w := rfl
  K := rfl
  mg := rfl
  base := rfl
  N := rfl
  nd := S.nd
  calm := rfl
  room := rm
  gd := gd
  nm := rfl
  fk := S.kind
  st := fun x h => by rcases h with h | h <;> cases h
  tk := takes_of rfl rfl rfl rfl
  po := passes_of rfl
  tr := fun _ => ⟨rfl, rfl⟩
  lk := fun h => by cases h
theorem lam_start {vs : List V} {h₁ : Heap} {tk : Nat} (S : LamS r pa b sc) (e0 : Env0 Γ.P Γ.w Γ.K Γ.mg Γ.base A outer s H) (hd : A.handled = none) (C : CloAt Γ.base clo r.N vs) (hns : h₁.Ns s.heap.objs.size fun y => ([] : List (Str × Value)).reverse.lookup y)
    (kp : ∀ b o, s.heap.get? b = some o → h₁.get? b = some o) : L2.Inv (lamC Γ r.N sc q clo A outer s H E f c') [] (vs.map some) H { s with heap := h₁, toks := tk } := by
  have noA : ∀ b : Addr, b ∉ (lamC Γ r.N sc q clo A outer s H E f c').ex := fun b z => absurd (show b ∈ ([] : List Addr) from z) (by simp)
  have cl : ∀ {c : Addr} {u : Option Value}, Γ.base.IsCell c u → H c = none ∧ h₁.IsCell c u := fun {c u} ⟨o, ho, hd⟩ => ⟨(e0.bs c o ho).2, o, kp _ _ (e0.bs c o ho).1, hd⟩
  have look : ∀ x ∈ r.N, ∃ c, clo.lookup x = some c := fun x hx => by
    obtain ⟨i, hi, rfl⟩ := List.getElem_of_mem hx
    obtain ⟨c, _, _, h1, _⟩ := C.at_ i _ (List.getElem?_eq_getElem hi)
    exact ⟨c, h1⟩
  refine ⟨⟨e0.mod, S.kind, rfl, rfl, Nat.le_refl _, fun y z c e1 e2 => C.inj y z c e1 e2, fun y hy => ?_, fun y c z _ => ?_, fun _ => hd, Around.frames_deeper e0.frames, .inr ⟨rfl, rfl⟩, fun b z => absurd z (noA b), e0.bs, e0.bsz, fun b _ _ => noA b,
      fun b z => absurd z (noA b), e0.funs, e0.frf⟩,
    rfl, e0.bare, Un.kept kp, ⟨_, hns, fun i y v e1 e2 e3 => ?_⟩, fun y c e => ?_, e0.hok.fresh (Nat.le_refl _), fun y c e => ?_, fun q hq => absurd (show q ∈ ([] : List (Addr × Obj)) ++ [] from hq) (by simp), e0.hok.kept kp, ?_⟩
  · have hy : sc.names.lookup y = some .cell ∨ sc.names.lookup y = some .free := hy
    rcases hy with hy | hy
    · exact absurd rfl (S.own _ (PySem.mem_of_lookup hy)).2
    · exact look y (S.free _ (PySem.mem_of_lookup hy) rfl).1
  · have z : false = true := z
    cases z
  · have e1 : r.N[i]? = some y := e1
    obtain ⟨c, v2, u, h1, h2, h3, h4⟩ := C.at_ i y e1
    rw [List.getElem?_map, h2] at e2
    cases e2
    exact ⟨u, h3, .inr ⟨.inr (S.inn y (List.mem_of_getElem? e1)), c, h1, (cl h4).2⟩⟩
  · obtain ⟨u, z⟩ := C.cell y c e
    exact ⟨u, (cl z).2⟩
  · obtain ⟨u, z⟩ := C.cell y c e
    exact (cl z).1
  · show (vs.map some).length = r.N.length
    rw [List.length_map, C.len]
theorem er_lam {n : Nat} {I : Im} {ds : List D} {vs : List V} (rx : Reps Γ I ds vs) : ER Γ n (vs.map some) (ds.map fun d => some (.sh d)) H I (fun _ => []) where
  len := by rw [List.length_map, List.length_map, rx.length]
  at_ := fun i lv h => by
    rw [List.getElem?_map] at h
    cases e : ds[i]? with
    | none => rw [e] at h; cases h
    | some d =>
      rw [e] at h; cases h
      obtain ⟨v, h1, h2⟩ := rx.get e
      exact ⟨v, by rw [List.getElem?_map, h1]; rfl, rfl, h2⟩
  dead := fun _ _ => rfl
  free := fun _ _ h => by cases h
  disj := fun _ _ _ h => by cases h
/-- what a lambda hands back -/
def lamRes : R → Option LV
  | .v (.sh d) => some (.sh d)
  | .v (.ow xs) => some (.ow xs)
  | _ => none
def PostL (Γ : Gam) (H : Hp) (I : Im) (res : Ev R) (Q : VK) (E : XK) : Prop := match res with
  | .no => False
  | .ok r T' => ∃ lv, lamRes r = some lv ∧ ∀ v H' I', Ext O0 H I H' I' → Wf Γ H' I' T' → (∃ as, RepL Γ 0 I' H' lv v as ∧ ∀ a, a ∈ as → I'.G a = none ∧ a ∉ I'.κ ∧ H' a ≠ none ∧ H a = none) → Q v H'
  | .ex e T' => ∀ cls d H' I', Ext O0 H I H' I' → Wf Γ H' I' T' → RepX Γ I' e cls d → E cls d H'
theorem lam_run (S : LamS r pa b sc) (nd : r.ce.need Γ) {I : Im} {T : Cs} {ds : List D} {vs : List V} {Q : VK} (gd : GdX Γ A) (rm : Room (r.lv + 1) A)
    (e0 : Env0 Γ.P Γ.w Γ.K Γ.mg Γ.base A outer s H) (w : Wf Γ H I T) (hv : LamV I pa b sc clo (.ref f)) (C : CloAt Γ.base clo r.N vs) (rx : Reps Γ I ds vs) (p : PostL Γ H I (r.ce.ev (ds.map fun d => some (.sh d)) T) Q E) :
    codeAny (model Γ.P Γ.w) A (.call (.ref f) ⟨[], []⟩) (CR (L2.CX Γ.P Γ.w) outer Γ.P Γ.w H s Q E) s := by
  obtain ⟨f0, c', q, pm, ctv, e1, h1⟩ := hv
  cases e1
  have of1 : s.heap.get? f = some (PySem.W.kla_obj "<lambda>" q pa b sc clo pm c' ctv) := (e0.hok f _ (w.gh _ _ h1)).1
  obtain ⟨⟨oc, us, t, hoc, hdc, hvc⟩, _, _⟩ := e0.hok c' _ (w.lc _ _ _ _ _ _ _ _ _ h1)
  have noLim : s.heap.NoLimit := e0.mod.nolimit.keeps fun b o e => (e0.bs b o e).1
  refine PySem.W.kla_callFunE rm.depth of1 rfl S.co S.gen rfl ⟨c', oc, us, t, rfl, hoc, hdc, hvc⟩ ?_
  rw [noPar_bind S.par]
  refine wpAny_pure (wpAny_newFunctionEnv (fun y hy => (S.own y hy).2) (fun y hy => absurd hy (by simp)) (fun h₁ hns hsb => ⟨noLim.fresh _ hsb, ?_⟩) S.kind)
  show codeAny _ _ (.expr b (lamE sc q clo s.heap.objs.size f c')) _ _
  have kp : ∀ b o, s.heap.get? b = some o → h₁.get? b = some o := fun b o e => hsb.extBut b o (Nat.ne_of_lt (Heap.lt_size e)) (Heap.get?_push_of_some _ e)
  have J : L2.Inv (lamC Γ r.N sc q clo A outer s H E f c') [] (vs.map some) H { s with heap := h₁, toks := s.toks + ([] : List (Str × Value)).length } := lam_start S e0 rm.hd C hns kp
  have pe := r.ce.ok (lam_good (q := q) (clo := clo) (outer := outer) (s := s) (H := H) (E := E) (f := f) (c' := c') S gd (rm.deeper _)) nd S.chk (fun _ => rfl)
  refine PySem.W.kla_codeExpr (wpAny_mono (pe.run [] _ _ H Q J ⟨I, _, T, fun _ => [], w, er_lam rx, ?_⟩) (fun v s' hq => ?_) fun e s' hq => hq)
  · cases e : r.ce.ev (ds.map fun d => some (.sh d)) T with
    | no => rw [e] at p; exact p
    | ex x T' =>
      rw [e] at p
      exact fun cls d H' I' x w r => p cls d H' I' x w r
    | ok y T1 =>
      rw [e] at p
      obtain ⟨lv, hl, p⟩ := p
      intro v H' I' x w' rr
      refine p v H' I' x w' ?_
      unfold lamRes at hl
      split at hl
      · cases hl
        exact rr
      · cases hl
        exact rr
      · cases hl
  · obtain ⟨w', H', J', rv, q⟩ := hq
    exact ⟨w', H', J'.os, J'.bare, J'.base, J'.hok, rv, q⟩
end
def lamNeed (Γ : Gam) : List LamRow → Prop
  | [] => True
  | r :: rs => r.ce.need Γ ∧ lamNeed Γ rs
theorem lamNeed_at {Γ : Gam} : ∀ {tab : List LamRow} {k : Nat} {r : LamRow}, lamNeed Γ tab → tab[k]? = some r → r.ce.need Γ
  | r0 :: _, 0, _, h, e => by cases e; exact h.1
  | _ :: rs, k + 1, _, h, e => lamNeed_at (tab := rs) (k := k) h.2 e
/-- x(), x a local that holds a lambda -/
def lamEv (tab : List LamRow) (d : D) (T : Cs) : Ev R := match d with
  | .lam k xs => (match tab[k]? with
    | some r => (r.ce.ev (xs.map fun d => some (.sh d)) T).bind fun y T1 => match lamRes y with
      | some lv => .ok (.v lv) T1
      | none => .no
    | none => .no)
  | _ => .no
def cCallV (tab : List LamRow) (i : Nat) : CE where
  ev := fun ρ T => match ρ[i]? with
    | some (some (.sh d)) => lamEv tab d T
    | _ => .no
  chk := fun k sc e => match e with
    | .Call (.Name x _) [] [] _ => okName x && (slotIs sc.N i x && (isVis sc.nm x && tab.all fun r => decide (r.lv + 1 ≤ k)))
    | _ => false
  need := fun Γ => Γ.lt = tab.map (·.L) ∧ lamNeed Γ tab
  z := false
  ok := by
    intro Γ k W sc X e n g nd h hz
    split at h
    · rename_i x px pos
      obtain ⟨h1, h⟩ := b2 h
      obtain ⟨h2, h⟩ := b2 h
      obtain ⟨h3, h4⟩ := b2 h
      obtain ⟨d1, d2, _⟩ := okName_d h1
      obtain ⟨n1, n2⟩ := nd
      refine ⟨fun pins s σ H Q Iv q => ?_⟩
      obtain ⟨I, ρ, T, own, w, er, p⟩ := q
      have p : Post Γ (RepR Γ n own) W σ H I (match ρ[i]? with
        | some (some (.sh d)) => lamEv tab d T
        | _ => .no) Q := p
      split at p
      case h_2 => exact p.elim
      rename_i d hd
      unfold lamEv at p
      split at p
      case h_2 => exact p.elim
      rename_i kk xs
      split at p
      case h_2 => exact p.elim
      rename_i r hr
      obtain ⟨v, hv, rv⟩ := er.at_ i _ hd
      have rl : Rep Γ I (.lam kk xs) v := rv.2
      simp only [Rep] at rl
      obtain ⟨L, pa, b, sc', clo, vs, e1, lok, lv, C, rx⟩ := rl
      rw [n1, List.getElem?_map, hr] at e1
      cases e1
      have hn := lamNeed_at n2 hr
      have l1 := of_decide_eq_true (List.all_eq_true.mp h4 r (List.mem_of_getElem? hr))
      have S : LamS r pa b sc' := lamOk_ok lok
      obtain ⟨f, rfl⟩ : ∃ f, v = .ref f := let ⟨f, _, _, _, _, e, _⟩ := lv; ⟨f, e⟩
      have pv : PE X (.Name x px) (tVar i) := pe_var (X := X) (i := i) (by rw [g.N]; exact slotIs_ok h2) (isVis_ok g.nm h3) d1 d2
      refine wpAny_Call_Name_kw (thn (pv.run pins s σ H (fun v H1 => v = .ref f ∧ H1 = H) Iv ⟨.ref f, hv, rfl, rfl⟩) fun u s1 ⟨v, H1, I1, r1, q1⟩ => ?_)
      obtain ⟨ev, eH⟩ := q1
      subst ev
      rw [eH] at I1
      obtain rfl : u = Value.ref f := r1
      have e0 : Env0 Γ.P Γ.w Γ.K Γ.mg Γ.base X.A X.stack s1 H := by
        have := I1.env0
        rw [g.prog, g.w, g.K, g.mg, g.base] at this
        exact this
      obtain ⟨f0, c', q0, pm, ctv, e1, h1'⟩ := id lv
      cases e1
      have of1 : s1.heap.get? f = some (PySem.W.kla_obj "<lambda>" q0 pa b sc' clo pm c' ctv) := (e0.hok f _ (w.gh _ _ h1')).1
      refine PySem.W.callWith_F0 ⟨_, _, _, _, of1⟩ ?_
      have run := lam_run (E := WE W σ) (Q := Q) S hn g.gd (g.room.mono l1) e0 w lv C rx ?_
      · rw [← g.prog, ← g.w] at run
        refine wpAny_call (codeAny_mono run ?_)
        rintro r' s' hq
        match r', hq with
        | .error e, hq => exact passAt g.tk σ pins H s1 e s' I1 hq
        | .ok (.ret u), hq => exact I1.after hq
        | .ok .next, hq => exact hq.elim
        | .ok .brk, hq => exact hq.elim
        | .ok .cont, hq => exact hq.elim
      · cases e : r.ce.ev (xs.map fun d => some (.sh d)) T with
        | no => rw [e] at p; exact p
        | ex x T' => rw [e] at p; exact fun cls d H' I' x w r => p cls d H' I' x w r
        | ok y T1 =>
          rw [e] at p
          have p : Post Γ (RepR Γ n own) W σ H I (match lamRes y with
            | some lv => .ok (.v lv) T1
            | none => .no) Q := p
          cases e2 : lamRes y with
          | none => rw [e2] at p; exact p.elim
          | some lw =>
            rw [e2] at p
            refine ⟨lw, e2, fun v H' I' x w' ⟨as, rr, hf⟩ => p v H' I' x w' ⟨as, ?_, hf⟩⟩
            unfold lamRes at e2
            split at e2
            · cases e2; exact rr
            · cases e2; exact rr
            · cases e2
    · cases h
end Tp
end
section
set_option Elab.async false
set_option linter.all false
set_option maxRecDepth 100000
set_option maxHeartbeats 2000000
/-! TsE: try with several except clauses. -/
namespace Tp
open PySem PySem.Spec PyProof.Rows L2
structure ClRow where
  x : Str
  tab : List (Str × Bool)
  i : Option Nat
  s : HS
def tryCl : List ClRow → ExD → Env → Cs → Ev Fl
  | [], e, _, T => .ex e T
  | c :: cs, e, ρ, T => match c.tab.lookup e.c with
    | some true => if okSlot c.i ρ then offE c.i (c.s.ev e (offS c.i ρ) T) else .no
    | some false => tryCl cs e ρ T
    | none => .no
def tryEvM (cs : List ClRow) (ret : Bool) (a : Env → Cs → Ev R) : Env → Cs → Ev Fl := fun ρ T => match a ρ T with
  | .no => .no
  | .ok r T1 => tryFin ret ρ r T1
  | .ex e T1 => tryCl cs e ρ T1
def clChk (k : Nat) (sc : Sc) : List ClRow → List ExceptHandler → Bool
  | [], [] => true
  | c :: cs, .ExceptHandler (some (.Name y _)) nm (b0 :: su) _ :: hs => decide (y = c.x) && (okName c.x && (isGl sc.nm c.x && (c.s.chk k sc c.i (b0 :: su) && ((match c.i, nm with
      | none, none => true
      | some j, some z => slotIs sc.N j z && decide (sc.nm.lookup z = some .local)
      | _, _ => false) && clChk k sc cs hs))))
  | _, _ => false
def clNeed (Γ : Gam) : List ClRow → Prop
  | [] => True
  | c :: cs => (Γ.mg c.x = some (.ref (He.ga Γ.K c.x)) ∧ tryB Γ.K c.x c.tab = true ∧ c.s.need Γ) ∧ clNeed Γ cs
def clOf (Γ : Gam) (n : Nat) (c : ClRow) : HCl := ⟨.ref (He.ga Γ.K c.x), c.i, fun a cls d => tHS Γ n a cls d c.i c.s.ev⟩
theorem cls_ok {Γ : Gam} {k : Nat} {W : WX} {sc : Sc} {X : Cx} {n : Nat} (g : Good Γ k W sc X) : ∀ {cs : List ClRow} {hs : List ExceptHandler}, clNeed Γ cs → clChk k sc cs hs = true → ClsOk X hs (cs.map (clOf Γ n))
  | [], [], _, _ => .nil
  | c :: cs, .ExceptHandler (some (.Name y np)) nm (b0 :: su) hp :: hs, nd, h => by
    obtain ⟨h1, h⟩ := b2 (show (decide (y = c.x) && _) = true from h)
    obtain ⟨h2, h⟩ := b2 h
    obtain ⟨h3, h⟩ := b2 h
    obtain ⟨h4, h⟩ := b2 h
    obtain ⟨h5, h6⟩ := b2 h
    obtain ⟨⟨n1, n2, n3⟩, n4⟩ := nd
    have e1 := of_decide_eq_true h1
    subst e1
    obtain ⟨d1, _, _⟩ := okName_d h2
    have nmC : Names X c.x (.ref (He.ga Γ.K c.x)) := ⟨isGl_ok g.nm h3, d1, .inl (by rw [g.mg]; exact n1)⟩
    have more := cls_ok (n := n) g n4 h6
    have ok : ∀ (ad : Addr) (oe : Obj) (cls : Value) (d : Option Addr) (pn : List (Addr × Obj)), Zc cls d oe → (∃ vs, oe.data = .fields vs) → PSs (X.suite ad ((ad, oe) :: pn)) (b0 :: su) (tHS Γ n ad cls d c.i c.s.ev) := fun ad oe cls d pn hz hf => c.s.ok (goodH g ad _) n3 h4 hz hf
    have eq : (c :: cs).map (clOf Γ n) = ⟨.ref (He.ga Γ.K c.x), c.i, fun a cls d => tHS Γ n a cls d c.i c.s.ev⟩ :: cs.map (clOf Γ n) := rfl
    rw [eq]
    generalize hci : c.i = ci at h5 ok ⊢
    cases ci with
    | none =>
      cases nm with
      | some z => cases h5
      | none => exact .bare nmC ok more
    | some j =>
      cases nm with
      | none => cases h5
      | some z =>
        obtain ⟨h7, h8⟩ := b2 h5
        exact .named nmC (by rw [g.N]; exact slotIs_ok h7) (by show X.env.scope.names.lookup z = _; rw [g.nm]; exact of_decide_eq_true h8) ok more
  | [], _ :: _, _, h => by simp [clChk] at h
  | _ :: _, [], _, h => by simp [clChk] at h
section
variable {Γ : Gam} {n : Nat} {W : WX} {σ : L2.St} {ρ : Env} {H H' : Hp} {I I' : Im} {T1 : Cs} {own : Nat → List Addr} {D : Ends} {ex : ExD} {cls : Value} {d : Option Addr}
theorem tryCl_ok (er : ER Γ n σ ρ H I own) (x : Ext O0 H I H' I') (w' : Wf Γ H' I' T1) (rx : RepX Γ I' ex cls d) : ∀ {cs : List ClRow}, clNeed Γ cs → PostS Γ n W D (Ow own) H I (tryCl cs ex ρ T1) → wClauses Γ.K W D (cs.map (clOf Γ n)) cls d σ H'
  | [], _, p => p cls d σ H' I' (x.mono fun _ q => q.elim) w' rx
  | c :: cs, nd, p => by
    obtain ⟨⟨n1, n2, n3⟩, n4⟩ := nd
    have ec : cls = .ref (He.ga Γ.K ex.c) := rx.1
    have p : PostS Γ n W D (Ow own) H I (match c.tab.lookup ex.c with
      | some true => if okSlot c.i ρ then offE c.i (c.s.ev ex (offS c.i ρ) T1) else .no
      | some false => tryCl cs ex ρ T1
      | none => .no) := p
    split at p
    · rename_i el
      refine ⟨true, by rw [ec]; exact tryB_ok n2 el, fun _ ad hd => ?_, fun z => by cases z⟩
      by_cases hok : okSlot c.i ρ = true
      case neg => rw [if_neg hok] at p; exact p.elim
      rw [if_pos hok] at p
      show (match c.i with
        | none => (fun a cls d => tHS Γ n a cls d c.i c.s.ev) ad cls d D σ H'
        | some j => (fun a cls d => tHS Γ n a cls d c.i c.s.ev) ad cls d (offD j D) (σ.set j (some (.ref ad))) H')
      generalize c.i = ci at p hok ⊢
      cases ci with
      | none => exact ⟨I', ρ, T1, own, ex, w', er.ext x, rx, (fun j z => by cases z), PostS.off0 (PostS.from (x.mono fun _ q => q.elim) (fun a h => .inl h) p)⟩
      | some j =>
        have hl : j < σ.length := by
          rw [er.len]
          exact of_decide_eq_true hok
        obtain ⟨own', er', ho⟩ := er_dead (er.ext x) j (some (.ref ad))
        refine ⟨I', ρ.set j none, T1, own', ex, w', er', rx, (fun j' z => ?_), PostS.off (PostS.from (x.mono fun _ q => q.elim) (fun a h => .inl (ho a h)) p)⟩
        cases z
        exact List.getElem?_set_self hl
    · rename_i el
      exact ⟨false, by rw [ec]; exact tryB_ok n2 el, (fun z => by cases z), fun _ => tryCl_ok er x w' rx n4 p⟩
    · exact p.elim
end
/-- try: body / except C [as n]: suite / except ..: .. -/
def sTryM (cs : List ClRow) (ret : Bool) (a : CE) : C1 where
  ev := tryEvM cs ret a.ev
  chk := fun k sc st => match st with
    | .Try body (h0 :: hs) [] [] _ => notMark sc && (bodyIs ret k sc a body && clChk k sc cs (h0 :: hs))
    | _ => false
  need := fun Γ => clNeed Γ cs ∧ a.need Γ
  ok := by
    intro Γ k W sc X st g nd h
    split at h
    · rename_i body h0 hs pos
      obtain ⟨h1, h⟩ := b2 h
      obtain ⟨h4, h5⟩ := b2 h
      obtain ⟨n1, n2⟩ := nd
      obtain ⟨tr1, tr2⟩ := g.tr h1
      have hb : ∀ (W' : WX) (pn : List (Addr × Obj)) (xe : Value → Shared → Prop), Takes (X.tr pn xe) W' → PassesOwn (model X.prog X.w) X.A X.env xe → PSs (X.tr pn xe) body (tBody Γ X.s_0.heap.objs.size ret a.ev W') := fun W' pn xe tk po => body_ok (goodTr g tk po) n2 h4
      refine PS.mono (ps_tryC tr1 tr2 g.nd g.tk hb (cls_ok (n := X.s_0.heap.objs.size) g n1 h5)) fun D σ H q => ?_
      obtain ⟨I, ρ, T, own, w, er, q⟩ := q
      have p : PostS Γ X.s_0.heap.objs.size W D (Ow own) H I (tryEvM cs ret a.ev ρ T) := q
      refine ⟨I, ρ, T, own, w, er, ?_⟩
      unfold tryEvM at p
      cases e : a.ev ρ T with
      | no => rw [e] at p; exact p
      | ok r T1 =>
        rw [e] at p
        exact fun v H' I' x w' rr => try_fin er p x w' rr
      | ex ex T1 =>
        rw [e] at p
        intro cls d H' I' x w' rx
        rw [g.K]
        exact tryCl_ok er x w' rx n1 p
    · cases h
end Tp
end
section
set_option Elab.async false
set_option linter.all false
set_option maxRecDepth 100000
set_option maxHeartbeats 2000000
/-! TsF: lambdas are made. -/
namespace Tp
open PySem PySem.Spec PyProof.Rows L2
theorem tabAt_more {H : Hp} {P c' : Addr} {q : Str} {ps : Array Value} {pos : Pos} (hP : H P = some (.tbl ps)) (nC : H c' = none) (ht : TriplesOk ps.toList) (ha : ∀ (pos : Pos) (cv : Value), codeAmong pos ps.toList = some cv → ∃ c, cv = .ref c ∧ H c = some (CodeAt c q)) :
    TabAt (upd (upd H P (.tbl (ps ++ #[rawInt pos.line, rawInt pos.col, .ref c']))) c' (CodeAt c' q)) (P, q) := by
  have eL : (ps ++ #[rawInt pos.line, rawInt pos.col, .ref c']).toList = ps.toList ++ [rawInt pos.line, rawInt pos.col, .ref c'] := by simp
  refine ⟨_, (upd_ne (ne_of_none hP nC)).trans upd_same, by rw [eL]; exact PySem.TriplesOk_snoc _ _ _ _ ht, fun p' cv hcv => ?_⟩
  rw [eL] at hcv
  rcases LamX.among_app _ ht hcv with z | z
  · obtain ⟨c0, e1, e2⟩ := ha p' cv z
    refine ⟨c0, e1, (upd_ne (ne_of_none e2 nC)).trans ((upd_ne fun z => ?_).trans e2)⟩
    rw [z, hP] at e2
    cases e2
  · exact ⟨c', z, upd_same⟩
/-- how the abstract heap grows when a lambda is made: its code object is found, or entered -/
def LamH (H H1 : Hp) (P c' : Addr) (q : Str) : Prop := H1 = H ∨ ∃ ps more, H P = some (.tbl ps) ∧ H c' = none ∧ H1 = upd (upd H P (.tbl (ps ++ more))) c' (CodeAt c' q)
section
variable {X : Cx} {pins : List (Addr × Obj)} {σ : L2.St} {H : Hp} {s : Shared}
theorem fnO_ok {P : Program} {w : World} {H : Hp} {h : Heap} {f c' : Addr} {pa : Arguments} {b : Expr} {sc : Scope} {q : Str} {clo : List (Str × Addr)} {pm ctv : Value} (e : h.get? f = some (PySem.W.kla_obj "<lambda>" q pa b sc clo pm c' ctv)) : ObjOk P w H h f (FnO f pa b sc q clo pm c' ctv) :=
  ⟨e, ⟨_, e⟩, fun h1 h2 z st => st _ z⟩
/-- the lambda is made -/
theorem lam_make {c P : Addr} {params : Arguments} {body : Expr} {scope : Scope} {pos : Pos} {E : Value → Shared → Prop} {Q : Value → Shared → Prop} (I : L2.Inv X pins σ H s) (TB : LamX.TabB X.base X.mg c P) (hcode : X.env.code = .ref c)
    (hT : TabAt H (P, X.env.qual ++ "<lambda>")) (hdef : defaultsOf params X.env = ([], [])) (hfree : ∀ y ∈ scope.names, y.2 = .free → ∃ c, X.env.cells.lookup y.1 = some c)
    (h : ∀ (f c' : Addr) (pm ctv : Value) (H1 : Hp) (s' : Shared), L2.Inv X pins σ (upd H1 f (FnO f params body scope (X.env.qual ++ "<lambda>") (cloFrom X.env.cells scope.names []) pm c' ctv)) s' → LamH H H1 P c' (X.env.qual ++ "<lambda>") → TabAt H1 (P, X.env.qual ++ "<lambda>") →
      H1 f = none → H1 c' = some (CodeAt c' (X.env.qual ++ "<lambda>")) → Q (.ref f) s') : wpAny (model X.prog X.w) X.A (eval (.Lambda params body scope pos) X.env) Q E s := by
  obtain ⟨ps, hP, ht, ha⟩ := id hT
  have hP' : s.heap.get? P = some { cls := .none, data := .fields ps } := I.hok P _ hP
  have bP : s.heap.BuiltinsAt X.mg P := TB.bm.keeps I.bk
  refine PySem.W.kla_eval hdef ?_
  cases hc : codeAmong pos ps.toList with
  | some cv =>
    obtain ⟨c', rfl, hco⟩ := ha pos cv hc
    refine PySem.W.kla_makeFunctionHit (mg := X.mg) (c := c) (P := P) (ps := ps) (closure_ok hfree) I.ok.glob (I.mod.glob.keeps I.bk) hcode (TB.code.keeps I.bk) hP' ht hc bP fun ctv h' tk hx hsz => ?_
    exact h h'.objs.size c' ((X.mg "__name__").getD .none) ctv H _ (I.laid (t' := tk) (fun b o e => Heap.get?_push_of_some _ (hx b o e)) hsz (fnO_ok (Heap.get?_push_size _ rfl))) (.inl rfl) hT (I.hok.fresh hsz) hco
  | none =>
    refine PySem.W.kla_makeFunction (mg := X.mg) (c := c) (P := P) (ps := ps) (closure_ok hfree) I.ok.glob (I.mod.glob.keeps I.bk) hcode (TB.code.keeps I.bk) hP' ht hc TB.gP bP fun c' ctv h' tk hx hge hlt hrec htb => ?_
    obtain ⟨c2, oc, vs, t, e2, hoc, hd, hv⟩ := hrec
    cases e2
    have nC : H c' = none := I.hok.fresh hge
    have I1 := LamX.inv_table (t' := tk) (more := #[rawInt pos.line, rawInt pos.col, .ref c']) (h' := h') I hP (fun b o hb e => hx b o hb e) htb hge ⟨oc, vs, t, hoc, hd, hv⟩
    have nF : upd (upd H P (.tbl (ps ++ #[rawInt pos.line, rawInt pos.col, .ref c']))) c' (CodeAt c' (X.env.qual ++ "<lambda>")) h'.objs.size = none := I1.hok.fresh (Nat.le_refl _)
    exact h h'.objs.size c' ((X.mg "__name__").getD .none) ctv _ _ (I1.laid (t' := tk) (fun b o e => Heap.get?_push_of_some _ e) (Nat.le_refl _) (fnO_ok (Heap.get?_push_size _ rfl))) (.inr ⟨ps, _, hP, nC, rfl⟩) (tabAt_more (pos := pos) hP nC ht ha) nF upd_same
end
end Tp
end
section
set_option Elab.async false
set_option linter.all false
set_option maxRecDepth 100000
set_option maxHeartbeats 2000000
/-! TsG: lambdas as values of the def in which they are made. -/
namespace Tp
open PySem PySem.Spec PyProof.Rows L2
section
variable {Γ : Gam} {H H1 : Hp} {I : Im} {T : Cs} {P c' : Addr} {q : Str}
theorem lamH_ext (L : LamH H H1 P c' q) : Ext O0 H I H1 I := by
  rcases L with rfl | ⟨ps, more, hP, nC, rfl⟩
  · exact Ext.refl
  · refine ⟨fun _ _ h => h, fun _ _ h => h, fun a o h _ _ nt => ?_, fun a h => ?_, fun _ h => .inl h, fun _ h => .inl h, rfl⟩
    · rw [upd_ne (ne_of_none h nC), upd_ne]
      · exact h
      · intro z
        rw [z, hP] at h
        cases h
        exact nt
    · by_cases e : a = c'
      · rw [e, upd_same]; simp
      · rw [upd_ne e]
        by_cases e2 : a = P
        · rw [e2, upd_same]; simp
        · rw [upd_ne e2]; exact h
theorem lamH_wf (w : Wf Γ H I T) (hm : (P, q) ∈ Γ.tb) (hu : ∀ p ∈ Γ.tb, p.1 = P → p.2 = q) (L : LamH H H1 P c' q) (hT : TabAt H1 (P, q)) : Wf Γ H1 I T := by
  rcases L with rfl | ⟨ps, more, hP, nC, rfl⟩
  · exact w
  · have keep : ∀ a o, H a = some o → (∀ ps, o ≠ .tbl ps) → upd (upd H P (.tbl (ps ++ more))) c' (CodeAt c' q) a = some o := fun a o h n => by
      rw [upd_ne (ne_of_none h nC), upd_ne]
      · exact h
      · intro z
        rw [z, hP] at h
        cases h
        exact n _ rfl
    refine ⟨fun a o h => ?_, w.nd, w.kg, w.len, fun n a ds e1 e2 => ?_, w.ug, fun p hp => ?_, fun f p b sc q2 clo pm c2 ctv e => keep _ _ (w.lc f p b sc q2 clo pm c2 ctv e) (fun ps z => by cases z), w.tg⟩
    · have h2 := w.gh a o h
      rw [upd_ne (ne_of_none h2 nC), upd_ne]
      · exact h2
      · intro z
        rw [z, w.tg _ hm] at h
        cases h
    · obtain ⟨vs, h1, h2⟩ := w.cells n a ds e1 e2
      exact ⟨vs, keep _ _ h1 (fun ps z => by cases z), h2⟩
    · by_cases e : p.1 = P
      · have : p = (P, q) := Prod.ext e (hu p hp e)
        rw [this]; exact hT
      · obtain ⟨ps', a1, a2, a3⟩ := w.tb p hp
        refine ⟨ps', by rw [upd_ne (ne_of_none a1 nC), upd_ne e]; exact a1, a2, fun pos cv hcv => ?_⟩
        obtain ⟨c0, e1, e2⟩ := a3 pos cv hcv
        exact ⟨c0, e1, keep _ _ e2 (fun ps z => by cases z)⟩
/-- a function that is tracked is told for good -/
theorem fnO_wf {f : Addr} {pa : Arguments} {b : Expr} {sc : Scope} {clo : List (Str × Addr)} {pm ctv : Value} (w : Wf Γ H I T) (hf : H f = some (FnO f pa b sc q clo pm c' ctv)) (hg : I.G f = none) (hk : f ∉ I.κ) (hc : H c' = some (CodeAt c' q)) {h : Heap} (hh : h.get? f = some (PySem.W.kla_obj "<lambda>" q pa b sc clo pm c' ctv)) :
    Wf Γ H ⟨upd I.G f (FnO f pa b sc q clo pm c' ctv), I.κ, I.me⟩ T := by
  have le : Im.Le I ⟨upd I.G f (FnO f pa b sc q clo pm c' ctv), I.κ, I.me⟩ := ⟨fun a u e => by show upd I.G f _ a = _; rw [upd_ne (ne_of_none e hg)]; exact e, fun _ _ h => h, rfl⟩
  refine ⟨fun a u e => ?_, w.nd, fun a ha => ?_, w.len, fun n a ds e1 e2 => ?_, fun b hb => (w.ug b hb).mono le.gg, w.tb, fun f2 p2 b2 sc2 q2 clo2 pm2 c2 ctv2 e => ?_, fun t ht => ?_⟩
  · by_cases z : a = f
    · subst z
      have e2 : upd I.G a (FnO a pa b sc q clo pm c' ctv) a = some u := e
      rw [upd_same] at e2; cases e2; exact hf
    · exact w.gh a u (by have e2 : upd I.G f (FnO f pa b sc q clo pm c' ctv) a = some u := e; rw [upd_ne z] at e2; exact e2)
  · show upd I.G f _ a = none
    rw [upd_ne (fun z => hk (by rw [← z]; exact ha))]
    exact w.kg a ha
  · obtain ⟨vs, h1, h2⟩ := w.cells n a ds e1 e2
    exact ⟨vs, h1, Reps.mono le h2⟩
  · by_cases z : f2 = f
    · subst z
      have e2 : upd I.G f2 (FnO f2 pa b sc q clo pm c' ctv) f2 = some (FnO f2 p2 b2 sc2 q2 clo2 pm2 c2 ctv2) := e
      rw [upd_same] at e2
      have e3 := Option.some.inj e2
      unfold FnO at e3
      injection e3 with e4
      have e5 := congrFun e4 h
      have e6 : h.get? f2 = some (PySem.W.kla_obj "<lambda>" q2 p2 b2 sc2 clo2 pm2 c2 ctv2) := by rw [← e5]; exact hh
      rw [hh] at e6
      have e7 := Option.some.inj e6
      simp only [Obj.mk.injEq, Data.func.injEq, FuncData.mk.injEq, Value.ref.injEq] at e7
      have : c' = c2 ∧ q = q2 := by grind
      obtain ⟨rfl, rfl⟩ := this
      exact hc
    · exact w.lc f2 p2 b2 sc2 q2 clo2 pm2 c2 ctv2 (by have e2 : upd I.G f (FnO f pa b sc q clo pm c' ctv) f2 = _ := e; rw [upd_ne z] at e2; exact e2)
  · show upd I.G f _ t.1 = none
    obtain ⟨ps, h1, _⟩ := w.tb t ht
    rw [upd_ne]
    · exact w.tg t ht
    · intro z
      rw [z, hf] at h1
      cases h1
end
theorem noPar_def {p : Arguments} (h : noPar p = true) (env : PySem.Env) : defaultsOf p env = ([], []) := by
  unfold noPar at h
  split at h
  · rfl
  · cases h
/-- lambda: .., in a def that is marked so -/
def cLam (k : Nat) (r : LamRow) : CE where
  ev := fun _ T => .ok (.v (.lm k)) T
  chk := fun _ sc e => match e with
    | .Lambda p b s _ => isMk sc && (lamOk r p b s && decide (sc.nm = r.msc))
    | _ => false
  need := fun Γ => Γ.lt[k]? = some r.L
  z := true
  ok := by
    intro Γ lv W sc X e n g nd h hz
    split at h
    · rename_i pa b s pos
      obtain ⟨h1, h⟩ := b2 h
      obtain ⟨h2, h3⟩ := b2 h
      have h3 := of_decide_eq_true h3
      have S := lamOk_ok h2
      have hn := hz rfl
      obtain ⟨mc, c, P, hcode, TB, hm, hu⟩ := g.lk h1
      refine ⟨fun pins s0 σ H Q Iv q => ?_⟩
      obtain ⟨I, ρ, T, own, w, er, p⟩ := q
      have p : ∀ v H' I', Ext O0 H I H' I' → Wf Γ H' I' T → RepR Γ n own H H' I' (.v (.lm k)) v → Q v H' := p
      have hfree : ∀ y ∈ s.names, y.2 = .free → ∃ c, X.env.cells.lookup y.1 = some c := fun y hy hf => by
        have h4 := (S.free y hy hf).2
        rw [← h3, ← g.nm] at h4
        exact Iv.ok.has y.1 (.inl h4)
      refine lam_make Iv (by rw [g.base, g.mg]; exact TB) hcode (w.tb _ hm) (noPar_def S.par _) hfree fun f c' pm ctv H1 s' J LH hT1 nF hc => ?_
      have w1 := lamH_wf w hm hu LH hT1
      have hc' : f ≠ c' := fun z => by rw [← z, nF] at hc; cases hc
      have w2 := fnO_wf (w1.new nF _) upd_same (w1.gnone nF) (w1.nocell nF) (by rw [upd_ne (Ne.symm hc')]; exact hc) (J.hok f _ upd_same).1
      refine ⟨.ref f, _, J, rfl, p (.ref f) _ _ ((lamH_ext LH).tr0 (Ext.newG nF (w1.gnone nF))) w2 ⟨[], ⟨rfl, r.L, pa, b, s, nd, h2, f, c', X.env.qual ++ "<lambda>", pm, ctv, rfl, ?_⟩, by simp⟩⟩
      show upd I.G f _ f = _
      rw [upd_same, mc, g.nm, h3, hn]; rfl
    · cases h
/-! ### lists of lambdas -/
theorem LamsN.append {Γ : Gam} {n : Nat} {I : Im} : ∀ {ks js : List Nat} {us vs : List V}, LamsN Γ n I ks us → LamsN Γ n I js vs → LamsN Γ n I (ks ++ js) (us ++ vs)
  | [], _, _, _, h, q => by
    have h : _ = [] := h
    subst h; exact q
  | _ :: _, _, _, _, h, q => by
    obtain ⟨v, r, rfl, h2, h3⟩ := h
    exact ⟨v, _, rfl, h2, h3.append q⟩
theorem LamsN.length {Γ : Gam} {n : Nat} {I : Im} : ∀ {ks : List Nat} {us : List V}, LamsN Γ n I ks us → us.length = ks.length
  | [], _, h => by
    have h : _ = [] := h
    subst h; rfl
  | _ :: _, _, h => by
    obtain ⟨v, r, rfl, h2, h3⟩ := h
    rw [List.length_cons, List.length_cons, h3.length]
def lamsChk (lv : Nat) (sc : Sc) : List (Nat × LamRow) → List Expr → Bool
  | [], [] => true
  | r :: rs, e :: es => notStar e && ((cLam r.1 r.2).chk lv sc e && lamsChk lv sc rs es)
  | _, _ => false
def lamsNeed (Γ : Gam) : List (Nat × LamRow) → Prop
  | [] => True
  | r :: rs => Γ.lt[r.1]? = some r.2.L ∧ lamsNeed Γ rs
def tLams (Γ : Gam) (n : Nat) (ks : List Nat) : TA := fun σ H Q => ∃ I ρ T own, Wf Γ H I T ∧ ER Γ n σ ρ H I own ∧ ∀ us H' I', Ext O0 H I H' I' → Wf Γ H' I' T → LamsN Γ n I' ks us → Q us H'
theorem lams_ok {Γ : Gam} {lv : Nat} {W : WX} {sc : Sc} {X : Cx} {n : Nat} (g : Good Γ lv W sc X) (hn : n = X.s_0.heap.objs.size) : ∀ (rs : List (Nat × LamRow)) (es : List Expr), lamsNeed Γ rs → lamsChk lv sc rs es = true → PA X es (tLams Γ n (rs.map (·.1)))
  | [], [], _, _ => PA.mono pa_nil fun σ H Q ⟨I, ρ, T, own, w, er, p⟩ => p [] H I Ext.refl w rfl
  | r :: rs, e :: es, nd, h => by
    obtain ⟨h0, h⟩ := b2 h
    obtain ⟨h1, h2⟩ := b2 h
    refine PA.mono (pa_cons ((cLam r.1 r.2).ok (n := n) g nd.1 h1 fun _ => hn) (lams_ok g hn rs es nd.2 h2) (star_cons h0)) fun σ H Q q => ?_
    obtain ⟨I, ρ, T, own, w, er, p⟩ := q
    refine ⟨I, ρ, T, own, w, er, fun v H1 I1 x1 w1 rv => ?_⟩
    obtain ⟨as, ⟨rfl, l1⟩, _⟩ := rv
    refine ⟨I1, ρ, T, own, w1, er.ext x1, fun us H2 I2 x2 w2 l2 => ?_⟩
    exact p (v :: us) H2 I2 (x1.tr0 x2) w2 ⟨v, us, rfl, l1.mono x2.le, l2⟩
  | [], _ :: _, _, h => by cases h
  | _ :: _, [], _, h => by cases h
/-- [lambda: .., ..] -/
def cLams (rs : List (Nat × LamRow)) : CE where
  ev := fun _ T => .ok (.v (.lms (rs.map (·.1)))) T
  chk := fun lv sc e => match e with
    | .List es _ => decide (rs.length ≤ 1000) && lamsChk lv sc rs es
    | _ => false
  need := fun Γ => lamsNeed Γ rs
  z := true
  ok := by
    intro Γ lv W sc X e n g nd h hz
    split at h
    · obtain ⟨h1, h2⟩ := b2 h
      have h1 := of_decide_eq_true h1
      refine PE.mono (pe_lst (lams_ok (n := n) g (hz rfl) rs _ nd h2)) fun σ H Q q => ?_
      obtain ⟨I, ρ, T, own, w, er, p⟩ := q
      have p : ∀ v H' I', Ext O0 H I H' I' → Wf Γ H' I' T → RepR Γ n own H H' I' (.v (.lms (rs.map (·.1)))) v → Q v H' := p
      refine ⟨I, ρ, T, own, w, er, fun us H1 I1 x1 w1 l1 => ⟨by rw [l1.length, List.length_map, sizeLine_eq]; omega, fun b hb => ?_⟩⟩
      refine p (.ref b) _ I1 (x1.tr0 (Ext.new hb _)) (w1.new hb _) ⟨[b], ⟨b, us, rfl, rfl, upd_same, l1⟩, fun c hc => ?_⟩
      rw [List.mem_singleton.mp hc]
      exact ⟨w1.gnone hb, w1.nocell hb, by rw [upd_same]; simp, by
        cases q : H b with
        | none => rfl
        | some o => exact absurd hb (x1.th b (by rw [q]; simp))⟩
    · cases h
end Tp
end
section
set_option Elab.async false
set_option linter.all false
set_option maxRecDepth 100000
set_option maxHeartbeats 2000000
/-! TsH: what stays as it is while a call runs: the caller's cells, too. -/
namespace Tp
open PySem PySem.Spec PyProof.Rows L2
/-- with more known of the heap for good -/
abbrev Gam.bas (Γ : Gam) (b : Heap) : Gam := { Γ with base := b }
theorem CloAt.more {b b' : Heap} {clo : List (Str × Addr)} {N : List Str} {vs : List V} (C : CloAt b clo N vs) (k : ∀ a o, b.get? a = some o → b'.get? a = some o) : CloAt b' clo N vs :=
  ⟨C.len, C.inj, fun x c e => let ⟨u, h⟩ := C.cell x c e; ⟨u, h.keeps k⟩, fun i x e => let ⟨c, v, u, h1, h2, h3, h4⟩ := C.at_ i x e; ⟨c, v, u, h1, h2, h3, h4.keeps k⟩⟩
section
variable {Γ : Gam} {b : Heap} {I : Im}
mutual
theorem Rep.bas (k : ∀ a o, Γ.base.get? a = some o → b.get? a = some o) : ∀ {d : D} {v : V}, Rep Γ I d v → Rep (Γ.bas b) I d v
  | .non, _, h => h
  | .bl _, _, h => h
  | .int _, _, h => h
  | .str _, _, h => h
  | .lst _, _, h => by
    simp only [Rep] at h ⊢
    obtain ⟨a, vs, h1, h2, h3⟩ := h
    exact ⟨a, vs, h1, h2, Reps.bas k h3⟩
  | .fz _, _, h => by
    simp only [Rep] at h ⊢
    obtain ⟨a, vs, h1, h2, h3⟩ := h
    exact ⟨a, vs, h1, h2, Reps.bas k h3⟩
  | .tup _, _, h => by
    simp only [Rep] at h ⊢
    obtain ⟨a, vs, h1, h2, h3⟩ := h
    exact ⟨a, vs, h1, h2, Reps.bas k h3⟩
  | .dct _, _, h => by
    simp only [Rep] at h ⊢
    obtain ⟨a, o, vs, h1, h2, h3⟩ := h
    exact ⟨a, o, vs, h1, h2, RepK.bas k h3⟩
  | .obj _ _, _, h => by
    simp only [Rep] at h ⊢
    obtain ⟨a, dx, vs, h1, h2, h3, h4⟩ := h
    exact ⟨a, dx, vs, h1, h2, h3, Reps.bas k h4⟩
  | .cell _, _, h => by
    simp only [Rep] at h ⊢
    exact h
  | .lam _ _, _, h => by
    simp only [Rep] at h ⊢
    obtain ⟨L, p, e, sc, clo, vs, h1, h0, h2, h3, h4⟩ := h
    exact ⟨L, p, e, sc, clo, vs, h1, h0, h2, h3.more k, Reps.bas k h4⟩
theorem Reps.bas (k : ∀ a o, Γ.base.get? a = some o → b.get? a = some o) : ∀ {ds : List D} {vs : List V}, Reps Γ I ds vs → Reps (Γ.bas b) I ds vs
  | [], _, h => h
  | _ :: _, _, h => by
    simp only [Reps] at h ⊢
    obtain ⟨v, r, h1, h2, h3⟩ := h
    exact ⟨v, r, h1, Rep.bas k h2, Reps.bas k h3⟩
theorem RepK.bas (k : ∀ a o, Γ.base.get? a = some o → b.get? a = some o) : ∀ {ds : List (Key × D)} {vs : List (Key × V)}, RepK Γ I ds vs → RepK (Γ.bas b) I ds vs
  | [], _, h => h
  | _ :: _, _, h => by
    simp only [RepK] at h ⊢
    obtain ⟨v, r, h1, h2, h3⟩ := h
    exact ⟨v, r, h1, Rep.bas k h2, RepK.bas k h3⟩
end
theorem Wf.bas {H : Hp} {T : Cs} (w : Wf Γ H I T) (k : ∀ a o, Γ.base.get? a = some o → b.get? a = some o) : Wf (Γ.bas b) H I T :=
  ⟨w.gh, w.nd, w.kg, w.len, fun n a ds e1 e2 => let ⟨vs, h1, h2⟩ := w.cells n a ds e1 e2; ⟨vs, h1, h2.bas k⟩, w.ug, w.tb, w.lc, w.tg⟩
theorem Rep.unbas {I' : Im} {d : D} {v : V} (h : Rep (Γ.bas b) I d v) (f : flatD d = true) : Rep Γ I' d v := by
  cases d with
  | non => rw [h.non]; exact .ofNon
  | bl b => rw [h.bl]; exact .ofBl
  | int b => rw [h.int]; exact .ofInt
  | str b => rw [h.str]; exact .ofStr
  | _ => cases f
theorem Reps.unbas {I' : Im} : ∀ {ds : List D} {vs : List V}, Reps (Γ.bas b) I ds vs → ds.all flatD = true → Reps Γ I' ds vs
  | [], _, h, _ => by simp only [Reps] at h; subst h; exact Reps.nil
  | d :: ds, _, h, f => by
    simp only [Reps] at h
    obtain ⟨v, r, rfl, h2, h3⟩ := h
    rw [List.all_cons] at f
    obtain ⟨f1, f2⟩ := b2 f
    exact Reps.cons (h2.unbas f1) (Reps.unbas h3 f2)
/-- back to what was known ahead of the call: w', x, w1: told with the lent list and the larger base -/
theorem bas_back {H H1 : Hp} {I' I1 : Im} {T T1 : Cs} (w : Wf Γ H I T) (gg : ∀ a o, I.G a = some o → I'.G a = some o) (kk : ∀ (m : Nat) a, I.κ[m]? = some a → I'.κ[m]? = some a)
    (kn : ∀ a, a ∈ I'.κ → a ∈ I.κ ∨ H a = none) (x : Ext O0 H I' H1 I1) (w1 : Wf (Γ.bas b) H1 I1 T1) (hf : flatCs (T1.take T.length) = true) : Ext O0 H I H1 I ∧ Wf Γ H1 I (T1.take T.length) := by
  have hk2 : ∀ (m : Nat) a, I.κ[m]? = some a → I1.κ[m]? = some a := fun m a h => x.kk m a (kk m a h)
  have hlen : T.length ≤ T1.length := by
    rw [← w.len, ← w1.len]
    by_cases h0 : I.κ.length = 0
    · omega
    · have hm : I.κ.length - 1 < I.κ.length := by omega
      have e : I.κ[I.κ.length - 1]? = some I.κ[I.κ.length - 1] := by simp [hm]
      have e2 := (List.getElem?_eq_some_iff.mp (hk2 _ _ e)).1
      omega
  refine ⟨⟨fun _ _ h => h, fun _ _ h => h, fun a o h nk no nt => x.fr a o h (fun q => (kn a q).elim nk fun z => by rw [h] at z; cases z) no nt, x.th, fun _ h => .inl h, fun _ h => .inl h, rfl⟩, ?_⟩
  refine ⟨fun a o h => w1.gh a o (x.gg a o (gg a o h)), w.nd, w.kg, by rw [List.length_take, w.len]; omega, fun m a ds e1 e2 => ?_, w.ug, w1.tb, w1.lc.keep (fun _ _ h _ => h) (fun f φ h => x.gg _ _ (gg _ _ h)), w.tg⟩
  have hm : m < T.length := by rw [← w.len]; exact (List.getElem?_eq_some_iff.mp e1).1
  have e3 : T1[m]? = some ds := by rw [List.getElem?_take_of_lt hm] at e2; exact e2
  obtain ⟨vs, h1, h2⟩ := w1.cells m a ds (hk2 m a e1) e3
  have hmem : ds ∈ T1.take T.length := List.mem_of_getElem? e2
  exact ⟨vs, h1, h2.unbas (List.all_eq_true.mp hf ds hmem)⟩
end
/-! ### the larger base -/
/-- all that is neither tracked nor a frame's -/
def basO (h : Heap) (H : Hp) (outer : List PySem.Env) : Heap := PySem.W.hideAll (hidT h H) (L2.frs outer)
theorem funF_base {h base base' : Heap} : ∀ {l : List PySem.Env}, h.FunFrames base l → (∀ L ∈ L2.frs l, base'.get? L = none) → h.FunFrames base' l
  | [], _, _ => trivial
  | env :: l, ⟨h1, ⟨L, o, h2, h3, h4⟩, h5⟩, k => ⟨h1, ⟨L, o, h2, k L (List.mem_filterMap.mpr ⟨env, List.mem_cons_self, h2⟩), h4⟩, funF_base h5 fun L hL => by
      obtain ⟨e, he, q⟩ := List.mem_filterMap.mp hL
      exact k L (List.mem_filterMap.mpr ⟨e, List.mem_cons_of_mem _ he, q⟩)⟩
theorem funF_none {h base : Heap} : ∀ {l : List PySem.Env}, h.FunFrames base l → ∀ L ∈ L2.frs l, base.get? L = none
  | env :: l, ⟨h1, ⟨L, o, h2, h3, h4⟩, h5⟩, L', hL => by
    obtain ⟨e, he, q⟩ := List.mem_filterMap.mp hL
    rcases List.mem_cons.mp he with rfl | he
    · rw [h2] at q; cases q; exact h3
    · exact funF_none h5 L' (List.mem_filterMap.mpr ⟨e, he, q⟩)
section
variable {P : Program} {w : World} {K : PySem.W.Frag} {mg : Str → Option Value} {base : Heap} {A : Around} {outer : List PySem.Env} {s : Shared} {H : Hp}
theorem basO_get {b : Addr} {o : Obj} (h1 : s.heap.get? b = some o) (h2 : H b = none) (h3 : b ∉ L2.frs outer) : (basO s.heap H outer).get? b = some o := PySem.W.hideAll_get _ (hidT_get h1 h2) h3
theorem basO_keep (e0 : Env0 P w K mg base A outer s H) : ∀ b o, base.get? b = some o → (basO s.heap H outer).get? b = some o := fun b o e =>
  basO_get (e0.bs b o e).1 (e0.bs b o e).2 fun hm => by rw [funF_none e0.funs b hm] at e; cases e
theorem basO_env (e0 : Env0 P w K mg base A outer s H) : Env0 P w K mg (basO s.heap H outer) A outer s H := by
  have k := basO_keep e0
  refine ⟨e0.frames, ⟨fun b o e => k b o (e0.mod.kin b o e), e0.mod.glob.keeps k, let ⟨mb, h1, h2⟩ := e0.mod.blt; ⟨mb, h1.keeps k, h2⟩, e0.mod.nolimit.keeps k⟩, fun b o e => of_hidT (PySem.W.of_hideAll _ e), ?_, funF_base e0.funs fun L hL => PySem.W.hideAll_none _ hL, e0.frf, e0.hok, e0.bare⟩
  unfold basO
  rw [PySem.W.hideAll_size, hidT_size]
  exact Nat.le_refl _
end
end Tp
end
section
set_option Elab.async false
set_option linter.all false
set_option maxRecDepth 100000
set_option maxHeartbeats 2000000
/-! TsI: a lambda of the running def, as data: the captured locals' values. -/
namespace Tp
open PySem PySem.Spec PyProof.Rows L2
theorem cellsFrom_ge {k : Nat} : ∀ (names : List (Str × NameKind)) (n : Nat) (acc : List (Str × Addr)), k ≤ n → (∀ p ∈ acc, k ≤ p.2) → ∀ p ∈ cellsFrom n names acc, k ≤ p.2
  | [], _, _, _, h => h
  | (name, kind) :: r, n, acc, hn, h => by
    unfold cellsFrom
    split
    · exact cellsFrom_ge r (n + 1) _ (by omega) fun p hp => by
        rcases List.mem_cons.mp hp with rfl | hp
        · exact hn
        · exact h p hp
    · exact cellsFrom_ge r n acc hn h
/-- the locals' values -/
def capD (ρ : Env) : List Nat → Option (List D)
  | [] => some []
  | i :: is => match ρ[i]? with
    | some (some (.sh d)) => (capD ρ is).map fun ds => d :: ds
    | _ => none
abbrev CapT := List (Nat × LamRow × List Nat)
def lamVal (caps : CapT) (ρ : Env) (k : Nat) : Option D := match caps.find? fun c => c.1 == k with
  | some c => (capD ρ c.2.2).map fun ds => .lam k ds
  | none => none
def lamVals (caps : CapT) (ρ : Env) : List Nat → Option (List D)
  | [] => some []
  | k :: ks => match lamVal caps ρ k, lamVals caps ρ ks with
    | some d, some ds => some (d :: ds)
    | _, _ => none
def capsChk (sc : Sc) (caps : CapT) : Bool := caps.all fun c => decide (sc.nm = c.2.1.msc) && (decide (c.2.2.length = c.2.1.N.length) && decide (c.2.2.map (fun i => sc.N[i]?) = c.2.1.N.map some))
def capsNeed (Γ : Gam) : CapT → Prop
  | [] => True
  | c :: cs => Γ.lt[c.1]? = some c.2.1.L ∧ capsNeed Γ cs
theorem capsNeed_at {Γ : Gam} : ∀ {caps : CapT} {c : Nat × LamRow × List Nat}, capsNeed Γ caps → c ∈ caps → Γ.lt[c.1]? = some c.2.1.L
  | _ :: _, _, h, hc => by
    rcases List.mem_cons.mp hc with rfl | hc
    · exact h.1
    · exact capsNeed_at h.2 hc
section
variable {Γ : Gam} {n : Nat} {σ : L2.St} {ρ : Env} {H : Hp} {I : Im} {own : Nat → List Addr}
theorem capD_ok (er : ER Γ n σ ρ H I own) : ∀ {is : List Nat} {ds : List D}, capD ρ is = some ds → ∃ vs : List V, Reps Γ I ds vs ∧ vs.length = is.length ∧ ∀ (j i : Nat), is[j]? = some i → ∃ v, σ[i]? = some (some v) ∧ vs[j]? = some v
  | [], _, h => by
    cases h
    exact ⟨[], Reps.nil, rfl, fun j i e => by simp at e⟩
  | i :: is, ds, h => by
    unfold capD at h
    split at h
    · rename_i d e1
      obtain ⟨ds', e2, rfl⟩ := Option.map_eq_some_iff.mp h
      obtain ⟨vs, r, hl, hv⟩ := capD_ok er e2
      obtain ⟨v, h1, h2⟩ := er.at_ i _ e1
      refine ⟨v :: vs, Reps.cons h2.2 r, by rw [List.length_cons, List.length_cons, hl], fun j i' e => ?_⟩
      cases j with
      | zero => cases e; exact ⟨v, h1, rfl⟩
      | succ j => exact hv j i' e
    · cases h
variable {X : Cx} {pins : List (Addr × Obj)} {s : Shared} {k : Nat} {W : WX} {sc : Sc}
theorem frs_cons {env : PySem.Env} {l : List PySem.Env} {b : Addr} (h : b ∈ L2.frs (env :: l)) : env.frame = some b ∨ b ∈ L2.frs l := by
  obtain ⟨e, he, q⟩ := List.mem_filterMap.mp h
  rcases List.mem_cons.mp he with rfl | he
  · exact .inl q
  · exact .inr (List.mem_filterMap.mpr ⟨e, he, q⟩)
theorem funF_lt {h base : Heap} : ∀ {l : List PySem.Env}, h.FunFrames base l → ∀ L ∈ L2.frs l, L < h.objs.size
  | env :: l, ⟨h1, ⟨L, o, h2, h3, h4, _⟩, h5⟩, L', hL => by
    rcases frs_cons hL with q | q
    · rw [h2] at q; cases q; exact Heap.lt_size h4
    · exact funF_lt h5 L' q
/-- the running def's cells are in the larger base -/
theorem cell_bas (Iv : L2.Inv X pins σ H s) (mk : MkX Γ X) (st : X.stack = X.env :: X.outer ∧ X.env.frame = some X.env.locals) {x : Str} {c : Addr} {u : Option Value} (hc : X.env.cells.lookup x = some c) (hu : s.heap.IsCell c u) : (basO s.heap H X.stack).IsCell c u := by
  obtain ⟨o, ho, hd⟩ := hu
  refine ⟨o, basO_get ho (Iv.freeC x c hc) fun hm => ?_, hd⟩
  rw [st.1] at hm
  rcases frs_cons hm with q | q
  · rw [st.2] at q
    cases q
    obtain ⟨m, ⟨o2, es, ep, e1, e2, _⟩, _⟩ := Iv.loc
    rw [ho] at e1; cases e1
    rw [hd] at e2; cases e2
  · have h1 := funF_lt Iv.ok.funs c q
    have h2 := PySem.mem_of_lookup hc
    rw [mk.cells] at h2
    have h3 := cellsFrom_ge (k := X.s_0.heap.objs.size + 1) _ _ [] (Nat.le_refl _) (fun p hp => by cases hp) _ h2
    have h3 : X.s_0.heap.objs.size + 1 ≤ c := h3
    exact Nat.lt_irrefl _ (Nat.lt_of_lt_of_le (Nat.lt_succ_of_lt h1) h3)
theorem clo_at (Iv : L2.Inv X pins σ H s) (mk : MkX Γ X) (st : X.stack = X.env :: X.outer ∧ X.env.frame = some X.env.locals) {r : LamRow} {p : Arguments} {b : Expr} {sc' : Scope} (S : LamS r p b sc') (hm : X.env.scope.names = r.msc) {is : List Nat} {vs : List V} (hl : vs.length = is.length)
    (hN : is.map (fun i => X.N[i]?) = r.N.map some) (hv : ∀ (j i : Nat), is[j]? = some i → ∃ v, σ[i]? = some (some v) ∧ vs[j]? = some v) : CloAt (basO s.heap H X.stack) (cloFrom X.env.cells sc'.names []) r.N vs := by
  have hfree : ∀ y ∈ sc'.names, y.2 = .free → ∃ c, X.env.cells.lookup y.1 = some c := fun y hy hf => by
    have h4 := (S.free y hy hf).2
    rw [← hm] at h4
    exact Iv.ok.has y.1 (.inl h4)
  have cm : ∀ {y : Str} {c : Addr}, (cloFrom X.env.cells sc'.names []).lookup y = some c → X.env.cells.lookup y = some c := fun {y c} e => by
    rcases L2.cloFrom_mem (PySem.mem_of_lookup e) with hm | ⟨h1, h2⟩
    · cases hm
    · obtain ⟨c1, hc⟩ := hfree _ h1 rfl
      have hc : X.env.cells.lookup y = some c1 := hc
      rw [hc] at h2 ⊢
      rw [h2]; rfl
  have ln : is.length = r.N.length := by have := congrArg List.length hN; rwa [List.length_map, List.length_map] at this
  refine ⟨hl.trans ln, fun x y c e1 e2 => Iv.ok.inj x y c (cm e1) (cm e2), fun x c e => ?_, fun j x hx => ?_⟩
  · obtain ⟨u, hu⟩ := Iv.cell x c (cm e)
    exact ⟨u, cell_bas Iv mk st (cm e) hu⟩
  · have hj : j < is.length := by rw [ln]; exact (List.getElem?_eq_some_iff.mp hx).1
    obtain ⟨v, h1, h2⟩ := hv j is[j] (List.getElem?_eq_getElem hj)
    have e1 := congrArg (fun l => l[j]?) hN
    simp only [List.getElem?_map, hx, List.getElem?_eq_getElem hj, Option.map_some] at e1
    have e1 : X.N[is[j]]? = some x := Option.some.inj e1
    have kf := S.inn x (List.mem_of_getElem? hx)
    have hy : (x, NameKind.free) ∈ sc'.names := PySem.mem_of_lookup kf
    obtain ⟨c2, h3⟩ := L2.mem_lookup (L2.cloFrom_has (cells := X.env.cells) (acc := []) hy)
    have kc : X.env.scope.names.lookup x = some .cell := by rw [hm]; exact (S.free _ hy rfl).2
    obtain ⟨m, _, hlk⟩ := Iv.loc
    obtain ⟨u, ru, q⟩ := hlk is[j] x v e1 h1 (.inr (.inl kc))
    refine ⟨c2, v, u, h3, h2, ru, ?_⟩
    rcases q with ⟨k', _⟩ | ⟨_, c3, e', z⟩
    · have k' : X.env.scope.names.lookup x = some .local := k'
      rw [kc] at k'; cases k'
    · rw [cm h3] at e'
      cases e'
      exact cell_bas Iv mk st (cm h3) z
theorem lam_rep (g : Good Γ k W sc X) (hmk : isMk sc = true) (st : X.stack = X.env :: X.outer ∧ X.env.frame = some X.env.locals) (hn : n = X.s_0.heap.objs.size) (Iv : L2.Inv X pins σ H s) (er : ER Γ n σ ρ H I own) (e0 : Env0 Γ.P Γ.w Γ.K Γ.mg Γ.base X.A X.stack s H) {caps : CapT} (hc : capsChk sc caps = true) (nd : capsNeed Γ caps)
    {kk : Nat} {v : V} {d : D} (l : LamN Γ n I kk v) (e : lamVal caps ρ kk = some d) : Rep (Γ.bas (basO s.heap H X.stack)) I d v := by
  unfold lamVal at e
  split at e
  case h_2 => cases e
  rename_i c hf
  obtain ⟨ds, e1, rfl⟩ := Option.map_eq_some_iff.mp e
  have hmem := List.mem_of_find?_eq_some hf
  have hk : c.1 = kk := by have := List.find?_some hf; simpa using this
  subst hk
  obtain ⟨h1, h⟩ := b2 (List.all_eq_true.mp hc c hmem)
  obtain ⟨h2, h3⟩ := b2 h
  have h1 := of_decide_eq_true h1
  have h3 := of_decide_eq_true h3
  have lt := capsNeed_at nd hmem
  obtain ⟨L, p, b, sc', q1, q2, q3⟩ := l
  rw [lt] at q1
  cases q1
  have S : LamS c.2.1 p b sc' := lamOk_ok q2
  obtain ⟨vs, r, hl, hv⟩ := capD_ok er e1
  have mk := g.lk hmk
  have C := clo_at Iv mk st S (by rw [g.nm]; exact h1) hl (by rw [g.N]; exact h3) hv
  simp only [Rep]
  refine ⟨c.2.1.L, p, b, sc', _, vs, lt, q2, q3, ?_, Reps.bas (basO_keep e0) r⟩
  have ec : cloN n c.2.1.L sc' = cloFrom X.env.cells sc'.names [] := by
    unfold cloN
    rw [mk.cells, g.nm, h1, hn]; rfl
  rw [ec]
  exact C
theorem lams_rep (g : Good Γ k W sc X) (hmk : isMk sc = true) (st : X.stack = X.env :: X.outer ∧ X.env.frame = some X.env.locals) (hn : n = X.s_0.heap.objs.size) (Iv : L2.Inv X pins σ H s) (er : ER Γ n σ ρ H I own) (e0 : Env0 Γ.P Γ.w Γ.K Γ.mg Γ.base X.A X.stack s H) {caps : CapT} (hc : capsChk sc caps = true) (nd : capsNeed Γ caps) :
    ∀ {ks : List Nat} {us : List V} {ds : List D}, LamsN Γ n I ks us → lamVals caps ρ ks = some ds → Reps (Γ.bas (basO s.heap H X.stack)) I ds us
  | [], _, _, l, e => by
    cases e
    have l : _ = [] := l
    subst l; exact Reps.nil
  | kk :: ks, _, _, l, e => by
    obtain ⟨v, r, rfl, l1, l2⟩ := l
    unfold lamVals at e
    split at e
    · rename_i d ds e1 e2
      cases e
      exact Reps.cons (lam_rep g hmk st hn Iv er e0 hc nd l1 e1) (lams_rep g hmk st hn Iv er e0 hc nd l2 e2)
    · cases e
end
end Tp
end
section
set_option Elab.async false
set_option linter.all false
set_option maxRecDepth 100000
set_option maxHeartbeats 2000000
/-! TsJ: a def called with lambdas of the running def. -/
namespace Tp
open PySem PySem.Spec PyProof.Rows L2
/-- the argument: a local's list of lambdas, a list display of such ones, a lambda -/
inductive LArg where
  | var (i : Nat)
  | lst (rs : List (Nat × LamRow))
  | one (k : Nat) (r : LamRow)
def LArg.ks (ρ : Env) : LArg → Option (List Nat)
  | .var i => (match ρ[i]? with
    | some (some (.lms ks)) => some ks
    | _ => none)
  | .lst rs => some (rs.map (·.1))
  | .one k _ => some [k]
def LArg.d (caps : CapT) (ρ : Env) : LArg → Option D
  | .one k _ => lamVal caps ρ k
  | a => (a.ks ρ).bind fun ks => (lamVals caps ρ ks).map .lst
def LArg.chk (lv : Nat) (sc : Sc) : LArg → Expr → Bool
  | .var i, .Name x _ => isVar sc i x
  | .lst rs, e => (cLams rs).chk lv sc e
  | .one k r, e => (cLam k r).chk lv sc e
  | _, _ => false
def LArg.need (Γ : Gam) : LArg → Prop
  | .var _ => True
  | .lst rs => (cLams rs).need Γ
  | .one k r => (cLam k r).need Γ
/-- the argument's value -/
def LaV (Γ : Gam) (n : Nat) (ρ : Env) (I : Im) (H : Hp) (a : LArg) (v : V) : Prop := match a with
  | .one k _ => LamN Γ n I k v
  | a => ∃ b us ks, v = .ref b ∧ H b = some (.lst us) ∧ I.G b = none ∧ b ∉ I.κ ∧ LamsN Γ n I ks us ∧ a.ks ρ = some ks
theorem LaV.ext {Γ : Gam} {n : Nat} {ρ : Env} {I I' : Im} {H H' : Hp} {a : LArg} {v : V} (x : Ext O0 H I H' I') (h : LaV Γ n ρ I H a v) : LaV Γ n ρ I' H' a v := by
  have key : (∃ b us ks, v = .ref b ∧ H b = some (.lst us) ∧ I.G b = none ∧ b ∉ I.κ ∧ LamsN Γ n I ks us ∧ a.ks ρ = some ks) → ∃ b us ks, v = .ref b ∧ H' b = some (.lst us) ∧ I'.G b = none ∧ b ∉ I'.κ ∧ LamsN Γ n I' ks us ∧ a.ks ρ = some ks := fun ⟨b, us, ks, h1, h2, h3, h4, h5, h6⟩ => by
    obtain ⟨p1, p2, _⟩ := x.apart h3 h4 (by rw [h2]; simp) fun z => z
    exact ⟨b, us, ks, h1, x.fr _ _ h2 h4 (fun z => z) trivial, p1, p2, h5.mono x.le, h6⟩
  cases a with
  | one k r => exact LamN.mono x.le h
  | var i => exact key h
  | lst rs => exact key h
def tL (Γ : Gam) (n : Nat) (a : LArg) : TE := fun σ H Q => ∃ I ρ T own, Wf Γ H I T ∧ ER Γ n σ ρ H I own ∧ (a.ks ρ).isSome = true ∧ ∀ v H' I', Ext O0 H I H' I' → Wf Γ H' I' T → LaV Γ n ρ I' H' a v → Q v H'
theorem larg_ok {Γ : Gam} {lv : Nat} {W : WX} {sc : Sc} {X : Cx} {n : Nat} {a : LArg} {e : Expr} (g : Good Γ lv W sc X) (hn : n = X.s_0.heap.objs.size) (nd : a.need Γ) (h : a.chk lv sc e = true) : PE X e (tL Γ n a) := by
  cases a with
  | var i =>
    cases e with
    | Name x pos =>
      refine PE.mono (isVar_ok g h) fun σ H Q q => ?_
      obtain ⟨I, ρ, T, own, w, er, hs, p⟩ := q
      have hs : (match ρ[i]? with
        | some (some (.lms ks)) => some ks
        | _ => none : Option (List Nat)).isSome = true := hs
      split at hs
      · rename_i ks e1
        obtain ⟨v, h1, b, us, h2, rfl, h3, h4⟩ := er.at_ i _ e1
        obtain ⟨f1, f2, _⟩ := er.free i b (by rw [h2]; simp)
        refine ⟨_, h1, p _ H I Ext.refl w ⟨b, us, ks, rfl, h3, f1, f2, h4, ?_⟩⟩
        show (match ρ[i]? with
          | some (some (.lms ks)) => some ks
          | _ => none) = _
        rw [e1]
      · cases hs
    | _ => cases h
  | lst rs =>
    refine PE.mono ((cLams rs).ok (n := n) g nd h fun _ => hn) fun σ H Q q => ?_
    obtain ⟨I, ρ, T, own, w, er, _, p⟩ := q
    refine ⟨I, ρ, T, own, w, er, fun v H' I' x w' rv => ?_⟩
    obtain ⟨as, ⟨b, us, rfl, rfl, h3, h4⟩, hf⟩ := rv
    obtain ⟨f1, f2, _, _⟩ := hf b (by simp)
    exact p _ H' I' x w' ⟨b, us, _, rfl, h3, f1, f2, h4, rfl⟩
  | one k r =>
    refine PE.mono ((cLam k r).ok (n := n) g nd h fun _ => hn) fun σ H Q q => ?_
    obtain ⟨I, ρ, T, own, w, er, _, p⟩ := q
    refine ⟨I, ρ, T, own, w, er, fun v H' I' x w' rv => ?_⟩
    obtain ⟨as, ⟨_, h3⟩, _⟩ := rv
    exact p _ H' I' x w' h3
/-- what may be handed back -/
def okL : LV → Bool
  | .sh d => flatD d
  | .ow xs => xs.all flatD
  | _ => false
def callRes (n0 : Nat) : Ev LV → Ev R
  | .ok lv T2 => if okL lv && flatCs (T2.take n0) then .ok (.v lv) (T2.take n0) else .no
  | _ => .no
def callL (ev : FEv) (srcs : List Src) (dfl : List D) (caps : CapT) (la : LArg) (a : Env → Cs → Ev (List D)) : Env → Cs → Ev R := fun ρ T => match la.d caps ρ with
  | none => .no
  | some d0 => (a ρ T).bind fun ds T1 => callRes T1.length (ev (sel .non (d0 :: ds) dfl srcs) T1)
section
variable {Γ : Gam} {k : Nat} {W : WX} {sc : Sc} {X : Cx} {n : Nat}
/-- the argument as data, at the larger base, lent -/
theorem larg_rep (g : Good Γ k W sc X) (hmk : isMk sc = true) (st : X.stack = X.env :: X.outer ∧ X.env.frame = some X.env.locals) (hn : n = X.s_0.heap.objs.size) {pins : List (Addr × Obj)} {σ : L2.St} {ρ : Env} {H : Hp} {I : Im} {T : Cs} {own : Nat → List Addr} {s : Shared} (Iv : L2.Inv X pins σ H s) (er : ER Γ n σ ρ H I own) (w : Wf Γ H I T)
    (e0 : Env0 Γ.P Γ.w Γ.K Γ.mg Γ.base X.A X.stack s H) {caps : CapT} (hc : capsChk sc caps = true) (nd : capsNeed Γ caps) {la : LArg} {v : V} {d0 : D} (l : LaV Γ n ρ I H la v) (e : la.d caps ρ = some d0) :
    ∃ I', Rep (Γ.bas (basO s.heap H X.stack)) I' d0 v ∧ Wf (Γ.bas (basO s.heap H X.stack)) H I' T ∧ (∀ a o, I.G a = some o → I'.G a = some o) ∧ I'.κ = I.κ := by
  have lst : (∃ b us ks, v = .ref b ∧ H b = some (.lst us) ∧ I.G b = none ∧ b ∉ I.κ ∧ LamsN Γ n I ks us ∧ la.ks ρ = some ks) → ((la.ks ρ).bind fun ks => (lamVals caps ρ ks).map .lst) = some d0 →
      ∃ I', Rep (Γ.bas (basO s.heap H X.stack)) I' d0 v ∧ Wf (Γ.bas (basO s.heap H X.stack)) H I' T ∧ (∀ a o, I.G a = some o → I'.G a = some o) ∧ I'.κ = I.κ := fun ⟨b, us, ks, h1, h2, h3, h4, h5, h6⟩ e => by
    subst h1
    rw [h6, Option.bind_some] at e
    obtain ⟨ds, e1, rfl⟩ := Option.map_eq_some_iff.mp e
    have le : Im.Le I ⟨upd I.G b (.lst us), I.κ, I.me⟩ := ⟨fun a u e => by show upd I.G b _ a = _; rw [upd_ne (ne_of_none e h3)]; exact e, fun _ _ h => h, rfl⟩
    refine ⟨⟨upd I.G b (.lst us), I.κ, I.me⟩, ?_, (w.freeze h2 h3 h4).bas (basO_keep e0), le.gg, rfl⟩
    have r := lams_rep g hmk st hn Iv er e0 hc nd h5 e1
    simp only [Rep]
    exact ⟨b, us, rfl, upd_same, r.mono le⟩
  cases la with
  | var i => exact lst l e
  | lst rs => exact lst l e
  | one kk r => exact ⟨I, lam_rep g hmk st hn Iv er e0 hc nd l e, w.bas (basO_keep e0), fun _ _ h => h, rfl⟩
/-- the call -/
theorem callL_end (g : Good Γ k W sc X) (hmk : isMk sc = true) (st : X.stack = X.env :: X.outer ∧ X.env.frame = some X.env.locals) (hn : n = X.s_0.heap.objs.size) {s : DefSig} {ev : FEv} {f : Addr} {m : Nat} {srcs : List Src} (F : ∀ b, FnIs (Γ.bas b) s ev f) (B : BindOk s (m + 1) [] srcs) (hlv : s.lv ≤ k)
    {pins : List (Addr × Obj)} {σ : L2.St} {ρ : Env} {H : Hp} {sh : Shared} {Q : VK} {u : Value} {us : List Value} {v : V} {vs : List V} {ds : List D} {I : Im} {T : Cs} {own : Nat → List Addr}
    (Iv : L2.Inv X pins σ H sh) (r0 : RelV v u) (r1 : Vals vs us) (er : ER Γ n σ ρ H I own) (d1 : Reps Γ I ds vs) (h1 : ds.length = m) (w : Wf Γ H I T) {caps : CapT} (hc : capsChk sc caps = true) (nd : capsNeed Γ caps) {la : LArg} {d0 : D} (l : LaV Γ n ρ I H la v) (e : la.d caps ρ = some d0)
    {Hs : Hp} {Is : Im} (x : Ext O0 Hs Is H I) (p : Post Γ (RepR Γ n own) W σ Hs Is (callRes T.length (ev (sel .non (d0 :: ds) s.dfl srcs) T)) Q) : wpAny (model X.prog X.w) X.A (call (.ref f) (u :: us) []) (EP X pins σ Q) X.xe sh := by
  have e0 : Env0 Γ.P Γ.w Γ.K Γ.mg Γ.base X.A X.stack sh H := by
    have := Iv.env0
    rw [g.prog, g.w, g.K, g.mg, g.base] at this
    exact this
  obtain ⟨I', rv, w', gg, kk⟩ := larg_rep g hmk st hn Iv er w e0 hc nd l e
  obtain ⟨fd, FD, FG⟩ := (F (basO sh.heap H X.stack)).fn
  have KI : Γ.K.In sh.heap := by rw [← g.K]; exact Iv.kIn
  obtain ⟨its, ri, hb⟩ := bind_of (Γ := Γ.bas (basO sh.heap H X.stack)) B FD KI (us := u :: us) (ws := []) (by rw [List.length_cons, ← r1.length, d1.length, h1]) rfl
  have d1' : Reps (Γ.bas (basO sh.heap H X.stack)) I' ds vs := (d1.mono0 gg (by rw [kk]; exact fun _ _ h => h)).bas (basO_keep e0)
  have hrun := (FG.mono hlv).run X.A X.stack sh H ⟨u :: us, []⟩ (sel .none (u :: us) its srcs) (sel .non (v :: vs) (s.dfl.map constV) srcs) Q (WE W σ) g.gd g.room (basO_env e0) (by simpa using hb) (Tp.Vals.sel (show Vals (v :: vs) (u :: us) from .cons r0 r1) ri srcs)
    ⟨I', T, sel .non (d0 :: ds) s.dfl srcs, w', Reps.sel (Reps.cons rv d1') (Reps.consts B.cs) srcs, by unfold sel; rw [List.length_map, B.len], ?_⟩
  · have hrun : codeAny (model Γ.P Γ.w) X.A (.call (.ref f) ⟨u :: us, []⟩) (CR (L2.CX Γ.P Γ.w) X.stack Γ.P Γ.w H sh Q (WE W σ)) sh := hrun
    rw [← g.prog, ← g.w] at hrun
    refine wpAny_call (codeAny_mono hrun ?_)
    rintro r s' hq
    match r, hq with
    | .error e, hq => exact passAt g.tk σ pins H sh e s' Iv hq
    | .ok (.ret u), hq => exact Iv.after hq
    | .ok .next, hq => exact hq.elim
    | .ok .brk, hq => exact hq.elim
    | .ok .cont, hq => exact hq.elim
  · cases e2 : ev (sel .non (d0 :: ds) s.dfl srcs) T with
    | no => rw [e2] at p; exact p
    | ex y T' => rw [e2] at p; exact p.elim
    | ok lv T2 =>
      rw [e2] at p
      have p : Post Γ (RepR Γ n own) W σ Hs Is (if okL lv && flatCs (T2.take T.length) then .ok (.v lv) (T2.take T.length) else .no) Q := p
      split at p
      case isFalse => exact p.elim
      rename_i ok
      obtain ⟨o1, o2⟩ := b2 ok
      intro v' H' I1 as x1 w1 rl hf
      obtain ⟨x2, w2⟩ := bas_back w gg (by rw [kk]; exact fun _ _ h => h) (fun a ha => .inl (by rw [kk] at ha; exact ha)) x1 w1 o2
      refine p v' H' I (x.tr0 x2) w2 ?_
      cases lv with
      | sh d => exact ⟨[], ⟨rfl, rl.2.unbas o1⟩, fun a ha => by cases ha⟩
      | ow xs =>
        obtain ⟨a, zs, rfl, rfl, q3, q4⟩ := rl
        obtain ⟨f1, f2, f3, f4⟩ := hf a (by simp)
        refine ⟨[a], ⟨a, zs, rfl, rfl, q3, q4.unbas o1⟩, fun b hb => ?_⟩
        rw [List.mem_singleton.mp hb]
        refine ⟨?_, fun z => ?_, f3, ?_⟩
        · cases z : I.G a with
          | none => rfl
          | some o => rw [x1.gg a o (gg a o z)] at f1; cases f1
        · obtain ⟨i, hi, rfl⟩ := List.getElem_of_mem z
          exact f2 (List.mem_of_getElem? (x1.kk i _ (by rw [kk]; exact List.getElem?_eq_getElem hi)))
        · cases z : Hs a with
          | none => rfl
          | some o => exact absurd f4 (x.th a (by rw [z]; simp))
      | _ => cases o1
end
/-- f(lambdas, e, ..) -/
def cCallL (s : DefSig) (ev : FEv) (caps : CapT) (la : LArg) (a : CD) (srcs : List Src) {nn : Nat} (B : BindOk s (nn + 1) [] srcs) : CE where
  ev := callL ev srcs s.dfl caps la a.ev
  chk := fun k sc e => match e with
    | .Call (.Name x _) (e0 :: es) [] _ => isMk sc && (decide (nn = a.len) && (decide (x = s.nm) && (okName x && (isGl sc.nm x && (decide (s.lv ≤ k) && (noStars (e0 :: es) && (la.chk k sc e0 && (a.chk k sc es && capsChk sc caps))))))))
    | _ => false
  need := fun Γ => (∃ f, Γ.mg s.nm = some (.ref f) ∧ PySem.W.keepIn Γ.K (.ref f) = true ∧ ∀ b, FnIs (Γ.bas b) s ev f) ∧ la.need Γ ∧ a.need Γ ∧ capsNeed Γ caps
  z := true
  ok := by
    intro Γ k W sc X e n g nd h hz
    split at h
    · rename_i x px e0 es pos
      obtain ⟨hmk, h⟩ := b2 h
      obtain ⟨h01, h⟩ := b2 h
      obtain ⟨h1, h⟩ := b2 h
      obtain ⟨h2, h⟩ := b2 h
      obtain ⟨h3, h⟩ := b2 h
      obtain ⟨h4, h⟩ := b2 h
      obtain ⟨h5, h⟩ := b2 h
      obtain ⟨h6, h⟩ := b2 h
      obtain ⟨h7, h8⟩ := b2 h
      have e01 := of_decide_eq_true h01
      subst e01
      have hx := of_decide_eq_true h1
      subst hx
      obtain ⟨d1, _, _⟩ := okName_d h2
      obtain ⟨⟨f, hm, hkp0, F⟩, nl, na, nc⟩ := nd
      have hm' : X.mg s.nm = some (.ref f) := by rw [g.mg]; exact hm
      have hkp : PySem.W.keepIn X.K (.ref f) = true := by rw [g.K]; exact hkp0
      have hlv := of_decide_eq_true h4
      have hn := hz rfl
      have st : X.stack = X.env :: X.outer ∧ X.env.frame = some X.env.locals := g.tr (by
        unfold isMk at hmk
        split at hmk
        · cases hmk
        · rename_i y l e
          have := of_decide_eq_true hmk
          show decide (y.1 ≠ _) = true
          rw [this]; decide)
      have pa := pa_cons (larg_ok (n := n) g hn nl h6) (a.ok (n := n) g na h7 fun _ => hn) (star_cons (b2 h5).1)
      obtain ⟨n1, n2, n3⟩ := wNil.nm (k := k) (sc := sc) (env := X.env) (pos := pos) (e := []) rfl
      have pk := wNil.ok (n := n) g trivial (e := []) rfl (fun z => by cases z)
      refine ⟨fun pins sh σ H Q Iv ⟨I, ρ, T, own, w, er, p⟩ => wpAny_Call_Name_kw (ld_glob Iv (isGl_ok g.nm h3) hm' ?_ d1)⟩
      have p : Post Γ (RepR Γ n own) W σ H I (match la.d caps ρ with
        | none => .no
        | some d0 => (a.ev ρ T).bind fun ds T1 => callRes T1.length (ev (sel .non (d0 :: ds) s.dfl srcs) T1)) Q := p
      cases ed : la.d caps ρ with
      | none => rw [ed] at p; exact p.elim
      | some d0 =>
        rw [ed] at p
        have hks : (la.ks ρ).isSome = true := by
          cases la with
          | one kk r => rfl
          | var i => obtain ⟨ks, e1, _⟩ := Option.bind_eq_some_iff.mp ed; rw [e1]; rfl
          | lst rs => rfl
        refine PySem.W.callWith_KW (h₀ := X.base) Iv.ok.mod.kin hkp n1 (thn (pa.run pos pins sh σ H (fun us H2 => ∃ v vs ds T2 I2, us = v :: vs ∧ LaV Γ n ρ I2 H2 la v ∧ Ext O0 H I H2 I2 ∧ Wf Γ H2 I2 T2 ∧ Reps Γ I2 ds vs ∧ ds.length = a.len ∧ Post Γ (RepR Γ n own) W σ H I (callRes T2.length (ev (sel .non (d0 :: ds) s.dfl srcs) T2)) Q) Iv
          ⟨I, ρ, T, own, w, er, hks, fun v H1 I1 x1 w1 lv => ⟨I1, ρ, T, own, w1, er.ext x1, (Post.step (rel := relDs Γ) (show Post Γ (RepR Γ n own) W σ H I ((a.ev ρ T).bind fun ds T1 => callRes T1.length (ev (sel .non (d0 :: ds) s.dfl srcs) T1)) Q from p) x1).imp fun zs H2 q2 => ?_⟩⟩) ?_) (args_hp h5 n3) (star_cons (b2 h5).1)
        · obtain ⟨ds, T2, I2, e2, x2, w2, r2, p2⟩ := q2
          exact ⟨v, zs, ds, T2, I2, rfl, lv.ext x2, x1.tr0 x2, w2, r2, a.hlen e2, p2⟩
        · rintro us s1 ⟨vs', H1, Iv1, rv, v, vs, ds, T1, I1, rfl, lv, x1, w1, r1, hl, p1⟩
          refine thn (pk.run pos pins s1 σ H1 (fun ws H2 => ws = [] ∧ ∃ I2, Ext O0 H1 I1 H2 I2 ∧ Wf Γ H2 I2 T1) Iv1 ⟨I1, ρ, T1, own, w1, er.ext x1, ?_⟩) ?_
          · exact fun zs H2 I2 x2 w2 r2 => ⟨by simpa only [relDs, Reps] using r2, I2, x2, w2⟩
          · rintro ws s2 ⟨zs, H2, Iv2, rz, rfl, I2, x2, w2⟩
            rw [n2]
            cases rz
            cases rv with
            | cons r0 rv =>
              exact ⟨Iv2.kIn, callL_end g hmk st hn F B hlv Iv2 r0 rv ((er.ext x1).ext x2) (r1.mono x2.le) hl w2 h8 nc (lv.ext x2) ed (x1.tr0 x2) p1⟩
    · cases h
end Tp
end
section
set_option Elab.async false
set_option linter.all false
set_option maxRecDepth 100000
set_option maxHeartbeats 2000000
/-! TsK: defs in which lambdas are made. -/
namespace Tp
open PySem PySem.Spec PyProof.Rows L2
/-- what the making of lambdas asks of the def's code object -/
def MkF (Γ : Gam) (s : DefSig) (f : Addr) : Prop := ∀ (oc : Value) (od : Option Addr) (dV kV doc pm : Value) (an : Option Addr) (cdv ct : Value) (osl : Array (Option Value)), Γ.K.lookup f = some ⟨oc, od, .func (PySem.W.fnOf s.nm s.qual s.params s.body s.scope dV kV doc pm an cdv ct), osl⟩ →
  ∃ c P, cdv = .ref c ∧ LamX.TabB Γ.base Γ.mg c P ∧ (P, s.qual ++ ".<locals>." ++ "<lambda>") ∈ Γ.tb ∧ ∀ p ∈ Γ.tb, p.1 = P → p.2 = s.qual ++ ".<locals>." ++ "<lambda>"
theorem goodDefM {Γ : Gam} {k : Nat} {qual : Str} {scope : Scope} {N : List Str} {f : Addr} {cdv : Value} {A : Around} {outer : List PySem.Env} {s : Shared} {H : Hp} {E : XK} (hk : scope.kind = .function) (nd : N.Nodup) (hg : GdX Γ A) (hr : Room k (A.deeper (envOfC qual scope s.heap.objs.size f cdv)))
    (hm : ∃ c P, cdv = .ref c ∧ LamX.TabB Γ.base Γ.mg c P ∧ (P, qual ++ ".<locals>." ++ "<lambda>") ∈ Γ.tb ∧ ∀ p ∈ Γ.tb, p.1 = P → p.2 = qual ++ ".<locals>." ++ "<lambda>") :
    Good Γ k (fun cls d _ H => E cls d H) ⟨N, scope.names, (("#L" : Str), .globalImplicit) :: scope.names⟩ (cxOf (L2.CX Γ.P Γ.w) Γ.P Γ.w Γ.K Γ.mg Γ.base N qual scope f cdv A outer s H E) where
  prog := rfl
  w := rfl
  K := rfl
  mg := rfl
  base := rfl
  N := rfl
  nd := nd
  calm := rfl
  room := hr
  gd := hg
  nm := rfl
  fk := hk
  st := fun _ _ => .inl rfl
  tk := takes_of rfl rfl rfl rfl
  po := passes_of rfl
  tr := fun _ => ⟨rfl, rfl⟩
  lk := fun _ => ⟨rfl, hm⟩
theorem FnIs.ofM {Γ : Gam} {s : DefSig} {f : Addr} {k : Nat} (hlv : s.lv = k + 1) (hs : sigOk s = true) (F : ∃ fd, FunD Γ.K s.nm s.qual s.params s.body s.scope (s.dfl.map constV) [] f fd) (mk : MkF Γ s f) (b : CS) (nd : b.need Γ) (h : b.chk k ⟨s.N, s.scope.names, (("#L" : Str), .globalImplicit) :: s.scope.names⟩ s.body = true) :
    FnIs Γ s (defEv s.ps.length s.N.length b.ev) f := by
  obtain ⟨fd, F⟩ := F
  have S := sigOk_ok hs
  refine ⟨F.kp, fd, F, ?_⟩
  obtain ⟨oc, od, dV, kV, doc, pm, an, cdv, ct, osl, rfl, lk, hcd, _, _⟩ := F.ex
  have hm := mk _ _ _ _ _ _ _ _ _ _ lk
  rw [hlv]
  refine FnG.of lk hcd S (fun vs H Q E ⟨I, T, ds, w, r, hl, _⟩ => by rw [r.length, hl]) fun A outer sh H vs Q E hg hr ⟨I, T, ds, w, r, hl, p⟩ => ?_
  refine ⟨_, b.ok (goodDefM S.kind S.nd hg hr hm) nd h, ?_⟩
  refine ⟨I, ds.map (fun d => some (.sh d)) ++ List.replicate (s.N.length - ds.length) none, T, fun _ => [], w, er_start r, ?_⟩
  unfold defEv at p
  rw [if_pos hl] at p
  rw [hl]
  show PostS Γ _ _ _ (Ow fun _ => []) H I (b.ev _ T)
  cases e : b.ev (ds.map (fun d => some (.sh d)) ++ List.replicate (s.N.length - s.ps.length) none) T with
  | no => rw [e] at p; exact p
  | ex x T' => rw [e] at p; exact fun cls d σ' H' I' x w r => p cls d H' I' (x.mono fun a ⟨i, h⟩ => by cases h) w r
  | ok f T1 =>
    rw [e] at p
    have noO : ∀ a, Ow (fun _ => []) a → O0 a := fun a ⟨i, h⟩ => by cases h
    cases f with
    | nx ρ' =>
      intro σ' H' I' own' af
      exact p .non H' I' [] (af.ext.mono noO) af.wf ⟨rfl, .ofNon⟩ (by simp)
    | bk ρ' => exact p.elim
    | ct ρ' => exact p.elim
    | rt lv =>
      intro v H' I' as x w r q
      have key : ∀ lv', lv = lv' → anyN lv' → PostF Γ H I (.ok lv' T1) Q E → Q v H' := fun lv' e hz p => by
        subst e
        refine p v H' I' as (x.mono noO) w (r.any hz) fun a ha => ?_
        obtain ⟨q1, q2, q3, q4⟩ := q a ha
        exact ⟨q1, q2, q3, q4.elim (fun z => (noO a z).elim) id⟩
      cases lv with
      | sh d => exact key _ rfl trivial p
      | ow xs => exact key _ rfl trivial p
      | od xs => exact key _ rfl trivial p
      | oo c xs => exact p.elim
      | zp xs ys => exact p.elim
      | lm k => exact p.elim
      | lms k => exact p.elim
/-- the base's facts about the makers' tables go along with a larger base -/
theorem TabB.more {b b' : Heap} {mg : Str → Option Value} {c P : Addr} (t : LamX.TabB b mg c P) (k : ∀ a o, b.get? a = some o → b'.get? a = some o) : LamX.TabB b' mg c P := ⟨t.code.keeps k, t.bm.keeps k, t.gP⟩
theorem Hdp.bas {Γ : Gam} {fa : List He.Fa} {fn gs : List He.DefD} {ex : PySem.W.Frag → Bool} (S : Hdp Γ fa fn gs ex) (b : Heap) : Hdp (Γ.bas b) fa fn gs ex :=
  ⟨⟨S.hd.cd, S.hd.xf, S.hd.facts, S.hd.defs, S.hd.more, S.hd.at_⟩, S.gt⟩
end Tp
end
section
set_option Elab.async false
set_option linter.all false
set_option maxRecDepth 100000
set_option maxHeartbeats 2000000
/-! TsL: the end of a law in which lambdas are made: the makers' tables of code objects are tracked. -/
namespace Tp
open PySem PySem.Spec PyProof.Rows L2
/-- the script and the tables -/
def scHT (K : PySem.W.Frag) (a : Addr) (o : Obj) (vs : List V) (Ps : List Addr) : Hp := fun b => if b ∈ Ps then some (.tbl #[]) else scH K a o vs b
theorem run_scriptT {Γ : Gam} {mb : Str → Option Value} {k : Nat} {fa a : Addr} {fd : FuncData} {x : Str} {ev : FEv} {s : Shared} {us : List Value} {ns : List Int} {Ps : List Addr}
    (KI : Γ.K.In s.heap) (n1 : s.heap.Ns mainGlobals Γ.mg) (n2 : s.heap.Ns builtinsNs mb) (bb : ∀ x : Str, x ≠ "__name__" → mb x = bootBuiltins x) (lim : s.heap.NoLimit) (gens : s.gens = #[])
    (ha : s.heap.get? a = some { cls := .type "list", data := .seq us.toArray }) (hi : IntsAre us ns) (hl : ns.length ≤ sizeLine) (room : Room k callerA)
    (hT : ∀ P ∈ Ps, s.heap.get? P = some { cls := .none, data := .fields #[] }) (nT : ∀ P ∈ Ps, Γ.K.lookup P = none) (hC : ∀ P ∈ Ps, ∃ c, PySem.W.CodeHd s.heap c P)
    (hug : Γ.ug = []) (htb : ∀ p ∈ Γ.tb, p.1 ∈ Ps) (hb : Γ.base = hidT s.heap (scHT Γ.K a { cls := .type "list", data := .seq us.toArray } (ns.map V.int) Ps))
    (F : FnG Γ k fa fd [x] (spD Γ 1 ev)) (bind : ∀ u : Value, BindsTo s fd ⟨[u], []⟩ [(x, u)]) {T' : Cs} (e : ev [.fz (ns.map D.int)] [] = .ok (.sh (.bl true)) T') :
    codeAny (model Γ.P Γ.w) callerA (.call (.ref fa) ⟨[.ref a], []⟩) (fun r s' => r = .ok (.ret (.bool true)) ∧ OldK s.heap s'.heap ∧ s'.os = s.os ∧ AllBare s'.gens) s := by
  have aT : a ∉ Ps := fun z => by
    have q := hT a z
    rw [ha] at q
    have z' : Data.seq us.toArray _ = Data.fields #[] := congrArg Obj.data (Option.some.inj q)
    cases z'
  generalize hG : scH Γ.K a { cls := .type "list", data := .seq us.toArray } (ns.map V.int) = G
  have hH' : scHT Γ.K a { cls := .type "list", data := .seq us.toArray } (ns.map V.int) Ps = fun b => if b ∈ Ps then some (.tbl #[]) else G b := by rw [← hG]; rfl
  rw [hH'] at hb
  generalize hH : (fun b => if b ∈ Ps then some (HO.tbl #[]) else G b : Hp) = H at hb
  have inP : ∀ {b : Addr}, b ∈ Ps → H b = some (.tbl #[]) := fun h => by rw [← hH]; exact if_pos h
  have noP : ∀ {b : Addr}, b ∉ Ps → H b = G b := fun h => by rw [← hH]; exact if_neg h
  have gs : ∀ {b : Addr} {u : HO}, G b = some u → b = a ∧ Γ.K.lookup b = none ∧ u = .frz { cls := .type "list", data := .seq us.toArray } (.lst (ns.map V.int)) := fun {b u} h => by
    rw [← hG] at h; exact scH_some h
  have hs : ∀ {b : Addr} {u : HO}, H b = some u → (b ∈ Ps ∧ u = .tbl #[]) ∨ (b ∉ Ps ∧ b = a ∧ Γ.K.lookup b = none ∧ u = .frz { cls := .type "list", data := .seq us.toArray } (.lst (ns.map V.int))) := fun {b u} h => by
    by_cases hp : b ∈ Ps
    · rw [inP hp] at h; cases h; exact .inl ⟨hp, rfl⟩
    · rw [noP hp] at h; exact .inr ⟨hp, gs h⟩
  have rv := vals_ints hi
  have stay : ∀ {b : Addr} {o : Obj}, s.heap.get? b = some o → H b = none → (hidT s.heap H).get? b = some o := fun e n => hidT_get e n
  have notDict : ∀ {b : Addr} {o : Obj} {es : Array DictEntry} {n : Nat}, s.heap.get? b = some o → o.data = .dict es n → H b = none := fun {b o es n} h1 h2 => by
    cases q : H b with
    | none => rfl
    | some u =>
      rcases hs q with ⟨hp, _⟩ | ⟨_, rfl, _, _⟩
      · rw [hT b hp] at h1; cases h1; cases h2
      · rw [ha] at h1; cases h1; cases h2
  have nsI : ∀ {b : Addr} {m : Str → Option Value}, s.heap.Ns b m → (hidT s.heap H).Ns b m := fun ⟨o, es, n, h1, h2, h3⟩ => ⟨o, es, n, stay h1 (notDict h1 h2), h2, h3⟩
  have kI : Γ.K.In (hidT s.heap H) := fun b o h => stay (KI b o h) (by
    cases q : H b with
    | none => rfl
    | some u =>
      rcases hs q with ⟨hp, _⟩ | ⟨_, _, z, _⟩
      · rw [nT b hp] at h; cases h
      · rw [z] at h; cases h)
  have okH : HOk Γ.P Γ.w H s.heap := fun b u q => by
    rcases hs q with ⟨hp, rfl⟩ | ⟨_, rfl, _, rfl⟩
    · exact hT b hp
    · exact ⟨ha, by rw [List.length_map]; exact hl, us, _, rv, ha⟩
  have sq : SqL Γ.K G a (ns.map V.int) := by
    cases q : Γ.K.lookup a with
    | none => exact .inl (.inr ⟨_, by rw [← hG]; exact if_pos ⟨rfl, q⟩⟩)
    | some o =>
      have h1 := KI a o q
      rw [ha] at h1; cases h1
      exact .inr ⟨_, us.toArray, _, q, rfl, rfl, rfl, by rw [List.size_toArray, hi.length]; exact hl, by simpa using rv⟩
  have w : Wf Γ H ⟨G, [], none⟩ [] := ⟨fun b o h => by
      obtain ⟨rfl, _, _⟩ := gs h
      rw [noP aT]; exact h, List.nodup_nil, fun _ h => (by cases h), rfl, (fun n a ds h => by simp at h), (fun b hb => by rw [hug] at hb; cases hb),
    (fun p hp => ⟨#[], inP (htb p hp), True.intro, fun pos cv hc => by
      have z : codeAmong pos [] = some cv := hc
      simp [codeAmong] at z⟩), (fun f p b sc q clo pm c' ctv e => by obtain ⟨_, _, z⟩ := gs e; cases z), (fun p hp => by
      cases z : G p.1 with
      | none => exact z
      | some u =>
        obtain ⟨e1, _, _⟩ := gs z
        exact absurd (htb p hp) (by rw [e1]; exact aT))⟩
  have e0 : Env0 Γ.P Γ.w Γ.K Γ.mg Γ.base callerA [] s H := by
    rw [hb]
    exact ⟨rfl, ⟨kI, nsI n1, ⟨mb, nsI n2, bb⟩, let ⟨mc, h1, h2⟩ := lim; ⟨mc, nsI h1, h2⟩⟩, fun b o h => of_hidT h, Nat.le_of_eq (hidT_size _ _), trivial, fun b h => (by cases h), okH, .of_eq gens⟩
  refine codeAny_mono (F.run callerA [] s H ⟨[.ref a], []⟩ [.ref a] [.ref a] (fun v _ => v = .bl true) (fun _ _ _ => False) ⟨[], rfl, fun _ _ _ _ h => by cases h⟩ room e0 (bind (.ref a)) (.cons rfl .nil) ⟨⟨G, [], none⟩, [], [.fz (ns.map D.int)], w, Reps.cons (by simp only [Rep]; exact ⟨a, _, rfl, sq, Reps.ofInts⟩) Reps.nil, rfl, ?_⟩) fun r s' h => ?_
  · rw [e]
    intro v H' I' as _ _ q _
    exact q.2.bl
  · match r, h with
    | .ok (.ret u), h =>
      obtain ⟨v, H', os, bare, un, ok', rel, q⟩ := h
      have q : v = .bl true := q
      subst q
      obtain rfl : u = Value.bool true := rel
      have key : ∀ b o, b ∉ Ps → s.heap.get? b = some o → s'.heap.get? b = some o := fun b o nb h1 => by
        cases z : H b with
        | none => exact un.keep b o h1 z (fun h => by cases h) (fun h => by cases h)
        | some u =>
          rcases hs z with ⟨hp, _⟩ | ⟨_, rfl, _, rfl⟩
          · exact absurd hp nb
          · rw [ha] at h1; cases h1
            exact (ok' b _ (un.frzs b _ _ z)).1
      have grown : ∀ P ∈ Ps, ∃ more : Array Value, s'.heap.get? P = some { cls := .none, data := .fields more } := fun P hP => by
        obtain ⟨more, z⟩ := un.tbls P #[] (inP hP)
        exact ⟨_, ok' P _ z⟩
      refine ⟨rfl, ⟨fun b o h1 => ?_, fun b o h1 => ?_⟩, os, bare⟩
      · by_cases hp : b ∈ Ps
        · obtain ⟨more, hm⟩ := grown b hp
          obtain ⟨c, C⟩ := hC b hp
          rw [hT b hp] at h1
          cases h1
          exact .inr (.inl ⟨(C.tab (hT b hp)).isCodeTable, rfl, #[], more, rfl, by rw [Array.empty_append]; exact hm⟩)
        · exact .inl (key b o hp h1)
      · by_cases hp : b ∈ Ps
        · obtain ⟨more, hm⟩ := grown b hp
          exact ⟨_, hm⟩
        · exact ⟨o, key b o hp h1⟩
    | .ok .next, h => exact h.elim
    | .ok .brk, h => exact h.elim
    | .ok .cont, h => exact h.elim
    | .error e, h => exact let ⟨_, _, _, _, _, _, _, _, _, _, _, _, z⟩ := h; z.elim
end Tp
end
section
set_option Elab.async false
set_option linter.all false
set_option maxRecDepth 100000
set_option maxHeartbeats 2000000
/-! TsM: a law, by its def's evaluator, with lambdas. -/
namespace Tp
open PySem PySem.Spec PyProof.Rows L2
theorem tabB_hid {h : Heap} {mg : Str → Option Value} {c P a : Addr} {us : Array Value} {Ps : List Addr} {H : Hp} (n1 : h.Ns mainGlobals mg) (hm : P ∈ Ps) (hT : ∀ P ∈ Ps, h.get? P = some { cls := .none, data := .fields #[] }) (ha : h.get? a = some { cls := .type "list", data := .seq us }) (hs : ∀ b, H b ≠ none → b ∈ Ps ∨ b = a) (C : PySem.W.CodeHd h c P)
    (hbm : ∃ (bm : Addr) (ob : Obj), mg "__builtins__" = some (.ref bm) ∧ bm ≠ builtinsNs ∧ h.get? bm = some ob ∧ ob.cls = .type "module" ∧ ob.dict = some builtinsNs ∧ ob.data = .plain) : LamX.TabB (hidT h H) mg c P := by
  have keep : ∀ {b : Addr} {o : Obj}, h.get? b = some o → o.data ≠ .fields #[] → o.data ≠ .seq us → (hidT h H).get? b = some o := fun {b o} e d1 d2 => hidT_get e (by
    cases q : H b with
    | none => rfl
    | some u =>
      rcases hs b (by rw [q]; simp) with hp | rfl
      · rw [hT b hp] at e; cases e; exact absurd rfl d1
      · rw [ha] at e; cases e; exact absurd rfl d2)
  have nG : ∀ {b : Addr} {o : Obj}, h.get? b = some o → (∀ es n, o.data ≠ .dict es n) → b ≠ mainGlobals := fun {b o} e nd z => by
    obtain ⟨og, es, n, e1, e2, _⟩ := n1
    rw [z, e1] at e; cases e
    exact nd _ _ e2
  refine ⟨?_, ?_, fun z => ?_⟩
  · obtain ⟨o, vs, file, tf, flags, tg, inF, text, tt, e1, r1, r2, r3, rest⟩ := C
    refine ⟨o, vs, file, tf, flags, tg, inF, text, tt, keep e1 (fun z => ?_) (fun z => ?_), r1, r2, r3, rest⟩
    · rw [r2] at z
      cases z
      simp at r3
    · rw [r2] at z
      cases z
  · obtain ⟨bm, ob, b1, b2, b3, b4, b5, b6⟩ := hbm
    have np : bm ≠ P := fun z => by
      rw [z, hT P hm] at b3; cases b3; cases b6
    exact ⟨bm, ob, b1, b2, nG b3 (fun es n z => by rw [b6] at z; cases z), np, keep b3 (fun z => by rw [b6] at z; cases z) (fun z => by rw [b6] at z; cases z), b4, b5, b6⟩
  · exact nG (hT P hm) (fun es n q => by cases q) z.symm
/-- a law in whose defs (mk: their names, the names of their lambdas) lambdas are made -/
theorem law_endL {l : PySem.W.OpenLaw} {n k : Nat} {q : Program} {loose : List Str} {XP : (Str → Option Value) → Heap → Prop} {YP : World → Heap → Prop} {d : DefRec} {x : Str} {s : DefSig} {ev : FEv} {lt : List LamSig} (mk : List (Str × Str))
    (hn : l.most = some n) (hn2 : n ≤ sizeLine) (hdf : d.params.defaults = []) (hr : Room k callerA) (hlv : s.lv = k) (hps : s.ps = [x]) (B : BindOk s 1 [] [.a 0]) (hd0 : s.dfl = [])
    (hrec : ∀ m ∈ mk, ∃ dd, (recsOf q).find? (fun e => e.name == m.1) = some dd)
    (F : ∀ (w : World) (mg : Str → Option Value) (fa : Addr) (h : Heap), YP w h → h.Ns mainGlobals mg → mg d.name = some (.ref fa) → ∃ K : PySem.W.Frag, K.In h ∧ (∀ m ∈ mk, ∃ c P, PySem.W.tabIn K m.1 = some (c, P) ∧ K.lookup P = none) ∧
      ∀ base : Heap, (∀ m ∈ mk, ∀ c P, PySem.W.tabIn K m.1 = some (c, P) → LamX.TabB base mg c P) → FnIs ⟨l.prog, w, K, mg, base, cdT, xfT, [], mk.map fun m => (tabP K m.1, m.2), lt⟩ s ev fa)
    (law : ∀ ns : List Int, ns.length ≤ n → ∃ T', ev [.fz (ns.map D.int)] [] = .ok (.sh (.bl true)) T') :
    PySem.W.WalkO q loose XP YP l.row.toRowW d [] (fun f vs => PySem.call f vs) := by
  refine Att.attach_call hn hdf fun w s₀ s₁ mg mb fa o pm cd doc a vs ns G Y ho hd hcd hmg hobj hints hlen hg => ?_
  obtain ⟨K, KX, hK, hF⟩ := F w mg fa _ Y G.T.g hmg
  obtain ⟨T', e⟩ := law ns hlen
  have tabs : ∀ m ∈ mk, ∃ c, PySem.W.tabIn K m.1 = some (c, tabP K m.1) ∧ K.lookup (tabP K m.1) = none ∧ PySem.W.CodeHd s₁.heap c (tabP K m.1) ∧ s₁.heap.get? (tabP K m.1) = some { cls := .none, data := .fields #[] } := fun m hm => by
    obtain ⟨c, P, h1, h2⟩ := hK m hm
    obtain ⟨dd, hdd⟩ := hrec m hm
    have hP : tabP K m.1 = P := by unfold tabP; rw [h1]; rfl
    obtain ⟨h3, h4⟩ := PySem.W.tab_of G.T KX hdd h1
    rw [hP]
    exact ⟨c, h1, h2, h3, h4⟩
  have memP : ∀ P ∈ mk.map (fun m => tabP K m.1), ∃ m ∈ mk, tabP K m.1 = P := fun P hP => List.mem_map.mp hP
  have hT : ∀ P ∈ mk.map (fun m => tabP K m.1), s₁.heap.get? P = some { cls := .none, data := .fields #[] } := fun P hP => by
    obtain ⟨m, hm, rfl⟩ := memP P hP
    exact (tabs m hm).choose_spec.2.2.2
  have TB : ∀ m ∈ mk, ∀ c P, PySem.W.tabIn K m.1 = some (c, P) → LamX.TabB (hidT s₁.heap (scHT K a { cls := .type "list", data := .seq vs.toArray } (ns.map V.int) (mk.map fun m => tabP K m.1))) mg c P := fun m hm c P h1 => by
    obtain ⟨c', h2, _, h3, _⟩ := tabs m hm
    rw [h1] at h2
    cases h2
    refine tabB_hid G.T.g (List.mem_map.mpr ⟨m, hm, rfl⟩) hT hobj (fun b hb => ?_) h3 G.T.bmain
    by_cases hp : b ∈ mk.map fun m => tabP K m.1
    · exact .inl hp
    · refine .inr (scH_none (K := K) (o := { cls := .type "list", data := .seq vs.toArray }) (vs := ns.map V.int) (a := a) ?_).1
      unfold scHT at hb
      rw [if_neg hp] at hb
      exact hb
  obtain ⟨fd, FD, FG⟩ := (hF _ TB).fn
  rw [hlv, hps] at FG
  refine run_scriptT (Γ := ⟨l.prog, w, K, mg, _, cdT, xfT, [], mk.map fun m => (tabP K m.1, m.2), lt⟩) (Ps := mk.map fun m => tabP K m.1) KX G.T.g G.T.b G.T.builtins G.T.nolimit hg hobj hints (Nat.le_trans hlen hn2) hr hT (fun P hP => ?_) (fun P hP => ?_) rfl (fun p hp => ?_) rfl FG (fun u => ?_) e
  · obtain ⟨m, hm, rfl⟩ := memP P hP
    exact (tabs m hm).choose_spec.2.1
  · obtain ⟨m, hm, rfl⟩ := memP P hP
    exact ⟨_, (tabs m hm).choose_spec.2.2.1⟩
  · obtain ⟨m, hm, rfl⟩ := List.mem_map.mp hp
    exact List.mem_map.mpr ⟨m, hm, rfl⟩
  · obtain ⟨its, h1, h2⟩ := bind_of (Γ := ⟨l.prog, w, K, mg, hidT s₁.heap (scHT K a { cls := .type "list", data := .seq vs.toArray } (ns.map V.int) (mk.map fun m => tabP K m.1)), cdT, xfT, [], mk.map fun m => (tabP K m.1, m.2), lt⟩) B FD (sh := s₁) KX (us := [u]) (ws := []) rfl rfl
    rw [hps] at h2
    exact h2
end Tp
end
section
set_option Elab.async false
set_option linter.all false
set_option maxRecDepth 100000
set_option maxHeartbeats 2000000
/-! TsN: what a printed law asks of its makers of lambdas. -/
namespace Tp
open PySem PySem.Spec PyProof.Rows L2
theorem codeIs_ok {oc : Value} {od : Option Addr} {fd : FuncData} {osl : Array (Option Value)} {c : Addr} (h : codeIs (some ⟨oc, od, .func fd, osl⟩) c = true) : fd.code = .ref c := by
  unfold codeIs at h
  simp only at h
  split at h
  · rename_i c' e
    rw [e, beq_iff_eq.mp h]
  · cases h
theorem mkB_tab {K : PySem.W.Frag} {x : Str} (h : mkB K x = true) : ∃ c P, PySem.W.tabIn K x = some (c, P) ∧ K.lookup P = none := by
  unfold mkB at h
  split at h
  · rename_i c P e
    obtain ⟨h1, _⟩ := b2 h
    exact ⟨c, P, e, Option.isNone_iff_eq_none.mp h1⟩
  · cases h
/-- mk: the makers, the names of their lambdas -/
structure MkOk (Γ : Gam) (mk : List (Str × Str)) : Prop where
  tb : Γ.tb = mk.map fun m => (tabP Γ.K m.1, m.2)
  nd : (mk.map fun m => tabP Γ.K m.1).Nodup
  TB : ∀ m ∈ mk, ∀ c P, PySem.W.tabIn Γ.K m.1 = some (c, P) → LamX.TabB Γ.base Γ.mg c P
theorem nodup_key {α β γ : Type} {f : α → β} {g : α → γ} : ∀ {l : List α}, (l.map f).Nodup → ∀ a ∈ l, ∀ b ∈ l, f a = f b → g a = g b
  | x :: l, h, a, ha, b, hb, e => by
    rw [List.map_cons, List.nodup_cons] at h
    rcases List.mem_cons.mp ha with ea | ha'
    · rcases List.mem_cons.mp hb with eb | hb'
      · rw [ea, eb]
      · exact absurd (List.mem_map.mpr ⟨b, hb', by rw [← ea]; exact e.symm⟩) h.1
    · rcases List.mem_cons.mp hb with eb | hb'
      · exact absurd (List.mem_map.mpr ⟨a, ha', by rw [← eb]; exact e⟩) h.1
      · exact nodup_key h.2 a ha' b hb' e
theorem mkF_ok {Γ : Gam} {mk : List (Str × Str)} (M : MkOk Γ mk) {s : DefSig} (hm : (s.nm, s.qual ++ ".<locals>." ++ "<lambda>") ∈ mk) (h : mkB Γ.K s.nm = true) : MkF Γ s (He.fAd Γ.K (s.nm, none)) := by
  intro oc od dV kV doc pm an cdv ct osl lk
  unfold mkB at h
  split at h
  · rename_i c P e
    obtain ⟨_, h2⟩ := b2 h
    rw [lk] at h2
    have hP : tabP Γ.K s.nm = P := by unfold tabP; rw [e]; rfl
    have h3 : cdv = .ref c := codeIs_ok h2
    subst h3
    refine ⟨c, P, rfl, M.TB _ hm c P e, ?_, fun p hp h3 => ?_⟩
    · rw [M.tb]
      exact List.mem_map.mpr ⟨_, hm, by rw [← hP]⟩
    · rw [M.tb] at hp
      obtain ⟨m, hm2, rfl⟩ := List.mem_map.mp hp
      exact nodup_key (f := fun m : Str × Str => tabP Γ.K m.1) (g := fun m => m.2) M.nd m hm2 _ hm (h3.trans hP.symm)
  · cases h
end Tp
end
section
set_option Elab.async false
set_option linter.all false
set_option maxRecDepth 100000
set_option maxHeartbeats 0
namespace Lw
open PySem PySem.Spec PyProof.Rows L2 Tp


def s_want_field : DefSig := ⟨"want_field", "want_field", defArgs (top 39), defBody (top 39), defScope (top 39), ["value"], ["value"], [], 3⟩
def s_undone_by : DefSig := ⟨"undone_by", "undone_by", defArgs (top 22), defBody (top 22), defScope (top 22), ["prime", "number", "one"], ["prime", "number"], [], 1⟩
def s_less_row : DefSig := ⟨"less_row", "less_row", defArgs (top 49), defBody (top 49), defScope (top 49), ["prime", "row", "head", "place", "much", "near", "far"], ["prime", "row", "head", "place"], [], 1⟩
def s_figure_steps : DefSig := ⟨"figure_steps", "figure_steps", defArgs (top 50), defBody (top 50), defScope (top 50), ["prime", "rows", "left", "found", "place", "spots", "head", "turn", "row", "spot", "number"], ["prime", "rows"], [], 2⟩
def s_rows_rank : DefSig := ⟨"rows_rank", "rows_rank", defArgs (top 51), defBody (top 51), defScope (top 51), ["prime", "rows"], ["prime", "rows"], [], 3⟩
def s_figures_of : DefSig := ⟨"figures_of", "figures_of", defArgs (top 41), defBody (top 41), defScope (top 41), ["field", "one", "found", "left", "place"], ["field", "one"], [], 1⟩
def s_rank_of : DefSig := ⟨"rank_of", "rank_of", defArgs (top 52), defBody (top 52), defScope (top 52), ["field", "some", "one"], ["field", "some"], [], 4⟩
def s_is_list : DefSig := ⟨"is_list", "is_list", defArgs (top 14), defBody (top 14), defScope (top 14), ["value"], ["value"], [], 1⟩
def s_is_integer : DefSig := ⟨"is_integer", "is_integer", defArgs (top 12), defBody (top 12), defScope (top 12), ["value"], ["value"], [], 1⟩
def s_is_count : DefSig := ⟨"is_count", "is_count", defArgs (top 13), defBody (top 13), defScope (top 13), ["value"], ["value"], [], 2⟩
def s_is_in : DefSig := ⟨"is_in", "is_in", defArgs (top 53), defBody (top 53), defScope (top 53), ["field", "value"], ["field", "value"], [], 3⟩
def s_are_some : DefSig := ⟨"are_some", "are_some", defArgs (top 64), defBody (top 64), defScope (top 64), ["field", "value", "many", "one"], ["field", "value", "many"], [], 4⟩
def s_want_points : DefSig := ⟨"want_points", "want_points", defArgs (top 65), defBody (top 65), defScope (top 65), ["field", "value"], ["field", "value"], [], 5⟩
def s_by_figures_of : DefSig := ⟨"by_figures_of", "by_figures_of", defArgs (top 42), defBody (top 42), defScope (top 42), ["field", "row", "found", "one"], ["field", "row"], [], 1⟩
def s_plus_of : DefSig := ⟨"plus_of", "plus_of", defArgs (top 43), defBody (top 43), defScope (top 43), ["field", "one", "other", "pairs", "near", "far"], ["field", "one", "other"], [], 2⟩
def s_times_of : DefSig := ⟨"times_of", "times_of", defArgs (top 45), defBody (top 45), defScope (top 45), ["field", "one", "other"], ["field", "one", "other"], [], 1⟩
def s_power_of : DefSig := ⟨"power_of", "power_of", defArgs (top 47), defBody (top 47), defScope (top 47), ["field", "one", "many"], ["field", "one", "many"], [], 1⟩
def s_turned_of : DefSig := ⟨"turned_of", "turned_of", defArgs (top 48), defBody (top 48), defScope (top 48), ["field", "one", "many", "found", "turn"], ["field", "one", "many"], [], 2⟩
def s_worth_of : DefSig := ⟨"worth_of", "worth_of", defArgs (top 62), defBody (top 62), defScope (top 62), ["field", "turner", "one", "found", "at", "element"], ["field", "turner", "one"], [], 3⟩
def s_minus_of : DefSig := ⟨"minus_of", "minus_of", defArgs (top 44), defBody (top 44), defScope (top 44), ["field", "one", "other", "pairs", "near", "far"], ["field", "one", "other"], [], 2⟩
def s_told_of : DefSig := ⟨"told_of", "told_of", defArgs (top 56), defBody (top 56), defScope (top 56), ["numbers", "many"], ["numbers"], [], 1⟩
def s_sum_turners : DefSig := ⟨"sum_turners", "sum_turners", defArgs (top 59), defBody (top 59), defScope (top 59), ["field", "one", "other", "near", "far", "found", "at"], ["field", "one", "other"], [], 3⟩
def s_put_turners : DefSig := ⟨"put_turners", "put_turners", defArgs (top 61), defBody (top 61), defScope (top 61), ["field", "one", "other", "found", "at", "near", "to", "far"], ["field", "one", "other"], [], 3⟩
def s_times_turner : DefSig := ⟨"times_turner", "times_turner", defArgs (top 60), defBody (top 60), defScope (top 60), ["field", "one", "turner", "element"], ["field", "one", "turner"], [], 2⟩
def s_over_of : DefSig := ⟨"over_of", "over_of", defArgs (top 46), defBody (top 46), defScope (top 46), ["field", "one", "other"], ["field", "one", "other"], [], 1⟩
def s_through_of : DefSig := ⟨"through_of", "through_of", defArgs (top 66), defBody (top 66), defScope (top 66), ["field", "points", "worths", "found", "root", "point", "goal", "lead", "lack", "further"], ["field", "points", "worths"], [], 4⟩
def s_through : DefSig := ⟨"through", "through", defArgs (top 67), defBody (top 67), defScope (top 67), ["field", "points", "worths", "spots"], ["field", "points", "worths"], [], 6⟩
def s_units_of : DefSig := ⟨"units_of", "units_of", defArgs (top 69), defBody (top 69), defScope (top 69), ["field", "found"], ["field"], [], 1⟩
def s_worths_of : DefSig := ⟨"worths_of", "worths_of", defArgs (top 72), defBody (top 72), defScope (top 72), ["field", "told", "one"], ["field", "told"], [], 4⟩
def s_is_sum : DefSig := ⟨"is_sum", "is_sum", defArgs (top 57), defBody (top 57), defScope (top 57), ["field", "value", "one"], ["field", "value"], [], 4⟩
def s_want_turner : DefSig := ⟨"want_turner", "want_turner", defArgs (top 58), defBody (top 58), defScope (top 58), ["field", "value"], ["field", "value"], [], 5⟩
def s_table_of : DefSig := ⟨"table_of", "table_of", defArgs (top 75), defBody (top 75), defScope (top 75), ["field", "turner", "one"], ["field", "turner"], [], 6⟩
def s_is_figures : DefSig := ⟨"is_figures", "is_figures", defArgs (top 30), defBody (top 30), defScope (top 30), ["prime", "value", "many", "one"], ["prime", "value", "many"], [], 3⟩
def s_want_map_table : DefSig := ⟨"want_map_table", "want_map_table", defArgs (top 74), defBody (top 74), defScope (top 74), ["field", "value", "many", "row"], ["field", "value"], [], 4⟩
def s_turner_by : DefSig := ⟨"turner_by", "turner_by", defArgs (top 76), defBody (top 76), defScope (top 76), ["field", "value", "rows", "row"], ["field", "value"], [], 5⟩
def s_map_numbers : DefSig := ⟨"map_numbers", "map_numbers", defArgs (top 70), defBody (top 70), defScope (top 70), ["field", "told", "found", "at", "number", "place", "turn"], ["field", "told"], [], 3⟩
def s_as_map_of : DefSig := ⟨"as_map_of", "as_map_of", defArgs (top 71), defBody (top 71), defScope (top 71), ["field", "told"], ["field", "told"], [], 4⟩
def s_as_map : DefSig := ⟨"as_map", "as_map", defArgs (top 77), defBody (top 77), defScope (top 77), ["field", "turner"], ["field", "turner"], [], 6⟩
def s_are_one_map : DefSig := ⟨"are_one_map", "are_one_map", defArgs (top 78), defBody (top 78), defScope (top 78), ["field", "turner", "other", "first"], ["field", "turner", "other"], [], 6⟩
def s_rank_of_map : DefSig := ⟨"rank_of_map", "rank_of_map", defArgs (top 73), defBody (top 73), defScope (top 73), ["field", "told"], ["field", "told"], [], 5⟩
def s_map_rank : DefSig := ⟨"map_rank", "map_rank", defArgs (top 79), defBody (top 79), defScope (top 79), ["field", "turner"], ["field", "turner"], [], 6⟩
def s_dickson_of : DefSig := ⟨"dickson_of", "dickson_of", defArgs (top 81), defBody (top 81), defScope (top 81), ["field", "told", "numbers", "many", "found", "row", "moved", "number"], ["field", "told"], [], 4⟩
def s_dickson : DefSig := ⟨"dickson", "dickson", defArgs (top 83), defBody (top 83), defScope (top 83), ["field", "turner"], ["field", "turner"], [], 6⟩
def s_mirror_of : DefSig := ⟨"mirror_of", "mirror_of", defArgs (top 82), defBody (top 82), defScope (top 82), ["field", "told", "numbers", "many", "turned", "place"], ["field", "told"], [], 4⟩
def s_mirror : DefSig := ⟨"mirror", "mirror", defArgs (top 84), defBody (top 84), defScope (top 84), ["field", "turner"], ["field", "turner"], [], 6⟩
def s__law_draw : DefSig := ⟨"_law_draw", "_law_draw", defArgs (top 87), defBody (top 87), defScope (top 87), ["_law_pot_here", "_law_size_here", "_law_digit"], ["_law_pot_here", "_law_size_here"], [], 1⟩
def s__law_pick : DefSig := ⟨"_law_pick", "_law_pick", defArgs (top 88), defBody (top 88), defScope (top 88), ["_law_pot_here", "_law_some"], ["_law_pot_here", "_law_some"], [], 2⟩
def s__law_pot : DefSig := ⟨"_law_pot", "_law_pot", defArgs (top 86), defBody (top 86), defScope (top 86), ["_law_script", "_law_k", "_law_cell"], ["_law_script", "_law_k"], [], 1⟩
def s__law_kinds : DefSig := ⟨"_law_kinds", "_law_kinds", defArgs (top 89), defBody (top 89), defScope (top 89), ["_law_some"], [], [], 1⟩
def s_want_prime : DefSig := ⟨"want_prime", "want_prime", defArgs (top 29), defBody (top 29), defScope (top 29), ["prime"], ["prime"], [], 3⟩
def s_want_at_most : DefSig := ⟨"want_at_most", "want_at_most", defArgs (top 15), defBody (top 15), defScope (top 15), ["what", "limit", "number"], ["what", "limit", "number"], [], 1⟩
def s_sized : DefSig := ⟨"sized", "sized", defArgs (top 37), defBody (top 37), defScope (top 37), ["prime", "many", "found", "turn"], ["prime", "many"], [], 1⟩
def s_poly_of : DefSig := ⟨"poly_of", "poly_of", defArgs (top 33), defBody (top 33), defScope (top 33), ["prime", "number", "found", "left"], ["prime", "number"], [], 1⟩
def s_without_end : DefSig := ⟨"without_end", "without_end", defArgs (top 20), defBody (top 20), defScope (top 20), ["numbers", "many"], ["numbers"], [], 1⟩
def s_poly_rest : DefSig := ⟨"poly_rest", "poly_rest", defArgs (top 21), defBody (top 21), defScope (top 21), ["prime", "poly", "other", "left", "turn", "shift", "factor", "at", "number"], ["prime", "poly", "other"], [], 2⟩
def s_poly_times : DefSig := ⟨"poly_times", "poly_times", defArgs (top 23), defBody (top 23), defScope (top 23), ["prime", "one", "other", "modulus", "found", "at", "near", "to", "far"], ["prime", "one", "other", "modulus"], [], 3⟩
def s_told_number : DefSig := ⟨"told_number", "told_number", defArgs (top 32), defBody (top 32), defScope (top 32), ["prime", "poly", "found", "one"], ["prime", "poly"], [], 1⟩
def s_powers_by : DefSig := ⟨"powers_by", "powers_by", defArgs (top 34), defBody (top 34), defScope (top 34), ["prime", "modulus", "number", "base", "found", "here"], ["prime", "modulus", "number"], [], 4⟩
def s_all_powers : DefSig := ⟨"all_powers", "all_powers", defArgs (top 35), defBody (top 35), defScope (top 35), ["prime", "modulus", "size", "number", "found"], ["prime", "modulus", "size"], [], 5⟩
def s_logs_by : DefSig := ⟨"logs_by", "logs_by", defArgs (top 36), defBody (top 36), defScope (top 36), ["powers", "size", "found", "place", "number"], ["powers", "size"], [], 1⟩
def s_letter_turns : DefSig := ⟨"letter_turns", "letter_turns", defArgs (top 26), defBody (top 26), defScope (top 26), ["prime", "modulus", "found", "turn", "here", "factor"], ["prime", "modulus"], [], 4⟩
def s_are_apart : DefSig := ⟨"are_apart", "are_apart", defArgs (top 25), defBody (top 25), defScope (top 25), ["prime", "one", "other", "near", "far"], ["prime", "one", "other"], [], 3⟩
def s_is_prime : DefSig := ⟨"is_prime", "is_prime", defArgs (top 28), defBody (top 28), defScope (top 28), ["number", "less"], ["number"], [], 1⟩
def s_poly_less : DefSig := ⟨"poly_less", "poly_less", defArgs (top 24), defBody (top 24), defScope (top 24), ["prime", "one", "other", "many", "near", "far", "first", "second"], ["prime", "one", "other"], [], 2⟩
def s_is_single : DefSig := ⟨"is_single", "is_single", defArgs (top 27), defBody (top 27), defScope (top 27), ["prime", "modulus", "many", "found", "parts", "less"], ["prime", "modulus"], [], 5⟩
def s_is_right : DefSig := ⟨"is_right", "is_right", defArgs (top 31), defBody (top 31), defScope (top 31), ["prime", "value"], ["prime", "value"], [], 6⟩
def s_Field___init__ : DefSig := ⟨"__init__", "Field.__init__", defArgs (mth 38 0), defBody (mth 38 0), defScope (mth 38 0), ["self", "prime", "modulus"], ["self", "prime", "modulus"], [], 7⟩
def s__law_size : DefSig := ⟨"_law_size", "_law_size", defArgs (top 90), defBody (top 90), defScope (top 90), ["_law_kind", "_law_found", "_law_turn"], ["_law_kind"], [], 1⟩
def s_Field___repr__ : DefSig := ⟨"__repr__", "Field.__repr__", defArgs (mth 38 6), defBody (mth 38 6), defScope (mth 38 6), ["self"], ["self"], [], 1⟩
def s__law_heard : DefSig := ⟨"_law_heard", "_law_heard", defArgs (top 92), defBody (top 92), defScope (top 92), ["_law_call", "e"], ["_law_call"], [], 9⟩
def s__law_are : DefSig := ⟨"_law_are", "_law_are", defArgs (top 93), defBody (top 93), defScope (top 93), ["_law_calls", "_law_due", "_law_call"], ["_law_calls", "_law_due"], [], 10⟩
def s__law_fields_right : DefSig := ⟨"_law_fields_right", "_law_fields_right", defArgs (top 94), defBody (top 94), defScope (top 94), ["_law_odd", "_law_calls"], [], [], 11⟩
def s__law_turners_right : DefSig := ⟨"_law_turners_right", "_law_turners_right", defArgs (top 95), defBody (top 95), defScope (top 95), ["_law_field", "_law_size_here", "_law_odd", "_law_calls"], ["_law_field", "_law_size_here"], [], 11⟩
def s__law_units : DefSig := ⟨"_law_units", "_law_units", defArgs (top 91), defBody (top 91), defScope (top 91), ["_law_kind", "_law_found", "_law_here", "_law_turn"], ["_law_kind"], [], 1⟩
def s__law_points_right : DefSig := ⟨"_law_points_right", "_law_points_right", defArgs (top 96), defBody (top 96), defScope (top 96), ["_law_kind", "_law_field", "_law_size_here", "_law_wide", "_law_units_here", "_law_odds", "_law_odd", "_law_calls", "_law_table", "_law_row"], ["_law_kind", "_law_field", "_law_size_here", "_law_wide"], [], 11⟩
def s_law : DefSig := ⟨"law", "law", defArgs (top 97), defBody (top 97), defScope (top 97), ["_law_script", "_law_kind", "_law_field", "_law_size_here"], ["_law_script"], [], 12⟩
def s_InvalidField___init__ : DefSig := ⟨"__init__", "InvalidField.__init__", defArgs (mth 4 0), defBody (mth 4 0), defScope (mth 4 0), ["self", "value"], ["self", "value"], [], 1⟩
theorem b_InvalidField___init___2 : BindOk s_InvalidField___init__ 2 [] [.a 0, .a 1] := ⟨rfl, rfl, fun _ kV doc pm an cdv ct us ws h1 h2 => match us, ws, h1, h2 with | [_, _], [], _, _ => by kernel_rfl, fun h => absurd rfl h⟩
def s_InvalidPoints___init__ : DefSig := ⟨"__init__", "InvalidPoints.__init__", defArgs (mth 7 0), defBody (mth 7 0), defScope (mth 7 0), ["self", "value"], ["self", "value"], [], 1⟩
theorem b_InvalidPoints___init___2 : BindOk s_InvalidPoints___init__ 2 [] [.a 0, .a 1] := ⟨rfl, rfl, fun _ kV doc pm an cdv ct us ws h1 h2 => match us, ws, h1, h2 with | [_, _], [], _, _ => by kernel_rfl, fun h => absurd rfl h⟩
def s_InvalidElements___init__ : DefSig := ⟨"__init__", "InvalidElements.__init__", defArgs (mth 3 0), defBody (mth 3 0), defScope (mth 3 0), ["self", "value"], ["self", "value"], [], 1⟩
theorem b_InvalidElements___init___2 : BindOk s_InvalidElements___init__ 2 [] [.a 0, .a 1] := ⟨rfl, rfl, fun _ kV doc pm an cdv ct us ws h1 h2 => match us, ws, h1, h2 with | [_, _], [], _, _ => by kernel_rfl, fun h => absurd rfl h⟩
def s_InvalidTurner___init__ : DefSig := ⟨"__init__", "InvalidTurner.__init__", defArgs (mth 5 0), defBody (mth 5 0), defScope (mth 5 0), ["self", "value"], ["self", "value"], [], 1⟩
theorem b_InvalidTurner___init___2 : BindOk s_InvalidTurner___init__ 2 [] [.a 0, .a 1] := ⟨rfl, rfl, fun _ kV doc pm an cdv ct us ws h1 h2 => match us, ws, h1, h2 with | [_, _], [], _, _ => by kernel_rfl, fun h => absurd rfl h⟩
def s_InvalidTable___init__ : DefSig := ⟨"__init__", "InvalidTable.__init__", defArgs (mth 9 0), defBody (mth 9 0), defScope (mth 9 0), ["self", "value"], ["self", "value"], [], 1⟩
theorem b_InvalidTable___init___2 : BindOk s_InvalidTable___init__ 2 [] [.a 0, .a 1] := ⟨rfl, rfl, fun _ kV doc pm an cdv ct us ws h1 h2 => match us, ws, h1, h2 with | [_, _], [], _, _ => by kernel_rfl, fun h => absurd rfl h⟩
def t_want_field : CS := (sSeq (sIf (tNotT (tVal (cIsi [0] (.o 0) (cVar 0)))) (sSeq (sRaise1 "InvalidField" "value" s_InvalidField___init__ (cVar 0)) sEnd) sEnd) (sSeq (sRet (cVar 0)) sEnd))
def e_want_field : FEv := defEv 1 1 t_want_field.ev
theorem k_want_field : t_want_field.chk 2 ⟨s_want_field.N, s_want_field.scope.names, s_want_field.scope.names⟩ s_want_field.body = true := by kernel_rfl
def y1_undone_by : CT := (tCmp oEq (cBin oMod (cBin oMul (cVar 2) (cVar 1)) (cVar 0)) (cInt 1))
def z1_undone_by : CE := (cVar 2)
def t_undone_by : CS := (sSeq (sRet (cIx (cLc (gNm 2) (iRange2 (cInt 1) (cVar 0)) (some y1_undone_by) z1_undone_by [("one", 2)]) (cInt 0))) sEnd)
def e_undone_by : FEv := defEv 2 3 t_undone_by.ev
theorem k_undone_by : t_undone_by.chk 0 ⟨s_undone_by.N, s_undone_by.scope.names, s_undone_by.scope.names⟩ s_undone_by.body = true := by kernel_rfl
def z1_less_row : CE := (cBin oMod (cBin oSub (cVar 5) (cBin oMul (cVar 4) (cVar 6))) (cVar 0))
def t_less_row : CS := (sSeq (sAsg 4 false (cIx (cVar 1) (cVar 3))) (sSeq (sRet (cLc (gTp [(gNm 5), (gNm 6)]) (iZip2 (cVar 1) (cVar 2)) none z1_less_row [("near", 5), ("far", 6)])) sEnd))
def e_less_row : FEv := defEv 4 7 t_less_row.ev
theorem k_less_row : t_less_row.chk 0 ⟨s_less_row.N, s_less_row.scope.names, s_less_row.scope.names⟩ s_less_row.body = true := by kernel_rfl
theorem b_less_row_4 : BindOk s_less_row 4 [] [.a 0, .a 1, .a 2, .a 3] := ⟨rfl, rfl, fun _ kV doc pm an cdv ct us ws h1 h2 => match us, ws, h1, h2 with | [_, _, _, _], [], _, _ => by kernel_rfl, fun h => absurd rfl h⟩
theorem b_undone_by_2 : BindOk s_undone_by 2 [] [.a 0, .a 1] := ⟨rfl, rfl, fun _ kV doc pm an cdv ct us ws h1 h2 => match us, ws, h1, h2 with | [_, _], [], _, _ => by kernel_rfl, fun h => absurd rfl h⟩
def z1_figure_steps : CE := (cBlt bList (aCons (cVar 8) aNil))
def y1_figure_steps : CT := (tCmp oNe (cIx (cVar 8) (cVar 4)) (cInt 0))
def z2_figure_steps : CE := (cVar 9)
def z3_figure_steps : CE := (cBin oMod (cBin oMul (cVar 10) (cVar 7)) (cVar 0))
def z4_figure_steps : CE := (cCall s_less_row e_less_row (dCons (cVar 0) (dCons (cVar 8) (dCons (cVar 6) (dCons (cVar 4) dNil)))) wNil [.a 0, .a 1, .a 2, .a 3] b_less_row_4)
def z5_figure_steps : CE := (cCall s_less_row e_less_row (dCons (cVar 0) (dCons (cVar 8) (dCons (cVar 6) (dCons (cVar 4) dNil)))) wNil [.a 0, .a 1, .a 2, .a 3] b_less_row_4)
def w1_figure_steps : CS := (sSeq (sAsgLcB 2 5 false (gTp [(gNm 9), (gNm 8)]) (iEnum1 (cVar 2)) (some y1_figure_steps) z2_figure_steps [("spot", 9), ("row", 8)]) (sSeq (sIf (tCmp oGt (cBlt bLen (aCons (cVar 5) aNil)) (cInt 0)) (sSeq (sPopTo 6 2 (cIx (cVar 5) (cInt 0))) (sSeq (sAsg 7 false (cCall s_undone_by e_undone_by (dCons (cVar 0) (dCons (cIx (cVar 6) (cVar 4)) dNil)) wNil [.a 0, .a 1] b_undone_by_2)) (sSeq (sAsg 6 false (cLc (gNm 10) (iLst (cVar 6)) none z3_figure_steps [("number", 10)])) (sFrz 2 (sSeq (sAsgLc 2 true (gNm 8) (iLst (cVar 2)) none z4_figure_steps [("row", 8)]) (sSeq (sAsg 3 false (cBin oAdd (cLc (gNm 8) (iLst (cVar 3)) none z5_figure_steps [("row", 8)]) (cLst (dCons (cVar 6) dNil)))) sEnd)))))) sEnd) sEnd))
def t_figure_steps : CS := (sSeq (sPar [2, 3] (kCons true (cLc (gNm 8) (iLst (cVar 1)) none z1_figure_steps [("row", 8)]) (kCons false (cLst dNil) kNil))) (sSeq (sFor (gNm 4) (iRange1 (cIte (tCmp oGt (cBlt bLen (aCons (cVar 1) aNil)) (cInt 0)) (cBlt bLen (aCons (cIx (cVar 1) (cInt 0)) aNil)) (cInt 0))) w1_figure_steps) (sSeq (sRet (cVar 3)) sEnd)))
def e_figure_steps : FEv := defEv 2 11 t_figure_steps.ev
theorem k_figure_steps : t_figure_steps.chk 1 ⟨s_figure_steps.N, s_figure_steps.scope.names, s_figure_steps.scope.names⟩ s_figure_steps.body = true := by kernel_rfl
theorem b_figure_steps_2 : BindOk s_figure_steps 2 [] [.a 0, .a 1] := ⟨rfl, rfl, fun _ kV doc pm an cdv ct us ws h1 h2 => match us, ws, h1, h2 with | [_, _], [], _, _ => by kernel_rfl, fun h => absurd rfl h⟩
def t_rows_rank : CS := (sSeq (sRet (cBlt bLen (aCons (cCall s_figure_steps e_figure_steps (dCons (cVar 0) (dCons (cVar 1) dNil)) wNil [.a 0, .a 1] b_figure_steps_2) aNil))) sEnd)
def e_rows_rank : FEv := defEv 2 2 t_rows_rank.ev
theorem k_rows_rank : t_rows_rank.chk 2 ⟨s_rows_rank.N, s_rows_rank.scope.names, s_rows_rank.scope.names⟩ s_rows_rank.body = true := by kernel_rfl
def w1_figures_of : CS := (sSeq (sAppend 2 (cBin oMod (cVar 3) (cFld [0] "own_prime" (cVar 0)))) (sSeq (sAsg 3 false (cBin oDiv (cVar 3) (cFld [0] "own_prime" (cVar 0)))) sEnd))
def t_figures_of : CS := (sSeq (sPar [2, 3] (kCons true (cLst dNil) (kCons false (cVar 1) kNil))) (sSeq (sFor (gNm 4) (iRange1 (cFld [0] "own_turns" (cVar 0))) w1_figures_of) (sSeq (sRet (cVar 2)) sEnd)))
def e_figures_of : FEv := defEv 2 5 t_figures_of.ev
theorem k_figures_of : t_figures_of.chk 0 ⟨s_figures_of.N, s_figures_of.scope.names, s_figures_of.scope.names⟩ s_figures_of.body = true := by kernel_rfl
theorem b_figures_of_2 : BindOk s_figures_of 2 [] [.a 0, .a 1] := ⟨rfl, rfl, fun _ kV doc pm an cdv ct us ws h1 h2 => match us, ws, h1, h2 with | [_, _], [], _, _ => by kernel_rfl, fun h => absurd rfl h⟩
theorem b_rows_rank_2 : BindOk s_rows_rank 2 [] [.a 0, .a 1] := ⟨rfl, rfl, fun _ kV doc pm an cdv ct us ws h1 h2 => match us, ws, h1, h2 with | [_, _], [], _, _ => by kernel_rfl, fun h => absurd rfl h⟩
def z1_rank_of : CE := (cCall s_figures_of e_figures_of (dCons (cVar 0) (dCons (cVar 2) dNil)) wNil [.a 0, .a 1] b_figures_of_2)
def t_rank_of : CS := (sSeq (sRet (cCall s_rows_rank e_rows_rank (dCons (cFld [0] "own_prime" (cVar 0)) (dCons (cLc (gNm 2) (iLst (cVar 1)) none z1_rank_of [("one", 2)]) dNil)) wNil [.a 0, .a 1] b_rows_rank_2)) sEnd)
def e_rank_of : FEv := defEv 2 3 t_rank_of.ev
theorem k_rank_of : t_rank_of.chk 3 ⟨s_rank_of.N, s_rank_of.scope.names, s_rank_of.scope.names⟩ s_rank_of.body = true := by kernel_rfl
def t_is_list : CS := (sSeq (sRet (cIsi2 [0] (.b "list") (.b "tuple") (cVar 0))) sEnd)
def e_is_list : FEv := defEv 1 1 t_is_list.ev
theorem k_is_list : t_is_list.chk 0 ⟨s_is_list.N, s_is_list.scope.names, s_is_list.scope.names⟩ s_is_list.body = true := by kernel_rfl
def t_is_integer : CS := (sSeq (sRet (cAnd [(cIsi [0] (.b "int") (cVar 0)), (cNot (cIsi [0] (.b "bool") (cVar 0)))])) sEnd)
def e_is_integer : FEv := defEv 1 1 t_is_integer.ev
theorem k_is_integer : t_is_integer.chk 0 ⟨s_is_integer.N, s_is_integer.scope.names, s_is_integer.scope.names⟩ s_is_integer.body = true := by kernel_rfl
theorem b_is_integer_1 : BindOk s_is_integer 1 [] [.a 0] := ⟨rfl, rfl, fun _ kV doc pm an cdv ct us ws h1 h2 => match us, ws, h1, h2 with | [_], [], _, _ => by kernel_rfl, fun h => absurd rfl h⟩
def t_is_count : CS := (sSeq (sRet (cAnd [(cCall s_is_integer e_is_integer (dCons (cVar 0) dNil) wNil [.a 0] b_is_integer_1), (cCmp oGe (cVar 0) (cInt 0))])) sEnd)
def e_is_count : FEv := defEv 1 1 t_is_count.ev
theorem k_is_count : t_is_count.chk 1 ⟨s_is_count.N, s_is_count.scope.names, s_is_count.scope.names⟩ s_is_count.body = true := by kernel_rfl
theorem b_is_count_1 : BindOk s_is_count 1 [] [.a 0] := ⟨rfl, rfl, fun _ kV doc pm an cdv ct us ws h1 h2 => match us, ws, h1, h2 with | [_], [], _, _ => by kernel_rfl, fun h => absurd rfl h⟩
def t_is_in : CS := (sSeq (sRet (cAnd [(cCall s_is_count e_is_count (dCons (cVar 1) dNil) wNil [.a 0] b_is_count_1), (cCmp oLt (cVar 1) (cFld [0] "own_size" (cVar 0)))])) sEnd)
def e_is_in : FEv := defEv 2 2 t_is_in.ev
theorem k_is_in : t_is_in.chk 2 ⟨s_is_in.N, s_is_in.scope.names, s_is_in.scope.names⟩ s_is_in.body = true := by kernel_rfl
theorem b_is_in_2 : BindOk s_is_in 2 [] [.a 0, .a 1] := ⟨rfl, rfl, fun _ kV doc pm an cdv ct us ws h1 h2 => match us, ws, h1, h2 with | [_, _], [], _, _ => by kernel_rfl, fun h => absurd rfl h⟩
theorem b_is_list_1 : BindOk s_is_list 1 [] [.a 0] := ⟨rfl, rfl, fun _ kV doc pm an cdv ct us ws h1 h2 => match us, ws, h1, h2 with | [_], [], _, _ => by kernel_rfl, fun h => absurd rfl h⟩
def z1_are_some : CE := (cCall s_is_in e_is_in (dCons (cVar 0) (dCons (cVar 3) dNil)) wNil [.a 0, .a 1] b_is_in_2)
def t_are_some : CS := (sSeq (sRet (cAnd [(cCall s_is_list e_is_list (dCons (cVar 1) dNil) wNil [.a 0] b_is_list_1), (cCmp oEq (cBlt bLen (aCons (cVar 1) aNil)) (cVar 2)), (cBlt bAll (aCons (cLc (gNm 3) (iSeq (cVar 1)) none z1_are_some [("one", 3)]) aNil))])) sEnd)
def e_are_some : FEv := defEv 3 4 t_are_some.ev
theorem k_are_some : t_are_some.chk 3 ⟨s_are_some.N, s_are_some.scope.names, s_are_some.scope.names⟩ s_are_some.body = true := by kernel_rfl
theorem b_are_some_3 : BindOk s_are_some 3 [] [.a 0, .a 1, .a 2] := ⟨rfl, rfl, fun _ kV doc pm an cdv ct us ws h1 h2 => match us, ws, h1, h2 with | [_, _, _], [], _, _ => by kernel_rfl, fun h => absurd rfl h⟩
theorem b_rank_of_2 : BindOk s_rank_of 2 [] [.a 0, .a 1] := ⟨rfl, rfl, fun _ kV doc pm an cdv ct us ws h1 h2 => match us, ws, h1, h2 with | [_, _], [], _, _ => by kernel_rfl, fun h => absurd rfl h⟩
def t_want_points : CS := (sSeq (sIf (tOr [(tNotT (tVal (cCall s_is_list e_is_list (dCons (cVar 1) dNil) wNil [.a 0] b_is_list_1))), (tNotT (tChn oLe oLe (cInt 1) (cBlt bLen (aCons (cVar 1) aNil)) (cFld [0] "own_turns" (cVar 0)))), (tNotT (tVal (cCall s_are_some e_are_some (dCons (cVar 0) (dCons (cVar 1) (dCons (cBlt bLen (aCons (cVar 1) aNil)) dNil))) wNil [.a 0, .a 1, .a 2] b_are_some_3)))]) (sSeq (sRaise1 "InvalidPoints" "value" s_InvalidPoints___init__ (cVar 1)) sEnd) sEnd) (sSeq (sIf (tCmp oLt (cCall s_rank_of e_rank_of (dCons (cVar 0) (dCons (cBlt bList (aCons (cVar 1) aNil)) dNil)) wNil [.a 0, .a 1] b_rank_of_2) (cBlt bLen (aCons (cVar 1) aNil))) (sSeq (sRaise1 "InvalidPoints" "value" s_InvalidPoints___init__ (cVar 1)) sEnd) sEnd) (sSeq (sRet (cBlt bList (aCons (cVar 1) aNil))) sEnd)))
def e_want_points : FEv := defEv 2 2 t_want_points.ev
theorem k_want_points : t_want_points.chk 4 ⟨s_want_points.N, s_want_points.scope.names, s_want_points.scope.names⟩ s_want_points.body = true := by kernel_rfl
def w1_by_figures_of : CS := (sSeq (sAsg 2 false (cBin oAdd (cBin oMul (cVar 2) (cFld [0] "own_prime" (cVar 0))) (cVar 3))) sEnd)
def t_by_figures_of : CS := (sSeq (sAsg 2 false (cInt 0)) (sSeq (sFor (gNm 3) (iLst (cRev (cVar 1))) w1_by_figures_of) (sSeq (sRet (cVar 2)) sEnd)))
def e_by_figures_of : FEv := defEv 2 4 t_by_figures_of.ev
theorem k_by_figures_of : t_by_figures_of.chk 0 ⟨s_by_figures_of.N, s_by_figures_of.scope.names, s_by_figures_of.scope.names⟩ s_by_figures_of.body = true := by kernel_rfl
theorem b_by_figures_of_2 : BindOk s_by_figures_of 2 [] [.a 0, .a 1] := ⟨rfl, rfl, fun _ kV doc pm an cdv ct us ws h1 h2 => match us, ws, h1, h2 with | [_, _], [], _, _ => by kernel_rfl, fun h => absurd rfl h⟩
def z1_plus_of : CE := (cBin oMod (cBin oAdd (cVar 4) (cVar 5)) (cFld [0] "own_prime" (cVar 0)))
def t_plus_of : CS := (sSeq (sIf (tOr [(tCmp oEq (cVar 1) (cInt 0)), (tCmp oEq (cVar 2) (cInt 0))]) (sSeq (sRet (cBin oAdd (cVar 1) (cVar 2))) sEnd) sEnd) (sZip2 3 0 (cCall s_figures_of e_figures_of (dCons (cVar 0) (dCons (cVar 1) dNil)) wNil [.a 0, .a 1] b_figures_of_2) (cCall s_figures_of e_figures_of (dCons (cVar 0) (dCons (cVar 2) dNil)) wNil [.a 0, .a 1] b_figures_of_2) (gTp [(gNm 4), (gNm 5)]) z1_plus_of [("near", 4), ("far", 5)] s_by_figures_of e_by_figures_of [.a 0, .a 1] b_by_figures_of_2))
def e_plus_of : FEv := defEv 3 6 t_plus_of.ev
theorem k_plus_of : t_plus_of.chk 1 ⟨s_plus_of.N, s_plus_of.scope.names, s_plus_of.scope.names⟩ s_plus_of.body = true := by kernel_rfl
def t_times_of : CS := (sSeq (sIf (tOr [(tCmp oEq (cVar 1) (cInt 0)), (tCmp oEq (cVar 2) (cInt 0))]) (sSeq (sRet (cInt 0)) sEnd) sEnd) (sSeq (sRet (cIx (cFld [0] "own_powers" (cVar 0)) (cBin oMod (cBin oAdd (cIx (cFld [0] "own_logs" (cVar 0)) (cVar 1)) (cIx (cFld [0] "own_logs" (cVar 0)) (cVar 2))) (cBin oSub (cFld [0] "own_size" (cVar 0)) (cInt 1))))) sEnd))
def e_times_of : FEv := defEv 3 3 t_times_of.ev
theorem k_times_of : t_times_of.chk 0 ⟨s_times_of.N, s_times_of.scope.names, s_times_of.scope.names⟩ s_times_of.body = true := by kernel_rfl
def t_power_of : CS := (sSeq (sIf (tCmp oEq (cVar 2) (cInt 0)) (sSeq (sRet (cInt 1)) sEnd) sEnd) (sSeq (sRet (cIte (tCmp oNe (cVar 1) (cInt 0)) (cIx (cFld [0] "own_powers" (cVar 0)) (cBin oMod (cBin oMul (cIx (cFld [0] "own_logs" (cVar 0)) (cVar 1)) (cVar 2)) (cBin oSub (cFld [0] "own_size" (cVar 0)) (cInt 1)))) (cInt 0))) sEnd))
def e_power_of : FEv := defEv 3 3 t_power_of.ev
theorem k_power_of : t_power_of.chk 0 ⟨s_power_of.N, s_power_of.scope.names, s_power_of.scope.names⟩ s_power_of.body = true := by kernel_rfl
theorem b_power_of_3 : BindOk s_power_of 3 [] [.a 0, .a 1, .a 2] := ⟨rfl, rfl, fun _ kV doc pm an cdv ct us ws h1 h2 => match us, ws, h1, h2 with | [_, _, _], [], _, _ => by kernel_rfl, fun h => absurd rfl h⟩
def w1_turned_of : CS := (sSeq (sAsg 3 false (cCall s_power_of e_power_of (dCons (cVar 0) (dCons (cVar 3) (dCons (cFld [0] "own_prime" (cVar 0)) dNil))) wNil [.a 0, .a 1, .a 2] b_power_of_3)) sEnd)
def t_turned_of : CS := (sSeq (sAsg 3 false (cVar 1)) (sSeq (sFor (gNm 4) (iRange1 (cBin oMod (cVar 2) (cFld [0] "own_turns" (cVar 0)))) w1_turned_of) (sSeq (sRet (cVar 3)) sEnd)))
def e_turned_of : FEv := defEv 3 5 t_turned_of.ev
theorem k_turned_of : t_turned_of.chk 1 ⟨s_turned_of.N, s_turned_of.scope.names, s_turned_of.scope.names⟩ s_turned_of.body = true := by kernel_rfl
theorem b_turned_of_3 : BindOk s_turned_of 3 [] [.a 0, .a 1, .a 2] := ⟨rfl, rfl, fun _ kV doc pm an cdv ct us ws h1 h2 => match us, ws, h1, h2 with | [_, _, _], [], _, _ => by kernel_rfl, fun h => absurd rfl h⟩
theorem b_times_of_3 : BindOk s_times_of 3 [] [.a 0, .a 1, .a 2] := ⟨rfl, rfl, fun _ kV doc pm an cdv ct us ws h1 h2 => match us, ws, h1, h2 with | [_, _, _], [], _, _ => by kernel_rfl, fun h => absurd rfl h⟩
theorem b_plus_of_3 : BindOk s_plus_of 3 [] [.a 0, .a 1, .a 2] := ⟨rfl, rfl, fun _ kV doc pm an cdv ct us ws h1 h2 => match us, ws, h1, h2 with | [_, _, _], [], _, _ => by kernel_rfl, fun h => absurd rfl h⟩
def w1_worth_of : CS := (sSeq (sAsg 3 false (cCall s_plus_of e_plus_of (dCons (cVar 0) (dCons (cVar 3) (dCons (cCall s_times_of e_times_of (dCons (cVar 0) (dCons (cVar 5) (dCons (cCall s_turned_of e_turned_of (dCons (cVar 0) (dCons (cVar 2) (dCons (cVar 4) dNil))) wNil [.a 0, .a 1, .a 2] b_turned_of_3) dNil))) wNil [.a 0, .a 1, .a 2] b_times_of_3) dNil))) wNil [.a 0, .a 1, .a 2] b_plus_of_3)) sEnd)
def t_worth_of : CS := (sSeq (sAsg 3 false (cInt 0)) (sSeq (sFor (gTp [(gNm 4), (gNm 5)]) (iEnum1 (cVar 1)) w1_worth_of) (sSeq (sRet (cVar 3)) sEnd)))
def e_worth_of : FEv := defEv 3 6 t_worth_of.ev
theorem k_worth_of : t_worth_of.chk 2 ⟨s_worth_of.N, s_worth_of.scope.names, s_worth_of.scope.names⟩ s_worth_of.body = true := by kernel_rfl
def z1_minus_of : CE := (cBin oMod (cBin oSub (cVar 4) (cVar 5)) (cFld [0] "own_prime" (cVar 0)))
def t_minus_of : CS := (sSeq (sIf (tCmp oEq (cVar 2) (cInt 0)) (sSeq (sRet (cVar 1)) sEnd) sEnd) (sZip2 3 0 (cCall s_figures_of e_figures_of (dCons (cVar 0) (dCons (cVar 1) dNil)) wNil [.a 0, .a 1] b_figures_of_2) (cCall s_figures_of e_figures_of (dCons (cVar 0) (dCons (cVar 2) dNil)) wNil [.a 0, .a 1] b_figures_of_2) (gTp [(gNm 4), (gNm 5)]) z1_minus_of [("near", 4), ("far", 5)] s_by_figures_of e_by_figures_of [.a 0, .a 1] b_by_figures_of_2))
def e_minus_of : FEv := defEv 3 6 t_minus_of.ev
theorem k_minus_of : t_minus_of.chk 1 ⟨s_minus_of.N, s_minus_of.scope.names, s_minus_of.scope.names⟩ s_minus_of.body = true := by kernel_rfl
def u1_told_of : CT := (tAnd [(tCmp oGt (cVar 1) (cInt 0)), (tCmp oEq (cIx (cVar 0) (cBin oSub (cVar 1) (cInt 1))) (cInt 0))])
def w1_told_of : CS := (sSeq (sAsg 1 false (cBin oSub (cVar 1) (cInt 1))) sEnd)
def t_told_of : CS := (sSeq (sAsg 1 false (cBlt bLen (aCons (cVar 0) aNil))) (sSeq (sWhile 300 u1_told_of w1_told_of) (sSeq (sRet (cBlt bList (aCons (cSlice (cVar 0) none (some (cVar 1))) aNil))) sEnd)))
def e_told_of : FEv := defEv 1 2 t_told_of.ev
theorem k_told_of : t_told_of.chk 0 ⟨s_told_of.N, s_told_of.scope.names, s_told_of.scope.names⟩ s_told_of.body = true := by kernel_rfl
theorem b_told_of_1 : BindOk s_told_of 1 [] [.a 0] := ⟨rfl, rfl, fun _ kV doc pm an cdv ct us ws h1 h2 => match us, ws, h1, h2 with | [_], [], _, _ => by kernel_rfl, fun h => absurd rfl h⟩
def z1_sum_turners : CE := (cCall s_plus_of e_plus_of (dCons (cVar 0) (dCons (cIx (cVar 3) (cVar 6)) (dCons (cIx (cVar 4) (cVar 6)) dNil))) wNil [.a 0, .a 1, .a 2] b_plus_of_3)
def t_sum_turners : CS := (sSeq (sAsgG (gTp [(gNm 3), (gNm 4)]) (cIte (tCmp oGe (cBlt bLen (aCons (cVar 1) aNil)) (cBlt bLen (aCons (cVar 2) aNil))) (cTup (dCons (cVar 1) (dCons (cVar 2) dNil))) (cTup (dCons (cVar 2) (dCons (cVar 1) dNil))))) (sSeq (sAsgLc 5 false (gNm 6) (iRange1 (cBlt bLen (aCons (cVar 4) aNil))) none z1_sum_turners [("at", 6)]) (sSeq (sRet (cCall s_told_of e_told_of (dCons (cBin oAdd (cVar 5) (cSlice (cVar 3) (some (cBlt bLen (aCons (cVar 4) aNil))) none)) dNil) wNil [.a 0] b_told_of_1)) sEnd)))
def e_sum_turners : FEv := defEv 3 7 t_sum_turners.ev
theorem k_sum_turners : t_sum_turners.chk 2 ⟨s_sum_turners.N, s_sum_turners.scope.names, s_sum_turners.scope.names⟩ s_sum_turners.body = true := by kernel_rfl
def w1_put_turners : CS := (sSeq (sAsgG (gIx 3 (cBin oAdd (cVar 4) (cVar 6))) (cCall s_plus_of e_plus_of (dCons (cVar 0) (dCons (cIx (cVar 3) (cBin oAdd (cVar 4) (cVar 6))) (dCons (cCall s_times_of e_times_of (dCons (cVar 0) (dCons (cVar 5) (dCons (cCall s_turned_of e_turned_of (dCons (cVar 0) (dCons (cVar 7) (dCons (cVar 4) dNil))) wNil [.a 0, .a 1, .a 2] b_turned_of_3) dNil))) wNil [.a 0, .a 1, .a 2] b_times_of_3) dNil))) wNil [.a 0, .a 1, .a 2] b_plus_of_3)) sEnd)
def w2_put_turners : CS := (sSeq (sFor (gTp [(gNm 6), (gNm 7)]) (iEnum1 (cVar 2)) w1_put_turners) sEnd)
def t_put_turners : CS := (sSeq (sAsg 3 true (cBin oMul (cLst (dCons (cInt 0) dNil)) (cBlt bMax2 (aCons (cInt 0) (aCons (cBin oSub (cBin oAdd (cBlt bLen (aCons (cVar 1) aNil)) (cBlt bLen (aCons (cVar 2) aNil))) (cInt 1)) aNil))))) (sSeq (sFor (gTp [(gNm 4), (gNm 5)]) (iEnum1 (cVar 1)) w2_put_turners) (sFrz 3 (sSeq (sRet (cCall s_told_of e_told_of (dCons (cVar 3) dNil) wNil [.a 0] b_told_of_1)) sEnd))))
def e_put_turners : FEv := defEv 3 8 t_put_turners.ev
theorem k_put_turners : t_put_turners.chk 2 ⟨s_put_turners.N, s_put_turners.scope.names, s_put_turners.scope.names⟩ s_put_turners.body = true := by kernel_rfl
def z1_times_turner : CE := (cCall s_times_of e_times_of (dCons (cVar 0) (dCons (cVar 1) (dCons (cVar 3) dNil))) wNil [.a 0, .a 1, .a 2] b_times_of_3)
def t_times_turner : CS := (sSeq (sRet (cCall s_told_of e_told_of (dCons (cLc (gNm 3) (iLst (cVar 2)) none z1_times_turner [("element", 3)]) dNil) wNil [.a 0] b_told_of_1)) sEnd)
def e_times_turner : FEv := defEv 3 4 t_times_turner.ev
theorem k_times_turner : t_times_turner.chk 1 ⟨s_times_turner.N, s_times_turner.scope.names, s_times_turner.scope.names⟩ s_times_turner.body = true := by kernel_rfl
def t_over_of : CS := (sSeq (sIf (tCmp oEq (cVar 1) (cInt 0)) (sSeq (sRet (cInt 0)) sEnd) sEnd) (sSeq (sRet (cIx (cFld [0] "own_powers" (cVar 0)) (cBin oMod (cBin oSub (cIx (cFld [0] "own_logs" (cVar 0)) (cVar 1)) (cIx (cFld [0] "own_logs" (cVar 0)) (cVar 2))) (cBin oSub (cFld [0] "own_size" (cVar 0)) (cInt 1))))) sEnd))
def e_over_of : FEv := defEv 3 3 t_over_of.ev
theorem k_over_of : t_over_of.chk 0 ⟨s_over_of.N, s_over_of.scope.names, s_over_of.scope.names⟩ s_over_of.body = true := by kernel_rfl
theorem b_worth_of_3 : BindOk s_worth_of 3 [] [.a 0, .a 1, .a 2] := ⟨rfl, rfl, fun _ kV doc pm an cdv ct us ws h1 h2 => match us, ws, h1, h2 with | [_, _, _], [], _, _ => by kernel_rfl, fun h => absurd rfl h⟩
theorem b_minus_of_3 : BindOk s_minus_of 3 [] [.a 0, .a 1, .a 2] := ⟨rfl, rfl, fun _ kV doc pm an cdv ct us ws h1 h2 => match us, ws, h1, h2 with | [_, _, _], [], _, _ => by kernel_rfl, fun h => absurd rfl h⟩
theorem b_over_of_3 : BindOk s_over_of 3 [] [.a 0, .a 1, .a 2] := ⟨rfl, rfl, fun _ kV doc pm an cdv ct us ws h1 h2 => match us, ws, h1, h2 with | [_, _, _], [], _, _ => by kernel_rfl, fun h => absurd rfl h⟩
theorem b_times_turner_3 : BindOk s_times_turner 3 [] [.a 0, .a 1, .a 2] := ⟨rfl, rfl, fun _ kV doc pm an cdv ct us ws h1 h2 => match us, ws, h1, h2 with | [_, _, _], [], _, _ => by kernel_rfl, fun h => absurd rfl h⟩
theorem b_sum_turners_3 : BindOk s_sum_turners 3 [] [.a 0, .a 1, .a 2] := ⟨rfl, rfl, fun _ kV doc pm an cdv ct us ws h1 h2 => match us, ws, h1, h2 with | [_, _, _], [], _, _ => by kernel_rfl, fun h => absurd rfl h⟩
theorem b_put_turners_3 : BindOk s_put_turners 3 [] [.a 0, .a 1, .a 2] := ⟨rfl, rfl, fun _ kV doc pm an cdv ct us ws h1 h2 => match us, ws, h1, h2 with | [_, _, _], [], _, _ => by kernel_rfl, fun h => absurd rfl h⟩
def w1_through_of : CS := (sSeq (sAsg 7 false (cCall s_worth_of e_worth_of (dCons (cVar 0) (dCons (cVar 4) (dCons (cVar 5) dNil))) wNil [.a 0, .a 1, .a 2] b_worth_of_3)) (sSeq (sAsg 8 false (cCall s_minus_of e_minus_of (dCons (cVar 0) (dCons (cVar 6) (dCons (cCall s_worth_of e_worth_of (dCons (cVar 0) (dCons (cVar 3) (dCons (cVar 5) dNil))) wNil [.a 0, .a 1, .a 2] b_worth_of_3) dNil))) wNil [.a 0, .a 1, .a 2] b_minus_of_3)) (sSeq (sAsg 3 false (cCall s_sum_turners e_sum_turners (dCons (cVar 0) (dCons (cVar 3) (dCons (cCall s_times_turner e_times_turner (dCons (cVar 0) (dCons (cCall s_over_of e_over_of (dCons (cVar 0) (dCons (cVar 8) (dCons (cVar 7) dNil))) wNil [.a 0, .a 1, .a 2] b_over_of_3) (dCons (cVar 4) dNil))) wNil [.a 0, .a 1, .a 2] b_times_turner_3) dNil))) wNil [.a 0, .a 1, .a 2] b_sum_turners_3)) (sSeq (sAsg 9 false (cCall s_minus_of e_minus_of (dCons (cVar 0) (dCons (cInt 0) (dCons (cCall s_power_of e_power_of (dCons (cVar 0) (dCons (cVar 7) (dCons (cBin oSub (cFld [0] "own_prime" (cVar 0)) (cInt 1)) dNil))) wNil [.a 0, .a 1, .a 2] b_power_of_3) dNil))) wNil [.a 0, .a 1, .a 2] b_minus_of_3)) (sSeq (sAsg 4 false (cCall s_put_turners e_put_turners (dCons (cVar 0) (dCons (cLst (dCons (cVar 9) (dCons (cInt 1) dNil))) (dCons (cVar 4) dNil))) wNil [.a 0, .a 1, .a 2] b_put_turners_3)) sEnd)))))
def t_through_of : CS := (sSeq (sPar [3, 4] (kCons false (cLst dNil) (kCons false (cLst (dCons (cInt 1) dNil)) kNil))) (sSeq (sFor (gTp [(gNm 5), (gNm 6)]) (iZip3 (cVar 1) (cVar 2)) w1_through_of) (sSeq (sRet (cVar 3)) sEnd)))
def e_through_of : FEv := defEv 3 10 t_through_of.ev
theorem k_through_of : t_through_of.chk 3 ⟨s_through_of.N, s_through_of.scope.names, s_through_of.scope.names⟩ s_through_of.body = true := by kernel_rfl
theorem b_want_field_1 : BindOk s_want_field 1 [] [.a 0] := ⟨rfl, rfl, fun _ kV doc pm an cdv ct us ws h1 h2 => match us, ws, h1, h2 with | [_], [], _, _ => by kernel_rfl, fun h => absurd rfl h⟩
theorem b_want_points_2 : BindOk s_want_points 2 [] [.a 0, .a 1] := ⟨rfl, rfl, fun _ kV doc pm an cdv ct us ws h1 h2 => match us, ws, h1, h2 with | [_, _], [], _, _ => by kernel_rfl, fun h => absurd rfl h⟩
theorem b_through_of_3 : BindOk s_through_of 3 [] [.a 0, .a 1, .a 2] := ⟨rfl, rfl, fun _ kV doc pm an cdv ct us ws h1 h2 => match us, ws, h1, h2 with | [_, _, _], [], _, _ => by kernel_rfl, fun h => absurd rfl h⟩
def t_through : CS := (sSeq (sExpr (cCall s_want_field e_want_field (dCons (cVar 0) dNil) wNil [.a 0] b_want_field_1)) (sSeq (sAsg 3 false (cCall s_want_points e_want_points (dCons (cVar 0) (dCons (cVar 1) dNil)) wNil [.a 0, .a 1] b_want_points_2)) (sSeq (sIf (tNotT (tVal (cCall s_are_some e_are_some (dCons (cVar 0) (dCons (cVar 2) (dCons (cBlt bLen (aCons (cVar 3) aNil)) dNil))) wNil [.a 0, .a 1, .a 2] b_are_some_3))) (sSeq (sRaise1 "InvalidElements" "value" s_InvalidElements___init__ (cVar 2)) sEnd) sEnd) (sSeq (sRet (cCall s_through_of e_through_of (dCons (cVar 0) (dCons (cVar 3) (dCons (cVar 2) dNil))) wNil [.a 0, .a 1, .a 2] b_through_of_3)) sEnd))))
def e_through : FEv := defEv 3 4 t_through.ev
theorem k_through : t_through.chk 5 ⟨s_through.N, s_through.scope.names, s_through.scope.names⟩ s_through.body = true := by kernel_rfl
def u1_units_of : CT := (tCmp oLt (cBlt bLen (aCons (cVar 1) aNil)) (cFld [0] "own_turns" (cVar 0)))
def w1_units_of : CS := (sSeq (sAppend 1 (cBin oMul (cIx (cVar 1) (cNeg (cInt 1))) (cFld [0] "own_prime" (cVar 0)))) sEnd)
def t_units_of : CS := (sSeq (sAsg 1 true (cLst (dCons (cInt 1) dNil))) (sSeq (sWhile 300 u1_units_of w1_units_of) (sSeq (sRet (cVar 1)) sEnd)))
def e_units_of : FEv := defEv 1 2 t_units_of.ev
theorem k_units_of : t_units_of.chk 0 ⟨s_units_of.N, s_units_of.scope.names, s_units_of.scope.names⟩ s_units_of.body = true := by kernel_rfl
theorem b_units_of_1 : BindOk s_units_of 1 [] [.a 0] := ⟨rfl, rfl, fun _ kV doc pm an cdv ct us ws h1 h2 => match us, ws, h1, h2 with | [_], [], _, _ => by kernel_rfl, fun h => absurd rfl h⟩
def z1_worths_of : CE := (cCall s_worth_of e_worth_of (dCons (cVar 0) (dCons (cVar 1) (dCons (cVar 2) dNil))) wNil [.a 0, .a 1, .a 2] b_worth_of_3)
def t_worths_of : CS := (sSeq (sRet (cLc (gNm 2) (iLst (cCall s_units_of e_units_of (dCons (cVar 0) dNil) wNil [.a 0] b_units_of_1)) none z1_worths_of [("one", 2)])) sEnd)
def e_worths_of : FEv := defEv 2 3 t_worths_of.ev
theorem k_worths_of : t_worths_of.chk 3 ⟨s_worths_of.N, s_worths_of.scope.names, s_worths_of.scope.names⟩ s_worths_of.body = true := by kernel_rfl
def z1_is_sum : CE := (cCall s_is_in e_is_in (dCons (cVar 0) (dCons (cVar 2) dNil)) wNil [.a 0, .a 1] b_is_in_2)
def t_is_sum : CS := (sSeq (sRet (cAnd [(cCall s_is_list e_is_list (dCons (cVar 1) dNil) wNil [.a 0] b_is_list_1), (cCmp oLe (cBlt bLen (aCons (cVar 1) aNil)) (cGInt "MOST_ELEMENTS" 13)), (cBlt bAll (aCons (cLc (gNm 2) (iSeq (cVar 1)) none z1_is_sum [("one", 2)]) aNil))])) sEnd)
def e_is_sum : FEv := defEv 2 3 t_is_sum.ev
theorem k_is_sum : t_is_sum.chk 3 ⟨s_is_sum.N, s_is_sum.scope.names, s_is_sum.scope.names⟩ s_is_sum.body = true := by kernel_rfl
theorem b_is_sum_2 : BindOk s_is_sum 2 [] [.a 0, .a 1] := ⟨rfl, rfl, fun _ kV doc pm an cdv ct us ws h1 h2 => match us, ws, h1, h2 with | [_, _], [], _, _ => by kernel_rfl, fun h => absurd rfl h⟩
def t_want_turner : CS := (sSeq (sIf (tNotT (tVal (cCall s_is_sum e_is_sum (dCons (cVar 0) (dCons (cVar 1) dNil)) wNil [.a 0, .a 1] b_is_sum_2))) (sSeq (sRaise1 "InvalidTurner" "value" s_InvalidTurner___init__ (cVar 1)) sEnd) sEnd) (sSeq (sRet (cCall s_told_of e_told_of (dCons (cVar 1) dNil) wNil [.a 0] b_told_of_1)) sEnd))
def e_want_turner : FEv := defEv 2 2 t_want_turner.ev
theorem k_want_turner : t_want_turner.chk 4 ⟨s_want_turner.N, s_want_turner.scope.names, s_want_turner.scope.names⟩ s_want_turner.body = true := by kernel_rfl
theorem b_want_turner_2 : BindOk s_want_turner 2 [] [.a 0, .a 1] := ⟨rfl, rfl, fun _ kV doc pm an cdv ct us ws h1 h2 => match us, ws, h1, h2 with | [_, _], [], _, _ => by kernel_rfl, fun h => absurd rfl h⟩
theorem b_worths_of_2 : BindOk s_worths_of 2 [] [.a 0, .a 1] := ⟨rfl, rfl, fun _ kV doc pm an cdv ct us ws h1 h2 => match us, ws, h1, h2 with | [_, _], [], _, _ => by kernel_rfl, fun h => absurd rfl h⟩
def z1_table_of : CE := (cCall s_figures_of e_figures_of (dCons (cVar 0) (dCons (cVar 2) dNil)) wNil [.a 0, .a 1] b_figures_of_2)
def t_table_of : CS := (sSeq (sExpr (cCall s_want_field e_want_field (dCons (cVar 0) dNil) wNil [.a 0] b_want_field_1)) (sSeq (sRet (cLc (gNm 2) (iLst (cCall s_worths_of e_worths_of (dCons (cVar 0) (dCons (cCall s_want_turner e_want_turner (dCons (cVar 0) (dCons (cVar 1) dNil)) wNil [.a 0, .a 1] b_want_turner_2) dNil)) wNil [.a 0, .a 1] b_worths_of_2)) none z1_table_of [("one", 2)])) sEnd))
def e_table_of : FEv := defEv 2 3 t_table_of.ev
theorem k_table_of : t_table_of.chk 5 ⟨s_table_of.N, s_table_of.scope.names, s_table_of.scope.names⟩ s_table_of.body = true := by kernel_rfl
def z1_is_figures : CE := (cAnd [(cCall s_is_count e_is_count (dCons (cVar 3) dNil) wNil [.a 0] b_is_count_1), (cCmp oLt (cVar 3) (cVar 0))])
def t_is_figures : CS := (sSeq (sRet (cAnd [(cCall s_is_list e_is_list (dCons (cVar 1) dNil) wNil [.a 0] b_is_list_1), (cCmp oEq (cBlt bLen (aCons (cVar 1) aNil)) (cVar 2)), (cBlt bAll (aCons (cLc (gNm 3) (iSeq (cVar 1)) none z1_is_figures [("one", 3)]) aNil))])) sEnd)
def e_is_figures : FEv := defEv 3 4 t_is_figures.ev
theorem k_is_figures : t_is_figures.chk 2 ⟨s_is_figures.N, s_is_figures.scope.names, s_is_figures.scope.names⟩ s_is_figures.body = true := by kernel_rfl
theorem b_is_figures_3 : BindOk s_is_figures 3 [] [.a 0, .a 1, .a 2] := ⟨rfl, rfl, fun _ kV doc pm an cdv ct us ws h1 h2 => match us, ws, h1, h2 with | [_, _, _], [], _, _ => by kernel_rfl, fun h => absurd rfl h⟩
def z1_want_map_table : CE := (cCall s_is_figures e_is_figures (dCons (cFld [0] "own_prime" (cVar 0)) (dCons (cVar 3) (dCons (cVar 2) dNil))) wNil [.a 0, .a 1, .a 2] b_is_figures_3)
def z2_want_map_table : CE := (cBlt bList (aCons (cVar 3) aNil))
def t_want_map_table : CS := (sSeq (sAsg 2 false (cFld [0] "own_turns" (cVar 0))) (sSeq (sIf (tOr [(tNotT (tVal (cCall s_is_list e_is_list (dCons (cVar 1) dNil) wNil [.a 0] b_is_list_1))), (tCmp oNe (cBlt bLen (aCons (cVar 1) aNil)) (cVar 2)), (tNotT (tVal (cBlt bAll (aCons (cLc (gNm 3) (iSeq (cVar 1)) none z1_want_map_table [("row", 3)]) aNil))))]) (sSeq (sRaise1 "InvalidTable" "value" s_InvalidTable___init__ (cVar 1)) sEnd) sEnd) (sSeq (sRet (cLc (gNm 3) (iSeq (cVar 1)) none z2_want_map_table [("row", 3)])) sEnd)))
def e_want_map_table : FEv := defEv 2 4 t_want_map_table.ev
theorem k_want_map_table : t_want_map_table.chk 3 ⟨s_want_map_table.N, s_want_map_table.scope.names, s_want_map_table.scope.names⟩ s_want_map_table.body = true := by kernel_rfl
theorem b_want_map_table_2 : BindOk s_want_map_table 2 [] [.a 0, .a 1] := ⟨rfl, rfl, fun _ kV doc pm an cdv ct us ws h1 h2 => match us, ws, h1, h2 with | [_, _], [], _, _ => by kernel_rfl, fun h => absurd rfl h⟩
def z1_turner_by : CE := (cCall s_by_figures_of e_by_figures_of (dCons (cVar 0) (dCons (cVar 3) dNil)) wNil [.a 0, .a 1] b_by_figures_of_2)
def t_turner_by : CS := (sSeq (sExpr (cCall s_want_field e_want_field (dCons (cVar 0) dNil) wNil [.a 0] b_want_field_1)) (sSeq (sAsg 2 false (cCall s_want_map_table e_want_map_table (dCons (cVar 0) (dCons (cVar 1) dNil)) wNil [.a 0, .a 1] b_want_map_table_2)) (sSeq (sRet (cCall s_through_of e_through_of (dCons (cVar 0) (dCons (cCall s_units_of e_units_of (dCons (cVar 0) dNil) wNil [.a 0] b_units_of_1) (dCons (cLc (gNm 3) (iLst (cVar 2)) none z1_turner_by [("row", 3)]) dNil))) wNil [.a 0, .a 1, .a 2] b_through_of_3)) sEnd)))
def e_turner_by : FEv := defEv 2 4 t_turner_by.ev
theorem k_turner_by : t_turner_by.chk 4 ⟨s_turner_by.N, s_turner_by.scope.names, s_turner_by.scope.names⟩ s_turner_by.body = true := by kernel_rfl
def z1_map_numbers : CE := (cInt 0)
def w1_map_numbers : CS := (sSeq (sAsg 5 false (cBin oSub (cVar 3) (cBin oMul (cBin oDiv (cVar 3) (cFld [0] "own_turns" (cVar 0))) (cFld [0] "own_turns" (cVar 0))))) (sSeq (sAsgG (gIx 2 (cVar 5)) (cCall s_plus_of e_plus_of (dCons (cVar 0) (dCons (cIx (cVar 2) (cVar 5)) (dCons (cVar 4) dNil))) wNil [.a 0, .a 1, .a 2] b_plus_of_3)) sEnd))
def t_map_numbers : CS := (sSeq (sAsgLc 2 true (gNm 6) (iRange1 (cFld [0] "own_turns" (cVar 0))) none z1_map_numbers [("turn", 6)]) (sSeq (sFor (gTp [(gNm 3), (gNm 4)]) (iEnum1 (cVar 1)) w1_map_numbers) (sSeq (sRet (cVar 2)) sEnd)))
def e_map_numbers : FEv := defEv 2 7 t_map_numbers.ev
theorem k_map_numbers : t_map_numbers.chk 2 ⟨s_map_numbers.N, s_map_numbers.scope.names, s_map_numbers.scope.names⟩ s_map_numbers.body = true := by kernel_rfl
theorem b_map_numbers_2 : BindOk s_map_numbers 2 [] [.a 0, .a 1] := ⟨rfl, rfl, fun _ kV doc pm an cdv ct us ws h1 h2 => match us, ws, h1, h2 with | [_, _], [], _, _ => by kernel_rfl, fun h => absurd rfl h⟩
def t_as_map_of : CS := (sSeq (sRet (cCall s_told_of e_told_of (dCons (cCall s_map_numbers e_map_numbers (dCons (cVar 0) (dCons (cVar 1) dNil)) wNil [.a 0, .a 1] b_map_numbers_2) dNil) wNil [.a 0] b_told_of_1)) sEnd)
def e_as_map_of : FEv := defEv 2 2 t_as_map_of.ev
theorem k_as_map_of : t_as_map_of.chk 3 ⟨s_as_map_of.N, s_as_map_of.scope.names, s_as_map_of.scope.names⟩ s_as_map_of.body = true := by kernel_rfl
theorem b_as_map_of_2 : BindOk s_as_map_of 2 [] [.a 0, .a 1] := ⟨rfl, rfl, fun _ kV doc pm an cdv ct us ws h1 h2 => match us, ws, h1, h2 with | [_, _], [], _, _ => by kernel_rfl, fun h => absurd rfl h⟩
def t_as_map : CS := (sSeq (sExpr (cCall s_want_field e_want_field (dCons (cVar 0) dNil) wNil [.a 0] b_want_field_1)) (sSeq (sRet (cCall s_as_map_of e_as_map_of (dCons (cVar 0) (dCons (cCall s_want_turner e_want_turner (dCons (cVar 0) (dCons (cVar 1) dNil)) wNil [.a 0, .a 1] b_want_turner_2) dNil)) wNil [.a 0, .a 1] b_as_map_of_2)) sEnd))
def e_as_map : FEv := defEv 2 2 t_as_map.ev
theorem k_as_map : t_as_map.chk 5 ⟨s_as_map.N, s_as_map.scope.names, s_as_map.scope.names⟩ s_as_map.body = true := by kernel_rfl
def t_are_one_map : CS := (sSeq (sExpr (cCall s_want_field e_want_field (dCons (cVar 0) dNil) wNil [.a 0] b_want_field_1)) (sSeq (sAsg 3 false (cCall s_want_turner e_want_turner (dCons (cVar 0) (dCons (cVar 1) dNil)) wNil [.a 0, .a 1] b_want_turner_2)) (sSeq (sRet (cCmp oEq (cCall s_as_map_of e_as_map_of (dCons (cVar 0) (dCons (cVar 3) dNil)) wNil [.a 0, .a 1] b_as_map_of_2) (cCall s_as_map_of e_as_map_of (dCons (cVar 0) (dCons (cCall s_want_turner e_want_turner (dCons (cVar 0) (dCons (cVar 2) dNil)) wNil [.a 0, .a 1] b_want_turner_2) dNil)) wNil [.a 0, .a 1] b_as_map_of_2))) sEnd)))
def e_are_one_map : FEv := defEv 3 4 t_are_one_map.ev
theorem k_are_one_map : t_are_one_map.chk 5 ⟨s_are_one_map.N, s_are_one_map.scope.names, s_are_one_map.scope.names⟩ s_are_one_map.body = true := by kernel_rfl
def t_rank_of_map : CS := (sSeq (sRet (cCall s_rank_of e_rank_of (dCons (cVar 0) (dCons (cCall s_worths_of e_worths_of (dCons (cVar 0) (dCons (cVar 1) dNil)) wNil [.a 0, .a 1] b_worths_of_2) dNil)) wNil [.a 0, .a 1] b_rank_of_2)) sEnd)
def e_rank_of_map : FEv := defEv 2 2 t_rank_of_map.ev
theorem k_rank_of_map : t_rank_of_map.chk 4 ⟨s_rank_of_map.N, s_rank_of_map.scope.names, s_rank_of_map.scope.names⟩ s_rank_of_map.body = true := by kernel_rfl
theorem b_rank_of_map_2 : BindOk s_rank_of_map 2 [] [.a 0, .a 1] := ⟨rfl, rfl, fun _ kV doc pm an cdv ct us ws h1 h2 => match us, ws, h1, h2 with | [_, _], [], _, _ => by kernel_rfl, fun h => absurd rfl h⟩
def t_map_rank : CS := (sSeq (sExpr (cCall s_want_field e_want_field (dCons (cVar 0) dNil) wNil [.a 0] b_want_field_1)) (sSeq (sRet (cCall s_rank_of_map e_rank_of_map (dCons (cVar 0) (dCons (cCall s_want_turner e_want_turner (dCons (cVar 0) (dCons (cVar 1) dNil)) wNil [.a 0, .a 1] b_want_turner_2) dNil)) wNil [.a 0, .a 1] b_rank_of_map_2)) sEnd))
def e_map_rank : FEv := defEv 2 2 t_map_rank.ev
theorem k_map_rank : t_map_rank.chk 5 ⟨s_map_rank.N, s_map_rank.scope.names, s_map_rank.scope.names⟩ s_map_rank.body = true := by kernel_rfl
def z1_dickson_of : CE := (cCall s_turned_of e_turned_of (dCons (cVar 0) (dCons (cVar 7) (dCons (cVar 5) dNil))) wNil [.a 0, .a 1, .a 2] b_turned_of_3)
def w1_dickson_of : CS := (sSeq (sAsg 6 false (cBin oAdd (cSlice (cVar 2) (some (cBin oSub (cVar 3) (cVar 5))) none) (cSlice (cVar 2) none (some (cBin oSub (cVar 3) (cVar 5)))))) (sSeq (sAppend 4 (cLc (gNm 7) (iLst (cVar 6)) none z1_dickson_of [("number", 7)])) sEnd))
def t_dickson_of : CS := (sSeq (sPar [2, 3, 4] (kCons false (cCall s_map_numbers e_map_numbers (dCons (cVar 0) (dCons (cVar 1) dNil)) wNil [.a 0, .a 1] b_map_numbers_2) (kCons false (cFld [0] "own_turns" (cVar 0)) (kCons true (cLst dNil) kNil)))) (sSeq (sFor (gNm 5) (iRange1 (cVar 3)) w1_dickson_of) (sSeq (sRet (cVar 4)) sEnd)))
def e_dickson_of : FEv := defEv 2 8 t_dickson_of.ev
theorem k_dickson_of : t_dickson_of.chk 3 ⟨s_dickson_of.N, s_dickson_of.scope.names, s_dickson_of.scope.names⟩ s_dickson_of.body = true := by kernel_rfl
theorem b_dickson_of_2 : BindOk s_dickson_of 2 [] [.a 0, .a 1] := ⟨rfl, rfl, fun _ kV doc pm an cdv ct us ws h1 h2 => match us, ws, h1, h2 with | [_, _], [], _, _ => by kernel_rfl, fun h => absurd rfl h⟩
def t_dickson : CS := (sSeq (sExpr (cCall s_want_field e_want_field (dCons (cVar 0) dNil) wNil [.a 0] b_want_field_1)) (sSeq (sRet (cCall s_dickson_of e_dickson_of (dCons (cVar 0) (dCons (cCall s_want_turner e_want_turner (dCons (cVar 0) (dCons (cVar 1) dNil)) wNil [.a 0, .a 1] b_want_turner_2) dNil)) wNil [.a 0, .a 1] b_dickson_of_2)) sEnd))
def e_dickson : FEv := defEv 2 2 t_dickson.ev
theorem k_dickson : t_dickson.chk 5 ⟨s_dickson.N, s_dickson.scope.names, s_dickson.scope.names⟩ s_dickson.body = true := by kernel_rfl
def z1_mirror_of : CE := (cCall s_turned_of e_turned_of (dCons (cVar 0) (dCons (cIx (cVar 2) (cBin oSub (cVar 3) (cVar 5))) (dCons (cVar 5) dNil))) wNil [.a 0, .a 1, .a 2] b_turned_of_3)
def t_mirror_of : CS := (sSeq (sAsgG (gTp [(gNm 2), (gNm 3)]) (cTup (dCons (cCall s_map_numbers e_map_numbers (dCons (cVar 0) (dCons (cVar 1) dNil)) wNil [.a 0, .a 1] b_map_numbers_2) (dCons (cFld [0] "own_turns" (cVar 0)) dNil)))) (sSeq (sAsg 4 false (cBin oAdd (cLst (dCons (cIx (cVar 2) (cInt 0)) dNil)) (cLc (gNm 5) (iRange2 (cInt 1) (cVar 3)) none z1_mirror_of [("place", 5)]))) (sSeq (sRet (cCall s_told_of e_told_of (dCons (cVar 4) dNil) wNil [.a 0] b_told_of_1)) sEnd)))
def e_mirror_of : FEv := defEv 2 6 t_mirror_of.ev
theorem k_mirror_of : t_mirror_of.chk 3 ⟨s_mirror_of.N, s_mirror_of.scope.names, s_mirror_of.scope.names⟩ s_mirror_of.body = true := by kernel_rfl
theorem b_mirror_of_2 : BindOk s_mirror_of 2 [] [.a 0, .a 1] := ⟨rfl, rfl, fun _ kV doc pm an cdv ct us ws h1 h2 => match us, ws, h1, h2 with | [_, _], [], _, _ => by kernel_rfl, fun h => absurd rfl h⟩
def t_mirror : CS := (sSeq (sExpr (cCall s_want_field e_want_field (dCons (cVar 0) dNil) wNil [.a 0] b_want_field_1)) (sSeq (sRet (cCall s_mirror_of e_mirror_of (dCons (cVar 0) (dCons (cCall s_want_turner e_want_turner (dCons (cVar 0) (dCons (cVar 1) dNil)) wNil [.a 0, .a 1] b_want_turner_2) dNil)) wNil [.a 0, .a 1] b_mirror_of_2)) sEnd))
def e_mirror : FEv := defEv 2 2 t_mirror.ev
theorem k_mirror : t_mirror.chk 5 ⟨s_mirror.N, s_mirror.scope.names, s_mirror.scope.names⟩ s_mirror.body = true := by kernel_rfl
def t__law_draw : CS := (sSeq (sIf (tCmp oGt (cIx (cVar 0) (cInt 0)) (cInt 0)) (sSeq (sAsgG (gTp [(gIx 0 (cInt 0)), (gNm 2)]) (cBlt bDivmod (aCons (cIx (cVar 0) (cInt 0)) (aCons (cVar 1) aNil)))) (sSeq (sRet (cVar 2)) sEnd)) sEnd) (sSeq (sAsgG (gIx 0 (cInt 1)) (cBin oMod (cBlt bInt (aCons (cBin oAdd (cBin oMul (cIx (cVar 0) (cInt 1)) (cInt 39373)) (cInt 607)) aNil)) (cInt 2147483587))) (sSeq (sRet (cBin oMod (cBlt bInt (aCons (cBin oDiv (cBin oMod (cBlt bInt (aCons (cBin oMul (cIx (cVar 0) (cInt 1)) (cIx (cVar 0) (cInt 1))) aNil)) (cInt 2147483563)) (cInt 31)) aNil)) (cVar 1))) sEnd)))
def e__law_draw : FEv := defEv 2 3 t__law_draw.ev
theorem k__law_draw : t__law_draw.chk 0 ⟨s__law_draw.N, s__law_draw.scope.names, s__law_draw.scope.names⟩ s__law_draw.body = true := by kernel_rfl
theorem b__law_draw_2 : BindOk s__law_draw 2 [] [.a 0, .a 1] := ⟨rfl, rfl, fun _ kV doc pm an cdv ct us ws h1 h2 => match us, ws, h1, h2 with | [_, _], [], _, _ => by kernel_rfl, fun h => absurd rfl h⟩
def t__law_pick : CS := (sSeq (sRet (cIx (cVar 1) (cCall s__law_draw e__law_draw (dCons (cVar 0) (dCons (cBlt bLen (aCons (cVar 1) aNil)) dNil)) wNil [.a 0, .a 1] b__law_draw_2))) sEnd)
def e__law_pick : FEv := defEv 2 2 t__law_pick.ev
theorem k__law_pick : t__law_pick.chk 1 ⟨s__law_pick.N, s__law_pick.scope.names, s__law_pick.scope.names⟩ s__law_pick.body = true := by kernel_rfl
def t__law_pot : CS := (sSeq (sAsg 2 false (cIte (tCmp oLt (cVar 1) (cBlt bLen (aCons (cVar 0) aNil))) (cBlt bAbs (aCons (cIx (cVar 0) (cVar 1)) aNil)) (cBin oAdd (cBin oMul (cInt 547) (cVar 1)) (cInt 233)))) (sSeq (sRet (cLst (dCons (cBlt bMax2 (aCons (cInt 0) (aCons (cBin oSub (cVar 2) (cBin oPow (cInt 10) (cInt 18))) aNil))) (dCons (cBin oAdd (cBin oMod (cBlt bInt (aCons (cBin oAdd (cBin oAdd (cBin oMul (cBin oMod (cBlt bInt (aCons (cVar 2) aNil)) (cInt 2147483549)) (cInt 40531)) (cBin oMul (cInt 1709) (cVar 1))) (cInt 107)) aNil)) (cInt 2147483563)) (cInt 1)) dNil)))) sEnd))
def e__law_pot : FEv := defEv 2 3 t__law_pot.ev
theorem k__law_pot : t__law_pot.chk 0 ⟨s__law_pot.N, s__law_pot.scope.names, s__law_pot.scope.names⟩ s__law_pot.body = true := by kernel_rfl
def t__law_kinds : CS := (sSeq (sAsg 0 false (cLst (dCons (cTup (dCons (cInt 2) (dCons (cLst (dCons (cInt 1) (dCons (cInt 1) (dCons (cInt 0) (dCons (cInt 1) dNil))))) dNil))) (dCons (cTup (dCons (cInt 3) (dCons (cLst (dCons (cInt 1) (dCons (cInt 0) (dCons (cInt 1) dNil)))) dNil))) (dCons (cTup (dCons (cInt 2) (dCons (cLst (dCons (cInt 1) (dCons (cInt 1) (dCons (cInt 0) (dCons (cInt 0) (dCons (cInt 1) dNil)))))) dNil))) (dCons (cTup (dCons (cInt 2) (dCons (cLst (dCons (cInt 1) (dCons (cInt 1) (dCons (cInt 1) dNil)))) dNil))) (dCons (cTup (dCons (cInt 2) (dCons (cLst (dCons (cInt 1) (dCons (cInt 1) (dCons (cInt 0) (dCons (cInt 1) dNil))))) dNil))) (dCons (cTup (dCons (cInt 3) (dCons (cLst (dCons (cInt 1) (dCons (cInt 0) (dCons (cInt 1) dNil)))) dNil))) (dCons (cTup (dCons (cInt 3) (dCons (cLst (dCons (cInt 1) (dCons (cInt 2) (dCons (cInt 0) (dCons (cInt 1) dNil))))) dNil))) dNil))))))))) (sSeq (sRet (cBin oAdd (cVar 0) (cLst (dCons (cTup (dCons (cInt 5) (dCons (cLst (dCons (cInt 2) (dCons (cInt 0) (dCons (cInt 1) dNil)))) dNil))) (dCons (cTup (dCons (cInt 7) (dCons (cLst (dCons (cInt 1) (dCons (cInt 0) (dCons (cInt 1) dNil)))) dNil))) (dCons (cTup (dCons (cInt 2) (dCons (cLst (dCons (cInt 1) (dCons (cInt 0) (dCons (cInt 1) (dCons (cInt 0) (dCons (cInt 0) (dCons (cInt 1) dNil))))))) dNil))) dNil)))))) sEnd))
def e__law_kinds : FEv := defEv 0 1 t__law_kinds.ev
theorem k__law_kinds : t__law_kinds.chk 0 ⟨s__law_kinds.N, s__law_kinds.scope.names, s__law_kinds.scope.names⟩ s__law_kinds.body = true := by kernel_rfl
def t_want_prime : CS := (sSeq (sIf (tOr [(tNotT (tVal (cCall s_is_count e_is_count (dCons (cVar 0) dNil) wNil [.a 0] b_is_count_1))), (tCmp oNotIn (cVar 0) (cGTup "PRIMES" [.int 2, .int 3, .int 5, .int 7]))]) (sSeq sNo sEnd) sEnd) sEnd)
def e_want_prime : FEv := defEv 1 1 t_want_prime.ev
theorem k_want_prime : t_want_prime.chk 2 ⟨s_want_prime.N, s_want_prime.scope.names, s_want_prime.scope.names⟩ s_want_prime.body = true := by kernel_rfl
def t_want_at_most : CS := (sSeq (sIf (tCmp oGt (cVar 2) (cVar 1)) (sSeq sNo sEnd) sEnd) sEnd)
def e_want_at_most : FEv := defEv 3 3 t_want_at_most.ev
theorem k_want_at_most : t_want_at_most.chk 0 ⟨s_want_at_most.N, s_want_at_most.scope.names, s_want_at_most.scope.names⟩ s_want_at_most.body = true := by kernel_rfl
def w1_sized : CS := (sSeq (sAsg 2 false (cBin oMul (cVar 2) (cVar 0))) sEnd)
def t_sized : CS := (sSeq (sAsg 2 false (cInt 1)) (sSeq (sFor (gNm 3) (iRange1 (cVar 1)) w1_sized) (sSeq (sRet (cVar 2)) sEnd)))
def e_sized : FEv := defEv 2 4 t_sized.ev
theorem k_sized : t_sized.chk 0 ⟨s_sized.N, s_sized.scope.names, s_sized.scope.names⟩ s_sized.body = true := by kernel_rfl
def u1_poly_of : CT := (tCmp oGt (cVar 3) (cInt 0))
def w1_poly_of : CS := (sSeq (sAppend 2 (cBin oMod (cVar 3) (cVar 0))) (sSeq (sAsg 3 false (cBin oDiv (cVar 3) (cVar 0))) sEnd))
def t_poly_of : CS := (sSeq (sPar [2, 3] (kCons true (cLst dNil) (kCons false (cVar 1) kNil))) (sSeq (sWhile 300 u1_poly_of w1_poly_of) (sSeq (sRet (cVar 2)) sEnd)))
def e_poly_of : FEv := defEv 2 4 t_poly_of.ev
theorem k_poly_of : t_poly_of.chk 0 ⟨s_poly_of.N, s_poly_of.scope.names, s_poly_of.scope.names⟩ s_poly_of.body = true := by kernel_rfl
def u1_without_end : CT := (tAnd [(tCmp oGt (cVar 1) (cInt 0)), (tCmp oEq (cIx (cVar 0) (cBin oSub (cVar 1) (cInt 1))) (cInt 0))])
def w1_without_end : CS := (sSeq (sAsg 1 false (cBin oSub (cVar 1) (cInt 1))) sEnd)
def t_without_end : CS := (sSeq (sAsg 1 false (cBlt bLen (aCons (cVar 0) aNil))) (sSeq (sWhile 300 u1_without_end w1_without_end) (sSeq (sRet (cBlt bList (aCons (cSlice (cVar 0) none (some (cVar 1))) aNil))) sEnd)))
def e_without_end : FEv := defEv 1 2 t_without_end.ev
theorem k_without_end : t_without_end.chk 0 ⟨s_without_end.N, s_without_end.scope.names, s_without_end.scope.names⟩ s_without_end.body = true := by kernel_rfl
theorem b_without_end_1 : BindOk s_without_end 1 [] [.a 0] := ⟨rfl, rfl, fun _ kV doc pm an cdv ct us ws h1 h2 => match us, ws, h1, h2 with | [_], [], _, _ => by kernel_rfl, fun h => absurd rfl h⟩
def w1_poly_rest : CS := (sSeq (sAsgG (gIx 3 (cBin oAdd (cVar 5) (cVar 7))) (cBin oMod (cBin oSub (cIx (cVar 3) (cBin oAdd (cVar 5) (cVar 7))) (cBin oMul (cVar 6) (cVar 8))) (cVar 0))) sEnd)
def u1_poly_rest : CT := (tCmp oGe (cBlt bLen (aCons (cVar 3) aNil)) (cBlt bLen (aCons (cVar 2) aNil)))
def w2_poly_rest : CS := (sSeq (sPar [5, 6] (kCons false (cBin oSub (cBlt bLen (aCons (cVar 3) aNil)) (cBlt bLen (aCons (cVar 2) aNil))) (kCons false (cBin oMod (cBin oMul (cIx (cVar 3) (cNeg (cInt 1))) (cVar 4)) (cVar 0)) kNil))) (sSeq (sFor (gTp [(gNm 7), (gNm 8)]) (iEnum1 (cVar 2)) w1_poly_rest) (sFrz 3 (sSeq (sAsg 3 true (cCall s_without_end e_without_end (dCons (cVar 3) dNil) wNil [.a 0] b_without_end_1)) sEnd))))
def t_poly_rest : CS := (sSeq (sPar [3, 4] (kCons true (cCall s_without_end e_without_end (dCons (cVar 1) dNil) wNil [.a 0] b_without_end_1) (kCons false (cCall s_undone_by e_undone_by (dCons (cVar 0) (dCons (cIx (cVar 2) (cNeg (cInt 1))) dNil)) wNil [.a 0, .a 1] b_undone_by_2) kNil))) (sSeq (sWhile 300 u1_poly_rest w2_poly_rest) (sSeq (sRet (cVar 3)) sEnd)))
def e_poly_rest : FEv := defEv 3 9 t_poly_rest.ev
theorem k_poly_rest : t_poly_rest.chk 1 ⟨s_poly_rest.N, s_poly_rest.scope.names, s_poly_rest.scope.names⟩ s_poly_rest.body = true := by kernel_rfl
theorem b_poly_rest_3 : BindOk s_poly_rest 3 [] [.a 0, .a 1, .a 2] := ⟨rfl, rfl, fun _ kV doc pm an cdv ct us ws h1 h2 => match us, ws, h1, h2 with | [_, _, _], [], _, _ => by kernel_rfl, fun h => absurd rfl h⟩
def w1_poly_times : CS := (sSeq (sAsgG (gIx 4 (cBin oAdd (cVar 5) (cVar 7))) (cBin oMod (cBin oAdd (cIx (cVar 4) (cBin oAdd (cVar 5) (cVar 7))) (cBin oMul (cVar 6) (cVar 8))) (cVar 0))) sEnd)
def w2_poly_times : CS := (sSeq (sFor (gTp [(gNm 7), (gNm 8)]) (iEnum1 (cVar 2)) w1_poly_times) sEnd)
def t_poly_times : CS := (sSeq (sAsg 4 true (cBin oMul (cLst (dCons (cInt 0) dNil)) (cBlt bMax2 (aCons (cInt 0) (aCons (cBin oSub (cBin oAdd (cBlt bLen (aCons (cVar 1) aNil)) (cBlt bLen (aCons (cVar 2) aNil))) (cInt 1)) aNil))))) (sSeq (sFor (gTp [(gNm 5), (gNm 6)]) (iEnum1 (cVar 1)) w2_poly_times) (sFrz 4 (sSeq (sRet (cCall s_poly_rest e_poly_rest (dCons (cVar 0) (dCons (cVar 4) (dCons (cVar 3) dNil))) wNil [.a 0, .a 1, .a 2] b_poly_rest_3)) sEnd))))
def e_poly_times : FEv := defEv 4 9 t_poly_times.ev
theorem k_poly_times : t_poly_times.chk 2 ⟨s_poly_times.N, s_poly_times.scope.names, s_poly_times.scope.names⟩ s_poly_times.body = true := by kernel_rfl
def w1_told_number : CS := (sSeq (sAsg 2 false (cBin oAdd (cBin oMul (cVar 2) (cVar 0)) (cVar 3))) sEnd)
def t_told_number : CS := (sSeq (sAsg 2 false (cInt 0)) (sSeq (sFor (gNm 3) (iLst (cRev (cVar 1))) w1_told_number) (sSeq (sRet (cVar 2)) sEnd)))
def e_told_number : FEv := defEv 2 4 t_told_number.ev
theorem k_told_number : t_told_number.chk 0 ⟨s_told_number.N, s_told_number.scope.names, s_told_number.scope.names⟩ s_told_number.body = true := by kernel_rfl
theorem b_told_number_2 : BindOk s_told_number 2 [] [.a 0, .a 1] := ⟨rfl, rfl, fun _ kV doc pm an cdv ct us ws h1 h2 => match us, ws, h1, h2 with | [_, _], [], _, _ => by kernel_rfl, fun h => absurd rfl h⟩
theorem b_poly_times_4 : BindOk s_poly_times 4 [] [.a 0, .a 1, .a 2, .a 3] := ⟨rfl, rfl, fun _ kV doc pm an cdv ct us ws h1 h2 => match us, ws, h1, h2 with | [_, _, _, _], [], _, _ => by kernel_rfl, fun h => absurd rfl h⟩
theorem b_poly_of_2 : BindOk s_poly_of 2 [] [.a 0, .a 1] := ⟨rfl, rfl, fun _ kV doc pm an cdv ct us ws h1 h2 => match us, ws, h1, h2 with | [_, _], [], _, _ => by kernel_rfl, fun h => absurd rfl h⟩
def u1_powers_by : CT := (tCmp oNe (cVar 5) (cLst (dCons (cInt 1) dNil)))
def w1_powers_by : CS := (sSeq (sAppend 4 (cCall s_told_number e_told_number (dCons (cVar 0) (dCons (cVar 5) dNil)) wNil [.a 0, .a 1] b_told_number_2)) (sSeq (sAsg 5 false (cCall s_poly_times e_poly_times (dCons (cVar 0) (dCons (cVar 5) (dCons (cVar 3) (dCons (cVar 1) dNil)))) wNil [.a 0, .a 1, .a 2, .a 3] b_poly_times_4)) sEnd))
def t_powers_by : CS := (sSeq (sPar [3, 4, 5] (kCons false (cCall s_poly_of e_poly_of (dCons (cVar 0) (dCons (cVar 2) dNil)) wNil [.a 0, .a 1] b_poly_of_2) (kCons true (cLst (dCons (cInt 1) dNil)) (kCons false (cCall s_poly_of e_poly_of (dCons (cVar 0) (dCons (cVar 2) dNil)) wNil [.a 0, .a 1] b_poly_of_2) kNil)))) (sSeq (sWhile 300 u1_powers_by w1_powers_by) (sSeq (sRet (cVar 4)) sEnd)))
def e_powers_by : FEv := defEv 3 6 t_powers_by.ev
theorem k_powers_by : t_powers_by.chk 3 ⟨s_powers_by.N, s_powers_by.scope.names, s_powers_by.scope.names⟩ s_powers_by.body = true := by kernel_rfl
theorem b_powers_by_3 : BindOk s_powers_by 3 [] [.a 0, .a 1, .a 2] := ⟨rfl, rfl, fun _ kV doc pm an cdv ct us ws h1 h2 => match us, ws, h1, h2 with | [_, _, _], [], _, _ => by kernel_rfl, fun h => absurd rfl h⟩
def u1_all_powers : CT := (tCmp oLt (cBlt bLen (aCons (cVar 4) aNil)) (cBin oSub (cVar 2) (cInt 1)))
def w1_all_powers : CS := (sSeq (sAsg 3 false (cBin oAdd (cVar 3) (cInt 1))) (sSeq (sAsg 4 false (cCall s_powers_by e_powers_by (dCons (cVar 0) (dCons (cVar 1) (dCons (cVar 3) dNil))) wNil [.a 0, .a 1, .a 2] b_powers_by_3)) sEnd))
def t_all_powers : CS := (sSeq (sAsg 3 false (cVar 0)) (sSeq (sAsg 4 false (cCall s_powers_by e_powers_by (dCons (cVar 0) (dCons (cVar 1) (dCons (cVar 3) dNil))) wNil [.a 0, .a 1, .a 2] b_powers_by_3)) (sSeq (sWhile 300 u1_all_powers w1_all_powers) (sSeq (sRet (cVar 4)) sEnd))))
def e_all_powers : FEv := defEv 3 5 t_all_powers.ev
theorem k_all_powers : t_all_powers.chk 4 ⟨s_all_powers.N, s_all_powers.scope.names, s_all_powers.scope.names⟩ s_all_powers.body = true := by kernel_rfl
def w1_logs_by : CS := (sSeq (sAsgG (gIx 2 (cVar 4)) (cVar 3)) sEnd)
def t_logs_by : CS := (sSeq (sAsg 2 true (cBin oMul (cLst (dCons (cNeg (cInt 1)) dNil)) (cVar 1))) (sSeq (sFor (gTp [(gNm 3), (gNm 4)]) (iEnum1 (cVar 0)) w1_logs_by) (sSeq (sRet (cVar 2)) sEnd)))
def e_logs_by : FEv := defEv 2 5 t_logs_by.ev
theorem k_logs_by : t_logs_by.chk 0 ⟨s_logs_by.N, s_logs_by.scope.names, s_logs_by.scope.names⟩ s_logs_by.body = true := by kernel_rfl
def w1_letter_turns : CS := (sSeq (sAsg 4 false (cCall s_poly_times e_poly_times (dCons (cVar 0) (dCons (cVar 4) (dCons (cIx (cVar 2) (cNeg (cInt 1))) (dCons (cVar 1) dNil)))) wNil [.a 0, .a 1, .a 2, .a 3] b_poly_times_4)) sEnd)
def w2_letter_turns : CS := (sSeq (sAsg 4 false (cLst (dCons (cInt 1) dNil))) (sSeq (sFor (gNm 5) (iRange1 (cVar 0)) w1_letter_turns) (sSeq (sAppend 2 (cVar 4)) sEnd)))
def t_letter_turns : CS := (sSeq (sAsg 2 true (cLst (dCons (cCall s_poly_rest e_poly_rest (dCons (cVar 0) (dCons (cLst (dCons (cInt 0) (dCons (cInt 1) dNil))) (dCons (cVar 1) dNil))) wNil [.a 0, .a 1, .a 2] b_poly_rest_3) dNil))) (sSeq (sFor (gNm 3) (iRange1 (cBin oSub (cBlt bLen (aCons (cVar 1) aNil)) (cInt 1))) w2_letter_turns) (sSeq (sRet (cVar 2)) sEnd)))
def e_letter_turns : FEv := defEv 2 6 t_letter_turns.ev
theorem k_letter_turns : t_letter_turns.chk 3 ⟨s_letter_turns.N, s_letter_turns.scope.names, s_letter_turns.scope.names⟩ s_letter_turns.body = true := by kernel_rfl
def u1_are_apart : CT := (tCmp oGt (cBlt bLen (aCons (cVar 4) aNil)) (cInt 0))
def w1_are_apart : CS := (sSeq (sPar [3, 4] (kCons false (cVar 4) (kCons false (cCall s_poly_rest e_poly_rest (dCons (cVar 0) (dCons (cVar 3) (dCons (cVar 4) dNil))) wNil [.a 0, .a 1, .a 2] b_poly_rest_3) kNil))) sEnd)
def t_are_apart : CS := (sSeq (sPar [3, 4] (kCons false (cVar 1) (kCons false (cVar 2) kNil))) (sSeq (sWhile 300 u1_are_apart w1_are_apart) (sSeq (sRet (cCmp oEq (cBlt bLen (aCons (cVar 3) aNil)) (cInt 1))) sEnd)))
def e_are_apart : FEv := defEv 3 5 t_are_apart.ev
theorem k_are_apart : t_are_apart.chk 2 ⟨s_are_apart.N, s_are_apart.scope.names, s_are_apart.scope.names⟩ s_are_apart.body = true := by kernel_rfl
def z1_is_prime : CE := (cCmp oNe (cBin oMod (cVar 0) (cVar 1)) (cInt 0))
def t_is_prime : CS := (sSeq (sRet (cBlt bAll (aCons (cLc (gNm 1) (iRange2 (cInt 2) (cVar 0)) none z1_is_prime [("less", 1)]) aNil))) sEnd)
def e_is_prime : FEv := defEv 1 2 t_is_prime.ev
theorem k_is_prime : t_is_prime.chk 0 ⟨s_is_prime.N, s_is_prime.scope.names, s_is_prime.scope.names⟩ s_is_prime.body = true := by kernel_rfl
def z1_poly_less : CE := (cBin oMod (cBin oSub (cVar 6) (cVar 7)) (cVar 0))
def t_poly_less : CS := (sSeq (sAsg 3 false (cBlt bMax2 (aCons (cBlt bLen (aCons (cVar 1) aNil)) (aCons (cBlt bLen (aCons (cVar 2) aNil)) aNil)))) (sSeq (sPar [4, 5] (kCons false (cBin oAdd (cVar 1) (cBin oMul (cLst (dCons (cInt 0) dNil)) (cBin oSub (cVar 3) (cBlt bLen (aCons (cVar 1) aNil))))) (kCons false (cBin oAdd (cVar 2) (cBin oMul (cLst (dCons (cInt 0) dNil)) (cBin oSub (cVar 3) (cBlt bLen (aCons (cVar 2) aNil))))) kNil))) (sSeq (sRet (cCall s_without_end e_without_end (dCons (cLc (gTp [(gNm 6), (gNm 7)]) (iZip2 (cVar 4) (cVar 5)) none z1_poly_less [("first", 6), ("second", 7)]) dNil) wNil [.a 0] b_without_end_1)) sEnd)))
def e_poly_less : FEv := defEv 3 8 t_poly_less.ev
theorem k_poly_less : t_poly_less.chk 1 ⟨s_poly_less.N, s_poly_less.scope.names, s_poly_less.scope.names⟩ s_poly_less.body = true := by kernel_rfl
theorem b_is_prime_1 : BindOk s_is_prime 1 [] [.a 0] := ⟨rfl, rfl, fun _ kV doc pm an cdv ct us ws h1 h2 => match us, ws, h1, h2 with | [_], [], _, _ => by kernel_rfl, fun h => absurd rfl h⟩
theorem b_poly_less_3 : BindOk s_poly_less 3 [] [.a 0, .a 1, .a 2] := ⟨rfl, rfl, fun _ kV doc pm an cdv ct us ws h1 h2 => match us, ws, h1, h2 with | [_, _, _], [], _, _ => by kernel_rfl, fun h => absurd rfl h⟩
theorem b_are_apart_3 : BindOk s_are_apart 3 [] [.a 0, .a 1, .a 2] := ⟨rfl, rfl, fun _ kV doc pm an cdv ct us ws h1 h2 => match us, ws, h1, h2 with | [_, _, _], [], _, _ => by kernel_rfl, fun h => absurd rfl h⟩
theorem b_letter_turns_2 : BindOk s_letter_turns 2 [] [.a 0, .a 1] := ⟨rfl, rfl, fun _ kV doc pm an cdv ct us ws h1 h2 => match us, ws, h1, h2 with | [_, _], [], _, _ => by kernel_rfl, fun h => absurd rfl h⟩
def y1_is_single : CT := (tAnd [(tCmp oEq (cBin oMod (cVar 2) (cVar 5)) (cInt 0)), (tVal (cCall s_is_prime e_is_prime (dCons (cVar 5) dNil) wNil [.a 0] b_is_prime_1))])
def z1_is_single : CE := (cVar 5)
def z2_is_single : CE := (cCall s_are_apart e_are_apart (dCons (cVar 0) (dCons (cBlt bList (aCons (cVar 1) aNil)) (dCons (cCall s_poly_less e_poly_less (dCons (cVar 0) (dCons (cIx (cVar 3) (cBin oDiv (cVar 2) (cVar 5))) (dCons (cIx (cVar 3) (cInt 0)) dNil))) wNil [.a 0, .a 1, .a 2] b_poly_less_3) dNil))) wNil [.a 0, .a 1, .a 2] b_are_apart_3)
def t_is_single : CS := (sSeq (sAsgG (gTp [(gNm 2), (gNm 3)]) (cTup (dCons (cBin oSub (cBlt bLen (aCons (cVar 1) aNil)) (cInt 1)) (dCons (cCall s_letter_turns e_letter_turns (dCons (cVar 0) (dCons (cVar 1) dNil)) wNil [.a 0, .a 1] b_letter_turns_2) dNil)))) (sSeq (sIf (tCmp oNe (cIx (cVar 3) (cVar 2)) (cIx (cVar 3) (cInt 0))) (sSeq (sRet (cBl false)) sEnd) sEnd) (sSeq (sAsgLc 4 false (gNm 5) (iRange2 (cInt 2) (cBin oAdd (cVar 2) (cInt 1))) (some y1_is_single) z1_is_single [("less", 5)]) (sSeq (sRet (cBlt bAll (aCons (cLc (gNm 5) (iLst (cVar 4)) none z2_is_single [("less", 5)]) aNil))) sEnd))))
def e_is_single : FEv := defEv 2 6 t_is_single.ev
theorem k_is_single : t_is_single.chk 4 ⟨s_is_single.N, s_is_single.scope.names, s_is_single.scope.names⟩ s_is_single.body = true := by kernel_rfl
theorem b_is_single_2 : BindOk s_is_single 2 [] [.a 0, .a 1] := ⟨rfl, rfl, fun _ kV doc pm an cdv ct us ws h1 h2 => match us, ws, h1, h2 with | [_, _], [], _, _ => by kernel_rfl, fun h => absurd rfl h⟩
def t_is_right : CS := (sSeq (sIf (tOr [(tNotT (tVal (cCall s_is_list e_is_list (dCons (cVar 1) dNil) wNil [.a 0] b_is_list_1))), (tNotT (tChn oLe oLe (cInt 3) (cBlt bLen (aCons (cVar 1) aNil)) (cBin oAdd (cGInt "MOST_TURNS" 12) (cInt 1)))), (tNotT (tVal (cCall s_is_figures e_is_figures (dCons (cVar 0) (dCons (cVar 1) (dCons (cBlt bLen (aCons (cVar 1) aNil)) dNil))) wNil [.a 0, .a 1, .a 2] b_is_figures_3)))]) (sSeq (sRet (cBl false)) sEnd) sEnd) (sSeq (sRet (cAnd [(cCmp oEq (cIx (cVar 1) (cNeg (cInt 1))) (cInt 1)), (cCall s_is_single e_is_single (dCons (cVar 0) (dCons (cBlt bList (aCons (cVar 1) aNil)) dNil)) wNil [.a 0, .a 1] b_is_single_2)])) sEnd))
def e_is_right : FEv := defEv 2 2 t_is_right.ev
theorem k_is_right : t_is_right.chk 5 ⟨s_is_right.N, s_is_right.scope.names, s_is_right.scope.names⟩ s_is_right.body = true := by kernel_rfl
theorem b_want_prime_1 : BindOk s_want_prime 1 [] [.a 0] := ⟨rfl, rfl, fun _ kV doc pm an cdv ct us ws h1 h2 => match us, ws, h1, h2 with | [_], [], _, _ => by kernel_rfl, fun h => absurd rfl h⟩
theorem b_is_right_2 : BindOk s_is_right 2 [] [.a 0, .a 1] := ⟨rfl, rfl, fun _ kV doc pm an cdv ct us ws h1 h2 => match us, ws, h1, h2 with | [_, _], [], _, _ => by kernel_rfl, fun h => absurd rfl h⟩
theorem b_sized_2 : BindOk s_sized 2 [] [.a 0, .a 1] := ⟨rfl, rfl, fun _ kV doc pm an cdv ct us ws h1 h2 => match us, ws, h1, h2 with | [_, _], [], _, _ => by kernel_rfl, fun h => absurd rfl h⟩
theorem b_want_at_most_3 : BindOk s_want_at_most 3 [] [.a 0, .a 1, .a 2] := ⟨rfl, rfl, fun _ kV doc pm an cdv ct us ws h1 h2 => match us, ws, h1, h2 with | [_, _, _], [], _, _ => by kernel_rfl, fun h => absurd rfl h⟩
theorem b_all_powers_3 : BindOk s_all_powers 3 [] [.a 0, .a 1, .a 2] := ⟨rfl, rfl, fun _ kV doc pm an cdv ct us ws h1 h2 => match us, ws, h1, h2 with | [_, _, _], [], _, _ => by kernel_rfl, fun h => absurd rfl h⟩
theorem b_logs_by_2 : BindOk s_logs_by 2 [] [.a 0, .a 1] := ⟨rfl, rfl, fun _ kV doc pm an cdv ct us ws h1 h2 => match us, ws, h1, h2 with | [_, _], [], _, _ => by kernel_rfl, fun h => absurd rfl h⟩
def t_Field___init__ : CS := (sSeq (sExpr (cCall s_want_prime e_want_prime (dCons (cVar 1) dNil) wNil [.a 0] b_want_prime_1)) (sSeq (sIf (tNotT (tVal (cCall s_is_right e_is_right (dCons (cVar 1) (dCons (cVar 2) dNil)) wNil [.a 0, .a 1] b_is_right_2))) (sSeq sNo sEnd) sEnd) (sSeq (sExpr (cCall s_want_at_most e_want_at_most (dCons (cStr "elements") (dCons (cGInt "MOST_SIZE" 128) (dCons (cCall s_sized e_sized (dCons (cVar 1) (dCons (cBin oSub (cBlt bLen (aCons (cVar 2) aNil)) (cInt 1)) dNil)) wNil [.a 0, .a 1] b_sized_2) dNil))) wNil [.a 0, .a 1, .a 2] b_want_at_most_3)) (sSeq (sFldO 0 0 "own_prime" (cVar 1)) (sSeq (sFldO 0 0 "own_turns" (cBin oSub (cBlt bLen (aCons (cVar 2) aNil)) (cInt 1))) (sSeq (sFldO 0 0 "own_size" (cCall s_sized e_sized (dCons (cVar 1) (dCons (cBin oSub (cBlt bLen (aCons (cVar 2) aNil)) (cInt 1)) dNil)) wNil [.a 0, .a 1] b_sized_2)) (sSeq (sFldO 0 0 "own_modulus" (cBlt bList (aCons (cVar 2) aNil))) (sSeq (sFldO 0 0 "own_powers" (cCall s_all_powers e_all_powers (dCons (cVar 1) (dCons (cBlt bList (aCons (cVar 2) aNil)) (dCons (cCall s_sized e_sized (dCons (cVar 1) (dCons (cBin oSub (cBlt bLen (aCons (cVar 2) aNil)) (cInt 1)) dNil)) wNil [.a 0, .a 1] b_sized_2) dNil))) wNil [.a 0, .a 1, .a 2] b_all_powers_3)) (sSeq (sFldO 0 0 "own_logs" (cCall s_logs_by e_logs_by (dCons (cFldO 0 0 "own_powers") (dCons (cFldO 0 0 "own_size") dNil)) wNil [.a 0, .a 1] b_logs_by_2)) sEnd)))))))))
def e_Field___init__ : IEv := initEv 0 3 3 t_Field___init__.ev
theorem k_Field___init__ : t_Field___init__.chk 6 ⟨s_Field___init__.N, s_Field___init__.scope.names, s_Field___init__.scope.names⟩ s_Field___init__.body = true := by kernel_rfl
def w1__law_size : CS := (sSeq (sAsg 1 false (cBin oMul (cVar 1) (cIx (cVar 0) (cInt 0)))) sEnd)
def t__law_size : CS := (sSeq (sAsg 1 false (cInt 1)) (sSeq (sFor (gNm 2) (iRange1 (cBin oSub (cBlt bLen (aCons (cIx (cVar 0) (cInt 1)) aNil)) (cInt 1))) w1__law_size) (sSeq (sRet (cVar 1)) sEnd)))
def e__law_size : FEv := defEv 1 3 t__law_size.ev
theorem k__law_size : t__law_size.chk 0 ⟨s__law_size.N, s__law_size.scope.names, s__law_size.scope.names⟩ s__law_size.body = true := by kernel_rfl
theorem b_Field___repr___1 : BindOk s_Field___repr__ 1 [] [.a 0] := ⟨rfl, rfl, fun _ kV doc pm an cdv ct us ws h1 h2 => match us, ws, h1, h2 with | [_], [], _, _ => by kernel_rfl, fun h => absurd rfl h⟩
theorem b_through_3 : BindOk s_through 3 [] [.a 0, .a 1, .a 2] := ⟨rfl, rfl, fun _ kV doc pm an cdv ct us ws h1 h2 => match us, ws, h1, h2 with | [_, _, _], [], _, _ => by kernel_rfl, fun h => absurd rfl h⟩
def lam0 : LamRow := ⟨["_law_odd"], s__law_fields_right.scope.names, (cCall s_through e_through (dCons (cVar 0) (dCons cNon (dCons cNon dNil))) wNil [.a 0, .a 1, .a 2] b_through_3), 6⟩
theorem b_through_0_worths_points_field : BindOk s_through 0 ["worths", "points", "field"] [.a 2, .a 1, .a 0] := ⟨rfl, rfl, fun _ kV doc pm an cdv ct us ws h1 h2 => match us, ws, h1, h2 with | [], [_, _, _], _, _ => by kernel_rfl, fun h => absurd rfl h⟩
def lam1 : LamRow := ⟨["_law_odd"], s__law_fields_right.scope.names, (cCallK s_through e_through (wCons "worths" (cLst (dCons (cInt 1) dNil)) (wCons "points" (cLst (dCons (cInt 1) dNil)) (wCons "field" (cVar 0) wNil))) [.a 2, .a 1, .a 0] b_through_0_worths_points_field), 6⟩
theorem b_table_of_2 : BindOk s_table_of 2 [] [.a 0, .a 1] := ⟨rfl, rfl, fun _ kV doc pm an cdv ct us ws h1 h2 => match us, ws, h1, h2 with | [_, _], [], _, _ => by kernel_rfl, fun h => absurd rfl h⟩
def lam2 : LamRow := ⟨["_law_odd"], s__law_fields_right.scope.names, (cCall s_table_of e_table_of (dCons (cVar 0) (dCons cNon dNil)) wNil [.a 0, .a 1] b_table_of_2), 6⟩
theorem b_turner_by_2 : BindOk s_turner_by 2 [] [.a 0, .a 1] := ⟨rfl, rfl, fun _ kV doc pm an cdv ct us ws h1 h2 => match us, ws, h1, h2 with | [_, _], [], _, _ => by kernel_rfl, fun h => absurd rfl h⟩
def lam3 : LamRow := ⟨["_law_odd"], s__law_fields_right.scope.names, (cCall s_turner_by e_turner_by (dCons (cVar 0) (dCons cNon dNil)) wNil [.a 0, .a 1] b_turner_by_2), 5⟩
theorem b_as_map_2 : BindOk s_as_map 2 [] [.a 0, .a 1] := ⟨rfl, rfl, fun _ kV doc pm an cdv ct us ws h1 h2 => match us, ws, h1, h2 with | [_, _], [], _, _ => by kernel_rfl, fun h => absurd rfl h⟩
def lam4 : LamRow := ⟨["_law_odd"], s__law_fields_right.scope.names, (cCall s_as_map e_as_map (dCons (cVar 0) (dCons cNon dNil)) wNil [.a 0, .a 1] b_as_map_2), 6⟩
theorem b_are_one_map_3 : BindOk s_are_one_map 3 [] [.a 0, .a 1, .a 2] := ⟨rfl, rfl, fun _ kV doc pm an cdv ct us ws h1 h2 => match us, ws, h1, h2 with | [_, _, _], [], _, _ => by kernel_rfl, fun h => absurd rfl h⟩
def lam5 : LamRow := ⟨["_law_odd"], s__law_fields_right.scope.names, (cCall s_are_one_map e_are_one_map (dCons (cVar 0) (dCons cNon (dCons cNon dNil))) wNil [.a 0, .a 1, .a 2] b_are_one_map_3), 6⟩
theorem b_map_rank_0_turner_field : BindOk s_map_rank 0 ["turner", "field"] [.a 1, .a 0] := ⟨rfl, rfl, fun _ kV doc pm an cdv ct us ws h1 h2 => match us, ws, h1, h2 with | [], [_, _], _, _ => by kernel_rfl, fun h => absurd rfl h⟩
def lam6 : LamRow := ⟨["_law_odd"], s__law_fields_right.scope.names, (cCallK s_map_rank e_map_rank (wCons "turner" (cLst (dCons (cInt 1) dNil)) (wCons "field" (cVar 0) wNil)) [.a 1, .a 0] b_map_rank_0_turner_field), 6⟩
theorem b_dickson_2 : BindOk s_dickson 2 [] [.a 0, .a 1] := ⟨rfl, rfl, fun _ kV doc pm an cdv ct us ws h1 h2 => match us, ws, h1, h2 with | [_, _], [], _, _ => by kernel_rfl, fun h => absurd rfl h⟩
def lam7 : LamRow := ⟨["_law_odd"], s__law_fields_right.scope.names, (cCall s_dickson e_dickson (dCons (cVar 0) (dCons cNon dNil)) wNil [.a 0, .a 1] b_dickson_2), 6⟩
theorem b_mirror_0_turner_field : BindOk s_mirror 0 ["turner", "field"] [.a 1, .a 0] := ⟨rfl, rfl, fun _ kV doc pm an cdv ct us ws h1 h2 => match us, ws, h1, h2 with | [], [_, _], _, _ => by kernel_rfl, fun h => absurd rfl h⟩
def lam8 : LamRow := ⟨["_law_odd"], s__law_fields_right.scope.names, (cCallK s_mirror e_mirror (wCons "turner" (cLst (dCons (cInt 1) dNil)) (wCons "field" (cVar 0) wNil)) [.a 1, .a 0] b_mirror_0_turner_field), 6⟩
def lam9 : LamRow := ⟨["_law_field", "_law_odd"], s__law_turners_right.scope.names, (cCall s_table_of e_table_of (dCons (cVar 0) (dCons (cVar 1) dNil)) wNil [.a 0, .a 1] b_table_of_2), 6⟩
theorem b_table_of_0_turner_field : BindOk s_table_of 0 ["turner", "field"] [.a 1, .a 0] := ⟨rfl, rfl, fun _ kV doc pm an cdv ct us ws h1 h2 => match us, ws, h1, h2 with | [], [_, _], _, _ => by kernel_rfl, fun h => absurd rfl h⟩
def lam10 : LamRow := ⟨["_law_odd", "_law_field"], s__law_turners_right.scope.names, (cCallK s_table_of e_table_of (wCons "turner" (cVar 0) (wCons "field" (cVar 1) wNil)) [.a 1, .a 0] b_table_of_0_turner_field), 6⟩
def lam11 : LamRow := ⟨["_law_field", "_law_odd"], s__law_turners_right.scope.names, (cCall s_as_map e_as_map (dCons (cVar 0) (dCons (cVar 1) dNil)) wNil [.a 0, .a 1] b_as_map_2), 6⟩
def lam12 : LamRow := ⟨["_law_field", "_law_odd"], s__law_turners_right.scope.names, (cCall s_are_one_map e_are_one_map (dCons (cVar 0) (dCons (cVar 1) (dCons cNon dNil))) wNil [.a 0, .a 1, .a 2] b_are_one_map_3), 6⟩
theorem b_are_one_map_0_other_turner_field : BindOk s_are_one_map 0 ["other", "turner", "field"] [.a 2, .a 1, .a 0] := ⟨rfl, rfl, fun _ kV doc pm an cdv ct us ws h1 h2 => match us, ws, h1, h2 with | [], [_, _, _], _, _ => by kernel_rfl, fun h => absurd rfl h⟩
def lam13 : LamRow := ⟨["_law_odd", "_law_field"], s__law_turners_right.scope.names, (cCallK s_are_one_map e_are_one_map (wCons "other" (cVar 0) (wCons "turner" (cLst (dCons (cInt 1) dNil)) (wCons "field" (cVar 1) wNil))) [.a 2, .a 1, .a 0] b_are_one_map_0_other_turner_field), 6⟩
theorem b_map_rank_2 : BindOk s_map_rank 2 [] [.a 0, .a 1] := ⟨rfl, rfl, fun _ kV doc pm an cdv ct us ws h1 h2 => match us, ws, h1, h2 with | [_, _], [], _, _ => by kernel_rfl, fun h => absurd rfl h⟩
def lam14 : LamRow := ⟨["_law_field", "_law_odd"], s__law_turners_right.scope.names, (cCall s_map_rank e_map_rank (dCons (cVar 0) (dCons (cVar 1) dNil)) wNil [.a 0, .a 1] b_map_rank_2), 6⟩
def lam15 : LamRow := ⟨["_law_field", "_law_odd"], s__law_turners_right.scope.names, (cCall s_dickson e_dickson (dCons (cVar 0) (dCons (cVar 1) dNil)) wNil [.a 0, .a 1] b_dickson_2), 6⟩
theorem b_mirror_2 : BindOk s_mirror 2 [] [.a 0, .a 1] := ⟨rfl, rfl, fun _ kV doc pm an cdv ct us ws h1 h2 => match us, ws, h1, h2 with | [_, _], [], _, _ => by kernel_rfl, fun h => absurd rfl h⟩
def lam16 : LamRow := ⟨["_law_field", "_law_odd"], s__law_turners_right.scope.names, (cCall s_mirror e_mirror (dCons (cVar 0) (dCons (cVar 1) dNil)) wNil [.a 0, .a 1] b_mirror_2), 6⟩
def lam17 : LamRow := ⟨["_law_odd", "_law_field"], s__law_turners_right.scope.names, (cCallK s_mirror e_mirror (wCons "turner" (cVar 0) (wCons "field" (cVar 1) wNil)) [.a 1, .a 0] b_mirror_0_turner_field), 6⟩
def lam18 : LamRow := ⟨["_law_field", "_law_size_here"], s__law_turners_right.scope.names, (cCall s_as_map e_as_map (dCons (cVar 0) (dCons (cBin oMul (cLst (dCons (cBin oSub (cVar 1) (cInt 1)) dNil)) (cInt 13)) dNil)) wNil [.a 0, .a 1] b_as_map_2), 6⟩
def lam19 : LamRow := ⟨["_law_field"], s__law_turners_right.scope.names, (cCall s_dickson e_dickson (dCons (cVar 0) (dCons (cTup dNil) dNil)) wNil [.a 0, .a 1] b_dickson_2), 6⟩
def lam20 : LamRow := ⟨["_law_field"], s__law_turners_right.scope.names, (cCall s_are_one_map e_are_one_map (dCons (cVar 0) (dCons (cBin oMul (cLst (dCons (cInt 0) dNil)) (cInt 13)) (dCons (cTup (dCons (cInt 1) dNil)) dNil))) wNil [.a 0, .a 1, .a 2] b_are_one_map_3), 6⟩
def lam21 : LamRow := ⟨["_law_field", "_law_odd"], s__law_points_right.scope.names, (cCall s_through e_through (dCons (cVar 0) (dCons (cVar 1) (dCons cNon dNil))) wNil [.a 0, .a 1, .a 2] b_through_3), 6⟩
def lam22 : LamRow := ⟨["_law_odd", "_law_field"], s__law_points_right.scope.names, (cCallK s_through e_through (wCons "worths" (cLst dNil) (wCons "points" (cVar 0) (wCons "field" (cVar 1) wNil))) [.a 2, .a 1, .a 0] b_through_0_worths_points_field), 6⟩
def lam23 : LamRow := ⟨["_law_field", "_law_odd", "_law_units_here"], s__law_points_right.scope.names, (cCall s_through e_through (dCons (cVar 0) (dCons (cSlice (cVar 2) none (some (cInt 2))) (dCons (cVar 1) dNil))) wNil [.a 0, .a 1, .a 2] b_through_3), 6⟩
def lam24 : LamRow := ⟨["_law_odd", "_law_field", "_law_units_here"], s__law_points_right.scope.names, (cCallK s_through e_through (wCons "worths" (cVar 0) (wCons "points" (cBlt bTuple (aCons (cSlice (cVar 2) none (some (cInt 2))) aNil)) (wCons "field" (cVar 1) wNil))) [.a 2, .a 1, .a 0] b_through_0_worths_points_field), 6⟩
def lam25 : LamRow := ⟨["_law_field", "_law_units_here", "_law_wide", "_law_size_here"], s__law_points_right.scope.names, (cCall s_through e_through (dCons (cVar 0) (dCons (cVar 1) (dCons (cBin oMul (cLst (dCons (cBin oSub (cVar 3) (cInt 1)) dNil)) (cVar 2)) dNil))) wNil [.a 0, .a 1, .a 2] b_through_3), 6⟩
def lam26 : LamRow := ⟨["_law_field", "_law_size_here"], s__law_points_right.scope.names, (cCall s_through e_through (dCons (cVar 0) (dCons (cTup (dCons (cBin oSub (cVar 1) (cInt 1)) dNil)) (dCons (cTup (dCons (cInt 0) dNil)) dNil))) wNil [.a 0, .a 1, .a 2] b_through_3), 6⟩
def lam27 : LamRow := ⟨["_law_field", "_law_table"], s__law_points_right.scope.names, (cCall s_turner_by e_turner_by (dCons (cVar 0) (dCons (cVar 1) dNil)) wNil [.a 0, .a 1] b_turner_by_2), 5⟩
def lam28 : LamRow := ⟨["_law_field", "_law_table"], s__law_points_right.scope.names, (cCall s_turner_by e_turner_by (dCons (cVar 0) (dCons (cSlice (cVar 1) (some (cInt 1)) none) dNil)) wNil [.a 0, .a 1] b_turner_by_2), 5⟩
theorem b_turner_by_0_value_field : BindOk s_turner_by 0 ["value", "field"] [.a 1, .a 0] := ⟨rfl, rfl, fun _ kV doc pm an cdv ct us ws h1 h2 => match us, ws, h1, h2 with | [], [_, _], _, _ => by kernel_rfl, fun h => absurd rfl h⟩
def lam29 : LamRow := ⟨["_law_field", "_law_table"], s__law_points_right.scope.names, (cCallK s_turner_by e_turner_by (wCons "value" (cSlice (cVar 1) (some (cInt 1)) none) (wCons "field" (cVar 0) wNil)) [.a 1, .a 0] b_turner_by_0_value_field), 5⟩
def lamTab : List LamRow := [lam0, lam1, lam2, lam3, lam4, lam5, lam6, lam7, lam8, lam9, lam10, lam11, lam12, lam13, lam14, lam15, lam16, lam17, lam18, lam19, lam20, lam21, lam22, lam23, lam24, lam25, lam26, lam27, lam28, lam29]
def t__law_heard : CS := (sSeq (sTryM [⟨"InvalidField", [("InvalidElements", false), ("InvalidField", true), ("InvalidPoints", false), ("InvalidTable", false), ("InvalidTurner", false)], (some 1), (hRet (hLst [(hStr "field"), (hReprA [⟨0, s_Field___repr__, [.lit "Field(", .fmt "own_prime", .lit ", ", .rep "own_modulus", .lit ")"], b_Field___repr___1⟩] (hFld "InvalidField" "value")), (hIsI (.own "TurnError") [("InvalidElements", true), ("InvalidField", true), ("InvalidPoints", true), ("InvalidTable", true), ("InvalidTurner", true)])]))⟩, ⟨"InvalidTurner", [("InvalidElements", false), ("InvalidField", false), ("InvalidPoints", false), ("InvalidTable", false), ("InvalidTurner", true)], (some 1), (hRet (hLst [(hStr "turner"), (hReprA [⟨0, s_Field___repr__, [.lit "Field(", .fmt "own_prime", .lit ", ", .rep "own_modulus", .lit ")"], b_Field___repr___1⟩] (hFld "InvalidTurner" "value")), (hIsI (.own "TurnError") [("InvalidElements", true), ("InvalidField", true), ("InvalidPoints", true), ("InvalidTable", true), ("InvalidTurner", true)])]))⟩, ⟨"InvalidPoints", [("InvalidElements", false), ("InvalidField", false), ("InvalidPoints", true), ("InvalidTable", false), ("InvalidTurner", false)], (some 1), (hRet (hLst [(hStr "points"), (hReprA [⟨0, s_Field___repr__, [.lit "Field(", .fmt "own_prime", .lit ", ", .rep "own_modulus", .lit ")"], b_Field___repr___1⟩] (hFld "InvalidPoints" "value")), (hIsI (.own "TurnError") [("InvalidElements", true), ("InvalidField", true), ("InvalidPoints", true), ("InvalidTable", true), ("InvalidTurner", true)])]))⟩, ⟨"InvalidElements", [("InvalidElements", true), ("InvalidField", false), ("InvalidPoints", false), ("InvalidTable", false), ("InvalidTurner", false)], (some 1), (hRet (hLst [(hStr "worths"), (hReprA [⟨0, s_Field___repr__, [.lit "Field(", .fmt "own_prime", .lit ", ", .rep "own_modulus", .lit ")"], b_Field___repr___1⟩] (hFld "InvalidElements" "value")), (hIsI (.own "TurnError") [("InvalidElements", true), ("InvalidField", true), ("InvalidPoints", true), ("InvalidTable", true), ("InvalidTurner", true)])]))⟩, ⟨"InvalidTable", [("InvalidElements", false), ("InvalidField", false), ("InvalidPoints", false), ("InvalidTable", true), ("InvalidTurner", false)], (some 1), (hRet (hLst [(hStr "table"), (hReprA [⟨0, s_Field___repr__, [.lit "Field(", .fmt "own_prime", .lit ", ", .rep "own_modulus", .lit ")"], b_Field___repr___1⟩] (hFld "InvalidTable" "value")), (hIsI (.own "TurnError") [("InvalidElements", true), ("InvalidField", true), ("InvalidPoints", true), ("InvalidTable", true), ("InvalidTurner", true)])]))⟩] false (cCallV lamTab 0)) (sSeq (sRet (cLst (dCons (cStr "let") dNil))) sEnd))
def e__law_heard : FEv := defEv 1 2 t__law_heard.ev
theorem k__law_heard : t__law_heard.chk 8 ⟨s__law_heard.N, s__law_heard.scope.names, s__law_heard.scope.names⟩ s__law_heard.body = true := by kernel_rfl
theorem b__law_heard_1 : BindOk s__law_heard 1 [] [.a 0] := ⟨rfl, rfl, fun _ kV doc pm an cdv ct us ws h1 h2 => match us, ws, h1, h2 with | [_], [], _, _ => by kernel_rfl, fun h => absurd rfl h⟩
def z1__law_are : CE := (cCmp oEq (cCall s__law_heard e__law_heard (dCons (cVar 2) dNil) wNil [.a 0] b__law_heard_1) (cVar 1))
def t__law_are : CS := (sSeq (sRet (cBlt bAll (aCons (cLc (gNm 2) (iLst (cVar 0)) none z1__law_are [("_law_call", 2)]) aNil))) sEnd)
def e__law_are : FEv := defEv 2 3 t__law_are.ev
theorem k__law_are : t__law_are.chk 9 ⟨s__law_are.N, s__law_are.scope.names, s__law_are.scope.names⟩ s__law_are.body = true := by kernel_rfl
theorem b__law_are_2 : BindOk s__law_are 2 [] [.a 0, .a 1] := ⟨rfl, rfl, fun _ kV doc pm an cdv ct us ws h1 h2 => match us, ws, h1, h2 with | [_, _], [], _, _ => by kernel_rfl, fun h => absurd rfl h⟩
def w1__law_fields_right : CS := (sSeq (sAsg 1 true (cLams [(0, lam0), (1, lam1), (2, lam2), (3, lam3), (4, lam4), (5, lam5), (6, lam6), (7, lam7), (8, lam8)])) (sSeq (sIf (tNotT (tVal (cCallL s__law_are e__law_are [(0, lam0, [0]), (1, lam1, [0]), (2, lam2, [0]), (3, lam3, [0]), (4, lam4, [0]), (5, lam5, [0]), (6, lam6, [0]), (7, lam7, [0]), (8, lam8, [0])] (.var 1) (dCons (cLst (dCons (cStr "field") (dCons (cReprA [⟨0, s_Field___repr__, [.lit "Field(", .fmt "own_prime", .lit ", ", .rep "own_modulus", .lit ")"], b_Field___repr___1⟩] (cVar 0)) (dCons (cBl true) dNil)))) dNil) [.a 0, .a 1] b__law_are_2))) (sSeq (sRet (cBl false)) sEnd) sEnd) sEnd))
def t__law_fields_right : CS := (sSeq (sFor (gNm 0) (iLst (cLst (dCons cNon (dCons (cInt 2) (dCons (cBl true) (dCons (cStr "") (dCons (cLst dNil) (dCons (cTup (dCons (cInt 2) (dCons (cLst (dCons (cInt 1) (dCons (cInt 1) (dCons (cInt 1) dNil)))) dNil))) (dCons (cLst (dCons (cInt 2) (dCons (cLst (dCons (cInt 1) (dCons (cInt 1) (dCons (cInt 1) dNil)))) dNil))) (dCons (cLock cDnew) (dCons (cLst (dCons (cInt 1) (dCons (cInt 1) (dCons (cInt 0) (dCons (cInt 1) dNil))))) dNil))))))))))) w1__law_fields_right) (sSeq (sRet (cBl true)) sEnd))
def e__law_fields_right : FEv := defEv 0 2 t__law_fields_right.ev
theorem k__law_fields_right : t__law_fields_right.chk 10 ⟨s__law_fields_right.N, s__law_fields_right.scope.names, (("#L" : Str), .globalImplicit) :: s__law_fields_right.scope.names⟩ s__law_fields_right.body = true := by kernel_rfl
def w1__law_turners_right : CS := (sSeq (sAsg 3 true (cLams [(9, lam9), (10, lam10), (11, lam11), (12, lam12), (13, lam13), (14, lam14), (15, lam15), (16, lam16), (17, lam17)])) (sSeq (sIf (tNotT (tVal (cCallL s__law_are e__law_are [(9, lam9, [0, 2]), (10, lam10, [2, 0]), (11, lam11, [0, 2]), (12, lam12, [0, 2]), (13, lam13, [2, 0]), (14, lam14, [0, 2]), (15, lam15, [0, 2]), (16, lam16, [0, 2]), (17, lam17, [2, 0]), (18, lam18, [0, 1]), (19, lam19, [0]), (20, lam20, [0])] (.var 3) (dCons (cLst (dCons (cStr "turner") (dCons (cReprA [⟨0, s_Field___repr__, [.lit "Field(", .fmt "own_prime", .lit ", ", .rep "own_modulus", .lit ")"], b_Field___repr___1⟩] (cVar 2)) (dCons (cBl true) dNil)))) dNil) [.a 0, .a 1] b__law_are_2))) (sSeq (sRet (cBl false)) sEnd) sEnd) sEnd))
def t__law_turners_right : CS := (sSeq (sFor (gNm 2) (iLst (cLst (dCons cNon (dCons (cInt 0) (dCons (cBl true) (dCons (cStr "") (dCons (cStr "1") (dCons (cLock cDnew) (dCons (cLst (dCons (cVar 1) dNil)) (dCons (cLst (dCons (cNeg (cInt 1)) dNil)) (dCons (cLst (dCons (cInt 1) (dCons (cBl true) dNil))) (dCons (cLst (dCons (cBl false) dNil)) (dCons (cLst (dCons (cInt 1) (dCons cNon dNil))) (dCons (cLst (dCons (cLst (dCons (cInt 1) dNil)) dNil)) (dCons (cLst (dCons (cStr "1") dNil)) (dCons (cBin oMul (cLst (dCons (cInt 0) dNil)) (cInt 14)) (dCons (cVar 0) (dCons (cLst (dCons (cInt 1) (dCons (cBin oPow (cInt 10) (cInt 20)) dNil))) dNil)))))))))))))))))) w1__law_turners_right) (sSeq (sRet (cCallL s__law_are e__law_are [(9, lam9, [0, 2]), (10, lam10, [2, 0]), (11, lam11, [0, 2]), (12, lam12, [0, 2]), (13, lam13, [2, 0]), (14, lam14, [0, 2]), (15, lam15, [0, 2]), (16, lam16, [0, 2]), (17, lam17, [2, 0]), (18, lam18, [0, 1]), (19, lam19, [0]), (20, lam20, [0])] (.lst [(18, lam18), (19, lam19), (20, lam20)]) (dCons (cLst (dCons (cStr "let") dNil)) dNil) [.a 0, .a 1] b__law_are_2)) sEnd))
def e__law_turners_right : FEv := defEv 2 4 t__law_turners_right.ev
theorem k__law_turners_right : t__law_turners_right.chk 10 ⟨s__law_turners_right.N, s__law_turners_right.scope.names, (("#L" : Str), .globalImplicit) :: s__law_turners_right.scope.names⟩ s__law_turners_right.body = true := by kernel_rfl
def w1__law_units : CS := (sSeq (sAppend 1 (cVar 2)) (sSeq (sAsg 2 false (cBin oMul (cVar 2) (cIx (cVar 0) (cInt 0)))) sEnd))
def t__law_units : CS := (sSeq (sPar [1, 2] (kCons true (cLst dNil) (kCons false (cInt 1) kNil))) (sSeq (sFor (gNm 3) (iRange1 (cBin oSub (cBlt bLen (aCons (cIx (cVar 0) (cInt 1)) aNil)) (cInt 1))) w1__law_units) (sSeq (sRet (cVar 1)) sEnd)))
def e__law_units : FEv := defEv 1 4 t__law_units.ev
theorem k__law_units : t__law_units.chk 0 ⟨s__law_units.N, s__law_units.scope.names, s__law_units.scope.names⟩ s__law_units.body = true := by kernel_rfl
theorem b__law_units_1 : BindOk s__law_units 1 [] [.a 0] := ⟨rfl, rfl, fun _ kV doc pm an cdv ct us ws h1 h2 => match us, ws, h1, h2 with | [_], [], _, _ => by kernel_rfl, fun h => absurd rfl h⟩
def w1__law_points_right : CS := (sSeq (sAsg 7 true (cLams [(21, lam21), (22, lam22)])) (sSeq (sIf (tNotT (tVal (cCallL s__law_are e__law_are [(21, lam21, [1, 6]), (22, lam22, [6, 1]), (23, lam23, [1, 6, 4]), (24, lam24, [6, 1, 4]), (25, lam25, [1, 4, 3, 2]), (26, lam26, [1, 2]), (27, lam27, [1, 8]), (28, lam28, [1, 8]), (29, lam29, [1, 8])] (.var 7) (dCons (cLst (dCons (cStr "points") (dCons (cReprA [⟨0, s_Field___repr__, [.lit "Field(", .fmt "own_prime", .lit ", ", .rep "own_modulus", .lit ")"], b_Field___repr___1⟩] (cVar 6)) (dCons (cBl true) dNil)))) dNil) [.a 0, .a 1] b__law_are_2))) (sSeq (sRet (cBl false)) sEnd) sEnd) sEnd))
def w2__law_points_right : CS := (sSeq (sAsg 7 true (cLams [(23, lam23), (24, lam24)])) (sSeq (sIf (tNotT (tVal (cCallL s__law_are e__law_are [(21, lam21, [1, 6]), (22, lam22, [6, 1]), (23, lam23, [1, 6, 4]), (24, lam24, [6, 1, 4]), (25, lam25, [1, 4, 3, 2]), (26, lam26, [1, 2]), (27, lam27, [1, 8]), (28, lam28, [1, 8]), (29, lam29, [1, 8])] (.var 7) (dCons (cLst (dCons (cStr "worths") (dCons (cReprA [⟨0, s_Field___repr__, [.lit "Field(", .fmt "own_prime", .lit ", ", .rep "own_modulus", .lit ")"], b_Field___repr___1⟩] (cVar 6)) (dCons (cBl true) dNil)))) dNil) [.a 0, .a 1] b__law_are_2))) (sSeq (sRet (cBl false)) sEnd) sEnd) sEnd))
def z1__law_points_right : CE := (cBin oMul (cLst (dCons (cInt 0) dNil)) (cVar 3))
def t__law_points_right : CS := (sSeq (sAsg 4 false (cCall s__law_units e__law_units (dCons (cVar 0) dNil) wNil [.a 0] b__law_units_1)) (sSeq (sAsg 5 false (cLst (dCons cNon (dCons (cInt 1) (dCons (cBl true) (dCons (cStr "") (dCons (cStr "1") (dCons (cLock cDnew) (dCons (cLst dNil) (dCons (cTup dNil) (dCons (cLst (dCons (cInt 0) dNil)) (dCons (cLst (dCons (cInt 1) (dCons (cInt 1) dNil))) (dCons (cBin oAdd (cVar 4) (cLst (dCons (cInt 1) dNil))) (dCons (cLst (dCons (cVar 2) dNil)) (dCons (cLst (dCons (cNeg (cInt 1)) dNil)) (dCons (cLst (dCons (cBl true) dNil)) (dCons (cLst (dCons (cInt 1) (dCons cNon dNil))) (dCons (cLst (dCons (cLst (dCons (cInt 1) dNil)) dNil)) (dCons (cLst (dCons (cInt 1) (dCons (cIx (cVar 4) (cInt 1)) (dCons (cBin oAdd (cInt 1) (cIx (cVar 4) (cInt 1))) dNil)))) (dCons (cLst (dCons (cInt 1) (dCons (cInt 0) dNil))) dNil)))))))))))))))))))) (sSeq (sFor (gNm 6) (iLst (cBin oAdd (cVar 5) (cLst (dCons (cBin oAdd (cVar 4) (cLst (dCons (cInt 0) dNil))) (dCons (cLst (dCons (cInt 1) (dCons (cIte (tCmp oGt (cIx (cVar 0) (cInt 0)) (cInt 2)) (cBin oSub (cIx (cVar 0) (cInt 0)) (cInt 1)) (cInt 1)) dNil))) (dCons (cLst (dCons (cIx (cVar 4) (cInt 1)) (dCons (cBin oPow (cInt 10) (cInt 20)) dNil))) dNil)))))) w1__law_points_right) (sSeq (sFor (gNm 6) (iLst (cLst (dCons cNon (dCons (cInt 1) (dCons (cBl true) (dCons (cStr "") (dCons (cStr "12") (dCons (cLock cDnew) (dCons (cLst dNil) (dCons (cLst (dCons (cInt 1) dNil)) (dCons (cLst (dCons (cInt 1) (dCons (cInt 2) (dCons (cInt 3) dNil)))) (dCons (cLst (dCons (cInt 1) (dCons (cVar 2) dNil))) (dCons (cLst (dCons (cInt 1) (dCons (cNeg (cInt 1)) dNil))) (dCons (cLst (dCons (cBl true) (dCons (cInt 1) dNil))) (dCons (cLst (dCons (cInt 1) (dCons cNon dNil))) (dCons (cLst (dCons (cLst (dCons (cInt 1) dNil)) (dCons (cInt 1) dNil))) (dCons (cTup (dCons (cInt 1) (dCons (cStr "1") dNil))) (dCons (cBin oMul (cLst (dCons (cInt 0) dNil)) (cInt 13)) dNil)))))))))))))))))) w2__law_points_right) (sSeq (sAsg 8 false (cLc (gNm 9) (iRange1 (cVar 3)) none z1__law_points_right [("_law_row", 9)])) (sSeq (sIf (tNotT (tVal (cCallL s__law_are e__law_are [(21, lam21, [1, 6]), (22, lam22, [6, 1]), (23, lam23, [1, 6, 4]), (24, lam24, [6, 1, 4]), (25, lam25, [1, 4, 3, 2]), (26, lam26, [1, 2]), (27, lam27, [1, 8]), (28, lam28, [1, 8]), (29, lam29, [1, 8])] (.lst [(28, lam28), (29, lam29)]) (dCons (cLst (dCons (cStr "table") (dCons (cReprA [⟨0, s_Field___repr__, [.lit "Field(", .fmt "own_prime", .lit ", ", .rep "own_modulus", .lit ")"], b_Field___repr___1⟩] (cSlice (cVar 8) (some (cInt 1)) none)) (dCons (cBl true) dNil)))) dNil) [.a 0, .a 1] b__law_are_2))) (sSeq (sRet (cBl false)) sEnd) sEnd) (sSeq (sRet (cCallL s__law_are e__law_are [(21, lam21, [1, 6]), (22, lam22, [6, 1]), (23, lam23, [1, 6, 4]), (24, lam24, [6, 1, 4]), (25, lam25, [1, 4, 3, 2]), (26, lam26, [1, 2]), (27, lam27, [1, 8]), (28, lam28, [1, 8]), (29, lam29, [1, 8])] (.lst [(25, lam25), (26, lam26), (27, lam27)]) (dCons (cLst (dCons (cStr "let") dNil)) dNil) [.a 0, .a 1] b__law_are_2)) sEnd)))))))
def e__law_points_right : FEv := defEv 4 10 t__law_points_right.ev
theorem k__law_points_right : t__law_points_right.chk 10 ⟨s__law_points_right.N, s__law_points_right.scope.names, (("#L" : Str), .globalImplicit) :: s__law_points_right.scope.names⟩ s__law_points_right.body = true := by kernel_rfl
theorem b__law_pot_2 : BindOk s__law_pot 2 [] [.a 0, .a 1] := ⟨rfl, rfl, fun _ kV doc pm an cdv ct us ws h1 h2 => match us, ws, h1, h2 with | [_, _], [], _, _ => by kernel_rfl, fun h => absurd rfl h⟩
theorem b__law_kinds_0 : BindOk s__law_kinds 0 [] [] := ⟨rfl, rfl, fun _ kV doc pm an cdv ct us ws h1 h2 => match us, ws, h1, h2 with | [], [], _, _ => by kernel_rfl, fun h => absurd rfl h⟩
theorem b__law_pick_2 : BindOk s__law_pick 2 [] [.a 0, .a 1] := ⟨rfl, rfl, fun _ kV doc pm an cdv ct us ws h1 h2 => match us, ws, h1, h2 with | [_, _], [], _, _ => by kernel_rfl, fun h => absurd rfl h⟩
theorem b_Field___init___3 : BindOk s_Field___init__ 3 [] [.a 0, .a 1, .a 2] := ⟨rfl, rfl, fun _ kV doc pm an cdv ct us ws h1 h2 => match us, ws, h1, h2 with | [_, _, _], [], _, _ => by kernel_rfl, fun h => absurd rfl h⟩
theorem b__law_size_1 : BindOk s__law_size 1 [] [.a 0] := ⟨rfl, rfl, fun _ kV doc pm an cdv ct us ws h1 h2 => match us, ws, h1, h2 with | [_], [], _, _ => by kernel_rfl, fun h => absurd rfl h⟩
theorem b__law_fields_right_0 : BindOk s__law_fields_right 0 [] [] := ⟨rfl, rfl, fun _ kV doc pm an cdv ct us ws h1 h2 => match us, ws, h1, h2 with | [], [], _, _ => by kernel_rfl, fun h => absurd rfl h⟩
theorem b__law_turners_right_2 : BindOk s__law_turners_right 2 [] [.a 0, .a 1] := ⟨rfl, rfl, fun _ kV doc pm an cdv ct us ws h1 h2 => match us, ws, h1, h2 with | [_, _], [], _, _ => by kernel_rfl, fun h => absurd rfl h⟩
theorem b__law_points_right_4 : BindOk s__law_points_right 4 [] [.a 0, .a 1, .a 2, .a 3] := ⟨rfl, rfl, fun _ kV doc pm an cdv ct us ws h1 h2 => match us, ws, h1, h2 with | [_, _, _, _], [], _, _ => by kernel_rfl, fun h => absurd rfl h⟩
def t_law : CS := (sSeq (sAsg 1 false (cCall s__law_pick e__law_pick (dCons (cCell (cCall s__law_pot e__law_pot (dCons (cVar 0) (dCons (cInt 0) dNil)) wNil [.a 0, .a 1] b__law_pot_2)) (dCons (cCallK s__law_kinds e__law_kinds wNil [] b__law_kinds_0) dNil)) wNil [.a 0, .a 1] b__law_pick_2)) (sSeq (sPar [2, 3] (kCons false (cMake 0 s_Field___init__ e_Field___init__ (dCons (cIx (cVar 1) (cInt 0)) (dCons (cIx (cVar 1) (cInt 1)) dNil)) wNil [.a 0, .a 1] b_Field___init___3) (kCons false (cCall s__law_size e__law_size (dCons (cVar 1) dNil) wNil [.a 0] b__law_size_1) kNil))) (sSeq (sRet (cAnd [(cCallK s__law_fields_right e__law_fields_right wNil [] b__law_fields_right_0), (cCall s__law_turners_right e__law_turners_right (dCons (cVar 2) (dCons (cVar 3) dNil)) wNil [.a 0, .a 1] b__law_turners_right_2), (cCall s__law_points_right e__law_points_right (dCons (cVar 1) (dCons (cVar 2) (dCons (cVar 3) (dCons (cBin oSub (cBlt bLen (aCons (cIx (cVar 1) (cInt 1)) aNil)) (cInt 1)) dNil)))) wNil [.a 0, .a 1, .a 2, .a 3] b__law_points_right_4)])) sEnd)))
def e_law : FEv := defEv 1 4 t_law.ev
theorem k_law : t_law.chk 11 ⟨s_law.N, s_law.scope.names, s_law.scope.names⟩ s_law.body = true := by kernel_rfl
end Lw
end
section
set_option Elab.async false
set_option linter.all false
set_option maxRecDepth 100000
set_option maxHeartbeats 0
namespace Lw
open PySem PySem.Spec PyProof.Rows L2 Tp
section
variable {Γ : Gam}
theorem lt_0 (L : Γ.lt = lamTab.map LamRow.L) : Γ.lt[0]? = some lam0.L := by rw [L]; rfl
theorem lt_1 (L : Γ.lt = lamTab.map LamRow.L) : Γ.lt[1]? = some lam1.L := by rw [L]; rfl
theorem lt_2 (L : Γ.lt = lamTab.map LamRow.L) : Γ.lt[2]? = some lam2.L := by rw [L]; rfl
theorem lt_3 (L : Γ.lt = lamTab.map LamRow.L) : Γ.lt[3]? = some lam3.L := by rw [L]; rfl
theorem lt_4 (L : Γ.lt = lamTab.map LamRow.L) : Γ.lt[4]? = some lam4.L := by rw [L]; rfl
theorem lt_5 (L : Γ.lt = lamTab.map LamRow.L) : Γ.lt[5]? = some lam5.L := by rw [L]; rfl
theorem lt_6 (L : Γ.lt = lamTab.map LamRow.L) : Γ.lt[6]? = some lam6.L := by rw [L]; rfl
theorem lt_7 (L : Γ.lt = lamTab.map LamRow.L) : Γ.lt[7]? = some lam7.L := by rw [L]; rfl
theorem lt_8 (L : Γ.lt = lamTab.map LamRow.L) : Γ.lt[8]? = some lam8.L := by rw [L]; rfl
theorem lt_9 (L : Γ.lt = lamTab.map LamRow.L) : Γ.lt[9]? = some lam9.L := by rw [L]; rfl
theorem lt_10 (L : Γ.lt = lamTab.map LamRow.L) : Γ.lt[10]? = some lam10.L := by rw [L]; rfl
theorem lt_11 (L : Γ.lt = lamTab.map LamRow.L) : Γ.lt[11]? = some lam11.L := by rw [L]; rfl
theorem lt_12 (L : Γ.lt = lamTab.map LamRow.L) : Γ.lt[12]? = some lam12.L := by rw [L]; rfl
theorem lt_13 (L : Γ.lt = lamTab.map LamRow.L) : Γ.lt[13]? = some lam13.L := by rw [L]; rfl
theorem lt_14 (L : Γ.lt = lamTab.map LamRow.L) : Γ.lt[14]? = some lam14.L := by rw [L]; rfl
theorem lt_15 (L : Γ.lt = lamTab.map LamRow.L) : Γ.lt[15]? = some lam15.L := by rw [L]; rfl
theorem lt_16 (L : Γ.lt = lamTab.map LamRow.L) : Γ.lt[16]? = some lam16.L := by rw [L]; rfl
theorem lt_17 (L : Γ.lt = lamTab.map LamRow.L) : Γ.lt[17]? = some lam17.L := by rw [L]; rfl
theorem lt_18 (L : Γ.lt = lamTab.map LamRow.L) : Γ.lt[18]? = some lam18.L := by rw [L]; rfl
theorem lt_19 (L : Γ.lt = lamTab.map LamRow.L) : Γ.lt[19]? = some lam19.L := by rw [L]; rfl
theorem lt_20 (L : Γ.lt = lamTab.map LamRow.L) : Γ.lt[20]? = some lam20.L := by rw [L]; rfl
theorem lt_21 (L : Γ.lt = lamTab.map LamRow.L) : Γ.lt[21]? = some lam21.L := by rw [L]; rfl
theorem lt_22 (L : Γ.lt = lamTab.map LamRow.L) : Γ.lt[22]? = some lam22.L := by rw [L]; rfl
theorem lt_23 (L : Γ.lt = lamTab.map LamRow.L) : Γ.lt[23]? = some lam23.L := by rw [L]; rfl
theorem lt_24 (L : Γ.lt = lamTab.map LamRow.L) : Γ.lt[24]? = some lam24.L := by rw [L]; rfl
theorem lt_25 (L : Γ.lt = lamTab.map LamRow.L) : Γ.lt[25]? = some lam25.L := by rw [L]; rfl
theorem lt_26 (L : Γ.lt = lamTab.map LamRow.L) : Γ.lt[26]? = some lam26.L := by rw [L]; rfl
theorem lt_27 (L : Γ.lt = lamTab.map LamRow.L) : Γ.lt[27]? = some lam27.L := by rw [L]; rfl
theorem lt_28 (L : Γ.lt = lamTab.map LamRow.L) : Γ.lt[28]? = some lam28.L := by rw [L]; rfl
theorem lt_29 (L : Γ.lt = lamTab.map LamRow.L) : Γ.lt[29]? = some lam29.L := by rw [L]; rfl
theorem x0 (S : Hdp Γ fa fn gs ex) : (clsB Γ.K 0) = true := (b2 (b2 (b2 (b2 (b2 (b2 (b2 (b2 (b2 (b2 (b2 (b2 (b2 (b2 (b2 (b2 (b2 (b2 (b2 (b2 (b2 (b2 (b2 (b2 (b2 (b2 (b2 (b2 S.hd.more).1).1).1).1).1).1).1).1).1).1).1).1).1).1).1).1).1).1).1).1).1).1).1).1).1).1).1).1
theorem x1 (S : Hdp Γ fa fn gs ex) : (isiB Γ.K [0] (.o 0)) = true := (b2 (b2 (b2 (b2 (b2 (b2 (b2 (b2 (b2 (b2 (b2 (b2 (b2 (b2 (b2 (b2 (b2 (b2 (b2 (b2 (b2 (b2 (b2 (b2 (b2 (b2 (b2 (b2 S.hd.more).1).1).1).1).1).1).1).1).1).1).1).1).1).1).1).1).1).1).1).1).1).1).1).1).1).1).1).2
theorem x2 (S : Hdp Γ fa fn gs ex) : (xiB Γ.K "InvalidField" "value") = true := (b2 (b2 (b2 (b2 (b2 (b2 (b2 (b2 (b2 (b2 (b2 (b2 (b2 (b2 (b2 (b2 (b2 (b2 (b2 (b2 (b2 (b2 (b2 (b2 (b2 (b2 (b2 S.hd.more).1).1).1).1).1).1).1).1).1).1).1).1).1).1).1).1).1).1).1).1).1).1).1).1).1).1).2
theorem x3 (S : Hdp Γ fa fn gs ex) : (isiB Γ.K [0] (.b "list")) = true := (b2 (b2 (b2 (b2 (b2 (b2 (b2 (b2 (b2 (b2 (b2 (b2 (b2 (b2 (b2 (b2 (b2 (b2 (b2 (b2 (b2 (b2 (b2 (b2 (b2 (b2 S.hd.more).1).1).1).1).1).1).1).1).1).1).1).1).1).1).1).1).1).1).1).1).1).1).1).1).1).2
theorem x4 (S : Hdp Γ fa fn gs ex) : (isiB Γ.K [0] (.b "tuple")) = true := (b2 (b2 (b2 (b2 (b2 (b2 (b2 (b2 (b2 (b2 (b2 (b2 (b2 (b2 (b2 (b2 (b2 (b2 (b2 (b2 (b2 (b2 (b2 (b2 (b2 S.hd.more).1).1).1).1).1).1).1).1).1).1).1).1).1).1).1).1).1).1).1).1).1).1).1).1).2
theorem x5 (S : Hdp Γ fa fn gs ex) : (isiB Γ.K [0] (.b "int")) = true := (b2 (b2 (b2 (b2 (b2 (b2 (b2 (b2 (b2 (b2 (b2 (b2 (b2 (b2 (b2 (b2 (b2 (b2 (b2 (b2 (b2 (b2 (b2 (b2 S.hd.more).1).1).1).1).1).1).1).1).1).1).1).1).1).1).1).1).1).1).1).1).1).1).1).2
theorem x6 (S : Hdp Γ fa fn gs ex) : (isiB Γ.K [0] (.b "bool")) = true := (b2 (b2 (b2 (b2 (b2 (b2 (b2 (b2 (b2 (b2 (b2 (b2 (b2 (b2 (b2 (b2 (b2 (b2 (b2 (b2 (b2 (b2 (b2 S.hd.more).1).1).1).1).1).1).1).1).1).1).1).1).1).1).1).1).1).1).1).1).1).1).2
theorem x7 (S : Hdp Γ fa fn gs ex) : (xiB Γ.K "InvalidPoints" "value") = true := (b2 (b2 (b2 (b2 (b2 (b2 (b2 (b2 (b2 (b2 (b2 (b2 (b2 (b2 (b2 (b2 (b2 (b2 (b2 (b2 (b2 (b2 S.hd.more).1).1).1).1).1).1).1).1).1).1).1).1).1).1).1).1).1).1).1).1).1).2
theorem x8 (S : Hdp Γ fa fn gs ex) : (xiB Γ.K "InvalidElements" "value") = true := (b2 (b2 (b2 (b2 (b2 (b2 (b2 (b2 (b2 (b2 (b2 (b2 (b2 (b2 (b2 (b2 (b2 (b2 (b2 (b2 (b2 S.hd.more).1).1).1).1).1).1).1).1).1).1).1).1).1).1).1).1).1).1).1).1).2
theorem x9 (S : Hdp Γ fa fn gs ex) : (xiB Γ.K "InvalidTurner" "value") = true := (b2 (b2 (b2 (b2 (b2 (b2 (b2 (b2 (b2 (b2 (b2 (b2 (b2 (b2 (b2 (b2 (b2 (b2 (b2 (b2 S.hd.more).1).1).1).1).1).1).1).1).1).1).1).1).1).1).1).1).1).1).1).2
theorem x10 (S : Hdp Γ fa fn gs ex) : (xiB Γ.K "InvalidTable" "value") = true := (b2 (b2 (b2 (b2 (b2 (b2 (b2 (b2 (b2 (b2 (b2 (b2 (b2 (b2 (b2 (b2 (b2 (b2 (b2 S.hd.more).1).1).1).1).1).1).1).1).1).1).1).1).1).1).1).1).1).1).2
theorem x11 (S : Hdp Γ fa fn gs ex) : (He.tupB Γ.K "PRIMES" (([.int 2, .int 3, .int 5, .int 7] : List D).map dvOf)) = true := (b2 (b2 (b2 (b2 (b2 (b2 (b2 (b2 (b2 (b2 (b2 (b2 (b2 (b2 (b2 (b2 (b2 (b2 S.hd.more).1).1).1).1).1).1).1).1).1).1).1).1).1).1).1).1).1).2
theorem x12 (S : Hdp Γ fa fn gs ex) : (xfvB Γ.K "InvalidField" "value") = true := (b2 (b2 (b2 (b2 (b2 (b2 (b2 (b2 (b2 (b2 (b2 (b2 (b2 (b2 (b2 (b2 (b2 S.hd.more).1).1).1).1).1).1).1).1).1).1).1).1).1).1).1).1).2
theorem x13 (S : Hdp Γ fa fn gs ex) : (reprB Γ.K (cdT 0).1) = true := (b2 (b2 (b2 (b2 (b2 (b2 (b2 (b2 (b2 (b2 (b2 (b2 (b2 (b2 (b2 (b2 S.hd.more).1).1).1).1).1).1).1).1).1).1).1).1).1).1).1).2
theorem x14 (S : Hdp Γ fa fn gs ex) : (isXT Γ.K (.own "TurnError") [("InvalidElements", true), ("InvalidField", true), ("InvalidPoints", true), ("InvalidTable", true), ("InvalidTurner", true)]) = true := (b2 (b2 (b2 (b2 (b2 (b2 (b2 (b2 (b2 (b2 (b2 (b2 (b2 (b2 (b2 S.hd.more).1).1).1).1).1).1).1).1).1).1).1).1).1).1).2
theorem x15 (S : Hdp Γ fa fn gs ex) : (tryB Γ.K "InvalidField" [("InvalidElements", false), ("InvalidField", true), ("InvalidPoints", false), ("InvalidTable", false), ("InvalidTurner", false)]) = true := (b2 (b2 (b2 (b2 (b2 (b2 (b2 (b2 (b2 (b2 (b2 (b2 (b2 (b2 S.hd.more).1).1).1).1).1).1).1).1).1).1).1).1).1).2
theorem x16 (S : Hdp Γ fa fn gs ex) : (xfvB Γ.K "InvalidTurner" "value") = true := (b2 (b2 (b2 (b2 (b2 (b2 (b2 (b2 (b2 (b2 (b2 (b2 (b2 S.hd.more).1).1).1).1).1).1).1).1).1).1).1).1).2
theorem x17 (S : Hdp Γ fa fn gs ex) : (tryB Γ.K "InvalidTurner" [("InvalidElements", false), ("InvalidField", false), ("InvalidPoints", false), ("InvalidTable", false), ("InvalidTurner", true)]) = true := (b2 (b2 (b2 (b2 (b2 (b2 (b2 (b2 (b2 (b2 (b2 (b2 S.hd.more).1).1).1).1).1).1).1).1).1).1).1).2
theorem x18 (S : Hdp Γ fa fn gs ex) : (xfvB Γ.K "InvalidPoints" "value") = true := (b2 (b2 (b2 (b2 (b2 (b2 (b2 (b2 (b2 (b2 (b2 S.hd.more).1).1).1).1).1).1).1).1).1).1).2
theorem x19 (S : Hdp Γ fa fn gs ex) : (tryB Γ.K "InvalidPoints" [("InvalidElements", false), ("InvalidField", false), ("InvalidPoints", true), ("InvalidTable", false), ("InvalidTurner", false)]) = true := (b2 (b2 (b2 (b2 (b2 (b2 (b2 (b2 (b2 (b2 S.hd.more).1).1).1).1).1).1).1).1).1).2
theorem x20 (S : Hdp Γ fa fn gs ex) : (xfvB Γ.K "InvalidElements" "value") = true := (b2 (b2 (b2 (b2 (b2 (b2 (b2 (b2 (b2 S.hd.more).1).1).1).1).1).1).1).1).2
theorem x21 (S : Hdp Γ fa fn gs ex) : (tryB Γ.K "InvalidElements" [("InvalidElements", true), ("InvalidField", false), ("InvalidPoints", false), ("InvalidTable", false), ("InvalidTurner", false)]) = true := (b2 (b2 (b2 (b2 (b2 (b2 (b2 (b2 S.hd.more).1).1).1).1).1).1).1).2
theorem x22 (S : Hdp Γ fa fn gs ex) : (xfvB Γ.K "InvalidTable" "value") = true := (b2 (b2 (b2 (b2 (b2 (b2 (b2 S.hd.more).1).1).1).1).1).1).2
theorem x23 (S : Hdp Γ fa fn gs ex) : (tryB Γ.K "InvalidTable" [("InvalidElements", false), ("InvalidField", false), ("InvalidPoints", false), ("InvalidTable", true), ("InvalidTurner", false)]) = true := (b2 (b2 (b2 (b2 (b2 (b2 S.hd.more).1).1).1).1).1).2
theorem x24 (S : Hdp Γ fa fn gs ex) : (mkB Γ.K "_law_fields_right") = true := (b2 (b2 (b2 (b2 (b2 S.hd.more).1).1).1).1).2
theorem x25 (S : Hdp Γ fa fn gs ex) : (mkB Γ.K "_law_turners_right") = true := (b2 (b2 (b2 (b2 S.hd.more).1).1).1).2
theorem x26 (S : Hdp Γ fa fn gs ex) : (mkB Γ.K "_law_points_right") = true := (b2 (b2 (b2 S.hd.more).1).1).2
theorem x27 (S : Hdp Γ fa fn gs ex) : (decide ((mkL.map fun m => tabP Γ.K m.1).Nodup)) = true := (b2 (b2 S.hd.more).1).2
theorem cf0 (S : Hdp Γ fa fn gs ex) : ClsFull Γ 0 := S.hd.cls 0 1 0 (by kernel_rfl) (by kernel_rfl) (x0 S)
abbrev fd_InvalidField___init__ : He.DefD := ⟨("InvalidField", some "__init__"), "__init__", "InvalidField.__init__", defArgs (mth 4 0), defBody (mth 4 0), defScope (mth 4 0), [], []⟩
theorem xi_InvalidField (S : Hdp Γ fa fn gs ex) : XInit Γ "InvalidField" "value" s_InvalidField___init__ := ⟨(S.hd.glo 84 "InvalidField" (by kernel_rfl)), xiB_ok (x2 S), by kernel_rfl, S.hd.fnAt 76 s_InvalidField___init__ (d := fd_InvalidField___init__) (by kernel_rfl) rfl rfl rfl rfl rfl rfl rfl, b_InvalidField___init___2, by rw [S.hd.xf]; decide⟩
abbrev fd_InvalidPoints___init__ : He.DefD := ⟨("InvalidPoints", some "__init__"), "__init__", "InvalidPoints.__init__", defArgs (mth 7 0), defBody (mth 7 0), defScope (mth 7 0), [], []⟩
theorem xi_InvalidPoints (S : Hdp Γ fa fn gs ex) : XInit Γ "InvalidPoints" "value" s_InvalidPoints___init__ := ⟨(S.hd.glo 86 "InvalidPoints" (by kernel_rfl)), xiB_ok (x7 S), by kernel_rfl, S.hd.fnAt 77 s_InvalidPoints___init__ (d := fd_InvalidPoints___init__) (by kernel_rfl) rfl rfl rfl rfl rfl rfl rfl, b_InvalidPoints___init___2, by rw [S.hd.xf]; decide⟩
abbrev fd_InvalidElements___init__ : He.DefD := ⟨("InvalidElements", some "__init__"), "__init__", "InvalidElements.__init__", defArgs (mth 3 0), defBody (mth 3 0), defScope (mth 3 0), [], []⟩
theorem xi_InvalidElements (S : Hdp Γ fa fn gs ex) : XInit Γ "InvalidElements" "value" s_InvalidElements___init__ := ⟨(S.hd.glo 87 "InvalidElements" (by kernel_rfl)), xiB_ok (x8 S), by kernel_rfl, S.hd.fnAt 78 s_InvalidElements___init__ (d := fd_InvalidElements___init__) (by kernel_rfl) rfl rfl rfl rfl rfl rfl rfl, b_InvalidElements___init___2, by rw [S.hd.xf]; decide⟩
abbrev fd_InvalidTurner___init__ : He.DefD := ⟨("InvalidTurner", some "__init__"), "__init__", "InvalidTurner.__init__", defArgs (mth 5 0), defBody (mth 5 0), defScope (mth 5 0), [], []⟩
theorem xi_InvalidTurner (S : Hdp Γ fa fn gs ex) : XInit Γ "InvalidTurner" "value" s_InvalidTurner___init__ := ⟨(S.hd.glo 85 "InvalidTurner" (by kernel_rfl)), xiB_ok (x9 S), by kernel_rfl, S.hd.fnAt 79 s_InvalidTurner___init__ (d := fd_InvalidTurner___init__) (by kernel_rfl) rfl rfl rfl rfl rfl rfl rfl, b_InvalidTurner___init___2, by rw [S.hd.xf]; decide⟩
abbrev fd_InvalidTable___init__ : He.DefD := ⟨("InvalidTable", some "__init__"), "__init__", "InvalidTable.__init__", defArgs (mth 9 0), defBody (mth 9 0), defScope (mth 9 0), [], []⟩
theorem xi_InvalidTable (S : Hdp Γ fa fn gs ex) : XInit Γ "InvalidTable" "value" s_InvalidTable___init__ := ⟨(S.hd.glo 88 "InvalidTable" (by kernel_rfl)), xiB_ok (x10 S), by kernel_rfl, S.hd.fnAt 80 s_InvalidTable___init__ (d := fd_InvalidTable___init__) (by kernel_rfl) rfl rfl rfl rfl rfl rfl rfl, b_InvalidTable___init___2, by rw [S.hd.xf]; decide⟩
abbrev fd_want_field : He.DefD := ⟨("want_field", none), "want_field", "want_field", defArgs (top 39), defBody (top 39), defScope (top 39), [], []⟩
theorem n_want_field (S : Hdp Γ fa fn gs ex) : t_want_field.need Γ := (And.intro (And.intro (And.intro (S.hd.free 2 "isinstance" (by kernel_rfl)) (And.intro (fun c h => by rw [List.mem_singleton.mp h]; exact (cf0 S)) (And.intro (cf0 S) (And.intro (isi_of (x1 S)) trivial)))) (And.intro (And.intro (And.intro (xi_InvalidField S) trivial) trivial) trivial)) (And.intro trivial trivial))
theorem f_want_field (S : Hdp Γ fa fn gs ex) : FnIs Γ s_want_field e_want_field (He.fAd Γ.K ("want_field", none)) := FnIs.of rfl (by kernel_rfl) (S.hd.fnAt 0 s_want_field (d := fd_want_field) (by kernel_rfl) rfl rfl rfl rfl rfl rfl rfl) t_want_field (n_want_field S) k_want_field
abbrev fd_undone_by : He.DefD := ⟨("undone_by", none), "undone_by", "undone_by", defArgs (top 22), defBody (top 22), defScope (top 22), [], []⟩
theorem n_undone_by (S : Hdp Γ fa fn gs ex) : t_undone_by.need Γ := (And.intro (And.intro (And.intro trivial (And.intro (And.intro (S.hd.free 3 "range" (by kernel_rfl)) (And.intro trivial trivial)) (And.intro (And.intro (And.intro (And.intro trivial trivial) trivial) trivial) trivial))) trivial) trivial)
theorem f_undone_by (S : Hdp Γ fa fn gs ex) : FnIs Γ s_undone_by e_undone_by (He.fAd Γ.K ("undone_by", none)) := FnIs.of rfl (by kernel_rfl) (S.hd.fnAt 1 s_undone_by (d := fd_undone_by) (by kernel_rfl) rfl rfl rfl rfl rfl rfl rfl) t_undone_by (n_undone_by S) k_undone_by
abbrev fd_less_row : He.DefD := ⟨("less_row", none), "less_row", "less_row", defArgs (top 49), defBody (top 49), defScope (top 49), [], []⟩
theorem n_less_row (S : Hdp Γ fa fn gs ex) : t_less_row.need Γ := (And.intro (And.intro trivial trivial) (And.intro (And.intro (And.intro trivial (And.intro trivial trivial)) (And.intro (And.intro (S.hd.free 4 "zip" (by kernel_rfl)) (And.intro trivial trivial)) (And.intro trivial (And.intro (And.intro trivial (And.intro trivial trivial)) trivial)))) trivial))
theorem f_less_row (S : Hdp Γ fa fn gs ex) : FnIs Γ s_less_row e_less_row (He.fAd Γ.K ("less_row", none)) := FnIs.of rfl (by kernel_rfl) (S.hd.fnAt 2 s_less_row (d := fd_less_row) (by kernel_rfl) rfl rfl rfl rfl rfl rfl rfl) t_less_row (n_less_row S) k_less_row
abbrev fd_figure_steps : He.DefD := ⟨("figure_steps", none), "figure_steps", "figure_steps", defArgs (top 50), defBody (top 50), defScope (top 50), [], []⟩
theorem n_figure_steps (S : Hdp Γ fa fn gs ex) : t_figure_steps.need Γ := (And.intro (And.intro (And.intro trivial (And.intro trivial (And.intro trivial (And.intro trivial (And.intro (S.hd.free 5 "list" (by kernel_rfl)) (And.intro trivial trivial)))))) (And.intro trivial trivial)) (And.intro (And.intro trivial (And.intro (And.intro (S.hd.free 3 "range" (by kernel_rfl)) (And.intro (And.intro (And.intro trivial (And.intro (S.hd.free 6 "len" (by kernel_rfl)) (And.intro trivial trivial))) trivial) (And.intro (And.intro trivial (And.intro (S.hd.free 6 "len" (by kernel_rfl)) (And.intro (And.intro trivial trivial) trivial))) trivial))) (And.intro (And.intro (And.intro trivial (And.intro trivial trivial)) (And.intro (And.intro (S.hd.free 7 "enumerate" (by kernel_rfl)) trivial) (And.intro (And.intro (And.intro trivial trivial) trivial) trivial))) (And.intro (And.intro (And.intro (And.intro trivial (And.intro (S.hd.free 6 "len" (by kernel_rfl)) (And.intro trivial trivial))) trivial) (And.intro (And.intro (And.intro trivial trivial) (And.intro (And.intro (Exists.intro _ (And.intro (S.hd.glo 8 "undone_by" (by kernel_rfl)) (f_undone_by S))) (And.intro (And.intro trivial (And.intro (And.intro trivial trivial) trivial)) trivial)) (And.intro (And.intro trivial (And.intro trivial (And.intro trivial (And.intro (And.intro trivial trivial) trivial)))) (And.intro (And.intro trivial (And.intro trivial (And.intro trivial (And.intro (Exists.intro _ (And.intro (S.hd.glo 9 "less_row" (by kernel_rfl)) (f_less_row S))) (And.intro (And.intro trivial (And.intro trivial (And.intro trivial (And.intro trivial trivial)))) trivial))))) (And.intro (And.intro (And.intro trivial (And.intro trivial (And.intro trivial (And.intro (Exists.intro _ (And.intro (S.hd.glo 9 "less_row" (by kernel_rfl)) (f_less_row S))) (And.intro (And.intro trivial (And.intro trivial (And.intro trivial (And.intro trivial trivial)))) trivial))))) (And.intro trivial trivial)) trivial))))) trivial)) trivial)))) (And.intro trivial trivial)))
theorem f_figure_steps (S : Hdp Γ fa fn gs ex) : FnIs Γ s_figure_steps e_figure_steps (He.fAd Γ.K ("figure_steps", none)) := FnIs.of rfl (by kernel_rfl) (S.hd.fnAt 3 s_figure_steps (d := fd_figure_steps) (by kernel_rfl) rfl rfl rfl rfl rfl rfl rfl) t_figure_steps (n_figure_steps S) k_figure_steps
abbrev fd_rows_rank : He.DefD := ⟨("rows_rank", none), "rows_rank", "rows_rank", defArgs (top 51), defBody (top 51), defScope (top 51), [], []⟩
theorem n_rows_rank (S : Hdp Γ fa fn gs ex) : t_rows_rank.need Γ := (And.intro (And.intro trivial (And.intro (S.hd.free 6 "len" (by kernel_rfl)) (And.intro (And.intro (Exists.intro _ (And.intro (S.hd.glo 10 "figure_steps" (by kernel_rfl)) (f_figure_steps S))) (And.intro (And.intro trivial (And.intro trivial trivial)) trivial)) trivial))) trivial)
theorem f_rows_rank (S : Hdp Γ fa fn gs ex) : FnIs Γ s_rows_rank e_rows_rank (He.fAd Γ.K ("rows_rank", none)) := FnIs.of rfl (by kernel_rfl) (S.hd.fnAt 4 s_rows_rank (d := fd_rows_rank) (by kernel_rfl) rfl rfl rfl rfl rfl rfl rfl) t_rows_rank (n_rows_rank S) k_rows_rank
abbrev fd_figures_of : He.DefD := ⟨("figures_of", none), "figures_of", "figures_of", defArgs (top 41), defBody (top 41), defScope (top 41), [], []⟩
theorem n_figures_of (S : Hdp Γ fa fn gs ex) : t_figures_of.need Γ := (And.intro (And.intro trivial (And.intro trivial trivial)) (And.intro (And.intro trivial (And.intro (And.intro (S.hd.free 3 "range" (by kernel_rfl)) (And.intro (fun c h => by rw [List.mem_singleton.mp h]; exact (cf0 S)) trivial)) (And.intro (And.intro trivial (And.intro (fun c h => by rw [List.mem_singleton.mp h]; exact (cf0 S)) trivial)) (And.intro (And.intro trivial (And.intro (fun c h => by rw [List.mem_singleton.mp h]; exact (cf0 S)) trivial)) trivial)))) (And.intro trivial trivial)))
theorem f_figures_of (S : Hdp Γ fa fn gs ex) : FnIs Γ s_figures_of e_figures_of (He.fAd Γ.K ("figures_of", none)) := FnIs.of rfl (by kernel_rfl) (S.hd.fnAt 5 s_figures_of (d := fd_figures_of) (by kernel_rfl) rfl rfl rfl rfl rfl rfl rfl) t_figures_of (n_figures_of S) k_figures_of
abbrev fd_rank_of : He.DefD := ⟨("rank_of", none), "rank_of", "rank_of", defArgs (top 52), defBody (top 52), defScope (top 52), [], []⟩
theorem n_rank_of (S : Hdp Γ fa fn gs ex) : t_rank_of.need Γ := (And.intro (And.intro (Exists.intro _ (And.intro (S.hd.glo 11 "rows_rank" (by kernel_rfl)) (f_rows_rank S))) (And.intro (And.intro (And.intro (fun c h => by rw [List.mem_singleton.mp h]; exact (cf0 S)) trivial) (And.intro (And.intro trivial (And.intro trivial (And.intro trivial (And.intro (Exists.intro _ (And.intro (S.hd.glo 12 "figures_of" (by kernel_rfl)) (f_figures_of S))) (And.intro (And.intro trivial (And.intro trivial trivial)) trivial))))) trivial)) trivial)) trivial)
theorem f_rank_of (S : Hdp Γ fa fn gs ex) : FnIs Γ s_rank_of e_rank_of (He.fAd Γ.K ("rank_of", none)) := FnIs.of rfl (by kernel_rfl) (S.hd.fnAt 6 s_rank_of (d := fd_rank_of) (by kernel_rfl) rfl rfl rfl rfl rfl rfl rfl) t_rank_of (n_rank_of S) k_rank_of
abbrev fd_is_list : He.DefD := ⟨("is_list", none), "is_list", "is_list", defArgs (top 14), defBody (top 14), defScope (top 14), [], []⟩
theorem n_is_list (S : Hdp Γ fa fn gs ex) : t_is_list.need Γ := (And.intro (And.intro (S.hd.free 2 "isinstance" (by kernel_rfl)) (And.intro (fun c h => by rw [List.mem_singleton.mp h]; exact (cf0 S)) (And.intro (And.intro (S.hd.free 5 "list" (by kernel_rfl)) (S.hd.free 13 "tuple" (by kernel_rfl))) (And.intro (fun v h => by rcases List.mem_cons.mp h with rfl | h; exact (isi_of (x3 S)); rw [List.mem_singleton.mp h]; exact (isi_of (x4 S))) trivial)))) trivial)
theorem f_is_list (S : Hdp Γ fa fn gs ex) : FnIs Γ s_is_list e_is_list (He.fAd Γ.K ("is_list", none)) := FnIs.of rfl (by kernel_rfl) (S.hd.fnAt 7 s_is_list (d := fd_is_list) (by kernel_rfl) rfl rfl rfl rfl rfl rfl rfl) t_is_list (n_is_list S) k_is_list
abbrev fd_is_integer : He.DefD := ⟨("is_integer", none), "is_integer", "is_integer", defArgs (top 12), defBody (top 12), defScope (top 12), [], []⟩
theorem n_is_integer (S : Hdp Γ fa fn gs ex) : t_is_integer.need Γ := (And.intro (And.intro (And.intro (S.hd.free 2 "isinstance" (by kernel_rfl)) (And.intro (fun c h => by rw [List.mem_singleton.mp h]; exact (cf0 S)) (And.intro (S.hd.free 14 "int" (by kernel_rfl)) (And.intro (isi_of (x5 S)) trivial)))) (And.intro (And.intro (S.hd.free 2 "isinstance" (by kernel_rfl)) (And.intro (fun c h => by rw [List.mem_singleton.mp h]; exact (cf0 S)) (And.intro (S.hd.free 15 "bool" (by kernel_rfl)) (And.intro (isi_of (x6 S)) trivial)))) trivial)) trivial)
theorem f_is_integer (S : Hdp Γ fa fn gs ex) : FnIs Γ s_is_integer e_is_integer (He.fAd Γ.K ("is_integer", none)) := FnIs.of rfl (by kernel_rfl) (S.hd.fnAt 8 s_is_integer (d := fd_is_integer) (by kernel_rfl) rfl rfl rfl rfl rfl rfl rfl) t_is_integer (n_is_integer S) k_is_integer
abbrev fd_is_count : He.DefD := ⟨("is_count", none), "is_count", "is_count", defArgs (top 13), defBody (top 13), defScope (top 13), [], []⟩
theorem n_is_count (S : Hdp Γ fa fn gs ex) : t_is_count.need Γ := (And.intro (And.intro (And.intro (Exists.intro _ (And.intro (S.hd.glo 16 "is_integer" (by kernel_rfl)) (f_is_integer S))) (And.intro (And.intro trivial trivial) trivial)) (And.intro (And.intro trivial trivial) trivial)) trivial)
theorem f_is_count (S : Hdp Γ fa fn gs ex) : FnIs Γ s_is_count e_is_count (He.fAd Γ.K ("is_count", none)) := FnIs.of rfl (by kernel_rfl) (S.hd.fnAt 9 s_is_count (d := fd_is_count) (by kernel_rfl) rfl rfl rfl rfl rfl rfl rfl) t_is_count (n_is_count S) k_is_count
abbrev fd_is_in : He.DefD := ⟨("is_in", none), "is_in", "is_in", defArgs (top 53), defBody (top 53), defScope (top 53), [], []⟩
theorem n_is_in (S : Hdp Γ fa fn gs ex) : t_is_in.need Γ := (And.intro (And.intro (And.intro (Exists.intro _ (And.intro (S.hd.glo 17 "is_count" (by kernel_rfl)) (f_is_count S))) (And.intro (And.intro trivial trivial) trivial)) (And.intro (And.intro trivial (And.intro (fun c h => by rw [List.mem_singleton.mp h]; exact (cf0 S)) trivial)) trivial)) trivial)
theorem f_is_in (S : Hdp Γ fa fn gs ex) : FnIs Γ s_is_in e_is_in (He.fAd Γ.K ("is_in", none)) := FnIs.of rfl (by kernel_rfl) (S.hd.fnAt 10 s_is_in (d := fd_is_in) (by kernel_rfl) rfl rfl rfl rfl rfl rfl rfl) t_is_in (n_is_in S) k_is_in
abbrev fd_are_some : He.DefD := ⟨("are_some", none), "are_some", "are_some", defArgs (top 64), defBody (top 64), defScope (top 64), [], []⟩
theorem n_are_some (S : Hdp Γ fa fn gs ex) : t_are_some.need Γ := (And.intro (And.intro (And.intro (Exists.intro _ (And.intro (S.hd.glo 18 "is_list" (by kernel_rfl)) (f_is_list S))) (And.intro (And.intro trivial trivial) trivial)) (And.intro (And.intro (And.intro trivial (And.intro (S.hd.free 6 "len" (by kernel_rfl)) (And.intro trivial trivial))) trivial) (And.intro (And.intro trivial (And.intro (S.hd.free 20 "all" (by kernel_rfl)) (And.intro (And.intro trivial (And.intro trivial (And.intro trivial (And.intro (Exists.intro _ (And.intro (S.hd.glo 19 "is_in" (by kernel_rfl)) (f_is_in S))) (And.intro (And.intro trivial (And.intro trivial trivial)) trivial))))) trivial))) trivial))) trivial)
theorem f_are_some (S : Hdp Γ fa fn gs ex) : FnIs Γ s_are_some e_are_some (He.fAd Γ.K ("are_some", none)) := FnIs.of rfl (by kernel_rfl) (S.hd.fnAt 11 s_are_some (d := fd_are_some) (by kernel_rfl) rfl rfl rfl rfl rfl rfl rfl) t_are_some (n_are_some S) k_are_some
abbrev fd_want_points : He.DefD := ⟨("want_points", none), "want_points", "want_points", defArgs (top 65), defBody (top 65), defScope (top 65), [], []⟩
theorem n_want_points (S : Hdp Γ fa fn gs ex) : t_want_points.need Γ := (And.intro (And.intro (And.intro (And.intro (Exists.intro _ (And.intro (S.hd.glo 18 "is_list" (by kernel_rfl)) (f_is_list S))) (And.intro (And.intro trivial trivial) trivial)) (And.intro (And.intro trivial (And.intro (And.intro trivial (And.intro (S.hd.free 6 "len" (by kernel_rfl)) (And.intro trivial trivial))) (And.intro (fun c h => by rw [List.mem_singleton.mp h]; exact (cf0 S)) trivial))) (And.intro (And.intro (Exists.intro _ (And.intro (S.hd.glo 21 "are_some" (by kernel_rfl)) (f_are_some S))) (And.intro (And.intro trivial (And.intro trivial (And.intro (And.intro trivial (And.intro (S.hd.free 6 "len" (by kernel_rfl)) (And.intro trivial trivial))) trivial))) trivial)) trivial))) (And.intro (And.intro (And.intro (xi_InvalidPoints S) trivial) trivial) trivial)) (And.intro (And.intro (And.intro (And.intro (Exists.intro _ (And.intro (S.hd.glo 22 "rank_of" (by kernel_rfl)) (f_rank_of S))) (And.intro (And.intro trivial (And.intro (And.intro trivial (And.intro (S.hd.free 5 "list" (by kernel_rfl)) (And.intro trivial trivial))) trivial)) trivial)) (And.intro trivial (And.intro (S.hd.free 6 "len" (by kernel_rfl)) (And.intro trivial trivial)))) (And.intro (And.intro (And.intro (xi_InvalidPoints S) trivial) trivial) trivial)) (And.intro (And.intro trivial (And.intro (S.hd.free 5 "list" (by kernel_rfl)) (And.intro trivial trivial))) trivial)))
theorem f_want_points (S : Hdp Γ fa fn gs ex) : FnIs Γ s_want_points e_want_points (He.fAd Γ.K ("want_points", none)) := FnIs.of rfl (by kernel_rfl) (S.hd.fnAt 12 s_want_points (d := fd_want_points) (by kernel_rfl) rfl rfl rfl rfl rfl rfl rfl) t_want_points (n_want_points S) k_want_points
abbrev fd_by_figures_of : He.DefD := ⟨("by_figures_of", none), "by_figures_of", "by_figures_of", defArgs (top 42), defBody (top 42), defScope (top 42), [], []⟩
theorem n_by_figures_of (S : Hdp Γ fa fn gs ex) : t_by_figures_of.need Γ := (And.intro trivial (And.intro (And.intro trivial (And.intro trivial (And.intro (And.intro (And.intro trivial (And.intro (fun c h => by rw [List.mem_singleton.mp h]; exact (cf0 S)) trivial)) trivial) trivial))) (And.intro trivial trivial)))
theorem f_by_figures_of (S : Hdp Γ fa fn gs ex) : FnIs Γ s_by_figures_of e_by_figures_of (He.fAd Γ.K ("by_figures_of", none)) := FnIs.of rfl (by kernel_rfl) (S.hd.fnAt 13 s_by_figures_of (d := fd_by_figures_of) (by kernel_rfl) rfl rfl rfl rfl rfl rfl rfl) t_by_figures_of (n_by_figures_of S) k_by_figures_of
abbrev fd_plus_of : He.DefD := ⟨("plus_of", none), "plus_of", "plus_of", defArgs (top 43), defBody (top 43), defScope (top 43), [], []⟩
theorem n_plus_of (S : Hdp Γ fa fn gs ex) : t_plus_of.need Γ := (And.intro (And.intro (And.intro (And.intro trivial trivial) (And.intro (And.intro trivial trivial) trivial)) (And.intro (And.intro (And.intro trivial trivial) trivial) trivial)) (And.intro (S.hd.free 4 "zip" (by kernel_rfl)) (And.intro (And.intro (Exists.intro _ (And.intro (S.hd.glo 12 "figures_of" (by kernel_rfl)) (f_figures_of S))) (And.intro (And.intro trivial (And.intro trivial trivial)) trivial)) (And.intro (And.intro (Exists.intro _ (And.intro (S.hd.glo 12 "figures_of" (by kernel_rfl)) (f_figures_of S))) (And.intro (And.intro trivial (And.intro trivial trivial)) trivial)) (And.intro (And.intro trivial (And.intro trivial trivial)) (And.intro (And.intro (And.intro trivial trivial) (And.intro (fun c h => by rw [List.mem_singleton.mp h]; exact (cf0 S)) trivial)) (Exists.intro _ (And.intro (S.hd.glo 23 "by_figures_of" (by kernel_rfl)) (f_by_figures_of S)))))))))
theorem f_plus_of (S : Hdp Γ fa fn gs ex) : FnIs Γ s_plus_of e_plus_of (He.fAd Γ.K ("plus_of", none)) := FnIs.of rfl (by kernel_rfl) (S.hd.fnAt 14 s_plus_of (d := fd_plus_of) (by kernel_rfl) rfl rfl rfl rfl rfl rfl rfl) t_plus_of (n_plus_of S) k_plus_of
abbrev fd_times_of : He.DefD := ⟨("times_of", none), "times_of", "times_of", defArgs (top 45), defBody (top 45), defScope (top 45), [], []⟩
theorem n_times_of (S : Hdp Γ fa fn gs ex) : t_times_of.need Γ := (And.intro (And.intro (And.intro (And.intro trivial trivial) (And.intro (And.intro trivial trivial) trivial)) (And.intro (And.intro trivial trivial) trivial)) (And.intro (And.intro (And.intro (fun c h => by rw [List.mem_singleton.mp h]; exact (cf0 S)) trivial) (And.intro (And.intro (And.intro (And.intro (fun c h => by rw [List.mem_singleton.mp h]; exact (cf0 S)) trivial) trivial) (And.intro (And.intro (fun c h => by rw [List.mem_singleton.mp h]; exact (cf0 S)) trivial) trivial)) (And.intro (And.intro (fun c h => by rw [List.mem_singleton.mp h]; exact (cf0 S)) trivial) trivial))) trivial))
theorem f_times_of (S : Hdp Γ fa fn gs ex) : FnIs Γ s_times_of e_times_of (He.fAd Γ.K ("times_of", none)) := FnIs.of rfl (by kernel_rfl) (S.hd.fnAt 15 s_times_of (d := fd_times_of) (by kernel_rfl) rfl rfl rfl rfl rfl rfl rfl) t_times_of (n_times_of S) k_times_of
abbrev fd_power_of : He.DefD := ⟨("power_of", none), "power_of", "power_of", defArgs (top 47), defBody (top 47), defScope (top 47), [], []⟩
theorem n_power_of (S : Hdp Γ fa fn gs ex) : t_power_of.need Γ := (And.intro (And.intro (And.intro trivial trivial) (And.intro (And.intro trivial trivial) trivial)) (And.intro (And.intro (And.intro trivial trivial) (And.intro (And.intro (And.intro (fun c h => by rw [List.mem_singleton.mp h]; exact (cf0 S)) trivial) (And.intro (And.intro (And.intro (And.intro (fun c h => by rw [List.mem_singleton.mp h]; exact (cf0 S)) trivial) trivial) trivial) (And.intro (And.intro (fun c h => by rw [List.mem_singleton.mp h]; exact (cf0 S)) trivial) trivial))) trivial)) trivial))
theorem f_power_of (S : Hdp Γ fa fn gs ex) : FnIs Γ s_power_of e_power_of (He.fAd Γ.K ("power_of", none)) := FnIs.of rfl (by kernel_rfl) (S.hd.fnAt 16 s_power_of (d := fd_power_of) (by kernel_rfl) rfl rfl rfl rfl rfl rfl rfl) t_power_of (n_power_of S) k_power_of
abbrev fd_turned_of : He.DefD := ⟨("turned_of", none), "turned_of", "turned_of", defArgs (top 48), defBody (top 48), defScope (top 48), [], []⟩
theorem n_turned_of (S : Hdp Γ fa fn gs ex) : t_turned_of.need Γ := (And.intro trivial (And.intro (And.intro trivial (And.intro (And.intro (S.hd.free 3 "range" (by kernel_rfl)) (And.intro trivial (And.intro (fun c h => by rw [List.mem_singleton.mp h]; exact (cf0 S)) trivial))) (And.intro (And.intro (Exists.intro _ (And.intro (S.hd.glo 24 "power_of" (by kernel_rfl)) (f_power_of S))) (And.intro (And.intro trivial (And.intro trivial (And.intro (And.intro (fun c h => by rw [List.mem_singleton.mp h]; exact (cf0 S)) trivial) trivial))) trivial)) trivial))) (And.intro trivial trivial)))
theorem f_turned_of (S : Hdp Γ fa fn gs ex) : FnIs Γ s_turned_of e_turned_of (He.fAd Γ.K ("turned_of", none)) := FnIs.of rfl (by kernel_rfl) (S.hd.fnAt 17 s_turned_of (d := fd_turned_of) (by kernel_rfl) rfl rfl rfl rfl rfl rfl rfl) t_turned_of (n_turned_of S) k_turned_of
abbrev fd_worth_of : He.DefD := ⟨("worth_of", none), "worth_of", "worth_of", defArgs (top 62), defBody (top 62), defScope (top 62), [], []⟩
theorem n_worth_of (S : Hdp Γ fa fn gs ex) : t_worth_of.need Γ := (And.intro trivial (And.intro (And.intro (And.intro trivial (And.intro trivial trivial)) (And.intro (And.intro (S.hd.free 7 "enumerate" (by kernel_rfl)) trivial) (And.intro (And.intro (Exists.intro _ (And.intro (S.hd.glo 25 "plus_of" (by kernel_rfl)) (f_plus_of S))) (And.intro (And.intro trivial (And.intro trivial (And.intro (And.intro (Exists.intro _ (And.intro (S.hd.glo 26 "times_of" (by kernel_rfl)) (f_times_of S))) (And.intro (And.intro trivial (And.intro trivial (And.intro (And.intro (Exists.intro _ (And.intro (S.hd.glo 27 "turned_of" (by kernel_rfl)) (f_turned_of S))) (And.intro (And.intro trivial (And.intro trivial (And.intro trivial trivial))) trivial)) trivial))) trivial)) trivial))) trivial)) trivial))) (And.intro trivial trivial)))
theorem f_worth_of (S : Hdp Γ fa fn gs ex) : FnIs Γ s_worth_of e_worth_of (He.fAd Γ.K ("worth_of", none)) := FnIs.of rfl (by kernel_rfl) (S.hd.fnAt 18 s_worth_of (d := fd_worth_of) (by kernel_rfl) rfl rfl rfl rfl rfl rfl rfl) t_worth_of (n_worth_of S) k_worth_of
abbrev fd_minus_of : He.DefD := ⟨("minus_of", none), "minus_of", "minus_of", defArgs (top 44), defBody (top 44), defScope (top 44), [], []⟩
theorem n_minus_of (S : Hdp Γ fa fn gs ex) : t_minus_of.need Γ := (And.intro (And.intro (And.intro trivial trivial) (And.intro (And.intro trivial trivial) trivial)) (And.intro (S.hd.free 4 "zip" (by kernel_rfl)) (And.intro (And.intro (Exists.intro _ (And.intro (S.hd.glo 12 "figures_of" (by kernel_rfl)) (f_figures_of S))) (And.intro (And.intro trivial (And.intro trivial trivial)) trivial)) (And.intro (And.intro (Exists.intro _ (And.intro (S.hd.glo 12 "figures_of" (by kernel_rfl)) (f_figures_of S))) (And.intro (And.intro trivial (And.intro trivial trivial)) trivial)) (And.intro (And.intro trivial (And.intro trivial trivial)) (And.intro (And.intro (And.intro trivial trivial) (And.intro (fun c h => by rw [List.mem_singleton.mp h]; exact (cf0 S)) trivial)) (Exists.intro _ (And.intro (S.hd.glo 23 "by_figures_of" (by kernel_rfl)) (f_by_figures_of S)))))))))
theorem f_minus_of (S : Hdp Γ fa fn gs ex) : FnIs Γ s_minus_of e_minus_of (He.fAd Γ.K ("minus_of", none)) := FnIs.of rfl (by kernel_rfl) (S.hd.fnAt 19 s_minus_of (d := fd_minus_of) (by kernel_rfl) rfl rfl rfl rfl rfl rfl rfl) t_minus_of (n_minus_of S) k_minus_of
abbrev fd_told_of : He.DefD := ⟨("told_of", none), "told_of", "told_of", defArgs (top 56), defBody (top 56), defScope (top 56), [], []⟩
theorem n_told_of (S : Hdp Γ fa fn gs ex) : t_told_of.need Γ := (And.intro (And.intro trivial (And.intro (S.hd.free 6 "len" (by kernel_rfl)) (And.intro trivial trivial))) (And.intro (And.intro (And.intro (And.intro trivial trivial) (And.intro (And.intro (And.intro trivial (And.intro trivial trivial)) trivial) trivial)) (And.intro (And.intro trivial trivial) trivial)) (And.intro (And.intro trivial (And.intro (S.hd.free 5 "list" (by kernel_rfl)) (And.intro (And.intro trivial (And.intro trivial trivial)) trivial))) trivial)))
theorem f_told_of (S : Hdp Γ fa fn gs ex) : FnIs Γ s_told_of e_told_of (He.fAd Γ.K ("told_of", none)) := FnIs.of rfl (by kernel_rfl) (S.hd.fnAt 20 s_told_of (d := fd_told_of) (by kernel_rfl) rfl rfl rfl rfl rfl rfl rfl) t_told_of (n_told_of S) k_told_of
abbrev fd_sum_turners : He.DefD := ⟨("sum_turners", none), "sum_turners", "sum_turners", defArgs (top 59), defBody (top 59), defScope (top 59), [], []⟩
theorem n_sum_turners (S : Hdp Γ fa fn gs ex) : t_sum_turners.need Γ := (And.intro (And.intro (And.intro trivial (And.intro trivial trivial)) (And.intro (And.intro (And.intro trivial (And.intro (S.hd.free 6 "len" (by kernel_rfl)) (And.intro trivial trivial))) (And.intro trivial (And.intro (S.hd.free 6 "len" (by kernel_rfl)) (And.intro trivial trivial)))) (And.intro (And.intro trivial (And.intro trivial trivial)) (And.intro trivial (And.intro trivial trivial))))) (And.intro (And.intro trivial (And.intro (And.intro (S.hd.free 3 "range" (by kernel_rfl)) (And.intro trivial (And.intro (S.hd.free 6 "len" (by kernel_rfl)) (And.intro trivial trivial)))) (And.intro trivial (And.intro (Exists.intro _ (And.intro (S.hd.glo 25 "plus_of" (by kernel_rfl)) (f_plus_of S))) (And.intro (And.intro trivial (And.intro (And.intro trivial trivial) (And.intro (And.intro trivial trivial) trivial))) trivial))))) (And.intro (And.intro (Exists.intro _ (And.intro (S.hd.glo 28 "told_of" (by kernel_rfl)) (f_told_of S))) (And.intro (And.intro (And.intro trivial (And.intro trivial (And.intro (And.intro trivial (And.intro (S.hd.free 6 "len" (by kernel_rfl)) (And.intro trivial trivial))) trivial))) trivial) trivial)) trivial)))
theorem f_sum_turners (S : Hdp Γ fa fn gs ex) : FnIs Γ s_sum_turners e_sum_turners (He.fAd Γ.K ("sum_turners", none)) := FnIs.of rfl (by kernel_rfl) (S.hd.fnAt 21 s_sum_turners (d := fd_sum_turners) (by kernel_rfl) rfl rfl rfl rfl rfl rfl rfl) t_sum_turners (n_sum_turners S) k_sum_turners
abbrev fd_put_turners : He.DefD := ⟨("put_turners", none), "put_turners", "put_turners", defArgs (top 61), defBody (top 61), defScope (top 61), [], []⟩
theorem n_put_turners (S : Hdp Γ fa fn gs ex) : t_put_turners.need Γ := (And.intro (And.intro (And.intro trivial trivial) (And.intro trivial (And.intro (S.hd.free 29 "max" (by kernel_rfl)) (And.intro trivial (And.intro (And.intro (And.intro (And.intro trivial (And.intro (S.hd.free 6 "len" (by kernel_rfl)) (And.intro trivial trivial))) (And.intro trivial (And.intro (S.hd.free 6 "len" (by kernel_rfl)) (And.intro trivial trivial)))) trivial) trivial))))) (And.intro (And.intro (And.intro trivial (And.intro trivial trivial)) (And.intro (And.intro (S.hd.free 7 "enumerate" (by kernel_rfl)) trivial) (And.intro (And.intro (And.intro trivial (And.intro trivial trivial)) (And.intro (And.intro (S.hd.free 7 "enumerate" (by kernel_rfl)) trivial) (And.intro (And.intro (And.intro trivial trivial) (And.intro (Exists.intro _ (And.intro (S.hd.glo 25 "plus_of" (by kernel_rfl)) (f_plus_of S))) (And.intro (And.intro trivial (And.intro (And.intro trivial (And.intro trivial trivial)) (And.intro (And.intro (Exists.intro _ (And.intro (S.hd.glo 26 "times_of" (by kernel_rfl)) (f_times_of S))) (And.intro (And.intro trivial (And.intro trivial (And.intro (And.intro (Exists.intro _ (And.intro (S.hd.glo 27 "turned_of" (by kernel_rfl)) (f_turned_of S))) (And.intro (And.intro trivial (And.intro trivial (And.intro trivial trivial))) trivial)) trivial))) trivial)) trivial))) trivial))) trivial))) trivial))) (And.intro (And.intro (Exists.intro _ (And.intro (S.hd.glo 28 "told_of" (by kernel_rfl)) (f_told_of S))) (And.intro (And.intro trivial trivial) trivial)) trivial)))
theorem f_put_turners (S : Hdp Γ fa fn gs ex) : FnIs Γ s_put_turners e_put_turners (He.fAd Γ.K ("put_turners", none)) := FnIs.of rfl (by kernel_rfl) (S.hd.fnAt 22 s_put_turners (d := fd_put_turners) (by kernel_rfl) rfl rfl rfl rfl rfl rfl rfl) t_put_turners (n_put_turners S) k_put_turners
abbrev fd_times_turner : He.DefD := ⟨("times_turner", none), "times_turner", "times_turner", defArgs (top 60), defBody (top 60), defScope (top 60), [], []⟩
theorem n_times_turner (S : Hdp Γ fa fn gs ex) : t_times_turner.need Γ := (And.intro (And.intro (Exists.intro _ (And.intro (S.hd.glo 28 "told_of" (by kernel_rfl)) (f_told_of S))) (And.intro (And.intro (And.intro trivial (And.intro trivial (And.intro trivial (And.intro (Exists.intro _ (And.intro (S.hd.glo 26 "times_of" (by kernel_rfl)) (f_times_of S))) (And.intro (And.intro trivial (And.intro trivial (And.intro trivial trivial))) trivial))))) trivial) trivial)) trivial)
theorem f_times_turner (S : Hdp Γ fa fn gs ex) : FnIs Γ s_times_turner e_times_turner (He.fAd Γ.K ("times_turner", none)) := FnIs.of rfl (by kernel_rfl) (S.hd.fnAt 23 s_times_turner (d := fd_times_turner) (by kernel_rfl) rfl rfl rfl rfl rfl rfl rfl) t_times_turner (n_times_turner S) k_times_turner
abbrev fd_over_of : He.DefD := ⟨("over_of", none), "over_of", "over_of", defArgs (top 46), defBody (top 46), defScope (top 46), [], []⟩
theorem n_over_of (S : Hdp Γ fa fn gs ex) : t_over_of.need Γ := (And.intro (And.intro (And.intro trivial trivial) (And.intro (And.intro trivial trivial) trivial)) (And.intro (And.intro (And.intro (fun c h => by rw [List.mem_singleton.mp h]; exact (cf0 S)) trivial) (And.intro (And.intro (And.intro (And.intro (fun c h => by rw [List.mem_singleton.mp h]; exact (cf0 S)) trivial) trivial) (And.intro (And.intro (fun c h => by rw [List.mem_singleton.mp h]; exact (cf0 S)) trivial) trivial)) (And.intro (And.intro (fun c h => by rw [List.mem_singleton.mp h]; exact (cf0 S)) trivial) trivial))) trivial))
theorem f_over_of (S : Hdp Γ fa fn gs ex) : FnIs Γ s_over_of e_over_of (He.fAd Γ.K ("over_of", none)) := FnIs.of rfl (by kernel_rfl) (S.hd.fnAt 24 s_over_of (d := fd_over_of) (by kernel_rfl) rfl rfl rfl rfl rfl rfl rfl) t_over_of (n_over_of S) k_over_of
abbrev fd_through_of : He.DefD := ⟨("through_of", none), "through_of", "through_of", defArgs (top 66), defBody (top 66), defScope (top 66), [], []⟩
theorem n_through_of (S : Hdp Γ fa fn gs ex) : t_through_of.need Γ := (And.intro (And.intro trivial (And.intro (And.intro trivial trivial) trivial)) (And.intro (And.intro (And.intro trivial (And.intro trivial trivial)) (And.intro (And.intro (S.hd.free 4 "zip" (by kernel_rfl)) (And.intro trivial trivial)) (And.intro (And.intro (Exists.intro _ (And.intro (S.hd.glo 30 "worth_of" (by kernel_rfl)) (f_worth_of S))) (And.intro (And.intro trivial (And.intro trivial (And.intro trivial trivial))) trivial)) (And.intro (And.intro (Exists.intro _ (And.intro (S.hd.glo 31 "minus_of" (by kernel_rfl)) (f_minus_of S))) (And.intro (And.intro trivial (And.intro trivial (And.intro (And.intro (Exists.intro _ (And.intro (S.hd.glo 30 "worth_of" (by kernel_rfl)) (f_worth_of S))) (And.intro (And.intro trivial (And.intro trivial (And.intro trivial trivial))) trivial)) trivial))) trivial)) (And.intro (And.intro (Exists.intro _ (And.intro (S.hd.glo 32 "sum_turners" (by kernel_rfl)) (f_sum_turners S))) (And.intro (And.intro trivial (And.intro trivial (And.intro (And.intro (Exists.intro _ (And.intro (S.hd.glo 33 "times_turner" (by kernel_rfl)) (f_times_turner S))) (And.intro (And.intro trivial (And.intro (And.intro (Exists.intro _ (And.intro (S.hd.glo 34 "over_of" (by kernel_rfl)) (f_over_of S))) (And.intro (And.intro trivial (And.intro trivial (And.intro trivial trivial))) trivial)) (And.intro trivial trivial))) trivial)) trivial))) trivial)) (And.intro (And.intro (Exists.intro _ (And.intro (S.hd.glo 31 "minus_of" (by kernel_rfl)) (f_minus_of S))) (And.intro (And.intro trivial (And.intro trivial (And.intro (And.intro (Exists.intro _ (And.intro (S.hd.glo 24 "power_of" (by kernel_rfl)) (f_power_of S))) (And.intro (And.intro trivial (And.intro trivial (And.intro (And.intro (And.intro (fun c h => by rw [List.mem_singleton.mp h]; exact (cf0 S)) trivial) trivial) trivial))) trivial)) trivial))) trivial)) (And.intro (And.intro (Exists.intro _ (And.intro (S.hd.glo 35 "put_turners" (by kernel_rfl)) (f_put_turners S))) (And.intro (And.intro trivial (And.intro (And.intro trivial (And.intro trivial trivial)) (And.intro trivial trivial))) trivial)) trivial))))))) (And.intro trivial trivial)))
theorem f_through_of (S : Hdp Γ fa fn gs ex) : FnIs Γ s_through_of e_through_of (He.fAd Γ.K ("through_of", none)) := FnIs.of rfl (by kernel_rfl) (S.hd.fnAt 25 s_through_of (d := fd_through_of) (by kernel_rfl) rfl rfl rfl rfl rfl rfl rfl) t_through_of (n_through_of S) k_through_of
abbrev fd_through : He.DefD := ⟨("through", none), "through", "through", defArgs (top 67), defBody (top 67), defScope (top 67), [], []⟩
theorem n_through (S : Hdp Γ fa fn gs ex) : t_through.need Γ := (And.intro (And.intro (Exists.intro _ (And.intro (S.hd.glo 36 "want_field" (by kernel_rfl)) (f_want_field S))) (And.intro (And.intro trivial trivial) trivial)) (And.intro (And.intro (Exists.intro _ (And.intro (S.hd.glo 37 "want_points" (by kernel_rfl)) (f_want_points S))) (And.intro (And.intro trivial (And.intro trivial trivial)) trivial)) (And.intro (And.intro (And.intro (Exists.intro _ (And.intro (S.hd.glo 21 "are_some" (by kernel_rfl)) (f_are_some S))) (And.intro (And.intro trivial (And.intro trivial (And.intro (And.intro trivial (And.intro (S.hd.free 6 "len" (by kernel_rfl)) (And.intro trivial trivial))) trivial))) trivial)) (And.intro (And.intro (And.intro (xi_InvalidElements S) trivial) trivial) trivial)) (And.intro (And.intro (Exists.intro _ (And.intro (S.hd.glo 38 "through_of" (by kernel_rfl)) (f_through_of S))) (And.intro (And.intro trivial (And.intro trivial (And.intro trivial trivial))) trivial)) trivial))))
theorem f_through (S : Hdp Γ fa fn gs ex) : FnIs Γ s_through e_through (He.fAd Γ.K ("through", none)) := FnIs.of rfl (by kernel_rfl) (S.hd.fnAt 26 s_through (d := fd_through) (by kernel_rfl) rfl rfl rfl rfl rfl rfl rfl) t_through (n_through S) k_through
abbrev fd_units_of : He.DefD := ⟨("units_of", none), "units_of", "units_of", defArgs (top 69), defBody (top 69), defScope (top 69), [], []⟩
theorem n_units_of (S : Hdp Γ fa fn gs ex) : t_units_of.need Γ := (And.intro (And.intro trivial trivial) (And.intro (And.intro (And.intro (And.intro trivial (And.intro (S.hd.free 6 "len" (by kernel_rfl)) (And.intro trivial trivial))) (And.intro (fun c h => by rw [List.mem_singleton.mp h]; exact (cf0 S)) trivial)) (And.intro (And.intro (And.intro trivial trivial) (And.intro (fun c h => by rw [List.mem_singleton.mp h]; exact (cf0 S)) trivial)) trivial)) (And.intro trivial trivial)))
theorem f_units_of (S : Hdp Γ fa fn gs ex) : FnIs Γ s_units_of e_units_of (He.fAd Γ.K ("units_of", none)) := FnIs.of rfl (by kernel_rfl) (S.hd.fnAt 27 s_units_of (d := fd_units_of) (by kernel_rfl) rfl rfl rfl rfl rfl rfl rfl) t_units_of (n_units_of S) k_units_of
abbrev fd_worths_of : He.DefD := ⟨("worths_of", none), "worths_of", "worths_of", defArgs (top 72), defBody (top 72), defScope (top 72), [], []⟩
theorem n_worths_of (S : Hdp Γ fa fn gs ex) : t_worths_of.need Γ := (And.intro (And.intro trivial (And.intro (And.intro (Exists.intro _ (And.intro (S.hd.glo 40 "units_of" (by kernel_rfl)) (f_units_of S))) (And.intro (And.intro trivial trivial) trivial)) (And.intro trivial (And.intro (Exists.intro _ (And.intro (S.hd.glo 30 "worth_of" (by kernel_rfl)) (f_worth_of S))) (And.intro (And.intro trivial (And.intro trivial (And.intro trivial trivial))) trivial))))) trivial)
theorem f_worths_of (S : Hdp Γ fa fn gs ex) : FnIs Γ s_worths_of e_worths_of (He.fAd Γ.K ("worths_of", none)) := FnIs.of rfl (by kernel_rfl) (S.hd.fnAt 28 s_worths_of (d := fd_worths_of) (by kernel_rfl) rfl rfl rfl rfl rfl rfl rfl) t_worths_of (n_worths_of S) k_worths_of
abbrev fd_is_sum : He.DefD := ⟨("is_sum", none), "is_sum", "is_sum", defArgs (top 57), defBody (top 57), defScope (top 57), [], []⟩
theorem n_is_sum (S : Hdp Γ fa fn gs ex) : t_is_sum.need Γ := (And.intro (And.intro (And.intro (Exists.intro _ (And.intro (S.hd.glo 18 "is_list" (by kernel_rfl)) (f_is_list S))) (And.intro (And.intro trivial trivial) trivial)) (And.intro (And.intro (And.intro trivial (And.intro (S.hd.free 6 "len" (by kernel_rfl)) (And.intro trivial trivial))) (S.hd.int 41 "MOST_ELEMENTS" 13 (by kernel_rfl))) (And.intro (And.intro trivial (And.intro (S.hd.free 20 "all" (by kernel_rfl)) (And.intro (And.intro trivial (And.intro trivial (And.intro trivial (And.intro (Exists.intro _ (And.intro (S.hd.glo 19 "is_in" (by kernel_rfl)) (f_is_in S))) (And.intro (And.intro trivial (And.intro trivial trivial)) trivial))))) trivial))) trivial))) trivial)
theorem f_is_sum (S : Hdp Γ fa fn gs ex) : FnIs Γ s_is_sum e_is_sum (He.fAd Γ.K ("is_sum", none)) := FnIs.of rfl (by kernel_rfl) (S.hd.fnAt 29 s_is_sum (d := fd_is_sum) (by kernel_rfl) rfl rfl rfl rfl rfl rfl rfl) t_is_sum (n_is_sum S) k_is_sum
abbrev fd_want_turner : He.DefD := ⟨("want_turner", none), "want_turner", "want_turner", defArgs (top 58), defBody (top 58), defScope (top 58), [], []⟩
theorem n_want_turner (S : Hdp Γ fa fn gs ex) : t_want_turner.need Γ := (And.intro (And.intro (And.intro (Exists.intro _ (And.intro (S.hd.glo 42 "is_sum" (by kernel_rfl)) (f_is_sum S))) (And.intro (And.intro trivial (And.intro trivial trivial)) trivial)) (And.intro (And.intro (And.intro (xi_InvalidTurner S) trivial) trivial) trivial)) (And.intro (And.intro (Exists.intro _ (And.intro (S.hd.glo 28 "told_of" (by kernel_rfl)) (f_told_of S))) (And.intro (And.intro trivial trivial) trivial)) trivial))
theorem f_want_turner (S : Hdp Γ fa fn gs ex) : FnIs Γ s_want_turner e_want_turner (He.fAd Γ.K ("want_turner", none)) := FnIs.of rfl (by kernel_rfl) (S.hd.fnAt 30 s_want_turner (d := fd_want_turner) (by kernel_rfl) rfl rfl rfl rfl rfl rfl rfl) t_want_turner (n_want_turner S) k_want_turner
abbrev fd_table_of : He.DefD := ⟨("table_of", none), "table_of", "table_of", defArgs (top 75), defBody (top 75), defScope (top 75), [], []⟩
theorem n_table_of (S : Hdp Γ fa fn gs ex) : t_table_of.need Γ := (And.intro (And.intro (Exists.intro _ (And.intro (S.hd.glo 36 "want_field" (by kernel_rfl)) (f_want_field S))) (And.intro (And.intro trivial trivial) trivial)) (And.intro (And.intro trivial (And.intro (And.intro (Exists.intro _ (And.intro (S.hd.glo 43 "worths_of" (by kernel_rfl)) (f_worths_of S))) (And.intro (And.intro trivial (And.intro (And.intro (Exists.intro _ (And.intro (S.hd.glo 44 "want_turner" (by kernel_rfl)) (f_want_turner S))) (And.intro (And.intro trivial (And.intro trivial trivial)) trivial)) trivial)) trivial)) (And.intro trivial (And.intro (Exists.intro _ (And.intro (S.hd.glo 12 "figures_of" (by kernel_rfl)) (f_figures_of S))) (And.intro (And.intro trivial (And.intro trivial trivial)) trivial))))) trivial))
theorem f_table_of (S : Hdp Γ fa fn gs ex) : FnIs Γ s_table_of e_table_of (He.fAd Γ.K ("table_of", none)) := FnIs.of rfl (by kernel_rfl) (S.hd.fnAt 31 s_table_of (d := fd_table_of) (by kernel_rfl) rfl rfl rfl rfl rfl rfl rfl) t_table_of (n_table_of S) k_table_of
abbrev fd_is_figures : He.DefD := ⟨("is_figures", none), "is_figures", "is_figures", defArgs (top 30), defBody (top 30), defScope (top 30), [], []⟩
theorem n_is_figures (S : Hdp Γ fa fn gs ex) : t_is_figures.need Γ := (And.intro (And.intro (And.intro (Exists.intro _ (And.intro (S.hd.glo 18 "is_list" (by kernel_rfl)) (f_is_list S))) (And.intro (And.intro trivial trivial) trivial)) (And.intro (And.intro (And.intro trivial (And.intro (S.hd.free 6 "len" (by kernel_rfl)) (And.intro trivial trivial))) trivial) (And.intro (And.intro trivial (And.intro (S.hd.free 20 "all" (by kernel_rfl)) (And.intro (And.intro trivial (And.intro trivial (And.intro trivial (And.intro (And.intro (Exists.intro _ (And.intro (S.hd.glo 17 "is_count" (by kernel_rfl)) (f_is_count S))) (And.intro (And.intro trivial trivial) trivial)) (And.intro (And.intro trivial trivial) trivial))))) trivial))) trivial))) trivial)
theorem f_is_figures (S : Hdp Γ fa fn gs ex) : FnIs Γ s_is_figures e_is_figures (He.fAd Γ.K ("is_figures", none)) := FnIs.of rfl (by kernel_rfl) (S.hd.fnAt 32 s_is_figures (d := fd_is_figures) (by kernel_rfl) rfl rfl rfl rfl rfl rfl rfl) t_is_figures (n_is_figures S) k_is_figures
abbrev fd_want_map_table : He.DefD := ⟨("want_map_table", none), "want_map_table", "want_map_table", defArgs (top 74), defBody (top 74), defScope (top 74), [], []⟩
theorem n_want_map_table (S : Hdp Γ fa fn gs ex) : t_want_map_table.need Γ := (And.intro (And.intro (fun c h => by rw [List.mem_singleton.mp h]; exact (cf0 S)) trivial) (And.intro (And.intro (And.intro (And.intro (Exists.intro _ (And.intro (S.hd.glo 18 "is_list" (by kernel_rfl)) (f_is_list S))) (And.intro (And.intro trivial trivial) trivial)) (And.intro (And.intro (And.intro trivial (And.intro (S.hd.free 6 "len" (by kernel_rfl)) (And.intro trivial trivial))) trivial) (And.intro (And.intro trivial (And.intro (S.hd.free 20 "all" (by kernel_rfl)) (And.intro (And.intro trivial (And.intro trivial (And.intro trivial (And.intro (Exists.intro _ (And.intro (S.hd.glo 46 "is_figures" (by kernel_rfl)) (f_is_figures S))) (And.intro (And.intro (And.intro (fun c h => by rw [List.mem_singleton.mp h]; exact (cf0 S)) trivial) (And.intro trivial (And.intro trivial trivial))) trivial))))) trivial))) trivial))) (And.intro (And.intro (And.intro (xi_InvalidTable S) trivial) trivial) trivial)) (And.intro (And.intro trivial (And.intro trivial (And.intro trivial (And.intro trivial (And.intro (S.hd.free 5 "list" (by kernel_rfl)) (And.intro trivial trivial)))))) trivial)))
theorem f_want_map_table (S : Hdp Γ fa fn gs ex) : FnIs Γ s_want_map_table e_want_map_table (He.fAd Γ.K ("want_map_table", none)) := FnIs.of rfl (by kernel_rfl) (S.hd.fnAt 33 s_want_map_table (d := fd_want_map_table) (by kernel_rfl) rfl rfl rfl rfl rfl rfl rfl) t_want_map_table (n_want_map_table S) k_want_map_table
abbrev fd_turner_by : He.DefD := ⟨("turner_by", none), "turner_by", "turner_by", defArgs (top 76), defBody (top 76), defScope (top 76), [], []⟩
theorem n_turner_by (S : Hdp Γ fa fn gs ex) : t_turner_by.need Γ := (And.intro (And.intro (Exists.intro _ (And.intro (S.hd.glo 36 "want_field" (by kernel_rfl)) (f_want_field S))) (And.intro (And.intro trivial trivial) trivial)) (And.intro (And.intro (Exists.intro _ (And.intro (S.hd.glo 47 "want_map_table" (by kernel_rfl)) (f_want_map_table S))) (And.intro (And.intro trivial (And.intro trivial trivial)) trivial)) (And.intro (And.intro (Exists.intro _ (And.intro (S.hd.glo 38 "through_of" (by kernel_rfl)) (f_through_of S))) (And.intro (And.intro trivial (And.intro (And.intro (Exists.intro _ (And.intro (S.hd.glo 40 "units_of" (by kernel_rfl)) (f_units_of S))) (And.intro (And.intro trivial trivial) trivial)) (And.intro (And.intro trivial (And.intro trivial (And.intro trivial (And.intro (Exists.intro _ (And.intro (S.hd.glo 23 "by_figures_of" (by kernel_rfl)) (f_by_figures_of S))) (And.intro (And.intro trivial (And.intro trivial trivial)) trivial))))) trivial))) trivial)) trivial)))
theorem f_turner_by (S : Hdp Γ fa fn gs ex) : FnIs Γ s_turner_by e_turner_by (He.fAd Γ.K ("turner_by", none)) := FnIs.of rfl (by kernel_rfl) (S.hd.fnAt 34 s_turner_by (d := fd_turner_by) (by kernel_rfl) rfl rfl rfl rfl rfl rfl rfl) t_turner_by (n_turner_by S) k_turner_by
abbrev fd_map_numbers : He.DefD := ⟨("map_numbers", none), "map_numbers", "map_numbers", defArgs (top 70), defBody (top 70), defScope (top 70), [], []⟩
theorem n_map_numbers (S : Hdp Γ fa fn gs ex) : t_map_numbers.need Γ := (And.intro (And.intro trivial (And.intro (And.intro (S.hd.free 3 "range" (by kernel_rfl)) (And.intro (fun c h => by rw [List.mem_singleton.mp h]; exact (cf0 S)) trivial)) (And.intro trivial trivial))) (And.intro (And.intro (And.intro trivial (And.intro trivial trivial)) (And.intro (And.intro (S.hd.free 7 "enumerate" (by kernel_rfl)) trivial) (And.intro (And.intro trivial (And.intro (And.intro trivial (And.intro (fun c h => by rw [List.mem_singleton.mp h]; exact (cf0 S)) trivial)) (And.intro (fun c h => by rw [List.mem_singleton.mp h]; exact (cf0 S)) trivial))) (And.intro (And.intro trivial (And.intro (Exists.intro _ (And.intro (S.hd.glo 25 "plus_of" (by kernel_rfl)) (f_plus_of S))) (And.intro (And.intro trivial (And.intro (And.intro trivial trivial) (And.intro trivial trivial))) trivial))) trivial)))) (And.intro trivial trivial)))
theorem f_map_numbers (S : Hdp Γ fa fn gs ex) : FnIs Γ s_map_numbers e_map_numbers (He.fAd Γ.K ("map_numbers", none)) := FnIs.of rfl (by kernel_rfl) (S.hd.fnAt 35 s_map_numbers (d := fd_map_numbers) (by kernel_rfl) rfl rfl rfl rfl rfl rfl rfl) t_map_numbers (n_map_numbers S) k_map_numbers
abbrev fd_as_map_of : He.DefD := ⟨("as_map_of", none), "as_map_of", "as_map_of", defArgs (top 71), defBody (top 71), defScope (top 71), [], []⟩
theorem n_as_map_of (S : Hdp Γ fa fn gs ex) : t_as_map_of.need Γ := (And.intro (And.intro (Exists.intro _ (And.intro (S.hd.glo 28 "told_of" (by kernel_rfl)) (f_told_of S))) (And.intro (And.intro (And.intro (Exists.intro _ (And.intro (S.hd.glo 49 "map_numbers" (by kernel_rfl)) (f_map_numbers S))) (And.intro (And.intro trivial (And.intro trivial trivial)) trivial)) trivial) trivial)) trivial)
theorem f_as_map_of (S : Hdp Γ fa fn gs ex) : FnIs Γ s_as_map_of e_as_map_of (He.fAd Γ.K ("as_map_of", none)) := FnIs.of rfl (by kernel_rfl) (S.hd.fnAt 36 s_as_map_of (d := fd_as_map_of) (by kernel_rfl) rfl rfl rfl rfl rfl rfl rfl) t_as_map_of (n_as_map_of S) k_as_map_of
abbrev fd_as_map : He.DefD := ⟨("as_map", none), "as_map", "as_map", defArgs (top 77), defBody (top 77), defScope (top 77), [], []⟩
theorem n_as_map (S : Hdp Γ fa fn gs ex) : t_as_map.need Γ := (And.intro (And.intro (Exists.intro _ (And.intro (S.hd.glo 36 "want_field" (by kernel_rfl)) (f_want_field S))) (And.intro (And.intro trivial trivial) trivial)) (And.intro (And.intro (Exists.intro _ (And.intro (S.hd.glo 50 "as_map_of" (by kernel_rfl)) (f_as_map_of S))) (And.intro (And.intro trivial (And.intro (And.intro (Exists.intro _ (And.intro (S.hd.glo 44 "want_turner" (by kernel_rfl)) (f_want_turner S))) (And.intro (And.intro trivial (And.intro trivial trivial)) trivial)) trivial)) trivial)) trivial))
theorem f_as_map (S : Hdp Γ fa fn gs ex) : FnIs Γ s_as_map e_as_map (He.fAd Γ.K ("as_map", none)) := FnIs.of rfl (by kernel_rfl) (S.hd.fnAt 37 s_as_map (d := fd_as_map) (by kernel_rfl) rfl rfl rfl rfl rfl rfl rfl) t_as_map (n_as_map S) k_as_map
abbrev fd_are_one_map : He.DefD := ⟨("are_one_map", none), "are_one_map", "are_one_map", defArgs (top 78), defBody (top 78), defScope (top 78), [], []⟩
theorem n_are_one_map (S : Hdp Γ fa fn gs ex) : t_are_one_map.need Γ := (And.intro (And.intro (Exists.intro _ (And.intro (S.hd.glo 36 "want_field" (by kernel_rfl)) (f_want_field S))) (And.intro (And.intro trivial trivial) trivial)) (And.intro (And.intro (Exists.intro _ (And.intro (S.hd.glo 44 "want_turner" (by kernel_rfl)) (f_want_turner S))) (And.intro (And.intro trivial (And.intro trivial trivial)) trivial)) (And.intro (And.intro (And.intro (Exists.intro _ (And.intro (S.hd.glo 50 "as_map_of" (by kernel_rfl)) (f_as_map_of S))) (And.intro (And.intro trivial (And.intro trivial trivial)) trivial)) (And.intro (Exists.intro _ (And.intro (S.hd.glo 50 "as_map_of" (by kernel_rfl)) (f_as_map_of S))) (And.intro (And.intro trivial (And.intro (And.intro (Exists.intro _ (And.intro (S.hd.glo 44 "want_turner" (by kernel_rfl)) (f_want_turner S))) (And.intro (And.intro trivial (And.intro trivial trivial)) trivial)) trivial)) trivial))) trivial)))
theorem f_are_one_map (S : Hdp Γ fa fn gs ex) : FnIs Γ s_are_one_map e_are_one_map (He.fAd Γ.K ("are_one_map", none)) := FnIs.of rfl (by kernel_rfl) (S.hd.fnAt 38 s_are_one_map (d := fd_are_one_map) (by kernel_rfl) rfl rfl rfl rfl rfl rfl rfl) t_are_one_map (n_are_one_map S) k_are_one_map
abbrev fd_rank_of_map : He.DefD := ⟨("rank_of_map", none), "rank_of_map", "rank_of_map", defArgs (top 73), defBody (top 73), defScope (top 73), [], []⟩
theorem n_rank_of_map (S : Hdp Γ fa fn gs ex) : t_rank_of_map.need Γ := (And.intro (And.intro (Exists.intro _ (And.intro (S.hd.glo 22 "rank_of" (by kernel_rfl)) (f_rank_of S))) (And.intro (And.intro trivial (And.intro (And.intro (Exists.intro _ (And.intro (S.hd.glo 43 "worths_of" (by kernel_rfl)) (f_worths_of S))) (And.intro (And.intro trivial (And.intro trivial trivial)) trivial)) trivial)) trivial)) trivial)
theorem f_rank_of_map (S : Hdp Γ fa fn gs ex) : FnIs Γ s_rank_of_map e_rank_of_map (He.fAd Γ.K ("rank_of_map", none)) := FnIs.of rfl (by kernel_rfl) (S.hd.fnAt 39 s_rank_of_map (d := fd_rank_of_map) (by kernel_rfl) rfl rfl rfl rfl rfl rfl rfl) t_rank_of_map (n_rank_of_map S) k_rank_of_map
abbrev fd_map_rank : He.DefD := ⟨("map_rank", none), "map_rank", "map_rank", defArgs (top 79), defBody (top 79), defScope (top 79), [], []⟩
theorem n_map_rank (S : Hdp Γ fa fn gs ex) : t_map_rank.need Γ := (And.intro (And.intro (Exists.intro _ (And.intro (S.hd.glo 36 "want_field" (by kernel_rfl)) (f_want_field S))) (And.intro (And.intro trivial trivial) trivial)) (And.intro (And.intro (Exists.intro _ (And.intro (S.hd.glo 53 "rank_of_map" (by kernel_rfl)) (f_rank_of_map S))) (And.intro (And.intro trivial (And.intro (And.intro (Exists.intro _ (And.intro (S.hd.glo 44 "want_turner" (by kernel_rfl)) (f_want_turner S))) (And.intro (And.intro trivial (And.intro trivial trivial)) trivial)) trivial)) trivial)) trivial))
theorem f_map_rank (S : Hdp Γ fa fn gs ex) : FnIs Γ s_map_rank e_map_rank (He.fAd Γ.K ("map_rank", none)) := FnIs.of rfl (by kernel_rfl) (S.hd.fnAt 40 s_map_rank (d := fd_map_rank) (by kernel_rfl) rfl rfl rfl rfl rfl rfl rfl) t_map_rank (n_map_rank S) k_map_rank
abbrev fd_dickson_of : He.DefD := ⟨("dickson_of", none), "dickson_of", "dickson_of", defArgs (top 81), defBody (top 81), defScope (top 81), [], []⟩
theorem n_dickson_of (S : Hdp Γ fa fn gs ex) : t_dickson_of.need Γ := (And.intro (And.intro (And.intro (Exists.intro _ (And.intro (S.hd.glo 49 "map_numbers" (by kernel_rfl)) (f_map_numbers S))) (And.intro (And.intro trivial (And.intro trivial trivial)) trivial)) (And.intro (And.intro (fun c h => by rw [List.mem_singleton.mp h]; exact (cf0 S)) trivial) (And.intro trivial trivial))) (And.intro (And.intro trivial (And.intro (And.intro (S.hd.free 3 "range" (by kernel_rfl)) trivial) (And.intro (And.intro (And.intro trivial (And.intro (And.intro trivial trivial) trivial)) (And.intro trivial (And.intro trivial (And.intro trivial trivial)))) (And.intro (And.intro trivial (And.intro trivial (And.intro trivial (And.intro (Exists.intro _ (And.intro (S.hd.glo 27 "turned_of" (by kernel_rfl)) (f_turned_of S))) (And.intro (And.intro trivial (And.intro trivial (And.intro trivial trivial))) trivial))))) trivial)))) (And.intro trivial trivial)))
theorem f_dickson_of (S : Hdp Γ fa fn gs ex) : FnIs Γ s_dickson_of e_dickson_of (He.fAd Γ.K ("dickson_of", none)) := FnIs.of rfl (by kernel_rfl) (S.hd.fnAt 41 s_dickson_of (d := fd_dickson_of) (by kernel_rfl) rfl rfl rfl rfl rfl rfl rfl) t_dickson_of (n_dickson_of S) k_dickson_of
abbrev fd_dickson : He.DefD := ⟨("dickson", none), "dickson", "dickson", defArgs (top 83), defBody (top 83), defScope (top 83), [], []⟩
theorem n_dickson (S : Hdp Γ fa fn gs ex) : t_dickson.need Γ := (And.intro (And.intro (Exists.intro _ (And.intro (S.hd.glo 36 "want_field" (by kernel_rfl)) (f_want_field S))) (And.intro (And.intro trivial trivial) trivial)) (And.intro (And.intro (Exists.intro _ (And.intro (S.hd.glo 55 "dickson_of" (by kernel_rfl)) (f_dickson_of S))) (And.intro (And.intro trivial (And.intro (And.intro (Exists.intro _ (And.intro (S.hd.glo 44 "want_turner" (by kernel_rfl)) (f_want_turner S))) (And.intro (And.intro trivial (And.intro trivial trivial)) trivial)) trivial)) trivial)) trivial))
theorem f_dickson (S : Hdp Γ fa fn gs ex) : FnIs Γ s_dickson e_dickson (He.fAd Γ.K ("dickson", none)) := FnIs.of rfl (by kernel_rfl) (S.hd.fnAt 42 s_dickson (d := fd_dickson) (by kernel_rfl) rfl rfl rfl rfl rfl rfl rfl) t_dickson (n_dickson S) k_dickson
abbrev fd_mirror_of : He.DefD := ⟨("mirror_of", none), "mirror_of", "mirror_of", defArgs (top 82), defBody (top 82), defScope (top 82), [], []⟩
theorem n_mirror_of (S : Hdp Γ fa fn gs ex) : t_mirror_of.need Γ := (And.intro (And.intro (And.intro trivial (And.intro trivial trivial)) (And.intro (And.intro (Exists.intro _ (And.intro (S.hd.glo 49 "map_numbers" (by kernel_rfl)) (f_map_numbers S))) (And.intro (And.intro trivial (And.intro trivial trivial)) trivial)) (And.intro (And.intro (fun c h => by rw [List.mem_singleton.mp h]; exact (cf0 S)) trivial) trivial))) (And.intro (And.intro (And.intro (And.intro trivial trivial) trivial) (And.intro trivial (And.intro (And.intro (S.hd.free 3 "range" (by kernel_rfl)) (And.intro trivial trivial)) (And.intro trivial (And.intro (Exists.intro _ (And.intro (S.hd.glo 27 "turned_of" (by kernel_rfl)) (f_turned_of S))) (And.intro (And.intro trivial (And.intro (And.intro trivial (And.intro trivial trivial)) (And.intro trivial trivial))) trivial)))))) (And.intro (And.intro (Exists.intro _ (And.intro (S.hd.glo 28 "told_of" (by kernel_rfl)) (f_told_of S))) (And.intro (And.intro trivial trivial) trivial)) trivial)))
theorem f_mirror_of (S : Hdp Γ fa fn gs ex) : FnIs Γ s_mirror_of e_mirror_of (He.fAd Γ.K ("mirror_of", none)) := FnIs.of rfl (by kernel_rfl) (S.hd.fnAt 43 s_mirror_of (d := fd_mirror_of) (by kernel_rfl) rfl rfl rfl rfl rfl rfl rfl) t_mirror_of (n_mirror_of S) k_mirror_of
abbrev fd_mirror : He.DefD := ⟨("mirror", none), "mirror", "mirror", defArgs (top 84), defBody (top 84), defScope (top 84), [], []⟩
theorem n_mirror (S : Hdp Γ fa fn gs ex) : t_mirror.need Γ := (And.intro (And.intro (Exists.intro _ (And.intro (S.hd.glo 36 "want_field" (by kernel_rfl)) (f_want_field S))) (And.intro (And.intro trivial trivial) trivial)) (And.intro (And.intro (Exists.intro _ (And.intro (S.hd.glo 57 "mirror_of" (by kernel_rfl)) (f_mirror_of S))) (And.intro (And.intro trivial (And.intro (And.intro (Exists.intro _ (And.intro (S.hd.glo 44 "want_turner" (by kernel_rfl)) (f_want_turner S))) (And.intro (And.intro trivial (And.intro trivial trivial)) trivial)) trivial)) trivial)) trivial))
theorem f_mirror (S : Hdp Γ fa fn gs ex) : FnIs Γ s_mirror e_mirror (He.fAd Γ.K ("mirror", none)) := FnIs.of rfl (by kernel_rfl) (S.hd.fnAt 44 s_mirror (d := fd_mirror) (by kernel_rfl) rfl rfl rfl rfl rfl rfl rfl) t_mirror (n_mirror S) k_mirror
abbrev fd__law_draw : He.DefD := ⟨("_law_draw", none), "_law_draw", "_law_draw", defArgs (top 87), defBody (top 87), defScope (top 87), [], []⟩
theorem n__law_draw (S : Hdp Γ fa fn gs ex) : t__law_draw.need Γ := (And.intro (And.intro (And.intro (And.intro trivial trivial) trivial) (And.intro (And.intro (And.intro (And.intro trivial (And.intro trivial trivial)) (And.intro trivial (And.intro (S.hd.free 59 "divmod" (by kernel_rfl)) (And.intro (And.intro trivial trivial) (And.intro trivial trivial))))) (And.intro trivial trivial)) trivial)) (And.intro (And.intro trivial (And.intro (And.intro trivial (And.intro (S.hd.free 14 "int" (by kernel_rfl)) (And.intro (And.intro (And.intro (And.intro trivial trivial) trivial) trivial) trivial))) trivial)) (And.intro (And.intro (And.intro trivial (And.intro (S.hd.free 14 "int" (by kernel_rfl)) (And.intro (And.intro (And.intro (And.intro trivial (And.intro (S.hd.free 14 "int" (by kernel_rfl)) (And.intro (And.intro (And.intro trivial trivial) (And.intro trivial trivial)) trivial))) trivial) trivial) trivial))) trivial) trivial)))
theorem f__law_draw (S : Hdp Γ fa fn gs ex) : FnIs Γ s__law_draw e__law_draw (He.fAd Γ.K ("_law_draw", none)) := FnIs.of rfl (by kernel_rfl) (S.hd.fnAt 45 s__law_draw (d := fd__law_draw) (by kernel_rfl) rfl rfl rfl rfl rfl rfl rfl) t__law_draw (n__law_draw S) k__law_draw
abbrev fd__law_pick : He.DefD := ⟨("_law_pick", none), "_law_pick", "_law_pick", defArgs (top 88), defBody (top 88), defScope (top 88), [], []⟩
theorem n__law_pick (S : Hdp Γ fa fn gs ex) : t__law_pick.need Γ := (And.intro (And.intro trivial (And.intro (Exists.intro _ (And.intro (S.hd.glo 60 "_law_draw" (by kernel_rfl)) (f__law_draw S))) (And.intro (And.intro trivial (And.intro (And.intro trivial (And.intro (S.hd.free 6 "len" (by kernel_rfl)) (And.intro trivial trivial))) trivial)) trivial))) trivial)
theorem f__law_pick (S : Hdp Γ fa fn gs ex) : FnIs Γ s__law_pick e__law_pick (He.fAd Γ.K ("_law_pick", none)) := FnIs.of rfl (by kernel_rfl) (S.hd.fnAt 46 s__law_pick (d := fd__law_pick) (by kernel_rfl) rfl rfl rfl rfl rfl rfl rfl) t__law_pick (n__law_pick S) k__law_pick
abbrev fd__law_pot : He.DefD := ⟨("_law_pot", none), "_law_pot", "_law_pot", defArgs (top 86), defBody (top 86), defScope (top 86), [], []⟩
theorem n__law_pot (S : Hdp Γ fa fn gs ex) : t__law_pot.need Γ := (And.intro (And.intro (And.intro trivial (And.intro trivial (And.intro (S.hd.free 6 "len" (by kernel_rfl)) (And.intro trivial trivial)))) (And.intro (And.intro trivial (And.intro (S.hd.free 61 "abs" (by kernel_rfl)) (And.intro (And.intro trivial trivial) trivial))) (And.intro (And.intro trivial trivial) trivial))) (And.intro (And.intro (And.intro trivial (And.intro (S.hd.free 29 "max" (by kernel_rfl)) (And.intro trivial (And.intro (And.intro trivial (And.intro trivial trivial)) trivial)))) (And.intro (And.intro (And.intro (And.intro trivial (And.intro (S.hd.free 14 "int" (by kernel_rfl)) (And.intro (And.intro (And.intro (And.intro (And.intro (And.intro trivial (And.intro (S.hd.free 14 "int" (by kernel_rfl)) (And.intro trivial trivial))) trivial) trivial) (And.intro trivial trivial)) trivial) trivial))) trivial) trivial) trivial)) trivial))
theorem f__law_pot (S : Hdp Γ fa fn gs ex) : FnIs Γ s__law_pot e__law_pot (He.fAd Γ.K ("_law_pot", none)) := FnIs.of rfl (by kernel_rfl) (S.hd.fnAt 47 s__law_pot (d := fd__law_pot) (by kernel_rfl) rfl rfl rfl rfl rfl rfl rfl) t__law_pot (n__law_pot S) k__law_pot
abbrev fd__law_kinds : He.DefD := ⟨("_law_kinds", none), "_law_kinds", "_law_kinds", defArgs (top 89), defBody (top 89), defScope (top 89), [], []⟩
theorem n__law_kinds (S : Hdp Γ fa fn gs ex) : t__law_kinds.need Γ := (And.intro (And.intro (And.intro trivial (And.intro (And.intro trivial (And.intro trivial (And.intro trivial (And.intro trivial trivial)))) trivial)) (And.intro (And.intro trivial (And.intro (And.intro trivial (And.intro trivial (And.intro trivial trivial))) trivial)) (And.intro (And.intro trivial (And.intro (And.intro trivial (And.intro trivial (And.intro trivial (And.intro trivial (And.intro trivial trivial))))) trivial)) (And.intro (And.intro trivial (And.intro (And.intro trivial (And.intro trivial (And.intro trivial trivial))) trivial)) (And.intro (And.intro trivial (And.intro (And.intro trivial (And.intro trivial (And.intro trivial (And.intro trivial trivial)))) trivial)) (And.intro (And.intro trivial (And.intro (And.intro trivial (And.intro trivial (And.intro trivial trivial))) trivial)) (And.intro (And.intro trivial (And.intro (And.intro trivial (And.intro trivial (And.intro trivial (And.intro trivial trivial)))) trivial)) trivial))))))) (And.intro (And.intro trivial (And.intro (And.intro trivial (And.intro (And.intro trivial (And.intro trivial (And.intro trivial trivial))) trivial)) (And.intro (And.intro trivial (And.intro (And.intro trivial (And.intro trivial (And.intro trivial trivial))) trivial)) (And.intro (And.intro trivial (And.intro (And.intro trivial (And.intro trivial (And.intro trivial (And.intro trivial (And.intro trivial (And.intro trivial trivial)))))) trivial)) trivial)))) trivial))
theorem f__law_kinds (S : Hdp Γ fa fn gs ex) : FnIs Γ s__law_kinds e__law_kinds (He.fAd Γ.K ("_law_kinds", none)) := FnIs.of rfl (by kernel_rfl) (S.hd.fnAt 48 s__law_kinds (d := fd__law_kinds) (by kernel_rfl) rfl rfl rfl rfl rfl rfl rfl) t__law_kinds (n__law_kinds S) k__law_kinds
abbrev fd_want_prime : He.DefD := ⟨("want_prime", none), "want_prime", "want_prime", defArgs (top 29), defBody (top 29), defScope (top 29), [], []⟩
theorem n_want_prime (S : Hdp Γ fa fn gs ex) : t_want_prime.need Γ := (And.intro (And.intro (And.intro (And.intro (Exists.intro _ (And.intro (S.hd.glo 17 "is_count" (by kernel_rfl)) (f_is_count S))) (And.intro (And.intro trivial trivial) trivial)) (And.intro (And.intro trivial (S.hd.tup 62 "PRIMES" [.int 2, .int 3, .int 5, .int 7] (by kernel_rfl) (x11 S))) trivial)) (And.intro (And.intro trivial trivial) trivial)) trivial)
theorem f_want_prime (S : Hdp Γ fa fn gs ex) : FnIs Γ s_want_prime e_want_prime (He.fAd Γ.K ("want_prime", none)) := FnIs.of rfl (by kernel_rfl) (S.hd.fnAt 49 s_want_prime (d := fd_want_prime) (by kernel_rfl) rfl rfl rfl rfl rfl rfl rfl) t_want_prime (n_want_prime S) k_want_prime
abbrev fd_want_at_most : He.DefD := ⟨("want_at_most", none), "want_at_most", "want_at_most", defArgs (top 15), defBody (top 15), defScope (top 15), [], []⟩
theorem n_want_at_most (S : Hdp Γ fa fn gs ex) : t_want_at_most.need Γ := (And.intro (And.intro (And.intro trivial trivial) (And.intro (And.intro trivial trivial) trivial)) trivial)
theorem f_want_at_most (S : Hdp Γ fa fn gs ex) : FnIs Γ s_want_at_most e_want_at_most (He.fAd Γ.K ("want_at_most", none)) := FnIs.of rfl (by kernel_rfl) (S.hd.fnAt 50 s_want_at_most (d := fd_want_at_most) (by kernel_rfl) rfl rfl rfl rfl rfl rfl rfl) t_want_at_most (n_want_at_most S) k_want_at_most
abbrev fd_sized : He.DefD := ⟨("sized", none), "sized", "sized", defArgs (top 37), defBody (top 37), defScope (top 37), [], []⟩
theorem n_sized (S : Hdp Γ fa fn gs ex) : t_sized.need Γ := (And.intro trivial (And.intro (And.intro trivial (And.intro (And.intro (S.hd.free 3 "range" (by kernel_rfl)) trivial) (And.intro (And.intro trivial trivial) trivial))) (And.intro trivial trivial)))
theorem f_sized (S : Hdp Γ fa fn gs ex) : FnIs Γ s_sized e_sized (He.fAd Γ.K ("sized", none)) := FnIs.of rfl (by kernel_rfl) (S.hd.fnAt 51 s_sized (d := fd_sized) (by kernel_rfl) rfl rfl rfl rfl rfl rfl rfl) t_sized (n_sized S) k_sized
abbrev fd_poly_of : He.DefD := ⟨("poly_of", none), "poly_of", "poly_of", defArgs (top 33), defBody (top 33), defScope (top 33), [], []⟩
theorem n_poly_of (S : Hdp Γ fa fn gs ex) : t_poly_of.need Γ := (And.intro (And.intro trivial (And.intro trivial trivial)) (And.intro (And.intro (And.intro trivial trivial) (And.intro (And.intro trivial trivial) (And.intro (And.intro trivial trivial) trivial))) (And.intro trivial trivial)))
theorem f_poly_of (S : Hdp Γ fa fn gs ex) : FnIs Γ s_poly_of e_poly_of (He.fAd Γ.K ("poly_of", none)) := FnIs.of rfl (by kernel_rfl) (S.hd.fnAt 52 s_poly_of (d := fd_poly_of) (by kernel_rfl) rfl rfl rfl rfl rfl rfl rfl) t_poly_of (n_poly_of S) k_poly_of
abbrev fd_without_end : He.DefD := ⟨("without_end", none), "without_end", "without_end", defArgs (top 20), defBody (top 20), defScope (top 20), [], []⟩
theorem n_without_end (S : Hdp Γ fa fn gs ex) : t_without_end.need Γ := (And.intro (And.intro trivial (And.intro (S.hd.free 6 "len" (by kernel_rfl)) (And.intro trivial trivial))) (And.intro (And.intro (And.intro (And.intro trivial trivial) (And.intro (And.intro (And.intro trivial (And.intro trivial trivial)) trivial) trivial)) (And.intro (And.intro trivial trivial) trivial)) (And.intro (And.intro trivial (And.intro (S.hd.free 5 "list" (by kernel_rfl)) (And.intro (And.intro trivial (And.intro trivial trivial)) trivial))) trivial)))
theorem f_without_end (S : Hdp Γ fa fn gs ex) : FnIs Γ s_without_end e_without_end (He.fAd Γ.K ("without_end", none)) := FnIs.of rfl (by kernel_rfl) (S.hd.fnAt 53 s_without_end (d := fd_without_end) (by kernel_rfl) rfl rfl rfl rfl rfl rfl rfl) t_without_end (n_without_end S) k_without_end
abbrev fd_poly_rest : He.DefD := ⟨("poly_rest", none), "poly_rest", "poly_rest", defArgs (top 21), defBody (top 21), defScope (top 21), [], []⟩
theorem n_poly_rest (S : Hdp Γ fa fn gs ex) : t_poly_rest.need Γ := (And.intro (And.intro (And.intro (Exists.intro _ (And.intro (S.hd.glo 63 "without_end" (by kernel_rfl)) (f_without_end S))) (And.intro (And.intro trivial trivial) trivial)) (And.intro (And.intro (Exists.intro _ (And.intro (S.hd.glo 8 "undone_by" (by kernel_rfl)) (f_undone_by S))) (And.intro (And.intro trivial (And.intro (And.intro trivial trivial) trivial)) trivial)) trivial)) (And.intro (And.intro (And.intro (And.intro trivial (And.intro (S.hd.free 6 "len" (by kernel_rfl)) (And.intro trivial trivial))) (And.intro trivial (And.intro (S.hd.free 6 "len" (by kernel_rfl)) (And.intro trivial trivial)))) (And.intro (And.intro (And.intro (And.intro trivial (And.intro (S.hd.free 6 "len" (by kernel_rfl)) (And.intro trivial trivial))) (And.intro trivial (And.intro (S.hd.free 6 "len" (by kernel_rfl)) (And.intro trivial trivial)))) (And.intro (And.intro (And.intro (And.intro trivial trivial) trivial) trivial) trivial)) (And.intro (And.intro (And.intro trivial (And.intro trivial trivial)) (And.intro (And.intro (S.hd.free 7 "enumerate" (by kernel_rfl)) trivial) (And.intro (And.intro (And.intro trivial trivial) (And.intro (And.intro (And.intro trivial (And.intro trivial trivial)) (And.intro trivial trivial)) trivial)) trivial))) (And.intro (And.intro (Exists.intro _ (And.intro (S.hd.glo 63 "without_end" (by kernel_rfl)) (f_without_end S))) (And.intro (And.intro trivial trivial) trivial)) trivial)))) (And.intro trivial trivial)))
theorem f_poly_rest (S : Hdp Γ fa fn gs ex) : FnIs Γ s_poly_rest e_poly_rest (He.fAd Γ.K ("poly_rest", none)) := FnIs.of rfl (by kernel_rfl) (S.hd.fnAt 54 s_poly_rest (d := fd_poly_rest) (by kernel_rfl) rfl rfl rfl rfl rfl rfl rfl) t_poly_rest (n_poly_rest S) k_poly_rest
abbrev fd_poly_times : He.DefD := ⟨("poly_times", none), "poly_times", "poly_times", defArgs (top 23), defBody (top 23), defScope (top 23), [], []⟩
theorem n_poly_times (S : Hdp Γ fa fn gs ex) : t_poly_times.need Γ := (And.intro (And.intro (And.intro trivial trivial) (And.intro trivial (And.intro (S.hd.free 29 "max" (by kernel_rfl)) (And.intro trivial (And.intro (And.intro (And.intro (And.intro trivial (And.intro (S.hd.free 6 "len" (by kernel_rfl)) (And.intro trivial trivial))) (And.intro trivial (And.intro (S.hd.free 6 "len" (by kernel_rfl)) (And.intro trivial trivial)))) trivial) trivial))))) (And.intro (And.intro (And.intro trivial (And.intro trivial trivial)) (And.intro (And.intro (S.hd.free 7 "enumerate" (by kernel_rfl)) trivial) (And.intro (And.intro (And.intro trivial (And.intro trivial trivial)) (And.intro (And.intro (S.hd.free 7 "enumerate" (by kernel_rfl)) trivial) (And.intro (And.intro (And.intro trivial trivial) (And.intro (And.intro (And.intro trivial (And.intro trivial trivial)) (And.intro trivial trivial)) trivial)) trivial))) trivial))) (And.intro (And.intro (Exists.intro _ (And.intro (S.hd.glo 64 "poly_rest" (by kernel_rfl)) (f_poly_rest S))) (And.intro (And.intro trivial (And.intro trivial (And.intro trivial trivial))) trivial)) trivial)))
theorem f_poly_times (S : Hdp Γ fa fn gs ex) : FnIs Γ s_poly_times e_poly_times (He.fAd Γ.K ("poly_times", none)) := FnIs.of rfl (by kernel_rfl) (S.hd.fnAt 55 s_poly_times (d := fd_poly_times) (by kernel_rfl) rfl rfl rfl rfl rfl rfl rfl) t_poly_times (n_poly_times S) k_poly_times
abbrev fd_told_number : He.DefD := ⟨("told_number", none), "told_number", "told_number", defArgs (top 32), defBody (top 32), defScope (top 32), [], []⟩
theorem n_told_number (S : Hdp Γ fa fn gs ex) : t_told_number.need Γ := (And.intro trivial (And.intro (And.intro trivial (And.intro trivial (And.intro (And.intro (And.intro trivial trivial) trivial) trivial))) (And.intro trivial trivial)))
theorem f_told_number (S : Hdp Γ fa fn gs ex) : FnIs Γ s_told_number e_told_number (He.fAd Γ.K ("told_number", none)) := FnIs.of rfl (by kernel_rfl) (S.hd.fnAt 56 s_told_number (d := fd_told_number) (by kernel_rfl) rfl rfl rfl rfl rfl rfl rfl) t_told_number (n_told_number S) k_told_number
abbrev fd_powers_by : He.DefD := ⟨("powers_by", none), "powers_by", "powers_by", defArgs (top 34), defBody (top 34), defScope (top 34), [], []⟩
theorem n_powers_by (S : Hdp Γ fa fn gs ex) : t_powers_by.need Γ := (And.intro (And.intro (And.intro (Exists.intro _ (And.intro (S.hd.glo 65 "poly_of" (by kernel_rfl)) (f_poly_of S))) (And.intro (And.intro trivial (And.intro trivial trivial)) trivial)) (And.intro (And.intro trivial trivial) (And.intro (And.intro (Exists.intro _ (And.intro (S.hd.glo 65 "poly_of" (by kernel_rfl)) (f_poly_of S))) (And.intro (And.intro trivial (And.intro trivial trivial)) trivial)) trivial))) (And.intro (And.intro (And.intro trivial (And.intro trivial trivial)) (And.intro (And.intro (Exists.intro _ (And.intro (S.hd.glo 66 "told_number" (by kernel_rfl)) (f_told_number S))) (And.intro (And.intro trivial (And.intro trivial trivial)) trivial)) (And.intro (And.intro (Exists.intro _ (And.intro (S.hd.glo 67 "poly_times" (by kernel_rfl)) (f_poly_times S))) (And.intro (And.intro trivial (And.intro trivial (And.intro trivial (And.intro trivial trivial)))) trivial)) trivial))) (And.intro trivial trivial)))
theorem f_powers_by (S : Hdp Γ fa fn gs ex) : FnIs Γ s_powers_by e_powers_by (He.fAd Γ.K ("powers_by", none)) := FnIs.of rfl (by kernel_rfl) (S.hd.fnAt 57 s_powers_by (d := fd_powers_by) (by kernel_rfl) rfl rfl rfl rfl rfl rfl rfl) t_powers_by (n_powers_by S) k_powers_by
abbrev fd_all_powers : He.DefD := ⟨("all_powers", none), "all_powers", "all_powers", defArgs (top 35), defBody (top 35), defScope (top 35), [], []⟩
theorem n_all_powers (S : Hdp Γ fa fn gs ex) : t_all_powers.need Γ := (And.intro trivial (And.intro (And.intro (Exists.intro _ (And.intro (S.hd.glo 68 "powers_by" (by kernel_rfl)) (f_powers_by S))) (And.intro (And.intro trivial (And.intro trivial (And.intro trivial trivial))) trivial)) (And.intro (And.intro (And.intro (And.intro trivial (And.intro (S.hd.free 6 "len" (by kernel_rfl)) (And.intro trivial trivial))) (And.intro trivial trivial)) (And.intro (And.intro trivial trivial) (And.intro (And.intro (Exists.intro _ (And.intro (S.hd.glo 68 "powers_by" (by kernel_rfl)) (f_powers_by S))) (And.intro (And.intro trivial (And.intro trivial (And.intro trivial trivial))) trivial)) trivial))) (And.intro trivial trivial))))
theorem f_all_powers (S : Hdp Γ fa fn gs ex) : FnIs Γ s_all_powers e_all_powers (He.fAd Γ.K ("all_powers", none)) := FnIs.of rfl (by kernel_rfl) (S.hd.fnAt 58 s_all_powers (d := fd_all_powers) (by kernel_rfl) rfl rfl rfl rfl rfl rfl rfl) t_all_powers (n_all_powers S) k_all_powers
abbrev fd_logs_by : He.DefD := ⟨("logs_by", none), "logs_by", "logs_by", defArgs (top 36), defBody (top 36), defScope (top 36), [], []⟩
theorem n_logs_by (S : Hdp Γ fa fn gs ex) : t_logs_by.need Γ := (And.intro (And.intro (And.intro trivial trivial) trivial) (And.intro (And.intro (And.intro trivial (And.intro trivial trivial)) (And.intro (And.intro (S.hd.free 7 "enumerate" (by kernel_rfl)) trivial) (And.intro (And.intro trivial trivial) trivial))) (And.intro trivial trivial)))
theorem f_logs_by (S : Hdp Γ fa fn gs ex) : FnIs Γ s_logs_by e_logs_by (He.fAd Γ.K ("logs_by", none)) := FnIs.of rfl (by kernel_rfl) (S.hd.fnAt 59 s_logs_by (d := fd_logs_by) (by kernel_rfl) rfl rfl rfl rfl rfl rfl rfl) t_logs_by (n_logs_by S) k_logs_by
abbrev fd_letter_turns : He.DefD := ⟨("letter_turns", none), "letter_turns", "letter_turns", defArgs (top 26), defBody (top 26), defScope (top 26), [], []⟩
theorem n_letter_turns (S : Hdp Γ fa fn gs ex) : t_letter_turns.need Γ := (And.intro (And.intro (And.intro (Exists.intro _ (And.intro (S.hd.glo 64 "poly_rest" (by kernel_rfl)) (f_poly_rest S))) (And.intro (And.intro trivial (And.intro (And.intro trivial (And.intro trivial trivial)) (And.intro trivial trivial))) trivial)) trivial) (And.intro (And.intro trivial (And.intro (And.intro (S.hd.free 3 "range" (by kernel_rfl)) (And.intro (And.intro trivial (And.intro (S.hd.free 6 "len" (by kernel_rfl)) (And.intro trivial trivial))) trivial)) (And.intro (And.intro trivial trivial) (And.intro (And.intro trivial (And.intro (And.intro (S.hd.free 3 "range" (by kernel_rfl)) trivial) (And.intro (And.intro (Exists.intro _ (And.intro (S.hd.glo 67 "poly_times" (by kernel_rfl)) (f_poly_times S))) (And.intro (And.intro trivial (And.intro trivial (And.intro (And.intro trivial trivial) (And.intro trivial trivial)))) trivial)) trivial))) (And.intro trivial trivial))))) (And.intro trivial trivial)))
theorem f_letter_turns (S : Hdp Γ fa fn gs ex) : FnIs Γ s_letter_turns e_letter_turns (He.fAd Γ.K ("letter_turns", none)) := FnIs.of rfl (by kernel_rfl) (S.hd.fnAt 60 s_letter_turns (d := fd_letter_turns) (by kernel_rfl) rfl rfl rfl rfl rfl rfl rfl) t_letter_turns (n_letter_turns S) k_letter_turns
abbrev fd_are_apart : He.DefD := ⟨("are_apart", none), "are_apart", "are_apart", defArgs (top 25), defBody (top 25), defScope (top 25), [], []⟩
theorem n_are_apart (S : Hdp Γ fa fn gs ex) : t_are_apart.need Γ := (And.intro (And.intro trivial (And.intro trivial trivial)) (And.intro (And.intro (And.intro (And.intro trivial (And.intro (S.hd.free 6 "len" (by kernel_rfl)) (And.intro trivial trivial))) trivial) (And.intro (And.intro trivial (And.intro (And.intro (Exists.intro _ (And.intro (S.hd.glo 64 "poly_rest" (by kernel_rfl)) (f_poly_rest S))) (And.intro (And.intro trivial (And.intro trivial (And.intro trivial trivial))) trivial)) trivial)) trivial)) (And.intro (And.intro (And.intro trivial (And.intro (S.hd.free 6 "len" (by kernel_rfl)) (And.intro trivial trivial))) trivial) trivial)))
theorem f_are_apart (S : Hdp Γ fa fn gs ex) : FnIs Γ s_are_apart e_are_apart (He.fAd Γ.K ("are_apart", none)) := FnIs.of rfl (by kernel_rfl) (S.hd.fnAt 61 s_are_apart (d := fd_are_apart) (by kernel_rfl) rfl rfl rfl rfl rfl rfl rfl) t_are_apart (n_are_apart S) k_are_apart
abbrev fd_is_prime : He.DefD := ⟨("is_prime", none), "is_prime", "is_prime", defArgs (top 28), defBody (top 28), defScope (top 28), [], []⟩
theorem n_is_prime (S : Hdp Γ fa fn gs ex) : t_is_prime.need Γ := (And.intro (And.intro trivial (And.intro (S.hd.free 20 "all" (by kernel_rfl)) (And.intro (And.intro trivial (And.intro (And.intro (S.hd.free 3 "range" (by kernel_rfl)) (And.intro trivial trivial)) (And.intro trivial (And.intro (And.intro trivial trivial) trivial)))) trivial))) trivial)
theorem f_is_prime (S : Hdp Γ fa fn gs ex) : FnIs Γ s_is_prime e_is_prime (He.fAd Γ.K ("is_prime", none)) := FnIs.of rfl (by kernel_rfl) (S.hd.fnAt 62 s_is_prime (d := fd_is_prime) (by kernel_rfl) rfl rfl rfl rfl rfl rfl rfl) t_is_prime (n_is_prime S) k_is_prime
abbrev fd_poly_less : He.DefD := ⟨("poly_less", none), "poly_less", "poly_less", defArgs (top 24), defBody (top 24), defScope (top 24), [], []⟩
theorem n_poly_less (S : Hdp Γ fa fn gs ex) : t_poly_less.need Γ := (And.intro (And.intro trivial (And.intro (S.hd.free 29 "max" (by kernel_rfl)) (And.intro (And.intro trivial (And.intro (S.hd.free 6 "len" (by kernel_rfl)) (And.intro trivial trivial))) (And.intro (And.intro trivial (And.intro (S.hd.free 6 "len" (by kernel_rfl)) (And.intro trivial trivial))) trivial)))) (And.intro (And.intro (And.intro trivial (And.intro (And.intro trivial trivial) (And.intro trivial (And.intro trivial (And.intro (S.hd.free 6 "len" (by kernel_rfl)) (And.intro trivial trivial)))))) (And.intro (And.intro trivial (And.intro (And.intro trivial trivial) (And.intro trivial (And.intro trivial (And.intro (S.hd.free 6 "len" (by kernel_rfl)) (And.intro trivial trivial)))))) trivial)) (And.intro (And.intro (Exists.intro _ (And.intro (S.hd.glo 63 "without_end" (by kernel_rfl)) (f_without_end S))) (And.intro (And.intro (And.intro (And.intro trivial (And.intro trivial trivial)) (And.intro (And.intro (S.hd.free 4 "zip" (by kernel_rfl)) (And.intro trivial trivial)) (And.intro trivial (And.intro (And.intro trivial trivial) trivial)))) trivial) trivial)) trivial)))
theorem f_poly_less (S : Hdp Γ fa fn gs ex) : FnIs Γ s_poly_less e_poly_less (He.fAd Γ.K ("poly_less", none)) := FnIs.of rfl (by kernel_rfl) (S.hd.fnAt 63 s_poly_less (d := fd_poly_less) (by kernel_rfl) rfl rfl rfl rfl rfl rfl rfl) t_poly_less (n_poly_less S) k_poly_less
abbrev fd_is_single : He.DefD := ⟨("is_single", none), "is_single", "is_single", defArgs (top 27), defBody (top 27), defScope (top 27), [], []⟩
theorem n_is_single (S : Hdp Γ fa fn gs ex) : t_is_single.need Γ := (And.intro (And.intro (And.intro trivial (And.intro trivial trivial)) (And.intro (And.intro (And.intro trivial (And.intro (S.hd.free 6 "len" (by kernel_rfl)) (And.intro trivial trivial))) trivial) (And.intro (And.intro (Exists.intro _ (And.intro (S.hd.glo 69 "letter_turns" (by kernel_rfl)) (f_letter_turns S))) (And.intro (And.intro trivial (And.intro trivial trivial)) trivial)) trivial))) (And.intro (And.intro (And.intro (And.intro trivial trivial) (And.intro trivial trivial)) (And.intro (And.intro trivial trivial) trivial)) (And.intro (And.intro trivial (And.intro (And.intro (S.hd.free 3 "range" (by kernel_rfl)) (And.intro trivial (And.intro trivial trivial))) (And.intro (And.intro (And.intro (And.intro trivial trivial) trivial) (And.intro (And.intro (Exists.intro _ (And.intro (S.hd.glo 70 "is_prime" (by kernel_rfl)) (f_is_prime S))) (And.intro (And.intro trivial trivial) trivial)) trivial)) trivial))) (And.intro (And.intro trivial (And.intro (S.hd.free 20 "all" (by kernel_rfl)) (And.intro (And.intro trivial (And.intro trivial (And.intro trivial (And.intro (Exists.intro _ (And.intro (S.hd.glo 71 "are_apart" (by kernel_rfl)) (f_are_apart S))) (And.intro (And.intro trivial (And.intro (And.intro trivial (And.intro (S.hd.free 5 "list" (by kernel_rfl)) (And.intro trivial trivial))) (And.intro (And.intro (Exists.intro _ (And.intro (S.hd.glo 72 "poly_less" (by kernel_rfl)) (f_poly_less S))) (And.intro (And.intro trivial (And.intro (And.intro trivial (And.intro trivial trivial)) (And.intro (And.intro trivial trivial) trivial))) trivial)) trivial))) trivial))))) trivial))) trivial))))
theorem f_is_single (S : Hdp Γ fa fn gs ex) : FnIs Γ s_is_single e_is_single (He.fAd Γ.K ("is_single", none)) := FnIs.of rfl (by kernel_rfl) (S.hd.fnAt 64 s_is_single (d := fd_is_single) (by kernel_rfl) rfl rfl rfl rfl rfl rfl rfl) t_is_single (n_is_single S) k_is_single
abbrev fd_is_right : He.DefD := ⟨("is_right", none), "is_right", "is_right", defArgs (top 31), defBody (top 31), defScope (top 31), [], []⟩
theorem n_is_right (S : Hdp Γ fa fn gs ex) : t_is_right.need Γ := (And.intro (And.intro (And.intro (And.intro (Exists.intro _ (And.intro (S.hd.glo 18 "is_list" (by kernel_rfl)) (f_is_list S))) (And.intro (And.intro trivial trivial) trivial)) (And.intro (And.intro trivial (And.intro (And.intro trivial (And.intro (S.hd.free 6 "len" (by kernel_rfl)) (And.intro trivial trivial))) (And.intro (S.hd.int 73 "MOST_TURNS" 12 (by kernel_rfl)) trivial))) (And.intro (And.intro (Exists.intro _ (And.intro (S.hd.glo 46 "is_figures" (by kernel_rfl)) (f_is_figures S))) (And.intro (And.intro trivial (And.intro trivial (And.intro (And.intro trivial (And.intro (S.hd.free 6 "len" (by kernel_rfl)) (And.intro trivial trivial))) trivial))) trivial)) trivial))) (And.intro (And.intro trivial trivial) trivial)) (And.intro (And.intro (And.intro (And.intro trivial trivial) trivial) (And.intro (And.intro (Exists.intro _ (And.intro (S.hd.glo 74 "is_single" (by kernel_rfl)) (f_is_single S))) (And.intro (And.intro trivial (And.intro (And.intro trivial (And.intro (S.hd.free 5 "list" (by kernel_rfl)) (And.intro trivial trivial))) trivial)) trivial)) trivial)) trivial))
theorem f_is_right (S : Hdp Γ fa fn gs ex) : FnIs Γ s_is_right e_is_right (He.fAd Γ.K ("is_right", none)) := FnIs.of rfl (by kernel_rfl) (S.hd.fnAt 65 s_is_right (d := fd_is_right) (by kernel_rfl) rfl rfl rfl rfl rfl rfl rfl) t_is_right (n_is_right S) k_is_right
abbrev fd_Field___init__ : He.DefD := ⟨("Field", some "__init__"), "__init__", "Field.__init__", defArgs (mth 38 0), defBody (mth 38 0), defScope (mth 38 0), [], []⟩
theorem n_Field___init__ (S : Hdp Γ fa fn gs ex) : t_Field___init__.need Γ := (And.intro (And.intro (Exists.intro _ (And.intro (S.hd.glo 75 "want_prime" (by kernel_rfl)) (f_want_prime S))) (And.intro (And.intro trivial trivial) trivial)) (And.intro (And.intro (And.intro (Exists.intro _ (And.intro (S.hd.glo 76 "is_right" (by kernel_rfl)) (f_is_right S))) (And.intro (And.intro trivial (And.intro trivial trivial)) trivial)) (And.intro (And.intro trivial trivial) trivial)) (And.intro (And.intro (Exists.intro _ (And.intro (S.hd.glo 77 "want_at_most" (by kernel_rfl)) (f_want_at_most S))) (And.intro (And.intro trivial (And.intro (S.hd.int 78 "MOST_SIZE" 128 (by kernel_rfl)) (And.intro (And.intro (Exists.intro _ (And.intro (S.hd.glo 79 "sized" (by kernel_rfl)) (f_sized S))) (And.intro (And.intro trivial (And.intro (And.intro (And.intro trivial (And.intro (S.hd.free 6 "len" (by kernel_rfl)) (And.intro trivial trivial))) trivial) trivial)) trivial)) trivial))) trivial)) (And.intro (And.intro (cf0 S) trivial) (And.intro (And.intro (cf0 S) (And.intro (And.intro trivial (And.intro (S.hd.free 6 "len" (by kernel_rfl)) (And.intro trivial trivial))) trivial)) (And.intro (And.intro (cf0 S) (And.intro (Exists.intro _ (And.intro (S.hd.glo 79 "sized" (by kernel_rfl)) (f_sized S))) (And.intro (And.intro trivial (And.intro (And.intro (And.intro trivial (And.intro (S.hd.free 6 "len" (by kernel_rfl)) (And.intro trivial trivial))) trivial) trivial)) trivial))) (And.intro (And.intro (cf0 S) (And.intro trivial (And.intro (S.hd.free 5 "list" (by kernel_rfl)) (And.intro trivial trivial)))) (And.intro (And.intro (cf0 S) (And.intro (Exists.intro _ (And.intro (S.hd.glo 80 "all_powers" (by kernel_rfl)) (f_all_powers S))) (And.intro (And.intro trivial (And.intro (And.intro trivial (And.intro (S.hd.free 5 "list" (by kernel_rfl)) (And.intro trivial trivial))) (And.intro (And.intro (Exists.intro _ (And.intro (S.hd.glo 79 "sized" (by kernel_rfl)) (f_sized S))) (And.intro (And.intro trivial (And.intro (And.intro (And.intro trivial (And.intro (S.hd.free 6 "len" (by kernel_rfl)) (And.intro trivial trivial))) trivial) trivial)) trivial)) trivial))) trivial))) (And.intro (And.intro (cf0 S) (And.intro (Exists.intro _ (And.intro (S.hd.glo 81 "logs_by" (by kernel_rfl)) (f_logs_by S))) (And.intro (And.intro (cf0 S) (And.intro (cf0 S) trivial)) trivial))) trivial)))))))))
theorem f_Field___init__ (S : Hdp Γ fa fn gs ex) : InitIs Γ 0 s_Field___init__ e_Field___init__ (He.fAd Γ.K ("Field", some "__init__")) := InitIs.of (c := 0) S.hd.cd (He.mkr_ok (S.hd.fact 99 (f := .mkr (cdT 0).1) (by kernel_rfl))) rfl (by kernel_rfl) (S.hd.fnAt 66 s_Field___init__ (d := fd_Field___init__) (by kernel_rfl) rfl rfl rfl rfl rfl rfl rfl) t_Field___init__ (n_Field___init__ S) k_Field___init__
abbrev fd__law_size : He.DefD := ⟨("_law_size", none), "_law_size", "_law_size", defArgs (top 90), defBody (top 90), defScope (top 90), [], []⟩
theorem n__law_size (S : Hdp Γ fa fn gs ex) : t__law_size.need Γ := (And.intro trivial (And.intro (And.intro trivial (And.intro (And.intro (S.hd.free 3 "range" (by kernel_rfl)) (And.intro (And.intro trivial (And.intro (S.hd.free 6 "len" (by kernel_rfl)) (And.intro (And.intro trivial trivial) trivial))) trivial)) (And.intro (And.intro trivial (And.intro trivial trivial)) trivial))) (And.intro trivial trivial)))
theorem f__law_size (S : Hdp Γ fa fn gs ex) : FnIs Γ s__law_size e__law_size (He.fAd Γ.K ("_law_size", none)) := FnIs.of rfl (by kernel_rfl) (S.hd.fnAt 67 s__law_size (d := fd__law_size) (by kernel_rfl) rfl rfl rfl rfl rfl rfl rfl) t__law_size (n__law_size S) k__law_size
abbrev fd_Field___repr__ : He.DefD := ⟨("Field", some "__repr__"), "__repr__", "Field.__repr__", defArgs (mth 38 6), defBody (mth 38 6), defScope (mth 38 6), [], []⟩
theorem hr_Field___repr__ (S : Hdp Γ fa fn gs ex) : HFacts Γ ⟨0, s_Field___repr__, [.lit "Field(", .fmt "own_prime", .lit ", ", .rep "own_modulus", .lit ")"], b_Field___repr___1⟩ := hrow_ok (cf0 S) (by kernel_rfl) (S.hd.fnAt 68 s_Field___repr__ (d := fd_Field___repr__) (by kernel_rfl) rfl rfl rfl rfl rfl rfl rfl) (x13 S)
abbrev fd__law_heard : He.DefD := ⟨("_law_heard", none), "_law_heard", "_law_heard", defArgs (top 92), defBody (top 92), defScope (top 92), [], []⟩
theorem n_lams (S : Hdp Γ fa fn gs ex) : lamNeed Γ lamTab := (And.intro (And.intro (Exists.intro _ (And.intro (S.hd.glo 39 "through" (by kernel_rfl)) (f_through S))) (And.intro (And.intro trivial (And.intro trivial (And.intro trivial trivial))) trivial)) (And.intro (And.intro (Exists.intro _ (And.intro (S.hd.glo 39 "through" (by kernel_rfl)) (f_through S))) (And.intro (And.intro trivial trivial) (And.intro (And.intro trivial trivial) (And.intro trivial trivial)))) (And.intro (And.intro (Exists.intro _ (And.intro (S.hd.glo 45 "table_of" (by kernel_rfl)) (f_table_of S))) (And.intro (And.intro trivial (And.intro trivial trivial)) trivial)) (And.intro (And.intro (Exists.intro _ (And.intro (S.hd.glo 48 "turner_by" (by kernel_rfl)) (f_turner_by S))) (And.intro (And.intro trivial (And.intro trivial trivial)) trivial)) (And.intro (And.intro (Exists.intro _ (And.intro (S.hd.glo 51 "as_map" (by kernel_rfl)) (f_as_map S))) (And.intro (And.intro trivial (And.intro trivial trivial)) trivial)) (And.intro (And.intro (Exists.intro _ (And.intro (S.hd.glo 52 "are_one_map" (by kernel_rfl)) (f_are_one_map S))) (And.intro (And.intro trivial (And.intro trivial (And.intro trivial trivial))) trivial)) (And.intro (And.intro (Exists.intro _ (And.intro (S.hd.glo 54 "map_rank" (by kernel_rfl)) (f_map_rank S))) (And.intro (And.intro trivial trivial) (And.intro trivial trivial))) (And.intro (And.intro (Exists.intro _ (And.intro (S.hd.glo 56 "dickson" (by kernel_rfl)) (f_dickson S))) (And.intro (And.intro trivial (And.intro trivial trivial)) trivial)) (And.intro (And.intro (Exists.intro _ (And.intro (S.hd.glo 58 "mirror" (by kernel_rfl)) (f_mirror S))) (And.intro (And.intro trivial trivial) (And.intro trivial trivial))) (And.intro (And.intro (Exists.intro _ (And.intro (S.hd.glo 45 "table_of" (by kernel_rfl)) (f_table_of S))) (And.intro (And.intro trivial (And.intro trivial trivial)) trivial)) (And.intro (And.intro (Exists.intro _ (And.intro (S.hd.glo 45 "table_of" (by kernel_rfl)) (f_table_of S))) (And.intro trivial (And.intro trivial trivial))) (And.intro (And.intro (Exists.intro _ (And.intro (S.hd.glo 51 "as_map" (by kernel_rfl)) (f_as_map S))) (And.intro (And.intro trivial (And.intro trivial trivial)) trivial)) (And.intro (And.intro (Exists.intro _ (And.intro (S.hd.glo 52 "are_one_map" (by kernel_rfl)) (f_are_one_map S))) (And.intro (And.intro trivial (And.intro trivial (And.intro trivial trivial))) trivial)) (And.intro (And.intro (Exists.intro _ (And.intro (S.hd.glo 52 "are_one_map" (by kernel_rfl)) (f_are_one_map S))) (And.intro trivial (And.intro (And.intro trivial trivial) (And.intro trivial trivial)))) (And.intro (And.intro (Exists.intro _ (And.intro (S.hd.glo 54 "map_rank" (by kernel_rfl)) (f_map_rank S))) (And.intro (And.intro trivial (And.intro trivial trivial)) trivial)) (And.intro (And.intro (Exists.intro _ (And.intro (S.hd.glo 56 "dickson" (by kernel_rfl)) (f_dickson S))) (And.intro (And.intro trivial (And.intro trivial trivial)) trivial)) (And.intro (And.intro (Exists.intro _ (And.intro (S.hd.glo 58 "mirror" (by kernel_rfl)) (f_mirror S))) (And.intro (And.intro trivial (And.intro trivial trivial)) trivial)) (And.intro (And.intro (Exists.intro _ (And.intro (S.hd.glo 58 "mirror" (by kernel_rfl)) (f_mirror S))) (And.intro trivial (And.intro trivial trivial))) (And.intro (And.intro (Exists.intro _ (And.intro (S.hd.glo 51 "as_map" (by kernel_rfl)) (f_as_map S))) (And.intro (And.intro trivial (And.intro (And.intro (And.intro (And.intro trivial trivial) trivial) trivial) trivial)) trivial)) (And.intro (And.intro (Exists.intro _ (And.intro (S.hd.glo 56 "dickson" (by kernel_rfl)) (f_dickson S))) (And.intro (And.intro trivial (And.intro trivial trivial)) trivial)) (And.intro (And.intro (Exists.intro _ (And.intro (S.hd.glo 52 "are_one_map" (by kernel_rfl)) (f_are_one_map S))) (And.intro (And.intro trivial (And.intro (And.intro (And.intro trivial trivial) trivial) (And.intro (And.intro trivial trivial) trivial))) trivial)) (And.intro (And.intro (Exists.intro _ (And.intro (S.hd.glo 39 "through" (by kernel_rfl)) (f_through S))) (And.intro (And.intro trivial (And.intro trivial (And.intro trivial trivial))) trivial)) (And.intro (And.intro (Exists.intro _ (And.intro (S.hd.glo 39 "through" (by kernel_rfl)) (f_through S))) (And.intro trivial (And.intro trivial (And.intro trivial trivial)))) (And.intro (And.intro (Exists.intro _ (And.intro (S.hd.glo 39 "through" (by kernel_rfl)) (f_through S))) (And.intro (And.intro trivial (And.intro (And.intro trivial (And.intro trivial trivial)) (And.intro trivial trivial))) trivial)) (And.intro (And.intro (Exists.intro _ (And.intro (S.hd.glo 39 "through" (by kernel_rfl)) (f_through S))) (And.intro trivial (And.intro (And.intro trivial (And.intro (S.hd.free 13 "tuple" (by kernel_rfl)) (And.intro (And.intro trivial (And.intro trivial trivial)) trivial))) (And.intro trivial trivial)))) (And.intro (And.intro (Exists.intro _ (And.intro (S.hd.glo 39 "through" (by kernel_rfl)) (f_through S))) (And.intro (And.intro trivial (And.intro trivial (And.intro (And.intro (And.intro (And.intro trivial trivial) trivial) trivial) trivial))) trivial)) (And.intro (And.intro (Exists.intro _ (And.intro (S.hd.glo 39 "through" (by kernel_rfl)) (f_through S))) (And.intro (And.intro trivial (And.intro (And.intro (And.intro trivial trivial) trivial) (And.intro (And.intro trivial trivial) trivial))) trivial)) (And.intro (And.intro (Exists.intro _ (And.intro (S.hd.glo 48 "turner_by" (by kernel_rfl)) (f_turner_by S))) (And.intro (And.intro trivial (And.intro trivial trivial)) trivial)) (And.intro (And.intro (Exists.intro _ (And.intro (S.hd.glo 48 "turner_by" (by kernel_rfl)) (f_turner_by S))) (And.intro (And.intro trivial (And.intro (And.intro trivial (And.intro trivial trivial)) trivial)) trivial)) (And.intro (And.intro (Exists.intro _ (And.intro (S.hd.glo 48 "turner_by" (by kernel_rfl)) (f_turner_by S))) (And.intro (And.intro trivial (And.intro trivial trivial)) (And.intro trivial trivial))) trivial))))))))))))))))))))))))))))))
theorem n__law_heard (S : Hdp Γ fa fn gs ex) (U : Γ.ug = [] ∧ Γ.lt = lamTab.map LamRow.L) : t__law_heard.need Γ := (And.intro (And.intro (And.intro (And.intro (S.hd.glo 84 "InvalidField" (by kernel_rfl)) (And.intro (x15 S) (And.intro trivial (And.intro (And.intro U.1 (And.intro (And.intro (hr_Field___repr__ S) trivial) (And.intro (S.hd.free 82 "repr" (by kernel_rfl)) (And.intro S.hd.xf (xfvB_ok (x12 S)))))) (And.intro (And.intro (S.hd.free 2 "isinstance" (by kernel_rfl)) (And.intro (x14 S) (S.hd.glo 83 "TurnError" (by kernel_rfl)))) trivial))))) (And.intro (And.intro (S.hd.glo 85 "InvalidTurner" (by kernel_rfl)) (And.intro (x17 S) (And.intro trivial (And.intro (And.intro U.1 (And.intro (And.intro (hr_Field___repr__ S) trivial) (And.intro (S.hd.free 82 "repr" (by kernel_rfl)) (And.intro S.hd.xf (xfvB_ok (x16 S)))))) (And.intro (And.intro (S.hd.free 2 "isinstance" (by kernel_rfl)) (And.intro (x14 S) (S.hd.glo 83 "TurnError" (by kernel_rfl)))) trivial))))) (And.intro (And.intro (S.hd.glo 86 "InvalidPoints" (by kernel_rfl)) (And.intro (x19 S) (And.intro trivial (And.intro (And.intro U.1 (And.intro (And.intro (hr_Field___repr__ S) trivial) (And.intro (S.hd.free 82 "repr" (by kernel_rfl)) (And.intro S.hd.xf (xfvB_ok (x18 S)))))) (And.intro (And.intro (S.hd.free 2 "isinstance" (by kernel_rfl)) (And.intro (x14 S) (S.hd.glo 83 "TurnError" (by kernel_rfl)))) trivial))))) (And.intro (And.intro (S.hd.glo 87 "InvalidElements" (by kernel_rfl)) (And.intro (x21 S) (And.intro trivial (And.intro (And.intro U.1 (And.intro (And.intro (hr_Field___repr__ S) trivial) (And.intro (S.hd.free 82 "repr" (by kernel_rfl)) (And.intro S.hd.xf (xfvB_ok (x20 S)))))) (And.intro (And.intro (S.hd.free 2 "isinstance" (by kernel_rfl)) (And.intro (x14 S) (S.hd.glo 83 "TurnError" (by kernel_rfl)))) trivial))))) (And.intro (And.intro (S.hd.glo 88 "InvalidTable" (by kernel_rfl)) (And.intro (x23 S) (And.intro trivial (And.intro (And.intro U.1 (And.intro (And.intro (hr_Field___repr__ S) trivial) (And.intro (S.hd.free 82 "repr" (by kernel_rfl)) (And.intro S.hd.xf (xfvB_ok (x22 S)))))) (And.intro (And.intro (S.hd.free 2 "isinstance" (by kernel_rfl)) (And.intro (x14 S) (S.hd.glo 83 "TurnError" (by kernel_rfl)))) trivial))))) trivial))))) (And.intro U.2 (n_lams S))) (And.intro (And.intro trivial trivial) trivial))
theorem f__law_heard (S : Hdp Γ fa fn gs ex) (U : Γ.ug = [] ∧ Γ.lt = lamTab.map LamRow.L) : FnIs Γ s__law_heard e__law_heard (He.fAd Γ.K ("_law_heard", none)) := FnIs.of rfl (by kernel_rfl) (S.hd.fnAt 69 s__law_heard (d := fd__law_heard) (by kernel_rfl) rfl rfl rfl rfl rfl rfl rfl) t__law_heard (n__law_heard S U) k__law_heard
abbrev fd__law_are : He.DefD := ⟨("_law_are", none), "_law_are", "_law_are", defArgs (top 93), defBody (top 93), defScope (top 93), [], []⟩
theorem n__law_are (S : Hdp Γ fa fn gs ex) (U : Γ.ug = [] ∧ Γ.lt = lamTab.map LamRow.L) : t__law_are.need Γ := (And.intro (And.intro trivial (And.intro (S.hd.free 20 "all" (by kernel_rfl)) (And.intro (And.intro trivial (And.intro trivial (And.intro trivial (And.intro (And.intro (Exists.intro _ (And.intro (S.hd.glo 89 "_law_heard" (by kernel_rfl)) (f__law_heard S U))) (And.intro (And.intro trivial trivial) trivial)) trivial)))) trivial))) trivial)
theorem f__law_are (S : Hdp Γ fa fn gs ex) (U : Γ.ug = [] ∧ Γ.lt = lamTab.map LamRow.L) : FnIs Γ s__law_are e__law_are (He.fAd Γ.K ("_law_are", none)) := FnIs.of rfl (by kernel_rfl) (S.hd.fnAt 70 s__law_are (d := fd__law_are) (by kernel_rfl) rfl rfl rfl rfl rfl rfl rfl) t__law_are (n__law_are S U) k__law_are
abbrev fd__law_fields_right : He.DefD := ⟨("_law_fields_right", none), "_law_fields_right", "_law_fields_right", defArgs (top 94), defBody (top 94), defScope (top 94), [], []⟩
theorem n__law_fields_right (S : Hdp Γ fa fn gs ex) (U : Γ.ug = [] ∧ Γ.lt = lamTab.map LamRow.L) : t__law_fields_right.need Γ := (And.intro (And.intro trivial (And.intro (And.intro trivial (And.intro trivial (And.intro trivial (And.intro trivial (And.intro trivial (And.intro (And.intro trivial (And.intro (And.intro trivial (And.intro trivial (And.intro trivial trivial))) trivial)) (And.intro (And.intro trivial (And.intro (And.intro trivial (And.intro trivial (And.intro trivial trivial))) trivial)) (And.intro trivial (And.intro (And.intro trivial (And.intro trivial (And.intro trivial (And.intro trivial trivial)))) trivial))))))))) (And.intro (And.intro (lt_0 U.2) (And.intro (lt_1 U.2) (And.intro (lt_2 U.2) (And.intro (lt_3 U.2) (And.intro (lt_4 U.2) (And.intro (lt_5 U.2) (And.intro (lt_6 U.2) (And.intro (lt_7 U.2) (And.intro (lt_8 U.2) trivial))))))))) (And.intro (And.intro (And.intro (Exists.intro _ (And.intro (S.hd.glo 90 "_law_are" (by kernel_rfl)) (And.intro (f__law_are S U).kp (fun b => f__law_are (S.bas b) U)))) (And.intro trivial (And.intro (And.intro (And.intro trivial (And.intro (And.intro U.1 (And.intro (And.intro (hr_Field___repr__ S) trivial) (And.intro (S.hd.free 82 "repr" (by kernel_rfl)) trivial))) (And.intro trivial trivial))) trivial) (And.intro (lt_0 U.2) (And.intro (lt_1 U.2) (And.intro (lt_2 U.2) (And.intro (lt_3 U.2) (And.intro (lt_4 U.2) (And.intro (lt_5 U.2) (And.intro (lt_6 U.2) (And.intro (lt_7 U.2) (And.intro (lt_8 U.2) trivial)))))))))))) (And.intro (And.intro trivial trivial) trivial)) trivial)))) (And.intro trivial trivial))
theorem f__law_fields_right (S : Hdp Γ fa fn gs ex) (U : Γ.ug = [] ∧ Γ.lt = lamTab.map LamRow.L) (M : MkOk Γ mkL) : FnIs Γ s__law_fields_right e__law_fields_right (He.fAd Γ.K ("_law_fields_right", none)) := FnIs.ofM rfl (by kernel_rfl) (S.hd.fnAt 71 s__law_fields_right (d := fd__law_fields_right) (by kernel_rfl) rfl rfl rfl rfl rfl rfl rfl) (mkF_ok M (by decide +kernel) (x24 S)) t__law_fields_right (n__law_fields_right S U) k__law_fields_right
abbrev fd__law_turners_right : He.DefD := ⟨("_law_turners_right", none), "_law_turners_right", "_law_turners_right", defArgs (top 95), defBody (top 95), defScope (top 95), [], []⟩
theorem n__law_turners_right (S : Hdp Γ fa fn gs ex) (U : Γ.ug = [] ∧ Γ.lt = lamTab.map LamRow.L) : t__law_turners_right.need Γ := (And.intro (And.intro trivial (And.intro (And.intro trivial (And.intro trivial (And.intro trivial (And.intro trivial (And.intro trivial (And.intro trivial (And.intro (And.intro trivial trivial) (And.intro (And.intro trivial trivial) (And.intro (And.intro trivial (And.intro trivial trivial)) (And.intro (And.intro trivial trivial) (And.intro (And.intro trivial (And.intro trivial trivial)) (And.intro (And.intro (And.intro trivial trivial) trivial) (And.intro (And.intro trivial trivial) (And.intro (And.intro (And.intro trivial trivial) trivial) (And.intro trivial (And.intro (And.intro trivial (And.intro (And.intro trivial trivial) trivial)) trivial)))))))))))))))) (And.intro (And.intro (lt_9 U.2) (And.intro (lt_10 U.2) (And.intro (lt_11 U.2) (And.intro (lt_12 U.2) (And.intro (lt_13 U.2) (And.intro (lt_14 U.2) (And.intro (lt_15 U.2) (And.intro (lt_16 U.2) (And.intro (lt_17 U.2) trivial))))))))) (And.intro (And.intro (And.intro (Exists.intro _ (And.intro (S.hd.glo 90 "_law_are" (by kernel_rfl)) (And.intro (f__law_are S U).kp (fun b => f__law_are (S.bas b) U)))) (And.intro trivial (And.intro (And.intro (And.intro trivial (And.intro (And.intro U.1 (And.intro (And.intro (hr_Field___repr__ S) trivial) (And.intro (S.hd.free 82 "repr" (by kernel_rfl)) trivial))) (And.intro trivial trivial))) trivial) (And.intro (lt_9 U.2) (And.intro (lt_10 U.2) (And.intro (lt_11 U.2) (And.intro (lt_12 U.2) (And.intro (lt_13 U.2) (And.intro (lt_14 U.2) (And.intro (lt_15 U.2) (And.intro (lt_16 U.2) (And.intro (lt_17 U.2) (And.intro (lt_18 U.2) (And.intro (lt_19 U.2) (And.intro (lt_20 U.2) trivial))))))))))))))) (And.intro (And.intro trivial trivial) trivial)) trivial)))) (And.intro (And.intro (Exists.intro _ (And.intro (S.hd.glo 90 "_law_are" (by kernel_rfl)) (And.intro (f__law_are S U).kp (fun b => f__law_are (S.bas b) U)))) (And.intro (And.intro (lt_18 U.2) (And.intro (lt_19 U.2) (And.intro (lt_20 U.2) trivial))) (And.intro (And.intro (And.intro trivial trivial) trivial) (And.intro (lt_9 U.2) (And.intro (lt_10 U.2) (And.intro (lt_11 U.2) (And.intro (lt_12 U.2) (And.intro (lt_13 U.2) (And.intro (lt_14 U.2) (And.intro (lt_15 U.2) (And.intro (lt_16 U.2) (And.intro (lt_17 U.2) (And.intro (lt_18 U.2) (And.intro (lt_19 U.2) (And.intro (lt_20 U.2) trivial))))))))))))))) trivial))
theorem f__law_turners_right (S : Hdp Γ fa fn gs ex) (U : Γ.ug = [] ∧ Γ.lt = lamTab.map LamRow.L) (M : MkOk Γ mkL) : FnIs Γ s__law_turners_right e__law_turners_right (He.fAd Γ.K ("_law_turners_right", none)) := FnIs.ofM rfl (by kernel_rfl) (S.hd.fnAt 72 s__law_turners_right (d := fd__law_turners_right) (by kernel_rfl) rfl rfl rfl rfl rfl rfl rfl) (mkF_ok M (by decide +kernel) (x25 S)) t__law_turners_right (n__law_turners_right S U) k__law_turners_right
abbrev fd__law_units : He.DefD := ⟨("_law_units", none), "_law_units", "_law_units", defArgs (top 91), defBody (top 91), defScope (top 91), [], []⟩
theorem n__law_units (S : Hdp Γ fa fn gs ex) : t__law_units.need Γ := (And.intro (And.intro trivial (And.intro trivial trivial)) (And.intro (And.intro trivial (And.intro (And.intro (S.hd.free 3 "range" (by kernel_rfl)) (And.intro (And.intro trivial (And.intro (S.hd.free 6 "len" (by kernel_rfl)) (And.intro (And.intro trivial trivial) trivial))) trivial)) (And.intro trivial (And.intro (And.intro trivial (And.intro trivial trivial)) trivial)))) (And.intro trivial trivial)))
theorem f__law_units (S : Hdp Γ fa fn gs ex) : FnIs Γ s__law_units e__law_units (He.fAd Γ.K ("_law_units", none)) := FnIs.of rfl (by kernel_rfl) (S.hd.fnAt 73 s__law_units (d := fd__law_units) (by kernel_rfl) rfl rfl rfl rfl rfl rfl rfl) t__law_units (n__law_units S) k__law_units
abbrev fd__law_points_right : He.DefD := ⟨("_law_points_right", none), "_law_points_right", "_law_points_right", defArgs (top 96), defBody (top 96), defScope (top 96), [], []⟩
theorem n__law_points_right (S : Hdp Γ fa fn gs ex) (U : Γ.ug = [] ∧ Γ.lt = lamTab.map LamRow.L) : t__law_points_right.need Γ := (And.intro (And.intro (Exists.intro _ (And.intro (S.hd.glo 91 "_law_units" (by kernel_rfl)) (f__law_units S))) (And.intro (And.intro trivial trivial) trivial)) (And.intro (And.intro trivial (And.intro trivial (And.intro trivial (And.intro trivial (And.intro trivial (And.intro trivial (And.intro trivial (And.intro trivial (And.intro (And.intro trivial trivial) (And.intro (And.intro trivial (And.intro trivial trivial)) (And.intro (And.intro trivial (And.intro trivial trivial)) (And.intro (And.intro trivial trivial) (And.intro (And.intro trivial trivial) (And.intro (And.intro trivial trivial) (And.intro (And.intro trivial (And.intro trivial trivial)) (And.intro (And.intro (And.intro trivial trivial) trivial) (And.intro (And.intro trivial (And.intro (And.intro trivial trivial) (And.intro (And.intro trivial (And.intro trivial trivial)) trivial))) (And.intro (And.intro trivial (And.intro trivial trivial)) trivial)))))))))))))))))) (And.intro (And.intro trivial (And.intro (And.intro trivial (And.intro (And.intro trivial (And.intro trivial trivial)) (And.intro (And.intro trivial (And.intro (And.intro (And.intro (And.intro trivial trivial) trivial) (And.intro (And.intro (And.intro trivial trivial) trivial) trivial)) trivial)) (And.intro (And.intro (And.intro trivial trivial) (And.intro (And.intro trivial trivial) trivial)) trivial)))) (And.intro (And.intro (lt_21 U.2) (And.intro (lt_22 U.2) trivial)) (And.intro (And.intro (And.intro (Exists.intro _ (And.intro (S.hd.glo 90 "_law_are" (by kernel_rfl)) (And.intro (f__law_are S U).kp (fun b => f__law_are (S.bas b) U)))) (And.intro trivial (And.intro (And.intro (And.intro trivial (And.intro (And.intro U.1 (And.intro (And.intro (hr_Field___repr__ S) trivial) (And.intro (S.hd.free 82 "repr" (by kernel_rfl)) trivial))) (And.intro trivial trivial))) trivial) (And.intro (lt_21 U.2) (And.intro (lt_22 U.2) (And.intro (lt_23 U.2) (And.intro (lt_24 U.2) (And.intro (lt_25 U.2) (And.intro (lt_26 U.2) (And.intro (lt_27 U.2) (And.intro (lt_28 U.2) (And.intro (lt_29 U.2) trivial)))))))))))) (And.intro (And.intro trivial trivial) trivial)) trivial)))) (And.intro (And.intro trivial (And.intro (And.intro trivial (And.intro trivial (And.intro trivial (And.intro trivial (And.intro trivial (And.intro trivial (And.intro trivial (And.intro (And.intro trivial trivial) (And.intro (And.intro trivial (And.intro trivial (And.intro trivial trivial))) (And.intro (And.intro trivial (And.intro trivial trivial)) (And.intro (And.intro trivial (And.intro trivial trivial)) (And.intro (And.intro trivial (And.intro trivial trivial)) (And.intro (And.intro trivial (And.intro trivial trivial)) (And.intro (And.intro (And.intro trivial trivial) (And.intro trivial trivial)) (And.intro (And.intro trivial (And.intro trivial trivial)) (And.intro (And.intro (And.intro trivial trivial) trivial) trivial)))))))))))))))) (And.intro (And.intro (lt_23 U.2) (And.intro (lt_24 U.2) trivial)) (And.intro (And.intro (And.intro (Exists.intro _ (And.intro (S.hd.glo 90 "_law_are" (by kernel_rfl)) (And.intro (f__law_are S U).kp (fun b => f__law_are (S.bas b) U)))) (And.intro trivial (And.intro (And.intro (And.intro trivial (And.intro (And.intro U.1 (And.intro (And.intro (hr_Field___repr__ S) trivial) (And.intro (S.hd.free 82 "repr" (by kernel_rfl)) trivial))) (And.intro trivial trivial))) trivial) (And.intro (lt_21 U.2) (And.intro (lt_22 U.2) (And.intro (lt_23 U.2) (And.intro (lt_24 U.2) (And.intro (lt_25 U.2) (And.intro (lt_26 U.2) (And.intro (lt_27 U.2) (And.intro (lt_28 U.2) (And.intro (lt_29 U.2) trivial)))))))))))) (And.intro (And.intro trivial trivial) trivial)) trivial)))) (And.intro (And.intro trivial (And.intro (And.intro (S.hd.free 3 "range" (by kernel_rfl)) trivial) (And.intro trivial (And.intro (And.intro trivial trivial) trivial)))) (And.intro (And.intro (And.intro (Exists.intro _ (And.intro (S.hd.glo 90 "_law_are" (by kernel_rfl)) (And.intro (f__law_are S U).kp (fun b => f__law_are (S.bas b) U)))) (And.intro (And.intro (lt_28 U.2) (And.intro (lt_29 U.2) trivial)) (And.intro (And.intro (And.intro trivial (And.intro (And.intro U.1 (And.intro (And.intro (hr_Field___repr__ S) trivial) (And.intro (S.hd.free 82 "repr" (by kernel_rfl)) (And.intro trivial (And.intro trivial trivial))))) (And.intro trivial trivial))) trivial) (And.intro (lt_21 U.2) (And.intro (lt_22 U.2) (And.intro (lt_23 U.2) (And.intro (lt_24 U.2) (And.intro (lt_25 U.2) (And.intro (lt_26 U.2) (And.intro (lt_27 U.2) (And.intro (lt_28 U.2) (And.intro (lt_29 U.2) trivial)))))))))))) (And.intro (And.intro trivial trivial) trivial)) (And.intro (And.intro (Exists.intro _ (And.intro (S.hd.glo 90 "_law_are" (by kernel_rfl)) (And.intro (f__law_are S U).kp (fun b => f__law_are (S.bas b) U)))) (And.intro (And.intro (lt_25 U.2) (And.intro (lt_26 U.2) (And.intro (lt_27 U.2) trivial))) (And.intro (And.intro (And.intro trivial trivial) trivial) (And.intro (lt_21 U.2) (And.intro (lt_22 U.2) (And.intro (lt_23 U.2) (And.intro (lt_24 U.2) (And.intro (lt_25 U.2) (And.intro (lt_26 U.2) (And.intro (lt_27 U.2) (And.intro (lt_28 U.2) (And.intro (lt_29 U.2) trivial)))))))))))) trivial)))))))
theorem f__law_points_right (S : Hdp Γ fa fn gs ex) (U : Γ.ug = [] ∧ Γ.lt = lamTab.map LamRow.L) (M : MkOk Γ mkL) : FnIs Γ s__law_points_right e__law_points_right (He.fAd Γ.K ("_law_points_right", none)) := FnIs.ofM rfl (by kernel_rfl) (S.hd.fnAt 74 s__law_points_right (d := fd__law_points_right) (by kernel_rfl) rfl rfl rfl rfl rfl rfl rfl) (mkF_ok M (by decide +kernel) (x26 S)) t__law_points_right (n__law_points_right S U) k__law_points_right
abbrev fd_law : He.DefD := ⟨("law", none), "law", "law", defArgs (top 97), defBody (top 97), defScope (top 97), [], []⟩
theorem n_law (S : Hdp Γ fa fn gs ex) (U : Γ.ug = [] ∧ Γ.lt = lamTab.map LamRow.L) (M : MkOk Γ mkL) : t_law.need Γ := (And.intro (And.intro (Exists.intro _ (And.intro (S.hd.glo 92 "_law_pick" (by kernel_rfl)) (f__law_pick S))) (And.intro (And.intro (And.intro (Exists.intro _ (And.intro (S.hd.glo 93 "_law_pot" (by kernel_rfl)) (f__law_pot S))) (And.intro (And.intro trivial (And.intro trivial trivial)) trivial)) (And.intro (And.intro (Exists.intro _ (And.intro (S.hd.glo 94 "_law_kinds" (by kernel_rfl)) (f__law_kinds S))) trivial) trivial)) trivial)) (And.intro (And.intro (And.intro (cf0 S) (And.intro (Exists.intro _ (f_Field___init__ S)) (And.intro (And.intro (And.intro trivial trivial) (And.intro (And.intro trivial trivial) trivial)) trivial))) (And.intro (And.intro (Exists.intro _ (And.intro (S.hd.glo 95 "_law_size" (by kernel_rfl)) (f__law_size S))) (And.intro (And.intro trivial trivial) trivial)) trivial)) (And.intro (And.intro (And.intro (Exists.intro _ (And.intro (S.hd.glo 96 "_law_fields_right" (by kernel_rfl)) (f__law_fields_right S U M))) trivial) (And.intro (And.intro (Exists.intro _ (And.intro (S.hd.glo 97 "_law_turners_right" (by kernel_rfl)) (f__law_turners_right S U M))) (And.intro (And.intro trivial (And.intro trivial trivial)) trivial)) (And.intro (And.intro (Exists.intro _ (And.intro (S.hd.glo 98 "_law_points_right" (by kernel_rfl)) (f__law_points_right S U M))) (And.intro (And.intro trivial (And.intro trivial (And.intro trivial (And.intro (And.intro (And.intro trivial (And.intro (S.hd.free 6 "len" (by kernel_rfl)) (And.intro (And.intro trivial trivial) trivial))) trivial) trivial)))) trivial)) trivial))) trivial)))
theorem f_law (S : Hdp Γ fa fn gs ex) (U : Γ.ug = [] ∧ Γ.lt = lamTab.map LamRow.L) (M : MkOk Γ mkL) : FnIs Γ s_law e_law (He.fAd Γ.K ("law", none)) := FnIs.of rfl (by kernel_rfl) (S.hd.fnAt 75 s_law (d := fd_law) (by kernel_rfl) rfl rfl rfl rfl rfl rfl rfl) t_law (n_law S U M) k_law
end
end Lw
end
section
set_option Elab.async false
set_option linter.all false
set_option maxRecDepth 100000
/-! EvS: the terms' answers as rewriting. -/
namespace Tp
open PySem
def lI (l : List Int) : List D := l.map .int
section
variable {α β : Type} {ρ : Env} {T : Cs}
theorem bind_ok' (a : α) (f : α → Cs → Ev β) : (Ev.ok a T).bind f = f a T := rfl
theorem bind_no (f : α → Cs → Ev β) : (Ev.no : Ev α).bind f = .no := rfl
theorem opt_some (a : α) : Ev.opt (some a) T = .ok a T := rfl
theorem opt_none : Ev.opt (none : Option α) T = .no := rfl
theorem cVar_e (i : Nat) : (cVar i).ev ρ T = Ev.opt (rdVar ρ[i]?) T := rfl
theorem rdVar_sh (d : D) : rdVar (some (some (.sh d))) = some (.v (.sh d)) := rfl
theorem rdVar_ow (d : List D) : rdVar (some (some (.ow d))) = some (.bw d) := rfl
theorem cInt_e (i : Int) : (cInt i).ev ρ T = .ok (.v (.sh (.int i))) T := rfl
theorem cBl_e (i : Bool) : (cBl i).ev ρ T = .ok (.v (.sh (.bl i))) T := rfl
theorem cNon_e : cNon.ev ρ T = .ok (.v (.sh .non)) T := rfl
theorem cStr_e (x : Str) : (cStr x).ev ρ T = .ok (.v (.sh (.str x))) T := rfl
theorem cGInt_e (x : Str) (i : Int) : (cGInt x i).ev ρ T = .ok (.v (.sh (.int i))) T := rfl
theorem cGTup_e (x : Str) (i : List D) : (cGTup x i).ev ρ T = .ok (.v (.sh (.tup i))) T := rfl
theorem cBin_e (o : Op2) (a b : CE) : (cBin o a b).ev ρ T = (a.ev ρ T).bind fun x T1 => (b.ev ρ T1).bind fun y T2 => Ev.opt (o.f [x, y]) T2 := rfl
theorem cCmp_e (o : Cp2) (a b : CE) : (cCmp o a b).ev ρ T = (a.ev ρ T).bind fun x T1 => (b.ev ρ T1).bind fun y T2 => Ev.opt (o.f [x, y]) T2 := rfl
theorem tCmp_e (o : Cp2) (a b : CE) : (tCmp o a b).ev ρ T = ((a.ev ρ T).bind fun x T1 => (b.ev ρ T1).bind fun y T2 => Ev.opt (o.f [x, y]) T2).bind fun x T1 => Ev.opt (rBl x) T1 := rfl
theorem tVal_e (a : CE) : (tVal a).ev ρ T = (a.ev ρ T).bind fun x T1 => Ev.opt (rBl x) T1 := rfl
theorem tNotT_e (a : CT) : (tNotT a).ev ρ T = (a.ev ρ T).bind fun b T1 => .ok (!b) T1 := rfl
theorem rBl_e (b : Bool) : rBl (.v (.sh (.bl b))) = some b := rfl
theorem add_f : oAdd.f = fAdd := rfl
theorem sub_f : oSub.f = iF subI := rfl
theorem mul_f : oMul.f = fMul := rfl
theorem div_f : oDiv.f = iF divI := rfl
theorem mod_f : oMod.f = iF modI := rfl
theorem lt_f : oLt.f = iF ltI := rfl
theorem le_f : oLe.f = iF leI := rfl
theorem gt_f : oGt.f = iF gtI := rfl
theorem ge_f : oGe.f = iF geI := rfl
theorem eq_f : oEq.f = fEq := rfl
theorem ne_f : oNe.f = fNe := rfl
theorem add_i (i j : Int) : fAdd [.v (.sh (.int i)), .v (.sh (.int j))] = some (.v (.sh (.int (i + j)))) := rfl
theorem sub_i (i j : Int) : iF subI [.v (.sh (.int i)), .v (.sh (.int j))] = some (.v (.sh (.int (i - j)))) := rfl
theorem lt_i (i j : Int) : iF ltI [.v (.sh (.int i)), .v (.sh (.int j))] = some (.v (.sh (.bl (decide (i < j))))) := rfl
theorem le_i (i j : Int) : iF leI [.v (.sh (.int i)), .v (.sh (.int j))] = some (.v (.sh (.bl (decide (i ≤ j))))) := rfl
theorem gt_i (i j : Int) : iF gtI [.v (.sh (.int i)), .v (.sh (.int j))] = some (.v (.sh (.bl (decide (j < i))))) := rfl
theorem ge_i (i j : Int) : iF geI [.v (.sh (.int i)), .v (.sh (.int j))] = some (.v (.sh (.bl (decide (j ≤ i))))) := rfl
theorem eq_i (i j : Int) : fEq [.v (.sh (.int i)), .v (.sh (.int j))] = some (.v (.sh (.bl (decide (i = j))))) := rfl
theorem ne_i (i j : Int) : fNe [.v (.sh (.int i)), .v (.sh (.int j))] = some (.v (.sh (.bl (!decide (i = j))))) := rfl
theorem div_i (i : Int) {j : Int} (h : 0 < j) (h2 : j < 1073741824) : iF divI [.v (.sh (.int i)), .v (.sh (.int j))] = some (.v (.sh (.int (i / j)))) := by
  show (divI i j).map _ = _
  unfold divI; rw [if_pos ⟨h, h2⟩]; rfl
theorem mod_i (i : Int) {j : Int} (h : 0 < j) : iF modI [.v (.sh (.int i)), .v (.sh (.int j))] = some (.v (.sh (.int (i % j)))) := by
  show (modI i j).map _ = _
  unfold modI; rw [if_pos h]; rfl
theorem mul_r (i : Int) {j : Int} (h : -18446744073709551616 < j) (h2 : j < 18446744073709551616) : fMul [.v (.sh (.int i)), .v (.sh (.int j))] = some (.v (.sh (.int (i * j)))) := by
  show (mulI i j).map _ = _
  unfold mulI bigB; rw [if_pos (.inr ⟨h, h2⟩)]; rfl
theorem mul_l {i : Int} (j : Int) (h : -18446744073709551616 < i) (h2 : i < 18446744073709551616) : fMul [.v (.sh (.int i)), .v (.sh (.int j))] = some (.v (.sh (.int (i * j)))) := by
  show (mulI i j).map _ = _
  unfold mulI bigB; rw [if_pos (.inl ⟨h, h2⟩)]; rfl
theorem evD_e (a : Env → Cs → Ev R) : evD a ρ T = (a ρ T).bind fun r T1 => Ev.opt (rD r) T1 := rfl
theorem rD_sh (d : D) : rD (.v (.sh d)) = some d := rfl
theorem rD_ow (d : List D) : rD (.v (.ow d)) = some (.lst d) := rfl
theorem dNil_e : dNil.ev ρ T = .ok [] T := rfl
theorem dCons_e (a : CE) (r : CD) : (dCons a r).ev ρ T = (evD a.ev ρ T).bind fun d T1 => (r.ev ρ T1).bind fun ds T2 => .ok (d :: ds) T2 := rfl
theorem aNil_e : aNil.ev ρ T = .ok [] T := rfl
theorem aCons_e (a : CE) (r : CA) : (aCons a r).ev ρ T = (a.ev ρ T).bind fun d T1 => (r.ev ρ T1).bind fun ds T2 => .ok (d :: ds) T2 := rfl
theorem wNil_e : wNil.ev ρ T = .ok [] T := rfl
theorem wCons_e (x : Str) (a : CE) (r : CKw) : (wCons x a r).ev ρ T = (evD a.ev ρ T).bind fun d T1 => (r.ev ρ T1).bind fun ds T2 => .ok (d :: ds) T2 := rfl
theorem cLst_e (d : CD) : (cLst d).ev ρ T = (d.ev ρ T).bind fun ds T1 => Ev.opt (if ds.length ≤ lim then some (.v (.ow ds)) else none) T1 := rfl
theorem cTup_e (d : CD) : (cTup d).ev ρ T = (d.ev ρ T).bind fun ds T1 => Ev.opt (if ds.length ≤ lim then some (.v (.sh (.tup ds))) else none) T1 := rfl
theorem cIx_e (a b : CE) : (cIx a b).ev ρ T = (a.ev ρ T).bind fun x T1 => (b.ev ρ T1).bind fun y T2 => Ev.opt (fIx T2 x y) T2 := rfl
theorem cSlice_e (a : CE) (lo hi : Option CE) : (cSlice a lo hi).ev ρ T = (a.ev ρ T).bind fun x T1 => (evP lo ρ T1).bind fun l T2 => (evP hi ρ T2).bind fun u T3 => Ev.opt (fSl x l u) T3 := rfl
theorem evP_n : evP none ρ T = .ok none T := rfl
def pK (r : R) (T1 : Cs) : Ev (Option Int) := match r with
    | .v (.sh (.int i)) => .ok (some i) T1
    | _ => .no
theorem pK_i (i : Int) : pK (.v (.sh (.int i))) T = .ok (some i) T := rfl
theorem evP_s (a : CE) : evP (some a) ρ T = (a.ev ρ T).bind pK := rfl
theorem cRev_e (a : CE) : (cRev a).ev ρ T = (a.ev ρ T).bind fun x T1 => Ev.opt ((rLs2 x).map fun xs => .v (.ow xs.reverse)) T1 := rfl
theorem rLs2_l (xs : List D) : rLs2 (.v (.sh (.lst xs))) = some xs := rfl
theorem rLs2_f (xs : List D) : rLs2 (.v (.sh (.fz xs))) = some xs := rfl
theorem rLs2_o (xs : List D) : rLs2 (.v (.ow xs)) = some xs := rfl
theorem rLs2_b (xs : List D) : rLs2 (.bw xs) = some xs := rfl
def negK (x : R) : Option R := match x with
    | .v (.sh (.int i)) => some (.v (.sh (.int (-i))))
    | _ => none
theorem cNeg_e (a : CE) : (cNeg a).ev ρ T = (a.ev ρ T).bind fun x T1 => Ev.opt (negK x) T1 := rfl
theorem negK_i (i : Int) : negK (.v (.sh (.int i))) = some (.v (.sh (.int (-i)))) := rfl
theorem tAnd_e (ts : List CT) : (tAnd ts).ev ρ T = andEv ts ρ T := rfl
theorem tOr_e (ts : List CT) : (tOr ts).ev ρ T = orEv ts ρ T := rfl
theorem andEv_1 (a : CT) : andEv [a] ρ T = a.ev ρ T := rfl
theorem andEv_2 (a b : CT) (r : List CT) : andEv (a :: b :: r) ρ T = (a.ev ρ T).bind fun k T1 => if k then andEv (b :: r) ρ T1 else .ok false T1 := rfl
theorem orEv_1 (a : CT) : orEv [a] ρ T = a.ev ρ T := rfl
theorem orEv_2 (a b : CT) (r : List CT) : orEv (a :: b :: r) ρ T = (a.ev ρ T).bind fun k T1 => if k then .ok true T1 else orEv (b :: r) ρ T1 := rfl
theorem cAnd_e (ts : List CE) : (cAnd ts).ev ρ T = andVe ts ρ T := rfl
theorem cOr_e (ts : List CE) : (cOr ts).ev ρ T = orVe ts ρ T := rfl
theorem andVe_1 (a : CE) : andVe [a] ρ T = a.ev ρ T := rfl
def andK (o : Option Bool) (e : Ev R) (T1 : Cs) : Ev R := match o with
    | some true => e
    | some false => .ok (.v (.sh (.bl false))) T1
    | none => .no
theorem andVe_2 (a b : CE) (r : List CE) : andVe (a :: b :: r) ρ T = (a.ev ρ T).bind fun x T1 => andK (rBl x) (andVe (b :: r) ρ T1) T1 := rfl
theorem andK_b (b : Bool) (e : Ev R) : andK (some b) e T = if b = true then e else .ok (.v (.sh (.bl false))) T := by cases b <;> rfl
theorem orVe_1 (a : CE) : orVe [a] ρ T = a.ev ρ T := rfl
def orK (o : Option Bool) (e : Ev R) (T1 : Cs) : Ev R := match o with
    | some true => .ok (.v (.sh (.bl true))) T1
    | some false => e
    | none => .no
theorem orVe_2 (a b : CE) (r : List CE) : orVe (a :: b :: r) ρ T = (a.ev ρ T).bind fun x T1 => orK (rBl x) (orVe (b :: r) ρ T1) T1 := rfl
theorem orK_b (b : Bool) (e : Ev R) : orK (some b) e T = if b = true then .ok (.v (.sh (.bl true))) T else e := by cases b <;> rfl
theorem cIte_e (c : CT) (a b : CE) : (cIte c a b).ev ρ T = (c.ev ρ T).bind fun k T1 => if k then a.ev ρ T1 else b.ev ρ T1 := rfl
theorem cNot_e (a : CE) : (cNot a).ev ρ T = (a.ev ρ T).bind fun x T1 => Ev.opt ((rBl x).map fun k => .v (.sh (.bl (!k)))) T1 := rfl
theorem cBlt_e (b : Blt) (a : CA) : (cBlt b a).ev ρ T = (a.ev ρ T).bind fun rs T1 => Ev.opt (b.f rs) T1 := rfl
theorem sEnd_e : sEnd.ev ρ T = .ok (.nx ρ) T := rfl
theorem sSeq_e (a : C1) (r : CS) : (sSeq a r).ev ρ T = (a.ev ρ T).bind fun f T1 => thenS f r.ev T1 := rfl
theorem thenS_nx (r : Env → Cs → Ev Fl) : thenS (.nx ρ) r T = r ρ T := rfl
theorem thenS_rt (lv : LV) (r : Env → Cs → Ev Fl) : thenS (.rt lv) r T = .ok (.rt lv) T := rfl
theorem thenS_bk (r : Env → Cs → Ev Fl) : thenS (.bk ρ) r T = .ok (.bk ρ) T := rfl
theorem thenS_ct (r : Env → Cs → Ev Fl) : thenS (.ct ρ) r T = .ok (.ct ρ) T := rfl
theorem sForget_e (is : List Nat) (r : CS) : (sForget is r).ev ρ T = r.ev (forget ρ is) T := rfl
def frzK (r : Env → Cs → Ev Fl) (i : Nat) (ρ : Env) (T : Cs) (o : Option (Option LV)) : Ev Fl := match o with
    | some (some lv) => (match frzLV lv with
      | some lv' => r (ρ.set i (some lv')) T
      | none => .no)
    | _ => .no
theorem sFrz_e (i : Nat) (r : CS) : (sFrz i r).ev ρ T = frzK r.ev i ρ T (ρ[i]?) := rfl
theorem frzK_o (r : Env → Cs → Ev Fl) (i : Nat) (xs : List D) : frzK r i ρ T (some (some (.ow xs))) = r (ρ.set i (some (.sh (.lst xs)))) T := rfl
theorem frzK_s (r : Env → Cs → Ev Fl) (i : Nat) (d : D) : frzK r i ρ T (some (some (.sh d))) = r (ρ.set i (some (.sh d))) T := rfl
def asgK (i : Nat) (ρ : Env) (o : Option LV) (T1 : Cs) : Ev Fl := match o with
    | some lv => if i < ρ.length then .ok (.nx (ρ.set i (some lv))) T1 else .no
    | none => .no
theorem sAsg_e (i : Nat) (keep : Bool) (a : CE) : (sAsg i keep a).ev ρ T = (a.ev ρ T).bind fun r T1 => asgK i ρ (asLV keep r) T1 := rfl
theorem asgK_s (i : Nat) (lv : LV) : asgK i ρ (some lv) T = if i < ρ.length then .ok (.nx (ρ.set i (some lv))) T else .no := rfl
theorem asLV_k (lv : LV) : asLV true (.v lv) = some lv := rfl
theorem asLV_s (d : D) : asLV false (.v (.sh d)) = some (.sh d) := rfl
theorem asLV_o (xs : List D) : asLV false (.v (.ow xs)) = some (.sh (.lst xs)) := rfl
def retK (o : Option LV) (T1 : Cs) : Ev Fl := match o with
    | some lv => .ok (.rt lv) T1
    | none => .no
theorem sRet_e (a : CE) : (sRet a).ev ρ T = (a.ev ρ T).bind fun r T1 => retK (retLV r) T1 := rfl
theorem retK_s (lv : LV) : retK (some lv) T = .ok (.rt lv) T := rfl
theorem retLV_s (d : D) : retLV (.v (.sh d)) = some (.sh d) := rfl
theorem retLV_o (xs : List D) : retLV (.v (.ow xs)) = some (.ow xs) := rfl
theorem retLV_b (xs : List D) : retLV (.bw xs) = some (.ow xs) := rfl
theorem sPass_e : sPass.ev ρ T = .ok (.nx ρ) T := rfl
theorem sExpr_e (a : CE) : (sExpr a).ev ρ T = (a.ev ρ T).bind fun _ T1 => .ok (.nx ρ) T1 := rfl
theorem sIf_e (c : CT) (a b : CS) : (sIf c a b).ev ρ T = (c.ev ρ T).bind fun k T1 => if k then a.ev ρ T1 else b.ev ρ T1 := rfl
theorem sWhile_e (m : Nat) (c : CT) (b : CS) : (sWhile m c b).ev ρ T = whileEv c.ev b.ev m ρ T := rfl
def appK (i : Nat) (a : CE) (ρ : Env) (T : Cs) (o : Option (Option LV)) : Ev Fl := match o with
    | some (some (.ow xs)) => (evD a.ev ρ T).bind fun d T1 => if xs.length < lim then .ok (.nx (ρ.set i (some (.ow (xs ++ [d]))))) T1 else .no
    | _ => .no
theorem sAppend_e (i : Nat) (a : CE) : (sAppend i a).ev ρ T = appK i a ρ T (ρ[i]?) := rfl
theorem appK_o (i : Nat) (a : CE) (xs : List D) : appK i a ρ T (some (some (.ow xs))) = (evD a.ev ρ T).bind fun d T1 => if xs.length < lim then .ok (.nx (ρ.set i (some (.ow (xs ++ [d]))))) T1 else .no := rfl
theorem gNm_e (i : Nat) (d : D) : (gNm i).ev d ρ T = if i < ρ.length then .ok (ρ.set i (some (.sh d))) T else .no := rfl
def gixK (j : Nat) (a : CE) (d : D) (ρ : Env) (T : Cs) (o : Option (Option LV)) : Ev Env := match o with
    | some (some (.ow xs)) => (a.ev ρ T).bind fun r T1 => (match setAt xs r d with
      | some ys => .ok (ρ.set j (some (.ow ys))) T1
      | none => .no)
    | some (some (.sh (.cell m))) => (a.ev ρ T).bind fun r T1 => (match T1[m]? with
      | some xs => (match setAt xs r d with
        | some ys => .ok ρ (T1.set m ys)
        | none => .no)
      | none => .no)
    | _ => .no
theorem gIx_e (j : Nat) (a : CE) (d : D) : (gIx j a).ev d ρ T = gixK j a d ρ T (ρ[j]?) := rfl
def gixO (j : Nat) (ρ : Env) (o : Option (List D)) (T1 : Cs) : Ev Env := match o with
  | some ys => .ok (ρ.set j (some (.ow ys))) T1
  | none => .no
def gixC (m : Nat) (d : D) (r : R) (ρ : Env) (T1 : Cs) (o : Option (List D)) : Ev Env := match o with
  | some xs => (match setAt xs r d with
        | some ys => .ok ρ (T1.set m ys)
        | none => .no)
  | none => .no
theorem gixK_o (j : Nat) (a : CE) (d : D) (xs : List D) : gixK j a d ρ T (some (some (.ow xs))) = (a.ev ρ T).bind fun r T1 => gixO j ρ (setAt xs r d) T1 := rfl
theorem gixK_c (j : Nat) (a : CE) (d : D) (m : Nat) : gixK j a d ρ T (some (some (.sh (.cell m)))) = (a.ev ρ T).bind fun r T1 => gixC m d r ρ T1 (T1[m]?) := rfl
theorem gixO_s (j : Nat) (ys : List D) : gixO j ρ (some ys) T = .ok (ρ.set j (some (.ow ys))) T := rfl
theorem gixC_s (m : Nat) (d : D) (r : R) (xs ys : List D) (h : setAt xs r d = some ys) : gixC m d r ρ T (some xs) = .ok ρ (T.set m ys) := by simp only [gixC, h]
theorem gTp_e (gs : List CG) (ds : List D) : (gTp gs).ev (.tup ds) ρ T = if ds.length = gs.length then evGs gs ds ρ T else .no := rfl
theorem evGs_n : evGs [] [] ρ T = .ok ρ T := rfl
theorem evGs_c (g : CG) (gs : List CG) (d : D) (ds : List D) : evGs (g :: gs) (d :: ds) ρ T = (g.ev d ρ T).bind fun ρ1 T1 => evGs gs ds ρ1 T1 := rfl
theorem sAsgG_e (t : CG) (a : CE) : (sAsgG t a).ev ρ T = (evD a.ev ρ T).bind fun d T1 => (t.ev d ρ T1).bind fun ρ' T2 => .ok (.nx ρ') T2 := rfl
theorem kNil_e : kNil.ev ρ T = .ok [] T := rfl
def konK (o : Option LV) (e : Ev (List LV)) : Ev (List LV) := match o with
    | some lv => e.bind fun ls T2 => .ok (lv :: ls) T2
    | none => .no
theorem kCons_e (keep : Bool) (a : CE) (r : CK) : (kCons keep a r).ev ρ T = (a.ev ρ T).bind fun x T1 => konK (asLV keep x) (r.ev ρ T1) := rfl
theorem konK_s (lv : LV) (e : Ev (List LV)) : konK (some lv) e = e.bind fun ls T2 => .ok (lv :: ls) T2 := rfl
theorem sPar_e (is : List Nat) (c : CK) : (sPar is c).ev ρ T = (c.ev ρ T).bind fun ls T1 => if is.all fun i => decide (i < ρ.length) then .ok (.nx (setAll ρ is ls)) T1 else .no := rfl
theorem sParT_e (is : List Nat) (c : CK) : (sParT is c).ev ρ T = (c.ev ρ T).bind fun ls T1 => if is.all fun i => decide (i < ρ.length) then .ok (.nx (setAll ρ is ls)) T1 else .no := rfl
theorem setAll_c {α : Type} (σ : List (Option α)) (i : Nat) (is : List Nat) (v : α) (vs : List α) : setAll σ (i :: is) (v :: vs) = setAll (σ.set i (some v)) is vs := rfl
theorem setAll_n {α : Type} (σ : List (Option α)) : setAll σ [] [] = σ := rfl
theorem sFor_e (t : CG) (i : CI) (b : CS) : (sFor t i b).ev ρ T = (i.ev ρ T).bind fun ds T1 => forEv t.ev b.ev ds ρ T1 := rfl
theorem iLst_e (a : CE) : (iLst a).ev ρ T = (evD a.ev ρ T).bind fun d T1 => Ev.opt (dLst d) T1 := rfl
theorem dLst_l (xs : List D) : dLst (.lst xs) = some xs := rfl
theorem dLst_f (xs : List D) : dLst (.fz xs) = some xs := rfl
theorem bnd62_t {i : Int} (h1 : -4611686018427387904 ≤ i) (h2 : i < 4611686018427387904) : bnd62 i = true := by unfold bnd62; simp [h1, h2]
def rn1 (r : R) : Option (List D) := match r with
  | .v (.sh (.int j)) => if bnd62 j then some (rangeD 0 1 j.toNat) else none
  | _ => none
def rn2 (r r2 : R) : Option (List D) := match r, r2 with
  | .v (.sh (.int i)), .v (.sh (.int j)) => if bnd62 i && bnd62 j then some (rangeD i 1 (j - i).toNat) else none
  | _, _ => none
def rn3 (r r2 r3 : R) : Option (List D) := match r, r2, r3 with
  | .v (.sh (.int i)), .v (.sh (.int j)), .v (.sh (.int l)) => rng3 i j l
  | _, _, _ => none
theorem rn1_i {j : Int} (h1 : -4611686018427387904 ≤ j) (h2 : j < 4611686018427387904) : rn1 (.v (.sh (.int j))) = some (rangeD 0 1 j.toNat) := if_pos (bnd62_t h1 h2)
theorem rn2_i {i j : Int} (h1 : -4611686018427387904 ≤ j) (h2 : j < 4611686018427387904) (h3 : -4611686018427387904 ≤ i) (h4 : i < 4611686018427387904) : rn2 (.v (.sh (.int i))) (.v (.sh (.int j))) = some (rangeD i 1 (j - i).toNat) := if_pos (by rw [bnd62_t h1 h2, bnd62_t h3 h4]; rfl)
theorem rn3_i {i j : Int} (h1 : -4611686018427387904 ≤ j) (h2 : j < 4611686018427387904) (h3 : -4611686018427387904 ≤ i) (h4 : i < 4611686018427387904) : rn3 (.v (.sh (.int i))) (.v (.sh (.int j))) (.v (.sh (.int (-1)))) = some (rangeD i (-1) (i - j).toNat) := by
  show rng3 i j (-1) = _
  unfold rng3
  rw [if_pos (by rw [bnd62_t h1 h2, bnd62_t h3 h4]; rfl), if_pos rfl]
theorem iRange1_e (a : CE) : (iRange1 a).ev ρ T = (a.ev ρ T).bind fun r T1 => Ev.opt (rn1 r) T1 := rfl
theorem iRange2_e (a b : CE) : (iRange2 a b).ev ρ T = (a.ev ρ T).bind fun r T1 => (b.ev ρ T1).bind fun r2 T2 => Ev.opt (rn2 r r2) T2 := rfl
theorem iRange3_e (a b c : CE) : (iRange3 a b c).ev ρ T = (a.ev ρ T).bind fun r T1 => (b.ev ρ T1).bind fun r2 T2 => (c.ev ρ T2).bind fun r3 T3 => Ev.opt (rn3 r r2 r3) T3 := rfl
def zipK (a b : Option (List D)) : Option (List D) := match a, b with
    | some xs, some ys => some (zipD xs ys)
    | _, _ => none
theorem iZip2_e (a b : CE) : (iZip2 a b).ev ρ T = (evD a.ev ρ T).bind fun x T1 => (evD b.ev ρ T1).bind fun y T2 => Ev.opt (zipK (dLst x) (dLst y)) T2 := rfl
theorem zipK_s (xs ys : List D) : zipK (some xs) (some ys) = some (zipD xs ys) := rfl
def chK (o : Option Bool) (e : Ev R) (T2 : Cs) : Ev R := match o with
  | some true => e
  | some false => .ok (.v (.sh (.bl false))) T2
  | none => .no
theorem tChn_e (o o' : Cp2) (a b c : CE) : (tChn o o' a b c).ev ρ T = ((a.ev ρ T).bind fun x T1 => (b.ev ρ T1).bind fun y T2 => chK ((o.f [x, y]).bind rBl) ((c.ev ρ T2).bind fun z T3 => Ev.opt (o'.f [y, z]) T3) T2).bind fun x T1 => Ev.opt (rBl x) T1 := rfl
theorem cChain_e (o o' : Cp2) (a b c : CE) : (cChain o o' a b c).ev ρ T = (a.ev ρ T).bind fun x T1 => (b.ev ρ T1).bind fun y T2 => chK ((o.f [x, y]).bind rBl) ((c.ev ρ T2).bind fun z T3 => Ev.opt (o'.f [y, z]) T3) T2 := rfl
theorem chK_b (b : Bool) (e : Ev R) : chK (some b) e T = if b = true then e else .ok (.v (.sh (.bl false))) T := by cases b <;> rfl
def popLD (j i : Nat) (ρ : Env) (T : Cs) (xs : List D) (o : Option D) : Ev Fl := match o with
  | some y => if j < ρ.length then .ok (.nx ((ρ.set i (some (.ow xs.dropLast))).set j (some (.sh y)))) T else .no
  | none => .no
theorem sPopLast_e (j i : Nat) : (sPopLast j i).ev ρ T = popLK j i ρ T (ρ[i]?) := rfl
theorem popLK_o (j i : Nat) (xs : List D) : popLK j i ρ T (some (some (.ow xs))) = popLD j i ρ T xs (xs[xs.length - 1]?) := by
  show (match popL j i ρ xs with
    | some ρ' => Ev.ok (Fl.nx ρ') T
    | none => .no) = _
  unfold popL popLD
  cases xs[xs.length - 1]? with
  | none => split <;> simp_all
  | some y => split <;> simp_all
theorem popLD_s (j i : Nat) (xs : List D) (y : D) : popLD j i ρ T xs (some y) = if j < ρ.length then .ok (.nx ((ρ.set i (some (.ow xs.dropLast))).set j (some (.sh y)))) T else .no := rfl
theorem rdVar_od (kvs : List (L2.Key × D)) : rdVar (some (some (.od kvs))) = some (.bd kvs) := rfl
theorem retLV_bd (kvs : List (L2.Key × D)) : retLV (.bd kvs) = some (.od kvs) := rfl
theorem retLV_od (kvs : List (L2.Key × D)) : retLV (.v (.od kvs)) = some (.od kvs) := rfl
theorem toR_d (kvs : List (L2.Key × D)) : toR (.od kvs) = some (.v (.od kvs)) := rfl
theorem cDnew_e : cDnew.ev ρ T = .ok (.v (.od [])) T := rfl
theorem cLock_e (a : CE) : (cLock a).ev ρ T = (a.ev ρ T).bind fun r T1 => Ev.opt (lockR r) T1 := rfl
theorem lockR_o (kvs : List (L2.Key × D)) : lockR (.v (.od kvs)) = some (.v (.sh (.dct kvs))) := rfl
theorem lockR_s (kvs : List (L2.Key × D)) : lockR (.v (.sh (.dct kvs))) = some (.v (.sh (.dct kvs))) := rfl
theorem cDget_e (a b : CE) : (cDget a b).ev ρ T = (a.ev ρ T).bind fun x T1 => (b.ev ρ T1).bind fun y T2 => Ev.opt (fDget x y) T2 := rfl
theorem fDget_i (kvs : List (L2.Key × D)) (i : Int) : fDget (.v (.sh (.dct kvs))) (.v (.sh (.int i))) = (getK kvs (kI i)).map fun d => .v (.sh d) := rfl
def dputE (i : Nat) (ρ : Env) (kvs : List (L2.Key × D)) (d : D) (T2 : Cs) (k : R) : Ev Fl := match k with
  | .v (.sh (.int m)) => if kvs.length < lim then .ok (.nx (ρ.set i (some (.od (putD kvs (kI m) d))))) T2 else .no
  | _ => .no
def dputK (i : Nat) (b a : CE) (ρ : Env) (T : Cs) (o : Option (Option LV)) : Ev Fl := match o with
  | some (some (.od kvs)) => (evD a.ev ρ T).bind fun d T1 => (b.ev ρ T1).bind fun k T2 => dputE i ρ kvs d T2 k
  | _ => .no
theorem sDput_e (i : Nat) (b a : CE) : (sDput i b a).ev ρ T = dputK i b a ρ T (ρ[i]?) := rfl
theorem dputK_o (i : Nat) (b a : CE) (kvs : List (L2.Key × D)) : dputK i b a ρ T (some (some (.od kvs))) = (evD a.ev ρ T).bind fun d T1 => (b.ev ρ T1).bind fun k T2 => dputE i ρ kvs d T2 k := rfl
theorem dputE_i (i : Nat) (kvs : List (L2.Key × D)) (d : D) (m : Int) : dputE i ρ kvs d T (.v (.sh (.int m))) = if kvs.length < lim then .ok (.nx (ρ.set i (some (.od (putD kvs (kI m) d))))) T else .no := rfl
theorem cSortDR_e (a : CE) : (cSortDR a).ev ρ T = (a.ev ρ T).bind fun r T1 => Ev.opt (gSortDR r) T1 := rfl
theorem lenD_s (kvs : List (L2.Key × D)) : bLenD.f [.v (.sh (.dct kvs))] = some (.v (.sh (.int kvs.length))) := rfl
def dkD : D → Option (List D)
  | .dct kvs => some (kvs.map fun kv => keyD kv.1)
  | _ => none
theorem iDK_e (a : CE) : (iDK a).ev ρ T = (evD a.ev ρ T).bind fun d T1 => Ev.opt (dkD d) T1 := rfl
theorem dkD_d (kvs : List (L2.Key × D)) : dkD (.dct kvs) = some (kvs.map fun kv => keyD kv.1) := rfl
def objK (neg : Bool) (c : Nat) (ev : FEv) (T2 : Cs) (d e : D) : Ev R := match d, e with
  | .obj c1 xs, .obj c2 ys => if c1 = c ∧ c2 = c then (match ev [.obj c xs, .obj c ys] T2 with
    | .ok (.sh (.bl r)) T3 => .ok (.v (.sh (.bl (if neg then !r else r)))) T3
    | _ => .no) else .no
  | _, _ => .no
theorem cObjEq_e (neg : Bool) (c : Nat) (s : DefSig) (ev : FEv) (a b : CE) {sr : List Src} (B : BindOk s 2 [] sr) : (cObjEq neg c s ev a b B).ev ρ T = (evD a.ev ρ T).bind fun d T1 => (evD b.ev ρ T1).bind fun e T2 => objK neg c ev T2 d e := rfl
theorem tObjEq_e (neg : Bool) (c : Nat) (s : DefSig) (ev : FEv) (a b : CE) {sr : List Src} (B : BindOk s 2 [] sr) : (tObjEq neg c s ev a b B).ev ρ T = ((evD a.ev ρ T).bind fun d T1 => (evD b.ev ρ T1).bind fun e T2 => objK neg c ev T2 d e).bind fun x T1 => Ev.opt (rBl x) T1 := rfl
theorem sMove_e (i j : Nat) : (sMove i j).ev ρ T = movK i j ρ T (ρ[j]?) := rfl
theorem movK_o (i j : Nat) (xs : List D) : movK i j ρ T (some (some (.ow xs))) = if i < ρ.length then .ok (.nx ((ρ.set j none).set i (some (.ow xs)))) T else .no := rfl
theorem iZip3_e (a b : CE) : (iZip3 a b).ev ρ T = (evD a.ev ρ T).bind fun x T1 => (evD b.ev ρ T1).bind fun y T2 => Ev.opt (zipS x y) T2 := rfl
theorem zipS_ll (xs ys : List D) : zipS (.lst xs) (.lst ys) = some (zipD xs ys) := rfl
theorem zipS_lt (xs ys : List D) : zipS (.lst xs) (.tup ys) = some (zipD xs ys) := rfl
theorem cLRg1_e (a : CE) : (cLRg1 a).ev ρ T = (a.ev ρ T).bind fun x T1 => Ev.opt (lrg1 x) T1 := rfl
theorem iEnum1_e (a : CE) : (iEnum1 a).ev ρ T = (evD a.ev ρ T).bind fun x T1 => Ev.opt ((dLst x).map (enumD 0)) T1 := rfl
theorem cLc_e (t : CG) (i : CI) (c : Option CT) (e : CE) (own : List (Str × Nat)) : (cLc t i c e own).ev ρ T = ((i.ev ρ T).bind fun ds T1 => noX (lcEv t.ev (evC c) (evD e.ev) (forget ρ (own.map (·.2))) ds T1)).bind fun out T2 => Ev.opt (if out.length ≤ lim then some (.v (.ow out)) else none) T2 := rfl
theorem sAsgLc_e (j : Nat) (keep : Bool) (t : CG) (i : CI) (c : Option CT) (e : CE) (own : List (Str × Nat)) : (sAsgLc j keep t i c e own).ev ρ T = (((i.ev ρ T).bind fun ds T1 => noX (lcEv t.ev (evC c) (evD e.ev) (forget ρ (own.map (·.2))) ds T1)).bind fun out T2 => Ev.opt (if out.length ≤ lim then some (.v (.ow out)) else none) T2).bind fun r T1 => asgK j ρ (asLV keep r) T1 := rfl
theorem noX_ok (a : α) : noX (.ok a T) = .ok a T := rfl
theorem evC_n : evC none ρ T = .ok true T := rfl
theorem evC_s (c : CT) : evC (some c) ρ T = c.ev ρ T := rfl
theorem cCall_e (s : DefSig) (ev : FEv) (a : CD) (b : CKw) (srcs : List Src) {nn : Nat} {kk : List Str} (B : BindOk s nn kk srcs) : (cCall s ev a b srcs B).ev ρ T = (a.ev ρ T).bind fun ds T1 => (b.ev ρ T1).bind fun es T2 => (ev (sel .non (ds ++ es) s.dfl srcs) T2).bind fun lv T3 => Ev.opt (toR lv) T3 := rfl
theorem cCallK_e (s : DefSig) (ev : FEv) (b : CKw) (srcs : List Src) {kk : List Str} (B : BindOk s 0 kk srcs) : (cCallK s ev b srcs B).ev ρ T = (b.ev ρ T).bind fun es T2 => (ev (sel .non es s.dfl srcs) T2).bind fun lv T3 => Ev.opt (toR lv) T3 := rfl
theorem sel_a {γ : Type} (z : γ) (v d : List γ) (i : Nat) (r : List Src) : sel z v d (.a i :: r) = v.getD i z :: sel z v d r := rfl
theorem sel_d {γ : Type} (z : γ) (v d : List γ) (i : Nat) (r : List Src) : sel z v d (.d i :: r) = d.getD i z :: sel z v d r := rfl
theorem sel_n {γ : Type} (z : γ) (v d : List γ) : sel z v d [] = [] := rfl
theorem toR_s (d : D) : toR (.sh d) = some (.v (.sh d)) := rfl
theorem toR_o (d : List D) : toR (.ow d) = some (.v (.ow d)) := rfl
def cellK (r : R) (T1 : Cs) : Ev R := match r with
    | .v (.ow xs) => .ok (.v (.sh (.cell T1.length))) (T1 ++ [xs])
    | _ => .no
theorem cCell_e (a : CE) : (cCell a).ev ρ T = (a.ev ρ T).bind cellK := rfl
theorem cellK_o (xs : List D) : cellK (.v (.ow xs)) T = .ok (.v (.sh (.cell T.length))) (T ++ [xs]) := rfl
def fldR (own : List Nat) (f : Str) (r : R) : Option R := match r with
    | .v (.sh (.obj c xs)) => if c ∈ own then (fldD f r).map fun d => .v (.sh d) else none
    | _ => none
theorem cFld_e (own : List Nat) (f : Str) (a : CE) : (cFld own f a).ev ρ T = (a.ev ρ T).bind fun r T1 => Ev.opt (fldR own f r) T1 := rfl
def finK (f : Fl) (T1 : Cs) : Ev LV := match f with
  | .rt (.sh d) => .ok (.sh d) T1
  | .rt (.ow xs) => .ok (.ow xs) T1
  | .rt (.od xs) => .ok (.od xs) T1
  | .nx _ => .ok (.sh .non) T1
  | _ => .no
theorem finK_s (d : D) : finK (.rt (.sh d)) T = .ok (.sh d) T := rfl
theorem finK_o (d : List D) : finK (.rt (.ow d)) T = .ok (.ow d) T := rfl
theorem finK_d (d : List (L2.Key × D)) : finK (.rt (.od d)) T = .ok (.od d) T := rfl
theorem finK_n : finK (.nx ρ) T = .ok (.sh .non) T := rfl
theorem defEv_e (m N : Nat) (b : Env → Cs → Ev Fl) (ds : List D) (h : ds.length = m) : defEv m N b ds T = (b (ds.map (fun d => some (.sh d)) ++ List.replicate (N - m) none) T).bind finK := by unfold defEv; rw [if_pos h]; rfl
theorem defEv_1 (N : Nat) (bb : Env → Cs → Ev Fl) (a : D) : defEv 1 N bb [a] T = (bb ([some (.sh a)] ++ List.replicate (N - 1) none) T).bind finK := defEv_e 1 N bb _ rfl
theorem defEv_2 (N : Nat) (bb : Env → Cs → Ev Fl) (a b : D) : defEv 2 N bb [a, b] T = (bb ([some (.sh a), some (.sh b)] ++ List.replicate (N - 2) none) T).bind finK := defEv_e 2 N bb _ rfl
theorem defEv_3 (N : Nat) (bb : Env → Cs → Ev Fl) (a b c : D) : defEv 3 N bb [a, b, c] T = (bb ([some (.sh a), some (.sh b), some (.sh c)] ++ List.replicate (N - 3) none) T).bind finK := defEv_e 3 N bb _ rfl
theorem defEv_4 (N : Nat) (bb : Env → Cs → Ev Fl) (a b c d : D) : defEv 4 N bb [a, b, c, d] T = (bb ([some (.sh a), some (.sh b), some (.sh c), some (.sh d)] ++ List.replicate (N - 4) none) T).bind finK := defEv_e 4 N bb _ rfl
theorem defEv_5 (N : Nat) (bb : Env → Cs → Ev Fl) (a b c d e : D) : defEv 5 N bb [a, b, c, d, e] T = (bb ([some (.sh a), some (.sh b), some (.sh c), some (.sh d), some (.sh e)] ++ List.replicate (N - 5) none) T).bind finK := defEv_e 5 N bb _ rfl
theorem defEv_6 (N : Nat) (bb : Env → Cs → Ev Fl) (a b c d e f : D) : defEv 6 N bb [a, b, c, d, e, f] T = (bb ([some (.sh a), some (.sh b), some (.sh c), some (.sh d), some (.sh e), some (.sh f)] ++ List.replicate (N - 6) none) T).bind finK := defEv_e 6 N bb _ rfl
theorem defEv_7 (N : Nat) (bb : Env → Cs → Ev Fl) (a b c d e f g : D) : defEv 7 N bb [a, b, c, d, e, f, g] T = (bb ([some (.sh a), some (.sh b), some (.sh c), some (.sh d), some (.sh e), some (.sh f), some (.sh g)] ++ List.replicate (N - 7) none) T).bind finK := defEv_e 7 N bb _ rfl
theorem defEv_8 (N : Nat) (bb : Env → Cs → Ev Fl) (a b c d e f g h : D) : defEv 8 N bb [a, b, c, d, e, f, g, h] T = (bb ([some (.sh a), some (.sh b), some (.sh c), some (.sh d), some (.sh e), some (.sh f), some (.sh g), some (.sh h)] ++ List.replicate (N - 8) none) T).bind finK := defEv_e 8 N bb _ rfl
theorem defEv_9 (N : Nat) (bb : Env → Cs → Ev Fl) (a b c d e f g h i : D) : defEv 9 N bb [a, b, c, d, e, f, g, h, i] T = (bb ([some (.sh a), some (.sh b), some (.sh c), some (.sh d), some (.sh e), some (.sh f), some (.sh g), some (.sh h), some (.sh i)] ++ List.replicate (N - 9) none) T).bind finK := defEv_e 9 N bb _ rfl
theorem defEv_0 (N : Nat) (bb : Env → Cs → Ev Fl) : defEv 0 N bb [] T = (bb (List.replicate (N - 0) none) T).bind finK := defEv_e 0 N bb _ rfl
def popK (i : Nat) (ρ : Env) (T : Cs) (o : Option (Option LV)) : Ev Fl := match o with
    | some (some (.ow xs)) => if xs.length = 0 then .no else .ok (.nx (ρ.set i (some (.ow xs.dropLast)))) T
    | _ => .no
theorem sPop_e (i : Nat) : (sPop i).ev ρ T = popK i ρ T (ρ[i]?) := rfl
theorem popK_o (i : Nat) (xs : List D) : popK i ρ T (some (some (.ow xs))) = if xs.length = 0 then .no else .ok (.nx (ρ.set i (some (.ow xs.dropLast)))) T := rfl
def borQ {γ : Type} (okb : γ → Bool) (ev : Env → Cs → Ev γ) (i : Nat) (ρ : Env) (T : Cs) (o : Option (Option LV)) : Ev γ := match o with
    | some (some lv) => (match frzLV lv with
      | some lv' => borK okb T.length (ev (ρ.set i (some lv')) T)
      | none => .no)
    | _ => .no
theorem evBor_q {γ : Type} (okb : γ → Bool) (ev : Env → Cs → Ev γ) (i : Nat) : evBor i okb ev ρ T = borQ okb ev i ρ T (ρ[i]?) := by
  unfold evBor borE borQ
  cases ρ[i]? with
  | none => rfl
  | some o => cases o with
    | none => rfl
    | some lv =>
      show (match (match frzLV lv with
        | some lv' => some (ρ.set i (some lv'))
        | none => none) with
        | some ρ' => borK okb T.length (ev ρ' T)
        | none => .no) = (match frzLV lv with
        | some lv' => borK okb T.length (ev (ρ.set i (some lv')) T)
        | none => .no)
      cases frzLV lv <;> rfl
theorem cBor_e (i : Nat) (a : CE) : (cBor i a).ev ρ T = borQ okBor a.ev i ρ T (ρ[i]?) := evBor_q _ _ i
theorem tBor_e (i : Nat) (a : CT) : (tBor i a).ev ρ T = borQ (fun _ => true) a.ev i ρ T (ρ[i]?) := evBor_q _ _ i
theorem borQ_o {γ : Type} (okb : γ → Bool) (ev : Env → Cs → Ev γ) (i : Nat) (xs : List D) : borQ okb ev i ρ T (some (some (.ow xs))) = borK okb T.length (ev (ρ.set i (some (.sh (.lst xs)))) T) := rfl
theorem borQ_s {γ : Type} (okb : γ → Bool) (ev : Env → Cs → Ev γ) (i : Nat) (d : D) : borQ okb ev i ρ T (some (some (.sh d))) = borK okb T.length (ev (ρ.set i (some (.sh d))) T) := rfl
theorem iSeq_e (a : CE) : (iSeq a).ev ρ T = (evD a.ev ρ T).bind fun d T1 => Ev.opt (seqD d) T1 := rfl
theorem seqD_t (xs : List D) : seqD (.tup xs) = some xs := rfl
theorem seqD_l (xs : List D) : seqD (.lst xs) = some xs := rfl
theorem seqD_f (xs : List D) : seqD (.fz xs) = some xs := rfl
theorem le_lim {n : Nat} (h : n ≤ 1000000) : (n ≤ 1000000) = True := eq_true h
theorem lt_lim {n : Nat} (h : n < 1000000) : (n < 1000000) = True := eq_true h
/-! ### lists of ints -/
theorem lI_len (l : List Int) : (lI l).length = l.length := List.length_map _
/-! ### walks -/
theorem forEv_n (g : D → Env → Cs → Ev Env) (b : Env → Cs → Ev Fl) : forEv g b [] ρ T = .ok (.nx ρ) T := rfl
def forK (g : D → Env → Cs → Ev Env) (b : Env → Cs → Ev Fl) (ds : List D) (f : Fl) (T2 : Cs) : Ev Fl := match f with
      | .nx ρ' => forEv g b ds ρ' T2
      | .ct ρ' => forEv g b ds ρ' T2
      | .bk ρ' => .ok (.nx ρ') T2
      | .rt lv => .ok (.rt lv) T2
theorem forEv_c (g : D → Env → Cs → Ev Env) (b : Env → Cs → Ev Fl) (d : D) (ds : List D) : forEv g b (d :: ds) ρ T = (g d ρ T).bind fun ρ1 T1 => (b ρ1 T1).bind (forK g b ds) := rfl
theorem forK_nx (g : D → Env → Cs → Ev Env) (b : Env → Cs → Ev Fl) (ds : List D) : forK g b ds (.nx ρ) T = forEv g b ds ρ T := rfl
theorem forK_ct (g : D → Env → Cs → Ev Env) (b : Env → Cs → Ev Fl) (ds : List D) : forK g b ds (.ct ρ) T = forEv g b ds ρ T := rfl
theorem forK_bk (g : D → Env → Cs → Ev Env) (b : Env → Cs → Ev Fl) (ds : List D) : forK g b ds (.bk ρ) T = .ok (.nx ρ) T := rfl
theorem forK_rt (g : D → Env → Cs → Ev Env) (b : Env → Cs → Ev Fl) (ds : List D) (lv : LV) : forK g b ds (.rt lv) T = .ok (.rt lv) T := rfl
def whK (c : Env → Cs → Ev Bool) (b : Env → Cs → Ev Fl) (m : Nat) (f : Fl) (T2 : Cs) : Ev Fl := match f with
      | .nx ρ' => whileEv c b m ρ' T2
      | .ct ρ' => whileEv c b m ρ' T2
      | .bk ρ' => .ok (.nx ρ') T2
      | .rt lv => .ok (.rt lv) T2
theorem whK_nx (c : Env → Cs → Ev Bool) (b : Env → Cs → Ev Fl) (m : Nat) : whK c b m (.nx ρ) T = whileEv c b m ρ T := rfl
theorem lI_snoc (l : List Int) (a : Int) : lI l ++ [D.int a] = lI (l ++ [a]) := by simp [lI]
theorem lI_rev (l : List Int) : (lI l).reverse = lI l.reverse := by simp [lI]
def isiR (own : List Nat) (us : List Ty) (r : R) : Option R := (tyR own r).map fun t => .v (.sh (.bl (us.any fun u => isTy t u)))
theorem cIsi_e (own : List Nat) (u : Ty) (a : CE) : (cIsi own u a).ev ρ T = (a.ev ρ T).bind fun r T1 => Ev.opt (isiR own [u] r) T1 := rfl
theorem cIsi2_e (own : List Nat) (u u2 : Ty) (a : CE) : (cIsi2 own u u2 a).ev ρ T = (a.ev ρ T).bind fun r T1 => Ev.opt (isiR own [u, u2] r) T1 := rfl
theorem isi_ii (own : List Nat) (i : Int) : isiR own [.b "int"] (.v (.sh (.int i))) = some (.v (.sh (.bl true))) := rfl
theorem isi_ib (own : List Nat) (i : Int) : isiR own [.b "bool"] (.v (.sh (.int i))) = some (.v (.sh (.bl false))) := rfl
theorem isi_llt (own : List Nat) (l : List D) : isiR own [.b "list", .b "tuple"] (.v (.sh (.lst l))) = some (.v (.sh (.bl true))) := rfl
theorem isi_tlt (own : List Nat) (l : List D) : isiR own [.b "list", .b "tuple"] (.v (.sh (.tup l))) = some (.v (.sh (.bl true))) := rfl
theorem len_l (l : List D) : bLen.f [.v (.sh (.lst l))] = some (.v (.sh (.int l.length))) := rfl
theorem len_t (l : List D) : bLen.f [.v (.sh (.tup l))] = some (.v (.sh (.int l.length))) := rfl
theorem len_f (l : List D) : bLen.f [.v (.sh (.fz l))] = some (.v (.sh (.int l.length))) := rfl
theorem len_o (l : List D) : bLen.f [.v (.ow l)] = some (.v (.sh (.int l.length))) := rfl
theorem len_b (l : List D) : bLen.f [.bw l] = some (.v (.sh (.int l.length))) := rfl
theorem int_i (i : Int) : bInt.f [.v (.sh (.int i))] = some (.v (.sh (.int i))) := rfl
theorem abs_i (i : Int) : bAbs.f [.v (.sh (.int i))] = some (.v (.sh (.int (if i < 0 then -i else i)))) := rfl
theorem max_i (i j : Int) : bMax2.f [.v (.sh (.int i)), .v (.sh (.int j))] = some (.v (.sh (.int (if j > i then j else i)))) := rfl
theorem min_i (i j : Int) : bMin2.f [.v (.sh (.int i)), .v (.sh (.int j))] = some (.v (.sh (.int (if j < i then j else i)))) := rfl
theorem lst_l (l : List D) : bList.f [.v (.sh (.lst l))] = some (.v (.ow l)) := rfl
theorem lst_o (l : List D) : bList.f [.v (.ow l)] = some (.v (.ow l)) := rfl
theorem lst_b (l : List D) : bList.f [.bw l] = some (.v (.ow l)) := rfl
theorem divmod_i (i : Int) {j : Int} (h : 0 < j) (h2 : j < 1073741824) : bDivmod.f [.v (.sh (.int i)), .v (.sh (.int j))] = some (.v (.sh (.tup [.int (i / j), .int (i % j)]))) := if_pos ⟨h, h2⟩
theorem fIx_b (xs : List D) (i : Int) : fIx T (.bw xs) (.v (.sh (.int i))) = (L2.atI xs i).map fun d => .v (.sh d) := rfl
theorem fIx_o (xs : List D) (i : Int) : fIx T (.v (.ow xs)) (.v (.sh (.int i))) = (L2.atI xs i).map fun d => .v (.sh d) := rfl
theorem fIx_l (xs : List D) (i : Int) : fIx T (.v (.sh (.lst xs))) (.v (.sh (.int i))) = (L2.atI xs i).map fun d => .v (.sh d) := rfl
theorem fIx_f (xs : List D) (i : Int) : fIx T (.v (.sh (.fz xs))) (.v (.sh (.int i))) = (L2.atI xs i).map fun d => .v (.sh d) := rfl
theorem fIx_t (xs : List D) (i : Int) : fIx T (.v (.sh (.tup xs))) (.v (.sh (.int i))) = (L2.atI xs i).map fun d => .v (.sh d) := rfl
def ixC (o : Option (List D)) (i : Int) : Option R := match o with
        | some xs => (L2.atI xs i).map fun d => .v (.sh d)
        | none => none
theorem fIx_c (m : Nat) (i : Int) : fIx T (.v (.sh (.cell m))) (.v (.sh (.int i))) = ixC (T[m]?) i := rfl
theorem ixC_s (xs : List D) (i : Int) : ixC (some xs) i = (L2.atI xs i).map fun d => .v (.sh d) := rfl
theorem atI_nn {γ : Type} {l : List γ} {i : Int} (h0 : 0 ≤ i) (h1 : i < l.length) : L2.atI l i = l[i.toNat]? := by
  unfold L2.atI L2.ixN
  rw [if_pos h0, if_pos h1]; rfl
theorem atI_ii {l : List Int} {i : Int} (h0 : 0 ≤ i) (h1 : i < l.length) : L2.atI (lI l) i = some (.int (l.getD i.toNat 0)) := by
  rw [atI_nn h0 (by rw [lI_len]; exact h1)]
  unfold lI
  have h2 : i.toNat < l.length := by omega
  rw [List.getElem?_map, List.getElem?_eq_getElem h2, List.getD_eq_getElem?_getD, List.getElem?_eq_getElem h2]
  rfl
theorem atI_c0 {γ : Type} (a : γ) (l : List γ) : L2.atI (a :: l) 0 = some a := by
  rw [atI_nn (Int.le_refl 0) (by simp only [List.length_cons]; omega)]; rfl
theorem atI_c1 {γ : Type} (a b : γ) (l : List γ) : L2.atI (a :: b :: l) 1 = some b := by
  rw [atI_nn (by omega) (by simp only [List.length_cons]; omega)]; rfl
theorem atI_c2 {γ : Type} (a b c : γ) (l : List γ) : L2.atI (a :: b :: c :: l) 2 = some c := by
  rw [atI_nn (by omega) (by simp only [List.length_cons]; omega)]; rfl
theorem setAt_ii {l : List Int} {i : Int} (v : Int) (h0 : 0 ≤ i) (h1 : i < l.length) : setAt (lI l) (.v (.sh (.int i))) (.int v) = some (lI (l.set i.toNat v)) := by
  show (L2.ixN (lI l).length i).map _ = _
  unfold L2.ixN
  rw [if_pos h0, if_pos (by rw [lI_len]; exact h1), Option.map_some]
  unfold lI
  rw [List.map_set]
theorem setAt_c0 (a v : D) (l : List D) : setAt (a :: l) (.v (.sh (.int 0))) v = some (v :: l) := by
  show (L2.ixN (a :: l).length 0).map _ = _
  unfold L2.ixN
  rw [if_pos (Int.le_refl 0), if_pos (by simp only [List.length_cons]; omega)]; rfl
theorem setAt_c1 (a b v : D) (l : List D) : setAt (a :: b :: l) (.v (.sh (.int 1))) v = some (a :: v :: l) := by
  show (L2.ixN (a :: b :: l).length 1).map _ = _
  unfold L2.ixN
  rw [if_pos (by omega), if_pos (by simp only [List.length_cons]; omega)]; rfl
theorem pNil_e : pNil.ev ρ T = .ok [] T := rfl
theorem pCons_e (a b : CE) (r : CP) : (pCons a b r).ev ρ T = (evD a.ev ρ T).bind fun x T1 => (evD b.ev ρ T1).bind fun y T2 => (r.ev ρ T2).bind fun ps T3 => .ok ((x, y) :: ps) T3 := rfl
theorem cDsp_e (c : CP) : (cDsp c).ev ρ T = (c.ev ρ T).bind fun ps T1 => Ev.opt (dspR ps) T1 := rfl
theorem cDgetK_e (a b : CE) : (cDgetK a b).ev ρ T = (a.ev ρ T).bind fun x T1 => (b.ev ρ T1).bind fun y T2 => Ev.opt (fDgetK x y) T2 := rfl
end
end Tp
end
set_option maxRecDepth 100000
-- evs [..] as a row of this text alone
local macro_rules | `(tactic| dsimp! only [$ls,*]) => `(tactic| simp (implicitDefEqProofs := false) (disch := omega) only [Tp.bind_ok', Tp.bind_no, Tp.opt_some, Tp.opt_none, Tp.cVar_e, Tp.rdVar_sh, Tp.rdVar_ow, Tp.cInt_e, Tp.cBl_e, Tp.cNon_e, Tp.cStr_e, Tp.cGInt_e, Tp.cGTup_e, Tp.cBin_e, Tp.cCmp_e, Tp.tCmp_e, Tp.tVal_e, Tp.tNotT_e, Tp.rBl_e, Tp.add_f, Tp.sub_f, Tp.mul_f, Tp.div_f, Tp.mod_f, Tp.lt_f, Tp.le_f, Tp.gt_f, Tp.ge_f, Tp.eq_f, Tp.ne_f, Tp.add_i, Tp.sub_i, Tp.lt_i, Tp.le_i, Tp.gt_i, Tp.ge_i, Tp.eq_i, Tp.ne_i, Tp.div_i, Tp.mod_i, Tp.mul_r, Tp.mul_l, Tp.evD_e, Tp.rD_sh, Tp.rD_ow, Tp.dNil_e, Tp.dCons_e, Tp.aNil_e, Tp.aCons_e, Tp.wNil_e, Tp.wCons_e, Tp.cLst_e, Tp.cTup_e, Tp.cIx_e, Tp.cSlice_e, Tp.evP_n, Tp.evP_s, Tp.cRev_e, Tp.rLs2_l, Tp.rLs2_f, Tp.rLs2_o, Tp.rLs2_b, Tp.cNeg_e, Tp.tAnd_e, Tp.tOr_e, Tp.andEv_1, Tp.andEv_2, Tp.orEv_1, Tp.orEv_2, Tp.cAnd_e, Tp.cOr_e, Tp.andVe_1, Tp.andVe_2, Tp.orVe_1, Tp.orVe_2, Tp.cIte_e, Tp.cNot_e, Tp.cBlt_e, Tp.sEnd_e, Tp.sSeq_e, Tp.thenS_nx, Tp.thenS_rt, Tp.thenS_bk, Tp.thenS_ct, Tp.sForget_e, Tp.sFrz_e, Tp.sAsg_e, Tp.asLV_k, Tp.asLV_s, Tp.asLV_o, Tp.sRet_e, Tp.retLV_s, Tp.retLV_o, Tp.retLV_b, Tp.sPass_e, Tp.sExpr_e, Tp.sIf_e, Tp.sWhile_e, Tp.sAppend_e, Tp.gNm_e, Tp.gIx_e, Tp.gTp_e, Tp.evGs_n, Tp.evGs_c, Tp.sAsgG_e, Tp.kNil_e, Tp.kCons_e, Tp.sPar_e, Tp.sParT_e, Tp.setAll_c, Tp.setAll_n, Tp.sFor_e, Tp.iLst_e, Tp.dLst_l, Tp.dLst_f, Tp.iRange1_e, Tp.iRange2_e, Tp.iRange3_e, Tp.iZip2_e, Tp.iZip3_e, Tp.zipS_ll, Tp.zipS_lt, Tp.tChn_e, Tp.cChain_e, Tp.chK_b, Option.bind_some, Tp.sMove_e, Tp.movK_o, Tp.rdVar_od, Tp.retLV_bd, Tp.retLV_od, Tp.toR_d, Tp.finK_d, Tp.cDnew_e, Tp.cLock_e, Tp.lockR_o, Tp.lockR_s, Tp.cDget_e, Tp.fDget_i, Tp.sDput_e, Tp.dputK_o, Tp.dputE_i, Tp.cSortDR_e, Tp.pNil_e, Tp.pCons_e, Tp.cDsp_e, Tp.cDgetK_e, Tp.lenD_s, Tp.iDK_e, Tp.dkD_d, Tp.cObjEq_e, Tp.tObjEq_e, Tp.sPopLast_e, Tp.popLK_o, Tp.popLD_s, Tp.cLRg1_e, Tp.iEnum1_e, Tp.cLc_e, Tp.sAsgLc_e, Tp.noX_ok, Tp.evC_n, Tp.evC_s, Tp.cCall_e, Tp.cCallK_e, Tp.sel_a, Tp.sel_d, Tp.sel_n, Tp.toR_s, Tp.toR_o, Tp.cCell_e, Tp.forEv_n, Tp.forEv_c, Tp.forK_nx, Tp.forK_ct, Tp.forK_bk, Tp.forK_rt, Tp.whK_nx, Tp.lI_snoc, Tp.lI_rev, Tp.fIx_b, Tp.fIx_o, Tp.fIx_l, Tp.fIx_f, Tp.fIx_t, Tp.fIx_c, Tp.ixC_s, Tp.atI_ii, Tp.atI_c0, Tp.atI_c1, Tp.atI_c2, Tp.setAt_ii, Tp.setAt_c0, Tp.setAt_c1, Tp.cIsi_e, Tp.cIsi2_e, Tp.isi_ii, Tp.isi_ib, Tp.isi_llt, Tp.isi_tlt, Tp.len_l, Tp.len_t, Tp.len_f, Tp.len_o, Tp.len_b, Tp.int_i, Tp.abs_i, Tp.max_i, Tp.min_i, Tp.lst_l, Tp.lst_o, Tp.lst_b, Tp.divmod_i, Tp.pK_i, Tp.negK_i, Tp.andK_b, Tp.orK_b, Tp.frzK_o, Tp.frzK_s, Tp.asgK_s, Tp.retK_s, Tp.appK_o, Tp.gixK_o, Tp.gixK_c, Tp.gixO_s, Tp.konK_s, Tp.rn1_i, Tp.rn2_i, Tp.rn3_i, Tp.zipK_s, Tp.cellK_o, Tp.finK_s, Tp.finK_o, Tp.finK_n, Tp.le_lim, Tp.lt_lim, Tp.lI_len, ite_true, ite_false, Tp.cFld_e, Tp.defEv_0, Tp.sPop_e, Tp.popK_o, Tp.cBor_e, Tp.tBor_e, Tp.borQ_o, Tp.borQ_s, Tp.iSeq_e, Tp.seqD_t, Tp.seqD_l, Tp.seqD_f, Tp.defEv_1, Tp.defEv_2, Tp.defEv_3, Tp.defEv_4, Tp.defEv_5, Tp.defEv_6, Tp.defEv_7, Tp.defEv_8, Tp.defEv_9, List.getElem?_cons_zero, List.getElem?_cons_succ, List.set_cons_zero, List.set_cons_succ, List.length_cons, List.length_nil, List.length_set, List.map_cons, List.map_nil, List.append_nil, List.nil_append, List.cons_append, List.getD_cons_zero, List.getD_cons_succ, List.replicate_succ, List.replicate_zero, Nat.reduceAdd, Nat.reduceSub, Nat.reduceLT, Nat.reduceLeDiff, Nat.reduceEqDiff, Nat.zero_add, List.all_cons, List.all_nil, List.mem_cons, true_or, or_true, Bool.and_true, Bool.true_and, Bool.and_self, decide_true, decide_false, if_true, if_false, Bool.false_eq_true, Bool.true_eq_false, Tp.forget, Option.map_some, Option.map_none, Nat.lt_add_left_iff_pos, Nat.lt_irrefl, Bool.not_true, Bool.not_false, $ls,*])
section
set_option Elab.async false
set_option linter.all false
set_option maxRecDepth 100000
set_option maxHeartbeats 1000000
/-! EvKp: a law's own pot and draws alone (laws that the kernel runs). -/
namespace Tp
theorem pow18 : iF powI [.v (.sh (.int 10)), .v (.sh (.int 18))] = some (.v (.sh (.int 1000000000000000000))) := rfl
theorem pow_f : oPow.f = iF powI := rfl
theorem cMake_e (c : Nat) (s : DefSig) (ev : IEv) (a : CD) (b : CKw) (srcs : List Src) {nn : Nat} {kk : List PySem.Str} {sr : List Src} (B : BindOk s nn kk sr) {ρ : Env} {T : Cs} : (cMake c s ev a b srcs B).ev ρ T = (a.ev ρ T).bind fun ds T1 => (b.ev ρ T1).bind fun es T2 => (ev (sel .non (ds ++ es) s.dfl srcs) T2).bind fun xs T3 => .ok (.v (.sh (.obj c xs))) T3 := rfl
end Tp
namespace Lw
open PySem Tp
def pt (a b : Int) (R : Cs) : Cs := [.int a, .int b] :: R
theorem pt_0 (a b : Int) (R : Cs) : (pt a b R)[0]? = some [.int a, .int b] := rfl
theorem gixC_0 (a b : Int) (R : Cs) (ρ : Tp.Env) (d : Int) : gixC 0 (.int d) (.v (.sh (.int 0))) ρ (pt a b R) (some [.int a, .int b]) = .ok ρ (pt d b R) := by
  rw [gixC_s _ _ _ _ _ (setAt_c0 _ _ _)]; rfl
theorem gixC_1 (a b : Int) (R : Cs) (ρ : Tp.Env) (d : Int) : gixC 0 (.int d) (.v (.sh (.int 1))) ρ (pt a b R) (some [.int a, .int b]) = .ok ρ (pt a d R) := by
  rw [gixC_s _ _ _ _ _ (setAt_c1 _ _ _ _)]; rfl
theorem draw (n a b : Int) (R : Cs) (h0 : 0 < n) (h1 : n < 1000000) (ha : 0 ≤ a) : ∃ d a' b', 0 ≤ d ∧ d < n ∧ 0 ≤ a' ∧ e__law_draw [.cell 0, .int n] (pt a b R) = .ok (.sh (.int d)) (pt a' b' R) := by
  unfold e__law_draw t__law_draw
  by_cases hp : 0 < a
  · have hd := decide_eq_true hp
    refine ⟨a % n, a / n, b, Int.emod_nonneg _ (by omega), Int.emod_lt_of_pos _ h0, Int.ediv_nonneg ha (by omega), ?_⟩
    dsimp! only [fIx_c, pt_0, hd, gixC_0]
  · have hd := decide_eq_false hp
    have hm := Int.emod_nonneg (b * 39373 + 607) (show (2147483587 : Int) ≠ 0 by decide)
    have hm2 := Int.emod_lt_of_pos (b * 39373 + 607) (show (0 : Int) < 2147483587 by decide)
    refine ⟨((b * 39373 + 607) % 2147483587 * ((b * 39373 + 607) % 2147483587)) % 2147483563 / 31 % n, a, (b * 39373 + 607) % 2147483587, Int.emod_nonneg _ (by omega), Int.emod_lt_of_pos _ h0, ha, ?_⟩
    dsimp! only [fIx_c, pt_0, hd, gixC_1]
theorem pick (ds : List D) (a b : Int) (R : Cs) (h0 : 0 < ds.length) (h1 : ds.length < 1000) (ha : 0 ≤ a) : ∃ d a' b', d ∈ ds ∧ 0 ≤ a' ∧ e__law_pick [.cell 0, .lst ds] (pt a b R) = .ok (.sh d) (pt a' b' R) := by
  obtain ⟨d, a', b', d0, d1, ha', e⟩ := draw ds.length a b R (by omega) (by omega) ha
  have hl : d.toNat < ds.length := by omega
  refine ⟨ds[d.toNat], a', b', List.getElem_mem hl, ha', ?_⟩
  have e2 : L2.atI ds d = some ds[d.toNat] := by rw [atI_nn d0 d1, List.getElem?_eq_getElem hl]
  unfold e__law_pick t__law_pick
  dsimp! only [e, e2]
theorem pot (ns : List Int) : ∃ a b, 0 ≤ a ∧ ∀ T, e__law_pot [.fz (lI ns), .int 0] T = .ok (.ow [.int a, .int b]) T := by
  cases ns with
  | nil => exact ⟨0, 9443831, by decide, fun T => by kernel_rfl⟩
  | cons x r =>
    have h1 : (0 : Int) < (((x :: r).length : Nat) : Int) := by simp only [List.length_cons]; omega
    have hd := decide_eq_true h1
    have e2 : L2.atI (lI (x :: r)) 0 = some (.int x) := atI_ii (Int.le_refl 0) h1
    have e3 : (((lI (x :: r)).length : Nat) : Int) = (((x :: r).length : Nat) : Int) := by rw [lI_len]
    refine ⟨if (if x < 0 then -x else x) - 1000000000000000000 > 0 then (if x < 0 then -x else x) - 1000000000000000000 else 0, ((if x < 0 then -x else x) % 2147483549 * 40531 + 1709 * 0 + 107) % 2147483563 + 1, ?_, fun T => ?_⟩
    · split
      · omega
      · omega
    · generalize lI (x :: r) = L at e2 e3 ⊢
      rw [← e3] at hd
      unfold e__law_pot t__law_pot
      dsimp! only [hd, e2, pow_f, pow18]
end Lw
end
section
set_option maxRecDepth 100000
set_option Elab.async false
set_option linter.all false
/-! EvKo1: the told fields of this law, as data. -/
namespace Lw
open PySem Tp
def O0 : D := (.obj 0 [.int 2, .int 3, .int 8, (.lst [.int 1, .int 1, .int 0, .int 1]), (.lst [.int 1, .int 2, .int 4, .int 3, .int 6, .int 7, .int 5]), (.lst [(.int (-1)), .int 0, .int 1, .int 3, .int 2, .int 6, .int 4, .int 5])])
theorem mk0 (T : Cs) : e_Field___init__ [.int 2, .lst [.int 1, .int 1, .int 0, .int 1]] T = .ok [.int 2, .int 3, .int 8, (.lst [.int 1, .int 1, .int 0, .int 1]), (.lst [.int 1, .int 2, .int 4, .int 3, .int 6, .int 7, .int 5]), (.lst [(.int (-1)), .int 0, .int 1, .int 3, .int 2, .int 6, .int 4, .int 5])] T := by kernel_rfl
def O1 : D := (.obj 0 [.int 3, .int 2, .int 9, (.lst [.int 1, .int 0, .int 1]), (.lst [.int 1, .int 4, .int 6, .int 7, .int 2, .int 8, .int 3, .int 5]), (.lst [(.int (-1)), .int 0, .int 4, .int 6, .int 1, .int 7, .int 2, .int 3, .int 5])])
theorem mk1 (T : Cs) : e_Field___init__ [.int 3, .lst [.int 1, .int 0, .int 1]] T = .ok [.int 3, .int 2, .int 9, (.lst [.int 1, .int 0, .int 1]), (.lst [.int 1, .int 4, .int 6, .int 7, .int 2, .int 8, .int 3, .int 5]), (.lst [(.int (-1)), .int 0, .int 4, .int 6, .int 1, .int 7, .int 2, .int 3, .int 5])] T := by kernel_rfl
def O2 : D := (.obj 0 [.int 2, .int 4, .int 16, (.lst [.int 1, .int 1, .int 0, .int 0, .int 1]), (.lst [.int 1, .int 2, .int 4, .int 8, .int 3, .int 6, .int 12, .int 11, .int 5, .int 10, .int 7, .int 14, .int 15, .int 13, .int 9]), (.lst [(.int (-1)), .int 0, .int 1, .int 4, .int 2, .int 8, .int 5, .int 10, .int 3, .int 14, .int 9, .int 7, .int 6, .int 13, .int 11, .int 12])])
theorem mk2 (T : Cs) : e_Field___init__ [.int 2, .lst [.int 1, .int 1, .int 0, .int 0, .int 1]] T = .ok [.int 2, .int 4, .int 16, (.lst [.int 1, .int 1, .int 0, .int 0, .int 1]), (.lst [.int 1, .int 2, .int 4, .int 8, .int 3, .int 6, .int 12, .int 11, .int 5, .int 10, .int 7, .int 14, .int 15, .int 13, .int 9]), (.lst [(.int (-1)), .int 0, .int 1, .int 4, .int 2, .int 8, .int 5, .int 10, .int 3, .int 14, .int 9, .int 7, .int 6, .int 13, .int 11, .int 12])] T := by kernel_rfl
def O3 : D := (.obj 0 [.int 2, .int 2, .int 4, (.lst [.int 1, .int 1, .int 1]), (.lst [.int 1, .int 2, .int 3]), (.lst [(.int (-1)), .int 0, .int 1, .int 2])])
theorem mk3 (T : Cs) : e_Field___init__ [.int 2, .lst [.int 1, .int 1, .int 1]] T = .ok [.int 2, .int 2, .int 4, (.lst [.int 1, .int 1, .int 1]), (.lst [.int 1, .int 2, .int 3]), (.lst [(.int (-1)), .int 0, .int 1, .int 2])] T := by kernel_rfl
def O4 : D := (.obj 0 [.int 3, .int 3, .int 27, (.lst [.int 1, .int 2, .int 0, .int 1]), (.lst [.int 1, .int 3, .int 9, .int 5, .int 15, .int 23, .int 13, .int 17, .int 20, .int 4, .int 12, .int 14, .int 11, .int 2, .int 6, .int 18, .int 7, .int 21, .int 16, .int 26, .int 22, .int 10, .int 8, .int 24, .int 25, .int 19]), (.lst [(.int (-1)), .int 0, .int 13, .int 1, .int 9, .int 3, .int 14, .int 16, .int 22, .int 2, .int 21, .int 12, .int 10, .int 6, .int 11, .int 4, .int 18, .int 7, .int 15, .int 25, .int 8, .int 17, .int 20, .int 5, .int 23, .int 24, .int 19])])
theorem mk4 (T : Cs) : e_Field___init__ [.int 3, .lst [.int 1, .int 2, .int 0, .int 1]] T = .ok [.int 3, .int 3, .int 27, (.lst [.int 1, .int 2, .int 0, .int 1]), (.lst [.int 1, .int 3, .int 9, .int 5, .int 15, .int 23, .int 13, .int 17, .int 20, .int 4, .int 12, .int 14, .int 11, .int 2, .int 6, .int 18, .int 7, .int 21, .int 16, .int 26, .int 22, .int 10, .int 8, .int 24, .int 25, .int 19]), (.lst [(.int (-1)), .int 0, .int 13, .int 1, .int 9, .int 3, .int 14, .int 16, .int 22, .int 2, .int 21, .int 12, .int 10, .int 6, .int 11, .int 4, .int 18, .int 7, .int 15, .int 25, .int 8, .int 17, .int 20, .int 5, .int 23, .int 24, .int 19])] T := by kernel_rfl
def O5 : D := (.obj 0 [.int 5, .int 2, .int 25, (.lst [.int 2, .int 0, .int 1]), (.lst [.int 1, .int 6, .int 14, .int 5, .int 8, .int 21, .int 3, .int 18, .int 7, .int 15, .int 19, .int 13, .int 4, .int 24, .int 16, .int 20, .int 22, .int 9, .int 2, .int 12, .int 23, .int 10, .int 11, .int 17]), (.lst [(.int (-1)), .int 0, .int 18, .int 6, .int 12, .int 3, .int 1, .int 8, .int 4, .int 17, .int 21, .int 22, .int 19, .int 11, .int 2, .int 9, .int 14, .int 23, .int 7, .int 10, .int 15, .int 5, .int 16, .int 20, .int 13])])
theorem mk5 (T : Cs) : e_Field___init__ [.int 5, .lst [.int 2, .int 0, .int 1]] T = .ok [.int 5, .int 2, .int 25, (.lst [.int 2, .int 0, .int 1]), (.lst [.int 1, .int 6, .int 14, .int 5, .int 8, .int 21, .int 3, .int 18, .int 7, .int 15, .int 19, .int 13, .int 4, .int 24, .int 16, .int 20, .int 22, .int 9, .int 2, .int 12, .int 23, .int 10, .int 11, .int 17]), (.lst [(.int (-1)), .int 0, .int 18, .int 6, .int 12, .int 3, .int 1, .int 8, .int 4, .int 17, .int 21, .int 22, .int 19, .int 11, .int 2, .int 9, .int 14, .int 23, .int 7, .int 10, .int 15, .int 5, .int 16, .int 20, .int 13])] T := by kernel_rfl
def O6 : D := (.obj 0 [.int 7, .int 2, .int 49, (.lst [.int 1, .int 0, .int 1]), (.lst [.int 1, .int 9, .int 31, .int 30, .int 21, .int 46, .int 16, .int 44, .int 5, .int 38, .int 43, .int 45, .int 7, .int 20, .int 24, .int 17, .int 4, .int 29, .int 19, .int 15, .int 35, .int 23, .int 8, .int 22, .int 6, .int 47, .int 25, .int 26, .int 28, .int 10, .int 40, .int 12, .int 2, .int 18, .int 13, .int 11, .int 42, .int 36, .int 32, .int 39, .int 3, .int 27, .int 37, .int 41, .int 14, .int 33, .int 48, .int 34]), (.lst [(.int (-1)), .int 0, .int 32, .int 40, .int 16, .int 8, .int 24, .int 12, .int 22, .int 1, .int 29, .int 35, .int 31, .int 34, .int 44, .int 19, .int 6, .int 15, .int 33, .int 18, .int 13, .int 4, .int 23, .int 21, .int 14, .int 26, .int 27, .int 41, .int 28, .int 17, .int 3, .int 2, .int 38, .int 45, .int 47, .int 20, .int 37, .int 42, .int 9, .int 39, .int 30, .int 43, .int 36, .int 10, .int 7, .int 11, .int 5, .int 25, .int 46])])
theorem mk6 (T : Cs) : e_Field___init__ [.int 7, .lst [.int 1, .int 0, .int 1]] T = .ok [.int 7, .int 2, .int 49, (.lst [.int 1, .int 0, .int 1]), (.lst [.int 1, .int 9, .int 31, .int 30, .int 21, .int 46, .int 16, .int 44, .int 5, .int 38, .int 43, .int 45, .int 7, .int 20, .int 24, .int 17, .int 4, .int 29, .int 19, .int 15, .int 35, .int 23, .int 8, .int 22, .int 6, .int 47, .int 25, .int 26, .int 28, .int 10, .int 40, .int 12, .int 2, .int 18, .int 13, .int 11, .int 42, .int 36, .int 32, .int 39, .int 3, .int 27, .int 37, .int 41, .int 14, .int 33, .int 48, .int 34]), (.lst [(.int (-1)), .int 0, .int 32, .int 40, .int 16, .int 8, .int 24, .int 12, .int 22, .int 1, .int 29, .int 35, .int 31, .int 34, .int 44, .int 19, .int 6, .int 15, .int 33, .int 18, .int 13, .int 4, .int 23, .int 21, .int 14, .int 26, .int 27, .int 41, .int 28, .int 17, .int 3, .int 2, .int 38, .int 45, .int 47, .int 20, .int 37, .int 42, .int 9, .int 39, .int 30, .int 43, .int 36, .int 10, .int 7, .int 11, .int 5, .int 25, .int 46])] T := by kernel_rfl
def O7 : D := (.obj 0 [.int 2, .int 5, .int 32, (.lst [.int 1, .int 0, .int 1, .int 0, .int 0, .int 1]), (.lst [.int 1, .int 2, .int 4, .int 8, .int 16, .int 5, .int 10, .int 20, .int 13, .int 26, .int 17, .int 7, .int 14, .int 28, .int 29, .int 31, .int 27, .int 19, .int 3, .int 6, .int 12, .int 24, .int 21, .int 15, .int 30, .int 25, .int 23, .int 11, .int 22, .int 9, .int 18]), (.lst [(.int (-1)), .int 0, .int 1, .int 18, .int 2, .int 5, .int 19, .int 11, .int 3, .int 29, .int 6, .int 27, .int 20, .int 8, .int 12, .int 23, .int 4, .int 10, .int 30, .int 17, .int 7, .int 22, .int 28, .int 26, .int 21, .int 25, .int 9, .int 16, .int 13, .int 14, .int 24, .int 15])])
theorem mk7 (T : Cs) : e_Field___init__ [.int 2, .lst [.int 1, .int 0, .int 1, .int 0, .int 0, .int 1]] T = .ok [.int 2, .int 5, .int 32, (.lst [.int 1, .int 0, .int 1, .int 0, .int 0, .int 1]), (.lst [.int 1, .int 2, .int 4, .int 8, .int 16, .int 5, .int 10, .int 20, .int 13, .int 26, .int 17, .int 7, .int 14, .int 28, .int 29, .int 31, .int 27, .int 19, .int 3, .int 6, .int 12, .int 24, .int 21, .int 15, .int 30, .int 25, .int 23, .int 11, .int 22, .int 9, .int 18]), (.lst [(.int (-1)), .int 0, .int 1, .int 18, .int 2, .int 5, .int 19, .int 11, .int 3, .int 29, .int 6, .int 27, .int 20, .int 8, .int 12, .int 23, .int 4, .int 10, .int 30, .int 17, .int 7, .int 22, .int 28, .int 26, .int 21, .int 25, .int 9, .int 16, .int 13, .int 14, .int 24, .int 15])] T := by kernel_rfl
end Lw
end
section
set_option maxRecDepth 100000
set_option Elab.async false
set_option linter.all false
namespace Lw
open PySem Tp
theorem kF (a b : Int) : e__law_fields_right [] (pt a b []) = .ok (.sh (.bl true)) (pt a b []) := by kernel_rfl
theorem kS0 (T : Cs) : e__law_size [.tup [.int 2, .lst [.int 1, .int 1, .int 0, .int 1]]] T = .ok (.sh (.int 8)) T := by kernel_rfl
theorem kT0 (a b : Int) : e__law_turners_right [O0, .int 8] (pt a b []) = .ok (.sh (.bl true)) (pt a b []) := by kernel_rfl
theorem kS1 (T : Cs) : e__law_size [.tup [.int 3, .lst [.int 1, .int 0, .int 1]]] T = .ok (.sh (.int 9)) T := by kernel_rfl
theorem kT1 (a b : Int) : e__law_turners_right [O1, .int 9] (pt a b []) = .ok (.sh (.bl true)) (pt a b []) := by kernel_rfl
theorem kS2 (T : Cs) : e__law_size [.tup [.int 2, .lst [.int 1, .int 1, .int 0, .int 0, .int 1]]] T = .ok (.sh (.int 16)) T := by kernel_rfl
theorem kT2 (a b : Int) : e__law_turners_right [O2, .int 16] (pt a b []) = .ok (.sh (.bl true)) (pt a b []) := by kernel_rfl
theorem kS3 (T : Cs) : e__law_size [.tup [.int 2, .lst [.int 1, .int 1, .int 1]]] T = .ok (.sh (.int 4)) T := by kernel_rfl
theorem kT3 (a b : Int) : e__law_turners_right [O3, .int 4] (pt a b []) = .ok (.sh (.bl true)) (pt a b []) := by kernel_rfl
theorem kS4 (T : Cs) : e__law_size [.tup [.int 3, .lst [.int 1, .int 2, .int 0, .int 1]]] T = .ok (.sh (.int 27)) T := by kernel_rfl
theorem kT4 (a b : Int) : e__law_turners_right [O4, .int 27] (pt a b []) = .ok (.sh (.bl true)) (pt a b []) := by kernel_rfl
theorem kS5 (T : Cs) : e__law_size [.tup [.int 5, .lst [.int 2, .int 0, .int 1]]] T = .ok (.sh (.int 25)) T := by kernel_rfl
theorem kT5 (a b : Int) : e__law_turners_right [O5, .int 25] (pt a b []) = .ok (.sh (.bl true)) (pt a b []) := by kernel_rfl
theorem kS6 (T : Cs) : e__law_size [.tup [.int 7, .lst [.int 1, .int 0, .int 1]]] T = .ok (.sh (.int 49)) T := by kernel_rfl
theorem kT6 (a b : Int) : e__law_turners_right [O6, .int 49] (pt a b []) = .ok (.sh (.bl true)) (pt a b []) := by kernel_rfl
theorem kS7 (T : Cs) : e__law_size [.tup [.int 2, .lst [.int 1, .int 0, .int 1, .int 0, .int 0, .int 1]]] T = .ok (.sh (.int 32)) T := by kernel_rfl
theorem kT7 (a b : Int) : e__law_turners_right [O7, .int 32] (pt a b []) = .ok (.sh (.bl true)) (pt a b []) := by kernel_rfl
end Lw
end
section
set_option maxRecDepth 100000
set_option Elab.async false
set_option linter.all false
namespace Lw
open PySem Tp
theorem kP0 (a b : Int) : e__law_points_right [.tup [.int 2, .lst [.int 1, .int 1, .int 0, .int 1]], O0, .int 8, .int 3] (pt a b []) = .ok (.sh (.bl true)) (pt a b []) := by kernel_rfl
theorem kP1 (a b : Int) : e__law_points_right [.tup [.int 3, .lst [.int 1, .int 0, .int 1]], O1, .int 9, .int 2] (pt a b []) = .ok (.sh (.bl true)) (pt a b []) := by kernel_rfl
theorem kP2 (a b : Int) : e__law_points_right [.tup [.int 2, .lst [.int 1, .int 1, .int 0, .int 0, .int 1]], O2, .int 16, .int 4] (pt a b []) = .ok (.sh (.bl true)) (pt a b []) := by kernel_rfl
theorem kP3 (a b : Int) : e__law_points_right [.tup [.int 2, .lst [.int 1, .int 1, .int 1]], O3, .int 4, .int 2] (pt a b []) = .ok (.sh (.bl true)) (pt a b []) := by kernel_rfl
theorem kP4 (a b : Int) : e__law_points_right [.tup [.int 3, .lst [.int 1, .int 2, .int 0, .int 1]], O4, .int 27, .int 3] (pt a b []) = .ok (.sh (.bl true)) (pt a b []) := by kernel_rfl
theorem kP5 (a b : Int) : e__law_points_right [.tup [.int 5, .lst [.int 2, .int 0, .int 1]], O5, .int 25, .int 2] (pt a b []) = .ok (.sh (.bl true)) (pt a b []) := by kernel_rfl
theorem kP6 (a b : Int) : e__law_points_right [.tup [.int 7, .lst [.int 1, .int 0, .int 1]], O6, .int 49, .int 2] (pt a b []) = .ok (.sh (.bl true)) (pt a b []) := by kernel_rfl
theorem kP7 (a b : Int) : e__law_points_right [.tup [.int 2, .lst [.int 1, .int 0, .int 1, .int 0, .int 0, .int 1]], O7, .int 32, .int 5] (pt a b []) = .ok (.sh (.bl true)) (pt a b []) := by kernel_rfl
end Lw
end
section
set_option maxRecDepth 100000
set_option Elab.async false
set_option linter.all false
set_option maxHeartbeats 2000000
namespace Lw
open PySem Tp
def KD : List D := [.tup [.int 2, .lst [.int 1, .int 1, .int 0, .int 1]], .tup [.int 3, .lst [.int 1, .int 0, .int 1]], .tup [.int 2, .lst [.int 1, .int 1, .int 0, .int 0, .int 1]], .tup [.int 2, .lst [.int 1, .int 1, .int 1]], .tup [.int 2, .lst [.int 1, .int 1, .int 0, .int 1]], .tup [.int 3, .lst [.int 1, .int 0, .int 1]], .tup [.int 3, .lst [.int 1, .int 2, .int 0, .int 1]], .tup [.int 5, .lst [.int 2, .int 0, .int 1]], .tup [.int 7, .lst [.int 1, .int 0, .int 1]], .tup [.int 2, .lst [.int 1, .int 0, .int 1, .int 0, .int 0, .int 1]]]
theorem kinds_e (T : Cs) : e__law_kinds [] T = .ok (.ow KD) T := by kernel_rfl
theorem law : ∀ ns : List Int, ns.length ≤ 63 → ∃ T', e_law [.fz (ns.map D.int)] [] = .ok (.sh (.bl true)) T' := by
  intro ns _
  obtain ⟨a, b, ha, e⟩ := pot ns
  have e3 : e__law_pot [.fz (ns.map D.int), .int 0] [] = _ := e []
  obtain ⟨x, a2, b2, hx, h2, e1⟩ := pick KD a b [] (by decide) (by decide) ha
  refine ⟨pt a2 b2 [], ?_⟩
  have e1' : e__law_pick [.cell 0, .lst KD] [[.int a, .int b]] = _ := e1
  simp only [KD, List.mem_cons, List.not_mem_nil, or_false] at hx
  rcases hx with rfl | rfl | rfl | rfl | rfl | rfl | rfl | rfl | rfl | rfl
  · have m := mk0 (pt a2 b2 [])
    have s := kS0 (pt a2 b2 [])
    have f := kF a2 b2
    have t := kT0 a2 b2
    have p := kP0 a2 b2
    unfold O0 at t p
    have n4 : (((4 : Nat) : Int) - 1) = 3 := rfl
    unfold e_law t_law
    dsimp! only [e3, kinds_e, e1', cMake_e, m, s, f, t, n4, p]
  · have m := mk1 (pt a2 b2 [])
    have s := kS1 (pt a2 b2 [])
    have f := kF a2 b2
    have t := kT1 a2 b2
    have p := kP1 a2 b2
    unfold O1 at t p
    have n4 : (((3 : Nat) : Int) - 1) = 2 := rfl
    unfold e_law t_law
    dsimp! only [e3, kinds_e, e1', cMake_e, m, s, f, t, n4, p]
  · have m := mk2 (pt a2 b2 [])
    have s := kS2 (pt a2 b2 [])
    have f := kF a2 b2
    have t := kT2 a2 b2
    have p := kP2 a2 b2
    unfold O2 at t p
    have n4 : (((5 : Nat) : Int) - 1) = 4 := rfl
    unfold e_law t_law
    dsimp! only [e3, kinds_e, e1', cMake_e, m, s, f, t, n4, p]
  · have m := mk3 (pt a2 b2 [])
    have s := kS3 (pt a2 b2 [])
    have f := kF a2 b2
    have t := kT3 a2 b2
    have p := kP3 a2 b2
    unfold O3 at t p
    have n4 : (((3 : Nat) : Int) - 1) = 2 := rfl
    unfold e_law t_law
    dsimp! only [e3, kinds_e, e1', cMake_e, m, s, f, t, n4, p]
  · have m := mk0 (pt a2 b2 [])
    have s := kS0 (pt a2 b2 [])
    have f := kF a2 b2
    have t := kT0 a2 b2
    have p := kP0 a2 b2
    unfold O0 at t p
    have n4 : (((4 : Nat) : Int) - 1) = 3 := rfl
    unfold e_law t_law
    dsimp! only [e3, kinds_e, e1', cMake_e, m, s, f, t, n4, p]
  · have m := mk1 (pt a2 b2 [])
    have s := kS1 (pt a2 b2 [])
    have f := kF a2 b2
    have t := kT1 a2 b2
    have p := kP1 a2 b2
    unfold O1 at t p
    have n4 : (((3 : Nat) : Int) - 1) = 2 := rfl
    unfold e_law t_law
    dsimp! only [e3, kinds_e, e1', cMake_e, m, s, f, t, n4, p]
  · have m := mk4 (pt a2 b2 [])
    have s := kS4 (pt a2 b2 [])
    have f := kF a2 b2
    have t := kT4 a2 b2
    have p := kP4 a2 b2
    unfold O4 at t p
    have n4 : (((4 : Nat) : Int) - 1) = 3 := rfl
    unfold e_law t_law
    dsimp! only [e3, kinds_e, e1', cMake_e, m, s, f, t, n4, p]
  · have m := mk5 (pt a2 b2 [])
    have s := kS5 (pt a2 b2 [])
    have f := kF a2 b2
    have t := kT5 a2 b2
    have p := kP5 a2 b2
    unfold O5 at t p
    have n4 : (((3 : Nat) : Int) - 1) = 2 := rfl
    unfold e_law t_law
    dsimp! only [e3, kinds_e, e1', cMake_e, m, s, f, t, n4, p]
  · have m := mk6 (pt a2 b2 [])
    have s := kS6 (pt a2 b2 [])
    have f := kF a2 b2
    have t := kT6 a2 b2
    have p := kP6 a2 b2
    unfold O6 at t p
    have n4 : (((3 : Nat) : Int) - 1) = 2 := rfl
    unfold e_law t_law
    dsimp! only [e3, kinds_e, e1', cMake_e, m, s, f, t, n4, p]
  · have m := mk7 (pt a2 b2 [])
    have s := kS7 (pt a2 b2 [])
    have f := kF a2 b2
    have t := kT7 a2 b2
    have p := kP7 a2 b2
    unfold O7 at t p
    have n4 : (((6 : Nat) : Int) - 1) = 5 := rfl
    unfold e_law t_law
    dsimp! only [e3, kinds_e, e1', cMake_e, m, s, f, t, n4, p]
end Lw
end
section
set_option Elab.async false
set_option linter.all false
set_option maxRecDepth 100000
set_option maxHeartbeats 0
namespace Lw
open PySem PySem.Spec PyProof.Rows L2 Tp
theorem b_end : BindOk s_law 1 [] [.a 0] := ⟨rfl, rfl, fun _ kV doc pm an cdv ct us ws h1 h2 => match us, ws, h1, h2 with | [_], [], _, _ => by kernel_rfl, fun h => absurd rfl h⟩
end Lw
open PySem PySem.W PySem.Calls PyProof.Rows
theorem PySem.Challenge.cw_turnpowers_k50_values_and_maps_refused_holds : PySem.Challenge.rw_turnpowers_k50_values_and_maps_refused.Holds := by
  w_on; o_law
  refine HandSHeadRun.head_any (r := OpenLaw.row PySem.Challenge.rw_turnpowers_k50_values_and_maps_refused) (q := view (OpenLaw.row PySem.Challenge.rw_turnpowers_k50_values_and_maps_refused).prog [94, 95, 96, 97]) (H := Lw.hk) (ob := Lw.ob) (M := 100000) (loose := Lw.lo) (d := HandSHeadRun.topDef (OpenLaw.row PySem.Challenge.rw_turnpowers_k50_values_and_maps_refused).prog 97) (kwd := []) Lw.ob_eq
    Lw.g_e Lw.g_f Lw.run Lw.g_def Lw.g_p Lw.g_k (by rfl) (by first | assumption | decide +kernel) Lw.g_ok Lw.g_b ?hw ?hc
  case hw => w_witness2
  case hc =>
    refine Tp.law_endL (lt := Lw.lamTab.map Tp.LamRow.L) Lw.mkL (l := PySem.Challenge.rw_turnpowers_k50_values_and_maps_refused) (n := 63) (k := 12) (x := "_law_script") (s := Lw.s_law) (ev := Lw.e_law) rfl (by decide) (by kernel_rfl) ⟨rfl, by decide, by decide⟩ rfl rfl Lw.b_end rfl ?R ?F Lw.law
    case R =>
      intro m hm
      simp only [Lw.mkL, List.mem_cons, List.not_mem_nil, or_false] at hm
      rcases hm with rfl | rfl | rfl
      all_goals exact Option.isSome_iff_exists.mp (by kernel_rfl)
    case F =>
    intro w mg fa h Y G hmg0
    obtain ⟨K, KX, c⟩ := Y
    have hmg : mg ("law" : PySem.Str) = some (.ref fa) := by
      have e : (HandSHeadRun.topDef (OpenLaw.row PySem.Challenge.rw_turnpowers_k50_values_and_maps_refused).prog 97).name = ("law" : PySem.Str) := by kernel_rfl
      rw [← e]
      exact hmg0
    have S0 := Tp.Hdp.of (P := PySem.Challenge.rw_turnpowers_k50_values_and_maps_refused.prog) (base := h) (ug := []) (tb := Lw.mkL.map fun m => (Tp.tabP K m.1, m.2)) (lt := Lw.lamTab.map Tp.LamRow.L) c KX G
    refine ⟨K, KX, fun m hm => ?_, fun base TB => ?_⟩
    · simp only [Lw.mkL, List.mem_cons, List.not_mem_nil, or_false] at hm
      rcases hm with rfl | rfl | rfl
      all_goals first | exact Tp.mkB_tab (Lw.x24 S0) | exact Tp.mkB_tab (Lw.x25 S0) | exact Tp.mkB_tab (Lw.x26 S0)
    have S := Tp.Hdp.of (P := PySem.Challenge.rw_turnpowers_k50_values_and_maps_refused.prog) (base := base) (ug := []) (tb := Lw.mkL.map fun m => (Tp.tabP K m.1, m.2)) (lt := Lw.lamTab.map Tp.LamRow.L) c KX G
    have e := hmg.symm.trans (S.hd.glo 101 "law" (by kernel_rfl))
    cases e
    exact Lw.f_law S ⟨rfl, rfl⟩ ⟨rfl, of_decide_eq_true (Lw.x27 S), TB⟩
end
